-- PRINTED by print.py (a twelfth state) out of the translation. Not trusted: Lean checks it.
import Derived.Test.YtgjcpocncpeibaaS0
import Derived.Test.YtgjcpocncpeibaaS1
import Derived.Test.YtgjcpocncpeibaaS2
import Derived.Test.YtgjcpocncpeibaaS4
import Derived.Test.YtgjcpocncpeibaaHgone
import Derived.Test.YtgjcpocncpeibaaHspeeds
namespace Go.Proofs.Ytgjcpocncpeibaa.S
open Go.RowKit Go.Proofs.YtgjcpocncpeibaaW.PrintWords Go.Proofs.YtgjcpocncpeibaaW.PrintLast Go.Proofs.YtgjcpocncpeibaaW.PrintMore
attribute [local go_sem] Go.Proofs.YtgjcpocncpeibaaW.PrintXtra.isSome_setCell max2_int min2_int max_two min_two max_three min_three max_four min_four   -- for this text's walks alone
set_option linter.unusedVariables false
set_option linter.unusedSimpArgs false

/-! ### tipstafflaw08_ProfileShapes: function 5 -/
mutual
def tipstafflaw08_ProfileShapes.j0 : Nat → Int → Int → List Int → Bool → Option (Bool)
  | 0, _, _, _, _ => none
  | k + 1, x5, x6, x7, x69 => if x69 = true then (some false) else (tipstafflaw08_ProfileShapes.l0 k x5 x6 x7 0 0 0)
def tipstafflaw08_ProfileShapes.l0 : Nat → Int → Int → List Int → Int → Int → Int → Option (Bool)
  | 0, _, _, _, _, _, _ => none
  | k + 1, x5, x6, x7, x14, x15, x16 => if x16 < (x7.length : Int) then (if 0 ≤ x16 then (if (rd x7 x16) < 1 then (some false) else (if (rd x7 x16) > x5 then (some false) else (if (rd x7 x16) > (wrap64 (x15 + 1)) then (some false) else (if (rd x7 x16) < (wrap64 (x15 - 1)) then (some false) else (tipstafflaw08_ProfileShapes.l0 k x5 x6 x7 (wrap64 (x14 + (rd x7 x16))) (rd x7 x16) (wrap64 (x16 + 1))))))) else (none)) else (if x14 = x6 then (if x15 ≤ 1 then ((tipstafflaw08_awake.f k).bind fun t159 => (some t159)) else (some false)) else (some false))
end
def tipstafflaw08_ProfileShapes.f (k : Nat) (a0 : Int) (a1 : Int) : Option (Bool) := (tipstaffkit_Mod.f a1 20).bind fun t142 => ((tipstaffkit_Mod.f a0 (mn 3000 (wrap64 (900 * (wrap64 (1 + t142)))))).bind fun t143 => ((profile_Speeds.f k t143 (wrap64 (1 + t142))).bind fun bt144 => ((profile_Travel.f k t143 (wrap64 (1 + t142))).bind fun bt148 => ((profile_Gone.f k t143 (wrap64 (1 + t142)) bt148.1).bind fun bt150 => (if bt144.2 = 0 then (if bt148.2 = 0 then (if bt150.2.2 = 0 then (if (bt144.1.length : Int) = bt148.1 then (if bt150.1 = t143 then (tipstafflaw08_ProfileShapes.j0 k (wrap64 (1 + t142)) t143 bt144.1 (bt150.2.1 != 0)) else (tipstafflaw08_ProfileShapes.j0 k (wrap64 (1 + t142)) t143 bt144.1 true)) else (tipstafflaw08_ProfileShapes.j0 k (wrap64 (1 + t142)) t143 bt144.1 true)) else (tipstafflaw08_ProfileShapes.j0 k (wrap64 (1 + t142)) t143 bt144.1 true)) else (tipstafflaw08_ProfileShapes.j0 k (wrap64 (1 + t142)) t143 bt144.1 true)) else (tipstafflaw08_ProfileShapes.j0 k (wrap64 (1 + t142)) t143 bt144.1 true))))))
theorem tipstafflaw08_ProfileShapes.mono_l : ∀ k, (∀ y0 y1 y2 y3, LeO (tipstafflaw08_ProfileShapes.j0 k y0 y1 y2 y3) (tipstafflaw08_ProfileShapes.j0 (k + 1) y0 y1 y2 y3)) ∧ (∀ y0 y1 y2 y3 y4 y5, LeO (tipstafflaw08_ProfileShapes.l0 k y0 y1 y2 y3 y4 y5) (tipstafflaw08_ProfileShapes.l0 (k + 1) y0 y1 y2 y3 y4 y5))
  | 0 => ⟨fun _ _ _ _ r h => by simp [tipstafflaw08_ProfileShapes.j0] at h, fun _ _ _ _ _ _ r h => by simp [tipstafflaw08_ProfileShapes.l0] at h⟩
  | k + 1 => by
    obtain ⟨ih0, ih1⟩ := tipstafflaw08_ProfileShapes.mono_l k
    refine ⟨?_, ?_⟩
    · intro y0 y1 y2 y3
      unfold tipstafflaw08_ProfileShapes.j0
      repeat' first
      | (with_reducible exact ih0 _ _ _ _)
      | (with_reducible exact ih1 _ _ _ _ _ _)
      | (with_reducible exact profile_Gone.mono _ _ _ _)
      | (with_reducible exact profile_Speeds.mono _ _ _)
      | (with_reducible exact profile_Travel.mono _ _ _)
      | (with_reducible exact tipstafflaw08_awake.mono _)
      | (with_reducible exact LeO.refl _)
      | (with_reducible exact LeO.none _)
      | (with_reducible refine LeO.ite ?_ ?_)
      | (with_reducible refine LeO.bind ?_ (fun _ => ?_))
      | exact ih0 _ _ _ _
      | exact ih1 _ _ _ _ _ _
      | exact profile_Gone.mono _ _ _ _
      | exact profile_Speeds.mono _ _ _
      | exact profile_Travel.mono _ _ _
      | exact tipstafflaw08_awake.mono _
      | exact LeO.none _
      | refine LeO.ite ?_ ?_
      | refine LeO.bind ?_ (fun _ => ?_)
    · intro y0 y1 y2 y3 y4 y5
      unfold tipstafflaw08_ProfileShapes.l0
      repeat' first
      | (with_reducible exact ih0 _ _ _ _)
      | (with_reducible exact ih1 _ _ _ _ _ _)
      | (with_reducible exact profile_Gone.mono _ _ _ _)
      | (with_reducible exact profile_Speeds.mono _ _ _)
      | (with_reducible exact profile_Travel.mono _ _ _)
      | (with_reducible exact tipstafflaw08_awake.mono _)
      | (with_reducible exact LeO.refl _)
      | (with_reducible exact LeO.none _)
      | (with_reducible refine LeO.ite ?_ ?_)
      | (with_reducible refine LeO.bind ?_ (fun _ => ?_))
      | exact ih0 _ _ _ _
      | exact ih1 _ _ _ _ _ _
      | exact profile_Gone.mono _ _ _ _
      | exact profile_Speeds.mono _ _ _
      | exact profile_Travel.mono _ _ _
      | exact tipstafflaw08_awake.mono _
      | exact LeO.none _
      | refine LeO.ite ?_ ?_
      | refine LeO.bind ?_ (fun _ => ?_)
theorem tipstafflaw08_ProfileShapes.mono : ∀ a0 a1 k, LeO (tipstafflaw08_ProfileShapes.f k a0 a1) (tipstafflaw08_ProfileShapes.f (k + 1) a0 a1) := by
  intro a0 a1 k
  obtain ⟨ih0, ih1⟩ := tipstafflaw08_ProfileShapes.mono_l k
  unfold tipstafflaw08_ProfileShapes.f
  repeat' first
      | (with_reducible exact ih0 _ _ _ _)
      | (with_reducible exact ih1 _ _ _ _ _ _)
      | (with_reducible exact profile_Gone.mono _ _ _ _)
      | (with_reducible exact profile_Speeds.mono _ _ _)
      | (with_reducible exact profile_Travel.mono _ _ _)
      | (with_reducible exact tipstafflaw08_awake.mono _)
      | (with_reducible exact LeO.refl _)
      | (with_reducible exact LeO.none _)
      | (with_reducible refine LeO.ite ?_ ?_)
      | (with_reducible refine LeO.bind ?_ (fun _ => ?_))
      | exact ih0 _ _ _ _
      | exact ih1 _ _ _ _ _ _
      | exact profile_Gone.mono _ _ _ _
      | exact profile_Speeds.mono _ _ _
      | exact profile_Travel.mono _ _ _
      | exact tipstafflaw08_awake.mono _
      | exact LeO.none _
      | refine LeO.ite ?_ ?_
      | refine LeO.bind ?_ (fun _ => ?_)
set_option maxHeartbeats 8000000 in
set_option maxRecDepth 100000 in
theorem tipstafflaw08_ProfileShapes.calls (k : Nat) (a0 : Int) (a1 : Int) (r : Bool) (w : World) (h : tipstafflaw08_ProfileShapes.f k a0 a1 = some r) :
    Calls Try.prog 5 #[.int .i64 a0, .int .i64 a1] w fun e w' => e = .returned (.bool r) ∧ Below w.heap.size w w' := by
  have HB := Aside0.mk (Below.refl w.heap.size w)
  have H : ((tipstaffkit_Mod.f a1 20).bind fun t142 => ((tipstaffkit_Mod.f a0 (mn 3000 (wrap64 (900 * (wrap64 (1 + t142)))))).bind fun t143 => ((profile_Speeds.f k t143 (wrap64 (1 + t142))).bind fun bt144 => ((profile_Travel.f k t143 (wrap64 (1 + t142))).bind fun bt148 => ((profile_Gone.f k t143 (wrap64 (1 + t142)) bt148.1).bind fun bt150 => (if bt144.2 = 0 then (if bt148.2 = 0 then (if bt150.2.2 = 0 then (if (bt144.1.length : Int) = bt148.1 then (if bt150.1 = t143 then (tipstafflaw08_ProfileShapes.j0 k (wrap64 (1 + t142)) t143 bt144.1 (bt150.2.1 != 0)) else (tipstafflaw08_ProfileShapes.j0 k (wrap64 (1 + t142)) t143 bt144.1 true)) else (tipstafflaw08_ProfileShapes.j0 k (wrap64 (1 + t142)) t143 bt144.1 true)) else (tipstafflaw08_ProfileShapes.j0 k (wrap64 (1 + t142)) t143 bt144.1 true)) else (tipstafflaw08_ProfileShapes.j0 k (wrap64 (1 + t142)) t143 bt144.1 true)) else (tipstafflaw08_ProfileShapes.j0 k (wrap64 (1 + t142)) t143 bt144.1 true))))))) = some r := h
  clear h
  replace H := Option.bind_eq_some_iff.mp H
  obtain ⟨t142, A30, H⟩ := H
  replace H : ((tipstaffkit_Mod.f a0 (mn 3000 (wrap64 (900 * (wrap64 (1 + t142)))))).bind fun t143 => ((profile_Speeds.f k t143 (wrap64 (1 + t142))).bind fun bt144 => ((profile_Travel.f k t143 (wrap64 (1 + t142))).bind fun bt148 => ((profile_Gone.f k t143 (wrap64 (1 + t142)) bt148.1).bind fun bt150 => (if bt144.2 = 0 then (if bt148.2 = 0 then (if bt150.2.2 = 0 then (if (bt144.1.length : Int) = bt148.1 then (if bt150.1 = t143 then (tipstafflaw08_ProfileShapes.j0 k (wrap64 (1 + t142)) t143 bt144.1 (bt150.2.1 != 0)) else (tipstafflaw08_ProfileShapes.j0 k (wrap64 (1 + t142)) t143 bt144.1 true)) else (tipstafflaw08_ProfileShapes.j0 k (wrap64 (1 + t142)) t143 bt144.1 true)) else (tipstafflaw08_ProfileShapes.j0 k (wrap64 (1 + t142)) t143 bt144.1 true)) else (tipstafflaw08_ProfileShapes.j0 k (wrap64 (1 + t142)) t143 bt144.1 true)) else (tipstafflaw08_ProfileShapes.j0 k (wrap64 (1 + t142)) t143 bt144.1 true)))))) = some r := H
  have A3 := Aside0.mk A30
  clear A30
  obtain ⟨ji4, hji4⟩ : ∃ j_ : Int, (mn 3000 (wrap64 (900 * (wrap64 (1 + t142))))) = j_ := ⟨_, rfl⟩
  replace H : ((tipstaffkit_Mod.f a0 (ji4)).bind fun t143 => ((profile_Speeds.f k t143 (wrap64 (1 + t142))).bind fun bt144 => ((profile_Travel.f k t143 (wrap64 (1 + t142))).bind fun bt148 => ((profile_Gone.f k t143 (wrap64 (1 + t142)) bt148.1).bind fun bt150 => (if bt144.2 = 0 then (if bt148.2 = 0 then (if bt150.2.2 = 0 then (if (bt144.1.length : Int) = bt148.1 then (if bt150.1 = t143 then (tipstafflaw08_ProfileShapes.j0 k (wrap64 (1 + t142)) t143 bt144.1 (bt150.2.1 != 0)) else (tipstafflaw08_ProfileShapes.j0 k (wrap64 (1 + t142)) t143 bt144.1 true)) else (tipstafflaw08_ProfileShapes.j0 k (wrap64 (1 + t142)) t143 bt144.1 true)) else (tipstafflaw08_ProfileShapes.j0 k (wrap64 (1 + t142)) t143 bt144.1 true)) else (tipstafflaw08_ProfileShapes.j0 k (wrap64 (1 + t142)) t143 bt144.1 true)) else (tipstafflaw08_ProfileShapes.j0 k (wrap64 (1 + t142)) t143 bt144.1 true)))))) = some r := by first | (rw [hji4] at H; exact H) | (simp only [hji4] at H ⊢; exact H)
  (try rw [hji4] at A3)
  (try (have hji4h : ji4 ≤ 3000 := by (rw [← hji4]; unfold mn; (repeat' split) <;> omega)))
  (try (have hji4g : ji4 ≤ 64 := by omega))
  have hji4_ : (if (wrap64 (900 * (wrap64 (1 + t142)))) < 3000 then (wrap64 (900 * (wrap64 (1 + t142)))) else 3000) = ji4 := hji4
  replace H := Option.bind_eq_some_iff.mp H
  obtain ⟨t143, A50, H⟩ := H
  replace H : ((profile_Speeds.f k t143 (wrap64 (1 + t142))).bind fun bt144 => ((profile_Travel.f k t143 (wrap64 (1 + t142))).bind fun bt148 => ((profile_Gone.f k t143 (wrap64 (1 + t142)) bt148.1).bind fun bt150 => (if bt144.2 = 0 then (if bt148.2 = 0 then (if bt150.2.2 = 0 then (if (bt144.1.length : Int) = bt148.1 then (if bt150.1 = t143 then (tipstafflaw08_ProfileShapes.j0 k (wrap64 (1 + t142)) t143 bt144.1 (bt150.2.1 != 0)) else (tipstafflaw08_ProfileShapes.j0 k (wrap64 (1 + t142)) t143 bt144.1 true)) else (tipstafflaw08_ProfileShapes.j0 k (wrap64 (1 + t142)) t143 bt144.1 true)) else (tipstafflaw08_ProfileShapes.j0 k (wrap64 (1 + t142)) t143 bt144.1 true)) else (tipstafflaw08_ProfileShapes.j0 k (wrap64 (1 + t142)) t143 bt144.1 true)) else (tipstafflaw08_ProfileShapes.j0 k (wrap64 (1 + t142)) t143 bt144.1 true))))) = some r := H
  have A5 := Aside0.mk A50
  clear A50
  replace H := Option.bind_eq_some_iff.mp H
  obtain ⟨⟨t144, t145⟩, A60, H⟩ := H
  replace H : ((profile_Travel.f k t143 (wrap64 (1 + t142))).bind fun bt148 => ((profile_Gone.f k t143 (wrap64 (1 + t142)) bt148.1).bind fun bt150 => (if t145 = 0 then (if bt148.2 = 0 then (if bt150.2.2 = 0 then (if (t144.length : Int) = bt148.1 then (if bt150.1 = t143 then (tipstafflaw08_ProfileShapes.j0 k (wrap64 (1 + t142)) t143 t144 (bt150.2.1 != 0)) else (tipstafflaw08_ProfileShapes.j0 k (wrap64 (1 + t142)) t143 t144 true)) else (tipstafflaw08_ProfileShapes.j0 k (wrap64 (1 + t142)) t143 t144 true)) else (tipstafflaw08_ProfileShapes.j0 k (wrap64 (1 + t142)) t143 t144 true)) else (tipstafflaw08_ProfileShapes.j0 k (wrap64 (1 + t142)) t143 t144 true)) else (tipstafflaw08_ProfileShapes.j0 k (wrap64 (1 + t142)) t143 t144 true)))) = some r := H
  have A6 := Aside0.mk A60
  clear A60
  replace H := Option.bind_eq_some_iff.mp H
  obtain ⟨⟨t148, t149⟩, A70, H⟩ := H
  replace H : ((profile_Gone.f k t143 (wrap64 (1 + t142)) t148).bind fun bt150 => (if t145 = 0 then (if t149 = 0 then (if bt150.2.2 = 0 then (if (t144.length : Int) = t148 then (if bt150.1 = t143 then (tipstafflaw08_ProfileShapes.j0 k (wrap64 (1 + t142)) t143 t144 (bt150.2.1 != 0)) else (tipstafflaw08_ProfileShapes.j0 k (wrap64 (1 + t142)) t143 t144 true)) else (tipstafflaw08_ProfileShapes.j0 k (wrap64 (1 + t142)) t143 t144 true)) else (tipstafflaw08_ProfileShapes.j0 k (wrap64 (1 + t142)) t143 t144 true)) else (tipstafflaw08_ProfileShapes.j0 k (wrap64 (1 + t142)) t143 t144 true)) else (tipstafflaw08_ProfileShapes.j0 k (wrap64 (1 + t142)) t143 t144 true))) = some r := H
  have A7 := Aside0.mk A70
  clear A70
  replace H := Option.bind_eq_some_iff.mp H
  obtain ⟨⟨t150, t151, t152⟩, A80, H⟩ := H
  replace H : (if t145 = 0 then (if t149 = 0 then (if t152 = 0 then (if (t144.length : Int) = t148 then (if t150 = t143 then (tipstafflaw08_ProfileShapes.j0 k (wrap64 (1 + t142)) t143 t144 (t151 != 0)) else (tipstafflaw08_ProfileShapes.j0 k (wrap64 (1 + t142)) t143 t144 true)) else (tipstafflaw08_ProfileShapes.j0 k (wrap64 (1 + t142)) t143 t144 true)) else (tipstafflaw08_ProfileShapes.j0 k (wrap64 (1 + t142)) t143 t144 true)) else (tipstafflaw08_ProfileShapes.j0 k (wrap64 (1 + t142)) t143 t144 true)) else (tipstafflaw08_ProfileShapes.j0 k (wrap64 (1 + t142)) t143 t144 true)) = some r := H
  have A8 := Aside0.mk A80
  clear A80
  have HC9 := Aside0.mk H
  clear H
  go_enter Try.func5, Try.ntmps5
  go_upto_region 6 with (first | ((with_reducible refine gate_callee (f := 10) rfl ?_); refine goesL_ (some 18) rfl rfl Try.func10 (by kernel_rfl) rfl #[.int .i64 a1, .int .i64 20] rfl (by (try simp only [List.map_toArray, List.map_cons, List.map_nil]); first | done | rfl | (simp only [List.length_drop, List.length_take]; rfl)) ?_; (with_reducible refine (tipstaffkit_Mod.calls a1 20 t142 _ A3.out).mono ?_); rintro e w' ⟨rfl, ⟨nd, rfl⟩⟩; refine ⟨_, rfl, ?_⟩) | ((with_reducible refine gate_callee (f := 10) rfl ?_); refine goesL_ (some 24) rfl rfl Try.func10 (by kernel_rfl) rfl #[.int .i64 a0, .int .i64 ji4] rfl (by (try simp only [List.map_toArray, List.map_cons, List.map_nil]); first | done | (simp only [hji4]; rfl) | rfl | (simp only [List.length_drop, List.length_take]; rfl)) ?_; (with_reducible refine (tipstaffkit_Mod.calls a0 ji4 t143 _ A5.out).mono ?_); rintro e w' ⟨rfl, ⟨nd, rfl⟩⟩; refine ⟨_, rfl, ?_⟩) | ((with_reducible refine gate_callee (f := 17) rfl ?_); refine goesL_ (some 28) rfl rfl Try.func17 (by kernel_rfl) rfl #[.int .i64 t143, .int .i64 (wrap64 (1 + t142))] rfl (by (try simp only [List.map_toArray, List.map_cons, List.map_nil]); first | done | rfl | (simp only [List.length_drop, List.length_take]; rfl)) ?_; (with_reducible refine (profile_Speeds.calls k t143 (wrap64 (1 + t142)) t144 t145 _ A6.out).mono ?_); rintro e w10 ⟨v146, rfl, ho0, hb⟩; refine ⟨_, rfl, ?_⟩; have n0_ := Aside0.mk (Kd.R_lower ho0 (below_size (by repeat (first | (with_reducible first | exact HB.out | apply below_alloc | apply pw_below_drewN | apply below_drew1) | exact HB.out)))); have n1_ := Aside0.mk (below_step (by repeat (first | (with_reducible first | exact HB.out | apply below_alloc | apply pw_below_drewN | apply below_drew1) | exact HB.out)) hb); clear HB; have HO147 := n0_; have HB := n1_; clear n0_ n1_; (try clear hb); (try clear hb2); (try clear hk); (try clear hi); (try clear ho0)) | ((with_reducible refine gate_callee (f := 11) rfl ?_); refine goesL_ (some 34) rfl rfl Try.func11 (by kernel_rfl) rfl #[.int .i64 t143, .int .i64 (wrap64 (1 + t142))] rfl (by (try simp only [List.map_toArray, List.map_cons, List.map_nil]); first | done | rfl | (simp only [List.length_drop, List.length_take]; rfl)) ?_; (with_reducible refine (profile_Travel.calls k t143 (wrap64 (1 + t142)) t148 t149 _ A7.out).mono ?_); rintro e w11 ⟨rfl, hb⟩; refine ⟨_, rfl, ?_⟩; have n0_ := Aside0.mk (Kd.R_below (by (with_reducible repeat (first | apply Kd.R_alloc | apply Kd.R_drewN | apply Kd.R_drew)); exact HO147.out) hb); have n1_ := Aside0.mk (below_step (by repeat (first | (with_reducible first | exact HB.out | apply below_alloc | apply pw_below_drewN | apply below_drew1) | exact HB.out)) hb); clear HO147; clear HB; have HO147 := n0_; have HB := n1_; clear n0_ n1_; (try clear hb); (try clear hb2); (try clear hk); (try clear hi)) | ((with_reducible refine gate_callee (f := 18) rfl ?_); refine goesL_ (some 41) rfl rfl Try.func18 (by kernel_rfl) rfl #[.int .i64 t143, .int .i64 (wrap64 (1 + t142)), .int .i64 t148] rfl (by (try simp only [List.map_toArray, List.map_cons, List.map_nil]); first | done | rfl | (simp only [List.length_drop, List.length_take]; rfl)) ?_; (with_reducible refine (profile_Gone.calls k t143 (wrap64 (1 + t142)) t148 t150 t151 t152 _ A8.out).mono ?_); rintro e w12 ⟨rfl, hb⟩; refine ⟨_, rfl, ?_⟩; have n0_ := Aside0.mk (Kd.R_below (by (with_reducible repeat (first | apply Kd.R_alloc | apply Kd.R_drewN | apply Kd.R_drew)); exact HO147.out) hb); have n1_ := Aside0.mk (below_step (by repeat (first | (with_reducible first | exact HB.out | apply below_alloc | apply pw_below_drewN | apply below_drew1) | exact HB.out)) hb); clear HO147; clear HB; have HO147 := n0_; have HB := n1_; clear n0_ n1_; (try clear hb); (try clear hb2); (try clear hk); (try clear hi)))
  (try simp only [Act.put, List.setIfInBounds_toArray, List.set_cons_zero, List.set_cons_succ])
  go_cut [69] (fun v69 wc => ∃ (kq : Nat) (x69_8 : Bool), v69 = .bool x69_8 ∧ Aside0 (tipstafflaw08_ProfileShapes.j0 kq (wrap64 (1 + t142)) t143 t144 x69_8 = some r) ∧ Aside0 (kq ≤ k) ∧ Aside0 (Kd.R (Kd.int .i64) 3 wc w.heap.size (fun _ => True) v146 t144) ∧ Aside0 (Below w.heap.size w wc))
  case first =>
    have H := HC9.out
    clear HC9
    by_cases c13 : t145 = 0
    · rw [if_pos c13] at H
      have c13b0 : (t145 == 0) = true := beq_iff_eq.mpr c13
      have c13b1 : (t145 != 0) = false := bne_eq_false_iff_eq.mpr c13
      clear c13
      (first | rw [c13b0] | (simp only [i64_w, i32_w]; rw [c13b0]) | skip)
      by_cases c14 : t149 = 0
      · rw [if_pos c14] at H
        have c14b0 : (t149 == 0) = true := beq_iff_eq.mpr c14
        have c14b1 : (t149 != 0) = false := bne_eq_false_iff_eq.mpr c14
        clear c14
        by_cases c15 : t152 = 0
        · rw [if_pos c15] at H
          have c15b0 : (t152 == 0) = true := beq_iff_eq.mpr c15
          have c15b1 : (t152 != 0) = false := bne_eq_false_iff_eq.mpr c15
          clear c15
          by_cases c16 : (t144.length : Int) = t148
          · rw [if_pos c16] at H
            have c16b0 : ((t144.length : Int) == t148) = true := beq_iff_eq.mpr c16
            have c16b1 : ((t144.length : Int) != t148) = false := bne_eq_false_iff_eq.mpr c16
            clear c16
            by_cases c17 : t150 = t143
            · rw [if_pos c17] at H
              have c17b0 : (t150 == t143) = true := beq_iff_eq.mpr c17
              have c17b1 : (t150 != t143) = false := bne_eq_false_iff_eq.mpr c17
              clear c17
              have H' := Aside0.mk H
              clear H
              obtain ⟨Ao18, co18, eo18⟩ := Kd.R_slice HO147.out
              subst eo18
              go_wp2
              go_meet
              case rel => exact ⟨_, ((t151 != 0)), (by first | rfl | (simp; done) | (simp [*]; done)), H', ⟨by first | omega | exact Nat.le_refl _⟩, ⟨by (with_reducible repeat (first | apply Kd.R_alloc | apply Kd.R_drewN | apply Kd.R_drew)); exact HO147.out⟩, ⟨by repeat (first | (with_reducible first | exact HB.out | apply below_alloc | apply pw_below_drewN | apply below_drew1) | exact HB.out)⟩⟩
            · rw [if_neg c17] at H
              have c17b0 : (t150 == t143) = false := beq_eq_false_iff_ne.mpr c17
              have c17b1 : (t150 != t143) = true := bne_iff_ne.mpr c17
              have H' := Aside0.mk H
              clear H
              obtain ⟨Ao19, co19, eo19⟩ := Kd.R_slice HO147.out
              subst eo19
              go_wp2
              go_meet
              case rel => exact ⟨_, (true), (by first | rfl | (simp; done) | (simp [*]; done)), H', ⟨by first | omega | exact Nat.le_refl _⟩, ⟨by (with_reducible repeat (first | apply Kd.R_alloc | apply Kd.R_drewN | apply Kd.R_drew)); exact HO147.out⟩, ⟨by repeat (first | (with_reducible first | exact HB.out | apply below_alloc | apply pw_below_drewN | apply below_drew1) | exact HB.out)⟩⟩
          · rw [if_neg c16] at H
            have c16b0 : ((t144.length : Int) == t148) = false := beq_eq_false_iff_ne.mpr c16
            have c16b1 : ((t144.length : Int) != t148) = true := bne_iff_ne.mpr c16
            have H' := Aside0.mk H
            clear H
            obtain ⟨Ao20, co20, eo20⟩ := Kd.R_slice HO147.out
            subst eo20
            go_wp2
            go_meet
            case rel => exact ⟨_, (true), (by first | rfl | (simp; done) | (simp [*]; done)), H', ⟨by first | omega | exact Nat.le_refl _⟩, ⟨by (with_reducible repeat (first | apply Kd.R_alloc | apply Kd.R_drewN | apply Kd.R_drew)); exact HO147.out⟩, ⟨by repeat (first | (with_reducible first | exact HB.out | apply below_alloc | apply pw_below_drewN | apply below_drew1) | exact HB.out)⟩⟩
        · rw [if_neg c15] at H
          have c15b0 : (t152 == 0) = false := beq_eq_false_iff_ne.mpr c15
          have c15b1 : (t152 != 0) = true := bne_iff_ne.mpr c15
          have H' := Aside0.mk H
          clear H
          go_wp2
          go_meet
          case rel => exact ⟨_, (true), (by first | rfl | (simp; done) | (simp [*]; done)), H', ⟨by first | omega | exact Nat.le_refl _⟩, ⟨by (with_reducible repeat (first | apply Kd.R_alloc | apply Kd.R_drewN | apply Kd.R_drew)); exact HO147.out⟩, ⟨by repeat (first | (with_reducible first | exact HB.out | apply below_alloc | apply pw_below_drewN | apply below_drew1) | exact HB.out)⟩⟩
      · rw [if_neg c14] at H
        have c14b0 : (t149 == 0) = false := beq_eq_false_iff_ne.mpr c14
        have c14b1 : (t149 != 0) = true := bne_iff_ne.mpr c14
        have H' := Aside0.mk H
        clear H
        go_wp2
        go_meet
        case rel => exact ⟨_, (true), (by first | rfl | (simp; done) | (simp [*]; done)), H', ⟨by first | omega | exact Nat.le_refl _⟩, ⟨by (with_reducible repeat (first | apply Kd.R_alloc | apply Kd.R_drewN | apply Kd.R_drew)); exact HO147.out⟩, ⟨by repeat (first | (with_reducible first | exact HB.out | apply below_alloc | apply pw_below_drewN | apply below_drew1) | exact HB.out)⟩⟩
    · rw [if_neg c13] at H
      have c13b0 : (t145 == 0) = false := beq_eq_false_iff_ne.mpr c13
      have c13b1 : (t145 != 0) = true := bne_iff_ne.mpr c13
      (first | rw [c13b0] | (simp only [i64_w, i32_w]; rw [c13b0]) | skip)
      have H' := Aside0.mk H
      clear H
      go_wp2
      go_meet
      case rel => exact ⟨_, (true), (by first | rfl | (simp; done) | (simp [*]; done)), H', ⟨by first | omega | exact Nat.le_refl _⟩, ⟨by (with_reducible repeat (first | apply Kd.R_alloc | apply Kd.R_drewN | apply Kd.R_drew)); exact HO147.out⟩, ⟨by repeat (first | (with_reducible first | exact HB.out | apply below_alloc | apply pw_below_drewN | apply below_drew1) | exact HB.out)⟩⟩
  case rest =>
    clear HC9
    try clear c1
    try clear p2
    try clear c5
    try clear p6
    try clear c10
    try clear c11
    try clear c13
    try clear c13b0
    try clear c13b1
    try clear c14
    try clear c14b0
    try clear c14b1
    try clear c15
    try clear c15b0
    try clear c15b1
    try clear c16
    try clear c16b0
    try clear c16b1
    try clear c17
    try clear c17b0
    try clear c17b1
    try clear c18
    obtain ⟨kq, x69_8, rfl, HA, HJ8, HO_7, HB⟩ := hcut
    cases kq with
    | zero => exact absurd HA.out (by simp [tipstafflaw08_ProfileShapes.j0])
    | succ kj8 =>
      have H := HA.out
      clear HA
      simp only [tipstafflaw08_ProfileShapes.j0] at H
      by_cases c21 : x69_8 = true
      · subst c21
        have H1 : (some false) = some r := by rw [if_pos rfl] at H; exact H
        clear H
        have H := H1
        clear H1
        obtain rfl := Option.some.inj H
        go_wp2
        go_ret
        exact ⟨by first | rfl | (simp [errW_none, errW_some] <;> rfl) | (simp only [← hji4]; first | rfl | (simp [errW_none, errW_some] <;> rfl)) | (simp [*, errW_none, errW_some] <;> rfl) | (simp (discharger := omega) only [Int.tdiv_eq_ediv_of_nonneg, Int.tmod_eq_emod_of_nonneg] <;> rfl), by repeat (first | (with_reducible first | exact HB.out | apply below_alloc | apply pw_below_drewN | apply below_drew1) | exact HB.out)⟩
      · replace c21 := Bool.eq_false_iff.mpr c21
        subst c21
        have H1 : (tipstafflaw08_ProfileShapes.l0 kj8 (wrap64 (1 + t142)) t143 t144 0 0 0) = some r := by rw [if_neg (show ¬ (false = true) by decide)] at H; exact H
        clear H
        have H := H1
        clear H1
        have H' := Aside0.mk H
        clear H
        go_wp2
        go_loopg [14, 15, 16] kj8 (fun kq v14 v15 v16 w' => ∃ (x14_2 : Int) (x15_2 : Int) (x16_2 : Int), v14 = .int .i64 x14_2 ∧ v15 = .int .i64 x15_2 ∧ v16 = .int .i64 x16_2 ∧ Aside0 (tipstafflaw08_ProfileShapes.l0 kq (wrap64 (1 + t142)) t143 t144 x14_2 x15_2 x16_2 = some r) ∧ Aside0 (kq ≤ kj8) ∧ Aside0 (Kd.R (Kd.int .i64) 3 w' w.heap.size (fun _ => True) v146 t144) ∧ Aside0 (Below w.heap.size w w'))
        case atStart => exact ⟨(0), (0), (0), (by first | rfl | (simp; done) | (simp [*]; done)), (by first | rfl | (simp; done) | (simp [*]; done)), (by first | rfl | (simp; done) | (simp [*]; done)), H', ⟨Nat.le_refl _⟩, ⟨by (with_reducible repeat (first | apply Kd.R_alloc | apply Kd.R_drewN | apply Kd.R_drew)); exact HO_7.out⟩, ⟨by repeat (first | (with_reducible first | exact HB.out | apply below_alloc | apply pw_below_drewN | apply below_drew1) | exact HB.out)⟩⟩
        case round =>
          clear H'
          try clear c1
          try clear c2
          try clear p2
          try clear c5
          try clear p6
          try clear c10
          try clear c11
          try clear c13
          try clear c13b0
          try clear c13b1
          try clear c14
          try clear c14b0
          try clear c14b1
          try clear c15
          try clear c15b0
          try clear c15b1
          try clear c16
          try clear c16b0
          try clear c16b1
          try clear c17
          try clear c17b0
          try clear c17b1
          try clear c18
          try clear c21
          try clear p2
          try clear p6
          obtain ⟨x14_2, x15_2, x16_2, rfl, rfl, rfl, HA, HK2, HO_7, HB⟩ := hrel
          cases gk with
          | zero => exact absurd HA.out (by simp [tipstafflaw08_ProfileShapes.l0])
          | succ k2 =>
            have H := HA.out
            clear HA
            simp only [tipstafflaw08_ProfileShapes.l0] at H
            by_cases c22 : x16_2 < (t144.length : Int)
            · rw [if_pos c22] at H
              have c22b0 : decide (x16_2 < (t144.length : Int)) = true := decide_eq_true c22
              clear c22
              by_cases c23 : 0 ≤ x16_2
              · rw [if_pos c23] at H
                have c23b0 : decide (0 ≤ x16_2) = true := decide_eq_true c23
                clear c23
                by_cases c24 : (rd t144 x16_2) < 1
                · rw [if_pos c24] at H
                  have c24b0 : decide ((rd t144 x16_2) < 1) = true := decide_eq_true c24
                  clear c24
                  obtain rfl := Option.some.inj H
                  obtain ⟨Ao25, co25, eo25⟩ := Kd.R_slice HO_7.out
                  subst eo25
                  have p153 : 0 ≤ (x16_2 : Int) := of_decide_eq_true (by first | (with_reducible assumption) | assumption)
                  have q153 : x16_2 < (t144.length : Int) := of_decide_eq_true (by first | (with_reducible assumption) | assumption)
                  obtain ⟨ad153, e153, hx153_0⟩ := Kd.at_int (Kd.R_reads' HO_7.out).2.2 x16_2 p153 q153
                  cases e153
                  replace p153 := eq_true p153
                  replace q153 := eq_true q153
                  go_wp2
                  go_ret
                  exact ⟨by first | rfl | (simp [errW_none, errW_some] <;> rfl) | (simp only [← hji4]; first | rfl | (simp [errW_none, errW_some] <;> rfl)) | (simp [*, errW_none, errW_some] <;> rfl) | (simp (discharger := omega) only [Int.tdiv_eq_ediv_of_nonneg, Int.tmod_eq_emod_of_nonneg] <;> rfl), by repeat (first | (with_reducible first | exact HB.out | apply below_alloc | apply pw_below_drewN | apply below_drew1) | exact HB.out)⟩
                · rw [if_neg c24] at H
                  have c24b0 : decide ((rd t144 x16_2) < 1) = false := decide_eq_false c24
                  clear c24
                  by_cases c26 : (rd t144 x16_2) > (wrap64 (1 + t142))
                  · rw [if_pos c26] at H
                    have c26b0 : decide ((wrap64 (1 + t142)) < (rd t144 x16_2)) = true := decide_eq_true c26
                    clear c26
                    obtain rfl := Option.some.inj H
                    obtain ⟨Ao27, co27, eo27⟩ := Kd.R_slice HO_7.out
                    subst eo27
                    have p153 : 0 ≤ (x16_2 : Int) := of_decide_eq_true (by first | (with_reducible assumption) | assumption)
                    have q153 : x16_2 < (t144.length : Int) := of_decide_eq_true (by first | (with_reducible assumption) | assumption)
                    obtain ⟨ad153, e153, hx153_0⟩ := Kd.at_int (Kd.R_reads' HO_7.out).2.2 x16_2 p153 q153
                    cases e153
                    replace p153 := eq_true p153
                    replace q153 := eq_true q153
                    have p154 : 0 ≤ (x16_2 : Int) := of_decide_eq_true (by first | (with_reducible assumption) | assumption)
                    have q154 : x16_2 < (t144.length : Int) := of_decide_eq_true (by first | (with_reducible assumption) | assumption)
                    obtain ⟨ad154, e154, hx154_0⟩ := Kd.at_int (Kd.R_reads' HO_7.out).2.2 x16_2 p154 q154
                    obtain rfl : ad153 = ad154 := (by injection e154)
                    replace p154 := eq_true p154
                    replace q154 := eq_true q154
                    go_wp2
                    go_ret
                    exact ⟨by first | rfl | (simp [errW_none, errW_some] <;> rfl) | (simp only [← hji4]; first | rfl | (simp [errW_none, errW_some] <;> rfl)) | (simp [*, errW_none, errW_some] <;> rfl) | (simp (discharger := omega) only [Int.tdiv_eq_ediv_of_nonneg, Int.tmod_eq_emod_of_nonneg] <;> rfl), by repeat (first | (with_reducible first | exact HB.out | apply below_alloc | apply pw_below_drewN | apply below_drew1) | exact HB.out)⟩
                  · rw [if_neg c26] at H
                    have c26b0 : decide ((wrap64 (1 + t142)) < (rd t144 x16_2)) = false := decide_eq_false c26
                    clear c26
                    by_cases c28 : (rd t144 x16_2) > (wrap64 (x15_2 + 1))
                    · rw [if_pos c28] at H
                      have c28b0 : decide ((wrap64 (x15_2 + 1)) < (rd t144 x16_2)) = true := decide_eq_true c28
                      clear c28
                      obtain rfl := Option.some.inj H
                      obtain ⟨Ao29, co29, eo29⟩ := Kd.R_slice HO_7.out
                      subst eo29
                      have p153 : 0 ≤ (x16_2 : Int) := of_decide_eq_true (by first | (with_reducible assumption) | assumption)
                      have q153 : x16_2 < (t144.length : Int) := of_decide_eq_true (by first | (with_reducible assumption) | assumption)
                      obtain ⟨ad153, e153, hx153_0⟩ := Kd.at_int (Kd.R_reads' HO_7.out).2.2 x16_2 p153 q153
                      cases e153
                      replace p153 := eq_true p153
                      replace q153 := eq_true q153
                      have p154 : 0 ≤ (x16_2 : Int) := of_decide_eq_true (by first | (with_reducible assumption) | assumption)
                      have q154 : x16_2 < (t144.length : Int) := of_decide_eq_true (by first | (with_reducible assumption) | assumption)
                      obtain ⟨ad154, e154, hx154_0⟩ := Kd.at_int (Kd.R_reads' HO_7.out).2.2 x16_2 p154 q154
                      obtain rfl : ad153 = ad154 := (by injection e154)
                      replace p154 := eq_true p154
                      replace q154 := eq_true q154
                      have p155 : 0 ≤ (x16_2 : Int) := of_decide_eq_true (by first | (with_reducible assumption) | assumption)
                      have q155 : x16_2 < (t144.length : Int) := of_decide_eq_true (by first | (with_reducible assumption) | assumption)
                      obtain ⟨ad155, e155, hx155_0⟩ := Kd.at_int (Kd.R_reads' HO_7.out).2.2 x16_2 p155 q155
                      obtain rfl : ad153 = ad155 := (by injection e155)
                      replace p155 := eq_true p155
                      replace q155 := eq_true q155
                      go_wp2
                      go_ret
                      exact ⟨by first | rfl | (simp [errW_none, errW_some] <;> rfl) | (simp only [← hji4]; first | rfl | (simp [errW_none, errW_some] <;> rfl)) | (simp [*, errW_none, errW_some] <;> rfl) | (simp (discharger := omega) only [Int.tdiv_eq_ediv_of_nonneg, Int.tmod_eq_emod_of_nonneg] <;> rfl), by repeat (first | (with_reducible first | exact HB.out | apply below_alloc | apply pw_below_drewN | apply below_drew1) | exact HB.out)⟩
                    · rw [if_neg c28] at H
                      have c28b0 : decide ((wrap64 (x15_2 + 1)) < (rd t144 x16_2)) = false := decide_eq_false c28
                      clear c28
                      by_cases c30 : (rd t144 x16_2) < (wrap64 (x15_2 - 1))
                      · rw [if_pos c30] at H
                        have c30b0 : decide ((rd t144 x16_2) < (wrap64 (x15_2 - 1))) = true := decide_eq_true c30
                        clear c30
                        obtain rfl := Option.some.inj H
                        obtain ⟨Ao31, co31, eo31⟩ := Kd.R_slice HO_7.out
                        subst eo31
                        have p153 : 0 ≤ (x16_2 : Int) := of_decide_eq_true (by first | (with_reducible assumption) | assumption)
                        have q153 : x16_2 < (t144.length : Int) := of_decide_eq_true (by first | (with_reducible assumption) | assumption)
                        obtain ⟨ad153, e153, hx153_0⟩ := Kd.at_int (Kd.R_reads' HO_7.out).2.2 x16_2 p153 q153
                        cases e153
                        replace p153 := eq_true p153
                        replace q153 := eq_true q153
                        have p154 : 0 ≤ (x16_2 : Int) := of_decide_eq_true (by first | (with_reducible assumption) | assumption)
                        have q154 : x16_2 < (t144.length : Int) := of_decide_eq_true (by first | (with_reducible assumption) | assumption)
                        obtain ⟨ad154, e154, hx154_0⟩ := Kd.at_int (Kd.R_reads' HO_7.out).2.2 x16_2 p154 q154
                        obtain rfl : ad153 = ad154 := (by injection e154)
                        replace p154 := eq_true p154
                        replace q154 := eq_true q154
                        have p155 : 0 ≤ (x16_2 : Int) := of_decide_eq_true (by first | (with_reducible assumption) | assumption)
                        have q155 : x16_2 < (t144.length : Int) := of_decide_eq_true (by first | (with_reducible assumption) | assumption)
                        obtain ⟨ad155, e155, hx155_0⟩ := Kd.at_int (Kd.R_reads' HO_7.out).2.2 x16_2 p155 q155
                        obtain rfl : ad153 = ad155 := (by injection e155)
                        replace p155 := eq_true p155
                        replace q155 := eq_true q155
                        have p156 : 0 ≤ (x16_2 : Int) := of_decide_eq_true (by first | (with_reducible assumption) | assumption)
                        have q156 : x16_2 < (t144.length : Int) := of_decide_eq_true (by first | (with_reducible assumption) | assumption)
                        obtain ⟨ad156, e156, hx156_0⟩ := Kd.at_int (Kd.R_reads' HO_7.out).2.2 x16_2 p156 q156
                        obtain rfl : ad153 = ad156 := (by injection e156)
                        replace p156 := eq_true p156
                        replace q156 := eq_true q156
                        go_wp2
                        go_ret
                        exact ⟨by first | rfl | (simp [errW_none, errW_some] <;> rfl) | (simp only [← hji4]; first | rfl | (simp [errW_none, errW_some] <;> rfl)) | (simp [*, errW_none, errW_some] <;> rfl) | (simp (discharger := omega) only [Int.tdiv_eq_ediv_of_nonneg, Int.tmod_eq_emod_of_nonneg] <;> rfl), by repeat (first | (with_reducible first | exact HB.out | apply below_alloc | apply pw_below_drewN | apply below_drew1) | exact HB.out)⟩
                      · rw [if_neg c30] at H
                        have c30b0 : decide ((rd t144 x16_2) < (wrap64 (x15_2 - 1))) = false := decide_eq_false c30
                        clear c30
                        have H' := Aside0.mk H
                        clear H
                        obtain ⟨Ao32, co32, eo32⟩ := Kd.R_slice HO_7.out
                        subst eo32
                        have p153 : 0 ≤ (x16_2 : Int) := of_decide_eq_true (by first | (with_reducible assumption) | assumption)
                        have q153 : x16_2 < (t144.length : Int) := of_decide_eq_true (by first | (with_reducible assumption) | assumption)
                        obtain ⟨ad153, e153, hx153_0⟩ := Kd.at_int (Kd.R_reads' HO_7.out).2.2 x16_2 p153 q153
                        cases e153
                        replace p153 := eq_true p153
                        replace q153 := eq_true q153
                        have p154 : 0 ≤ (x16_2 : Int) := of_decide_eq_true (by first | (with_reducible assumption) | assumption)
                        have q154 : x16_2 < (t144.length : Int) := of_decide_eq_true (by first | (with_reducible assumption) | assumption)
                        obtain ⟨ad154, e154, hx154_0⟩ := Kd.at_int (Kd.R_reads' HO_7.out).2.2 x16_2 p154 q154
                        obtain rfl : ad153 = ad154 := (by injection e154)
                        replace p154 := eq_true p154
                        replace q154 := eq_true q154
                        have p155 : 0 ≤ (x16_2 : Int) := of_decide_eq_true (by first | (with_reducible assumption) | assumption)
                        have q155 : x16_2 < (t144.length : Int) := of_decide_eq_true (by first | (with_reducible assumption) | assumption)
                        obtain ⟨ad155, e155, hx155_0⟩ := Kd.at_int (Kd.R_reads' HO_7.out).2.2 x16_2 p155 q155
                        obtain rfl : ad153 = ad155 := (by injection e155)
                        replace p155 := eq_true p155
                        replace q155 := eq_true q155
                        have p156 : 0 ≤ (x16_2 : Int) := of_decide_eq_true (by first | (with_reducible assumption) | assumption)
                        have q156 : x16_2 < (t144.length : Int) := of_decide_eq_true (by first | (with_reducible assumption) | assumption)
                        obtain ⟨ad156, e156, hx156_0⟩ := Kd.at_int (Kd.R_reads' HO_7.out).2.2 x16_2 p156 q156
                        obtain rfl : ad153 = ad156 := (by injection e156)
                        replace p156 := eq_true p156
                        replace q156 := eq_true q156
                        have p157 : 0 ≤ (x16_2 : Int) := of_decide_eq_true (by first | (with_reducible assumption) | assumption)
                        have q157 : x16_2 < (t144.length : Int) := of_decide_eq_true (by first | (with_reducible assumption) | assumption)
                        obtain ⟨ad157, e157, hx157_0⟩ := Kd.at_int (Kd.R_reads' HO_7.out).2.2 x16_2 p157 q157
                        obtain rfl : ad153 = ad157 := (by injection e157)
                        replace p157 := eq_true p157
                        replace q157 := eq_true q157
                        have p158 : 0 ≤ (x16_2 : Int) := of_decide_eq_true (by first | (with_reducible assumption) | assumption)
                        have q158 : x16_2 < (t144.length : Int) := of_decide_eq_true (by first | (with_reducible assumption) | assumption)
                        obtain ⟨ad158, e158, hx158_0⟩ := Kd.at_int (Kd.R_reads' HO_7.out).2.2 x16_2 p158 q158
                        obtain rfl : ad153 = ad158 := (by injection e158)
                        replace p158 := eq_true p158
                        replace q158 := eq_true q158
                        go_wp2
                        go_roundg k2
                        case measure => have := HJ8.out; have := HK2.out; omega
                        case rel => exact ⟨(wrap64 (x14_2 + (rd t144 x16_2))), (rd t144 x16_2), (wrap64 (x16_2 + 1)), (by first | rfl | (simp; done) | (simp [*]; done)), (by first | rfl | (simp; done) | (simp [*]; done)), (by first | rfl | (simp; done) | (simp [*]; done)), H', ⟨by have := HJ8.out; have := HK2.out; omega⟩, ⟨by (with_reducible repeat (first | apply Kd.R_alloc | apply Kd.R_drewN | apply Kd.R_drew)); exact HO_7.out⟩, ⟨by repeat (first | (with_reducible first | exact HB.out | apply below_alloc | apply pw_below_drewN | apply below_drew1) | exact HB.out)⟩⟩
              · rw [if_neg c23] at H
                exact absurd H (by simp)
            · rw [if_neg c22] at H
              have c22b0 : decide (x16_2 < (t144.length : Int)) = false := decide_eq_false c22
              clear c22
              by_cases c33 : x14_2 = t143
              · rw [if_pos c33] at H
                have c33b0 : (x14_2 == t143) = true := beq_iff_eq.mpr c33
                have c33b1 : (x14_2 != t143) = false := bne_eq_false_iff_eq.mpr c33
                clear c33
                by_cases c34 : x15_2 ≤ 1
                · rw [if_pos c34] at H
                  have c34b0 : decide (x15_2 ≤ 1) = true := decide_eq_true c34
                  clear c34
                  replace H := Option.bind_eq_some_iff.mp H
                  obtain ⟨t159, A350, H⟩ := H
                  replace H : (some t159) = some r := H
                  have A35 := Aside0.mk A350
                  clear A350
                  obtain rfl := Option.some.inj H
                  obtain ⟨Ao36, co36, eo36⟩ := Kd.R_slice HO_7.out
                  subst eo36
                  go_wp2_with (first | (go_at_call 12; (with_reducible refine (tipstafflaw08_awake.calls k2  t159 _ A35.out).mono ?_); rintro e w37 ⟨rfl, hb⟩; have n0_ := Aside0.mk (Kd.R_below (by (with_reducible repeat (first | apply Kd.R_alloc | apply Kd.R_drewN | apply Kd.R_drew)); exact HO_7.out) hb); have n1_ := Aside0.mk (below_step (by repeat (first | (with_reducible first | exact HB.out | apply below_alloc | apply pw_below_drewN | apply below_drew1) | exact HB.out)) hb); clear HO_7; clear HB; have HO_7 := n0_; have HB := n1_; clear n0_ n1_; (try clear hb); (try clear hb2); (try clear hk); (try clear hi)))
                  go_ret
                  exact ⟨by first | rfl | (simp [errW_none, errW_some] <;> rfl) | (simp only [← hji4]; first | rfl | (simp [errW_none, errW_some] <;> rfl)) | (simp [*, errW_none, errW_some] <;> rfl) | (simp (discharger := omega) only [Int.tdiv_eq_ediv_of_nonneg, Int.tmod_eq_emod_of_nonneg] <;> rfl), by repeat (first | (with_reducible first | exact HB.out | apply below_alloc | apply pw_below_drewN | apply below_drew1) | exact HB.out)⟩
                · rw [if_neg c34] at H
                  have c34b0 : decide (x15_2 ≤ 1) = false := decide_eq_false c34
                  clear c34
                  obtain rfl := Option.some.inj H
                  obtain ⟨Ao38, co38, eo38⟩ := Kd.R_slice HO_7.out
                  subst eo38
                  go_wp2
                  go_ret
                  exact ⟨by first | rfl | (simp [errW_none, errW_some] <;> rfl) | (simp only [← hji4]; first | rfl | (simp [errW_none, errW_some] <;> rfl)) | (simp [*, errW_none, errW_some] <;> rfl) | (simp (discharger := omega) only [Int.tdiv_eq_ediv_of_nonneg, Int.tmod_eq_emod_of_nonneg] <;> rfl), by repeat (first | (with_reducible first | exact HB.out | apply below_alloc | apply pw_below_drewN | apply below_drew1) | exact HB.out)⟩
              · rw [if_neg c33] at H
                have c33b0 : (x14_2 == t143) = false := beq_eq_false_iff_ne.mpr c33
                have c33b1 : (x14_2 != t143) = true := bne_iff_ne.mpr c33
                obtain rfl := Option.some.inj H
                obtain ⟨Ao39, co39, eo39⟩ := Kd.R_slice HO_7.out
                subst eo39
                go_wp2
                go_ret
                exact ⟨by first | rfl | (simp [errW_none, errW_some] <;> rfl) | (simp only [← hji4]; first | rfl | (simp [errW_none, errW_some] <;> rfl)) | (simp [*, errW_none, errW_some] <;> rfl) | (simp (discharger := omega) only [Int.tdiv_eq_ediv_of_nonneg, Int.tmod_eq_emod_of_nonneg] <;> rfl), by repeat (first | (with_reducible first | exact HB.out | apply below_alloc | apply pw_below_drewN | apply below_drew1) | exact HB.out)⟩

/-- THE ONE PURE STATEMENT of tipstafflaw08_ProfileShapes: yours. -/
def tipstafflaw08_ProfileShapes.Pure : Prop := ∀ (a0 : Int) (a1 : Int), (Lit.int .i64 a0).wf = true → (Lit.int .i64 a1).wf = true → ∃ k, tipstafflaw08_ProfileShapes.f k a0 a1 = some true
theorem tipstafflaw08_ProfileShapes.walk (P : tipstafflaw08_ProfileShapes.Pure) (a0 : Int) (a1 : Int) (w : World) (w0 : (Lit.int .i64 a0).wf = true) (w1 : (Lit.int .i64 a1).wf = true) :
    Calls Try.prog 5 #[.int .i64 a0, .int .i64 a1] w fun e w' => e = .returned (.bool true) ∧ Below w.heap.size w w' := by
  obtain ⟨k, h⟩ := P a0 a1 w0 w1
  refine (tipstafflaw08_ProfileShapes.calls k a0 a1 true w h).mono ?_
  rintro e w' ⟨rfl, hd⟩
  exact ⟨rfl, hd⟩

end Go.Proofs.Ytgjcpocncpeibaa.S
