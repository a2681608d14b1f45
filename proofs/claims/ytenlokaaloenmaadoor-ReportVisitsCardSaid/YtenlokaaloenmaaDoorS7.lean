-- PRINTED by print.py (a twelfth state) out of the translation. Not trusted: Lean checks it.
import Derived.Test.YtenlokaaloenmaaDoorS0
import Derived.Test.YtenlokaaloenmaaDoorS2
import Derived.Test.YtenlokaaloenmaaDoorS5
import Derived.Test.YtenlokaaloenmaaDoorHknown
namespace Go.Proofs.YtenlokaaloenmaaDoor.S
open Go.RowKit Go.Proofs.YtenlokaaloenmaaDoorW.PrintWords Go.Proofs.YtenlokaaloenmaaDoorW.PrintLast Go.Proofs.YtenlokaaloenmaaDoorW.PrintMore
attribute [local go_sem] Go.Proofs.YtenlokaaloenmaaDoorW.PrintXtra.isSome_setCell max2_int min2_int max_two min_two max_three min_three max_four min_four   -- for this text's walks alone
set_option linter.unusedVariables false
set_option linter.unusedSimpArgs false

/-! ### tipstafflaw43_ReportVisits: function 4 -/
mutual
def tipstafflaw43_ReportVisits.j0 : Nat → Int → Int → Bool → List (S41) → Int → Int → Bool → Option (Bool)
 | 0, _, _, _, _, _, _, _ => none
 | k + 1, x3, x4, x11, x12, x13, x14, x45 => if x45 = true then (if x11 = true then (some (x14 == 2)) else (none)) else (tipstafflaw43_ReportVisits.l0 k x3 x4 x11 x12 x13 x14 0 0)
def tipstafflaw43_ReportVisits.l0 : Nat → Int → Int → Bool → List (S41) → Int → Int → Int → Int → Option (Bool)
 | 0, _, _, _, _, _, _, _, _ => none
 | k + 1, x3, x4, x11, x12, x13, x14, x15, x16 => if x16 < (x12.length : Int) then (if 0 ≤ x16 then (if 0 ≤ (wrap64 (x3 - 1)) then (if (wrap64 (x3 - 1)) < (((rd_T41 x12 x16).f2).length : Int) then (if ((rd_T43 ((rd_T41 x12 x16).f2) (wrap64 (x3 - 1))).f0) = x4 then (if ((rd_T43 ((rd_T41 x12 x16).f2) (wrap64 (x3 - 1))).f1) = 2 then (tipstafflaw43_ReportVisits.l0 k x3 x4 x11 x12 x13 x14 (wrap64 (x15 + 1)) (wrap64 (x16 + 1))) else (tipstafflaw43_ReportVisits.l0 k x3 x4 x11 x12 x13 x14 x15 (wrap64 (x16 + 1)))) else (tipstafflaw43_ReportVisits.l0 k x3 x4 x11 x12 x13 x14 x15 (wrap64 (x16 + 1)))) else (none)) else (none)) else (none)) else (if x11 = true then (if x14 = 0 then (if x13 ≤ x15 then (some ((decide (x13 > 0)) == (decide (x15 > 0)))) else (none)) else (none)) else (none))
end
def tipstafflaw43_ReportVisits.f (k : Nat) (a0 : Int) (a1 : Int) (l2 : List Int) (a3 : Int) (a4 : Int) : Option (Bool) := (tipstafflaw43_ReportKnown.f).bind fun t176 => ((tipstafflaw43_made.f k a0 a1 l2).bind fun t177 => ((tipstaffkit_Mod.f a3 3).bind fun t180 => ((tipstaffkit_Mod.f a4 3).bind fun t181 => ((report_Visits.f k t177 (wrap64 (1 + t180)) t181 2).bind fun bt182 => (if (t177.length : Int) = 0 then (tipstafflaw43_ReportVisits.j0 k (wrap64 (1 + t180)) t181 t176 t177 bt182.1 bt182.2 true) else (if 0 < (t177.length : Int) then (tipstafflaw43_ReportVisits.j0 k (wrap64 (1 + t180)) t181 t176 t177 bt182.1 bt182.2 (decide ((wrap64 (1 + t180)) > (((rd_T41 t177 0).f2).length : Int)))) else (none)))))))
theorem tipstafflaw43_ReportVisits.mono_l : ∀ k, (∀ y0 y1 y2 y3 y4 y5 y6, LeO (tipstafflaw43_ReportVisits.j0 k y0 y1 y2 y3 y4 y5 y6) (tipstafflaw43_ReportVisits.j0 (k + 1) y0 y1 y2 y3 y4 y5 y6)) ∧ (∀ y0 y1 y2 y3 y4 y5 y6 y7, LeO (tipstafflaw43_ReportVisits.l0 k y0 y1 y2 y3 y4 y5 y6 y7) (tipstafflaw43_ReportVisits.l0 (k + 1) y0 y1 y2 y3 y4 y5 y6 y7))
 | 0 => ⟨fun _ _ _ _ _ _ _ r h => by simp [tipstafflaw43_ReportVisits.j0] at h, fun _ _ _ _ _ _ _ _ r h => by simp [tipstafflaw43_ReportVisits.l0] at h⟩
 | k + 1 => by
  obtain ⟨ih0, ih1⟩ := tipstafflaw43_ReportVisits.mono_l k
  refine ⟨?_, ?_⟩
  ·intro y0 y1 y2 y3 y4 y5 y6
   unfold tipstafflaw43_ReportVisits.j0
   repeat' first
   | (with_reducible exact ih0 _ _ _ _ _ _ _)
   | (with_reducible exact ih1 _ _ _ _ _ _ _ _)
   | (with_reducible exact report_Visits.mono _ _ _ _ _)
   | (with_reducible exact tipstafflaw43_made.mono _ _ _ _)
   | (with_reducible exact LeO.refl _)
   | (with_reducible exact LeO.none _)
   | (with_reducible refine LeO.ite ?_ ?_)
   | (with_reducible refine LeO.bind ?_ (fun _ => ?_))
   | exact ih0 _ _ _ _ _ _ _
   | exact ih1 _ _ _ _ _ _ _ _
   | exact report_Visits.mono _ _ _ _ _
   | exact tipstafflaw43_made.mono _ _ _ _
   | exact LeO.none _
   | refine LeO.ite ?_ ?_
   | refine LeO.bind ?_ (fun _ => ?_)
  ·intro y0 y1 y2 y3 y4 y5 y6 y7
   unfold tipstafflaw43_ReportVisits.l0
   repeat' first
   | (with_reducible exact ih0 _ _ _ _ _ _ _)
   | (with_reducible exact ih1 _ _ _ _ _ _ _ _)
   | (with_reducible exact report_Visits.mono _ _ _ _ _)
   | (with_reducible exact tipstafflaw43_made.mono _ _ _ _)
   | (with_reducible exact LeO.refl _)
   | (with_reducible exact LeO.none _)
   | (with_reducible refine LeO.ite ?_ ?_)
   | (with_reducible refine LeO.bind ?_ (fun _ => ?_))
   | exact ih0 _ _ _ _ _ _ _
   | exact ih1 _ _ _ _ _ _ _ _
   | exact report_Visits.mono _ _ _ _ _
   | exact tipstafflaw43_made.mono _ _ _ _
   | exact LeO.none _
   | refine LeO.ite ?_ ?_
   | refine LeO.bind ?_ (fun _ => ?_)
theorem tipstafflaw43_ReportVisits.mono : ∀ a0 a1 a2 a3 a4 k, LeO (tipstafflaw43_ReportVisits.f k a0 a1 a2 a3 a4) (tipstafflaw43_ReportVisits.f (k + 1) a0 a1 a2 a3 a4) := by
 intro a0 a1 a2 a3 a4 k
 obtain ⟨ih0, ih1⟩ := tipstafflaw43_ReportVisits.mono_l k
 unfold tipstafflaw43_ReportVisits.f
 repeat' first
   | (with_reducible exact ih0 _ _ _ _ _ _ _)
   | (with_reducible exact ih1 _ _ _ _ _ _ _ _)
   | (with_reducible exact report_Visits.mono _ _ _ _ _)
   | (with_reducible exact tipstafflaw43_made.mono _ _ _ _)
   | (with_reducible exact LeO.refl _)
   | (with_reducible exact LeO.none _)
   | (with_reducible refine LeO.ite ?_ ?_)
   | (with_reducible refine LeO.bind ?_ (fun _ => ?_))
   | exact ih0 _ _ _ _ _ _ _
   | exact ih1 _ _ _ _ _ _ _ _
   | exact report_Visits.mono _ _ _ _ _
   | exact tipstafflaw43_made.mono _ _ _ _
   | exact LeO.none _
   | refine LeO.ite ?_ ?_
   | refine LeO.bind ?_ (fun _ => ?_)
set_option maxHeartbeats 8000000 in
set_option maxRecDepth 100000 in
theorem tipstafflaw43_ReportVisits.calls (k : Nat) (a0 : Int) (a1 : Int) (A2 : Option Addr) (c2 : Nat) (l2 : List Int) (a3 : Int) (a4 : Int) (r : Bool) (w : World) (HL_ : LaidAt w) (hr2 : Kd.C (Kd.int .i64) w A2 l2.length l2) (hc2 : l2.length ≤ c2) (h : tipstafflaw43_ReportVisits.f k a0 a1 l2 a3 a4 = some r) :
  Calls Tryd.prog 4 #[.int .i64 a0, .int .i64 a1, .slice A2 l2.length c2, .int .i64 a3, .int .i64 a4] w fun e w' => e = .returned (.bool r) ∧ Below w.heap.size w w' := by
 have HR2 := Aside0.mk hr2
 have HC2 := Aside0.mk hc2
 clear hr2 hc2
 have HB := Aside0.mk (Below.refl w.heap.size w)
 have H : ((tipstafflaw43_ReportKnown.f).bind fun t176 => ((tipstafflaw43_made.f k a0 a1 l2).bind fun t177 => ((tipstaffkit_Mod.f a3 3).bind fun t180 => ((tipstaffkit_Mod.f a4 3).bind fun t181 => ((report_Visits.f k t177 (wrap64 (1 + t180)) t181 2).bind fun bt182 => (if (t177.length : Int) = 0 then (tipstafflaw43_ReportVisits.j0 k (wrap64 (1 + t180)) t181 t176 t177 bt182.1 bt182.2 true) else (if 0 < (t177.length : Int) then (tipstafflaw43_ReportVisits.j0 k (wrap64 (1 + t180)) t181 t176 t177 bt182.1 bt182.2 (decide ((wrap64 (1 + t180)) > (((rd_T41 t177 0).f2).length : Int)))) else (none)))))))) = some r := h
 clear h
 replace H := Option.bind_eq_some_iff.mp H
 obtain ⟨t176, A60, H⟩ := H
 replace H : ((tipstafflaw43_made.f k a0 a1 l2).bind fun t177 => ((tipstaffkit_Mod.f a3 3).bind fun t180 => ((tipstaffkit_Mod.f a4 3).bind fun t181 => ((report_Visits.f k t177 (wrap64 (1 + t180)) t181 2).bind fun bt182 => (if (t177.length : Int) = 0 then (tipstafflaw43_ReportVisits.j0 k (wrap64 (1 + t180)) t181 t176 t177 bt182.1 bt182.2 true) else (if 0 < (t177.length : Int) then (tipstafflaw43_ReportVisits.j0 k (wrap64 (1 + t180)) t181 t176 t177 bt182.1 bt182.2 (decide ((wrap64 (1 + t180)) > (((rd_T41 t177 0).f2).length : Int)))) else (none))))))) = some r := H
 have A6 := Aside0.mk A60
 clear A60
 replace H := Option.bind_eq_some_iff.mp H
 obtain ⟨t177, A70, H⟩ := H
 replace H : ((tipstaffkit_Mod.f a3 3).bind fun t180 => ((tipstaffkit_Mod.f a4 3).bind fun t181 => ((report_Visits.f k t177 (wrap64 (1 + t180)) t181 2).bind fun bt182 => (if (t177.length : Int) = 0 then (tipstafflaw43_ReportVisits.j0 k (wrap64 (1 + t180)) t181 t176 t177 bt182.1 bt182.2 true) else (if 0 < (t177.length : Int) then (tipstafflaw43_ReportVisits.j0 k (wrap64 (1 + t180)) t181 t176 t177 bt182.1 bt182.2 (decide ((wrap64 (1 + t180)) > (((rd_T41 t177 0).f2).length : Int)))) else (none)))))) = some r := H
 have A7 := Aside0.mk A70
 clear A70
 replace H := Option.bind_eq_some_iff.mp H
 obtain ⟨t180, A80, H⟩ := H
 replace H : ((tipstaffkit_Mod.f a4 3).bind fun t181 => ((report_Visits.f k t177 (wrap64 (1 + t180)) t181 2).bind fun bt182 => (if (t177.length : Int) = 0 then (tipstafflaw43_ReportVisits.j0 k (wrap64 (1 + t180)) t181 t176 t177 bt182.1 bt182.2 true) else (if 0 < (t177.length : Int) then (tipstafflaw43_ReportVisits.j0 k (wrap64 (1 + t180)) t181 t176 t177 bt182.1 bt182.2 (decide ((wrap64 (1 + t180)) > (((rd_T41 t177 0).f2).length : Int)))) else (none))))) = some r := H
 have A8 := Aside0.mk A80
 clear A80
 replace H := Option.bind_eq_some_iff.mp H
 obtain ⟨t181, A90, H⟩ := H
 replace H : ((report_Visits.f k t177 (wrap64 (1 + t180)) t181 2).bind fun bt182 => (if (t177.length : Int) = 0 then (tipstafflaw43_ReportVisits.j0 k (wrap64 (1 + t180)) t181 t176 t177 bt182.1 bt182.2 true) else (if 0 < (t177.length : Int) then (tipstafflaw43_ReportVisits.j0 k (wrap64 (1 + t180)) t181 t176 t177 bt182.1 bt182.2 (decide ((wrap64 (1 + t180)) > (((rd_T41 t177 0).f2).length : Int)))) else (none)))) = some r := H
 have A9 := Aside0.mk A90
 clear A90
 replace H := Option.bind_eq_some_iff.mp H
 obtain ⟨⟨t182, t183⟩, A100, H⟩ := H
 replace H : (if (t177.length : Int) = 0 then (tipstafflaw43_ReportVisits.j0 k (wrap64 (1 + t180)) t181 t176 t177 t182 t183 true) else (if 0 < (t177.length : Int) then (tipstafflaw43_ReportVisits.j0 k (wrap64 (1 + t180)) t181 t176 t177 t182 t183 (decide ((wrap64 (1 + t180)) > (((rd_T41 t177 0).f2).length : Int)))) else (none))) = some r := H
 have A10 := Aside0.mk A100
 clear A100
 have HC11 := Aside0.mk H
 clear H
 go_enter Tryd.func4, Tryd.ntmps4
 go_upto_region 5 with (first | ((with_reducible refine gate_callee (f := 7) rfl ?_); refine goesL_ (some 17) rfl rfl Tryd.func7 (by kernel_rfl) rfl #[] rfl (by (try simp only [List.map_toArray, List.map_cons, List.map_nil]); first | done | rfl | (simp only [List.length_drop, List.length_take]; rfl)) ?_; (with_reducible refine (tipstafflaw43_ReportKnown.calls  t176 _ (by first | with_reducible exact HL_ | ((repeat with_reducible apply LaidAt.drewN); with_reducible exact HL_) | exact LaidAt.below HL_ (by repeat (first | (with_reducible first | exact HB.out | apply below_alloc | apply pw_below_drewN | apply below_drew1) | exact HB.out))) A6.out).mono ?_); rintro e w12 ⟨rfl, hb⟩; refine ⟨_, rfl, ?_⟩; have n0_ := Aside0.mk (below_step (by repeat (first | (with_reducible first | exact HB.out | apply below_alloc | apply pw_below_drewN | apply below_drew1) | exact HB.out)) hb); clear HB; have HB := n0_; clear n0_; (try clear hb); (try clear hb2); (try clear hk); (try clear hi)) | ((with_reducible refine gate_callee (f := 9) rfl ?_); refine goesL_ (some 21) rfl rfl Tryd.func9 (by kernel_rfl) rfl #[.int .i64 a0, .int .i64 a1, .slice A2 l2.length c2] rfl (by (try simp only [List.map_toArray, List.map_cons, List.map_nil]); first | done | rfl | (simp only [List.length_drop, List.length_take]; rfl)) ?_; (with_reducible refine (tipstafflaw43_made.calls k a0 a1 _ _ l2 t177 _ ?side1 ?side2 A7.out).mono ?_); (case side1 => repeat (first | exact (Kd.C_below HR2.out HB.out) | (with_reducible refine Kd.C_alloc ?_ _) | (with_reducible refine Kd.C_drewN ?_ _) | (with_reducible refine Kd.C_drew ?_))); (case side2 => exact HC2.out); rintro e w13 ⟨v178, rfl, ho0, hb⟩; refine ⟨_, rfl, ?_⟩; have n0_ := Aside0.mk (Kd.S_lower ho0 (below_size (by repeat (first | (with_reducible first | exact HB.out | apply below_alloc | apply pw_below_drewN | apply below_drew1) | exact HB.out)))); have n1_ := Aside0.mk (below_step (by repeat (first | (with_reducible first | exact HB.out | apply below_alloc | apply pw_below_drewN | apply below_drew1) | exact HB.out)) hb); clear HB; have HO179 := n0_; have HB := n1_; clear n0_ n1_; (try clear hb); (try clear hb2); (try clear hk); (try clear hi); (try clear ho0)) | ((with_reducible refine gate_callee (f := 10) rfl ?_); refine goesL_ (some 23) rfl rfl Tryd.func10 (by kernel_rfl) rfl #[.int .i64 a3, .int .i64 3] rfl (by (try simp only [List.map_toArray, List.map_cons, List.map_nil]); first | done | rfl | (simp only [List.length_drop, List.length_take]; rfl)) ?_; (with_reducible refine (tipstaffkit_Mod.calls a3 3 t180 _ A8.out).mono ?_); rintro e w' ⟨rfl, ⟨nd, rfl⟩⟩; refine ⟨_, rfl, ?_⟩) | ((with_reducible refine gate_callee (f := 10) rfl ?_); refine goesL_ (some 26) rfl rfl Tryd.func10 (by kernel_rfl) rfl #[.int .i64 a4, .int .i64 3] rfl (by (try simp only [List.map_toArray, List.map_cons, List.map_nil]); first | done | rfl | (simp only [List.length_drop, List.length_take]; rfl)) ?_; (with_reducible refine (tipstaffkit_Mod.calls a4 3 t181 _ A9.out).mono ?_); rintro e w' ⟨rfl, ⟨nd, rfl⟩⟩; refine ⟨_, rfl, ?_⟩; obtain ⟨Ao14, co14, eo14⟩ := Kd.S_slice HO179.out; subst eo14) | ((with_reducible refine gate_callee (f := 13) rfl ?_); refine goesL_ (some 31) rfl rfl Tryd.func13 (by kernel_rfl) rfl #[.slice Ao14 t177.length co14, .int .i64 (wrap64 (1 + t180)), .int .i64 t181, .int .i64 2] rfl (by (try simp only [List.map_toArray, List.map_cons, List.map_nil]); first | done | rfl | (simp only [List.length_drop, List.length_take]; rfl)) ?_; (with_reducible refine (report_Visits.calls k _ _ t177 (wrap64 (1 + t180)) t181 2 t182 t183 _ ?side1 ?side2 A10.out).mono ?_); (case side1 => repeat (first | exact (Kd.S_reads' HO179.out).2.2 | (with_reducible refine Kd.C_alloc ?_ _) | (with_reducible refine Kd.C_drewN ?_ _) | (with_reducible refine Kd.C_drew ?_))); (case side2 => exact (Kd.S_reads' HO179.out).2.1); rintro e w15 ⟨rfl, hb⟩; refine ⟨_, rfl, ?_⟩; have n0_ := Aside0.mk (Kd.S_below (by (with_reducible repeat (first | apply Kd.S_alloc | apply Kd.S_drewN | apply Kd.S_drew)); exact HO179.out) hb); have n1_ := Aside0.mk (below_step (by repeat (first | (with_reducible first | exact HB.out | apply below_alloc | apply pw_below_drewN | apply below_drew1) | exact HB.out)) hb); clear HO179; clear HB; have HO179 := n0_; have HB := n1_; clear n0_ n1_; (try clear hb); (try clear hb2); (try clear hk); (try clear hi)))
 (try simp only [Act.put, List.setIfInBounds_toArray, List.set_cons_zero, List.set_cons_succ])
 go_cut [45] (fun v45 wc => ∃ (kq : Nat) (x45_10 : Bool), v45 = .bool x45_10 ∧ Aside0 (tipstafflaw43_ReportVisits.j0 kq (wrap64 (1 + t180)) t181 t176 t177 t182 t183 x45_10 = some r) ∧ Aside0 (kq ≤ k) ∧ Aside0 (Kd.S k41 41 wc w.heap.size (fun _ => True) (.slice Ao14 t177.length co14) t177) ∧ Aside0 (Below w.heap.size w wc))
 case first =>
  have H := HC11.out
  clear HC11
  by_cases c16 : (t177.length : Int) = 0
  ·rw [if_pos c16] at H
   have c16b0 : ((t177.length : Int) == 0) = true := beq_iff_eq.mpr c16
   have c16b1 : ((t177.length : Int) != 0) = false := bne_eq_false_iff_eq.mpr c16
   clear c16
   (first | rw [c16b0] | (simp only [i64_w, i32_w]; rw [c16b0]) | skip)
   have H' := Aside0.mk H
   clear H
   go_wp2
   go_meet
   case rel => exact ⟨_, (true), (by first | rfl | (simp; done) | (simp [*]; done)), H', ⟨by first | omega | exact Nat.le_refl _⟩, ⟨by (with_reducible repeat (first | apply Kd.S_alloc | apply Kd.S_drewN | apply Kd.S_drew)); exact HO179.out⟩, ⟨by repeat (first | (with_reducible first | exact HB.out | apply below_alloc | apply pw_below_drewN | apply below_drew1) | exact HB.out)⟩⟩
  ·rw [if_neg c16] at H
   have c16b0 : ((t177.length : Int) == 0) = false := beq_eq_false_iff_ne.mpr c16
   have c16b1 : ((t177.length : Int) != 0) = true := bne_iff_ne.mpr c16
   have c16b2 : ¬ (t177 = []) := fun h_ => c16 (by rw [h_]; rfl)
   (first | rw [c16b0] | (simp only [i64_w, i32_w]; rw [c16b0]) | skip)
   by_cases c17 : 0 < (t177.length : Int)
   ·rw [if_pos c17] at H
    have c17b0 : decide (0 < (t177.length : Int)) = true := decide_eq_true c17
    have c17b1 : decide (0 < t177.length) = true := decide_eq_true (by omega)
    clear c17
    have H' := Aside0.mk H
    clear H
    have p184 : 0 ≤ (0 : Int) := (by omega)
    have q184 : 0 < (t177.length : Int) := of_decide_eq_true (by first | (with_reducible assumption) | assumption)
    obtain ⟨ad184, A184_1, c184_1, A184_2, c184_2, e184, hx184_0, hx184_1, hx184_2, hx184_3, hx184_4, hx184_5, hl184_1, hi184_1, hl184_2, hi184_2⟩ := at_T41 (Kd.S_reads' HO179.out).2.2 0 p184 q184
    cases e184
    obtain ⟨ce184, hce184, hMe184, hcc184⟩ := Kd.S_get HO179.out z41 0 p184 (by first | exact q184 | exact of_decide_eq_true (by first | (with_reducible assumption) | assumption) | (have e_ := (Kd.S_reads' HO179.out).1; omega))
    obtain ⟨ve184_1, ve184_2, rfl, ge184_1, ge184_2⟩ := k41_openM hMe184
    have hv184_1 := hcc184 1 _ rfl
    rw [add_field _ _ 1 (by omega)] at hv184_1
    replace hv184_1 := Option.some.inj (hv184_1.symm.trans hx184_1)
    rw [hv184_1] at ge184_1
    have HL184_1 := Aside0.mk (show Kd.R k66 66 _ _ _ _ ((rd_T41 t177 0).f1) from ge184_1)
    clear hv184_1 ge184_1
    have hv184_2 := hcc184 2 _ rfl
    rw [add_field _ _ 2 (by omega)] at hv184_2
    replace hv184_2 := Option.some.inj (hv184_2.symm.trans hx184_2)
    rw [hv184_2] at ge184_2
    have HL184_2 := Aside0.mk (show Kd.R k43 43 _ _ _ _ ((rd_T41 t177 0).f2) from ge184_2)
    clear hv184_2 ge184_2
    clear hcc184 hce184
    have qi184 : (0 < t177.length) = True := eq_true (by omega)
    (try rw [show ((0 : Int)).toNat = 0 from rfl] at hx184_0)
    (try rw [show 0 * 6 = 0 from rfl] at hx184_0)
    (try rw [Addr.add_zero'] at hx184_0)
    (try rw [show ((0 : Int)).toNat = 0 from rfl] at hx184_1)
    (try rw [show 0 * 6 = 0 from rfl] at hx184_1)
    (try rw [Addr.add_zero'] at hx184_1)
    (try rw [show ((0 : Int)).toNat = 0 from rfl] at hx184_2)
    (try rw [show 0 * 6 = 0 from rfl] at hx184_2)
    (try rw [Addr.add_zero'] at hx184_2)
    (try rw [show ((0 : Int)).toNat = 0 from rfl] at hx184_3)
    (try rw [show 0 * 6 = 0 from rfl] at hx184_3)
    (try rw [Addr.add_zero'] at hx184_3)
    (try rw [show ((0 : Int)).toNat = 0 from rfl] at hx184_4)
    (try rw [show 0 * 6 = 0 from rfl] at hx184_4)
    (try rw [Addr.add_zero'] at hx184_4)
    (try rw [show ((0 : Int)).toNat = 0 from rfl] at hx184_5)
    (try rw [show 0 * 6 = 0 from rfl] at hx184_5)
    (try rw [Addr.add_zero'] at hx184_5)
    have HR184_1 := Aside0.mk hi184_1
    have HC184_1 := Aside0.mk hl184_1
    clear hi184_1 hl184_1
    have HR184_2 := Aside0.mk hi184_2
    have HC184_2 := Aside0.mk hl184_2
    clear hi184_2 hl184_2
    replace p184 := eq_true p184
    replace q184 := eq_true q184
    go_wp2
    go_meet
    case rel => exact ⟨_, (decide ((wrap64 (1 + t180)) > (((rd_T41 t177 0).f2).length : Int))), (by first | rfl | (simp; done) | (simp [*]; done)), H', ⟨by first | omega | exact Nat.le_refl _⟩, ⟨by (with_reducible repeat (first | apply Kd.S_alloc | apply Kd.S_drewN | apply Kd.S_drew)); exact HO179.out⟩, ⟨by repeat (first | (with_reducible first | exact HB.out | apply below_alloc | apply pw_below_drewN | apply below_drew1) | exact HB.out)⟩⟩
   ·rw [if_neg c17] at H
    exact absurd H (by simp)
 case rest =>
  clear HC11
  try clear c1
  try clear p1
  try clear q1
  try clear hx1
  try clear qi1
  try clear c2
  try clear p2
  try clear c4
  try clear p6
  try clear c7
  try clear c9
  try clear c10
  try clear c13
  try clear c16
  try clear c16b0
  try clear c16b1
  try clear c16b2
  try clear c17
  try clear c17b0
  try clear c17b1
  try clear hx184_0
  try clear hx184_1
  try clear hx184_2
  try clear hx184_3
  try clear hx184_4
  try clear hx184_5
  try clear p184
  try clear q184
  obtain ⟨kq, x45_10, rfl, HA, HJ10, HO_12, HB⟩ := hcut
  cases kq with
  | zero => exact absurd HA.out (by simp [tipstafflaw43_ReportVisits.j0])
  | succ kj10 =>
   have H := HA.out
   clear HA
   simp only [tipstafflaw43_ReportVisits.j0] at H
   by_cases c18 : x45_10 = true
   ·subst c18
    have H1 : (if t176 = true then (some (t183 == 2)) else (none)) = some r := by rw [if_pos rfl] at H; exact H
    clear H
    have H := H1
    clear H1
    by_cases c19 : t176 = true
    ·subst c19
     have H1 : (some (t183 == 2)) = some r := by rw [if_pos rfl] at H; exact H
     clear H
     have H := H1
     clear H1
     obtain rfl := Option.some.inj H
     go_wp2
     go_ret
     exact ⟨by first | rfl | (simp [errW_none, errW_some] <;> rfl) | (simp [*, errW_none, errW_some] <;> rfl) | (simp (discharger := omega) only [Int.tdiv_eq_ediv_of_nonneg, Int.tmod_eq_emod_of_nonneg] <;> rfl), by repeat (first | (with_reducible first | exact HB.out | apply below_alloc | apply pw_below_drewN | apply below_drew1) | exact HB.out)⟩
    ·replace c19 := Bool.eq_false_iff.mpr c19
     subst c19
     have H1 : (none) = some r := by rw [if_neg (show ¬ (false = true) by decide)] at H; exact H
     clear H
     have H := H1
     clear H1
     exact absurd H (by simp)
   ·replace c18 := Bool.eq_false_iff.mpr c18
    subst c18
    have H1 : (tipstafflaw43_ReportVisits.l0 kj10 (wrap64 (1 + t180)) t181 t176 t177 t182 t183 0 0) = some r := by rw [if_neg (show ¬ (false = true) by decide)] at H; exact H
    clear H
    have H := H1
    clear H1
    have H' := Aside0.mk H
    clear H
    go_wp2
    go_loopg [15, 16] kj10 (fun kq v15 v16 w' => ∃ (x15_2 : Int) (x16_2 : Int), v15 = .int .i64 x15_2 ∧ v16 = .int .i64 x16_2 ∧ Aside0 (tipstafflaw43_ReportVisits.l0 kq (wrap64 (1 + t180)) t181 t176 t177 t182 t183 x15_2 x16_2 = some r) ∧ Aside0 (kq ≤ kj10) ∧ Aside0 (Kd.S k41 41 w' w.heap.size (fun _ => True) (.slice Ao14 t177.length co14) t177) ∧ Aside0 (Below w.heap.size w w'))
    case atStart => exact ⟨(0), (0), (by first | rfl | (simp; done) | (simp [*]; done)), (by first | rfl | (simp; done) | (simp [*]; done)), H', ⟨Nat.le_refl _⟩, ⟨by (with_reducible repeat (first | apply Kd.S_alloc | apply Kd.S_drewN | apply Kd.S_drew)); exact HO_12.out⟩, ⟨by repeat (first | (with_reducible first | exact HB.out | apply below_alloc | apply pw_below_drewN | apply below_drew1) | exact HB.out)⟩⟩
    case round =>
     clear H'
     try clear c1
     try clear p1
     try clear q1
     try clear hx1
     try clear qi1
     try clear c2
     try clear p2
     try clear c4
     try clear p6
     try clear c7
     try clear c9
     try clear c10
     try clear c13
     try clear c16
     try clear c16b0
     try clear c16b1
     try clear c16b2
     try clear c17
     try clear c17b0
     try clear c17b1
     try clear c18
     try clear p18
     try clear q18
     try clear hx18
     try clear qi18
     try clear c19
     try clear hx184_0
     try clear hx184_1
     try clear hx184_2
     try clear hx184_3
     try clear hx184_4
     try clear hx184_5
     try clear p1
     try clear p184
     try clear p2
     try clear p6
     try clear q1
     try clear q184
     obtain ⟨x15_2, x16_2, rfl, rfl, HA, HK2, HO_12, HB⟩ := hrel
     cases gk with
     | zero => exact absurd HA.out (by simp [tipstafflaw43_ReportVisits.l0])
     | succ k2 =>
      have H := HA.out
      clear HA
      simp only [tipstafflaw43_ReportVisits.l0] at H
      by_cases c20 : x16_2 < (t177.length : Int)
      ·rw [if_pos c20] at H
       have c20b0 : decide (x16_2 < (t177.length : Int)) = true := decide_eq_true c20
       clear c20
       by_cases c21 : 0 ≤ x16_2
       ·rw [if_pos c21] at H
        have c21b0 : decide (0 ≤ x16_2) = true := decide_eq_true c21
        clear c21
        obtain ⟨ji22, hji22⟩ : ∃ j_ : Int, (wrap64 ((wrap64 (1 + t180)) - 1)) = j_ := ⟨_, rfl⟩
        replace H : (if 0 ≤ (ji22) then (if (ji22) < (((rd_T41 t177 x16_2).f2).length : Int) then (if ((rd_T43 ((rd_T41 t177 x16_2).f2) (ji22)).f0) = t181 then (if ((rd_T43 ((rd_T41 t177 x16_2).f2) (ji22)).f1) = 2 then (tipstafflaw43_ReportVisits.l0 k2 (wrap64 (1 + t180)) t181 t176 t177 t182 t183 (wrap64 (x15_2 + 1)) (wrap64 (x16_2 + 1))) else (tipstafflaw43_ReportVisits.l0 k2 (wrap64 (1 + t180)) t181 t176 t177 t182 t183 x15_2 (wrap64 (x16_2 + 1)))) else (tipstafflaw43_ReportVisits.l0 k2 (wrap64 (1 + t180)) t181 t176 t177 t182 t183 x15_2 (wrap64 (x16_2 + 1)))) else (none)) else (none)) = some r := by first | (rw [hji22] at H; exact H) | (simp only [hji22] at H ⊢; exact H)
        have hji22w : (IntKind.i64.wrap ((wrap64 (1 + t180)) - 1)) = ji22 := (i64_w _).trans hji22
        by_cases c23 : 0 ≤ (ji22)
        ·rw [if_pos c23] at H
         have c23b0 : decide (0 ≤ (ji22)) = true := decide_eq_true c23
         clear c23
         by_cases c24 : (ji22) < (((rd_T41 t177 x16_2).f2).length : Int)
         ·rw [if_pos c24] at H
          have c24b0 : decide ((ji22) < (((rd_T41 t177 x16_2).f2).length : Int)) = true := decide_eq_true c24
          clear c24
          by_cases c25 : ((rd_T43 ((rd_T41 t177 x16_2).f2) (ji22)).f0) = t181
          ·rw [if_pos c25] at H
           have c25b0 : (((rd_T43 ((rd_T41 t177 x16_2).f2) (ji22)).f0) == t181) = true := beq_iff_eq.mpr c25
           have c25b1 : (((rd_T43 ((rd_T41 t177 x16_2).f2) (ji22)).f0) != t181) = false := bne_eq_false_iff_eq.mpr c25
           clear c25
           by_cases c26 : ((rd_T43 ((rd_T41 t177 x16_2).f2) (ji22)).f1) = 2
           ·rw [if_pos c26] at H
            have c26b0 : (((rd_T43 ((rd_T41 t177 x16_2).f2) (ji22)).f1) == 2) = true := beq_iff_eq.mpr c26
            have c26b1 : (((rd_T43 ((rd_T41 t177 x16_2).f2) (ji22)).f1) != 2) = false := bne_eq_false_iff_eq.mpr c26
            clear c26
            have H' := Aside0.mk H
            clear H
            have p185 : 0 ≤ (x16_2 : Int) := of_decide_eq_true (by first | (with_reducible assumption) | assumption)
            have q185 : x16_2 < (t177.length : Int) := of_decide_eq_true (by first | (with_reducible assumption) | assumption)
            obtain ⟨ad185, A185_1, c185_1, A185_2, c185_2, e185, hx185_0, hx185_1, hx185_2, hx185_3, hx185_4, hx185_5, hl185_1, hi185_1, hl185_2, hi185_2⟩ := at_T41 (Kd.S_reads' HO_12.out).2.2 x16_2 p185 q185
            cases e185
            obtain ⟨ce185, hce185, hMe185, hcc185⟩ := Kd.S_get HO_12.out z41 x16_2 p185 (by first | exact q185 | exact of_decide_eq_true (by first | (with_reducible assumption) | assumption) | (have e_ := (Kd.S_reads' HO_12.out).1; omega))
            obtain ⟨ve185_1, ve185_2, rfl, ge185_1, ge185_2⟩ := k41_openM hMe185
            have hv185_1 := hcc185 1 _ rfl
            rw [add_field _ _ 1 (by omega)] at hv185_1
            replace hv185_1 := Option.some.inj (hv185_1.symm.trans hx185_1)
            rw [hv185_1] at ge185_1
            have HL185_1 := Aside0.mk (show Kd.R k66 66 _ _ _ _ ((rd_T41 t177 x16_2).f1) from ge185_1)
            clear hv185_1 ge185_1
            have hv185_2 := hcc185 2 _ rfl
            rw [add_field _ _ 2 (by omega)] at hv185_2
            replace hv185_2 := Option.some.inj (hv185_2.symm.trans hx185_2)
            rw [hv185_2] at ge185_2
            have HL185_2 := Aside0.mk (show Kd.R k43 43 _ _ _ _ ((rd_T41 t177 x16_2).f2) from ge185_2)
            clear hv185_2 ge185_2
            clear hcc185 hce185
            have HR185_1 := Aside0.mk hi185_1
            have HC185_1 := Aside0.mk hl185_1
            clear hi185_1 hl185_1
            have HR185_2 := Aside0.mk hi185_2
            have HC185_2 := Aside0.mk hl185_2
            clear hi185_2 hl185_2
            replace p185 := eq_true p185
            replace q185 := eq_true q185
            have p186 : 0 ≤ ((ji22) : Int) := of_decide_eq_true (by first | (with_reducible assumption) | assumption)
            have q186 : (ji22) < (((rd_T41 t177 x16_2).f2).length : Int) := of_decide_eq_true (by first | (with_reducible assumption) | assumption)
            obtain ⟨ad186, e186, hx186_0, hx186_1, hx186_2⟩ := at_T43 (by repeat (first | (with_reducible exact HR185_2.out) | (with_reducible refine Kd.C_alloc ?_ _) | (with_reducible refine Kd.C_drewN ?_ _) | (with_reducible refine Kd.C_drew ?_) | exact HR185_2.out)) (ji22) p186 q186
            cases e186
            replace p186 := eq_true p186
            replace q186 := eq_true q186
            have p187 : 0 ≤ (x16_2 : Int) := of_decide_eq_true (by first | (with_reducible assumption) | assumption)
            have q187 : x16_2 < (t177.length : Int) := of_decide_eq_true (by first | (with_reducible assumption) | assumption)
            obtain ⟨ad187, A187_1, c187_1, A187_2, c187_2, e187, hx187_0, hx187_1, hx187_2, hx187_3, hx187_4, hx187_5, hl187_1, hi187_1, hl187_2, hi187_2⟩ := at_T41 (Kd.S_reads' HO_12.out).2.2 x16_2 p187 q187
            obtain rfl : ad185 = ad187 := (by injection e187)
            obtain ⟨ce187, hce187, hMe187, hcc187⟩ := Kd.S_get HO_12.out z41 x16_2 p187 (by first | exact q187 | exact of_decide_eq_true (by first | (with_reducible assumption) | assumption) | (have e_ := (Kd.S_reads' HO_12.out).1; omega))
            obtain ⟨ve187_1, ve187_2, rfl, ge187_1, ge187_2⟩ := k41_openM hMe187
            have hv187_1 := hcc187 1 _ rfl
            rw [add_field _ _ 1 (by omega)] at hv187_1
            replace hv187_1 := Option.some.inj (hv187_1.symm.trans hx187_1)
            rw [hv187_1] at ge187_1
            have HL187_1 := Aside0.mk (show Kd.R k66 66 _ _ _ _ ((rd_T41 t177 x16_2).f1) from ge187_1)
            clear hv187_1 ge187_1
            have hv187_2 := hcc187 2 _ rfl
            rw [add_field _ _ 2 (by omega)] at hv187_2
            replace hv187_2 := Option.some.inj (hv187_2.symm.trans hx187_2)
            rw [hv187_2] at ge187_2
            have HL187_2 := Aside0.mk (show Kd.R k43 43 _ _ _ _ ((rd_T41 t177 x16_2).f2) from ge187_2)
            clear hv187_2 ge187_2
            clear hcc187 hce187
            have HR187_1 := Aside0.mk hi187_1
            have HC187_1 := Aside0.mk hl187_1
            clear hi187_1 hl187_1
            have HR187_2 := Aside0.mk hi187_2
            have HC187_2 := Aside0.mk hl187_2
            clear hi187_2 hl187_2
            replace p187 := eq_true p187
            replace q187 := eq_true q187
            have ea_ := Option.some.inj (hx185_1.symm.trans hx187_1)
            injection ea_ with ea_ en_ ec_
            subst ea_
            subst ec_
            clear en_
            have ea_ := Option.some.inj (hx185_2.symm.trans hx187_2)
            injection ea_ with ea_ en_ ec_
            subst ea_
            subst ec_
            clear en_
            have p188 : 0 ≤ ((ji22) : Int) := of_decide_eq_true (by first | (with_reducible assumption) | assumption)
            have q188 : (ji22) < (((rd_T41 t177 x16_2).f2).length : Int) := of_decide_eq_true (by first | (with_reducible assumption) | assumption)
            obtain ⟨ad188, e188, hx188_0, hx188_1, hx188_2⟩ := at_T43 (by repeat (first | (with_reducible exact HR187_2.out) | (with_reducible refine Kd.C_alloc ?_ _) | (with_reducible refine Kd.C_drewN ?_ _) | (with_reducible refine Kd.C_drew ?_) | exact HR187_2.out)) (ji22) p188 q188
            cases e188
            replace p188 := eq_true p188
            replace q188 := eq_true q188
            go_wp2
            go_roundg k2
            case measure => have := HJ10.out; have := HK2.out; omega
            case rel => exact ⟨(wrap64 (x15_2 + 1)), (wrap64 (x16_2 + 1)), (by first | rfl | (simp; done) | (simp [*]; done)), (by first | rfl | (simp; done) | (simp [*]; done)), H', ⟨by have := HJ10.out; have := HK2.out; omega⟩, ⟨by (with_reducible repeat (first | apply Kd.S_alloc | apply Kd.S_drewN | apply Kd.S_drew)); exact HO_12.out⟩, ⟨by repeat (first | (with_reducible first | exact HB.out | apply below_alloc | apply pw_below_drewN | apply below_drew1) | exact HB.out)⟩⟩
           ·rw [if_neg c26] at H
            have c26b0 : (((rd_T43 ((rd_T41 t177 x16_2).f2) (ji22)).f1) == 2) = false := beq_eq_false_iff_ne.mpr c26
            have c26b1 : (((rd_T43 ((rd_T41 t177 x16_2).f2) (ji22)).f1) != 2) = true := bne_iff_ne.mpr c26
            have H' := Aside0.mk H
            clear H
            have p185 : 0 ≤ (x16_2 : Int) := of_decide_eq_true (by first | (with_reducible assumption) | assumption)
            have q185 : x16_2 < (t177.length : Int) := of_decide_eq_true (by first | (with_reducible assumption) | assumption)
            obtain ⟨ad185, A185_1, c185_1, A185_2, c185_2, e185, hx185_0, hx185_1, hx185_2, hx185_3, hx185_4, hx185_5, hl185_1, hi185_1, hl185_2, hi185_2⟩ := at_T41 (Kd.S_reads' HO_12.out).2.2 x16_2 p185 q185
            cases e185
            obtain ⟨ce185, hce185, hMe185, hcc185⟩ := Kd.S_get HO_12.out z41 x16_2 p185 (by first | exact q185 | exact of_decide_eq_true (by first | (with_reducible assumption) | assumption) | (have e_ := (Kd.S_reads' HO_12.out).1; omega))
            obtain ⟨ve185_1, ve185_2, rfl, ge185_1, ge185_2⟩ := k41_openM hMe185
            have hv185_1 := hcc185 1 _ rfl
            rw [add_field _ _ 1 (by omega)] at hv185_1
            replace hv185_1 := Option.some.inj (hv185_1.symm.trans hx185_1)
            rw [hv185_1] at ge185_1
            have HL185_1 := Aside0.mk (show Kd.R k66 66 _ _ _ _ ((rd_T41 t177 x16_2).f1) from ge185_1)
            clear hv185_1 ge185_1
            have hv185_2 := hcc185 2 _ rfl
            rw [add_field _ _ 2 (by omega)] at hv185_2
            replace hv185_2 := Option.some.inj (hv185_2.symm.trans hx185_2)
            rw [hv185_2] at ge185_2
            have HL185_2 := Aside0.mk (show Kd.R k43 43 _ _ _ _ ((rd_T41 t177 x16_2).f2) from ge185_2)
            clear hv185_2 ge185_2
            clear hcc185 hce185
            have HR185_1 := Aside0.mk hi185_1
            have HC185_1 := Aside0.mk hl185_1
            clear hi185_1 hl185_1
            have HR185_2 := Aside0.mk hi185_2
            have HC185_2 := Aside0.mk hl185_2
            clear hi185_2 hl185_2
            replace p185 := eq_true p185
            replace q185 := eq_true q185
            have p186 : 0 ≤ ((ji22) : Int) := of_decide_eq_true (by first | (with_reducible assumption) | assumption)
            have q186 : (ji22) < (((rd_T41 t177 x16_2).f2).length : Int) := of_decide_eq_true (by first | (with_reducible assumption) | assumption)
            obtain ⟨ad186, e186, hx186_0, hx186_1, hx186_2⟩ := at_T43 (by repeat (first | (with_reducible exact HR185_2.out) | (with_reducible refine Kd.C_alloc ?_ _) | (with_reducible refine Kd.C_drewN ?_ _) | (with_reducible refine Kd.C_drew ?_) | exact HR185_2.out)) (ji22) p186 q186
            cases e186
            replace p186 := eq_true p186
            replace q186 := eq_true q186
            have p187 : 0 ≤ (x16_2 : Int) := of_decide_eq_true (by first | (with_reducible assumption) | assumption)
            have q187 : x16_2 < (t177.length : Int) := of_decide_eq_true (by first | (with_reducible assumption) | assumption)
            obtain ⟨ad187, A187_1, c187_1, A187_2, c187_2, e187, hx187_0, hx187_1, hx187_2, hx187_3, hx187_4, hx187_5, hl187_1, hi187_1, hl187_2, hi187_2⟩ := at_T41 (Kd.S_reads' HO_12.out).2.2 x16_2 p187 q187
            obtain rfl : ad185 = ad187 := (by injection e187)
            obtain ⟨ce187, hce187, hMe187, hcc187⟩ := Kd.S_get HO_12.out z41 x16_2 p187 (by first | exact q187 | exact of_decide_eq_true (by first | (with_reducible assumption) | assumption) | (have e_ := (Kd.S_reads' HO_12.out).1; omega))
            obtain ⟨ve187_1, ve187_2, rfl, ge187_1, ge187_2⟩ := k41_openM hMe187
            have hv187_1 := hcc187 1 _ rfl
            rw [add_field _ _ 1 (by omega)] at hv187_1
            replace hv187_1 := Option.some.inj (hv187_1.symm.trans hx187_1)
            rw [hv187_1] at ge187_1
            have HL187_1 := Aside0.mk (show Kd.R k66 66 _ _ _ _ ((rd_T41 t177 x16_2).f1) from ge187_1)
            clear hv187_1 ge187_1
            have hv187_2 := hcc187 2 _ rfl
            rw [add_field _ _ 2 (by omega)] at hv187_2
            replace hv187_2 := Option.some.inj (hv187_2.symm.trans hx187_2)
            rw [hv187_2] at ge187_2
            have HL187_2 := Aside0.mk (show Kd.R k43 43 _ _ _ _ ((rd_T41 t177 x16_2).f2) from ge187_2)
            clear hv187_2 ge187_2
            clear hcc187 hce187
            have HR187_1 := Aside0.mk hi187_1
            have HC187_1 := Aside0.mk hl187_1
            clear hi187_1 hl187_1
            have HR187_2 := Aside0.mk hi187_2
            have HC187_2 := Aside0.mk hl187_2
            clear hi187_2 hl187_2
            replace p187 := eq_true p187
            replace q187 := eq_true q187
            have ea_ := Option.some.inj (hx185_1.symm.trans hx187_1)
            injection ea_ with ea_ en_ ec_
            subst ea_
            subst ec_
            clear en_
            have ea_ := Option.some.inj (hx185_2.symm.trans hx187_2)
            injection ea_ with ea_ en_ ec_
            subst ea_
            subst ec_
            clear en_
            have p188 : 0 ≤ ((ji22) : Int) := of_decide_eq_true (by first | (with_reducible assumption) | assumption)
            have q188 : (ji22) < (((rd_T41 t177 x16_2).f2).length : Int) := of_decide_eq_true (by first | (with_reducible assumption) | assumption)
            obtain ⟨ad188, e188, hx188_0, hx188_1, hx188_2⟩ := at_T43 (by repeat (first | (with_reducible exact HR187_2.out) | (with_reducible refine Kd.C_alloc ?_ _) | (with_reducible refine Kd.C_drewN ?_ _) | (with_reducible refine Kd.C_drew ?_) | exact HR187_2.out)) (ji22) p188 q188
            cases e188
            replace p188 := eq_true p188
            replace q188 := eq_true q188
            go_wp2
            go_roundg k2
            case measure => have := HJ10.out; have := HK2.out; omega
            case rel => exact ⟨(x15_2), (wrap64 (x16_2 + 1)), (by first | rfl | (simp; done) | (simp [*]; done)), (by first | rfl | (simp; done) | (simp [*]; done)), H', ⟨by have := HJ10.out; have := HK2.out; omega⟩, ⟨by (with_reducible repeat (first | apply Kd.S_alloc | apply Kd.S_drewN | apply Kd.S_drew)); exact HO_12.out⟩, ⟨by repeat (first | (with_reducible first | exact HB.out | apply below_alloc | apply pw_below_drewN | apply below_drew1) | exact HB.out)⟩⟩
          ·rw [if_neg c25] at H
           have c25b0 : (((rd_T43 ((rd_T41 t177 x16_2).f2) (ji22)).f0) == t181) = false := beq_eq_false_iff_ne.mpr c25
           have c25b1 : (((rd_T43 ((rd_T41 t177 x16_2).f2) (ji22)).f0) != t181) = true := bne_iff_ne.mpr c25
           have H' := Aside0.mk H
           clear H
           have p185 : 0 ≤ (x16_2 : Int) := of_decide_eq_true (by first | (with_reducible assumption) | assumption)
           have q185 : x16_2 < (t177.length : Int) := of_decide_eq_true (by first | (with_reducible assumption) | assumption)
           obtain ⟨ad185, A185_1, c185_1, A185_2, c185_2, e185, hx185_0, hx185_1, hx185_2, hx185_3, hx185_4, hx185_5, hl185_1, hi185_1, hl185_2, hi185_2⟩ := at_T41 (Kd.S_reads' HO_12.out).2.2 x16_2 p185 q185
           cases e185
           obtain ⟨ce185, hce185, hMe185, hcc185⟩ := Kd.S_get HO_12.out z41 x16_2 p185 (by first | exact q185 | exact of_decide_eq_true (by first | (with_reducible assumption) | assumption) | (have e_ := (Kd.S_reads' HO_12.out).1; omega))
           obtain ⟨ve185_1, ve185_2, rfl, ge185_1, ge185_2⟩ := k41_openM hMe185
           have hv185_1 := hcc185 1 _ rfl
           rw [add_field _ _ 1 (by omega)] at hv185_1
           replace hv185_1 := Option.some.inj (hv185_1.symm.trans hx185_1)
           rw [hv185_1] at ge185_1
           have HL185_1 := Aside0.mk (show Kd.R k66 66 _ _ _ _ ((rd_T41 t177 x16_2).f1) from ge185_1)
           clear hv185_1 ge185_1
           have hv185_2 := hcc185 2 _ rfl
           rw [add_field _ _ 2 (by omega)] at hv185_2
           replace hv185_2 := Option.some.inj (hv185_2.symm.trans hx185_2)
           rw [hv185_2] at ge185_2
           have HL185_2 := Aside0.mk (show Kd.R k43 43 _ _ _ _ ((rd_T41 t177 x16_2).f2) from ge185_2)
           clear hv185_2 ge185_2
           clear hcc185 hce185
           have HR185_1 := Aside0.mk hi185_1
           have HC185_1 := Aside0.mk hl185_1
           clear hi185_1 hl185_1
           have HR185_2 := Aside0.mk hi185_2
           have HC185_2 := Aside0.mk hl185_2
           clear hi185_2 hl185_2
           replace p185 := eq_true p185
           replace q185 := eq_true q185
           have p186 : 0 ≤ ((ji22) : Int) := of_decide_eq_true (by first | (with_reducible assumption) | assumption)
           have q186 : (ji22) < (((rd_T41 t177 x16_2).f2).length : Int) := of_decide_eq_true (by first | (with_reducible assumption) | assumption)
           obtain ⟨ad186, e186, hx186_0, hx186_1, hx186_2⟩ := at_T43 (by repeat (first | (with_reducible exact HR185_2.out) | (with_reducible refine Kd.C_alloc ?_ _) | (with_reducible refine Kd.C_drewN ?_ _) | (with_reducible refine Kd.C_drew ?_) | exact HR185_2.out)) (ji22) p186 q186
           cases e186
           replace p186 := eq_true p186
           replace q186 := eq_true q186
           go_wp2
           go_roundg k2
           case measure => have := HJ10.out; have := HK2.out; omega
           case rel => exact ⟨(x15_2), (wrap64 (x16_2 + 1)), (by first | rfl | (simp; done) | (simp [*]; done)), (by first | rfl | (simp; done) | (simp [*]; done)), H', ⟨by have := HJ10.out; have := HK2.out; omega⟩, ⟨by (with_reducible repeat (first | apply Kd.S_alloc | apply Kd.S_drewN | apply Kd.S_drew)); exact HO_12.out⟩, ⟨by repeat (first | (with_reducible first | exact HB.out | apply below_alloc | apply pw_below_drewN | apply below_drew1) | exact HB.out)⟩⟩
         ·rw [if_neg c24] at H
          exact absurd H (by simp)
        ·rw [if_neg c23] at H
         exact absurd H (by simp)
       ·rw [if_neg c21] at H
        exact absurd H (by simp)
      ·rw [if_neg c20] at H
       have c20b0 : decide (x16_2 < (t177.length : Int)) = false := decide_eq_false c20
       clear c20
       by_cases c27 : t176 = true
       ·subst c27
        have H1 : (if t183 = 0 then (if t182 ≤ x15_2 then (some ((decide (t182 > 0)) == (decide (x15_2 > 0)))) else (none)) else (none)) = some r := by rw [if_pos rfl] at H; exact H
        clear H
        have H := H1
        clear H1
        by_cases c28 : t183 = 0
        ·rw [if_pos c28] at H
         have c28b0 : (t183 == 0) = true := beq_iff_eq.mpr c28
         have c28b1 : (t183 != 0) = false := bne_eq_false_iff_eq.mpr c28
         clear c28
         by_cases c29 : t182 ≤ x15_2
         ·rw [if_pos c29] at H
          have c29b0 : decide (t182 ≤ x15_2) = true := decide_eq_true c29
          clear c29
          obtain rfl := Option.some.inj H
          go_wp2
          go_ret
          exact ⟨by first | rfl | (simp [errW_none, errW_some] <;> rfl) | (simp [*, errW_none, errW_some] <;> rfl) | (simp (discharger := omega) only [Int.tdiv_eq_ediv_of_nonneg, Int.tmod_eq_emod_of_nonneg] <;> rfl), by repeat (first | (with_reducible first | exact HB.out | apply below_alloc | apply pw_below_drewN | apply below_drew1) | exact HB.out)⟩
         ·rw [if_neg c29] at H
          exact absurd H (by simp)
        ·rw [if_neg c28] at H
         exact absurd H (by simp)
       ·replace c27 := Bool.eq_false_iff.mpr c27
        subst c27
        have H1 : (none) = some r := by rw [if_neg (show ¬ (false = true) by decide)] at H; exact H
        clear H
        have H := H1
        clear H1
        exact absurd H (by simp)

/-- THE ONE PURE STATEMENT of tipstafflaw43_ReportVisits: yours. -/
def tipstafflaw43_ReportVisits.Pure : Prop := ∀ (a0 : Int) (a1 : Int) (l2 : List Int) (a3 : Int) (a4 : Int), (Lit.int .i64 a0).wf = true → (Lit.int .i64 a1).wf = true → l2.length ≤ maxLen → l2.length * 8 ≤ 140737488351232 → (∀ x ∈ l2, (Lit.int .i64 x).wf = true) → (Lit.int .i64 a3).wf = true → (Lit.int .i64 a4).wf = true → ∃ k, tipstafflaw43_ReportVisits.f k a0 a1 l2 a3 a4 = some true
theorem tipstafflaw43_ReportVisits.walk (P : tipstafflaw43_ReportVisits.Pure) (a0 : Int) (a1 : Int) (a2 : Option Addr) (len2 cap2 : Nat) (z2 : List Int) (a3 : Int) (a4 : Int) (w : World) (HL_ : LaidAt w) (w0 : (Lit.int .i64 a0).wf = true) (w1 : (Lit.int .i64 a1).wf = true) (w2 : (a2 = none ∧ len2 = 0 ∧ cap2 = 0 ∧ z2 = []) ∨ ∃ x, a2 = some x ∧ len2 ≤ cap2 ∧ cap2 ≤ maxLen ∧ z2.length = cap2 ∧ (∀ i, i < z2.length → w.cell? (x.add i) = some (.int .i64 (z2.getD i 0))) ∧ ∀ n ∈ z2, (Lit.int .i64 n).wf = true) (y2 : len2 * 8 ≤ 140737488351232) (w3 : (Lit.int .i64 a3).wf = true) (w4 : (Lit.int .i64 a4).wf = true) :
  Calls Tryd.prog 4 #[.int .i64 a0, .int .i64 a1, .slice a2 len2 cap2, .int .i64 a3, .int .i64 a4] w fun e w' => e = .returned (.bool true) ∧ Below w.heap.size w w' := by
 obtain ⟨l2, rfl, hr2, hm2, hw2, hc2⟩ := ReadsInt.ofRowC w2
 obtain ⟨k, h⟩ := P a0 a1 l2 a3 a4 w0 w1 hm2 y2 hw2 w3 w4
 refine (tipstafflaw43_ReportVisits.calls k a0 a1 _ _ l2 a3 a4 true w HL_ (Kd.C_of_reads (d := (0 : Int)) (h1 := fun _ => rfl) hr2) hc2 h).mono ?_
 rintro e w' ⟨rfl, hd⟩
 exact ⟨rfl, hd⟩

end Go.Proofs.YtenlokaaloenmaaDoor.S
