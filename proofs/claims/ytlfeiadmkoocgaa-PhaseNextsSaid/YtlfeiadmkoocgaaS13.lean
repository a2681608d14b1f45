-- PRINTED by print.py (a twelfth state) out of the translation. Not trusted: Lean checks it.
import Derived.Test.YtlfeiadmkoocgaaS0
import Derived.Test.YtlfeiadmkoocgaaS6
import Derived.Test.YtlfeiadmkoocgaaS10
import Derived.Test.YtlfeiadmkoocgaaS12
import Derived.Test.YtlfeiadmkoocgaaHof
namespace Go.Proofs.Ytlfeiadmkoocgaa.S
open Go.RowKit Go.Proofs.YtlfeiadmkoocgaaW.PrintWords Go.Proofs.YtlfeiadmkoocgaaW.PrintLast Go.Proofs.YtlfeiadmkoocgaaW.PrintMore
attribute [local go_sem] Go.Proofs.YtlfeiadmkoocgaaW.PrintXtra.isSome_setCell max2_int min2_int max_two min_two max_three min_three max_four min_four   -- for this text's walks alone
set_option linter.unusedVariables false
set_option linter.unusedSimpArgs false

/-! ### tipstafflaw26_PhaseNexts: function 6 -/
mutual
def tipstafflaw26_PhaseNexts.j0 : Nat → Int → Int → Int → Bool → Int → Int → Int → Int → Int → Option (Bool)
 | 0, _, _, _, _, _, _, _, _, _ => none
 | k + 1, x10, x11, x12, x55, x301000, x301001, x301002, x301003, x301004 => if x55 = true then (none) else (tipstafflaw26_PhaseNexts.l0 k x11 x12 (wrap64 (x10 + 1)) x301000 x301001 x301002 x301003 x301004)
def tipstafflaw26_PhaseNexts.l0 : Nat → Int → Int → Int → Int → Int → Int → Int → Int → Option (Bool)
 | 0, _, _, _, _, _, _, _, _ => none
 | k + 1, x11, x12, x14, x301000, x301001, x301002, x301003, x301004 => if x14 ≤ x12 then ((phase_Of.f k x301000 x301001 x301002 x301003 x301004 x14).bind fun bt305 => ((phase_Decision.f k x301000 x301001 x301002 x301003 x301004 x14).bind fun bt311 => (if bt305.2.2.2.2 = 0 then (if bt311.2 = 0 then (if bt305.2.1 = x11 then (if ((bt305.2.2.2.1 == 0) != (x14 == x12)) = true then (none) else (if bt305.2.1 = 2 then (if (bt311.1 != (bt305.2.2.2.1 == 0)) = true then (none) else (tipstafflaw26_PhaseNexts.l0 k x11 x12 (wrap64 (x14 + 1)) x301000 x301001 x301002 x301003 x301004)) else (if (bt311.1 != false) = true then (none) else (tipstafflaw26_PhaseNexts.l0 k x11 x12 (wrap64 (x14 + 1)) x301000 x301001 x301002 x301003 x301004)))) else (if (false != (x14 == x12)) = true then (none) else (if bt305.2.1 = 2 then (if (bt311.1 != (bt305.2.2.2.1 == 0)) = true then (none) else (tipstafflaw26_PhaseNexts.l0 k x11 x12 (wrap64 (x14 + 1)) x301000 x301001 x301002 x301003 x301004)) else (if (bt311.1 != false) = true then (none) else (tipstafflaw26_PhaseNexts.l0 k x11 x12 (wrap64 (x14 + 1)) x301000 x301001 x301002 x301003 x301004))))) else (none)) else (none)))) else (if x11 = 2 then ((phase_Next.f k x301000 x301001 x301002 x301003 x301004 x12 x11).bind fun bt313 => (if bt313.2 = 0 then (if (wrap64 (bt313.1 - x12)) ≥ x301002 then ((tipstafflaw26_awake.f k).bind fun t315 => (some t315)) else (none)) else (none))) else ((tipstafflaw26_awake.f k).bind fun t316 => (some t316)))
end
def tipstafflaw26_PhaseNexts.f (k : Nat) (a0 : Int) (a1 : Int) (a2 : Int) : Option (Bool) := (tipstafflaw26_made.f a0).bind fun bt293 => ((tipstaffkit_Mod.f a1 (wrap64 (2 * bt293.2.2.2.2.1))).bind fun t301 => ((tipstaffkit_Mod.f a2 5).bind fun t302 => ((phase_Next.f k bt293.1 bt293.2.1 bt293.2.2.1 bt293.2.2.2.1 bt293.2.2.2.2.1 t301 (wrap64 (1 + t302))).bind fun bt303 => (if bt303.2 = 0 then (if bt303.1 ≤ t301 then (tipstafflaw26_PhaseNexts.j0 k t301 (wrap64 (1 + t302)) bt303.1 true bt293.1 bt293.2.1 bt293.2.2.1 bt293.2.2.2.1 bt293.2.2.2.2.1) else (tipstafflaw26_PhaseNexts.j0 k t301 (wrap64 (1 + t302)) bt303.1 (decide (bt303.1 > (wrap64 (t301 + bt293.2.2.2.1)))) bt293.1 bt293.2.1 bt293.2.2.1 bt293.2.2.2.1 bt293.2.2.2.2.1)) else (tipstafflaw26_PhaseNexts.j0 k t301 (wrap64 (1 + t302)) bt303.1 true bt293.1 bt293.2.1 bt293.2.2.1 bt293.2.2.2.1 bt293.2.2.2.2.1)))))
theorem tipstafflaw26_PhaseNexts.mono_l : ∀ k, (∀ y0 y1 y2 y3 y4 y5 y6 y7 y8, LeO (tipstafflaw26_PhaseNexts.j0 k y0 y1 y2 y3 y4 y5 y6 y7 y8) (tipstafflaw26_PhaseNexts.j0 (k + 1) y0 y1 y2 y3 y4 y5 y6 y7 y8)) ∧ (∀ y0 y1 y2 y3 y4 y5 y6 y7, LeO (tipstafflaw26_PhaseNexts.l0 k y0 y1 y2 y3 y4 y5 y6 y7) (tipstafflaw26_PhaseNexts.l0 (k + 1) y0 y1 y2 y3 y4 y5 y6 y7))
 | 0 => ⟨fun _ _ _ _ _ _ _ _ _ r h => by simp [tipstafflaw26_PhaseNexts.j0] at h, fun _ _ _ _ _ _ _ _ r h => by simp [tipstafflaw26_PhaseNexts.l0] at h⟩
 | k + 1 => by
  obtain ⟨ih0, ih1⟩ := tipstafflaw26_PhaseNexts.mono_l k
  refine ⟨?_, ?_⟩
  ·intro y0 y1 y2 y3 y4 y5 y6 y7 y8
   unfold tipstafflaw26_PhaseNexts.j0
   repeat' first
   | (with_reducible exact ih0 _ _ _ _ _ _ _ _ _)
   | (with_reducible exact ih1 _ _ _ _ _ _ _ _)
   | (with_reducible exact phase_Decision.mono _ _ _ _ _ _ _)
   | (with_reducible exact phase_Next.mono _ _ _ _ _ _ _ _)
   | (with_reducible exact phase_Of.mono _ _ _ _ _ _ _)
   | (with_reducible exact tipstafflaw26_awake.mono _)
   | (with_reducible exact LeO.refl _)
   | (with_reducible exact LeO.none _)
   | (with_reducible refine LeO.ite ?_ ?_)
   | (with_reducible refine LeO.bind ?_ (fun _ => ?_))
   | exact ih0 _ _ _ _ _ _ _ _ _
   | exact ih1 _ _ _ _ _ _ _ _
   | exact phase_Decision.mono _ _ _ _ _ _ _
   | exact phase_Next.mono _ _ _ _ _ _ _ _
   | exact phase_Of.mono _ _ _ _ _ _ _
   | exact tipstafflaw26_awake.mono _
   | exact LeO.none _
   | refine LeO.ite ?_ ?_
   | refine LeO.bind ?_ (fun _ => ?_)
  ·intro y0 y1 y2 y3 y4 y5 y6 y7
   unfold tipstafflaw26_PhaseNexts.l0
   repeat' first
   | (with_reducible exact ih0 _ _ _ _ _ _ _ _ _)
   | (with_reducible exact ih1 _ _ _ _ _ _ _ _)
   | (with_reducible exact phase_Decision.mono _ _ _ _ _ _ _)
   | (with_reducible exact phase_Next.mono _ _ _ _ _ _ _ _)
   | (with_reducible exact phase_Of.mono _ _ _ _ _ _ _)
   | (with_reducible exact tipstafflaw26_awake.mono _)
   | (with_reducible exact LeO.refl _)
   | (with_reducible exact LeO.none _)
   | (with_reducible refine LeO.ite ?_ ?_)
   | (with_reducible refine LeO.bind ?_ (fun _ => ?_))
   | exact ih0 _ _ _ _ _ _ _ _ _
   | exact ih1 _ _ _ _ _ _ _ _
   | exact phase_Decision.mono _ _ _ _ _ _ _
   | exact phase_Next.mono _ _ _ _ _ _ _ _
   | exact phase_Of.mono _ _ _ _ _ _ _
   | exact tipstafflaw26_awake.mono _
   | exact LeO.none _
   | refine LeO.ite ?_ ?_
   | refine LeO.bind ?_ (fun _ => ?_)
theorem tipstafflaw26_PhaseNexts.mono : ∀ a0 a1 a2 k, LeO (tipstafflaw26_PhaseNexts.f k a0 a1 a2) (tipstafflaw26_PhaseNexts.f (k + 1) a0 a1 a2) := by
 intro a0 a1 a2 k
 obtain ⟨ih0, ih1⟩ := tipstafflaw26_PhaseNexts.mono_l k
 unfold tipstafflaw26_PhaseNexts.f
 repeat' first
   | (with_reducible exact ih0 _ _ _ _ _ _ _ _ _)
   | (with_reducible exact ih1 _ _ _ _ _ _ _ _)
   | (with_reducible exact phase_Decision.mono _ _ _ _ _ _ _)
   | (with_reducible exact phase_Next.mono _ _ _ _ _ _ _ _)
   | (with_reducible exact phase_Of.mono _ _ _ _ _ _ _)
   | (with_reducible exact tipstafflaw26_awake.mono _)
   | (with_reducible exact LeO.refl _)
   | (with_reducible exact LeO.none _)
   | (with_reducible refine LeO.ite ?_ ?_)
   | (with_reducible refine LeO.bind ?_ (fun _ => ?_))
   | exact ih0 _ _ _ _ _ _ _ _ _
   | exact ih1 _ _ _ _ _ _ _ _
   | exact phase_Decision.mono _ _ _ _ _ _ _
   | exact phase_Next.mono _ _ _ _ _ _ _ _
   | exact phase_Of.mono _ _ _ _ _ _ _
   | exact tipstafflaw26_awake.mono _
   | exact LeO.none _
   | refine LeO.ite ?_ ?_
   | refine LeO.bind ?_ (fun _ => ?_)
set_option maxHeartbeats 8000000 in
set_option maxRecDepth 100000 in
theorem tipstafflaw26_PhaseNexts.calls (k : Nat) (a0 : Int) (a1 : Int) (a2 : Int) (r : Bool) (w : World) (h : tipstafflaw26_PhaseNexts.f k a0 a1 a2 = some r) :
  Calls Try.prog 6 #[.int .i64 a0, .int .i64 a1, .int .i64 a2] w fun e w' => e = .returned (.bool r) ∧ Below w.heap.size w w' := by
 have hu23 := Try.underlying23
 have hu25 := Try.underlying25
 have HB := Aside0.mk (Below.refl w.heap.size w)
 have H : ((tipstafflaw26_made.f a0).bind fun bt293 => ((tipstaffkit_Mod.f a1 (wrap64 (2 * bt293.2.2.2.2.1))).bind fun t301 => ((tipstaffkit_Mod.f a2 5).bind fun t302 => ((phase_Next.f k bt293.1 bt293.2.1 bt293.2.2.1 bt293.2.2.2.1 bt293.2.2.2.2.1 t301 (wrap64 (1 + t302))).bind fun bt303 => (if bt303.2 = 0 then (if bt303.1 ≤ t301 then (tipstafflaw26_PhaseNexts.j0 k t301 (wrap64 (1 + t302)) bt303.1 true bt293.1 bt293.2.1 bt293.2.2.1 bt293.2.2.2.1 bt293.2.2.2.2.1) else (tipstafflaw26_PhaseNexts.j0 k t301 (wrap64 (1 + t302)) bt303.1 (decide (bt303.1 > (wrap64 (t301 + bt293.2.2.2.1)))) bt293.1 bt293.2.1 bt293.2.2.1 bt293.2.2.2.1 bt293.2.2.2.2.1)) else (tipstafflaw26_PhaseNexts.j0 k t301 (wrap64 (1 + t302)) bt303.1 true bt293.1 bt293.2.1 bt293.2.2.1 bt293.2.2.2.1 bt293.2.2.2.2.1)))))) = some r := h
 clear h
 replace H := Option.bind_eq_some_iff.mp H
 obtain ⟨⟨t293, t294, t295, t296, t297, t298, t299⟩, A40, H⟩ := H
 try dsimp only at H
 have A4 := Aside0.mk A40
 clear A40
 replace H := Option.bind_eq_some_iff.mp H
 obtain ⟨t301, A50, H⟩ := H
 try dsimp only at H
 have A5 := Aside0.mk A50
 clear A50
 replace H := Option.bind_eq_some_iff.mp H
 obtain ⟨t302, A60, H⟩ := H
 replace H : ((phase_Next.f k t293 t294 t295 t296 t297 t301 (wrap64 (1 + t302))).bind fun bt303 => (if bt303.2 = 0 then (if bt303.1 ≤ t301 then (tipstafflaw26_PhaseNexts.j0 k t301 (wrap64 (1 + t302)) bt303.1 true t293 t294 t295 t296 t297) else (tipstafflaw26_PhaseNexts.j0 k t301 (wrap64 (1 + t302)) bt303.1 (decide (bt303.1 > (wrap64 (t301 + t296)))) t293 t294 t295 t296 t297)) else (tipstafflaw26_PhaseNexts.j0 k t301 (wrap64 (1 + t302)) bt303.1 true t293 t294 t295 t296 t297))) = some r := H
 have A6 := Aside0.mk A60
 clear A60
 replace H := Option.bind_eq_some_iff.mp H
 obtain ⟨⟨t303, t304⟩, A70, H⟩ := H
 replace H : (if t304 = 0 then (if t303 ≤ t301 then (tipstafflaw26_PhaseNexts.j0 k t301 (wrap64 (1 + t302)) t303 true t293 t294 t295 t296 t297) else (tipstafflaw26_PhaseNexts.j0 k t301 (wrap64 (1 + t302)) t303 (decide (t303 > (wrap64 (t301 + t296)))) t293 t294 t295 t296 t297)) else (tipstafflaw26_PhaseNexts.j0 k t301 (wrap64 (1 + t302)) t303 true t293 t294 t295 t296 t297)) = some r := H
 have A7 := Aside0.mk A70
 clear A70
 have HC8 := Aside0.mk H
 clear H
 go_enter Try.func6, Try.ntmps6
 go_upto_region 4 with (first | ((with_reducible refine gate_callee (f := 13) rfl ?_); refine goesL_ (some 22) rfl rfl Try.func13 (by kernel_rfl) rfl #[.int .i64 a0] rfl (by (try simp only [List.map_toArray, List.map_cons, List.map_nil]); first | done | rfl | (simp only [List.length_drop, List.length_take]; rfl)) ?_; (with_reducible refine (tipstafflaw26_made.calls a0 t293 t294 t295 t296 t297 t298 t299 _ A4.out).mono ?_); rintro e w9 ⟨rfl, hb⟩; refine ⟨_, rfl, ?_⟩; have n0_ := Aside0.mk (below_step (by repeat (first | (with_reducible first | exact HB.out | apply below_alloc | apply pw_below_drewN | apply below_drew1) | exact HB.out)) hb); clear HB; have HB := n0_; clear n0_; (try clear hb); (try clear hb2); (try clear hk); (try clear hi)) | ((with_reducible refine gate_dst (N := 7) rfl ?_); refine box_event ?hg (N := 7) ?hd (cs := #[.int .i64 0, .int .i64 0, .int .i64 0, .int .i64 0, .int .i64 0]) (t := 23) ?hr ?_; (case hd => rfl); (case hg => rfl); (case hr => first | (go_simp; done) | (go_simp; rfl)); intro gb300 hg w10 hbox hb; have n0_ := Aside0.mk (below_step (by repeat (first | (with_reducible first | exact HB.out | apply below_alloc | apply pw_below_drewN | apply below_drew1) | exact HB.out)) hb); have n1_ := Aside0.mk (hbox); have n2_ := Aside0.mk ((by rw [hg]; exact (below_size (by repeat (first | (with_reducible first | exact HB.out | apply below_alloc | apply pw_below_drewN | apply below_drew1) | exact HB.out))) : w.heap.size ≤ gb300)); have n3_ := Aside0.mk ((by rw [hg]; exact (below_size (by repeat (first | (with_reducible first | exact HB.out | apply below_alloc | apply pw_below_drewN | apply below_drew1) | exact HB.out))) : w.heap.size ≤ gb300)); clear HB; have HB := n0_; have BK300 := n1_; have GW300 := n2_; have GE300 := n3_; clear n0_ n1_ n2_ n3_; clear hb hbox hg; have hcz11_0 : w10.cell? ⟨gb300, 0, none⟩ = some (.int .i64 0) := (blk_cell BK300.out 0).trans rfl; have hcz11_1 : w10.cell? ⟨gb300, 1, none⟩ = some (.int .i64 0) := (blk_cell BK300.out 1).trans rfl; have hcz11_2 : w10.cell? ⟨gb300, 2, none⟩ = some (.int .i64 0) := (blk_cell BK300.out 2).trans rfl; have hcz11_3 : w10.cell? ⟨gb300, 3, none⟩ = some (.int .i64 0) := (blk_cell BK300.out 3).trans rfl; have hcz11_4 : w10.cell? ⟨gb300, 4, none⟩ = some (.int .i64 0) := (blk_cell BK300.out 4).trans rfl; have hfz11_0 := blk_frozen BK300.out 0; have hfz11_1 := blk_frozen BK300.out 1; have hfz11_2 := blk_frozen BK300.out 2; have hfz11_3 := blk_frozen BK300.out 3; have hfz11_4 := blk_frozen BK300.out 4) | ((with_reducible refine gate_callee (f := 14) rfl ?_); refine goesL_ (some 30) rfl rfl Try.func14 (by kernel_rfl) rfl #[.int .i64 a1, .int .i64 (wrap64 (2 * t297))] rfl (by (try simp only [List.map_toArray, List.map_cons, List.map_nil]); first | done | rfl | (simp only [List.length_drop, List.length_take]; rfl)) ?_; (with_reducible refine (tipstaffkit_Mod.calls a1 (wrap64 (2 * t297)) t301 _ A5.out).mono ?_); rintro e w' ⟨rfl, ⟨nd, rfl⟩⟩; refine ⟨_, rfl, ?_⟩) | ((with_reducible refine gate_callee (f := 14) rfl ?_); refine goesL_ (some 32) rfl rfl Try.func14 (by kernel_rfl) rfl #[.int .i64 a2, .int .i64 5] rfl (by (try simp only [List.map_toArray, List.map_cons, List.map_nil]); first | done | rfl | (simp only [List.length_drop, List.length_take]; rfl)) ?_; (with_reducible refine (tipstaffkit_Mod.calls a2 5 t302 _ A6.out).mono ?_); rintro e w' ⟨rfl, ⟨nd, rfl⟩⟩; refine ⟨_, rfl, ?_⟩) | ((with_reducible refine gate_callee (f := 27) rfl ?_); refine goesL_ (some 38) rfl rfl Try.func27 (by kernel_rfl) rfl #[.agg #[.int .i64 t293, .int .i64 t294, .int .i64 t295, .int .i64 t296, .int .i64 t297], .int .i64 t301, .int .i64 (wrap64 (1 + t302))] rfl (by (try simp only [List.map_toArray, List.map_cons, List.map_nil]); first | done | rfl | (simp only [List.length_drop, List.length_take]; rfl)) ?_; (with_reducible refine (phase_Next.calls k t293 t294 t295 t296 t297 t301 (wrap64 (1 + t302)) t303 t304 _ A7.out).mono ?_); rintro e w12 ⟨rfl, hb⟩; refine ⟨_, rfl, ?_⟩; have n0_ := Aside0.mk (blk_below (g := gb300) (o := .cells #[.int .i64 t293, .int .i64 t294, .int .i64 t295, .int .i64 t296, .int .i64 t297] 23 (0, 0)) (by (with_reducible repeat (first | refine blk_drewN ?_ _ | refine blk_drew ?_ | refine blk_alloc ?_ _)); refine blk_put (cs := #[.int .i64 t293, .int .i64 t294, .int .i64 t295, .int .i64 t296, .int .i64 0]) ?_ 4 _ rfl; (with_reducible repeat (first | refine blk_drewN ?_ _ | refine blk_drew ?_ | refine blk_alloc ?_ _)); refine blk_put (cs := #[.int .i64 t293, .int .i64 t294, .int .i64 t295, .int .i64 0, .int .i64 0]) ?_ 3 _ rfl; (with_reducible repeat (first | refine blk_drewN ?_ _ | refine blk_drew ?_ | refine blk_alloc ?_ _)); refine blk_put (cs := #[.int .i64 t293, .int .i64 t294, .int .i64 0, .int .i64 0, .int .i64 0]) ?_ 2 _ rfl; (with_reducible repeat (first | refine blk_drewN ?_ _ | refine blk_drew ?_ | refine blk_alloc ?_ _)); refine blk_put (cs := #[.int .i64 t293, .int .i64 0, .int .i64 0, .int .i64 0, .int .i64 0]) ?_ 1 _ rfl; (with_reducible repeat (first | refine blk_drewN ?_ _ | refine blk_drew ?_ | refine blk_alloc ?_ _)); refine blk_put (cs := #[.int .i64 0, .int .i64 0, .int .i64 0, .int .i64 0, .int .i64 0]) ?_ 0 _ rfl; (with_reducible repeat (first | refine blk_drewN ?_ _ | refine blk_drew ?_ | refine blk_alloc ?_ _)); exact BK300.out) hb); have n1_ := Aside0.mk (below_step (by repeat (first | (with_reducible first | exact HB.out | apply below_alloc | apply pw_below_drewN | apply below_drew1 | refine below_set ?_ GE300.out) | exact HB.out)) hb); clear BK300; clear HB; have BK300 := n0_; have HB := n1_; clear n0_ n1_; (try clear hb); (try clear hb2); (try clear hk); (try clear hi)))
 (try simp only [Act.put, List.setIfInBounds_toArray, List.set_cons_zero, List.set_cons_succ])
 go_cut [55] (fun v55 wc => ∃ (kq : Nat) (x55_7 : Bool), v55 = .bool x55_7 ∧ Aside0 (tipstafflaw26_PhaseNexts.j0 kq t301 (wrap64 (1 + t302)) t303 x55_7 t293 t294 t295 t296 t297 = some r) ∧ Aside0 (kq ≤ k) ∧ Aside0 (wc.heap[gb300]? = some (.cells #[.int .i64 t293, .int .i64 t294, .int .i64 t295, .int .i64 t296, .int .i64 t297] 23 (0, 0))) ∧ Aside0 (Below w.heap.size w wc))
 case first =>
  have H := HC8.out
  clear HC8
  by_cases c13 : t304 = 0
  ·rw [if_pos c13] at H
   have c13b0 : (t304 == 0) = true := beq_iff_eq.mpr c13
   have c13b1 : (t304 != 0) = false := bne_eq_false_iff_eq.mpr c13
   clear c13
   (first | rw [c13b0] | (simp only [i64_w, i32_w]; rw [c13b0]) | skip)
   by_cases c14 : t303 ≤ t301
   ·rw [if_pos c14] at H
    have c14b0 : decide (t303 ≤ t301) = true := decide_eq_true c14
    clear c14
    have H' := Aside0.mk H
    clear H
    go_wp2
    go_meet
    case rel => exact ⟨_, (true), (by first | rfl | (simp; done) | (simp [*]; done)), H', ⟨by first | omega | exact Nat.le_refl _⟩, ⟨by (with_reducible repeat (first | refine blk_drewN ?_ _ | refine blk_drew ?_ | refine blk_alloc ?_ _)); exact BK300.out⟩, ⟨by repeat (first | (with_reducible first | exact HB.out | apply below_alloc | apply pw_below_drewN | apply below_drew1 | refine below_set ?_ GE300.out) | exact HB.out)⟩⟩
   ·rw [if_neg c14] at H
    have c14b0 : decide (t303 ≤ t301) = false := decide_eq_false c14
    clear c14
    have H' := Aside0.mk H
    clear H
    have hcz15_0 : w12.cell? ⟨gb300, 0, none⟩ = some (.int .i64 t293) := (blk_cell BK300.out 0).trans rfl
    have hcz15_1 : w12.cell? ⟨gb300, 1, none⟩ = some (.int .i64 t294) := (blk_cell BK300.out 1).trans rfl
    have hcz15_2 : w12.cell? ⟨gb300, 2, none⟩ = some (.int .i64 t295) := (blk_cell BK300.out 2).trans rfl
    have hcz15_3 : w12.cell? ⟨gb300, 3, none⟩ = some (.int .i64 t296) := (blk_cell BK300.out 3).trans rfl
    have hcz15_4 : w12.cell? ⟨gb300, 4, none⟩ = some (.int .i64 t297) := (blk_cell BK300.out 4).trans rfl
    have hfz15_0 := blk_frozen BK300.out 0
    have hfz15_1 := blk_frozen BK300.out 1
    have hfz15_2 := blk_frozen BK300.out 2
    have hfz15_3 := blk_frozen BK300.out 3
    have hfz15_4 := blk_frozen BK300.out 4
    go_wp2
    go_meet
    case rel => exact ⟨_, (decide (t303 > (wrap64 (t301 + t296)))), (by first | rfl | (simp; done) | (simp [*]; done)), H', ⟨by first | omega | exact Nat.le_refl _⟩, ⟨by (with_reducible repeat (first | refine blk_drewN ?_ _ | refine blk_drew ?_ | refine blk_alloc ?_ _)); exact BK300.out⟩, ⟨by repeat (first | (with_reducible first | exact HB.out | apply below_alloc | apply pw_below_drewN | apply below_drew1 | refine below_set ?_ GE300.out) | exact HB.out)⟩⟩
  ·rw [if_neg c13] at H
   have c13b0 : (t304 == 0) = false := beq_eq_false_iff_ne.mpr c13
   have c13b1 : (t304 != 0) = true := bne_iff_ne.mpr c13
   (first | rw [c13b0] | (simp only [i64_w, i32_w]; rw [c13b0]) | skip)
   have H' := Aside0.mk H
   clear H
   go_wp2
   go_meet
   case rel => exact ⟨_, (true), (by first | rfl | (simp; done) | (simp [*]; done)), H', ⟨by first | omega | exact Nat.le_refl _⟩, ⟨by (with_reducible repeat (first | refine blk_drewN ?_ _ | refine blk_drew ?_ | refine blk_alloc ?_ _)); exact BK300.out⟩, ⟨by repeat (first | (with_reducible first | exact HB.out | apply below_alloc | apply pw_below_drewN | apply below_drew1 | refine below_set ?_ GE300.out) | exact HB.out)⟩⟩
 case rest =>
  clear HC8
  try clear c1
  try clear c2
  try clear p2
  try clear c6
  try clear p6
  try clear c13
  try clear c13b0
  try clear c13b1
  try clear c14
  try clear c14b0
  try clear hcz11_0
  try clear hcz11_1
  try clear hcz11_2
  try clear hcz11_3
  try clear hcz11_4
  try clear hcz15_0
  try clear hcz15_1
  try clear hcz15_2
  try clear hcz15_3
  try clear hcz15_4
  try clear hfz11_0
  try clear hfz11_1
  try clear hfz11_2
  try clear hfz11_3
  try clear hfz11_4
  try clear hfz15_0
  try clear hfz15_1
  try clear hfz15_2
  try clear hfz15_3
  try clear hfz15_4
  obtain ⟨kq, x55_7, rfl, HA, HJ7, BK300, HB⟩ := hcut
  cases kq with
  | zero => exact absurd HA.out (by simp [tipstafflaw26_PhaseNexts.j0])
  | succ kj7 =>
   have H := HA.out
   clear HA
   simp only [tipstafflaw26_PhaseNexts.j0] at H
   by_cases c16 : x55_7 = true
   ·subst c16
    have H1 : (none) = some r := by rw [if_pos rfl] at H; exact H
    clear H
    have H := H1
    clear H1
    exact absurd H (by simp)
   ·replace c16 := Bool.eq_false_iff.mpr c16
    subst c16
    have H1 : (tipstafflaw26_PhaseNexts.l0 kj7 (wrap64 (1 + t302)) t303 (wrap64 (t301 + 1)) t293 t294 t295 t296 t297) = some r := by rw [if_neg (show ¬ (false = true) by decide)] at H; exact H
    clear H
    have H := H1
    clear H1
    have H' := Aside0.mk H
    clear H
    go_wp2
    go_loopg [14] kj7 (fun kq v14 w' => ∃ (x14_2 : Int), v14 = .int .i64 x14_2 ∧ Aside0 (tipstafflaw26_PhaseNexts.l0 kq (wrap64 (1 + t302)) t303 x14_2 t293 t294 t295 t296 t297 = some r) ∧ Aside0 (kq ≤ kj7) ∧ Aside0 (w'.heap[gb300]? = some (.cells #[.int .i64 t293, .int .i64 t294, .int .i64 t295, .int .i64 t296, .int .i64 t297] 23 (0, 0))) ∧ Aside0 (Below w.heap.size w w'))
    case atStart => exact ⟨(wrap64 (t301 + 1)), (by first | rfl | (simp; done) | (simp [*]; done)), H', ⟨Nat.le_refl _⟩, ⟨by (with_reducible repeat (first | refine blk_drewN ?_ _ | refine blk_drew ?_ | refine blk_alloc ?_ _)); exact BK300.out⟩, ⟨by repeat (first | (with_reducible first | exact HB.out | apply below_alloc | apply pw_below_drewN | apply below_drew1 | refine below_set ?_ GE300.out) | exact HB.out)⟩⟩
    case round =>
     clear H'
     try clear c1
     try clear c2
     try clear p2
     try clear c6
     try clear p6
     try clear c13
     try clear c13b0
     try clear c13b1
     try clear c14
     try clear c14b0
     try clear c16
     try clear hcz11_0
     try clear hcz11_1
     try clear hcz11_2
     try clear hcz11_3
     try clear hcz11_4
     try clear hcz15_0
     try clear hcz15_1
     try clear hcz15_2
     try clear hcz15_3
     try clear hcz15_4
     try clear hfz11_0
     try clear hfz11_1
     try clear hfz11_2
     try clear hfz11_3
     try clear hfz11_4
     try clear hfz15_0
     try clear hfz15_1
     try clear hfz15_2
     try clear hfz15_3
     try clear hfz15_4
     try clear p2
     try clear p6
     obtain ⟨x14_2, rfl, HA, HK2, BK300, HB⟩ := hrel
     cases gk with
     | zero => exact absurd HA.out (by simp [tipstafflaw26_PhaseNexts.l0])
     | succ k2 =>
      have H := HA.out
      clear HA
      simp only [tipstafflaw26_PhaseNexts.l0] at H
      by_cases c17 : x14_2 ≤ t303
      ·rw [if_pos c17] at H
       have c17b0 : decide (x14_2 ≤ t303) = true := decide_eq_true c17
       clear c17
       replace H := Option.bind_eq_some_iff.mp H
       obtain ⟨⟨t305, t306, t307, t308, t309⟩, A180, H⟩ := H
       try dsimp only at H
       have A18 := Aside0.mk A180
       clear A180
       replace H := Option.bind_eq_some_iff.mp H
       obtain ⟨⟨t311, t312⟩, A190, H⟩ := H
       try dsimp only at H
       have A19 := Aside0.mk A190
       clear A190
       by_cases c20 : t309 = 0
       ·rw [if_pos c20] at H
        have c20b0 : (t309 == 0) = true := beq_iff_eq.mpr c20
        have c20b1 : (t309 != 0) = false := bne_eq_false_iff_eq.mpr c20
        clear c20
        by_cases c21 : t312 = 0
        ·rw [if_pos c21] at H
         have c21b0 : (t312 == 0) = true := beq_iff_eq.mpr c21
         have c21b1 : (t312 != 0) = false := bne_eq_false_iff_eq.mpr c21
         clear c21
         by_cases c22 : t306 = (wrap64 (1 + t302))
         ·rw [if_pos c22] at H
          have c22b0 : (t306 == (wrap64 (1 + t302))) = true := beq_iff_eq.mpr c22
          have c22b1 : (t306 != (wrap64 (1 + t302))) = false := bne_eq_false_iff_eq.mpr c22
          clear c22
          by_cases c23 : ((t308 == 0) != (x14_2 == t303)) = true
          ·rw [if_pos c23] at H
           exact absurd H (by simp)
          ·rw [if_neg c23] at H
           have c23b0 : ((t308 == 0) != (x14_2 == t303)) = false := by simpa using c23
           (try (have c23b1 : decide ((t308 == 0) = (x14_2 == t303)) = true := by simpa using c23))
           (try (have c23b2 : ((t308 == 0) == (x14_2 == t303)) = true := by simpa using c23))
           clear c23
           by_cases c24 : t306 = 2
           ·rw [if_pos c24] at H
            have c24b0 : (t306 == 2) = true := beq_iff_eq.mpr c24
            have c24b1 : (t306 != 2) = false := bne_eq_false_iff_eq.mpr c24
            clear c24
            by_cases c25 : (t311 != (t308 == 0)) = true
            ·rw [if_pos c25] at H
             exact absurd H (by simp)
            ·rw [if_neg c25] at H
             have c25b0 : (t311 != (t308 == 0)) = false := by simpa using c25
             (try (have c25b1 : decide (t311 = (t308 == 0)) = true := by simpa using c25))
             (try (have c25b2 : (t311 == (t308 == 0)) = true := by simpa using c25))
             clear c25
             have H' := Aside0.mk H
             clear H
             have hcz26_0 : wr.cell? ⟨gb300, 0, none⟩ = some (.int .i64 t293) := (blk_cell BK300.out 0).trans rfl
             have hcz26_1 : wr.cell? ⟨gb300, 1, none⟩ = some (.int .i64 t294) := (blk_cell BK300.out 1).trans rfl
             have hcz26_2 : wr.cell? ⟨gb300, 2, none⟩ = some (.int .i64 t295) := (blk_cell BK300.out 2).trans rfl
             have hcz26_3 : wr.cell? ⟨gb300, 3, none⟩ = some (.int .i64 t296) := (blk_cell BK300.out 3).trans rfl
             have hcz26_4 : wr.cell? ⟨gb300, 4, none⟩ = some (.int .i64 t297) := (blk_cell BK300.out 4).trans rfl
             have hfz26_0 := blk_frozen BK300.out 0
             have hfz26_1 := blk_frozen BK300.out 1
             have hfz26_2 := blk_frozen BK300.out 2
             have hfz26_3 := blk_frozen BK300.out 3
             have hfz26_4 := blk_frozen BK300.out 4
             go_wp2_with (first | ((with_reducible refine gate_callee (f := 15) rfl ?_); refine goesL_ (some 66) rfl rfl Try.func15 (by kernel_rfl) rfl #[.agg #[.int .i64 t293, .int .i64 t294, .int .i64 t295, .int .i64 t296, .int .i64 t297], .int .i64 x14_2] rfl (by (try simp only [List.map_toArray, List.map_cons, List.map_nil]); first | done | rfl | (simp only [List.length_drop, List.length_take]; rfl)) ?_; (with_reducible refine (phase_Of.calls k2 t293 t294 t295 t296 t297 x14_2 t305 t306 t307 t308 t309 _ A18.out).mono ?_); rintro e w27 ⟨rfl, hb⟩; refine ⟨_, rfl, ?_⟩; have n0_ := Aside0.mk (blk_below (g := gb300) (o := .cells #[.int .i64 t293, .int .i64 t294, .int .i64 t295, .int .i64 t296, .int .i64 t297] 23 (0, 0)) (by (with_reducible repeat (first | refine blk_drewN ?_ _ | refine blk_drew ?_ | refine blk_alloc ?_ _)); exact BK300.out) hb); have n1_ := Aside0.mk (below_step (by repeat (first | (with_reducible first | exact HB.out | apply below_alloc | apply pw_below_drewN | apply below_drew1 | refine below_set ?_ GE300.out) | exact HB.out)) hb); clear BK300; clear HB; have BK300 := n0_; have HB := n1_; clear n0_ n1_; (try clear hb); (try clear hb2); (try clear hk); (try clear hi)) | ((with_reducible refine gate_dst (N := 15) rfl ?_); refine box_event ?hg (N := 15) ?hd (cs := #[.int .i64 0, .int .i64 0, .int .i64 0, .int .i64 0]) (t := 25) ?hr ?_; (case hd => rfl); (case hg => rfl); (case hr => first | (go_simp; done) | (go_simp; rfl)); intro gb310 hg w28 hbox hb; have n0_ := Aside0.mk (blk_below (g := gb300) (o := .cells #[.int .i64 t293, .int .i64 t294, .int .i64 t295, .int .i64 t296, .int .i64 t297] 23 (0, 0)) (by (with_reducible repeat (first | refine blk_drewN ?_ _ | refine blk_drew ?_ | refine blk_alloc ?_ _)); exact BK300.out) hb); have n1_ := Aside0.mk (below_step (by repeat (first | (with_reducible first | exact HB.out | apply below_alloc | apply pw_below_drewN | apply below_drew1 | refine below_set ?_ GE300.out) | exact HB.out)) hb); have n2_ := Aside0.mk (hbox); have n3_ := Aside0.mk ((by rw [hg]; exact (below_size (by repeat (first | (with_reducible first | exact HB.out | apply below_alloc | apply pw_below_drewN | apply below_drew1 | refine below_set ?_ GE300.out) | exact HB.out))) : w.heap.size ≤ gb310)); have n4_ := Aside0.mk ((by rw [hg]; exact (below_size (by repeat (first | (with_reducible first | exact HB.out | apply below_alloc | apply pw_below_drewN | apply below_drew1 | refine below_set ?_ GE300.out) | exact HB.out))) : w.heap.size ≤ gb310)); have n5_ := Aside0.mk ((by rw [hg]; exact Nat.ne_of_lt (blk_lt (g := gb300) (o := .cells #[.int .i64 t293, .int .i64 t294, .int .i64 t295, .int .i64 t296, .int .i64 t297] 23 (0, 0)) (by (with_reducible repeat (first | refine blk_drewN ?_ _ | refine blk_drew ?_ | refine blk_alloc ?_ _)); exact BK300.out)) : gb300 ≠ gb310)); have n6_ := Aside0.mk ((by rw [hg]; exact Nat.ne_of_gt (blk_lt (g := gb300) (o := .cells #[.int .i64 t293, .int .i64 t294, .int .i64 t295, .int .i64 t296, .int .i64 t297] 23 (0, 0)) (by (with_reducible repeat (first | refine blk_drewN ?_ _ | refine blk_drew ?_ | refine blk_alloc ?_ _)); exact BK300.out)) : gb310 ≠ gb300)); clear BK300; clear HB; have BK300 := n0_; have HB := n1_; have BK310 := n2_; have GW310 := n3_; have GE310 := n4_; have NB300_310 := n5_; have NB310_300 := n6_; clear n0_ n1_ n2_ n3_ n4_ n5_ n6_; clear hb hbox hg; have hnb29 := NB310_300.out; have hnc29 := NB300_310.out; have hcz30_0 : w28.cell? ⟨gb310, 0, none⟩ = some (.int .i64 0) := (blk_cell BK310.out 0).trans rfl; have hcz30_1 : w28.cell? ⟨gb310, 1, none⟩ = some (.int .i64 0) := (blk_cell BK310.out 1).trans rfl; have hcz30_2 : w28.cell? ⟨gb310, 2, none⟩ = some (.int .i64 0) := (blk_cell BK310.out 2).trans rfl; have hcz30_3 : w28.cell? ⟨gb310, 3, none⟩ = some (.int .i64 0) := (blk_cell BK310.out 3).trans rfl; have hfz30_0 := blk_frozen BK310.out 0; have hfz30_1 := blk_frozen BK310.out 1; have hfz30_2 := blk_frozen BK310.out 2; have hfz30_3 := blk_frozen BK310.out 3; have hcz31_0 : w28.cell? ⟨gb300, 0, none⟩ = some (.int .i64 t293) := (blk_cell BK300.out 0).trans rfl; have hcz31_1 : w28.cell? ⟨gb300, 1, none⟩ = some (.int .i64 t294) := (blk_cell BK300.out 1).trans rfl; have hcz31_2 : w28.cell? ⟨gb300, 2, none⟩ = some (.int .i64 t295) := (blk_cell BK300.out 2).trans rfl; have hcz31_3 : w28.cell? ⟨gb300, 3, none⟩ = some (.int .i64 t296) := (blk_cell BK300.out 3).trans rfl; have hcz31_4 : w28.cell? ⟨gb300, 4, none⟩ = some (.int .i64 t297) := (blk_cell BK300.out 4).trans rfl; have hfz31_0 := blk_frozen BK300.out 0; have hfz31_1 := blk_frozen BK300.out 1; have hfz31_2 := blk_frozen BK300.out 2; have hfz31_3 := blk_frozen BK300.out 3; have hfz31_4 := blk_frozen BK300.out 4) | ((with_reducible refine gate_callee (f := 25) rfl ?_); refine goesL_ (some 72) rfl rfl Try.func25 (by kernel_rfl) rfl #[.agg #[.int .i64 t293, .int .i64 t294, .int .i64 t295, .int .i64 t296, .int .i64 t297], .int .i64 x14_2] rfl (by (try simp only [List.map_toArray, List.map_cons, List.map_nil]); first | done | rfl | (simp only [List.length_drop, List.length_take]; rfl)) ?_; (with_reducible refine (phase_Decision.calls k2 t293 t294 t295 t296 t297 x14_2 t311 t312 _ A19.out).mono ?_); rintro e w32 ⟨rfl, hb⟩; refine ⟨_, rfl, ?_⟩; have n0_ := Aside0.mk (blk_below (g := gb300) (o := .cells #[.int .i64 t293, .int .i64 t294, .int .i64 t295, .int .i64 t296, .int .i64 t297] 23 (0, 0)) (by (with_reducible repeat (first | refine blk_drewN ?_ _ | refine blk_drew ?_ | refine blk_alloc ?_ _)); refine blk_far ?_ NB300_310.out _; (with_reducible repeat (first | refine blk_drewN ?_ _ | refine blk_drew ?_ | refine blk_alloc ?_ _)); refine blk_far ?_ NB300_310.out _; (with_reducible repeat (first | refine blk_drewN ?_ _ | refine blk_drew ?_ | refine blk_alloc ?_ _)); refine blk_far ?_ NB300_310.out _; (with_reducible repeat (first | refine blk_drewN ?_ _ | refine blk_drew ?_ | refine blk_alloc ?_ _)); refine blk_far ?_ NB300_310.out _; (with_reducible repeat (first | refine blk_drewN ?_ _ | refine blk_drew ?_ | refine blk_alloc ?_ _)); exact BK300.out) hb); have n1_ := Aside0.mk (blk_below (g := gb310) (o := .cells #[.int .i64 t305, .int .i64 t306, .int .i64 t307, .int .i64 t308] 25 (0, 0)) (by (with_reducible repeat (first | refine blk_drewN ?_ _ | refine blk_drew ?_ | refine blk_alloc ?_ _)); refine blk_put (cs := #[.int .i64 t305, .int .i64 t306, .int .i64 t307, .int .i64 0]) ?_ 3 _ rfl; (with_reducible repeat (first | refine blk_drewN ?_ _ | refine blk_drew ?_ | refine blk_alloc ?_ _)); refine blk_put (cs := #[.int .i64 t305, .int .i64 t306, .int .i64 0, .int .i64 0]) ?_ 2 _ rfl; (with_reducible repeat (first | refine blk_drewN ?_ _ | refine blk_drew ?_ | refine blk_alloc ?_ _)); refine blk_put (cs := #[.int .i64 t305, .int .i64 0, .int .i64 0, .int .i64 0]) ?_ 1 _ rfl; (with_reducible repeat (first | refine blk_drewN ?_ _ | refine blk_drew ?_ | refine blk_alloc ?_ _)); refine blk_put (cs := #[.int .i64 0, .int .i64 0, .int .i64 0, .int .i64 0]) ?_ 0 _ rfl; (with_reducible repeat (first | refine blk_drewN ?_ _ | refine blk_drew ?_ | refine blk_alloc ?_ _)); exact BK310.out) hb); have n2_ := Aside0.mk (below_step (by repeat (first | (with_reducible first | exact HB.out | apply below_alloc | apply pw_below_drewN | apply below_drew1 | refine below_set ?_ GE300.out | refine below_set ?_ GE310.out) | exact HB.out)) hb); clear BK300; clear BK310; clear HB; have BK300 := n0_; have BK310 := n1_; have HB := n2_; clear n0_ n1_ n2_; (try clear hb); (try clear hb2); (try clear hk); (try clear hi); have hcz33_0 : w32.cell? ⟨gb310, 0, none⟩ = some (.int .i64 t305) := (blk_cell BK310.out 0).trans rfl; have hcz33_1 : w32.cell? ⟨gb310, 1, none⟩ = some (.int .i64 t306) := (blk_cell BK310.out 1).trans rfl; have hcz33_2 : w32.cell? ⟨gb310, 2, none⟩ = some (.int .i64 t307) := (blk_cell BK310.out 2).trans rfl; have hcz33_3 : w32.cell? ⟨gb310, 3, none⟩ = some (.int .i64 t308) := (blk_cell BK310.out 3).trans rfl; have hfz33_0 := blk_frozen BK310.out 0; have hfz33_1 := blk_frozen BK310.out 1; have hfz33_2 := blk_frozen BK310.out 2; have hfz33_3 := blk_frozen BK310.out 3))
             go_roundg k2
             case measure => have := HJ7.out; have := HK2.out; omega
             case rel => exact ⟨(wrap64 (x14_2 + 1)), (by first | rfl | (simp; done) | (simp [*]; done)), H', ⟨by have := HJ7.out; have := HK2.out; omega⟩, ⟨by (with_reducible repeat (first | refine blk_drewN ?_ _ | refine blk_drew ?_ | refine blk_alloc ?_ _)); exact BK300.out⟩, ⟨by repeat (first | (with_reducible first | exact HB.out | apply below_alloc | apply pw_below_drewN | apply below_drew1 | refine below_set ?_ GE300.out | refine below_set ?_ GE310.out) | exact HB.out)⟩⟩
           ·rw [if_neg c24] at H
            have c24b0 : (t306 == 2) = false := beq_eq_false_iff_ne.mpr c24
            have c24b1 : (t306 != 2) = true := bne_iff_ne.mpr c24
            by_cases c34 : (t311 != false) = true
            ·rw [if_pos c34] at H
             exact absurd H (by simp)
            ·rw [if_neg c34] at H
             have c34b0 : (t311 != false) = false := by simpa using c34
             (try (have c34b1 : decide (t311 = false) = true := by simpa using c34))
             (try (have c34b2 : (t311 == false) = true := by simpa using c34))
             clear c34
             have H' := Aside0.mk H
             clear H
             have hcz35_0 : wr.cell? ⟨gb300, 0, none⟩ = some (.int .i64 t293) := (blk_cell BK300.out 0).trans rfl
             have hcz35_1 : wr.cell? ⟨gb300, 1, none⟩ = some (.int .i64 t294) := (blk_cell BK300.out 1).trans rfl
             have hcz35_2 : wr.cell? ⟨gb300, 2, none⟩ = some (.int .i64 t295) := (blk_cell BK300.out 2).trans rfl
             have hcz35_3 : wr.cell? ⟨gb300, 3, none⟩ = some (.int .i64 t296) := (blk_cell BK300.out 3).trans rfl
             have hcz35_4 : wr.cell? ⟨gb300, 4, none⟩ = some (.int .i64 t297) := (blk_cell BK300.out 4).trans rfl
             have hfz35_0 := blk_frozen BK300.out 0
             have hfz35_1 := blk_frozen BK300.out 1
             have hfz35_2 := blk_frozen BK300.out 2
             have hfz35_3 := blk_frozen BK300.out 3
             have hfz35_4 := blk_frozen BK300.out 4
             go_wp2_with (first | ((with_reducible refine gate_callee (f := 15) rfl ?_); refine goesL_ (some 66) rfl rfl Try.func15 (by kernel_rfl) rfl #[.agg #[.int .i64 t293, .int .i64 t294, .int .i64 t295, .int .i64 t296, .int .i64 t297], .int .i64 x14_2] rfl (by (try simp only [List.map_toArray, List.map_cons, List.map_nil]); first | done | rfl | (simp only [List.length_drop, List.length_take]; rfl)) ?_; (with_reducible refine (phase_Of.calls k2 t293 t294 t295 t296 t297 x14_2 t305 t306 t307 t308 t309 _ A18.out).mono ?_); rintro e w36 ⟨rfl, hb⟩; refine ⟨_, rfl, ?_⟩; have n0_ := Aside0.mk (blk_below (g := gb300) (o := .cells #[.int .i64 t293, .int .i64 t294, .int .i64 t295, .int .i64 t296, .int .i64 t297] 23 (0, 0)) (by (with_reducible repeat (first | refine blk_drewN ?_ _ | refine blk_drew ?_ | refine blk_alloc ?_ _)); exact BK300.out) hb); have n1_ := Aside0.mk (below_step (by repeat (first | (with_reducible first | exact HB.out | apply below_alloc | apply pw_below_drewN | apply below_drew1 | refine below_set ?_ GE300.out) | exact HB.out)) hb); clear BK300; clear HB; have BK300 := n0_; have HB := n1_; clear n0_ n1_; (try clear hb); (try clear hb2); (try clear hk); (try clear hi)) | ((with_reducible refine gate_dst (N := 15) rfl ?_); refine box_event ?hg (N := 15) ?hd (cs := #[.int .i64 0, .int .i64 0, .int .i64 0, .int .i64 0]) (t := 25) ?hr ?_; (case hd => rfl); (case hg => rfl); (case hr => first | (go_simp; done) | (go_simp; rfl)); intro gb310 hg w37 hbox hb; have n0_ := Aside0.mk (blk_below (g := gb300) (o := .cells #[.int .i64 t293, .int .i64 t294, .int .i64 t295, .int .i64 t296, .int .i64 t297] 23 (0, 0)) (by (with_reducible repeat (first | refine blk_drewN ?_ _ | refine blk_drew ?_ | refine blk_alloc ?_ _)); exact BK300.out) hb); have n1_ := Aside0.mk (below_step (by repeat (first | (with_reducible first | exact HB.out | apply below_alloc | apply pw_below_drewN | apply below_drew1 | refine below_set ?_ GE300.out) | exact HB.out)) hb); have n2_ := Aside0.mk (hbox); have n3_ := Aside0.mk ((by rw [hg]; exact (below_size (by repeat (first | (with_reducible first | exact HB.out | apply below_alloc | apply pw_below_drewN | apply below_drew1 | refine below_set ?_ GE300.out) | exact HB.out))) : w.heap.size ≤ gb310)); have n4_ := Aside0.mk ((by rw [hg]; exact (below_size (by repeat (first | (with_reducible first | exact HB.out | apply below_alloc | apply pw_below_drewN | apply below_drew1 | refine below_set ?_ GE300.out) | exact HB.out))) : w.heap.size ≤ gb310)); have n5_ := Aside0.mk ((by rw [hg]; exact Nat.ne_of_lt (blk_lt (g := gb300) (o := .cells #[.int .i64 t293, .int .i64 t294, .int .i64 t295, .int .i64 t296, .int .i64 t297] 23 (0, 0)) (by (with_reducible repeat (first | refine blk_drewN ?_ _ | refine blk_drew ?_ | refine blk_alloc ?_ _)); exact BK300.out)) : gb300 ≠ gb310)); have n6_ := Aside0.mk ((by rw [hg]; exact Nat.ne_of_gt (blk_lt (g := gb300) (o := .cells #[.int .i64 t293, .int .i64 t294, .int .i64 t295, .int .i64 t296, .int .i64 t297] 23 (0, 0)) (by (with_reducible repeat (first | refine blk_drewN ?_ _ | refine blk_drew ?_ | refine blk_alloc ?_ _)); exact BK300.out)) : gb310 ≠ gb300)); clear BK300; clear HB; have BK300 := n0_; have HB := n1_; have BK310 := n2_; have GW310 := n3_; have GE310 := n4_; have NB300_310 := n5_; have NB310_300 := n6_; clear n0_ n1_ n2_ n3_ n4_ n5_ n6_; clear hb hbox hg; have hnb38 := NB310_300.out; have hnc38 := NB300_310.out; have hcz39_0 : w37.cell? ⟨gb310, 0, none⟩ = some (.int .i64 0) := (blk_cell BK310.out 0).trans rfl; have hcz39_1 : w37.cell? ⟨gb310, 1, none⟩ = some (.int .i64 0) := (blk_cell BK310.out 1).trans rfl; have hcz39_2 : w37.cell? ⟨gb310, 2, none⟩ = some (.int .i64 0) := (blk_cell BK310.out 2).trans rfl; have hcz39_3 : w37.cell? ⟨gb310, 3, none⟩ = some (.int .i64 0) := (blk_cell BK310.out 3).trans rfl; have hfz39_0 := blk_frozen BK310.out 0; have hfz39_1 := blk_frozen BK310.out 1; have hfz39_2 := blk_frozen BK310.out 2; have hfz39_3 := blk_frozen BK310.out 3; have hcz40_0 : w37.cell? ⟨gb300, 0, none⟩ = some (.int .i64 t293) := (blk_cell BK300.out 0).trans rfl; have hcz40_1 : w37.cell? ⟨gb300, 1, none⟩ = some (.int .i64 t294) := (blk_cell BK300.out 1).trans rfl; have hcz40_2 : w37.cell? ⟨gb300, 2, none⟩ = some (.int .i64 t295) := (blk_cell BK300.out 2).trans rfl; have hcz40_3 : w37.cell? ⟨gb300, 3, none⟩ = some (.int .i64 t296) := (blk_cell BK300.out 3).trans rfl; have hcz40_4 : w37.cell? ⟨gb300, 4, none⟩ = some (.int .i64 t297) := (blk_cell BK300.out 4).trans rfl; have hfz40_0 := blk_frozen BK300.out 0; have hfz40_1 := blk_frozen BK300.out 1; have hfz40_2 := blk_frozen BK300.out 2; have hfz40_3 := blk_frozen BK300.out 3; have hfz40_4 := blk_frozen BK300.out 4) | ((with_reducible refine gate_callee (f := 25) rfl ?_); refine goesL_ (some 72) rfl rfl Try.func25 (by kernel_rfl) rfl #[.agg #[.int .i64 t293, .int .i64 t294, .int .i64 t295, .int .i64 t296, .int .i64 t297], .int .i64 x14_2] rfl (by (try simp only [List.map_toArray, List.map_cons, List.map_nil]); first | done | rfl | (simp only [List.length_drop, List.length_take]; rfl)) ?_; (with_reducible refine (phase_Decision.calls k2 t293 t294 t295 t296 t297 x14_2 t311 t312 _ A19.out).mono ?_); rintro e w41 ⟨rfl, hb⟩; refine ⟨_, rfl, ?_⟩; have n0_ := Aside0.mk (blk_below (g := gb300) (o := .cells #[.int .i64 t293, .int .i64 t294, .int .i64 t295, .int .i64 t296, .int .i64 t297] 23 (0, 0)) (by (with_reducible repeat (first | refine blk_drewN ?_ _ | refine blk_drew ?_ | refine blk_alloc ?_ _)); refine blk_far ?_ NB300_310.out _; (with_reducible repeat (first | refine blk_drewN ?_ _ | refine blk_drew ?_ | refine blk_alloc ?_ _)); refine blk_far ?_ NB300_310.out _; (with_reducible repeat (first | refine blk_drewN ?_ _ | refine blk_drew ?_ | refine blk_alloc ?_ _)); refine blk_far ?_ NB300_310.out _; (with_reducible repeat (first | refine blk_drewN ?_ _ | refine blk_drew ?_ | refine blk_alloc ?_ _)); refine blk_far ?_ NB300_310.out _; (with_reducible repeat (first | refine blk_drewN ?_ _ | refine blk_drew ?_ | refine blk_alloc ?_ _)); exact BK300.out) hb); have n1_ := Aside0.mk (blk_below (g := gb310) (o := .cells #[.int .i64 t305, .int .i64 t306, .int .i64 t307, .int .i64 t308] 25 (0, 0)) (by (with_reducible repeat (first | refine blk_drewN ?_ _ | refine blk_drew ?_ | refine blk_alloc ?_ _)); refine blk_put (cs := #[.int .i64 t305, .int .i64 t306, .int .i64 t307, .int .i64 0]) ?_ 3 _ rfl; (with_reducible repeat (first | refine blk_drewN ?_ _ | refine blk_drew ?_ | refine blk_alloc ?_ _)); refine blk_put (cs := #[.int .i64 t305, .int .i64 t306, .int .i64 0, .int .i64 0]) ?_ 2 _ rfl; (with_reducible repeat (first | refine blk_drewN ?_ _ | refine blk_drew ?_ | refine blk_alloc ?_ _)); refine blk_put (cs := #[.int .i64 t305, .int .i64 0, .int .i64 0, .int .i64 0]) ?_ 1 _ rfl; (with_reducible repeat (first | refine blk_drewN ?_ _ | refine blk_drew ?_ | refine blk_alloc ?_ _)); refine blk_put (cs := #[.int .i64 0, .int .i64 0, .int .i64 0, .int .i64 0]) ?_ 0 _ rfl; (with_reducible repeat (first | refine blk_drewN ?_ _ | refine blk_drew ?_ | refine blk_alloc ?_ _)); exact BK310.out) hb); have n2_ := Aside0.mk (below_step (by repeat (first | (with_reducible first | exact HB.out | apply below_alloc | apply pw_below_drewN | apply below_drew1 | refine below_set ?_ GE300.out | refine below_set ?_ GE310.out) | exact HB.out)) hb); clear BK300; clear BK310; clear HB; have BK300 := n0_; have BK310 := n1_; have HB := n2_; clear n0_ n1_ n2_; (try clear hb); (try clear hb2); (try clear hk); (try clear hi); have hcz42_0 : w41.cell? ⟨gb310, 0, none⟩ = some (.int .i64 t305) := (blk_cell BK310.out 0).trans rfl; have hcz42_1 : w41.cell? ⟨gb310, 1, none⟩ = some (.int .i64 t306) := (blk_cell BK310.out 1).trans rfl; have hcz42_2 : w41.cell? ⟨gb310, 2, none⟩ = some (.int .i64 t307) := (blk_cell BK310.out 2).trans rfl; have hcz42_3 : w41.cell? ⟨gb310, 3, none⟩ = some (.int .i64 t308) := (blk_cell BK310.out 3).trans rfl; have hfz42_0 := blk_frozen BK310.out 0; have hfz42_1 := blk_frozen BK310.out 1; have hfz42_2 := blk_frozen BK310.out 2; have hfz42_3 := blk_frozen BK310.out 3))
             go_roundg k2
             case measure => have := HJ7.out; have := HK2.out; omega
             case rel => exact ⟨(wrap64 (x14_2 + 1)), (by first | rfl | (simp; done) | (simp [*]; done)), H', ⟨by have := HJ7.out; have := HK2.out; omega⟩, ⟨by (with_reducible repeat (first | refine blk_drewN ?_ _ | refine blk_drew ?_ | refine blk_alloc ?_ _)); exact BK300.out⟩, ⟨by repeat (first | (with_reducible first | exact HB.out | apply below_alloc | apply pw_below_drewN | apply below_drew1 | refine below_set ?_ GE300.out | refine below_set ?_ GE310.out) | exact HB.out)⟩⟩
         ·rw [if_neg c22] at H
          have c22b0 : (t306 == (wrap64 (1 + t302))) = false := beq_eq_false_iff_ne.mpr c22
          have c22b1 : (t306 != (wrap64 (1 + t302))) = true := bne_iff_ne.mpr c22
          by_cases c43 : (false != (x14_2 == t303)) = true
          ·rw [if_pos c43] at H
           exact absurd H (by simp)
          ·rw [if_neg c43] at H
           have c43b0 : (false != (x14_2 == t303)) = false := by simpa using c43
           (try (have c43b1 : decide (false = (x14_2 == t303)) = true := by simpa using c43))
           (try (have c43b2 : (false == (x14_2 == t303)) = true := by simpa using c43))
           clear c43
           by_cases c44 : t306 = 2
           ·rw [if_pos c44] at H
            have c44b0 : (t306 == 2) = true := beq_iff_eq.mpr c44
            have c44b1 : (t306 != 2) = false := bne_eq_false_iff_eq.mpr c44
            clear c44
            by_cases c45 : (t311 != (t308 == 0)) = true
            ·rw [if_pos c45] at H
             exact absurd H (by simp)
            ·rw [if_neg c45] at H
             have c45b0 : (t311 != (t308 == 0)) = false := by simpa using c45
             (try (have c45b1 : decide (t311 = (t308 == 0)) = true := by simpa using c45))
             (try (have c45b2 : (t311 == (t308 == 0)) = true := by simpa using c45))
             clear c45
             have H' := Aside0.mk H
             clear H
             have hcz46_0 : wr.cell? ⟨gb300, 0, none⟩ = some (.int .i64 t293) := (blk_cell BK300.out 0).trans rfl
             have hcz46_1 : wr.cell? ⟨gb300, 1, none⟩ = some (.int .i64 t294) := (blk_cell BK300.out 1).trans rfl
             have hcz46_2 : wr.cell? ⟨gb300, 2, none⟩ = some (.int .i64 t295) := (blk_cell BK300.out 2).trans rfl
             have hcz46_3 : wr.cell? ⟨gb300, 3, none⟩ = some (.int .i64 t296) := (blk_cell BK300.out 3).trans rfl
             have hcz46_4 : wr.cell? ⟨gb300, 4, none⟩ = some (.int .i64 t297) := (blk_cell BK300.out 4).trans rfl
             have hfz46_0 := blk_frozen BK300.out 0
             have hfz46_1 := blk_frozen BK300.out 1
             have hfz46_2 := blk_frozen BK300.out 2
             have hfz46_3 := blk_frozen BK300.out 3
             have hfz46_4 := blk_frozen BK300.out 4
             go_wp2_with (first | ((with_reducible refine gate_callee (f := 15) rfl ?_); refine goesL_ (some 66) rfl rfl Try.func15 (by kernel_rfl) rfl #[.agg #[.int .i64 t293, .int .i64 t294, .int .i64 t295, .int .i64 t296, .int .i64 t297], .int .i64 x14_2] rfl (by (try simp only [List.map_toArray, List.map_cons, List.map_nil]); first | done | rfl | (simp only [List.length_drop, List.length_take]; rfl)) ?_; (with_reducible refine (phase_Of.calls k2 t293 t294 t295 t296 t297 x14_2 t305 t306 t307 t308 t309 _ A18.out).mono ?_); rintro e w47 ⟨rfl, hb⟩; refine ⟨_, rfl, ?_⟩; have n0_ := Aside0.mk (blk_below (g := gb300) (o := .cells #[.int .i64 t293, .int .i64 t294, .int .i64 t295, .int .i64 t296, .int .i64 t297] 23 (0, 0)) (by (with_reducible repeat (first | refine blk_drewN ?_ _ | refine blk_drew ?_ | refine blk_alloc ?_ _)); exact BK300.out) hb); have n1_ := Aside0.mk (below_step (by repeat (first | (with_reducible first | exact HB.out | apply below_alloc | apply pw_below_drewN | apply below_drew1 | refine below_set ?_ GE300.out) | exact HB.out)) hb); clear BK300; clear HB; have BK300 := n0_; have HB := n1_; clear n0_ n1_; (try clear hb); (try clear hb2); (try clear hk); (try clear hi)) | ((with_reducible refine gate_dst (N := 15) rfl ?_); refine box_event ?hg (N := 15) ?hd (cs := #[.int .i64 0, .int .i64 0, .int .i64 0, .int .i64 0]) (t := 25) ?hr ?_; (case hd => rfl); (case hg => rfl); (case hr => first | (go_simp; done) | (go_simp; rfl)); intro gb310 hg w48 hbox hb; have n0_ := Aside0.mk (blk_below (g := gb300) (o := .cells #[.int .i64 t293, .int .i64 t294, .int .i64 t295, .int .i64 t296, .int .i64 t297] 23 (0, 0)) (by (with_reducible repeat (first | refine blk_drewN ?_ _ | refine blk_drew ?_ | refine blk_alloc ?_ _)); exact BK300.out) hb); have n1_ := Aside0.mk (below_step (by repeat (first | (with_reducible first | exact HB.out | apply below_alloc | apply pw_below_drewN | apply below_drew1 | refine below_set ?_ GE300.out) | exact HB.out)) hb); have n2_ := Aside0.mk (hbox); have n3_ := Aside0.mk ((by rw [hg]; exact (below_size (by repeat (first | (with_reducible first | exact HB.out | apply below_alloc | apply pw_below_drewN | apply below_drew1 | refine below_set ?_ GE300.out) | exact HB.out))) : w.heap.size ≤ gb310)); have n4_ := Aside0.mk ((by rw [hg]; exact (below_size (by repeat (first | (with_reducible first | exact HB.out | apply below_alloc | apply pw_below_drewN | apply below_drew1 | refine below_set ?_ GE300.out) | exact HB.out))) : w.heap.size ≤ gb310)); have n5_ := Aside0.mk ((by rw [hg]; exact Nat.ne_of_lt (blk_lt (g := gb300) (o := .cells #[.int .i64 t293, .int .i64 t294, .int .i64 t295, .int .i64 t296, .int .i64 t297] 23 (0, 0)) (by (with_reducible repeat (first | refine blk_drewN ?_ _ | refine blk_drew ?_ | refine blk_alloc ?_ _)); exact BK300.out)) : gb300 ≠ gb310)); have n6_ := Aside0.mk ((by rw [hg]; exact Nat.ne_of_gt (blk_lt (g := gb300) (o := .cells #[.int .i64 t293, .int .i64 t294, .int .i64 t295, .int .i64 t296, .int .i64 t297] 23 (0, 0)) (by (with_reducible repeat (first | refine blk_drewN ?_ _ | refine blk_drew ?_ | refine blk_alloc ?_ _)); exact BK300.out)) : gb310 ≠ gb300)); clear BK300; clear HB; have BK300 := n0_; have HB := n1_; have BK310 := n2_; have GW310 := n3_; have GE310 := n4_; have NB300_310 := n5_; have NB310_300 := n6_; clear n0_ n1_ n2_ n3_ n4_ n5_ n6_; clear hb hbox hg; have hnb49 := NB310_300.out; have hnc49 := NB300_310.out; have hcz50_0 : w48.cell? ⟨gb310, 0, none⟩ = some (.int .i64 0) := (blk_cell BK310.out 0).trans rfl; have hcz50_1 : w48.cell? ⟨gb310, 1, none⟩ = some (.int .i64 0) := (blk_cell BK310.out 1).trans rfl; have hcz50_2 : w48.cell? ⟨gb310, 2, none⟩ = some (.int .i64 0) := (blk_cell BK310.out 2).trans rfl; have hcz50_3 : w48.cell? ⟨gb310, 3, none⟩ = some (.int .i64 0) := (blk_cell BK310.out 3).trans rfl; have hfz50_0 := blk_frozen BK310.out 0; have hfz50_1 := blk_frozen BK310.out 1; have hfz50_2 := blk_frozen BK310.out 2; have hfz50_3 := blk_frozen BK310.out 3; have hcz51_0 : w48.cell? ⟨gb300, 0, none⟩ = some (.int .i64 t293) := (blk_cell BK300.out 0).trans rfl; have hcz51_1 : w48.cell? ⟨gb300, 1, none⟩ = some (.int .i64 t294) := (blk_cell BK300.out 1).trans rfl; have hcz51_2 : w48.cell? ⟨gb300, 2, none⟩ = some (.int .i64 t295) := (blk_cell BK300.out 2).trans rfl; have hcz51_3 : w48.cell? ⟨gb300, 3, none⟩ = some (.int .i64 t296) := (blk_cell BK300.out 3).trans rfl; have hcz51_4 : w48.cell? ⟨gb300, 4, none⟩ = some (.int .i64 t297) := (blk_cell BK300.out 4).trans rfl; have hfz51_0 := blk_frozen BK300.out 0; have hfz51_1 := blk_frozen BK300.out 1; have hfz51_2 := blk_frozen BK300.out 2; have hfz51_3 := blk_frozen BK300.out 3; have hfz51_4 := blk_frozen BK300.out 4) | ((with_reducible refine gate_callee (f := 25) rfl ?_); refine goesL_ (some 72) rfl rfl Try.func25 (by kernel_rfl) rfl #[.agg #[.int .i64 t293, .int .i64 t294, .int .i64 t295, .int .i64 t296, .int .i64 t297], .int .i64 x14_2] rfl (by (try simp only [List.map_toArray, List.map_cons, List.map_nil]); first | done | rfl | (simp only [List.length_drop, List.length_take]; rfl)) ?_; (with_reducible refine (phase_Decision.calls k2 t293 t294 t295 t296 t297 x14_2 t311 t312 _ A19.out).mono ?_); rintro e w52 ⟨rfl, hb⟩; refine ⟨_, rfl, ?_⟩; have n0_ := Aside0.mk (blk_below (g := gb300) (o := .cells #[.int .i64 t293, .int .i64 t294, .int .i64 t295, .int .i64 t296, .int .i64 t297] 23 (0, 0)) (by (with_reducible repeat (first | refine blk_drewN ?_ _ | refine blk_drew ?_ | refine blk_alloc ?_ _)); refine blk_far ?_ NB300_310.out _; (with_reducible repeat (first | refine blk_drewN ?_ _ | refine blk_drew ?_ | refine blk_alloc ?_ _)); refine blk_far ?_ NB300_310.out _; (with_reducible repeat (first | refine blk_drewN ?_ _ | refine blk_drew ?_ | refine blk_alloc ?_ _)); refine blk_far ?_ NB300_310.out _; (with_reducible repeat (first | refine blk_drewN ?_ _ | refine blk_drew ?_ | refine blk_alloc ?_ _)); refine blk_far ?_ NB300_310.out _; (with_reducible repeat (first | refine blk_drewN ?_ _ | refine blk_drew ?_ | refine blk_alloc ?_ _)); exact BK300.out) hb); have n1_ := Aside0.mk (blk_below (g := gb310) (o := .cells #[.int .i64 t305, .int .i64 t306, .int .i64 t307, .int .i64 t308] 25 (0, 0)) (by (with_reducible repeat (first | refine blk_drewN ?_ _ | refine blk_drew ?_ | refine blk_alloc ?_ _)); refine blk_put (cs := #[.int .i64 t305, .int .i64 t306, .int .i64 t307, .int .i64 0]) ?_ 3 _ rfl; (with_reducible repeat (first | refine blk_drewN ?_ _ | refine blk_drew ?_ | refine blk_alloc ?_ _)); refine blk_put (cs := #[.int .i64 t305, .int .i64 t306, .int .i64 0, .int .i64 0]) ?_ 2 _ rfl; (with_reducible repeat (first | refine blk_drewN ?_ _ | refine blk_drew ?_ | refine blk_alloc ?_ _)); refine blk_put (cs := #[.int .i64 t305, .int .i64 0, .int .i64 0, .int .i64 0]) ?_ 1 _ rfl; (with_reducible repeat (first | refine blk_drewN ?_ _ | refine blk_drew ?_ | refine blk_alloc ?_ _)); refine blk_put (cs := #[.int .i64 0, .int .i64 0, .int .i64 0, .int .i64 0]) ?_ 0 _ rfl; (with_reducible repeat (first | refine blk_drewN ?_ _ | refine blk_drew ?_ | refine blk_alloc ?_ _)); exact BK310.out) hb); have n2_ := Aside0.mk (below_step (by repeat (first | (with_reducible first | exact HB.out | apply below_alloc | apply pw_below_drewN | apply below_drew1 | refine below_set ?_ GE300.out | refine below_set ?_ GE310.out) | exact HB.out)) hb); clear BK300; clear BK310; clear HB; have BK300 := n0_; have BK310 := n1_; have HB := n2_; clear n0_ n1_ n2_; (try clear hb); (try clear hb2); (try clear hk); (try clear hi); have hcz53_0 : w52.cell? ⟨gb310, 0, none⟩ = some (.int .i64 t305) := (blk_cell BK310.out 0).trans rfl; have hcz53_1 : w52.cell? ⟨gb310, 1, none⟩ = some (.int .i64 t306) := (blk_cell BK310.out 1).trans rfl; have hcz53_2 : w52.cell? ⟨gb310, 2, none⟩ = some (.int .i64 t307) := (blk_cell BK310.out 2).trans rfl; have hcz53_3 : w52.cell? ⟨gb310, 3, none⟩ = some (.int .i64 t308) := (blk_cell BK310.out 3).trans rfl; have hfz53_0 := blk_frozen BK310.out 0; have hfz53_1 := blk_frozen BK310.out 1; have hfz53_2 := blk_frozen BK310.out 2; have hfz53_3 := blk_frozen BK310.out 3))
             go_roundg k2
             case measure => have := HJ7.out; have := HK2.out; omega
             case rel => exact ⟨(wrap64 (x14_2 + 1)), (by first | rfl | (simp; done) | (simp [*]; done)), H', ⟨by have := HJ7.out; have := HK2.out; omega⟩, ⟨by (with_reducible repeat (first | refine blk_drewN ?_ _ | refine blk_drew ?_ | refine blk_alloc ?_ _)); exact BK300.out⟩, ⟨by repeat (first | (with_reducible first | exact HB.out | apply below_alloc | apply pw_below_drewN | apply below_drew1 | refine below_set ?_ GE300.out | refine below_set ?_ GE310.out) | exact HB.out)⟩⟩
           ·rw [if_neg c44] at H
            have c44b0 : (t306 == 2) = false := beq_eq_false_iff_ne.mpr c44
            have c44b1 : (t306 != 2) = true := bne_iff_ne.mpr c44
            by_cases c54 : (t311 != false) = true
            ·rw [if_pos c54] at H
             exact absurd H (by simp)
            ·rw [if_neg c54] at H
             have c54b0 : (t311 != false) = false := by simpa using c54
             (try (have c54b1 : decide (t311 = false) = true := by simpa using c54))
             (try (have c54b2 : (t311 == false) = true := by simpa using c54))
             clear c54
             have H' := Aside0.mk H
             clear H
             have hcz55_0 : wr.cell? ⟨gb300, 0, none⟩ = some (.int .i64 t293) := (blk_cell BK300.out 0).trans rfl
             have hcz55_1 : wr.cell? ⟨gb300, 1, none⟩ = some (.int .i64 t294) := (blk_cell BK300.out 1).trans rfl
             have hcz55_2 : wr.cell? ⟨gb300, 2, none⟩ = some (.int .i64 t295) := (blk_cell BK300.out 2).trans rfl
             have hcz55_3 : wr.cell? ⟨gb300, 3, none⟩ = some (.int .i64 t296) := (blk_cell BK300.out 3).trans rfl
             have hcz55_4 : wr.cell? ⟨gb300, 4, none⟩ = some (.int .i64 t297) := (blk_cell BK300.out 4).trans rfl
             have hfz55_0 := blk_frozen BK300.out 0
             have hfz55_1 := blk_frozen BK300.out 1
             have hfz55_2 := blk_frozen BK300.out 2
             have hfz55_3 := blk_frozen BK300.out 3
             have hfz55_4 := blk_frozen BK300.out 4
             go_wp2_with (first | ((with_reducible refine gate_callee (f := 15) rfl ?_); refine goesL_ (some 66) rfl rfl Try.func15 (by kernel_rfl) rfl #[.agg #[.int .i64 t293, .int .i64 t294, .int .i64 t295, .int .i64 t296, .int .i64 t297], .int .i64 x14_2] rfl (by (try simp only [List.map_toArray, List.map_cons, List.map_nil]); first | done | rfl | (simp only [List.length_drop, List.length_take]; rfl)) ?_; (with_reducible refine (phase_Of.calls k2 t293 t294 t295 t296 t297 x14_2 t305 t306 t307 t308 t309 _ A18.out).mono ?_); rintro e w56 ⟨rfl, hb⟩; refine ⟨_, rfl, ?_⟩; have n0_ := Aside0.mk (blk_below (g := gb300) (o := .cells #[.int .i64 t293, .int .i64 t294, .int .i64 t295, .int .i64 t296, .int .i64 t297] 23 (0, 0)) (by (with_reducible repeat (first | refine blk_drewN ?_ _ | refine blk_drew ?_ | refine blk_alloc ?_ _)); exact BK300.out) hb); have n1_ := Aside0.mk (below_step (by repeat (first | (with_reducible first | exact HB.out | apply below_alloc | apply pw_below_drewN | apply below_drew1 | refine below_set ?_ GE300.out) | exact HB.out)) hb); clear BK300; clear HB; have BK300 := n0_; have HB := n1_; clear n0_ n1_; (try clear hb); (try clear hb2); (try clear hk); (try clear hi)) | ((with_reducible refine gate_dst (N := 15) rfl ?_); refine box_event ?hg (N := 15) ?hd (cs := #[.int .i64 0, .int .i64 0, .int .i64 0, .int .i64 0]) (t := 25) ?hr ?_; (case hd => rfl); (case hg => rfl); (case hr => first | (go_simp; done) | (go_simp; rfl)); intro gb310 hg w57 hbox hb; have n0_ := Aside0.mk (blk_below (g := gb300) (o := .cells #[.int .i64 t293, .int .i64 t294, .int .i64 t295, .int .i64 t296, .int .i64 t297] 23 (0, 0)) (by (with_reducible repeat (first | refine blk_drewN ?_ _ | refine blk_drew ?_ | refine blk_alloc ?_ _)); exact BK300.out) hb); have n1_ := Aside0.mk (below_step (by repeat (first | (with_reducible first | exact HB.out | apply below_alloc | apply pw_below_drewN | apply below_drew1 | refine below_set ?_ GE300.out) | exact HB.out)) hb); have n2_ := Aside0.mk (hbox); have n3_ := Aside0.mk ((by rw [hg]; exact (below_size (by repeat (first | (with_reducible first | exact HB.out | apply below_alloc | apply pw_below_drewN | apply below_drew1 | refine below_set ?_ GE300.out) | exact HB.out))) : w.heap.size ≤ gb310)); have n4_ := Aside0.mk ((by rw [hg]; exact (below_size (by repeat (first | (with_reducible first | exact HB.out | apply below_alloc | apply pw_below_drewN | apply below_drew1 | refine below_set ?_ GE300.out) | exact HB.out))) : w.heap.size ≤ gb310)); have n5_ := Aside0.mk ((by rw [hg]; exact Nat.ne_of_lt (blk_lt (g := gb300) (o := .cells #[.int .i64 t293, .int .i64 t294, .int .i64 t295, .int .i64 t296, .int .i64 t297] 23 (0, 0)) (by (with_reducible repeat (first | refine blk_drewN ?_ _ | refine blk_drew ?_ | refine blk_alloc ?_ _)); exact BK300.out)) : gb300 ≠ gb310)); have n6_ := Aside0.mk ((by rw [hg]; exact Nat.ne_of_gt (blk_lt (g := gb300) (o := .cells #[.int .i64 t293, .int .i64 t294, .int .i64 t295, .int .i64 t296, .int .i64 t297] 23 (0, 0)) (by (with_reducible repeat (first | refine blk_drewN ?_ _ | refine blk_drew ?_ | refine blk_alloc ?_ _)); exact BK300.out)) : gb310 ≠ gb300)); clear BK300; clear HB; have BK300 := n0_; have HB := n1_; have BK310 := n2_; have GW310 := n3_; have GE310 := n4_; have NB300_310 := n5_; have NB310_300 := n6_; clear n0_ n1_ n2_ n3_ n4_ n5_ n6_; clear hb hbox hg; have hnb58 := NB310_300.out; have hnc58 := NB300_310.out; have hcz59_0 : w57.cell? ⟨gb310, 0, none⟩ = some (.int .i64 0) := (blk_cell BK310.out 0).trans rfl; have hcz59_1 : w57.cell? ⟨gb310, 1, none⟩ = some (.int .i64 0) := (blk_cell BK310.out 1).trans rfl; have hcz59_2 : w57.cell? ⟨gb310, 2, none⟩ = some (.int .i64 0) := (blk_cell BK310.out 2).trans rfl; have hcz59_3 : w57.cell? ⟨gb310, 3, none⟩ = some (.int .i64 0) := (blk_cell BK310.out 3).trans rfl; have hfz59_0 := blk_frozen BK310.out 0; have hfz59_1 := blk_frozen BK310.out 1; have hfz59_2 := blk_frozen BK310.out 2; have hfz59_3 := blk_frozen BK310.out 3; have hcz60_0 : w57.cell? ⟨gb300, 0, none⟩ = some (.int .i64 t293) := (blk_cell BK300.out 0).trans rfl; have hcz60_1 : w57.cell? ⟨gb300, 1, none⟩ = some (.int .i64 t294) := (blk_cell BK300.out 1).trans rfl; have hcz60_2 : w57.cell? ⟨gb300, 2, none⟩ = some (.int .i64 t295) := (blk_cell BK300.out 2).trans rfl; have hcz60_3 : w57.cell? ⟨gb300, 3, none⟩ = some (.int .i64 t296) := (blk_cell BK300.out 3).trans rfl; have hcz60_4 : w57.cell? ⟨gb300, 4, none⟩ = some (.int .i64 t297) := (blk_cell BK300.out 4).trans rfl; have hfz60_0 := blk_frozen BK300.out 0; have hfz60_1 := blk_frozen BK300.out 1; have hfz60_2 := blk_frozen BK300.out 2; have hfz60_3 := blk_frozen BK300.out 3; have hfz60_4 := blk_frozen BK300.out 4) | ((with_reducible refine gate_callee (f := 25) rfl ?_); refine goesL_ (some 72) rfl rfl Try.func25 (by kernel_rfl) rfl #[.agg #[.int .i64 t293, .int .i64 t294, .int .i64 t295, .int .i64 t296, .int .i64 t297], .int .i64 x14_2] rfl (by (try simp only [List.map_toArray, List.map_cons, List.map_nil]); first | done | rfl | (simp only [List.length_drop, List.length_take]; rfl)) ?_; (with_reducible refine (phase_Decision.calls k2 t293 t294 t295 t296 t297 x14_2 t311 t312 _ A19.out).mono ?_); rintro e w61 ⟨rfl, hb⟩; refine ⟨_, rfl, ?_⟩; have n0_ := Aside0.mk (blk_below (g := gb300) (o := .cells #[.int .i64 t293, .int .i64 t294, .int .i64 t295, .int .i64 t296, .int .i64 t297] 23 (0, 0)) (by (with_reducible repeat (first | refine blk_drewN ?_ _ | refine blk_drew ?_ | refine blk_alloc ?_ _)); refine blk_far ?_ NB300_310.out _; (with_reducible repeat (first | refine blk_drewN ?_ _ | refine blk_drew ?_ | refine blk_alloc ?_ _)); refine blk_far ?_ NB300_310.out _; (with_reducible repeat (first | refine blk_drewN ?_ _ | refine blk_drew ?_ | refine blk_alloc ?_ _)); refine blk_far ?_ NB300_310.out _; (with_reducible repeat (first | refine blk_drewN ?_ _ | refine blk_drew ?_ | refine blk_alloc ?_ _)); refine blk_far ?_ NB300_310.out _; (with_reducible repeat (first | refine blk_drewN ?_ _ | refine blk_drew ?_ | refine blk_alloc ?_ _)); exact BK300.out) hb); have n1_ := Aside0.mk (blk_below (g := gb310) (o := .cells #[.int .i64 t305, .int .i64 t306, .int .i64 t307, .int .i64 t308] 25 (0, 0)) (by (with_reducible repeat (first | refine blk_drewN ?_ _ | refine blk_drew ?_ | refine blk_alloc ?_ _)); refine blk_put (cs := #[.int .i64 t305, .int .i64 t306, .int .i64 t307, .int .i64 0]) ?_ 3 _ rfl; (with_reducible repeat (first | refine blk_drewN ?_ _ | refine blk_drew ?_ | refine blk_alloc ?_ _)); refine blk_put (cs := #[.int .i64 t305, .int .i64 t306, .int .i64 0, .int .i64 0]) ?_ 2 _ rfl; (with_reducible repeat (first | refine blk_drewN ?_ _ | refine blk_drew ?_ | refine blk_alloc ?_ _)); refine blk_put (cs := #[.int .i64 t305, .int .i64 0, .int .i64 0, .int .i64 0]) ?_ 1 _ rfl; (with_reducible repeat (first | refine blk_drewN ?_ _ | refine blk_drew ?_ | refine blk_alloc ?_ _)); refine blk_put (cs := #[.int .i64 0, .int .i64 0, .int .i64 0, .int .i64 0]) ?_ 0 _ rfl; (with_reducible repeat (first | refine blk_drewN ?_ _ | refine blk_drew ?_ | refine blk_alloc ?_ _)); exact BK310.out) hb); have n2_ := Aside0.mk (below_step (by repeat (first | (with_reducible first | exact HB.out | apply below_alloc | apply pw_below_drewN | apply below_drew1 | refine below_set ?_ GE300.out | refine below_set ?_ GE310.out) | exact HB.out)) hb); clear BK300; clear BK310; clear HB; have BK300 := n0_; have BK310 := n1_; have HB := n2_; clear n0_ n1_ n2_; (try clear hb); (try clear hb2); (try clear hk); (try clear hi); have hcz62_0 : w61.cell? ⟨gb310, 0, none⟩ = some (.int .i64 t305) := (blk_cell BK310.out 0).trans rfl; have hcz62_1 : w61.cell? ⟨gb310, 1, none⟩ = some (.int .i64 t306) := (blk_cell BK310.out 1).trans rfl; have hcz62_2 : w61.cell? ⟨gb310, 2, none⟩ = some (.int .i64 t307) := (blk_cell BK310.out 2).trans rfl; have hcz62_3 : w61.cell? ⟨gb310, 3, none⟩ = some (.int .i64 t308) := (blk_cell BK310.out 3).trans rfl; have hfz62_0 := blk_frozen BK310.out 0; have hfz62_1 := blk_frozen BK310.out 1; have hfz62_2 := blk_frozen BK310.out 2; have hfz62_3 := blk_frozen BK310.out 3))
             go_roundg k2
             case measure => have := HJ7.out; have := HK2.out; omega
             case rel => exact ⟨(wrap64 (x14_2 + 1)), (by first | rfl | (simp; done) | (simp [*]; done)), H', ⟨by have := HJ7.out; have := HK2.out; omega⟩, ⟨by (with_reducible repeat (first | refine blk_drewN ?_ _ | refine blk_drew ?_ | refine blk_alloc ?_ _)); exact BK300.out⟩, ⟨by repeat (first | (with_reducible first | exact HB.out | apply below_alloc | apply pw_below_drewN | apply below_drew1 | refine below_set ?_ GE300.out | refine below_set ?_ GE310.out) | exact HB.out)⟩⟩
        ·rw [if_neg c21] at H
         exact absurd H (by simp)
       ·rw [if_neg c20] at H
        exact absurd H (by simp)
      ·rw [if_neg c17] at H
       have c17b0 : decide (x14_2 ≤ t303) = false := decide_eq_false c17
       clear c17
       by_cases c63 : (wrap64 (1 + t302)) = 2
       ·rw [if_pos c63] at H
        have c63b0 : ((wrap64 (1 + t302)) == 2) = true := beq_iff_eq.mpr c63
        have c63b1 : ((wrap64 (1 + t302)) != 2) = false := bne_eq_false_iff_eq.mpr c63
        clear c63
        replace H := Option.bind_eq_some_iff.mp H
        obtain ⟨⟨t313, t314⟩, A640, H⟩ := H
        replace H : (if t314 = 0 then (if (wrap64 (t313 - t303)) ≥ t295 then ((tipstafflaw26_awake.f k2).bind fun t315 => (some t315)) else (none)) else (none)) = some r := H
        have A64 := Aside0.mk A640
        clear A640
        by_cases c65 : t314 = 0
        ·rw [if_pos c65] at H
         have c65b0 : (t314 == 0) = true := beq_iff_eq.mpr c65
         have c65b1 : (t314 != 0) = false := bne_eq_false_iff_eq.mpr c65
         clear c65
         by_cases c66 : (wrap64 (t313 - t303)) ≥ t295
         ·rw [if_pos c66] at H
          have c66b0 : decide (t295 ≤ (wrap64 (t313 - t303))) = true := decide_eq_true c66
          clear c66
          replace H := Option.bind_eq_some_iff.mp H
          obtain ⟨t315, A670, H⟩ := H
          replace H : (some t315) = some r := H
          have A67 := Aside0.mk A670
          clear A670
          obtain rfl := Option.some.inj H
          have hcz68_0 : wr.cell? ⟨gb300, 0, none⟩ = some (.int .i64 t293) := (blk_cell BK300.out 0).trans rfl
          have hcz68_1 : wr.cell? ⟨gb300, 1, none⟩ = some (.int .i64 t294) := (blk_cell BK300.out 1).trans rfl
          have hcz68_2 : wr.cell? ⟨gb300, 2, none⟩ = some (.int .i64 t295) := (blk_cell BK300.out 2).trans rfl
          have hcz68_3 : wr.cell? ⟨gb300, 3, none⟩ = some (.int .i64 t296) := (blk_cell BK300.out 3).trans rfl
          have hcz68_4 : wr.cell? ⟨gb300, 4, none⟩ = some (.int .i64 t297) := (blk_cell BK300.out 4).trans rfl
          have hfz68_0 := blk_frozen BK300.out 0
          have hfz68_1 := blk_frozen BK300.out 1
          have hfz68_2 := blk_frozen BK300.out 2
          have hfz68_3 := blk_frozen BK300.out 3
          have hfz68_4 := blk_frozen BK300.out 4
          go_wp2_with (first | ((with_reducible refine gate_callee (f := 27) rfl ?_); refine goesL_ (some 115) rfl rfl Try.func27 (by kernel_rfl) rfl #[.agg #[.int .i64 t293, .int .i64 t294, .int .i64 t295, .int .i64 t296, .int .i64 t297], .int .i64 t303, .int .i64 (wrap64 (1 + t302))] rfl (by (try simp only [List.map_toArray, List.map_cons, List.map_nil]); first | done | rfl | (simp only [List.length_drop, List.length_take]; rfl)) ?_; (with_reducible refine (phase_Next.calls k2 t293 t294 t295 t296 t297 t303 (wrap64 (1 + t302)) t313 t314 _ A64.out).mono ?_); rintro e w69 ⟨rfl, hb⟩; refine ⟨_, rfl, ?_⟩; have n0_ := Aside0.mk (blk_below (g := gb300) (o := .cells #[.int .i64 t293, .int .i64 t294, .int .i64 t295, .int .i64 t296, .int .i64 t297] 23 (0, 0)) (by (with_reducible repeat (first | refine blk_drewN ?_ _ | refine blk_drew ?_ | refine blk_alloc ?_ _)); exact BK300.out) hb); have n1_ := Aside0.mk (below_step (by repeat (first | (with_reducible first | exact HB.out | apply below_alloc | apply pw_below_drewN | apply below_drew1 | refine below_set ?_ GE300.out) | exact HB.out)) hb); clear BK300; clear HB; have BK300 := n0_; have HB := n1_; clear n0_ n1_; (try clear hb); (try clear hb2); (try clear hk); (try clear hi); have hcz70_0 : w69.cell? ⟨gb300, 0, none⟩ = some (.int .i64 t293) := (blk_cell BK300.out 0).trans rfl; have hcz70_1 : w69.cell? ⟨gb300, 1, none⟩ = some (.int .i64 t294) := (blk_cell BK300.out 1).trans rfl; have hcz70_2 : w69.cell? ⟨gb300, 2, none⟩ = some (.int .i64 t295) := (blk_cell BK300.out 2).trans rfl; have hcz70_3 : w69.cell? ⟨gb300, 3, none⟩ = some (.int .i64 t296) := (blk_cell BK300.out 3).trans rfl; have hcz70_4 : w69.cell? ⟨gb300, 4, none⟩ = some (.int .i64 t297) := (blk_cell BK300.out 4).trans rfl; have hfz70_0 := blk_frozen BK300.out 0; have hfz70_1 := blk_frozen BK300.out 1; have hfz70_2 := blk_frozen BK300.out 2; have hfz70_3 := blk_frozen BK300.out 3; have hfz70_4 := blk_frozen BK300.out 4) | (go_at_call 12; (with_reducible refine (tipstafflaw26_awake.calls k2  t315 _ A67.out).mono ?_); rintro e w71 ⟨rfl, hb⟩; have n0_ := Aside0.mk (blk_below (g := gb300) (o := .cells #[.int .i64 t293, .int .i64 t294, .int .i64 t295, .int .i64 t296, .int .i64 t297] 23 (0, 0)) (by (with_reducible repeat (first | refine blk_drewN ?_ _ | refine blk_drew ?_ | refine blk_alloc ?_ _)); exact BK300.out) hb); have n1_ := Aside0.mk (below_step (by repeat (first | (with_reducible first | exact HB.out | apply below_alloc | apply pw_below_drewN | apply below_drew1 | refine below_set ?_ GE300.out) | exact HB.out)) hb); clear BK300; clear HB; have BK300 := n0_; have HB := n1_; clear n0_ n1_; (try clear hb); (try clear hb2); (try clear hk); (try clear hi)))
          go_ret
          exact ⟨by first | rfl | (simp [errW_none, errW_some] <;> rfl) | (simp [*, errW_none, errW_some] <;> rfl) | (simp (discharger := omega) only [Int.tdiv_eq_ediv_of_nonneg, Int.tmod_eq_emod_of_nonneg] <;> rfl), by repeat (first | (with_reducible first | exact HB.out | apply below_alloc | apply pw_below_drewN | apply below_drew1 | refine below_set ?_ GE300.out) | exact HB.out)⟩
         ·rw [if_neg c66] at H
          exact absurd H (by simp)
        ·rw [if_neg c65] at H
         exact absurd H (by simp)
       ·rw [if_neg c63] at H
        have c63b0 : ((wrap64 (1 + t302)) == 2) = false := beq_eq_false_iff_ne.mpr c63
        have c63b1 : ((wrap64 (1 + t302)) != 2) = true := bne_iff_ne.mpr c63
        replace H := Option.bind_eq_some_iff.mp H
        obtain ⟨t316, A720, H⟩ := H
        replace H : (some t316) = some r := H
        have A72 := Aside0.mk A720
        clear A720
        obtain rfl := Option.some.inj H
        go_wp2_with (first | ((with_reducible refine gate_callee (f := 12) rfl ?_); refine goesL_ (some 110) rfl rfl Try.func12 (by kernel_rfl) rfl #[] rfl (by (try simp only [List.map_toArray, List.map_cons, List.map_nil]); first | done | rfl | (simp only [List.length_drop, List.length_take]; rfl)) ?_; (with_reducible refine (tipstafflaw26_awake.calls k2  t316 _ A72.out).mono ?_); rintro e w73 ⟨rfl, hb⟩; refine ⟨_, rfl, ?_⟩; have n0_ := Aside0.mk (blk_below (g := gb300) (o := .cells #[.int .i64 t293, .int .i64 t294, .int .i64 t295, .int .i64 t296, .int .i64 t297] 23 (0, 0)) (by (with_reducible repeat (first | refine blk_drewN ?_ _ | refine blk_drew ?_ | refine blk_alloc ?_ _)); exact BK300.out) hb); have n1_ := Aside0.mk (below_step (by repeat (first | (with_reducible first | exact HB.out | apply below_alloc | apply pw_below_drewN | apply below_drew1 | refine below_set ?_ GE300.out) | exact HB.out)) hb); clear BK300; clear HB; have BK300 := n0_; have HB := n1_; clear n0_ n1_; (try clear hb); (try clear hb2); (try clear hk); (try clear hi)))
        go_ret
        exact ⟨by first | rfl | (simp [errW_none, errW_some] <;> rfl) | (simp [*, errW_none, errW_some] <;> rfl) | (simp (discharger := omega) only [Int.tdiv_eq_ediv_of_nonneg, Int.tmod_eq_emod_of_nonneg] <;> rfl), by repeat (first | (with_reducible first | exact HB.out | apply below_alloc | apply pw_below_drewN | apply below_drew1 | refine below_set ?_ GE300.out) | exact HB.out)⟩

/-- THE ONE PURE STATEMENT of tipstafflaw26_PhaseNexts: yours. -/
def tipstafflaw26_PhaseNexts.Pure : Prop := ∀ (a0 : Int) (a1 : Int) (a2 : Int), (Lit.int .i64 a0).wf = true → (Lit.int .i64 a1).wf = true → (Lit.int .i64 a2).wf = true → ∃ k, tipstafflaw26_PhaseNexts.f k a0 a1 a2 = some true
theorem tipstafflaw26_PhaseNexts.walk (P : tipstafflaw26_PhaseNexts.Pure) (a0 : Int) (a1 : Int) (a2 : Int) (w : World) (w0 : (Lit.int .i64 a0).wf = true) (w1 : (Lit.int .i64 a1).wf = true) (w2 : (Lit.int .i64 a2).wf = true) :
  Calls Try.prog 6 #[.int .i64 a0, .int .i64 a1, .int .i64 a2] w fun e w' => e = .returned (.bool true) ∧ Below w.heap.size w w' := by
 obtain ⟨k, h⟩ := P a0 a1 a2 w0 w1 w2
 refine (tipstafflaw26_PhaseNexts.calls k a0 a1 a2 true w h).mono ?_
 rintro e w' ⟨rfl, hd⟩
 exact ⟨rfl, hd⟩

end Go.Proofs.Ytlfeiadmkoocgaa.S
