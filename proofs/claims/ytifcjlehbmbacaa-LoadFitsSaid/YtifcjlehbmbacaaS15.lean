-- PRINTED by print.py (a twelfth state) out of the translation. Not trusted: Lean checks it.
import Derived.Test.YtifcjlehbmbacaaS0
import Derived.Test.YtifcjlehbmbacaaS2
import Derived.Test.YtifcjlehbmbacaaS7
import Derived.Test.YtifcjlehbmbacaaS10
import Derived.Test.YtifcjlehbmbacaaS13
namespace Go.Proofs.Ytifcjlehbmbacaa.S
open Go.RowKit Go.Proofs.YtifcjlehbmbacaaW.PrintWords Go.Proofs.YtifcjlehbmbacaaW.PrintLast Go.Proofs.YtifcjlehbmbacaaW.PrintMore
attribute [local go_sem] Go.Proofs.YtifcjlehbmbacaaW.PrintXtra.isSome_setCell max2_int min2_int max_two min_two max_three min_three max_four min_four   -- for this text's walks alone
set_option linter.unusedVariables false
set_option linter.unusedSimpArgs false

/-! ### tipstafflaw11_LoadFull: function 6 -/
def tipstafflaw11_LoadFull.j0 : Nat → Int → Int → Int → Int → Bool → Int → Int → Int → Option (Bool)
  | 0, _, _, _, _, _, _, _, _ => none
  | k + 1, x8, x9, x10, x12, x49, x224000, x224001, x224002 => if x49 = true then (some false) else (if x12 = 3 then (if x10 = 0 then ((tipstafflaw11_awake.f k).bind fun t228 => (some t228)) else (some false)) else ((load_Band.f k x224000 x224001 x224002 (wrap64 (x8 + (wrap64 (x10 * x9))))).bind fun bt229 => ((load_Band.f k x224000 x224001 x224002 (wrap64 (x8 + (wrap64 ((wrap64 (x10 + 1)) * x9))))).bind fun bt231 => (if bt229.2 = 0 then (if bt231.2 = 0 then (if bt229.1 = 3 then (some false) else (if bt231.1 = 3 then ((tipstafflaw11_awake.f k).bind fun t233 => (some t233)) else (some false))) else (some false)) else (some false)))))
def tipstafflaw11_LoadFull.f (k : Nat) (a0 : Int) (a1 : Int) (a2 : Int) : Option (Bool) := (tipstafflaw11_made.f a0).bind fun bt218 => ((tipstaffkit_Mod.f a1 200).bind fun t221 => ((tipstaffkit_Mod.f a2 60).bind fun t222 => ((load_Fit.f k bt218.1 bt218.2.1 bt218.2.2 t221 (wrap64 (1 + t222))).bind fun bt224 => ((load_Band.f k bt218.1 bt218.2.1 bt218.2.2 t221).bind fun bt226 => (if bt224.2 = 0 then (if bt226.2 = 0 then (if bt224.1 < 0 then (tipstafflaw11_LoadFull.j0 k t221 (wrap64 (1 + t222)) bt224.1 bt226.1 true bt218.1 bt218.2.1 bt218.2.2) else (tipstafflaw11_LoadFull.j0 k t221 (wrap64 (1 + t222)) bt224.1 bt226.1 (decide (bt224.1 > 300)) bt218.1 bt218.2.1 bt218.2.2)) else (tipstafflaw11_LoadFull.j0 k t221 (wrap64 (1 + t222)) bt224.1 bt226.1 true bt218.1 bt218.2.1 bt218.2.2)) else (tipstafflaw11_LoadFull.j0 k t221 (wrap64 (1 + t222)) bt224.1 bt226.1 true bt218.1 bt218.2.1 bt218.2.2))))))
theorem tipstafflaw11_LoadFull.mono_l : ∀ k, (∀ y0 y1 y2 y3 y4 y5 y6 y7, LeO (tipstafflaw11_LoadFull.j0 k y0 y1 y2 y3 y4 y5 y6 y7) (tipstafflaw11_LoadFull.j0 (k + 1) y0 y1 y2 y3 y4 y5 y6 y7))
  | 0 => fun _ _ _ _ _ _ _ _ r h => by simp [tipstafflaw11_LoadFull.j0] at h
  | k + 1 => by
    have ih0 := tipstafflaw11_LoadFull.mono_l k
    · intro y0 y1 y2 y3 y4 y5 y6 y7
      unfold tipstafflaw11_LoadFull.j0
      repeat' first
      | (with_reducible exact ih0 _ _ _ _ _ _ _ _)
      | (with_reducible exact load_Band.mono _ _ _ _ _)
      | (with_reducible exact load_Fit.mono _ _ _ _ _ _)
      | (with_reducible exact tipstafflaw11_awake.mono _)
      | (with_reducible exact LeO.refl _)
      | (with_reducible exact LeO.none _)
      | (with_reducible refine LeO.ite ?_ ?_)
      | (with_reducible refine LeO.bind ?_ (fun _ => ?_))
      | exact ih0 _ _ _ _ _ _ _ _
      | exact load_Band.mono _ _ _ _ _
      | exact load_Fit.mono _ _ _ _ _ _
      | exact tipstafflaw11_awake.mono _
      | exact LeO.none _
      | refine LeO.ite ?_ ?_
      | refine LeO.bind ?_ (fun _ => ?_)
theorem tipstafflaw11_LoadFull.mono : ∀ a0 a1 a2 k, LeO (tipstafflaw11_LoadFull.f k a0 a1 a2) (tipstafflaw11_LoadFull.f (k + 1) a0 a1 a2) := by
  intro a0 a1 a2 k
  have ih0 := tipstafflaw11_LoadFull.mono_l k
  unfold tipstafflaw11_LoadFull.f
  repeat' first
      | (with_reducible exact ih0 _ _ _ _ _ _ _ _)
      | (with_reducible exact load_Band.mono _ _ _ _ _)
      | (with_reducible exact load_Fit.mono _ _ _ _ _ _)
      | (with_reducible exact tipstafflaw11_awake.mono _)
      | (with_reducible exact LeO.refl _)
      | (with_reducible exact LeO.none _)
      | (with_reducible refine LeO.ite ?_ ?_)
      | (with_reducible refine LeO.bind ?_ (fun _ => ?_))
      | exact ih0 _ _ _ _ _ _ _ _
      | exact load_Band.mono _ _ _ _ _
      | exact load_Fit.mono _ _ _ _ _ _
      | exact tipstafflaw11_awake.mono _
      | exact LeO.none _
      | refine LeO.ite ?_ ?_
      | refine LeO.bind ?_ (fun _ => ?_)
set_option maxHeartbeats 8000000 in
set_option maxRecDepth 100000 in
theorem tipstafflaw11_LoadFull.calls (k : Nat) (a0 : Int) (a1 : Int) (a2 : Int) (r : Bool) (w : World) (h : tipstafflaw11_LoadFull.f k a0 a1 a2 = some r) :
    Calls Try.prog 6 #[.int .i64 a0, .int .i64 a1, .int .i64 a2] w fun e w' => e = .returned (.bool r) ∧ Below w.heap.size w w' := by
  have hu23 := Try.underlying23
  have HB := Aside0.mk (Below.refl w.heap.size w)
  have H : ((tipstafflaw11_made.f a0).bind fun bt218 => ((tipstaffkit_Mod.f a1 200).bind fun t221 => ((tipstaffkit_Mod.f a2 60).bind fun t222 => ((load_Fit.f k bt218.1 bt218.2.1 bt218.2.2 t221 (wrap64 (1 + t222))).bind fun bt224 => ((load_Band.f k bt218.1 bt218.2.1 bt218.2.2 t221).bind fun bt226 => (if bt224.2 = 0 then (if bt226.2 = 0 then (if bt224.1 < 0 then (tipstafflaw11_LoadFull.j0 k t221 (wrap64 (1 + t222)) bt224.1 bt226.1 true bt218.1 bt218.2.1 bt218.2.2) else (tipstafflaw11_LoadFull.j0 k t221 (wrap64 (1 + t222)) bt224.1 bt226.1 (decide (bt224.1 > 300)) bt218.1 bt218.2.1 bt218.2.2)) else (tipstafflaw11_LoadFull.j0 k t221 (wrap64 (1 + t222)) bt224.1 bt226.1 true bt218.1 bt218.2.1 bt218.2.2)) else (tipstafflaw11_LoadFull.j0 k t221 (wrap64 (1 + t222)) bt224.1 bt226.1 true bt218.1 bt218.2.1 bt218.2.2))))))) = some r := h
  clear h
  replace H := Option.bind_eq_some_iff.mp H
  obtain ⟨⟨t218, t219, t220⟩, A40, H⟩ := H
  replace H : ((tipstaffkit_Mod.f a1 200).bind fun t221 => ((tipstaffkit_Mod.f a2 60).bind fun t222 => ((load_Fit.f k t218 t219 t220 t221 (wrap64 (1 + t222))).bind fun bt224 => ((load_Band.f k t218 t219 t220 t221).bind fun bt226 => (if bt224.2 = 0 then (if bt226.2 = 0 then (if bt224.1 < 0 then (tipstafflaw11_LoadFull.j0 k t221 (wrap64 (1 + t222)) bt224.1 bt226.1 true t218 t219 t220) else (tipstafflaw11_LoadFull.j0 k t221 (wrap64 (1 + t222)) bt224.1 bt226.1 (decide (bt224.1 > 300)) t218 t219 t220)) else (tipstafflaw11_LoadFull.j0 k t221 (wrap64 (1 + t222)) bt224.1 bt226.1 true t218 t219 t220)) else (tipstafflaw11_LoadFull.j0 k t221 (wrap64 (1 + t222)) bt224.1 bt226.1 true t218 t219 t220)))))) = some r := H
  have A4 := Aside0.mk A40
  clear A40
  replace H := Option.bind_eq_some_iff.mp H
  obtain ⟨t221, A50, H⟩ := H
  replace H : ((tipstaffkit_Mod.f a2 60).bind fun t222 => ((load_Fit.f k t218 t219 t220 t221 (wrap64 (1 + t222))).bind fun bt224 => ((load_Band.f k t218 t219 t220 t221).bind fun bt226 => (if bt224.2 = 0 then (if bt226.2 = 0 then (if bt224.1 < 0 then (tipstafflaw11_LoadFull.j0 k t221 (wrap64 (1 + t222)) bt224.1 bt226.1 true t218 t219 t220) else (tipstafflaw11_LoadFull.j0 k t221 (wrap64 (1 + t222)) bt224.1 bt226.1 (decide (bt224.1 > 300)) t218 t219 t220)) else (tipstafflaw11_LoadFull.j0 k t221 (wrap64 (1 + t222)) bt224.1 bt226.1 true t218 t219 t220)) else (tipstafflaw11_LoadFull.j0 k t221 (wrap64 (1 + t222)) bt224.1 bt226.1 true t218 t219 t220))))) = some r := H
  have A5 := Aside0.mk A50
  clear A50
  replace H := Option.bind_eq_some_iff.mp H
  obtain ⟨t222, A60, H⟩ := H
  replace H : ((load_Fit.f k t218 t219 t220 t221 (wrap64 (1 + t222))).bind fun bt224 => ((load_Band.f k t218 t219 t220 t221).bind fun bt226 => (if bt224.2 = 0 then (if bt226.2 = 0 then (if bt224.1 < 0 then (tipstafflaw11_LoadFull.j0 k t221 (wrap64 (1 + t222)) bt224.1 bt226.1 true t218 t219 t220) else (tipstafflaw11_LoadFull.j0 k t221 (wrap64 (1 + t222)) bt224.1 bt226.1 (decide (bt224.1 > 300)) t218 t219 t220)) else (tipstafflaw11_LoadFull.j0 k t221 (wrap64 (1 + t222)) bt224.1 bt226.1 true t218 t219 t220)) else (tipstafflaw11_LoadFull.j0 k t221 (wrap64 (1 + t222)) bt224.1 bt226.1 true t218 t219 t220)))) = some r := H
  have A6 := Aside0.mk A60
  clear A60
  replace H := Option.bind_eq_some_iff.mp H
  obtain ⟨⟨t224, t225⟩, A70, H⟩ := H
  replace H : ((load_Band.f k t218 t219 t220 t221).bind fun bt226 => (if t225 = 0 then (if bt226.2 = 0 then (if t224 < 0 then (tipstafflaw11_LoadFull.j0 k t221 (wrap64 (1 + t222)) t224 bt226.1 true t218 t219 t220) else (tipstafflaw11_LoadFull.j0 k t221 (wrap64 (1 + t222)) t224 bt226.1 (decide (t224 > 300)) t218 t219 t220)) else (tipstafflaw11_LoadFull.j0 k t221 (wrap64 (1 + t222)) t224 bt226.1 true t218 t219 t220)) else (tipstafflaw11_LoadFull.j0 k t221 (wrap64 (1 + t222)) t224 bt226.1 true t218 t219 t220))) = some r := H
  have A7 := Aside0.mk A70
  clear A70
  replace H := Option.bind_eq_some_iff.mp H
  obtain ⟨⟨t226, t227⟩, A80, H⟩ := H
  replace H : (if t225 = 0 then (if t227 = 0 then (if t224 < 0 then (tipstafflaw11_LoadFull.j0 k t221 (wrap64 (1 + t222)) t224 t226 true t218 t219 t220) else (tipstafflaw11_LoadFull.j0 k t221 (wrap64 (1 + t222)) t224 t226 (decide (t224 > 300)) t218 t219 t220)) else (tipstafflaw11_LoadFull.j0 k t221 (wrap64 (1 + t222)) t224 t226 true t218 t219 t220)) else (tipstafflaw11_LoadFull.j0 k t221 (wrap64 (1 + t222)) t224 t226 true t218 t219 t220)) = some r := H
  have A8 := Aside0.mk A80
  clear A80
  have HC9 := Aside0.mk H
  clear H
  go_enter Try.func6, Try.ntmps6
  go_upto_region 4 with (first | ((with_reducible refine gate_callee (f := 20) rfl ?_); refine goesL_ (some 17) rfl rfl Try.func20 (by kernel_rfl) rfl #[.int .i64 a0] rfl (by (try simp only [List.map_toArray, List.map_cons, List.map_nil]); first | done | rfl | (simp only [List.length_drop, List.length_take]; rfl)) ?_; (with_reducible refine (tipstafflaw11_made.calls a0 t218 t219 t220 _ A4.out).mono ?_); rintro e w10 ⟨rfl, hb⟩; refine ⟨_, rfl, ?_⟩; have n0_ := Aside0.mk (below_step (by repeat (first | (with_reducible first | exact HB.out | apply below_alloc | apply pw_below_drewN | apply below_drew1) | exact HB.out)) hb); clear HB; have HB := n0_; clear n0_; (try clear hb); (try clear hb2); (try clear hk); (try clear hi)) | ((with_reducible refine gate_callee (f := 21) rfl ?_); refine goesL_ (some 19) rfl rfl Try.func21 (by kernel_rfl) rfl #[.int .i64 a1, .int .i64 200] rfl (by (try simp only [List.map_toArray, List.map_cons, List.map_nil]); first | done | rfl | (simp only [List.length_drop, List.length_take]; rfl)) ?_; (with_reducible refine (tipstaffkit_Mod.calls a1 200 t221 _ A5.out).mono ?_); rintro e w' ⟨rfl, ⟨nd, rfl⟩⟩; refine ⟨_, rfl, ?_⟩; (try (rw [drewN_self w10]; generalize hq_ : World.drewN w10 _ = w10; have n0_ : Aside0 (Below w.heap.size w w10) := ⟨by rw [← hq_]; exact (by repeat (first | (with_reducible first | exact HB.out | apply below_alloc | apply pw_below_drewN | apply below_drew1) | exact HB.out))⟩; clear HB hq_; have HB := n0_; clear n0_))) | ((with_reducible refine gate_callee (f := 21) rfl ?_); refine goesL_ (some 21) rfl rfl Try.func21 (by kernel_rfl) rfl #[.int .i64 a2, .int .i64 60] rfl (by (try simp only [List.map_toArray, List.map_cons, List.map_nil]); first | done | rfl | (simp only [List.length_drop, List.length_take]; rfl)) ?_; (with_reducible refine (tipstaffkit_Mod.calls a2 60 t222 _ A6.out).mono ?_); rintro e w' ⟨rfl, ⟨nd, rfl⟩⟩; refine ⟨_, rfl, ?_⟩; (try (rw [drewN_self w10]; generalize hq_ : World.drewN w10 _ = w10; have n0_ : Aside0 (Below w.heap.size w w10) := ⟨by rw [← hq_]; exact (by repeat (first | (with_reducible first | exact HB.out | apply below_alloc | apply pw_below_drewN | apply below_drew1) | exact HB.out))⟩; clear HB hq_; have HB := n0_; clear n0_))) | ((with_reducible refine gate_dst (N := 7) rfl ?_); refine box_event ?hg (N := 7) ?hd (cs := #[.int .i64 0, .int .i64 0, .int .i64 0]) (t := 23) ?hr ?_; (case hd => rfl); (case hg => rfl); (case hr => first | (go_simp; done) | (go_simp; rfl)); intro gb223 hg w11 hbox hb; have n0_ := Aside0.mk (below_step (by repeat (first | (with_reducible first | exact HB.out | apply below_alloc | apply pw_below_drewN | apply below_drew1) | exact HB.out)) hb); have n1_ := Aside0.mk (hbox); have n2_ := Aside0.mk ((by rw [hg]; exact (below_size (by repeat (first | (with_reducible first | exact HB.out | apply below_alloc | apply pw_below_drewN | apply below_drew1) | exact HB.out))) : w.heap.size ≤ gb223)); have n3_ := Aside0.mk ((by rw [hg]; exact (below_size (by repeat (first | (with_reducible first | exact HB.out | apply below_alloc | apply pw_below_drewN | apply below_drew1) | exact HB.out))) : w.heap.size ≤ gb223)); clear HB; have HB := n0_; have BK223 := n1_; have GW223 := n2_; have GE223 := n3_; clear n0_ n1_ n2_ n3_; clear hb hbox hg; have hcz12_0 : w11.cell? ⟨gb223, 0, none⟩ = some (.int .i64 0) := (blk_cell BK223.out 0).trans rfl; have hcz12_1 : w11.cell? ⟨gb223, 1, none⟩ = some (.int .i64 0) := (blk_cell BK223.out 1).trans rfl; have hcz12_2 : w11.cell? ⟨gb223, 2, none⟩ = some (.int .i64 0) := (blk_cell BK223.out 2).trans rfl; have hfz12_0 := blk_frozen BK223.out 0; have hfz12_1 := blk_frozen BK223.out 1; have hfz12_2 := blk_frozen BK223.out 2) | ((with_reducible refine gate_callee (f := 18) rfl ?_); refine goesL_ (some 27) rfl rfl Try.func18 (by kernel_rfl) rfl #[.agg #[.int .i64 t218, .int .i64 t219, .int .i64 t220], .int .i64 t221, .int .i64 (wrap64 (1 + t222))] rfl (by (try simp only [List.map_toArray, List.map_cons, List.map_nil]); first | done | rfl | (simp only [List.length_drop, List.length_take]; rfl)) ?_; (with_reducible refine (load_Fit.calls k t218 t219 t220 t221 (wrap64 (1 + t222)) t224 t225 _ A7.out).mono ?_); rintro e w13 ⟨rfl, hb⟩; refine ⟨_, rfl, ?_⟩; have n0_ := Aside0.mk (blk_below (g := gb223) (o := .cells #[.int .i64 t218, .int .i64 t219, .int .i64 t220] 23 (0, 0)) (by (with_reducible repeat (first | refine blk_drewN ?_ _ | refine blk_drew ?_ | refine blk_alloc ?_ _)); refine blk_put (cs := #[.int .i64 t218, .int .i64 t219, .int .i64 0]) ?_ 2 _ rfl; (with_reducible repeat (first | refine blk_drewN ?_ _ | refine blk_drew ?_ | refine blk_alloc ?_ _)); refine blk_put (cs := #[.int .i64 t218, .int .i64 0, .int .i64 0]) ?_ 1 _ rfl; (with_reducible repeat (first | refine blk_drewN ?_ _ | refine blk_drew ?_ | refine blk_alloc ?_ _)); refine blk_put (cs := #[.int .i64 0, .int .i64 0, .int .i64 0]) ?_ 0 _ rfl; (with_reducible repeat (first | refine blk_drewN ?_ _ | refine blk_drew ?_ | refine blk_alloc ?_ _)); exact BK223.out) hb); have n1_ := Aside0.mk (below_step (by repeat (first | (with_reducible first | exact HB.out | apply below_alloc | apply pw_below_drewN | apply below_drew1 | refine below_set ?_ GE223.out) | exact HB.out)) hb); clear BK223; clear HB; have BK223 := n0_; have HB := n1_; clear n0_ n1_; (try clear hb); (try clear hb2); (try clear hk); (try clear hi); have hcz14_0 : w13.cell? ⟨gb223, 0, none⟩ = some (.int .i64 t218) := (blk_cell BK223.out 0).trans rfl; have hcz14_1 : w13.cell? ⟨gb223, 1, none⟩ = some (.int .i64 t219) := (blk_cell BK223.out 1).trans rfl; have hcz14_2 : w13.cell? ⟨gb223, 2, none⟩ = some (.int .i64 t220) := (blk_cell BK223.out 2).trans rfl; have hfz14_0 := blk_frozen BK223.out 0; have hfz14_1 := blk_frozen BK223.out 1; have hfz14_2 := blk_frozen BK223.out 2) | ((with_reducible refine gate_callee (f := 11) rfl ?_); refine goesL_ (some 33) rfl rfl Try.func11 (by kernel_rfl) rfl #[.agg #[.int .i64 t218, .int .i64 t219, .int .i64 t220], .int .i64 t221] rfl (by (try simp only [List.map_toArray, List.map_cons, List.map_nil]); first | done | rfl | (simp only [List.length_drop, List.length_take]; rfl)) ?_; (with_reducible refine (load_Band.calls k t218 t219 t220 t221 t226 t227 _ A8.out).mono ?_); rintro e w15 ⟨rfl, hb⟩; refine ⟨_, rfl, ?_⟩; have n0_ := Aside0.mk (blk_below (g := gb223) (o := .cells #[.int .i64 t218, .int .i64 t219, .int .i64 t220] 23 (0, 0)) (by (with_reducible repeat (first | refine blk_drewN ?_ _ | refine blk_drew ?_ | refine blk_alloc ?_ _)); exact BK223.out) hb); have n1_ := Aside0.mk (below_step (by repeat (first | (with_reducible first | exact HB.out | apply below_alloc | apply pw_below_drewN | apply below_drew1 | refine below_set ?_ GE223.out) | exact HB.out)) hb); clear BK223; clear HB; have BK223 := n0_; have HB := n1_; clear n0_ n1_; (try clear hb); (try clear hb2); (try clear hk); (try clear hi)))
  (try simp only [Act.put, List.setIfInBounds_toArray, List.set_cons_zero, List.set_cons_succ])
  go_cut [49] (fun v49 wc => ∃ (kq : Nat) (x49_8 : Bool), v49 = .bool x49_8 ∧ Aside0 (tipstafflaw11_LoadFull.j0 kq t221 (wrap64 (1 + t222)) t224 t226 x49_8 t218 t219 t220 = some r) ∧ Aside0 (kq ≤ k) ∧ Aside0 (wc.heap[gb223]? = some (.cells #[.int .i64 t218, .int .i64 t219, .int .i64 t220] 23 (0, 0))) ∧ Aside0 (Below w.heap.size w wc))
  case first =>
    have H := HC9.out
    clear HC9
    by_cases c16 : t225 = 0
    · rw [if_pos c16] at H
      have c16b0 : (t225 == 0) = true := beq_iff_eq.mpr c16
      have c16b1 : (t225 != 0) = false := bne_eq_false_iff_eq.mpr c16
      clear c16
      (first | rw [c16b0] | (simp only [i64_w, i32_w]; rw [c16b0]) | skip)
      by_cases c17 : t227 = 0
      · rw [if_pos c17] at H
        have c17b0 : (t227 == 0) = true := beq_iff_eq.mpr c17
        have c17b1 : (t227 != 0) = false := bne_eq_false_iff_eq.mpr c17
        clear c17
        by_cases c18 : t224 < 0
        · rw [if_pos c18] at H
          have c18b0 : decide (t224 < 0) = true := decide_eq_true c18
          clear c18
          have H' := Aside0.mk H
          clear H
          go_wp2
          go_meet
          case rel => exact ⟨_, (true), (by first | rfl | (simp; done) | (simp [*]; done)), H', ⟨by first | omega | exact Nat.le_refl _⟩, ⟨by (with_reducible repeat (first | refine blk_drewN ?_ _ | refine blk_drew ?_ | refine blk_alloc ?_ _)); exact BK223.out⟩, ⟨by repeat (first | (with_reducible first | exact HB.out | apply below_alloc | apply pw_below_drewN | apply below_drew1 | refine below_set ?_ GE223.out) | exact HB.out)⟩⟩
        · rw [if_neg c18] at H
          have c18b0 : decide (t224 < 0) = false := decide_eq_false c18
          clear c18
          have H' := Aside0.mk H
          clear H
          go_wp2
          go_meet
          case rel => exact ⟨_, (decide (t224 > 300)), (by first | rfl | (simp; done) | (simp [*]; done)), H', ⟨by first | omega | exact Nat.le_refl _⟩, ⟨by (with_reducible repeat (first | refine blk_drewN ?_ _ | refine blk_drew ?_ | refine blk_alloc ?_ _)); exact BK223.out⟩, ⟨by repeat (first | (with_reducible first | exact HB.out | apply below_alloc | apply pw_below_drewN | apply below_drew1 | refine below_set ?_ GE223.out) | exact HB.out)⟩⟩
      · rw [if_neg c17] at H
        have c17b0 : (t227 == 0) = false := beq_eq_false_iff_ne.mpr c17
        have c17b1 : (t227 != 0) = true := bne_iff_ne.mpr c17
        have H' := Aside0.mk H
        clear H
        go_wp2
        go_meet
        case rel => exact ⟨_, (true), (by first | rfl | (simp; done) | (simp [*]; done)), H', ⟨by first | omega | exact Nat.le_refl _⟩, ⟨by (with_reducible repeat (first | refine blk_drewN ?_ _ | refine blk_drew ?_ | refine blk_alloc ?_ _)); exact BK223.out⟩, ⟨by repeat (first | (with_reducible first | exact HB.out | apply below_alloc | apply pw_below_drewN | apply below_drew1 | refine below_set ?_ GE223.out) | exact HB.out)⟩⟩
    · rw [if_neg c16] at H
      have c16b0 : (t225 == 0) = false := beq_eq_false_iff_ne.mpr c16
      have c16b1 : (t225 != 0) = true := bne_iff_ne.mpr c16
      (first | rw [c16b0] | (simp only [i64_w, i32_w]; rw [c16b0]) | skip)
      have H' := Aside0.mk H
      clear H
      go_wp2
      go_meet
      case rel => exact ⟨_, (true), (by first | rfl | (simp; done) | (simp [*]; done)), H', ⟨by first | omega | exact Nat.le_refl _⟩, ⟨by (with_reducible repeat (first | refine blk_drewN ?_ _ | refine blk_drew ?_ | refine blk_alloc ?_ _)); exact BK223.out⟩, ⟨by repeat (first | (with_reducible first | exact HB.out | apply below_alloc | apply pw_below_drewN | apply below_drew1 | refine below_set ?_ GE223.out) | exact HB.out)⟩⟩
  case rest =>
    clear HC9
    try clear c1
    try clear c2
    try clear p2
    try clear c6
    try clear p6
    try clear c11
    try clear c16
    try clear c16b0
    try clear c16b1
    try clear c17
    try clear c17b0
    try clear c17b1
    try clear c18
    try clear c18b0
    try clear hcz12_0
    try clear hcz12_1
    try clear hcz12_2
    try clear hcz14_0
    try clear hcz14_1
    try clear hcz14_2
    try clear hfz12_0
    try clear hfz12_1
    try clear hfz12_2
    try clear hfz14_0
    try clear hfz14_1
    try clear hfz14_2
    obtain ⟨kq, x49_8, rfl, HA, HJ8, BK223, HB⟩ := hcut
    cases kq with
    | zero => exact absurd HA.out (by simp [tipstafflaw11_LoadFull.j0])
    | succ kj8 =>
      have H := HA.out
      clear HA
      simp only [tipstafflaw11_LoadFull.j0] at H
      by_cases c19 : x49_8 = true
      · subst c19
        have H1 : (some false) = some r := by rw [if_pos rfl] at H; exact H
        clear H
        have H := H1
        clear H1
        obtain rfl := Option.some.inj H
        go_wp2
        go_ret
        exact ⟨by first | rfl | (simp [errW_none, errW_some] <;> rfl) | (simp [*, errW_none, errW_some] <;> rfl) | (simp (discharger := omega) only [Int.tdiv_eq_ediv_of_nonneg, Int.tmod_eq_emod_of_nonneg] <;> rfl), by repeat (first | (with_reducible first | exact HB.out | apply below_alloc | apply pw_below_drewN | apply below_drew1 | refine below_set ?_ GE223.out) | exact HB.out)⟩
      · replace c19 := Bool.eq_false_iff.mpr c19
        subst c19
        have H1 : (if t226 = 3 then (if t224 = 0 then ((tipstafflaw11_awake.f kj8).bind fun t228 => (some t228)) else (some false)) else ((load_Band.f kj8 t218 t219 t220 (wrap64 (t221 + (wrap64 (t224 * (wrap64 (1 + t222))))))).bind fun bt229 => ((load_Band.f kj8 t218 t219 t220 (wrap64 (t221 + (wrap64 ((wrap64 (t224 + 1)) * (wrap64 (1 + t222))))))).bind fun bt231 => (if bt229.2 = 0 then (if bt231.2 = 0 then (if bt229.1 = 3 then (some false) else (if bt231.1 = 3 then ((tipstafflaw11_awake.f kj8).bind fun t233 => (some t233)) else (some false))) else (some false)) else (some false))))) = some r := by rw [if_neg (show ¬ (false = true) by decide)] at H; exact H
        clear H
        have H := H1
        clear H1
        by_cases c20 : t226 = 3
        · rw [if_pos c20] at H
          have c20b0 : (t226 == 3) = true := beq_iff_eq.mpr c20
          have c20b1 : (t226 != 3) = false := bne_eq_false_iff_eq.mpr c20
          clear c20
          by_cases c21 : t224 = 0
          · rw [if_pos c21] at H
            have c21b0 : (t224 == 0) = true := beq_iff_eq.mpr c21
            have c21b1 : (t224 != 0) = false := bne_eq_false_iff_eq.mpr c21
            clear c21
            replace H := Option.bind_eq_some_iff.mp H
            obtain ⟨t228, A220, H⟩ := H
            replace H : (some t228) = some r := H
            have A22 := Aside0.mk A220
            clear A220
            obtain rfl := Option.some.inj H
            go_wp2_with (first | (go_at_call 17; (with_reducible refine (tipstafflaw11_awake.calls kj8  t228 _ A22.out).mono ?_); rintro e w23 ⟨rfl, hb⟩; have n0_ := Aside0.mk (blk_below (g := gb223) (o := .cells #[.int .i64 t218, .int .i64 t219, .int .i64 t220] 23 (0, 0)) (by (with_reducible repeat (first | refine blk_drewN ?_ _ | refine blk_drew ?_ | refine blk_alloc ?_ _)); exact BK223.out) hb); have n1_ := Aside0.mk (below_step (by repeat (first | (with_reducible first | exact HB.out | apply below_alloc | apply pw_below_drewN | apply below_drew1 | refine below_set ?_ GE223.out) | exact HB.out)) hb); clear BK223; clear HB; have BK223 := n0_; have HB := n1_; clear n0_ n1_; (try clear hb); (try clear hb2); (try clear hk); (try clear hi)))
            go_ret
            exact ⟨by first | rfl | (simp [errW_none, errW_some] <;> rfl) | (simp [*, errW_none, errW_some] <;> rfl) | (simp (discharger := omega) only [Int.tdiv_eq_ediv_of_nonneg, Int.tmod_eq_emod_of_nonneg] <;> rfl), by repeat (first | (with_reducible first | exact HB.out | apply below_alloc | apply pw_below_drewN | apply below_drew1 | refine below_set ?_ GE223.out) | exact HB.out)⟩
          · rw [if_neg c21] at H
            have c21b0 : (t224 == 0) = false := beq_eq_false_iff_ne.mpr c21
            have c21b1 : (t224 != 0) = true := bne_iff_ne.mpr c21
            obtain rfl := Option.some.inj H
            go_wp2
            go_ret
            exact ⟨by first | rfl | (simp [errW_none, errW_some] <;> rfl) | (simp [*, errW_none, errW_some] <;> rfl) | (simp (discharger := omega) only [Int.tdiv_eq_ediv_of_nonneg, Int.tmod_eq_emod_of_nonneg] <;> rfl), by repeat (first | (with_reducible first | exact HB.out | apply below_alloc | apply pw_below_drewN | apply below_drew1 | refine below_set ?_ GE223.out) | exact HB.out)⟩
        · rw [if_neg c20] at H
          have c20b0 : (t226 == 3) = false := beq_eq_false_iff_ne.mpr c20
          have c20b1 : (t226 != 3) = true := bne_iff_ne.mpr c20
          replace H := Option.bind_eq_some_iff.mp H
          obtain ⟨⟨t229, t230⟩, A240, H⟩ := H
          replace H : ((load_Band.f kj8 t218 t219 t220 (wrap64 (t221 + (wrap64 ((wrap64 (t224 + 1)) * (wrap64 (1 + t222))))))).bind fun bt231 => (if t230 = 0 then (if bt231.2 = 0 then (if t229 = 3 then (some false) else (if bt231.1 = 3 then ((tipstafflaw11_awake.f kj8).bind fun t233 => (some t233)) else (some false))) else (some false)) else (some false))) = some r := H
          have A24 := Aside0.mk A240
          clear A240
          replace H := Option.bind_eq_some_iff.mp H
          obtain ⟨⟨t231, t232⟩, A250, H⟩ := H
          replace H : (if t230 = 0 then (if t232 = 0 then (if t229 = 3 then (some false) else (if t231 = 3 then ((tipstafflaw11_awake.f kj8).bind fun t233 => (some t233)) else (some false))) else (some false)) else (some false)) = some r := H
          have A25 := Aside0.mk A250
          clear A250
          by_cases c26 : t230 = 0
          · rw [if_pos c26] at H
            have c26b0 : (t230 == 0) = true := beq_iff_eq.mpr c26
            have c26b1 : (t230 != 0) = false := bne_eq_false_iff_eq.mpr c26
            clear c26
            by_cases c27 : t232 = 0
            · rw [if_pos c27] at H
              have c27b0 : (t232 == 0) = true := beq_iff_eq.mpr c27
              have c27b1 : (t232 != 0) = false := bne_eq_false_iff_eq.mpr c27
              clear c27
              by_cases c28 : t229 = 3
              · rw [if_pos c28] at H
                have c28b0 : (t229 == 3) = true := beq_iff_eq.mpr c28
                have c28b1 : (t229 != 3) = false := bne_eq_false_iff_eq.mpr c28
                clear c28
                obtain rfl := Option.some.inj H
                have hcz29_0 : wc.cell? ⟨gb223, 0, none⟩ = some (.int .i64 t218) := (blk_cell BK223.out 0).trans rfl
                have hcz29_1 : wc.cell? ⟨gb223, 1, none⟩ = some (.int .i64 t219) := (blk_cell BK223.out 1).trans rfl
                have hcz29_2 : wc.cell? ⟨gb223, 2, none⟩ = some (.int .i64 t220) := (blk_cell BK223.out 2).trans rfl
                have hfz29_0 := blk_frozen BK223.out 0
                have hfz29_1 := blk_frozen BK223.out 1
                have hfz29_2 := blk_frozen BK223.out 2
                go_wp2_with (first | ((with_reducible refine gate_callee (f := 11) rfl ?_); refine goesL_ (some 64) rfl rfl Try.func11 (by kernel_rfl) rfl #[.agg #[.int .i64 t218, .int .i64 t219, .int .i64 t220], .int .i64 (wrap64 (t221 + (wrap64 (t224 * (wrap64 (1 + t222))))))] rfl (by (try simp only [List.map_toArray, List.map_cons, List.map_nil]); first | done | rfl | (simp only [List.length_drop, List.length_take]; rfl)) ?_; (with_reducible refine (load_Band.calls kj8 t218 t219 t220 (wrap64 (t221 + (wrap64 (t224 * (wrap64 (1 + t222)))))) t229 t230 _ A24.out).mono ?_); rintro e w30 ⟨rfl, hb⟩; refine ⟨_, rfl, ?_⟩; have n0_ := Aside0.mk (blk_below (g := gb223) (o := .cells #[.int .i64 t218, .int .i64 t219, .int .i64 t220] 23 (0, 0)) (by (with_reducible repeat (first | refine blk_drewN ?_ _ | refine blk_drew ?_ | refine blk_alloc ?_ _)); exact BK223.out) hb); have n1_ := Aside0.mk (below_step (by repeat (first | (with_reducible first | exact HB.out | apply below_alloc | apply pw_below_drewN | apply below_drew1 | refine below_set ?_ GE223.out) | exact HB.out)) hb); clear BK223; clear HB; have BK223 := n0_; have HB := n1_; clear n0_ n1_; (try clear hb); (try clear hb2); (try clear hk); (try clear hi); have hcz31_0 : w30.cell? ⟨gb223, 0, none⟩ = some (.int .i64 t218) := (blk_cell BK223.out 0).trans rfl; have hcz31_1 : w30.cell? ⟨gb223, 1, none⟩ = some (.int .i64 t219) := (blk_cell BK223.out 1).trans rfl; have hcz31_2 : w30.cell? ⟨gb223, 2, none⟩ = some (.int .i64 t220) := (blk_cell BK223.out 2).trans rfl; have hfz31_0 := blk_frozen BK223.out 0; have hfz31_1 := blk_frozen BK223.out 1; have hfz31_2 := blk_frozen BK223.out 2) | ((with_reducible refine gate_callee (f := 11) rfl ?_); refine goesL_ (some 75) rfl rfl Try.func11 (by kernel_rfl) rfl #[.agg #[.int .i64 t218, .int .i64 t219, .int .i64 t220], .int .i64 (wrap64 (t221 + (wrap64 ((wrap64 (t224 + 1)) * (wrap64 (1 + t222))))))] rfl (by (try simp only [List.map_toArray, List.map_cons, List.map_nil]); first | done | rfl | (simp only [List.length_drop, List.length_take]; rfl)) ?_; (with_reducible refine (load_Band.calls kj8 t218 t219 t220 (wrap64 (t221 + (wrap64 ((wrap64 (t224 + 1)) * (wrap64 (1 + t222)))))) t231 t232 _ A25.out).mono ?_); rintro e w32 ⟨rfl, hb⟩; refine ⟨_, rfl, ?_⟩; have n0_ := Aside0.mk (blk_below (g := gb223) (o := .cells #[.int .i64 t218, .int .i64 t219, .int .i64 t220] 23 (0, 0)) (by (with_reducible repeat (first | refine blk_drewN ?_ _ | refine blk_drew ?_ | refine blk_alloc ?_ _)); exact BK223.out) hb); have n1_ := Aside0.mk (below_step (by repeat (first | (with_reducible first | exact HB.out | apply below_alloc | apply pw_below_drewN | apply below_drew1 | refine below_set ?_ GE223.out) | exact HB.out)) hb); clear BK223; clear HB; have BK223 := n0_; have HB := n1_; clear n0_ n1_; (try clear hb); (try clear hb2); (try clear hk); (try clear hi)))
                go_ret
                exact ⟨by first | rfl | (simp [errW_none, errW_some] <;> rfl) | (simp [*, errW_none, errW_some] <;> rfl) | (simp (discharger := omega) only [Int.tdiv_eq_ediv_of_nonneg, Int.tmod_eq_emod_of_nonneg] <;> rfl), by repeat (first | (with_reducible first | exact HB.out | apply below_alloc | apply pw_below_drewN | apply below_drew1 | refine below_set ?_ GE223.out) | exact HB.out)⟩
              · rw [if_neg c28] at H
                have c28b0 : (t229 == 3) = false := beq_eq_false_iff_ne.mpr c28
                have c28b1 : (t229 != 3) = true := bne_iff_ne.mpr c28
                by_cases c33 : t231 = 3
                · rw [if_pos c33] at H
                  have c33b0 : (t231 == 3) = true := beq_iff_eq.mpr c33
                  have c33b1 : (t231 != 3) = false := bne_eq_false_iff_eq.mpr c33
                  clear c33
                  replace H := Option.bind_eq_some_iff.mp H
                  obtain ⟨t233, A340, H⟩ := H
                  replace H : (some t233) = some r := H
                  have A34 := Aside0.mk A340
                  clear A340
                  obtain rfl := Option.some.inj H
                  have hcz35_0 : wc.cell? ⟨gb223, 0, none⟩ = some (.int .i64 t218) := (blk_cell BK223.out 0).trans rfl
                  have hcz35_1 : wc.cell? ⟨gb223, 1, none⟩ = some (.int .i64 t219) := (blk_cell BK223.out 1).trans rfl
                  have hcz35_2 : wc.cell? ⟨gb223, 2, none⟩ = some (.int .i64 t220) := (blk_cell BK223.out 2).trans rfl
                  have hfz35_0 := blk_frozen BK223.out 0
                  have hfz35_1 := blk_frozen BK223.out 1
                  have hfz35_2 := blk_frozen BK223.out 2
                  go_wp2_with (first | ((with_reducible refine gate_callee (f := 11) rfl ?_); refine goesL_ (some 64) rfl rfl Try.func11 (by kernel_rfl) rfl #[.agg #[.int .i64 t218, .int .i64 t219, .int .i64 t220], .int .i64 (wrap64 (t221 + (wrap64 (t224 * (wrap64 (1 + t222))))))] rfl (by (try simp only [List.map_toArray, List.map_cons, List.map_nil]); first | done | rfl | (simp only [List.length_drop, List.length_take]; rfl)) ?_; (with_reducible refine (load_Band.calls kj8 t218 t219 t220 (wrap64 (t221 + (wrap64 (t224 * (wrap64 (1 + t222)))))) t229 t230 _ A24.out).mono ?_); rintro e w36 ⟨rfl, hb⟩; refine ⟨_, rfl, ?_⟩; have n0_ := Aside0.mk (blk_below (g := gb223) (o := .cells #[.int .i64 t218, .int .i64 t219, .int .i64 t220] 23 (0, 0)) (by (with_reducible repeat (first | refine blk_drewN ?_ _ | refine blk_drew ?_ | refine blk_alloc ?_ _)); exact BK223.out) hb); have n1_ := Aside0.mk (below_step (by repeat (first | (with_reducible first | exact HB.out | apply below_alloc | apply pw_below_drewN | apply below_drew1 | refine below_set ?_ GE223.out) | exact HB.out)) hb); clear BK223; clear HB; have BK223 := n0_; have HB := n1_; clear n0_ n1_; (try clear hb); (try clear hb2); (try clear hk); (try clear hi); have hcz37_0 : w36.cell? ⟨gb223, 0, none⟩ = some (.int .i64 t218) := (blk_cell BK223.out 0).trans rfl; have hcz37_1 : w36.cell? ⟨gb223, 1, none⟩ = some (.int .i64 t219) := (blk_cell BK223.out 1).trans rfl; have hcz37_2 : w36.cell? ⟨gb223, 2, none⟩ = some (.int .i64 t220) := (blk_cell BK223.out 2).trans rfl; have hfz37_0 := blk_frozen BK223.out 0; have hfz37_1 := blk_frozen BK223.out 1; have hfz37_2 := blk_frozen BK223.out 2) | ((with_reducible refine gate_callee (f := 11) rfl ?_); refine goesL_ (some 75) rfl rfl Try.func11 (by kernel_rfl) rfl #[.agg #[.int .i64 t218, .int .i64 t219, .int .i64 t220], .int .i64 (wrap64 (t221 + (wrap64 ((wrap64 (t224 + 1)) * (wrap64 (1 + t222))))))] rfl (by (try simp only [List.map_toArray, List.map_cons, List.map_nil]); first | done | rfl | (simp only [List.length_drop, List.length_take]; rfl)) ?_; (with_reducible refine (load_Band.calls kj8 t218 t219 t220 (wrap64 (t221 + (wrap64 ((wrap64 (t224 + 1)) * (wrap64 (1 + t222)))))) t231 t232 _ A25.out).mono ?_); rintro e w38 ⟨rfl, hb⟩; refine ⟨_, rfl, ?_⟩; have n0_ := Aside0.mk (blk_below (g := gb223) (o := .cells #[.int .i64 t218, .int .i64 t219, .int .i64 t220] 23 (0, 0)) (by (with_reducible repeat (first | refine blk_drewN ?_ _ | refine blk_drew ?_ | refine blk_alloc ?_ _)); exact BK223.out) hb); have n1_ := Aside0.mk (below_step (by repeat (first | (with_reducible first | exact HB.out | apply below_alloc | apply pw_below_drewN | apply below_drew1 | refine below_set ?_ GE223.out) | exact HB.out)) hb); clear BK223; clear HB; have BK223 := n0_; have HB := n1_; clear n0_ n1_; (try clear hb); (try clear hb2); (try clear hk); (try clear hi)) | (go_at_call 17; (with_reducible refine (tipstafflaw11_awake.calls kj8  t233 _ A34.out).mono ?_); rintro e w39 ⟨rfl, hb⟩; have n0_ := Aside0.mk (blk_below (g := gb223) (o := .cells #[.int .i64 t218, .int .i64 t219, .int .i64 t220] 23 (0, 0)) (by (with_reducible repeat (first | refine blk_drewN ?_ _ | refine blk_drew ?_ | refine blk_alloc ?_ _)); exact BK223.out) hb); have n1_ := Aside0.mk (below_step (by repeat (first | (with_reducible first | exact HB.out | apply below_alloc | apply pw_below_drewN | apply below_drew1 | refine below_set ?_ GE223.out) | exact HB.out)) hb); clear BK223; clear HB; have BK223 := n0_; have HB := n1_; clear n0_ n1_; (try clear hb); (try clear hb2); (try clear hk); (try clear hi)))
                  go_ret
                  exact ⟨by first | rfl | (simp [errW_none, errW_some] <;> rfl) | (simp [*, errW_none, errW_some] <;> rfl) | (simp (discharger := omega) only [Int.tdiv_eq_ediv_of_nonneg, Int.tmod_eq_emod_of_nonneg] <;> rfl), by repeat (first | (with_reducible first | exact HB.out | apply below_alloc | apply pw_below_drewN | apply below_drew1 | refine below_set ?_ GE223.out) | exact HB.out)⟩
                · rw [if_neg c33] at H
                  have c33b0 : (t231 == 3) = false := beq_eq_false_iff_ne.mpr c33
                  have c33b1 : (t231 != 3) = true := bne_iff_ne.mpr c33
                  obtain rfl := Option.some.inj H
                  have hcz40_0 : wc.cell? ⟨gb223, 0, none⟩ = some (.int .i64 t218) := (blk_cell BK223.out 0).trans rfl
                  have hcz40_1 : wc.cell? ⟨gb223, 1, none⟩ = some (.int .i64 t219) := (blk_cell BK223.out 1).trans rfl
                  have hcz40_2 : wc.cell? ⟨gb223, 2, none⟩ = some (.int .i64 t220) := (blk_cell BK223.out 2).trans rfl
                  have hfz40_0 := blk_frozen BK223.out 0
                  have hfz40_1 := blk_frozen BK223.out 1
                  have hfz40_2 := blk_frozen BK223.out 2
                  go_wp2_with (first | ((with_reducible refine gate_callee (f := 11) rfl ?_); refine goesL_ (some 64) rfl rfl Try.func11 (by kernel_rfl) rfl #[.agg #[.int .i64 t218, .int .i64 t219, .int .i64 t220], .int .i64 (wrap64 (t221 + (wrap64 (t224 * (wrap64 (1 + t222))))))] rfl (by (try simp only [List.map_toArray, List.map_cons, List.map_nil]); first | done | rfl | (simp only [List.length_drop, List.length_take]; rfl)) ?_; (with_reducible refine (load_Band.calls kj8 t218 t219 t220 (wrap64 (t221 + (wrap64 (t224 * (wrap64 (1 + t222)))))) t229 t230 _ A24.out).mono ?_); rintro e w41 ⟨rfl, hb⟩; refine ⟨_, rfl, ?_⟩; have n0_ := Aside0.mk (blk_below (g := gb223) (o := .cells #[.int .i64 t218, .int .i64 t219, .int .i64 t220] 23 (0, 0)) (by (with_reducible repeat (first | refine blk_drewN ?_ _ | refine blk_drew ?_ | refine blk_alloc ?_ _)); exact BK223.out) hb); have n1_ := Aside0.mk (below_step (by repeat (first | (with_reducible first | exact HB.out | apply below_alloc | apply pw_below_drewN | apply below_drew1 | refine below_set ?_ GE223.out) | exact HB.out)) hb); clear BK223; clear HB; have BK223 := n0_; have HB := n1_; clear n0_ n1_; (try clear hb); (try clear hb2); (try clear hk); (try clear hi); have hcz42_0 : w41.cell? ⟨gb223, 0, none⟩ = some (.int .i64 t218) := (blk_cell BK223.out 0).trans rfl; have hcz42_1 : w41.cell? ⟨gb223, 1, none⟩ = some (.int .i64 t219) := (blk_cell BK223.out 1).trans rfl; have hcz42_2 : w41.cell? ⟨gb223, 2, none⟩ = some (.int .i64 t220) := (blk_cell BK223.out 2).trans rfl; have hfz42_0 := blk_frozen BK223.out 0; have hfz42_1 := blk_frozen BK223.out 1; have hfz42_2 := blk_frozen BK223.out 2) | ((with_reducible refine gate_callee (f := 11) rfl ?_); refine goesL_ (some 75) rfl rfl Try.func11 (by kernel_rfl) rfl #[.agg #[.int .i64 t218, .int .i64 t219, .int .i64 t220], .int .i64 (wrap64 (t221 + (wrap64 ((wrap64 (t224 + 1)) * (wrap64 (1 + t222))))))] rfl (by (try simp only [List.map_toArray, List.map_cons, List.map_nil]); first | done | rfl | (simp only [List.length_drop, List.length_take]; rfl)) ?_; (with_reducible refine (load_Band.calls kj8 t218 t219 t220 (wrap64 (t221 + (wrap64 ((wrap64 (t224 + 1)) * (wrap64 (1 + t222)))))) t231 t232 _ A25.out).mono ?_); rintro e w43 ⟨rfl, hb⟩; refine ⟨_, rfl, ?_⟩; have n0_ := Aside0.mk (blk_below (g := gb223) (o := .cells #[.int .i64 t218, .int .i64 t219, .int .i64 t220] 23 (0, 0)) (by (with_reducible repeat (first | refine blk_drewN ?_ _ | refine blk_drew ?_ | refine blk_alloc ?_ _)); exact BK223.out) hb); have n1_ := Aside0.mk (below_step (by repeat (first | (with_reducible first | exact HB.out | apply below_alloc | apply pw_below_drewN | apply below_drew1 | refine below_set ?_ GE223.out) | exact HB.out)) hb); clear BK223; clear HB; have BK223 := n0_; have HB := n1_; clear n0_ n1_; (try clear hb); (try clear hb2); (try clear hk); (try clear hi)))
                  go_ret
                  exact ⟨by first | rfl | (simp [errW_none, errW_some] <;> rfl) | (simp [*, errW_none, errW_some] <;> rfl) | (simp (discharger := omega) only [Int.tdiv_eq_ediv_of_nonneg, Int.tmod_eq_emod_of_nonneg] <;> rfl), by repeat (first | (with_reducible first | exact HB.out | apply below_alloc | apply pw_below_drewN | apply below_drew1 | refine below_set ?_ GE223.out) | exact HB.out)⟩
            · rw [if_neg c27] at H
              have c27b0 : (t232 == 0) = false := beq_eq_false_iff_ne.mpr c27
              have c27b1 : (t232 != 0) = true := bne_iff_ne.mpr c27
              obtain rfl := Option.some.inj H
              have hcz44_0 : wc.cell? ⟨gb223, 0, none⟩ = some (.int .i64 t218) := (blk_cell BK223.out 0).trans rfl
              have hcz44_1 : wc.cell? ⟨gb223, 1, none⟩ = some (.int .i64 t219) := (blk_cell BK223.out 1).trans rfl
              have hcz44_2 : wc.cell? ⟨gb223, 2, none⟩ = some (.int .i64 t220) := (blk_cell BK223.out 2).trans rfl
              have hfz44_0 := blk_frozen BK223.out 0
              have hfz44_1 := blk_frozen BK223.out 1
              have hfz44_2 := blk_frozen BK223.out 2
              go_wp2_with (first | ((with_reducible refine gate_callee (f := 11) rfl ?_); refine goesL_ (some 64) rfl rfl Try.func11 (by kernel_rfl) rfl #[.agg #[.int .i64 t218, .int .i64 t219, .int .i64 t220], .int .i64 (wrap64 (t221 + (wrap64 (t224 * (wrap64 (1 + t222))))))] rfl (by (try simp only [List.map_toArray, List.map_cons, List.map_nil]); first | done | rfl | (simp only [List.length_drop, List.length_take]; rfl)) ?_; (with_reducible refine (load_Band.calls kj8 t218 t219 t220 (wrap64 (t221 + (wrap64 (t224 * (wrap64 (1 + t222)))))) t229 t230 _ A24.out).mono ?_); rintro e w45 ⟨rfl, hb⟩; refine ⟨_, rfl, ?_⟩; have n0_ := Aside0.mk (blk_below (g := gb223) (o := .cells #[.int .i64 t218, .int .i64 t219, .int .i64 t220] 23 (0, 0)) (by (with_reducible repeat (first | refine blk_drewN ?_ _ | refine blk_drew ?_ | refine blk_alloc ?_ _)); exact BK223.out) hb); have n1_ := Aside0.mk (below_step (by repeat (first | (with_reducible first | exact HB.out | apply below_alloc | apply pw_below_drewN | apply below_drew1 | refine below_set ?_ GE223.out) | exact HB.out)) hb); clear BK223; clear HB; have BK223 := n0_; have HB := n1_; clear n0_ n1_; (try clear hb); (try clear hb2); (try clear hk); (try clear hi); have hcz46_0 : w45.cell? ⟨gb223, 0, none⟩ = some (.int .i64 t218) := (blk_cell BK223.out 0).trans rfl; have hcz46_1 : w45.cell? ⟨gb223, 1, none⟩ = some (.int .i64 t219) := (blk_cell BK223.out 1).trans rfl; have hcz46_2 : w45.cell? ⟨gb223, 2, none⟩ = some (.int .i64 t220) := (blk_cell BK223.out 2).trans rfl; have hfz46_0 := blk_frozen BK223.out 0; have hfz46_1 := blk_frozen BK223.out 1; have hfz46_2 := blk_frozen BK223.out 2) | ((with_reducible refine gate_callee (f := 11) rfl ?_); refine goesL_ (some 75) rfl rfl Try.func11 (by kernel_rfl) rfl #[.agg #[.int .i64 t218, .int .i64 t219, .int .i64 t220], .int .i64 (wrap64 (t221 + (wrap64 ((wrap64 (t224 + 1)) * (wrap64 (1 + t222))))))] rfl (by (try simp only [List.map_toArray, List.map_cons, List.map_nil]); first | done | rfl | (simp only [List.length_drop, List.length_take]; rfl)) ?_; (with_reducible refine (load_Band.calls kj8 t218 t219 t220 (wrap64 (t221 + (wrap64 ((wrap64 (t224 + 1)) * (wrap64 (1 + t222)))))) t231 t232 _ A25.out).mono ?_); rintro e w47 ⟨rfl, hb⟩; refine ⟨_, rfl, ?_⟩; have n0_ := Aside0.mk (blk_below (g := gb223) (o := .cells #[.int .i64 t218, .int .i64 t219, .int .i64 t220] 23 (0, 0)) (by (with_reducible repeat (first | refine blk_drewN ?_ _ | refine blk_drew ?_ | refine blk_alloc ?_ _)); exact BK223.out) hb); have n1_ := Aside0.mk (below_step (by repeat (first | (with_reducible first | exact HB.out | apply below_alloc | apply pw_below_drewN | apply below_drew1 | refine below_set ?_ GE223.out) | exact HB.out)) hb); clear BK223; clear HB; have BK223 := n0_; have HB := n1_; clear n0_ n1_; (try clear hb); (try clear hb2); (try clear hk); (try clear hi)))
              go_ret
              exact ⟨by first | rfl | (simp [errW_none, errW_some] <;> rfl) | (simp [*, errW_none, errW_some] <;> rfl) | (simp (discharger := omega) only [Int.tdiv_eq_ediv_of_nonneg, Int.tmod_eq_emod_of_nonneg] <;> rfl), by repeat (first | (with_reducible first | exact HB.out | apply below_alloc | apply pw_below_drewN | apply below_drew1 | refine below_set ?_ GE223.out) | exact HB.out)⟩
          · rw [if_neg c26] at H
            have c26b0 : (t230 == 0) = false := beq_eq_false_iff_ne.mpr c26
            have c26b1 : (t230 != 0) = true := bne_iff_ne.mpr c26
            obtain rfl := Option.some.inj H
            have hcz48_0 : wc.cell? ⟨gb223, 0, none⟩ = some (.int .i64 t218) := (blk_cell BK223.out 0).trans rfl
            have hcz48_1 : wc.cell? ⟨gb223, 1, none⟩ = some (.int .i64 t219) := (blk_cell BK223.out 1).trans rfl
            have hcz48_2 : wc.cell? ⟨gb223, 2, none⟩ = some (.int .i64 t220) := (blk_cell BK223.out 2).trans rfl
            have hfz48_0 := blk_frozen BK223.out 0
            have hfz48_1 := blk_frozen BK223.out 1
            have hfz48_2 := blk_frozen BK223.out 2
            go_wp2_with (first | ((with_reducible refine gate_callee (f := 11) rfl ?_); refine goesL_ (some 64) rfl rfl Try.func11 (by kernel_rfl) rfl #[.agg #[.int .i64 t218, .int .i64 t219, .int .i64 t220], .int .i64 (wrap64 (t221 + (wrap64 (t224 * (wrap64 (1 + t222))))))] rfl (by (try simp only [List.map_toArray, List.map_cons, List.map_nil]); first | done | rfl | (simp only [List.length_drop, List.length_take]; rfl)) ?_; (with_reducible refine (load_Band.calls kj8 t218 t219 t220 (wrap64 (t221 + (wrap64 (t224 * (wrap64 (1 + t222)))))) t229 t230 _ A24.out).mono ?_); rintro e w49 ⟨rfl, hb⟩; refine ⟨_, rfl, ?_⟩; have n0_ := Aside0.mk (blk_below (g := gb223) (o := .cells #[.int .i64 t218, .int .i64 t219, .int .i64 t220] 23 (0, 0)) (by (with_reducible repeat (first | refine blk_drewN ?_ _ | refine blk_drew ?_ | refine blk_alloc ?_ _)); exact BK223.out) hb); have n1_ := Aside0.mk (below_step (by repeat (first | (with_reducible first | exact HB.out | apply below_alloc | apply pw_below_drewN | apply below_drew1 | refine below_set ?_ GE223.out) | exact HB.out)) hb); clear BK223; clear HB; have BK223 := n0_; have HB := n1_; clear n0_ n1_; (try clear hb); (try clear hb2); (try clear hk); (try clear hi); have hcz50_0 : w49.cell? ⟨gb223, 0, none⟩ = some (.int .i64 t218) := (blk_cell BK223.out 0).trans rfl; have hcz50_1 : w49.cell? ⟨gb223, 1, none⟩ = some (.int .i64 t219) := (blk_cell BK223.out 1).trans rfl; have hcz50_2 : w49.cell? ⟨gb223, 2, none⟩ = some (.int .i64 t220) := (blk_cell BK223.out 2).trans rfl; have hfz50_0 := blk_frozen BK223.out 0; have hfz50_1 := blk_frozen BK223.out 1; have hfz50_2 := blk_frozen BK223.out 2) | ((with_reducible refine gate_callee (f := 11) rfl ?_); refine goesL_ (some 75) rfl rfl Try.func11 (by kernel_rfl) rfl #[.agg #[.int .i64 t218, .int .i64 t219, .int .i64 t220], .int .i64 (wrap64 (t221 + (wrap64 ((wrap64 (t224 + 1)) * (wrap64 (1 + t222))))))] rfl (by (try simp only [List.map_toArray, List.map_cons, List.map_nil]); first | done | rfl | (simp only [List.length_drop, List.length_take]; rfl)) ?_; (with_reducible refine (load_Band.calls kj8 t218 t219 t220 (wrap64 (t221 + (wrap64 ((wrap64 (t224 + 1)) * (wrap64 (1 + t222)))))) t231 t232 _ A25.out).mono ?_); rintro e w51 ⟨rfl, hb⟩; refine ⟨_, rfl, ?_⟩; have n0_ := Aside0.mk (blk_below (g := gb223) (o := .cells #[.int .i64 t218, .int .i64 t219, .int .i64 t220] 23 (0, 0)) (by (with_reducible repeat (first | refine blk_drewN ?_ _ | refine blk_drew ?_ | refine blk_alloc ?_ _)); exact BK223.out) hb); have n1_ := Aside0.mk (below_step (by repeat (first | (with_reducible first | exact HB.out | apply below_alloc | apply pw_below_drewN | apply below_drew1 | refine below_set ?_ GE223.out) | exact HB.out)) hb); clear BK223; clear HB; have BK223 := n0_; have HB := n1_; clear n0_ n1_; (try clear hb); (try clear hb2); (try clear hk); (try clear hi)))
            go_ret
            exact ⟨by first | rfl | (simp [errW_none, errW_some] <;> rfl) | (simp [*, errW_none, errW_some] <;> rfl) | (simp (discharger := omega) only [Int.tdiv_eq_ediv_of_nonneg, Int.tmod_eq_emod_of_nonneg] <;> rfl), by repeat (first | (with_reducible first | exact HB.out | apply below_alloc | apply pw_below_drewN | apply below_drew1 | refine below_set ?_ GE223.out) | exact HB.out)⟩

/-- THE ONE PURE STATEMENT of tipstafflaw11_LoadFull: yours. -/
def tipstafflaw11_LoadFull.Pure : Prop := ∀ (a0 : Int) (a1 : Int) (a2 : Int), (Lit.int .i64 a0).wf = true → (Lit.int .i64 a1).wf = true → (Lit.int .i64 a2).wf = true → ∃ k, tipstafflaw11_LoadFull.f k a0 a1 a2 = some true
theorem tipstafflaw11_LoadFull.walk (P : tipstafflaw11_LoadFull.Pure) (a0 : Int) (a1 : Int) (a2 : Int) (w : World) (w0 : (Lit.int .i64 a0).wf = true) (w1 : (Lit.int .i64 a1).wf = true) (w2 : (Lit.int .i64 a2).wf = true) :
    Calls Try.prog 6 #[.int .i64 a0, .int .i64 a1, .int .i64 a2] w fun e w' => e = .returned (.bool true) ∧ Below w.heap.size w w' := by
  obtain ⟨k, h⟩ := P a0 a1 a2 w0 w1 w2
  refine (tipstafflaw11_LoadFull.calls k a0 a1 a2 true w h).mono ?_
  rintro e w' ⟨rfl, hd⟩
  exact ⟨rfl, hd⟩

end Go.Proofs.Ytifcjlehbmbacaa.S
