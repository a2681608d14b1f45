-- PRINTED by print.py (a twelfth state) out of the translation. Not trusted: Lean checks it.
import Derived.Test.YtbcmlgbhejcjbaaDoorS0
import Derived.Test.YtbcmlgbhejcjbaaDoorS2
import Derived.Test.YtbcmlgbhejcjbaaDoorS3
import Derived.Test.YtbcmlgbhejcjbaaDoorS6
import Derived.Test.YtbcmlgbhejcjbaaDoorS12
namespace Go.Proofs.YtbcmlgbhejcjbaaDoor.S
open Go.RowKit Go.Proofs.YtbcmlgbhejcjbaaDoorW.PrintWords Go.Proofs.YtbcmlgbhejcjbaaDoorW.PrintLast Go.Proofs.YtbcmlgbhejcjbaaDoorW.PrintMore
attribute [local go_sem] Go.Proofs.YtbcmlgbhejcjbaaDoorW.PrintXtra.isSome_setCell max2_int min2_int max_two min_two max_three min_three max_four min_four   -- for this text's walks alone
set_option linter.unusedVariables false
set_option linter.unusedSimpArgs false

/-! ### tipstafflaw33_WordSeries: function 6 -/
def tipstafflaw33_WordSeries.j0 : Nat → List Int → List (S38) → Bool → Int → Int → Int → Option (Bool)
 | 0, _, _, _, _, _, _ => none
 | k + 1, x0, x1, x26, x399000, x399001, x399002 => if x26 = true then ((tipstafflaw33_awake.f k).bind fun t400 => (some t400)) else ((tipstaffkit_OwnInts.f x0).bind fun t401 => ((tipstafflaw33_ownEntries.f x1).bind fun t404 => ((word_Series.f k x399000 t401 t404 x399001 x399002).bind fun bt407 => ((tipstaffref33_Series.f k x399000 x0 x1 x399001 x399002).bind fun bt411 => ((tipstaffkit_SameInts.f k bt407.1 bt411.1).bind fun t415 => (if t415 = true then (if bt407.2 = bt411.2 then ((tipstaffkit_SameInts.f k t401 x0).bind fun t416 => (if t416 = true then ((tipstafflaw33_sameEntries.f k t404 x1).bind fun t417 => (if t417 = true then ((tipstafflaw33_awake.f k).bind fun t418 => (some t418)) else (none))) else (none))) else (none)) else (none)))))))
def tipstafflaw33_WordSeries.f (k : Nat) (l0 : List Int) (l1 : List (S38)) (a2_0 : Int) (a2_1 : Int) (a2_2 : Int) : Option (Bool) := (tipstafflaw33_light.f k l0 l1).bind fun t399 => (if t399 = true then (if a2_2 > 100 then (tipstafflaw33_WordSeries.j0 k l0 l1 (decide (a2_2 < 1000)) a2_0 a2_1 a2_2) else (tipstafflaw33_WordSeries.j0 k l0 l1 false a2_0 a2_1 a2_2)) else (tipstafflaw33_WordSeries.j0 k l0 l1 true a2_0 a2_1 a2_2))
theorem tipstafflaw33_WordSeries.mono_l : ∀ k, (∀ y0 y1 y2 y3 y4 y5, LeO (tipstafflaw33_WordSeries.j0 k y0 y1 y2 y3 y4 y5) (tipstafflaw33_WordSeries.j0 (k + 1) y0 y1 y2 y3 y4 y5))
 | 0 => fun _ _ _ _ _ _ r h => by simp [tipstafflaw33_WordSeries.j0] at h
 | k + 1 => by
  have ih0 := tipstafflaw33_WordSeries.mono_l k
  ·intro y0 y1 y2 y3 y4 y5
   unfold tipstafflaw33_WordSeries.j0
   repeat' first
   | (with_reducible exact ih0 _ _ _ _ _ _)
   | (with_reducible exact tipstaffkit_SameInts.mono _ _ _)
   | (with_reducible exact tipstafflaw33_awake.mono _)
   | (with_reducible exact tipstafflaw33_light.mono _ _ _)
   | (with_reducible exact tipstafflaw33_sameEntries.mono _ _ _)
   | (with_reducible exact tipstaffref33_Series.mono _ _ _ _ _ _)
   | (with_reducible exact word_Series.mono _ _ _ _ _ _)
   | (with_reducible exact LeO.refl _)
   | (with_reducible exact LeO.none _)
   | (with_reducible refine LeO.ite ?_ ?_)
   | (with_reducible refine LeO.bind ?_ (fun _ => ?_))
   | exact ih0 _ _ _ _ _ _
   | exact tipstaffkit_SameInts.mono _ _ _
   | exact tipstafflaw33_awake.mono _
   | exact tipstafflaw33_light.mono _ _ _
   | exact tipstafflaw33_sameEntries.mono _ _ _
   | exact tipstaffref33_Series.mono _ _ _ _ _ _
   | exact word_Series.mono _ _ _ _ _ _
   | exact LeO.none _
   | refine LeO.ite ?_ ?_
   | refine LeO.bind ?_ (fun _ => ?_)
theorem tipstafflaw33_WordSeries.mono : ∀ a0 a1 a2 a3 a4 k, LeO (tipstafflaw33_WordSeries.f k a0 a1 a2 a3 a4) (tipstafflaw33_WordSeries.f (k + 1) a0 a1 a2 a3 a4) := by
 intro a0 a1 a2 a3 a4 k
 have ih0 := tipstafflaw33_WordSeries.mono_l k
 unfold tipstafflaw33_WordSeries.f
 repeat' first
   | (with_reducible exact ih0 _ _ _ _ _ _)
   | (with_reducible exact tipstaffkit_SameInts.mono _ _ _)
   | (with_reducible exact tipstafflaw33_awake.mono _)
   | (with_reducible exact tipstafflaw33_light.mono _ _ _)
   | (with_reducible exact tipstafflaw33_sameEntries.mono _ _ _)
   | (with_reducible exact tipstaffref33_Series.mono _ _ _ _ _ _)
   | (with_reducible exact word_Series.mono _ _ _ _ _ _)
   | (with_reducible exact LeO.refl _)
   | (with_reducible exact LeO.none _)
   | (with_reducible refine LeO.ite ?_ ?_)
   | (with_reducible refine LeO.bind ?_ (fun _ => ?_))
   | exact ih0 _ _ _ _ _ _
   | exact tipstaffkit_SameInts.mono _ _ _
   | exact tipstafflaw33_awake.mono _
   | exact tipstafflaw33_light.mono _ _ _
   | exact tipstafflaw33_sameEntries.mono _ _ _
   | exact tipstaffref33_Series.mono _ _ _ _ _ _
   | exact word_Series.mono _ _ _ _ _ _
   | exact LeO.none _
   | refine LeO.ite ?_ ?_
   | refine LeO.bind ?_ (fun _ => ?_)
set_option maxHeartbeats 8000000 in
set_option maxRecDepth 100000 in
theorem tipstafflaw33_WordSeries.calls (k : Nat) (A0 : Option Addr) (c0 : Nat) (l0 : List Int) (A1 : Option Addr) (c1 : Nat) (l1 : List (S38)) (a2_0 : Int) (a2_1 : Int) (a2_2 : Int) (r : Bool) (w : World) (HL_ : LaidAt w) (hr0 : Kd.C (Kd.int .i64) w A0 l0.length l0) (hc0 : l0.length ≤ c0) (hr1 : Kd.C k38 w A1 l1.length l1) (hc1 : l1.length ≤ c1) (h : tipstafflaw33_WordSeries.f k l0 l1 a2_0 a2_1 a2_2 = some r) :
  Calls Tryd.prog 6 #[.slice A0 l0.length c0, .slice A1 l1.length c1, .agg #[.int .i64 a2_0, .int .i64 a2_1, .int .i64 a2_2]] w fun e w' => e = .returned (.bool r) ∧ Below w.heap.size w w' := by
 have hu44 := Tryd.underlying44
 have HR0 := Aside0.mk hr0
 have HC0 := Aside0.mk hc0
 clear hr0 hc0
 have HR1 := Aside0.mk hr1
 have HC1 := Aside0.mk hc1
 clear hr1 hc1
 have HB := Aside0.mk (Below.refl w.heap.size w)
 have H : ((tipstafflaw33_light.f k l0 l1).bind fun t399 => (if t399 = true then (if a2_2 > 100 then (tipstafflaw33_WordSeries.j0 k l0 l1 (decide (a2_2 < 1000)) a2_0 a2_1 a2_2) else (tipstafflaw33_WordSeries.j0 k l0 l1 false a2_0 a2_1 a2_2)) else (tipstafflaw33_WordSeries.j0 k l0 l1 true a2_0 a2_1 a2_2))) = some r := h
 clear h
 have HC4 := Aside0.mk H
 clear H
 go_enter Tryd.func6, Tryd.ntmps6
 go_upto_region 1 with (first | ((with_reducible refine gate_dst (N := 5) rfl ?_); refine box_event ?hg (N := 5) ?hd (cs := #[.int .i64 a2_0, .int .i64 a2_1, .int .i64 a2_2]) (t := 44) ?hr ?_; (case hd => rfl); (case hg => rfl); (case hr => first | (go_simp; done) | (go_simp; rfl)); intro gb398 hg w5 hbox hb; have n0_ := Aside0.mk (below_step (by repeat (first | (with_reducible first | exact HB.out | apply below_alloc | apply pw_below_drewN | apply below_drew1) | exact HB.out)) hb); have n1_ := Aside0.mk (hbox); have n2_ := Aside0.mk ((by rw [hg]; exact (below_size (by repeat (first | (with_reducible first | exact HB.out | apply below_alloc | apply pw_below_drewN | apply below_drew1) | exact HB.out))) : w.heap.size ≤ gb398)); have n3_ := Aside0.mk ((by rw [hg]; exact (below_size (by repeat (first | (with_reducible first | exact HB.out | apply below_alloc | apply pw_below_drewN | apply below_drew1) | exact HB.out))) : w.heap.size ≤ gb398)); clear HB; have HB := n0_; have BK398 := n1_; have GW398 := n2_; have GE398 := n3_; clear n0_ n1_ n2_ n3_; clear hb hbox hg))
 (try simp only [Act.put, List.setIfInBounds_toArray, List.set_cons_zero, List.set_cons_succ])
 go_cut [26] (fun v26 wc => ∃ (kq : Nat) (x26_3 : Bool), v26 = .bool x26_3 ∧ Aside0 (tipstafflaw33_WordSeries.j0 kq l0 l1 x26_3 a2_0 a2_1 a2_2 = some r) ∧ Aside0 (kq ≤ k) ∧ Aside0 (wc.heap[gb398]? = some (.cells #[.int .i64 a2_0, .int .i64 a2_1, .int .i64 a2_2] 44 (0, 0))) ∧ Aside0 (Below w.heap.size w wc))
 case first =>
  have H := HC4.out
  clear HC4
  replace H := Option.bind_eq_some_iff.mp H
  obtain ⟨t399, A60, H⟩ := H
  replace H : (if t399 = true then (if a2_2 > 100 then (tipstafflaw33_WordSeries.j0 k l0 l1 (decide (a2_2 < 1000)) a2_0 a2_1 a2_2) else (tipstafflaw33_WordSeries.j0 k l0 l1 false a2_0 a2_1 a2_2)) else (tipstafflaw33_WordSeries.j0 k l0 l1 true a2_0 a2_1 a2_2)) = some r := H
  have A6 := Aside0.mk A60
  clear A60
  by_cases c7 : t399 = true
  ·subst c7
   have H1 : (if a2_2 > 100 then (tipstafflaw33_WordSeries.j0 k l0 l1 (decide (a2_2 < 1000)) a2_0 a2_1 a2_2) else (tipstafflaw33_WordSeries.j0 k l0 l1 false a2_0 a2_1 a2_2)) = some r := by rw [if_pos rfl] at H; exact H
   clear H
   have H := H1
   clear H1
   by_cases c8 : a2_2 > 100
   ·rw [if_pos c8] at H
    have c8b0 : decide (100 < a2_2) = true := decide_eq_true c8
    clear c8
    (first | rw [c8b0] | (simp only [i64_w, i32_w]; rw [c8b0]) | skip)
    have H' := Aside0.mk H
    clear H
    go_wp2_with (first | ((with_reducible refine gate_callee (f := 11) rfl ?_); refine goesL_ (some 15) rfl rfl Tryd.func11 (by kernel_rfl) rfl #[.slice A0 l0.length c0, .slice A1 l1.length c1] rfl (by (try simp only [List.map_toArray, List.map_cons, List.map_nil]); first | done | rfl | (simp only [List.length_drop, List.length_take]; rfl)) ?_; (with_reducible refine (tipstafflaw33_light.calls k _ _ l0 _ _ l1 true _ ?side1 ?side2 ?side3 ?side4 A6.out).mono ?_); (case side1 => repeat (first | exact (Kd.C_below HR0.out HB.out) | (with_reducible refine Kd.C_alloc ?_ _) | (with_reducible refine Kd.C_drewN ?_ _) | (with_reducible refine Kd.C_drew ?_))); (case side2 => exact HC0.out); (case side3 => repeat (first | exact (Kd.C_below HR1.out HB.out) | (with_reducible refine Kd.C_alloc ?_ _) | (with_reducible refine Kd.C_drewN ?_ _) | (with_reducible refine Kd.C_drew ?_))); (case side4 => exact HC1.out); rintro e w' ⟨rfl, ⟨nd, rfl⟩⟩; refine ⟨_, rfl, ?_⟩; have hcz9_0 : w5.cell? ⟨gb398, 0, none⟩ = some (.int .i64 a2_0) := (blk_cell BK398.out 0).trans rfl; have hcz9_1 : w5.cell? ⟨gb398, 1, none⟩ = some (.int .i64 a2_1) := (blk_cell BK398.out 1).trans rfl; have hcz9_2 : w5.cell? ⟨gb398, 2, none⟩ = some (.int .i64 a2_2) := (blk_cell BK398.out 2).trans rfl; have hfz9_0 := blk_frozen BK398.out 0; have hfz9_1 := blk_frozen BK398.out 1; have hfz9_2 := blk_frozen BK398.out 2))
    go_meet
    case rel => exact ⟨_, (decide (a2_2 < 1000)), (by first | rfl | (simp; done) | (simp [*]; done)), H', ⟨by first | omega | exact Nat.le_refl _⟩, ⟨by (with_reducible repeat (first | refine blk_drewN ?_ _ | refine blk_drew ?_ | refine blk_alloc ?_ _)); exact BK398.out⟩, ⟨by repeat (first | (with_reducible first | exact HB.out | apply below_alloc | apply pw_below_drewN | apply below_drew1 | refine below_set ?_ GE398.out) | exact HB.out)⟩⟩
   ·rw [if_neg c8] at H
    have c8b0 : decide (100 < a2_2) = false := decide_eq_false c8
    clear c8
    (first | rw [c8b0] | (simp only [i64_w, i32_w]; rw [c8b0]) | skip)
    have H' := Aside0.mk H
    clear H
    go_wp2_with (first | ((with_reducible refine gate_callee (f := 11) rfl ?_); refine goesL_ (some 15) rfl rfl Tryd.func11 (by kernel_rfl) rfl #[.slice A0 l0.length c0, .slice A1 l1.length c1] rfl (by (try simp only [List.map_toArray, List.map_cons, List.map_nil]); first | done | rfl | (simp only [List.length_drop, List.length_take]; rfl)) ?_; (with_reducible refine (tipstafflaw33_light.calls k _ _ l0 _ _ l1 true _ ?side1 ?side2 ?side3 ?side4 A6.out).mono ?_); (case side1 => repeat (first | exact (Kd.C_below HR0.out HB.out) | (with_reducible refine Kd.C_alloc ?_ _) | (with_reducible refine Kd.C_drewN ?_ _) | (with_reducible refine Kd.C_drew ?_))); (case side2 => exact HC0.out); (case side3 => repeat (first | exact (Kd.C_below HR1.out HB.out) | (with_reducible refine Kd.C_alloc ?_ _) | (with_reducible refine Kd.C_drewN ?_ _) | (with_reducible refine Kd.C_drew ?_))); (case side4 => exact HC1.out); rintro e w' ⟨rfl, ⟨nd, rfl⟩⟩; refine ⟨_, rfl, ?_⟩; have hcz10_0 : w5.cell? ⟨gb398, 0, none⟩ = some (.int .i64 a2_0) := (blk_cell BK398.out 0).trans rfl; have hcz10_1 : w5.cell? ⟨gb398, 1, none⟩ = some (.int .i64 a2_1) := (blk_cell BK398.out 1).trans rfl; have hcz10_2 : w5.cell? ⟨gb398, 2, none⟩ = some (.int .i64 a2_2) := (blk_cell BK398.out 2).trans rfl; have hfz10_0 := blk_frozen BK398.out 0; have hfz10_1 := blk_frozen BK398.out 1; have hfz10_2 := blk_frozen BK398.out 2))
    go_meet
    case rel => exact ⟨_, (false), (by first | rfl | (simp; done) | (simp [*]; done)), H', ⟨by first | omega | exact Nat.le_refl _⟩, ⟨by (with_reducible repeat (first | refine blk_drewN ?_ _ | refine blk_drew ?_ | refine blk_alloc ?_ _)); exact BK398.out⟩, ⟨by repeat (first | (with_reducible first | exact HB.out | apply below_alloc | apply pw_below_drewN | apply below_drew1 | refine below_set ?_ GE398.out) | exact HB.out)⟩⟩
  ·replace c7 := Bool.eq_false_iff.mpr c7
   subst c7
   have H1 : (tipstafflaw33_WordSeries.j0 k l0 l1 true a2_0 a2_1 a2_2) = some r := by rw [if_neg (show ¬ (false = true) by decide)] at H; exact H
   clear H
   have H := H1
   clear H1
   have H' := Aside0.mk H
   clear H
   go_wp2_with (first | ((with_reducible refine gate_callee (f := 11) rfl ?_); refine goesL_ (some 15) rfl rfl Tryd.func11 (by kernel_rfl) rfl #[.slice A0 l0.length c0, .slice A1 l1.length c1] rfl (by (try simp only [List.map_toArray, List.map_cons, List.map_nil]); first | done | rfl | (simp only [List.length_drop, List.length_take]; rfl)) ?_; (with_reducible refine (tipstafflaw33_light.calls k _ _ l0 _ _ l1 false _ ?side1 ?side2 ?side3 ?side4 A6.out).mono ?_); (case side1 => repeat (first | exact (Kd.C_below HR0.out HB.out) | (with_reducible refine Kd.C_alloc ?_ _) | (with_reducible refine Kd.C_drewN ?_ _) | (with_reducible refine Kd.C_drew ?_))); (case side2 => exact HC0.out); (case side3 => repeat (first | exact (Kd.C_below HR1.out HB.out) | (with_reducible refine Kd.C_alloc ?_ _) | (with_reducible refine Kd.C_drewN ?_ _) | (with_reducible refine Kd.C_drew ?_))); (case side4 => exact HC1.out); rintro e w' ⟨rfl, ⟨nd, rfl⟩⟩; refine ⟨_, rfl, ?_⟩))
   go_meet
   case rel => exact ⟨_, (true), (by first | rfl | (simp; done) | (simp [*]; done)), H', ⟨by first | omega | exact Nat.le_refl _⟩, ⟨by (with_reducible repeat (first | refine blk_drewN ?_ _ | refine blk_drew ?_ | refine blk_alloc ?_ _)); exact BK398.out⟩, ⟨by repeat (first | (with_reducible first | exact HB.out | apply below_alloc | apply pw_below_drewN | apply below_drew1 | refine below_set ?_ GE398.out) | exact HB.out)⟩⟩
 case rest =>
  clear HC4
  try clear c1
  try clear p2
  try clear c6
  try clear c7
  try clear c8
  try clear c8b0
  try clear hcz10_0
  try clear hcz10_1
  try clear hcz10_2
  try clear hcz9_0
  try clear hcz9_1
  try clear hcz9_2
  try clear hfz10_0
  try clear hfz10_1
  try clear hfz10_2
  try clear hfz9_0
  try clear hfz9_1
  try clear hfz9_2
  obtain ⟨kq, x26_3, rfl, HA, HJ3, BK398, HB⟩ := hcut
  cases kq with
  | zero => exact absurd HA.out (by simp [tipstafflaw33_WordSeries.j0])
  | succ kj3 =>
   have H := HA.out
   clear HA
   simp only [tipstafflaw33_WordSeries.j0] at H
   by_cases c11 : x26_3 = true
   ·subst c11
    have H1 : ((tipstafflaw33_awake.f kj3).bind fun t400 => (some t400)) = some r := by rw [if_pos rfl] at H; exact H
    clear H
    have H := H1
    clear H1
    replace H := Option.bind_eq_some_iff.mp H
    obtain ⟨t400, A120, H⟩ := H
    replace H : (some t400) = some r := H
    have A12 := Aside0.mk A120
    clear A120
    obtain rfl := Option.some.inj H
    go_wp2_with (first | ((with_reducible refine gate_callee (f := 12) rfl ?_); refine goesL_ (some 27) rfl rfl Tryd.func12 (by kernel_rfl) rfl #[] rfl (by (try simp only [List.map_toArray, List.map_cons, List.map_nil]); first | done | rfl | (simp only [List.length_drop, List.length_take]; rfl)) ?_; (with_reducible refine (tipstafflaw33_awake.calls kj3  t400 _ (by first | with_reducible exact HL_ | ((repeat with_reducible apply LaidAt.drewN); with_reducible exact HL_) | exact LaidAt.below HL_ (by repeat (first | (with_reducible first | exact HB.out | apply below_alloc | apply pw_below_drewN | apply below_drew1 | refine below_set ?_ GE398.out) | exact HB.out))) A12.out).mono ?_); rintro e w13 ⟨rfl, hb⟩; refine ⟨_, rfl, ?_⟩; have n0_ := Aside0.mk (blk_below (g := gb398) (o := .cells #[.int .i64 a2_0, .int .i64 a2_1, .int .i64 a2_2] 44 (0, 0)) (by (with_reducible repeat (first | refine blk_drewN ?_ _ | refine blk_drew ?_ | refine blk_alloc ?_ _)); exact BK398.out) hb); have n1_ := Aside0.mk (below_step (by repeat (first | (with_reducible first | exact HB.out | apply below_alloc | apply pw_below_drewN | apply below_drew1 | refine below_set ?_ GE398.out) | exact HB.out)) hb); clear BK398; clear HB; have BK398 := n0_; have HB := n1_; clear n0_ n1_; (try clear hb); (try clear hb2); (try clear hk); (try clear hi)))
    go_ret
    exact ⟨by first | rfl | (simp [errW_none, errW_some] <;> rfl) | (simp [*, errW_none, errW_some] <;> rfl) | (simp (discharger := omega) only [Int.tdiv_eq_ediv_of_nonneg, Int.tmod_eq_emod_of_nonneg] <;> rfl), by repeat (first | (with_reducible first | exact HB.out | apply below_alloc | apply pw_below_drewN | apply below_drew1 | refine below_set ?_ GE398.out) | exact HB.out)⟩
   ·replace c11 := Bool.eq_false_iff.mpr c11
    subst c11
    have H1 : ((tipstaffkit_OwnInts.f l0).bind fun t401 => ((tipstafflaw33_ownEntries.f l1).bind fun t404 => ((word_Series.f kj3 a2_0 t401 t404 a2_1 a2_2).bind fun bt407 => ((tipstaffref33_Series.f kj3 a2_0 l0 l1 a2_1 a2_2).bind fun bt411 => ((tipstaffkit_SameInts.f kj3 bt407.1 bt411.1).bind fun t415 => (if t415 = true then (if bt407.2 = bt411.2 then ((tipstaffkit_SameInts.f kj3 t401 l0).bind fun t416 => (if t416 = true then ((tipstafflaw33_sameEntries.f kj3 t404 l1).bind fun t417 => (if t417 = true then ((tipstafflaw33_awake.f kj3).bind fun t418 => (some t418)) else (none))) else (none))) else (none)) else (none))))))) = some r := by rw [if_neg (show ¬ (false = true) by decide)] at H; exact H
    clear H
    have H := H1
    clear H1
    replace H := Option.bind_eq_some_iff.mp H
    obtain ⟨t401, A140, H⟩ := H
    replace H : ((tipstafflaw33_ownEntries.f l1).bind fun t404 => ((word_Series.f kj3 a2_0 t401 t404 a2_1 a2_2).bind fun bt407 => ((tipstaffref33_Series.f kj3 a2_0 l0 l1 a2_1 a2_2).bind fun bt411 => ((tipstaffkit_SameInts.f kj3 bt407.1 bt411.1).bind fun t415 => (if t415 = true then (if bt407.2 = bt411.2 then ((tipstaffkit_SameInts.f kj3 t401 l0).bind fun t416 => (if t416 = true then ((tipstafflaw33_sameEntries.f kj3 t404 l1).bind fun t417 => (if t417 = true then ((tipstafflaw33_awake.f kj3).bind fun t418 => (some t418)) else (none))) else (none))) else (none)) else (none)))))) = some r := H
    have A14 := Aside0.mk A140
    clear A140
    replace H := Option.bind_eq_some_iff.mp H
    obtain ⟨t404, A150, H⟩ := H
    replace H : ((word_Series.f kj3 a2_0 t401 t404 a2_1 a2_2).bind fun bt407 => ((tipstaffref33_Series.f kj3 a2_0 l0 l1 a2_1 a2_2).bind fun bt411 => ((tipstaffkit_SameInts.f kj3 bt407.1 bt411.1).bind fun t415 => (if t415 = true then (if bt407.2 = bt411.2 then ((tipstaffkit_SameInts.f kj3 t401 l0).bind fun t416 => (if t416 = true then ((tipstafflaw33_sameEntries.f kj3 t404 l1).bind fun t417 => (if t417 = true then ((tipstafflaw33_awake.f kj3).bind fun t418 => (some t418)) else (none))) else (none))) else (none)) else (none))))) = some r := H
    have A15 := Aside0.mk A150
    clear A150
    replace H := Option.bind_eq_some_iff.mp H
    obtain ⟨⟨t407, t410⟩, A160, H⟩ := H
    replace H : ((tipstaffref33_Series.f kj3 a2_0 l0 l1 a2_1 a2_2).bind fun bt411 => ((tipstaffkit_SameInts.f kj3 t407 bt411.1).bind fun t415 => (if t415 = true then (if t410 = bt411.2 then ((tipstaffkit_SameInts.f kj3 t401 l0).bind fun t416 => (if t416 = true then ((tipstafflaw33_sameEntries.f kj3 t404 l1).bind fun t417 => (if t417 = true then ((tipstafflaw33_awake.f kj3).bind fun t418 => (some t418)) else (none))) else (none))) else (none)) else (none)))) = some r := H
    have A16 := Aside0.mk A160
    clear A160
    replace H := Option.bind_eq_some_iff.mp H
    obtain ⟨⟨t411, t414⟩, A170, H⟩ := H
    replace H : ((tipstaffkit_SameInts.f kj3 t407 t411).bind fun t415 => (if t415 = true then (if t410 = t414 then ((tipstaffkit_SameInts.f kj3 t401 l0).bind fun t416 => (if t416 = true then ((tipstafflaw33_sameEntries.f kj3 t404 l1).bind fun t417 => (if t417 = true then ((tipstafflaw33_awake.f kj3).bind fun t418 => (some t418)) else (none))) else (none))) else (none)) else (none))) = some r := H
    have A17 := Aside0.mk A170
    clear A170
    replace H := Option.bind_eq_some_iff.mp H
    obtain ⟨t415, A180, H⟩ := H
    replace H : (if t415 = true then (if t410 = t414 then ((tipstaffkit_SameInts.f kj3 t401 l0).bind fun t416 => (if t416 = true then ((tipstafflaw33_sameEntries.f kj3 t404 l1).bind fun t417 => (if t417 = true then ((tipstafflaw33_awake.f kj3).bind fun t418 => (some t418)) else (none))) else (none))) else (none)) else (none)) = some r := H
    have A18 := Aside0.mk A180
    clear A180
    by_cases c19 : t415 = true
    ·subst c19
     have H1 : (if t410 = t414 then ((tipstaffkit_SameInts.f kj3 t401 l0).bind fun t416 => (if t416 = true then ((tipstafflaw33_sameEntries.f kj3 t404 l1).bind fun t417 => (if t417 = true then ((tipstafflaw33_awake.f kj3).bind fun t418 => (some t418)) else (none))) else (none))) else (none)) = some r := by rw [if_pos rfl] at H; exact H
     clear H
     have H := H1
     clear H1
     by_cases c20 : t410 = t414
     ·rw [if_pos c20] at H
      have c20b0 : (t410 == t414) = true := beq_iff_eq.mpr c20
      have c20b1 : (t410 != t414) = false := bne_eq_false_iff_eq.mpr c20
      clear c20
      replace H := Option.bind_eq_some_iff.mp H
      obtain ⟨t416, A210, H⟩ := H
      replace H : (if t416 = true then ((tipstafflaw33_sameEntries.f kj3 t404 l1).bind fun t417 => (if t417 = true then ((tipstafflaw33_awake.f kj3).bind fun t418 => (some t418)) else (none))) else (none)) = some r := H
      have A21 := Aside0.mk A210
      clear A210
      by_cases c22 : t416 = true
      ·subst c22
       have H1 : ((tipstafflaw33_sameEntries.f kj3 t404 l1).bind fun t417 => (if t417 = true then ((tipstafflaw33_awake.f kj3).bind fun t418 => (some t418)) else (none))) = some r := by rw [if_pos rfl] at H; exact H
       clear H
       have H := H1
       clear H1
       replace H := Option.bind_eq_some_iff.mp H
       obtain ⟨t417, A230, H⟩ := H
       replace H : (if t417 = true then ((tipstafflaw33_awake.f kj3).bind fun t418 => (some t418)) else (none)) = some r := H
       have A23 := Aside0.mk A230
       clear A230
       by_cases c24 : t417 = true
       ·subst c24
        have H1 : ((tipstafflaw33_awake.f kj3).bind fun t418 => (some t418)) = some r := by rw [if_pos rfl] at H; exact H
        clear H
        have H := H1
        clear H1
        replace H := Option.bind_eq_some_iff.mp H
        obtain ⟨t418, A250, H⟩ := H
        replace H : (some t418) = some r := H
        have A25 := Aside0.mk A250
        clear A250
        obtain rfl := Option.some.inj H
        go_wp2_with (first | ((with_reducible refine gate_callee (f := 13) rfl ?_); refine goesL_ (some 29) rfl rfl Tryd.func13 (by kernel_rfl) rfl #[.slice A0 l0.length c0] rfl (by (try simp only [List.map_toArray, List.map_cons, List.map_nil]); first | done | rfl | (simp only [List.length_drop, List.length_take]; rfl)) ?_; (with_reducible refine (tipstaffkit_OwnInts.calls _ _ l0 t401 _ ?side1 ?side2 A14.out).mono ?_); (case side1 => repeat (first | exact (Kd.C_below HR0.out HB.out) | (with_reducible refine Kd.C_alloc ?_ _) | (with_reducible refine Kd.C_drewN ?_ _) | (with_reducible refine Kd.C_drew ?_))); (case side2 => exact HC0.out); rintro e w26 ⟨v402, rfl, ho0, hb⟩; refine ⟨_, rfl, ?_⟩; have n0_ := Aside0.mk (Kd.R_lower ho0 (below_size (by repeat (first | (with_reducible first | exact HB.out | apply below_alloc | apply pw_below_drewN | apply below_drew1 | refine below_set ?_ GE398.out) | exact HB.out)))); have n1_ := Aside0.mk (blk_below (g := gb398) (o := .cells #[.int .i64 a2_0, .int .i64 a2_1, .int .i64 a2_2] 44 (0, 0)) (by (with_reducible repeat (first | refine blk_drewN ?_ _ | refine blk_drew ?_ | refine blk_alloc ?_ _)); exact BK398.out) hb); have n2_ := Aside0.mk (below_step (by repeat (first | (with_reducible first | exact HB.out | apply below_alloc | apply pw_below_drewN | apply below_drew1 | refine below_set ?_ GE398.out) | exact HB.out)) hb); clear BK398; clear HB; have HO403 := n0_; have BK398 := n1_; have HB := n2_; clear n0_ n1_ n2_; (try clear hb); (try clear hb2); (try clear hk); (try clear hi); (try clear ho0)) | ((with_reducible refine gate_callee (f := 14) rfl ?_); refine goesL_ (some 31) rfl rfl Tryd.func14 (by kernel_rfl) rfl #[.slice A1 l1.length c1] rfl (by (try simp only [List.map_toArray, List.map_cons, List.map_nil]); first | done | rfl | (simp only [List.length_drop, List.length_take]; rfl)) ?_; (with_reducible refine (tipstafflaw33_ownEntries.calls _ _ l1 t404 _ ?side1 ?side2 A15.out).mono ?_); (case side1 => repeat (first | exact (Kd.C_below HR1.out HB.out) | (with_reducible refine Kd.C_alloc ?_ _) | (with_reducible refine Kd.C_drewN ?_ _) | (with_reducible refine Kd.C_drew ?_))); (case side2 => exact HC1.out); rintro e w27 ⟨v405, rfl, ho0, hb⟩; refine ⟨_, rfl, ?_⟩; have n0_ := Aside0.mk (Kd.R_below (by (with_reducible repeat (first | apply Kd.R_alloc | apply Kd.R_drewN | apply Kd.R_drew)); exact HO403.out) hb); have n1_ := Aside0.mk (Kd.R_lower ho0 (below_size (by repeat (first | (with_reducible first | exact HB.out | apply below_alloc | apply pw_below_drewN | apply below_drew1 | refine below_set ?_ GE398.out) | exact HB.out)))); have n2_ := Aside0.mk (blk_below (g := gb398) (o := .cells #[.int .i64 a2_0, .int .i64 a2_1, .int .i64 a2_2] 44 (0, 0)) (by (with_reducible repeat (first | refine blk_drewN ?_ _ | refine blk_drew ?_ | refine blk_alloc ?_ _)); exact BK398.out) hb); have n3_ := Aside0.mk (below_step (by repeat (first | (with_reducible first | exact HB.out | apply below_alloc | apply pw_below_drewN | apply below_drew1 | refine below_set ?_ GE398.out) | exact HB.out)) hb); clear HO403; clear BK398; clear HB; have HO403 := n0_; have HO406 := n1_; have BK398 := n2_; have HB := n3_; clear n0_ n1_ n2_ n3_; (try clear hb); (try clear hb2); (try clear hk); (try clear hi); (try clear ho0); have hcz28_0 : w27.cell? ⟨gb398, 0, none⟩ = some (.int .i64 a2_0) := (blk_cell BK398.out 0).trans rfl; have hcz28_1 : w27.cell? ⟨gb398, 1, none⟩ = some (.int .i64 a2_1) := (blk_cell BK398.out 1).trans rfl; have hcz28_2 : w27.cell? ⟨gb398, 2, none⟩ = some (.int .i64 a2_2) := (blk_cell BK398.out 2).trans rfl; have hfz28_0 := blk_frozen BK398.out 0; have hfz28_1 := blk_frozen BK398.out 1; have hfz28_2 := blk_frozen BK398.out 2; obtain ⟨Ao29, co29, eo29⟩ := Kd.R_slice HO403.out; subst eo29; obtain ⟨Ao30, co30, eo30⟩ := Kd.R_slice HO406.out; subst eo30) | ((with_reducible refine gate_callee (f := 22) rfl ?_); refine goesL_ (some 41) rfl rfl Tryd.func22 (by kernel_rfl) rfl #[.int .i64 a2_0, .slice Ao29 t401.length co29, .slice Ao30 t404.length co30, .int .i64 a2_1, .int .i64 a2_2] rfl (by (try simp only [List.map_toArray, List.map_cons, List.map_nil]); first | done | rfl | (simp only [List.length_drop, List.length_take]; rfl)) ?_; (with_reducible refine (word_Series.calls kj3 a2_0 (fun k_ => some k_ = (.slice Ao29 t401.length co29 : Value).ownBlock) _ _ t401 _ _ t404 a2_1 a2_2 t407 t410 _ (by first | with_reducible exact HL_ | ((repeat with_reducible apply LaidAt.drewN); with_reducible exact HL_) | exact LaidAt.below HL_ (by repeat (first | (with_reducible first | exact HB.out | apply below_alloc | apply pw_below_drewN | apply below_drew1 | refine below_set ?_ GE398.out) | exact HB.out))) ?side1 ?side2 ?side3 A16.out).mono ?_); (case side1 => exact Kd.R_V (Kd.R_tight rfl (Kd.R_types (Kd.R_apart' (HO403.out) (Kd.R_typed HO406.out) (by decide)) BK398.out (by decide)))); (case side2 => repeat (first | exact (Kd.R_reads' HO406.out).2.2 | (with_reducible refine Kd.C_alloc ?_ _) | (with_reducible refine Kd.C_drewN ?_ _) | (with_reducible refine Kd.C_drew ?_))); (case side3 => exact (Kd.R_reads' HO406.out).2.1); rintro e w31 ⟨v408, rfl, ho0, hb⟩; refine ⟨_, rfl, ?_⟩; have n0_ := Aside0.mk (Kd.R_elder' (by (with_reducible repeat (first | apply Kd.R_alloc | apply Kd.R_drewN | apply Kd.R_drew)); exact HO403.out) (Kd.R_base ho0) hb); have n1_ := Aside0.mk (Kd.R_below (by (with_reducible repeat (first | apply Kd.R_alloc | apply Kd.R_drewN | apply Kd.R_drew)); exact HO406.out) hb); have n2_ := Aside0.mk (Kd.R_lower (Kd.R_new' (Kd.R_mono (ok' := fun k_ => True) ho0 (fun _ hk_ => trivial)) (Kd.R_lt (by (with_reducible repeat (first | apply Kd.R_alloc | apply Kd.R_drewN | apply Kd.R_drew)); exact HO403.out))) (below_size (by repeat (first | (with_reducible first | exact HB.out | apply below_alloc | apply pw_below_drewN | apply below_drew1 | refine below_set ?_ GE398.out) | exact HB.out)))); have n3_ := Aside0.mk (blk_below (g := gb398) (o := .cells #[.int .i64 a2_0, .int .i64 a2_1, .int .i64 a2_2] 44 (0, 0)) (by (with_reducible repeat (first | refine blk_drewN ?_ _ | refine blk_drew ?_ | refine blk_alloc ?_ _)); exact BK398.out) hb); have n4_ := Aside0.mk (below_step (by repeat (first | (with_reducible first | exact HB.out | apply below_alloc | apply pw_below_drewN | apply below_drew1 | refine below_set ?_ GE398.out) | exact HB.out)) hb); clear HO403; clear HO406; clear BK398; clear HB; have HO403 := n0_; have HO406 := n1_; have HO409 := n2_; have BK398 := n3_; have HB := n4_; clear n0_ n1_ n2_ n3_ n4_; (try clear hb); (try clear hb2); (try clear hk); (try clear hi); (try clear ho0); have hcz32_0 : w31.cell? ⟨gb398, 0, none⟩ = some (.int .i64 a2_0) := (blk_cell BK398.out 0).trans rfl; have hcz32_1 : w31.cell? ⟨gb398, 1, none⟩ = some (.int .i64 a2_1) := (blk_cell BK398.out 1).trans rfl; have hcz32_2 : w31.cell? ⟨gb398, 2, none⟩ = some (.int .i64 a2_2) := (blk_cell BK398.out 2).trans rfl; have hfz32_0 := blk_frozen BK398.out 0; have hfz32_1 := blk_frozen BK398.out 1; have hfz32_2 := blk_frozen BK398.out 2) | ((with_reducible refine gate_callee (f := 23) rfl ?_); refine goesL_ (some 53) rfl rfl Tryd.func23 (by kernel_rfl) rfl #[.int .i64 a2_0, .slice A0 l0.length c0, .slice A1 l1.length c1, .int .i64 a2_1, .int .i64 a2_2] rfl (by (try simp only [List.map_toArray, List.map_cons, List.map_nil]); first | done | rfl | (simp only [List.length_drop, List.length_take]; rfl)) ?_; (with_reducible refine (tipstaffref33_Series.calls kj3 a2_0 (fun k_ => k_ < w.heap.size) _ _ l0 _ _ l1 a2_1 a2_2 t411 t414 _ ?side1 ?side2 ?side3 A17.out).mono ?_); (case side1 => exact Kd.V_mk HC0.out (Kd.F_below (Kd.C_F (Kd.heap_int .i64) HR0.out) (by repeat (first | (with_reducible first | exact HB.out | apply below_alloc | apply pw_below_drewN | apply below_drew1 | refine below_set ?_ GE398.out) | exact HB.out)))); (case side2 => repeat (first | exact (Kd.C_below HR1.out HB.out) | (with_reducible refine Kd.C_alloc ?_ _) | (with_reducible refine Kd.C_drewN ?_ _) | (with_reducible refine Kd.C_drew ?_))); (case side3 => exact HC1.out); rintro e w33 ⟨v412, rfl, ho0, hb⟩; refine ⟨_, rfl, ?_⟩; have n0_ := Aside0.mk (Kd.R_elder' (by (with_reducible repeat (first | apply Kd.R_alloc | apply Kd.R_drewN | apply Kd.R_drew)); exact HO403.out) (Kd.R_base ho0) hb); have n1_ := Aside0.mk (Kd.R_below (by (with_reducible repeat (first | apply Kd.R_alloc | apply Kd.R_drewN | apply Kd.R_drew)); exact HO406.out) hb); have n2_ := Aside0.mk (Kd.R_elder' (by (with_reducible repeat (first | apply Kd.R_alloc | apply Kd.R_drewN | apply Kd.R_drew)); exact HO409.out) (Kd.R_base ho0) hb); have n3_ := Aside0.mk (Kd.R_lower (Kd.R_new' (Kd.R_new' (Kd.R_mono (ok' := fun k_ => True) ho0 (fun _ hk_ => trivial)) (Kd.R_lt (by (with_reducible repeat (first | apply Kd.R_alloc | apply Kd.R_drewN | apply Kd.R_drew)); exact HO403.out))) (Kd.R_lt (by (with_reducible repeat (first | apply Kd.R_alloc | apply Kd.R_drewN | apply Kd.R_drew)); exact HO409.out))) (below_size (by repeat (first | (with_reducible first | exact HB.out | apply below_alloc | apply pw_below_drewN | apply below_drew1 | refine below_set ?_ GE398.out) | exact HB.out)))); have n4_ := Aside0.mk (blk_below (g := gb398) (o := .cells #[.int .i64 a2_0, .int .i64 a2_1, .int .i64 a2_2] 44 (0, 0)) (by (with_reducible repeat (first | refine blk_drewN ?_ _ | refine blk_drew ?_ | refine blk_alloc ?_ _)); exact BK398.out) hb); have n5_ := Aside0.mk (below_step (by repeat (first | (with_reducible first | exact HB.out | apply below_alloc | apply pw_below_drewN | apply below_drew1 | refine below_set ?_ GE398.out) | exact HB.out)) hb); clear HO403; clear HO406; clear HO409; clear BK398; clear HB; have HO403 := n0_; have HO406 := n1_; have HO409 := n2_; have HO413 := n3_; have BK398 := n4_; have HB := n5_; clear n0_ n1_ n2_ n3_ n4_ n5_; (try clear hb); (try clear hb2); (try clear hk); (try clear hi); (try clear ho0); obtain ⟨Ao34, co34, eo34⟩ := Kd.R_slice HO409.out; subst eo34; obtain ⟨Ao35, co35, eo35⟩ := Kd.R_slice HO413.out; subst eo35) | ((with_reducible refine gate_callee (f := 17) rfl ?_); refine goesL_ (some 58) rfl rfl Tryd.func17 (by kernel_rfl) rfl #[.slice Ao34 t407.length co34, .slice Ao35 t411.length co35] rfl (by (try simp only [List.map_toArray, List.map_cons, List.map_nil]); first | done | rfl | (simp only [List.length_drop, List.length_take]; rfl)) ?_; (with_reducible refine (tipstaffkit_SameInts.calls kj3 _ _ t407 _ _ t411 true _ ?side1 ?side2 ?side3 ?side4 A18.out).mono ?_); (case side1 => repeat (first | exact (Kd.R_reads' HO409.out).2.2 | (with_reducible refine Kd.C_alloc ?_ _) | (with_reducible refine Kd.C_drewN ?_ _) | (with_reducible refine Kd.C_drew ?_))); (case side2 => exact (Kd.R_reads' HO409.out).2.1); (case side3 => repeat (first | exact (Kd.R_reads' HO413.out).2.2 | (with_reducible refine Kd.C_alloc ?_ _) | (with_reducible refine Kd.C_drewN ?_ _) | (with_reducible refine Kd.C_drew ?_))); (case side4 => exact (Kd.R_reads' HO413.out).2.1); rintro e w' ⟨rfl, ⟨nd, rfl⟩⟩; refine ⟨_, rfl, ?_⟩) | (go_at_call 17; (with_reducible refine (tipstaffkit_SameInts.calls kj3 _ _ t401 _ _ l0 true _ ?side1 ?side2 ?side3 ?side4 A21.out).mono ?_); (case side1 => repeat (first | exact (Kd.R_reads' HO403.out).2.2 | (with_reducible refine Kd.C_alloc ?_ _) | (with_reducible refine Kd.C_drewN ?_ _) | (with_reducible refine Kd.C_drew ?_))); (case side2 => exact (Kd.R_reads' HO403.out).2.1); (case side3 => repeat (first | exact (Kd.C_below HR0.out (by repeat (first | (with_reducible first | exact HB.out | apply below_alloc | apply pw_below_drewN | apply below_drew1 | refine below_set ?_ GE398.out) | exact HB.out))) | (with_reducible refine Kd.C_alloc ?_ _) | (with_reducible refine Kd.C_drewN ?_ _) | (with_reducible refine Kd.C_drew ?_))); (case side4 => exact HC0.out); rintro e w' ⟨rfl, ⟨nd, rfl⟩⟩) | (go_at_call 18; (with_reducible refine (tipstafflaw33_sameEntries.calls kj3 _ _ t404 _ _ l1 true _ ?side1 ?side2 ?side3 ?side4 A23.out).mono ?_); (case side1 => repeat (first | exact (Kd.R_reads' HO406.out).2.2 | (with_reducible refine Kd.C_alloc ?_ _) | (with_reducible refine Kd.C_drewN ?_ _) | (with_reducible refine Kd.C_drew ?_))); (case side2 => exact (Kd.R_reads' HO406.out).2.1); (case side3 => repeat (first | exact (Kd.C_below HR1.out (by repeat (first | (with_reducible first | exact HB.out | apply below_alloc | apply pw_below_drewN | apply below_drew1 | refine below_set ?_ GE398.out) | exact HB.out))) | (with_reducible refine Kd.C_alloc ?_ _) | (with_reducible refine Kd.C_drewN ?_ _) | (with_reducible refine Kd.C_drew ?_))); (case side4 => exact HC1.out); rintro e w' ⟨rfl, ⟨nd, rfl⟩⟩) | (go_at_call 12; (with_reducible refine (tipstafflaw33_awake.calls kj3  t418 _ (by first | with_reducible exact HL_ | ((repeat with_reducible apply LaidAt.drewN); with_reducible exact HL_) | exact LaidAt.below HL_ (by repeat (first | (with_reducible first | exact HB.out | apply below_alloc | apply pw_below_drewN | apply below_drew1 | refine below_set ?_ GE398.out) | exact HB.out))) A25.out).mono ?_); rintro e w36 ⟨rfl, hb⟩; have n0_ := Aside0.mk (Kd.R_below (by (with_reducible repeat (first | apply Kd.R_alloc | apply Kd.R_drewN | apply Kd.R_drew)); exact HO403.out) hb); have n1_ := Aside0.mk (Kd.R_below (by (with_reducible repeat (first | apply Kd.R_alloc | apply Kd.R_drewN | apply Kd.R_drew)); exact HO406.out) hb); have n2_ := Aside0.mk (Kd.R_below (by (with_reducible repeat (first | apply Kd.R_alloc | apply Kd.R_drewN | apply Kd.R_drew)); exact HO409.out) hb); have n3_ := Aside0.mk (Kd.R_below (by (with_reducible repeat (first | apply Kd.R_alloc | apply Kd.R_drewN | apply Kd.R_drew)); exact HO413.out) hb); have n4_ := Aside0.mk (blk_below (g := gb398) (o := .cells #[.int .i64 a2_0, .int .i64 a2_1, .int .i64 a2_2] 44 (0, 0)) (by (with_reducible repeat (first | refine blk_drewN ?_ _ | refine blk_drew ?_ | refine blk_alloc ?_ _)); exact BK398.out) hb); have n5_ := Aside0.mk (below_step (by repeat (first | (with_reducible first | exact HB.out | apply below_alloc | apply pw_below_drewN | apply below_drew1 | refine below_set ?_ GE398.out) | exact HB.out)) hb); clear HO403; clear HO406; clear HO409; clear HO413; clear BK398; clear HB; have HO403 := n0_; have HO406 := n1_; have HO409 := n2_; have HO413 := n3_; have BK398 := n4_; have HB := n5_; clear n0_ n1_ n2_ n3_ n4_ n5_; (try clear hb); (try clear hb2); (try clear hk); (try clear hi)))
        go_ret
        exact ⟨by first | rfl | (simp [errW_none, errW_some] <;> rfl) | (simp [*, errW_none, errW_some] <;> rfl) | (simp (discharger := omega) only [Int.tdiv_eq_ediv_of_nonneg, Int.tmod_eq_emod_of_nonneg] <;> rfl), by repeat (first | (with_reducible first | exact HB.out | apply below_alloc | apply pw_below_drewN | apply below_drew1 | refine below_set ?_ GE398.out) | exact HB.out)⟩
       ·replace c24 := Bool.eq_false_iff.mpr c24
        subst c24
        have H1 : (none) = some r := by rw [if_neg (show ¬ (false = true) by decide)] at H; exact H
        clear H
        have H := H1
        clear H1
        exact absurd H (by simp)
      ·replace c22 := Bool.eq_false_iff.mpr c22
       subst c22
       have H1 : (none) = some r := by rw [if_neg (show ¬ (false = true) by decide)] at H; exact H
       clear H
       have H := H1
       clear H1
       exact absurd H (by simp)
     ·rw [if_neg c20] at H
      exact absurd H (by simp)
    ·replace c19 := Bool.eq_false_iff.mpr c19
     subst c19
     have H1 : (none) = some r := by rw [if_neg (show ¬ (false = true) by decide)] at H; exact H
     clear H
     have H := H1
     clear H1
     exact absurd H (by simp)

end Go.Proofs.YtbcmlgbhejcjbaaDoor.S
