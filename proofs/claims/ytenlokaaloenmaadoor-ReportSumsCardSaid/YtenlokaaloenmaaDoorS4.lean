-- PRINTED by print.py (a twelfth state) out of the translation. Not trusted: Lean checks it.
import Derived.Test.YtenlokaaloenmaaDoorM3
import Derived.Test.YtenlokaaloenmaaDoorS3
namespace Go.Proofs.YtenlokaaloenmaaDoor.S
open Go.RowKit Go.Proofs.YtenlokaaloenmaaDoorW.PrintWords Go.Proofs.YtenlokaaloenmaaDoorW.PrintLast Go.Proofs.YtenlokaaloenmaaDoorW.PrintMore
attribute [local go_sem] Go.Proofs.YtenlokaaloenmaaDoorW.PrintXtra.isSome_setCell max2_int min2_int max_two min_two max_three min_three max_four min_four   -- for this text's walks alone
set_option linter.unusedVariables false
set_option linter.unusedSimpArgs false

/-! ### report_Check: function 17 -/
mutual
def report_Check.l0 : Nat → List (S41) → List (S41) → Int → Int → Option (Int × Int)
 | 0, _, _, _, _ => none
 | k + 1, x0, x10, x11, x12 => if x12 < x11 then (if 0 ≤ x12 then (if x12 < (x10.length : Int) then (if x12 = 0 then (if ((rd_T41 x10 x12).f0) < 0 then (report_Check.j1 k x0 x12 x10 x11 x12 true ((rd_T41 x10 x12).f0) ((rd_T41 x10 x12).f1) ((rd_T41 x10 x12).f2) ((rd_T41 x10 x12).f3) ((rd_T41 x10 x12).f4) ((rd_T41 x10 x12).f5)) else (report_Check.j1 k x0 x12 x10 x11 x12 (decide (((rd_T41 x10 x12).f0) > 1099511627776)) ((rd_T41 x10 x12).f0) ((rd_T41 x10 x12).f1) ((rd_T41 x10 x12).f2) ((rd_T41 x10 x12).f3) ((rd_T41 x10 x12).f4) ((rd_T41 x10 x12).f5))) else (report_Check.j1 k x0 x12 x10 x11 x12 false ((rd_T41 x10 x12).f0) ((rd_T41 x10 x12).f1) ((rd_T41 x10 x12).f2) ((rd_T41 x10 x12).f3) ((rd_T41 x10 x12).f4) ((rd_T41 x10 x12).f5))) else (none)) else (none)) else (some (0, 0))
def report_Check.j1 : Nat → List (S41) → Int → List (S41) → Int → Int → Bool → Int → List (S66) → List (S43) → Int → Int → Int → Option (Int × Int)
 | 0, _, _, _, _, _, _, _, _, _, _, _, _ => none
 | k + 1, x0, x4, x10, x11, x12, x24, x147000, x147001, x147002, x147003, x147004, x147005 => if x24 = true then (some (2, x4)) else (if x4 > 0 then (if 0 ≤ (wrap64 (x4 - 1)) then (if (wrap64 (x4 - 1)) < (x0.length : Int) then (report_Check.j2 k x0 x4 x10 x11 x12 (x147000 != (wrap64 (((rd_T41 x0 (wrap64 (x4 - 1))).f0) + 1))) x147000 x147001 x147002 x147003 x147004 x147005) else (none)) else (none)) else (report_Check.j2 k x0 x4 x10 x11 x12 false x147000 x147001 x147002 x147003 x147004 x147005))
def report_Check.j2 : Nat → List (S41) → Int → List (S41) → Int → Int → Bool → Int → List (S66) → List (S43) → Int → Int → Int → Option (Int × Int)
 | 0, _, _, _, _, _, _, _, _, _, _, _, _ => none
 | k + 1, x0, x4, x10, x11, x12, x37, x147000, x147001, x147002, x147003, x147004, x147005 => if x37 = true then (some (8, x4)) else (if 0 < (x0.length : Int) then ((report_view.f k x147000 x147001 x147002 x147003 x147004 x147005 (((rd_T41 x0 0).f2).length : Int)).bind fun t149 => (if t149 = 0 then (report_Check.l0 k x0 x10 x11 (wrap64 (x12 + 1))) else (some (t149, x4)))) else (none))
end
def report_Check.f (k : Nat) (l0 : List (S41)) : Option (Int × Int) := if (l0.length : Int) > 20000 then (some (4, 0)) else (report_Check.l0 k l0 l0 (l0.length : Int) 0)
theorem report_Check.mono_l : ∀ k, (∀ y0 y1 y2 y3, LeO (report_Check.l0 k y0 y1 y2 y3) (report_Check.l0 (k + 1) y0 y1 y2 y3)) ∧ (∀ y0 y1 y2 y3 y4 y5 y6 y7 y8 y9 y10 y11, LeO (report_Check.j1 k y0 y1 y2 y3 y4 y5 y6 y7 y8 y9 y10 y11) (report_Check.j1 (k + 1) y0 y1 y2 y3 y4 y5 y6 y7 y8 y9 y10 y11)) ∧ (∀ y0 y1 y2 y3 y4 y5 y6 y7 y8 y9 y10 y11, LeO (report_Check.j2 k y0 y1 y2 y3 y4 y5 y6 y7 y8 y9 y10 y11) (report_Check.j2 (k + 1) y0 y1 y2 y3 y4 y5 y6 y7 y8 y9 y10 y11))
 | 0 => ⟨fun _ _ _ _ r h => by simp [report_Check.l0] at h, fun _ _ _ _ _ _ _ _ _ _ _ _ r h => by simp [report_Check.j1] at h, fun _ _ _ _ _ _ _ _ _ _ _ _ r h => by simp [report_Check.j2] at h⟩
 | k + 1 => by
  obtain ⟨ih0, ih1, ih2⟩ := report_Check.mono_l k
  refine ⟨?_, ?_, ?_⟩
  ·intro y0 y1 y2 y3
   unfold report_Check.l0
   repeat' first
   | (with_reducible exact ih0 _ _ _ _)
   | (with_reducible exact ih1 _ _ _ _ _ _ _ _ _ _ _ _)
   | (with_reducible exact ih2 _ _ _ _ _ _ _ _ _ _ _ _)
   | (with_reducible exact report_view.mono _ _ _ _ _ _ _ _)
   | (with_reducible exact LeO.refl _)
   | (with_reducible exact LeO.none _)
   | (with_reducible refine LeO.ite ?_ ?_)
   | (with_reducible refine LeO.bind ?_ (fun _ => ?_))
   | exact ih0 _ _ _ _
   | exact ih1 _ _ _ _ _ _ _ _ _ _ _ _
   | exact ih2 _ _ _ _ _ _ _ _ _ _ _ _
   | exact report_view.mono _ _ _ _ _ _ _ _
   | exact LeO.none _
   | refine LeO.ite ?_ ?_
   | refine LeO.bind ?_ (fun _ => ?_)
  ·intro y0 y1 y2 y3 y4 y5 y6 y7 y8 y9 y10 y11
   unfold report_Check.j1
   repeat' first
   | (with_reducible exact ih0 _ _ _ _)
   | (with_reducible exact ih1 _ _ _ _ _ _ _ _ _ _ _ _)
   | (with_reducible exact ih2 _ _ _ _ _ _ _ _ _ _ _ _)
   | (with_reducible exact report_view.mono _ _ _ _ _ _ _ _)
   | (with_reducible exact LeO.refl _)
   | (with_reducible exact LeO.none _)
   | (with_reducible refine LeO.ite ?_ ?_)
   | (with_reducible refine LeO.bind ?_ (fun _ => ?_))
   | exact ih0 _ _ _ _
   | exact ih1 _ _ _ _ _ _ _ _ _ _ _ _
   | exact ih2 _ _ _ _ _ _ _ _ _ _ _ _
   | exact report_view.mono _ _ _ _ _ _ _ _
   | exact LeO.none _
   | refine LeO.ite ?_ ?_
   | refine LeO.bind ?_ (fun _ => ?_)
  ·intro y0 y1 y2 y3 y4 y5 y6 y7 y8 y9 y10 y11
   unfold report_Check.j2
   repeat' first
   | (with_reducible exact ih0 _ _ _ _)
   | (with_reducible exact ih1 _ _ _ _ _ _ _ _ _ _ _ _)
   | (with_reducible exact ih2 _ _ _ _ _ _ _ _ _ _ _ _)
   | (with_reducible exact report_view.mono _ _ _ _ _ _ _ _)
   | (with_reducible exact LeO.refl _)
   | (with_reducible exact LeO.none _)
   | (with_reducible refine LeO.ite ?_ ?_)
   | (with_reducible refine LeO.bind ?_ (fun _ => ?_))
   | exact ih0 _ _ _ _
   | exact ih1 _ _ _ _ _ _ _ _ _ _ _ _
   | exact ih2 _ _ _ _ _ _ _ _ _ _ _ _
   | exact report_view.mono _ _ _ _ _ _ _ _
   | exact LeO.none _
   | refine LeO.ite ?_ ?_
   | refine LeO.bind ?_ (fun _ => ?_)
theorem report_Check.mono : ∀ a0 k, LeO (report_Check.f k a0) (report_Check.f (k + 1) a0) := by
 intro a0 k
 obtain ⟨ih0, ih1, ih2⟩ := report_Check.mono_l k
 unfold report_Check.f
 repeat' first
   | (with_reducible exact ih0 _ _ _ _)
   | (with_reducible exact ih1 _ _ _ _ _ _ _ _ _ _ _ _)
   | (with_reducible exact ih2 _ _ _ _ _ _ _ _ _ _ _ _)
   | (with_reducible exact report_view.mono _ _ _ _ _ _ _ _)
   | (with_reducible exact LeO.refl _)
   | (with_reducible exact LeO.none _)
   | (with_reducible refine LeO.ite ?_ ?_)
   | (with_reducible refine LeO.bind ?_ (fun _ => ?_))
   | exact ih0 _ _ _ _
   | exact ih1 _ _ _ _ _ _ _ _ _ _ _ _
   | exact ih2 _ _ _ _ _ _ _ _ _ _ _ _
   | exact report_view.mono _ _ _ _ _ _ _ _
   | exact LeO.none _
   | refine LeO.ite ?_ ?_
   | refine LeO.bind ?_ (fun _ => ?_)
def report_Check.T7 : Bool × List (List Nat × List Nat) := (true, [([], []), ([], []), ([1], [1]), ([2], [2]), ([3], [3]), ([4], [4]), ([0, 5], [0, 5]), ([6, 6, 0, 1, 2, 3, 4, 5, 6], [6])])
def report_Check.B7 : List Nat := [0, 0, 2, 6, 14, 30, 63, 127]
theorem report_Check.tab7 : rtab .any (opsOf Tryd.f17 7) = report_Check.T7 := by kernel_rfl
theorem report_Check.bits7 : waitsOk report_Check.T7.2 report_Check.B7 = true := by kernel_rfl
def report_Check.T10 : Bool × List (List Nat × List Nat) := (true, [([], []), ([0], [0]), ([1], [1]), ([2], [2]), ([3, 2], [2, 3]), ([2], [2]), ([2], [2]), ([6, 2], [2, 6]), ([5, 7, 2], [2, 5, 7]), ([8, 2], [2, 8]), ([9, 2], [2, 9]), ([10, 2], [2, 10]), ([4, 11, 2], [2, 4, 11]), ([2, 12], [2, 12]), ([13, 2], [13])])
def report_Check.B10 : List Nat := [0, 1, 3, 7, 15, 7, 7, 71, 231, 487, 999, 2023, 4095, 8191, 16383]
theorem report_Check.tab10 : rtab .any (opsOf Tryd.f17 10) = report_Check.T10 := by kernel_rfl
theorem report_Check.bits10 : waitsOk report_Check.T10.2 report_Check.B10 = true := by kernel_rfl
set_option maxHeartbeats 8000000 in
set_option maxRecDepth 100000 in
theorem report_Check.calls (k : Nat) (A0 : Option Addr) (c0 : Nat) (l0 : List (S41)) (r1 : Int) (r2 : Int) (w : World) (hr0 : Kd.C k41 w A0 l0.length l0) (hc0 : l0.length ≤ c0) (h : report_Check.f k l0 = some (r1, r2)) :
  Calls Tryd.prog 17 #[.slice A0 l0.length c0] w fun e w' => e = .returned (.tuple #[.int .i64 r1, .int .i64 r2]) ∧ Below w.heap.size w w' := by
 have hu41 := Tryd.underlying41
 have HR0 := Aside0.mk hr0
 have HC0 := Aside0.mk hc0
 clear hr0 hc0
 have HB := Aside0.mk (Below.refl w.heap.size w)
 have H : (if (l0.length : Int) > 20000 then (some (4, 0)) else (report_Check.l0 k l0 l0 (l0.length : Int) 0)) = some (r1, r2) := h
 clear h
 by_cases c2 : (l0.length : Int) > 20000
 ·rw [if_pos c2] at H
  have c2b0 : decide (20000 < (l0.length : Int)) = true := decide_eq_true c2
  have c2b1 : decide (20000 < l0.length) = true := decide_eq_true (by omega)
  clear c2
  simp only [Option.some.injEq, Prod.mk.injEq] at H
  obtain ⟨rfl, rfl⟩ := H
  go_enter Tryd.func17, Tryd.ntmps17
  go_wp2
  go_ret2
  exact ⟨by first | rfl | (simp [errW_none, errW_some] <;> rfl) | (simp [*, errW_none, errW_some] <;> rfl) | (simp (discharger := omega) only [Int.tdiv_eq_ediv_of_nonneg, Int.tmod_eq_emod_of_nonneg] <;> rfl), by repeat (first | (with_reducible first | exact HB.out | apply below_alloc | apply pw_below_drewN | apply below_drew1) | exact HB.out)⟩
 ·rw [if_neg c2] at H
  have c2b0 : decide (20000 < (l0.length : Int)) = false := decide_eq_false c2
  have c2b1 : decide (20000 < l0.length) = false := decide_eq_false (by omega)
  clear c2
  have H' := Aside0.mk H
  clear H
  go_enter Tryd.func17, Tryd.ntmps17
  go_wp2
  go_loopg [12] k (fun kq v12 w' => ∃ (x12_1 : Int), v12 = .int .i64 x12_1 ∧ Aside0 (report_Check.l0 kq l0 l0 (l0.length : Int) x12_1 = some (r1, r2)) ∧ Aside0 (kq ≤ k) ∧ Aside0 (Below w.heap.size w w'))
  case atStart => exact ⟨(0), (by first | rfl | (simp; done) | (simp [*]; done)), H', ⟨Nat.le_refl _⟩, ⟨by repeat (first | (with_reducible first | exact HB.out | apply below_alloc | apply pw_below_drewN | apply below_drew1) | exact HB.out)⟩⟩
  case round =>
   clear H'
   try clear c1
   try clear c2
   try clear c2b0
   try clear c2b1
   try clear p2
   obtain ⟨x12_1, rfl, HA, HK1, HB⟩ := hrel
   cases gk with
   | zero => exact absurd HA.out (by simp [report_Check.l0])
   | succ k1 =>
    have H := HA.out
    clear HA
    simp only [report_Check.l0] at H
    by_cases c3 : x12_1 < (l0.length : Int)
    ·rw [if_pos c3] at H
     have c3b0 : decide (x12_1 < (l0.length : Int)) = true := decide_eq_true c3
     clear c3
     by_cases c4 : 0 ≤ x12_1
     ·rw [if_pos c4] at H
      have c4b0 : decide (0 ≤ x12_1) = true := decide_eq_true c4
      clear c4
      by_cases c5 : x12_1 < (l0.length : Int)
      ·rw [if_pos c5] at H
       have c5b0 : decide (x12_1 < (l0.length : Int)) = true := decide_eq_true c5
       clear c5
       have HC6 := Aside0.mk H
       clear H
       have p145 : 0 ≤ (x12_1 : Int) := of_decide_eq_true (by first | (with_reducible assumption) | assumption)
       have q145 : x12_1 < (l0.length : Int) := of_decide_eq_true (by first | (with_reducible assumption) | assumption)
       obtain ⟨ad145, A145_1, c145_1, A145_2, c145_2, e145, hx145_0, hx145_1, hx145_2, hx145_3, hx145_4, hx145_5, hl145_1, hi145_1, hl145_2, hi145_2⟩ := at_T41 HR0.out x12_1 p145 q145
       cases e145
       replace hx145_0 := (HB.out.cell (World.block_lt_of_cell? w _ hx145_0)).trans hx145_0
       replace hx145_1 := (HB.out.cell (World.block_lt_of_cell? w _ hx145_1)).trans hx145_1
       replace hx145_2 := (HB.out.cell (World.block_lt_of_cell? w _ hx145_2)).trans hx145_2
       replace hx145_3 := (HB.out.cell (World.block_lt_of_cell? w _ hx145_3)).trans hx145_3
       replace hx145_4 := (HB.out.cell (World.block_lt_of_cell? w _ hx145_4)).trans hx145_4
       replace hx145_5 := (HB.out.cell (World.block_lt_of_cell? w _ hx145_5)).trans hx145_5
       have HR145_1 := Aside0.mk hi145_1
       have HC145_1 := Aside0.mk hl145_1
       clear hi145_1 hl145_1
       have HR145_2 := Aside0.mk hi145_2
       have HC145_2 := Aside0.mk hl145_2
       clear hi145_2 hl145_2
       replace p145 := eq_true p145
       replace q145 := eq_true q145
       go_upto_region 8 with (first | ((with_reducible refine gate_dst (N := 5) rfl ?_); refine box_event ?hg (N := 5) ?hd (cs := #[.int .i64 0, .slice none 0 0, .slice none 0 0, .int .u64 0, .int .u64 0, .int .i64 0]) (t := 41) ?hr ?_; (case hd => rfl); (case hg => rfl); (case hr => first | (go_simp; done) | (go_simp; rfl)); intro gb146 hg w7 hbox hb; have n0_ := Aside0.mk (below_step (by repeat (first | (with_reducible first | exact HB.out | apply below_alloc | apply pw_below_drewN | apply below_drew1) | exact HB.out)) hb); have n1_ := Aside0.mk (hbox); have n2_ := Aside0.mk ((by rw [hg]; exact (below_size (by repeat (first | (with_reducible first | exact HB.out | apply below_alloc | apply pw_below_drewN | apply below_drew1) | exact HB.out))) : w.heap.size ≤ gb146)); have n3_ := Aside0.mk ((by rw [hg]; exact (below_size (by repeat (first | (with_reducible first | exact HB.out | apply below_alloc | apply pw_below_drewN | apply below_drew1) | exact HB.out))) : w.heap.size ≤ gb146)); clear HB; have HB := n0_; have BK146 := n1_; have GW146 := n2_; have GE146 := n3_; clear n0_ n1_ n2_ n3_; clear hb hbox hg; have hcz8_0 : w7.cell? ⟨gb146, 0, none⟩ = some (.int .i64 0) := (blk_cell BK146.out 0).trans rfl; have hcz8_1 : w7.cell? ⟨gb146, 1, none⟩ = some (.slice none 0 0) := (blk_cell BK146.out 1).trans rfl; have hcz8_2 : w7.cell? ⟨gb146, 2, none⟩ = some (.slice none 0 0) := (blk_cell BK146.out 2).trans rfl; have hcz8_3 : w7.cell? ⟨gb146, 3, none⟩ = some (.int .u64 0) := (blk_cell BK146.out 3).trans rfl; have hcz8_4 : w7.cell? ⟨gb146, 4, none⟩ = some (.int .u64 0) := (blk_cell BK146.out 4).trans rfl; have hcz8_5 : w7.cell? ⟨gb146, 5, none⟩ = some (.int .i64 0) := (blk_cell BK146.out 5).trans rfl; have hfz8_0 := blk_frozen BK146.out 0; have hfz8_1 := blk_frozen BK146.out 1; have hfz8_2 := blk_frozen BK146.out 2; have hfz8_3 := blk_frozen BK146.out 3; have hfz8_4 := blk_frozen BK146.out 4; have hfz8_5 := blk_frozen BK146.out 5))
       (try simp only [Act.put, List.setIfInBounds_toArray, List.set_cons_zero, List.set_cons_succ])
       go_cut [24] (fun v24 wc => ∃ (kq : Nat) (x24_5 : Bool), v24 = .bool x24_5 ∧ Aside0 (report_Check.j1 kq l0 x12_1 l0 (l0.length : Int) x12_1 x24_5 ((rd_T41 l0 x12_1).f0) ((rd_T41 l0 x12_1).f1) ((rd_T41 l0 x12_1).f2) ((rd_T41 l0 x12_1).f3) ((rd_T41 l0 x12_1).f4) ((rd_T41 l0 x12_1).f5) = some (r1, r2)) ∧ Aside0 (kq ≤ k1) ∧ Aside0 (wc.heap[gb146]? = some (.cells #[.int .i64 ((rd_T41 l0 x12_1).f0), (.slice A145_1 ((rd_T41 l0 x12_1).f1).length c145_1), (.slice A145_2 ((rd_T41 l0 x12_1).f2).length c145_2), .int .u64 ((rd_T41 l0 x12_1).f3), .int .u64 ((rd_T41 l0 x12_1).f4), .int .i64 ((rd_T41 l0 x12_1).f5)] 41 (0, 0))) ∧ Aside0 (Below w.heap.size w wc))
       case first =>
        have H := HC6.out
        clear HC6
        by_cases c9 : x12_1 = 0
        ·rw [if_pos c9] at H
         have c9b0 : (x12_1 == 0) = true := beq_iff_eq.mpr c9
         have c9b1 : (x12_1 != 0) = false := bne_eq_false_iff_eq.mpr c9
         clear c9
         (first | rw [c9b0] | (simp only [i64_w, i32_w]; rw [c9b0]) | skip)
         by_cases c10 : ((rd_T41 l0 x12_1).f0) < 0
         ·rw [if_pos c10] at H
          have c10b0 : decide (((rd_T41 l0 x12_1).f0) < 0) = true := decide_eq_true c10
          clear c10
          have H' := Aside0.mk H
          clear H
          have hcz11_0 : w7.cell? ⟨gb146, 0, none⟩ = some (.int .i64 0) := (blk_cell BK146.out 0).trans rfl
          have hcz11_1 : w7.cell? ⟨gb146, 1, none⟩ = some (.slice none 0 0) := (blk_cell BK146.out 1).trans rfl
          have hcz11_2 : w7.cell? ⟨gb146, 2, none⟩ = some (.slice none 0 0) := (blk_cell BK146.out 2).trans rfl
          have hcz11_3 : w7.cell? ⟨gb146, 3, none⟩ = some (.int .u64 0) := (blk_cell BK146.out 3).trans rfl
          have hcz11_4 : w7.cell? ⟨gb146, 4, none⟩ = some (.int .u64 0) := (blk_cell BK146.out 4).trans rfl
          have hcz11_5 : w7.cell? ⟨gb146, 5, none⟩ = some (.int .i64 0) := (blk_cell BK146.out 5).trans rfl
          have hfz11_0 := blk_frozen BK146.out 0
          have hfz11_1 := blk_frozen BK146.out 1
          have hfz11_2 := blk_frozen BK146.out 2
          have hfz11_3 := blk_frozen BK146.out 3
          have hfz11_4 := blk_frozen BK146.out 4
          have hfz11_5 := blk_frozen BK146.out 5
          go_wp2
          go_meet
          case rel => exact ⟨_, (true), (by first | rfl | (simp; done) | (simp [*]; done)), H', ⟨by have := HK1.out; first | omega | exact Nat.le_refl _⟩, ⟨by (with_reducible repeat (first | refine blk_drewN ?_ _ | refine blk_drew ?_ | refine blk_alloc ?_ _)); refine blk_put (cs := #[.int .i64 ((rd_T41 l0 x12_1).f0), .slice A145_1 ((rd_T41 l0 x12_1).f1).length c145_1, .slice A145_2 ((rd_T41 l0 x12_1).f2).length c145_2, .int .u64 ((rd_T41 l0 x12_1).f3), .int .u64 ((rd_T41 l0 x12_1).f4), .int .i64 0]) ?_ 5 _ rfl; (with_reducible repeat (first | refine blk_drewN ?_ _ | refine blk_drew ?_ | refine blk_alloc ?_ _)); refine blk_put (cs := #[.int .i64 ((rd_T41 l0 x12_1).f0), .slice A145_1 ((rd_T41 l0 x12_1).f1).length c145_1, .slice A145_2 ((rd_T41 l0 x12_1).f2).length c145_2, .int .u64 ((rd_T41 l0 x12_1).f3), .int .u64 0, .int .i64 0]) ?_ 4 _ rfl; (with_reducible repeat (first | refine blk_drewN ?_ _ | refine blk_drew ?_ | refine blk_alloc ?_ _)); refine blk_put (cs := #[.int .i64 ((rd_T41 l0 x12_1).f0), .slice A145_1 ((rd_T41 l0 x12_1).f1).length c145_1, .slice A145_2 ((rd_T41 l0 x12_1).f2).length c145_2, .int .u64 0, .int .u64 0, .int .i64 0]) ?_ 3 _ rfl; (with_reducible repeat (first | refine blk_drewN ?_ _ | refine blk_drew ?_ | refine blk_alloc ?_ _)); refine blk_put (cs := #[.int .i64 ((rd_T41 l0 x12_1).f0), .slice A145_1 ((rd_T41 l0 x12_1).f1).length c145_1, .slice none 0 0, .int .u64 0, .int .u64 0, .int .i64 0]) ?_ 2 _ rfl; (with_reducible repeat (first | refine blk_drewN ?_ _ | refine blk_drew ?_ | refine blk_alloc ?_ _)); refine blk_put (cs := #[.int .i64 ((rd_T41 l0 x12_1).f0), .slice none 0 0, .slice none 0 0, .int .u64 0, .int .u64 0, .int .i64 0]) ?_ 1 _ rfl; (with_reducible repeat (first | refine blk_drewN ?_ _ | refine blk_drew ?_ | refine blk_alloc ?_ _)); refine blk_put (cs := #[.int .i64 0, .slice none 0 0, .slice none 0 0, .int .u64 0, .int .u64 0, .int .i64 0]) ?_ 0 _ rfl; (with_reducible repeat (first | refine blk_drewN ?_ _ | refine blk_drew ?_ | refine blk_alloc ?_ _)); exact BK146.out⟩, ⟨by repeat (first | (with_reducible first | exact HB.out | apply below_alloc | apply pw_below_drewN | apply below_drew1 | refine below_set ?_ GE146.out) | exact HB.out)⟩⟩
         ·rw [if_neg c10] at H
          have c10b0 : decide (((rd_T41 l0 x12_1).f0) < 0) = false := decide_eq_false c10
          clear c10
          have H' := Aside0.mk H
          clear H
          have hcz12_0 : w7.cell? ⟨gb146, 0, none⟩ = some (.int .i64 0) := (blk_cell BK146.out 0).trans rfl
          have hcz12_1 : w7.cell? ⟨gb146, 1, none⟩ = some (.slice none 0 0) := (blk_cell BK146.out 1).trans rfl
          have hcz12_2 : w7.cell? ⟨gb146, 2, none⟩ = some (.slice none 0 0) := (blk_cell BK146.out 2).trans rfl
          have hcz12_3 : w7.cell? ⟨gb146, 3, none⟩ = some (.int .u64 0) := (blk_cell BK146.out 3).trans rfl
          have hcz12_4 : w7.cell? ⟨gb146, 4, none⟩ = some (.int .u64 0) := (blk_cell BK146.out 4).trans rfl
          have hcz12_5 : w7.cell? ⟨gb146, 5, none⟩ = some (.int .i64 0) := (blk_cell BK146.out 5).trans rfl
          have hfz12_0 := blk_frozen BK146.out 0
          have hfz12_1 := blk_frozen BK146.out 1
          have hfz12_2 := blk_frozen BK146.out 2
          have hfz12_3 := blk_frozen BK146.out 3
          have hfz12_4 := blk_frozen BK146.out 4
          have hfz12_5 := blk_frozen BK146.out 5
          go_wp2
          go_meet
          case rel => exact ⟨_, (decide (((rd_T41 l0 x12_1).f0) > 1099511627776)), (by first | rfl | (simp; done) | (simp [*]; done)), H', ⟨by have := HK1.out; first | omega | exact Nat.le_refl _⟩, ⟨by (with_reducible repeat (first | refine blk_drewN ?_ _ | refine blk_drew ?_ | refine blk_alloc ?_ _)); refine blk_put (cs := #[.int .i64 ((rd_T41 l0 x12_1).f0), .slice A145_1 ((rd_T41 l0 x12_1).f1).length c145_1, .slice A145_2 ((rd_T41 l0 x12_1).f2).length c145_2, .int .u64 ((rd_T41 l0 x12_1).f3), .int .u64 ((rd_T41 l0 x12_1).f4), .int .i64 0]) ?_ 5 _ rfl; (with_reducible repeat (first | refine blk_drewN ?_ _ | refine blk_drew ?_ | refine blk_alloc ?_ _)); refine blk_put (cs := #[.int .i64 ((rd_T41 l0 x12_1).f0), .slice A145_1 ((rd_T41 l0 x12_1).f1).length c145_1, .slice A145_2 ((rd_T41 l0 x12_1).f2).length c145_2, .int .u64 ((rd_T41 l0 x12_1).f3), .int .u64 0, .int .i64 0]) ?_ 4 _ rfl; (with_reducible repeat (first | refine blk_drewN ?_ _ | refine blk_drew ?_ | refine blk_alloc ?_ _)); refine blk_put (cs := #[.int .i64 ((rd_T41 l0 x12_1).f0), .slice A145_1 ((rd_T41 l0 x12_1).f1).length c145_1, .slice A145_2 ((rd_T41 l0 x12_1).f2).length c145_2, .int .u64 0, .int .u64 0, .int .i64 0]) ?_ 3 _ rfl; (with_reducible repeat (first | refine blk_drewN ?_ _ | refine blk_drew ?_ | refine blk_alloc ?_ _)); refine blk_put (cs := #[.int .i64 ((rd_T41 l0 x12_1).f0), .slice A145_1 ((rd_T41 l0 x12_1).f1).length c145_1, .slice none 0 0, .int .u64 0, .int .u64 0, .int .i64 0]) ?_ 2 _ rfl; (with_reducible repeat (first | refine blk_drewN ?_ _ | refine blk_drew ?_ | refine blk_alloc ?_ _)); refine blk_put (cs := #[.int .i64 ((rd_T41 l0 x12_1).f0), .slice none 0 0, .slice none 0 0, .int .u64 0, .int .u64 0, .int .i64 0]) ?_ 1 _ rfl; (with_reducible repeat (first | refine blk_drewN ?_ _ | refine blk_drew ?_ | refine blk_alloc ?_ _)); refine blk_put (cs := #[.int .i64 0, .slice none 0 0, .slice none 0 0, .int .u64 0, .int .u64 0, .int .i64 0]) ?_ 0 _ rfl; (with_reducible repeat (first | refine blk_drewN ?_ _ | refine blk_drew ?_ | refine blk_alloc ?_ _)); exact BK146.out⟩, ⟨by repeat (first | (with_reducible first | exact HB.out | apply below_alloc | apply pw_below_drewN | apply below_drew1 | refine below_set ?_ GE146.out) | exact HB.out)⟩⟩
        ·rw [if_neg c9] at H
         have c9b0 : (x12_1 == 0) = false := beq_eq_false_iff_ne.mpr c9
         have c9b1 : (x12_1 != 0) = true := bne_iff_ne.mpr c9
         (first | rw [c9b0] | (simp only [i64_w, i32_w]; rw [c9b0]) | skip)
         have H' := Aside0.mk H
         clear H
         go_wp2
         go_meet
         case rel => exact ⟨_, (false), (by first | rfl | (simp; done) | (simp [*]; done)), H', ⟨by have := HK1.out; first | omega | exact Nat.le_refl _⟩, ⟨by (with_reducible repeat (first | refine blk_drewN ?_ _ | refine blk_drew ?_ | refine blk_alloc ?_ _)); refine blk_put (cs := #[.int .i64 ((rd_T41 l0 x12_1).f0), .slice A145_1 ((rd_T41 l0 x12_1).f1).length c145_1, .slice A145_2 ((rd_T41 l0 x12_1).f2).length c145_2, .int .u64 ((rd_T41 l0 x12_1).f3), .int .u64 ((rd_T41 l0 x12_1).f4), .int .i64 0]) ?_ 5 _ rfl; (with_reducible repeat (first | refine blk_drewN ?_ _ | refine blk_drew ?_ | refine blk_alloc ?_ _)); refine blk_put (cs := #[.int .i64 ((rd_T41 l0 x12_1).f0), .slice A145_1 ((rd_T41 l0 x12_1).f1).length c145_1, .slice A145_2 ((rd_T41 l0 x12_1).f2).length c145_2, .int .u64 ((rd_T41 l0 x12_1).f3), .int .u64 0, .int .i64 0]) ?_ 4 _ rfl; (with_reducible repeat (first | refine blk_drewN ?_ _ | refine blk_drew ?_ | refine blk_alloc ?_ _)); refine blk_put (cs := #[.int .i64 ((rd_T41 l0 x12_1).f0), .slice A145_1 ((rd_T41 l0 x12_1).f1).length c145_1, .slice A145_2 ((rd_T41 l0 x12_1).f2).length c145_2, .int .u64 0, .int .u64 0, .int .i64 0]) ?_ 3 _ rfl; (with_reducible repeat (first | refine blk_drewN ?_ _ | refine blk_drew ?_ | refine blk_alloc ?_ _)); refine blk_put (cs := #[.int .i64 ((rd_T41 l0 x12_1).f0), .slice A145_1 ((rd_T41 l0 x12_1).f1).length c145_1, .slice none 0 0, .int .u64 0, .int .u64 0, .int .i64 0]) ?_ 2 _ rfl; (with_reducible repeat (first | refine blk_drewN ?_ _ | refine blk_drew ?_ | refine blk_alloc ?_ _)); refine blk_put (cs := #[.int .i64 ((rd_T41 l0 x12_1).f0), .slice none 0 0, .slice none 0 0, .int .u64 0, .int .u64 0, .int .i64 0]) ?_ 1 _ rfl; (with_reducible repeat (first | refine blk_drewN ?_ _ | refine blk_drew ?_ | refine blk_alloc ?_ _)); refine blk_put (cs := #[.int .i64 0, .slice none 0 0, .slice none 0 0, .int .u64 0, .int .u64 0, .int .i64 0]) ?_ 0 _ rfl; (with_reducible repeat (first | refine blk_drewN ?_ _ | refine blk_drew ?_ | refine blk_alloc ?_ _)); exact BK146.out⟩, ⟨by repeat (first | (with_reducible first | exact HB.out | apply below_alloc | apply pw_below_drewN | apply below_drew1 | refine below_set ?_ GE146.out) | exact HB.out)⟩⟩
       case rest =>
        clear HC6
        try clear c1
        try clear p1
        try clear q1
        try clear hx1
        try clear c2
        try clear c2b0
        try clear c2b1
        try clear p2
        try clear c3
        try clear c3b0
        try clear c4
        try clear c4b0
        try clear c5
        try clear c5b0
        try clear c9
        try clear c9b0
        try clear c9b1
        try clear c10
        try clear c10b0
        try clear hcz11_0
        try clear hcz11_1
        try clear hcz11_2
        try clear hcz11_3
        try clear hcz11_4
        try clear hcz11_5
        try clear hcz12_0
        try clear hcz12_1
        try clear hcz12_2
        try clear hcz12_3
        try clear hcz12_4
        try clear hcz12_5
        try clear hcz8_0
        try clear hcz8_1
        try clear hcz8_2
        try clear hcz8_3
        try clear hcz8_4
        try clear hcz8_5
        try clear hfz11_0
        try clear hfz11_1
        try clear hfz11_2
        try clear hfz11_3
        try clear hfz11_4
        try clear hfz11_5
        try clear hfz12_0
        try clear hfz12_1
        try clear hfz12_2
        try clear hfz12_3
        try clear hfz12_4
        try clear hfz12_5
        try clear hfz8_0
        try clear hfz8_1
        try clear hfz8_2
        try clear hfz8_3
        try clear hfz8_4
        try clear hfz8_5
        try clear hx145_0
        try clear hx145_1
        try clear hx145_2
        try clear hx145_3
        try clear hx145_4
        try clear hx145_5
        try clear p145
        try clear p2
        try clear q145
        obtain ⟨kq, x24_5, rfl, HA, HJ5, BK146, HB⟩ := hcut
        cases kq with
        | zero => exact absurd HA.out (by simp [report_Check.j1])
        | succ kj5 =>
         have H := HA.out
         clear HA
         simp only [report_Check.j1] at H
         by_cases c13 : x24_5 = true
         ·subst c13
          have H1 : (some (2, x12_1)) = some (r1, r2) := by rw [if_pos rfl] at H; exact H
          clear H
          have H := H1
          clear H1
          simp only [Option.some.injEq, Prod.mk.injEq] at H
          obtain ⟨rfl, rfl⟩ := H
          go_wp2
          go_ret2
          exact ⟨by first | rfl | (simp [errW_none, errW_some] <;> rfl) | (simp [*, errW_none, errW_some] <;> rfl) | (simp (discharger := omega) only [Int.tdiv_eq_ediv_of_nonneg, Int.tmod_eq_emod_of_nonneg] <;> rfl), by repeat (first | (with_reducible first | exact HB.out | apply below_alloc | apply pw_below_drewN | apply below_drew1 | refine below_set ?_ GE146.out) | exact HB.out)⟩
         ·replace c13 := Bool.eq_false_iff.mpr c13
          subst c13
          have H1 := H
          rw [if_neg (show ¬ (false = true) by decide)] at H1
          clear H
          have H := H1
          clear H1
          have HC14 := Aside0.mk H
          clear H
          go_upto_region 10 with (fail)
          go_cut [37] (fun v37 wc => ∃ (kq : Nat) (x37_13 : Bool), v37 = .bool x37_13 ∧ Aside0 (report_Check.j2 kq l0 x12_1 l0 (l0.length : Int) x12_1 x37_13 ((rd_T41 l0 x12_1).f0) ((rd_T41 l0 x12_1).f1) ((rd_T41 l0 x12_1).f2) ((rd_T41 l0 x12_1).f3) ((rd_T41 l0 x12_1).f4) ((rd_T41 l0 x12_1).f5) = some (r1, r2)) ∧ Aside0 (kq ≤ kj5) ∧ Aside0 (wc.heap[gb146]? = some (.cells #[.int .i64 ((rd_T41 l0 x12_1).f0), (.slice A145_1 ((rd_T41 l0 x12_1).f1).length c145_1), (.slice A145_2 ((rd_T41 l0 x12_1).f2).length c145_2), .int .u64 ((rd_T41 l0 x12_1).f3), .int .u64 ((rd_T41 l0 x12_1).f4), .int .i64 ((rd_T41 l0 x12_1).f5)] 41 (0, 0))) ∧ Aside0 (Below w.heap.size w wc))
          case first =>
           have H := HC14.out
           clear HC14
           by_cases c15 : x12_1 > 0
           ·rw [if_pos c15] at H
            have c15b0 : decide (0 < x12_1) = true := decide_eq_true c15
            clear c15
            (first | rw [c15b0] | (simp only [i64_w, i32_w]; rw [c15b0]) | skip)
            obtain ⟨ji16, hji16⟩ : ∃ j_ : Int, (wrap64 (x12_1 - 1)) = j_ := ⟨_, rfl⟩
            replace H : (if 0 ≤ (ji16) then (if (ji16) < (l0.length : Int) then (report_Check.j2 kj5 l0 x12_1 l0 (l0.length : Int) x12_1 (((rd_T41 l0 x12_1).f0) != (wrap64 (((rd_T41 l0 (ji16)).f0) + 1))) ((rd_T41 l0 x12_1).f0) ((rd_T41 l0 x12_1).f1) ((rd_T41 l0 x12_1).f2) ((rd_T41 l0 x12_1).f3) ((rd_T41 l0 x12_1).f4) ((rd_T41 l0 x12_1).f5)) else (none)) else (none)) = some (r1, r2) := by first | (rw [hji16] at H; exact H) | (simp only [hji16] at H ⊢; exact H)
            have hji16w : (IntKind.i64.wrap (x12_1 - 1)) = ji16 := (i64_w _).trans hji16
            by_cases c17 : 0 ≤ (ji16)
            ·rw [if_pos c17] at H
             have c17b0 : decide (0 ≤ (ji16)) = true := decide_eq_true c17
             clear c17
             by_cases c18 : (ji16) < (l0.length : Int)
             ·rw [if_pos c18] at H
              have c18b0 : decide ((ji16) < (l0.length : Int)) = true := decide_eq_true c18
              clear c18
              have H' := Aside0.mk H
              clear H
              try go_wp2
              have n0_ := Aside0.mk (blk_drew BK146.out)
              have n1_ := Aside0.mk (below_drew1 HB.out)
              clear BK146
              clear HB
              have BK146 := n0_
              have HB := n1_
              clear n0_ n1_
              have p147 : 0 ≤ ((ji16) : Int) := of_decide_eq_true (by first | (with_reducible assumption) | assumption)
              have q147 : (ji16) < (l0.length : Int) := of_decide_eq_true (by first | (with_reducible assumption) | assumption)
              obtain ⟨ad147, A147_1, c147_1, A147_2, c147_2, e147, hx147_0, hx147_1, hx147_2, hx147_3, hx147_4, hx147_5, hl147_1, hi147_1, hl147_2, hi147_2⟩ := at_T41 HR0.out (ji16) p147 q147
              have hw147_5 := hx147_5
              have hw147_4 := hx147_4
              have hw147_3 := hx147_3
              have hw147_2 := hx147_2
              have hw147_1 := hx147_1
              have hw147_0 := hx147_0
              obtain rfl : ad145 = ad147 := (by injection e147)
              replace hx147_0 := (HB.out.cell (World.block_lt_of_cell? w _ hx147_0)).trans hx147_0
              replace hx147_1 := (HB.out.cell (World.block_lt_of_cell? w _ hx147_1)).trans hx147_1
              replace hx147_2 := (HB.out.cell (World.block_lt_of_cell? w _ hx147_2)).trans hx147_2
              replace hx147_3 := (HB.out.cell (World.block_lt_of_cell? w _ hx147_3)).trans hx147_3
              replace hx147_4 := (HB.out.cell (World.block_lt_of_cell? w _ hx147_4)).trans hx147_4
              replace hx147_5 := (HB.out.cell (World.block_lt_of_cell? w _ hx147_5)).trans hx147_5
              have HR147_1 := Aside0.mk hi147_1
              have HC147_1 := Aside0.mk hl147_1
              clear hi147_1 hl147_1
              have HR147_2 := Aside0.mk hi147_2
              have HC147_2 := Aside0.mk hl147_2
              clear hi147_2 hl147_2
              replace p147 := eq_true p147
              replace q147 := eq_true q147
              refine start_ (n := 15) (S := fun w' => w'.cell? ⟨gb146, 0, none⟩ = some (.int .i64 ((rd_T41 l0 x12_1).f0)) ∧ w'.cell? ⟨gb146, 1, none⟩ = some (.slice A145_1 ((rd_T41 l0 x12_1).f1).length c145_1) ∧ w'.cell? ⟨gb146, 2, none⟩ = some (.slice A145_2 ((rd_T41 l0 x12_1).f2).length c145_2) ∧ w'.cell? ⟨gb146, 3, none⟩ = some (.int .u64 ((rd_T41 l0 x12_1).f3)) ∧ w'.cell? ⟨gb146, 4, none⟩ = some (.int .u64 ((rd_T41 l0 x12_1).f4)) ∧ w'.cell? ⟨gb146, 5, none⟩ = some (.int .i64 ((rd_T41 l0 x12_1).f5)) ∧ w'.cell? (ad145.add (((ji16)).toNat * 6)) = some (.int .i64 ((rd_T41 l0 (ji16)).f0)) ∧ w'.cell? ⟨(ad145.add (((ji16)).toNat * 6)).block, (ad145.add (((ji16)).toNat * 6)).off + 1, none⟩ = some (.slice A147_1 ((rd_T41 l0 (ji16)).f1).length c147_1) ∧ w'.cell? ⟨(ad145.add (((ji16)).toNat * 6)).block, (ad145.add (((ji16)).toNat * 6)).off + 2, none⟩ = some (.slice A147_2 ((rd_T41 l0 (ji16)).f2).length c147_2) ∧ w'.cell? ⟨(ad145.add (((ji16)).toNat * 6)).block, (ad145.add (((ji16)).toNat * 6)).off + 3, none⟩ = some (.int .u64 ((rd_T41 l0 (ji16)).f3)) ∧ w'.cell? ⟨(ad145.add (((ji16)).toNat * 6)).block, (ad145.add (((ji16)).toNat * 6)).off + 4, none⟩ = some (.int .u64 ((rd_T41 l0 (ji16)).f4)) ∧ w'.cell? ⟨(ad145.add (((ji16)).toNat * 6)).block, (ad145.add (((ji16)).toNat * 6)).off + 5, none⟩ = some (.int .i64 ((rd_T41 l0 (ji16)).f5))) (ds := []) #[Z,Z,Z,Z,Z,Z,Z,Z,Z,Z,Z,Z,Z,Z,Z] (by kernel_rfl) rfl rfl ⟨(blk_cell BK146.out 0).trans rfl, (blk_cell BK146.out 1).trans rfl, (blk_cell BK146.out 2).trans rfl, (blk_cell BK146.out 3).trans rfl, (blk_cell BK146.out 4).trans rfl, (blk_cell BK146.out 5).trans rfl, ((HB.out.cell (World.block_lt_of_cell? w _ hw147_0)).trans hw147_0), ((HB.out.cell (World.block_lt_of_cell? w _ hw147_1)).trans hw147_1), ((HB.out.cell (World.block_lt_of_cell? w _ hw147_2)).trans hw147_2), ((HB.out.cell (World.block_lt_of_cell? w _ hw147_3)).trans hw147_3), ((HB.out.cell (World.block_lt_of_cell? w _ hw147_4)).trans hw147_4), ((HB.out.cell (World.block_lt_of_cell? w _ hw147_5)).trans hw147_5)⟩ (fun hHeld => ?_); refine with_tabW report_Check.tab10 report_Check.bits10 (fun HT_ HW_ => ?_)
              generalize wc.drew = w19 at BK146 HB HR147_1 HR147_2 hx147_0 hx147_1 hx147_2 hx147_3 hx147_4 hx147_5 hHeld ⊢
              refine pure_ (i := 0) (N := some 38) (v := ?_) (a' := ?_) #[X,Z,Z,Z,Z,Z,Z,Z,Z,Z,Z,Z,Z,Z,Z] rfl rfl (any_of HT_.out (by kernel_rfl)) (fun _ _ _ h => h) (Or.inl ⟨by rfl, ?_⟩) ?_ ?_
              rotate_left
              ·intro w'
               go_simp
               with_reducible rfl
              rotate_left
              ·simp only [Act.put, sA, sB, sC, i64_w, i32_w]
               rfl
              refine pure_ (i := 1) (N := some 39) (v := ?_) (a' := ?_) #[X,X,Z,Z,Z,Z,Z,Z,Z,Z,Z,Z,Z,Z,Z] rfl rfl (any_of HT_.out (by kernel_rfl)) (fun _ _ _ h => h) (Or.inl ⟨by rfl, ?_⟩) ?_ ?_
              rotate_left
              ·intro w'
               go_simp
               with_reducible rfl
              rotate_left
              ·simp only [Act.put, sA, sB, sC, i64_w, i32_w]
               rfl
              refine pure_ (i := 2) (N := some 40) (v := ?_) (a' := ?_) #[X,X,X,Z,Z,Z,Z,Z,Z,Z,Z,Z,Z,Z,Z] rfl rfl (any_of HT_.out (by kernel_rfl)) (fun _ _ _ h => h) (Or.inl ⟨by rfl, ?_⟩) ?_ ?_
              rotate_left
              ·intro w'
               go_simp
               with_reducible rfl
              rotate_left
              ·simp only [Act.put, sA, sB, sC, i64_w, i32_w]
               rfl
              refine pure_ (i := 3) (N := some 41) (v := ?_) (a' := ?_) #[X,X,X,X,Z,Z,Z,Z,Z,Z,Z,Z,Z,Z,Z] rfl rfl (any_of HT_.out (by kernel_rfl)) (fun _ _ _ h => h) (Or.inl ⟨by rfl, ?_⟩) ?_ ?_
              rotate_left
              ·intro w'
               go_simp
               with_reducible rfl
              rotate_left
              ·simp only [Act.put, sA, sB, sC, i64_w, i32_w]
               rfl
              refine pure_ (i := 5) (N := some 43) (v := ?_) (a' := ?_) #[X,X,X,X,Z,X,Z,Z,Z,Z,Z,Z,Z,Z,Z] rfl rfl (any_of HT_.out (by kernel_rfl)) (fun _ _ _ h => h) (Or.inl ⟨by rfl, ?_⟩) ?_ ?_
              rotate_left
              ·intro w'
               go_simp
               with_reducible rfl
              rotate_left
              ·simp only [Act.put, sA, sB, sC, i64_w, i32_w]
               rfl
              refine pure_ (i := 6) (N := some 44) (v := ?_) (a' := ?_) #[X,X,X,X,Z,X,X,Z,Z,Z,Z,Z,Z,Z,Z] rfl rfl (any_of HT_.out (by kernel_rfl)) (fun _ _ _ h => h) (Or.inl ⟨by rfl, ?_⟩) ?_ ?_
              rotate_left
              ·intro w'
               go_simp
               with_reducible rfl
              rotate_left
              ·simp only [Act.put, sA, sB, sC, i64_w, i32_w]
               rfl
              refine pure_ (i := 7) (N := some 45) (v := ?_) (a' := ?_) #[X,X,X,X,Z,X,X,X,Z,Z,Z,Z,Z,Z,Z] rfl rfl (any_of HT_.out (by kernel_rfl)) (fun _ _ _ h => h) (Or.inl ⟨by rfl, ?_⟩) ?_ ?_
              rotate_left
              ·intro w'
               go_simp
               with_reducible rfl
              rotate_left
              ·simp only [Act.put, sA, sB, sC, i64_w, i32_w]
               rfl
              refine pure_ (i := 8) (N := some 46) (v := ?_) (a' := ?_) #[X,X,X,X,Z,X,X,X,X,Z,Z,Z,Z,Z,Z] rfl rfl (any_of HT_.out (by kernel_rfl)) (fun _ _ _ h => h) (Or.inl ⟨by rfl, ?_⟩) ?_ ?_
              rotate_left
              ·intro w'
               go_simp
               with_reducible rfl
              rotate_left
              ·simp only [Act.put, sA, sB, sC, i64_w, i32_w]
               rfl
              refine pure_ (i := 9) (N := some 47) (v := ?_) (a' := ?_) #[X,X,X,X,Z,X,X,X,X,X,Z,Z,Z,Z,Z] rfl rfl (any_of HT_.out (by kernel_rfl)) (fun _ _ _ h => h) (Or.inl ⟨by rfl, ?_⟩) ?_ ?_
              rotate_left
              ·intro w'
               go_simp
               with_reducible rfl
              rotate_left
              ·simp only [Act.put, sA, sB, sC, i64_w, i32_w]
               rfl
              refine take_ (i := 4) (N := some 42) (v := ?_) (a' := ?_) #[X,X,X,X,X,X,X,X,X,X,Z,Z,Z,Z,Z] rfl rfl (take_ofW HT_.out HW_.out (by kernel_rfl)) (fun _ _ _ h => h) (Or.inl ⟨by rfl, ?_⟩) hHeld ?_ ?_
              rotate_left
              ·rintro w' ⟨s0, s1, s2, s3, s4, s5, s6, s7, s8, s9, s10, s11⟩
               go_simp
               with_reducible rfl
              rotate_left
              ·simp only [Act.put, sA, sB, sC, i64_w, i32_w]
               rfl
              refine take_ (i := 10) (N := some 48) (v := ?_) (a' := ?_) #[X,X,X,X,X,X,X,X,X,X,X,Z,Z,Z,Z] rfl rfl (take_ofW HT_.out HW_.out (by kernel_rfl)) (fun _ _ _ h => h) (Or.inl ⟨by rfl, ?_⟩) hHeld ?_ ?_
              rotate_left
              ·rintro w' ⟨s0, s1, s2, s3, s4, s5, s6, s7, s8, s9, s10, s11⟩
               go_simp
               with_reducible rfl
              rotate_left
              ·simp only [Act.put, sA, sB, sC, i64_w, i32_w]
               rfl
              refine pure_ (i := 11) (N := some 49) (v := ?_) (a' := ?_) #[X,X,X,X,X,X,X,X,X,X,X,X,Z,Z,Z] rfl rfl (any_of HT_.out (by kernel_rfl)) (fun _ _ _ h => h) (Or.inl ⟨by rfl, ?_⟩) ?_ ?_
              rotate_left
              ·intro w'
               go_simp
               with_reducible rfl
              rotate_left
              ·simp only [Act.put, sA, sB, sC, i64_w, i32_w]
               rfl
              refine pure_ (i := 12) (N := some 50) (v := ?_) (a' := ?_) #[X,X,X,X,X,X,X,X,X,X,X,X,X,Z,Z] rfl rfl (any_of HT_.out (by kernel_rfl)) (fun _ _ _ h => h) (Or.inl ⟨by rfl, ?_⟩) ?_ ?_
              rotate_left
              ·intro w'
               go_simp
               with_reducible rfl
              rotate_left
              ·simp only [Act.put, sA, sB, sC, i64_w, i32_w]
               rfl
              refine pure_ (i := 13) (N := some 51) (v := ?_) (a' := ?_) #[X,X,X,X,X,X,X,X,X,X,X,X,X,X,Z] rfl rfl (any_of HT_.out (by kernel_rfl)) (fun _ _ _ h => h) (Or.inl ⟨by rfl, ?_⟩) ?_ ?_
              rotate_left
              ·intro w'
               go_simp
               with_reducible rfl
              rotate_left
              ·simp only [Act.put, sA, sB, sC, i64_w, i32_w]
               rfl
              refine pure_ (i := 14) (N := some 37) (v := ?_) (a' := ?_) #[X,X,X,X,X,X,X,X,X,X,X,X,X,X,X] rfl rfl (any_of HT_.out (by kernel_rfl)) (fun _ _ _ h => h) (Or.inl ⟨by rfl, ?_⟩) ?_ ?_
              rotate_left
              ·intro w'
               go_simp
               with_reducible rfl
              rotate_left
              ·simp only [Act.put, sA, sB, sC, i64_w, i32_w]
               rfl
              refine done_ (done_of HT_.out (by kernel_rfl)) ?_
              try go_wp2
              go_meet
              case rel => exact ⟨_, ((((rd_T41 l0 x12_1).f0) != (wrap64 (((rd_T41 l0 (ji16)).f0) + 1)))), (by first | rfl | (simp; done) | (simp only [← hji16] <;> (first | rfl | simp)) | (simp [*]; done)), H', ⟨by have := HK1.out; have := HJ5.out; first | omega | exact Nat.le_refl _⟩, ⟨by (with_reducible repeat (first | refine blk_drewN ?_ _ | refine blk_drew ?_ | refine blk_alloc ?_ _)); exact BK146.out⟩, ⟨by repeat (first | (with_reducible first | exact HB.out | apply below_alloc | apply pw_below_drewN | apply below_drew1 | refine below_set ?_ GE146.out) | exact HB.out)⟩⟩
             ·rw [if_neg c18] at H
              exact absurd H (by simp)
            ·rw [if_neg c17] at H
             exact absurd H (by simp)
           ·rw [if_neg c15] at H
            have c15b0 : decide (0 < x12_1) = false := decide_eq_false c15
            clear c15
            (first | rw [c15b0] | (simp only [i64_w, i32_w]; rw [c15b0]) | skip)
            have H' := Aside0.mk H
            clear H
            try go_wp2
            have n0_ := Aside0.mk (blk_drew BK146.out)
            have n1_ := Aside0.mk (below_drew1 HB.out)
            clear BK146
            clear HB
            have BK146 := n0_
            have HB := n1_
            clear n0_ n1_
            refine start_ (n := 15) (S := fun w' => True) (ds := []) #[Z,Z,Z,Z,Z,Z,Z,Z,Z,Z,Z,Z,Z,Z,Z] (by kernel_rfl) rfl rfl trivial (fun hHeld => ?_); refine with_tabW report_Check.tab10 report_Check.bits10 (fun HT_ HW_ => ?_)
            generalize wc.drew = w20 at BK146 HB hHeld ⊢
            refine pure_ (i := 0) (N := some 38) (v := ?_) (a' := ?_) #[X,Z,Z,Z,Z,Z,Z,Z,Z,Z,Z,Z,Z,Z,Z] rfl rfl (any_of HT_.out (by kernel_rfl)) (fun _ _ _ h => h) (Or.inl ⟨by rfl, ?_⟩) ?_ ?_
            rotate_left
            ·intro w'
             go_simp
             with_reducible rfl
            rotate_left
            ·simp only [Act.put, sA, sB, sC, i64_w, i32_w]
             rfl
            refine pure_ (i := 1) (N := some 39) (v := ?_) (a' := ?_) #[X,X,Z,Z,Z,Z,Z,Z,Z,Z,Z,Z,Z,Z,Z] rfl rfl (any_of HT_.out (by kernel_rfl)) (fun _ _ _ h => h) (Or.inl ⟨by rfl, ?_⟩) ?_ ?_
            rotate_left
            ·intro w'
             go_simp
             with_reducible rfl
            rotate_left
            ·simp only [Act.put, sA, sB, sC, i64_w, i32_w]
             rfl
            refine pure_ (i := 2) (N := some 40) (v := ?_) (a' := ?_) #[X,X,X,Z,Z,Z,Z,Z,Z,Z,Z,Z,Z,Z,Z] rfl rfl (any_of HT_.out (by kernel_rfl)) (fun _ _ _ h => h) (Or.inl ⟨by rfl, ?_⟩) ?_ ?_
            rotate_left
            ·intro w'
             go_simp
             with_reducible rfl
            rotate_left
            ·simp only [Act.put, sA, sB, sC, i64_w, i32_w]
             rfl
            refine pure_ (i := 3) (N := some 41) (v := undef) (a' := ?_) #[X,X,X,X,Z,Z,Z,Z,Z,Z,Z,Z,Z,Z,Z] rfl rfl (any_of HT_.out (by kernel_rfl)) (fun _ _ _ h => h) (Or.inr ⟨by rfl, rfl⟩) ?_ ?_
            rotate_left
            ·simp only [Act.put, sA, sB, sC, i64_w, i32_w]
             rfl
            refine pure_ (i := 4) (N := some 42) (v := undef) (a' := ?_) #[X,X,X,X,X,Z,Z,Z,Z,Z,Z,Z,Z,Z,Z] rfl rfl (any_of HT_.out (by kernel_rfl)) (fun _ _ _ h => h) (Or.inr ⟨by rfl, rfl⟩) ?_ ?_
            rotate_left
            ·simp only [Act.put, sA, sB, sC, i64_w, i32_w]
             rfl
            refine pure_ (i := 5) (N := some 43) (v := undef) (a' := ?_) #[X,X,X,X,X,X,Z,Z,Z,Z,Z,Z,Z,Z,Z] rfl rfl (any_of HT_.out (by kernel_rfl)) (fun _ _ _ h => h) (Or.inr ⟨by rfl, rfl⟩) ?_ ?_
            rotate_left
            ·simp only [Act.put, sA, sB, sC, i64_w, i32_w]
             rfl
            refine pure_ (i := 6) (N := some 44) (v := undef) (a' := ?_) #[X,X,X,X,X,X,X,Z,Z,Z,Z,Z,Z,Z,Z] rfl rfl (any_of HT_.out (by kernel_rfl)) (fun _ _ _ h => h) (Or.inr ⟨by rfl, rfl⟩) ?_ ?_
            rotate_left
            ·simp only [Act.put, sA, sB, sC, i64_w, i32_w]
             rfl
            refine pure_ (i := 7) (N := some 45) (v := undef) (a' := ?_) #[X,X,X,X,X,X,X,X,Z,Z,Z,Z,Z,Z,Z] rfl rfl (any_of HT_.out (by kernel_rfl)) (fun _ _ _ h => h) (Or.inr ⟨by rfl, rfl⟩) ?_ ?_
            rotate_left
            ·simp only [Act.put, sA, sB, sC, i64_w, i32_w]
             rfl
            refine pure_ (i := 8) (N := some 46) (v := undef) (a' := ?_) #[X,X,X,X,X,X,X,X,X,Z,Z,Z,Z,Z,Z] rfl rfl (any_of HT_.out (by kernel_rfl)) (fun _ _ _ h => h) (Or.inr ⟨by rfl, rfl⟩) ?_ ?_
            rotate_left
            ·simp only [Act.put, sA, sB, sC, i64_w, i32_w]
             rfl
            refine pure_ (i := 9) (N := some 47) (v := undef) (a' := ?_) #[X,X,X,X,X,X,X,X,X,X,Z,Z,Z,Z,Z] rfl rfl (any_of HT_.out (by kernel_rfl)) (fun _ _ _ h => h) (Or.inr ⟨by rfl, rfl⟩) ?_ ?_
            rotate_left
            ·simp only [Act.put, sA, sB, sC, i64_w, i32_w]
             rfl
            refine pure_ (i := 10) (N := some 48) (v := undef) (a' := ?_) #[X,X,X,X,X,X,X,X,X,X,X,Z,Z,Z,Z] rfl rfl (any_of HT_.out (by kernel_rfl)) (fun _ _ _ h => h) (Or.inr ⟨by rfl, rfl⟩) ?_ ?_
            rotate_left
            ·simp only [Act.put, sA, sB, sC, i64_w, i32_w]
             rfl
            refine pure_ (i := 11) (N := some 49) (v := undef) (a' := ?_) #[X,X,X,X,X,X,X,X,X,X,X,X,Z,Z,Z] rfl rfl (any_of HT_.out (by kernel_rfl)) (fun _ _ _ h => h) (Or.inr ⟨by rfl, rfl⟩) ?_ ?_
            rotate_left
            ·simp only [Act.put, sA, sB, sC, i64_w, i32_w]
             rfl
            refine pure_ (i := 12) (N := some 50) (v := undef) (a' := ?_) #[X,X,X,X,X,X,X,X,X,X,X,X,X,Z,Z] rfl rfl (any_of HT_.out (by kernel_rfl)) (fun _ _ _ h => h) (Or.inr ⟨by rfl, rfl⟩) ?_ ?_
            rotate_left
            ·simp only [Act.put, sA, sB, sC, i64_w, i32_w]
             rfl
            refine pure_ (i := 13) (N := some 51) (v := ?_) (a' := ?_) #[X,X,X,X,X,X,X,X,X,X,X,X,X,X,Z] rfl rfl (any_of HT_.out (by kernel_rfl)) (fun _ _ _ h => h) (Or.inl ⟨by rfl, ?_⟩) ?_ ?_
            rotate_left
            ·intro w'
             go_simp
             with_reducible rfl
            rotate_left
            ·simp only [Act.put, sA, sB, sC, i64_w, i32_w]
             rfl
            refine pure_ (i := 14) (N := some 37) (v := ?_) (a' := ?_) #[X,X,X,X,X,X,X,X,X,X,X,X,X,X,X] rfl rfl (any_of HT_.out (by kernel_rfl)) (fun _ _ _ h => h) (Or.inl ⟨by rfl, ?_⟩) ?_ ?_
            rotate_left
            ·intro w'
             go_simp
             with_reducible rfl
            rotate_left
            ·simp only [Act.put, sA, sB, sC, i64_w, i32_w]
             rfl
            refine done_ (done_of HT_.out (by kernel_rfl)) ?_
            try go_wp2
            go_meet
            case rel => exact ⟨_, (false), (by first | rfl | (simp; done) | (simp [*]; done)), H', ⟨by have := HK1.out; have := HJ5.out; first | omega | exact Nat.le_refl _⟩, ⟨by (with_reducible repeat (first | refine blk_drewN ?_ _ | refine blk_drew ?_ | refine blk_alloc ?_ _)); exact BK146.out⟩, ⟨by repeat (first | (with_reducible first | exact HB.out | apply below_alloc | apply pw_below_drewN | apply below_drew1 | refine below_set ?_ GE146.out) | exact HB.out)⟩⟩
          case rest =>
           clear HC14
           try clear c1
           try clear p1
           try clear q1
           try clear hx1
           try clear c2
           try clear c2b0
           try clear c2b1
           try clear p2
           try clear c3
           try clear c3b0
           try clear c4
           try clear c4b0
           try clear c5
           try clear c5b0
           try clear p6
           try clear c9
           try clear c9b0
           try clear c9b1
           try clear c10
           try clear c10b0
           try clear c13
           try clear c14
           try clear p14
           try clear q14
           try clear hx14
           try clear c15
           try clear c15b0
           try clear c17
           try clear c17b0
           try clear c18
           try clear c18b0
           try clear hcz11_0
           try clear hcz11_1
           try clear hcz11_2
           try clear hcz11_3
           try clear hcz11_4
           try clear hcz11_5
           try clear hcz12_0
           try clear hcz12_1
           try clear hcz12_2
           try clear hcz12_3
           try clear hcz12_4
           try clear hcz12_5
           try clear hcz8_0
           try clear hcz8_1
           try clear hcz8_2
           try clear hcz8_3
           try clear hcz8_4
           try clear hcz8_5
           try clear hfz11_0
           try clear hfz11_1
           try clear hfz11_2
           try clear hfz11_3
           try clear hfz11_4
           try clear hfz11_5
           try clear hfz12_0
           try clear hfz12_1
           try clear hfz12_2
           try clear hfz12_3
           try clear hfz12_4
           try clear hfz12_5
           try clear hfz8_0
           try clear hfz8_1
           try clear hfz8_2
           try clear hfz8_3
           try clear hfz8_4
           try clear hfz8_5
           try clear hx145_0
           try clear hx145_1
           try clear hx145_2
           try clear hx145_3
           try clear hx145_4
           try clear hx145_5
           try clear hx147_0
           try clear hx147_1
           try clear hx147_2
           try clear hx147_3
           try clear hx147_4
           try clear hx147_5
           try clear p1
           try clear p145
           try clear p147
           try clear p2
           try clear q1
           try clear q145
           try clear q147
           obtain ⟨kq, x37_13, rfl, HA, HJ13, BK146, HB⟩ := hcut
           cases kq with
           | zero => exact absurd HA.out (by simp [report_Check.j2])
           | succ kj13 =>
            have H := HA.out
            clear HA
            simp only [report_Check.j2] at H
            by_cases c21 : x37_13 = true
            ·subst c21
             have H1 : (some (8, x12_1)) = some (r1, r2) := by rw [if_pos rfl] at H; exact H
             clear H
             have H := H1
             clear H1
             simp only [Option.some.injEq, Prod.mk.injEq] at H
             obtain ⟨rfl, rfl⟩ := H
             go_wp2
             go_ret2
             exact ⟨by first | rfl | (simp [errW_none, errW_some] <;> rfl) | (simp [*, errW_none, errW_some] <;> rfl) | (simp (discharger := omega) only [Int.tdiv_eq_ediv_of_nonneg, Int.tmod_eq_emod_of_nonneg] <;> rfl), by repeat (first | (with_reducible first | exact HB.out | apply below_alloc | apply pw_below_drewN | apply below_drew1 | refine below_set ?_ GE146.out) | exact HB.out)⟩
            ·replace c21 := Bool.eq_false_iff.mpr c21
             subst c21
             have H1 : (if 0 < (l0.length : Int) then ((report_view.f kj13 ((rd_T41 l0 x12_1).f0) ((rd_T41 l0 x12_1).f1) ((rd_T41 l0 x12_1).f2) ((rd_T41 l0 x12_1).f3) ((rd_T41 l0 x12_1).f4) ((rd_T41 l0 x12_1).f5) (((rd_T41 l0 0).f2).length : Int)).bind fun t149 => (if t149 = 0 then (report_Check.l0 kj13 l0 l0 (l0.length : Int) (wrap64 (x12_1 + 1))) else (some (t149, x12_1)))) else (none)) = some (r1, r2) := by rw [if_neg (show ¬ (false = true) by decide)] at H; exact H
             clear H
             have H := H1
             clear H1
             by_cases c22 : 0 < (l0.length : Int)
             ·rw [if_pos c22] at H
              have c22b0 : decide (0 < (l0.length : Int)) = true := decide_eq_true c22
              have c22b1 : decide (0 < l0.length) = true := decide_eq_true (by omega)
              clear c22
              replace H := Option.bind_eq_some_iff.mp H
              obtain ⟨t149, A230, H⟩ := H
              replace H : (if t149 = 0 then (report_Check.l0 kj13 l0 l0 (l0.length : Int) (wrap64 (x12_1 + 1))) else (some (t149, x12_1))) = some (r1, r2) := H
              have A23 := Aside0.mk A230
              clear A230
              by_cases c24 : t149 = 0
              ·rw [if_pos c24] at H
               have c24b0 : (t149 == 0) = true := beq_iff_eq.mpr c24
               have c24b1 : (t149 != 0) = false := bne_eq_false_iff_eq.mpr c24
               clear c24
               have H' := Aside0.mk H
               clear H
               try go_wp2
               have n0_ := Aside0.mk (blk_drew BK146.out)
               have n1_ := Aside0.mk (below_drew1 HB.out)
               clear BK146
               clear HB
               have BK146 := n0_
               have HB := n1_
               clear n0_ n1_
               have p148 : 0 ≤ (0 : Int) := (by omega)
               have q148 : 0 < (l0.length : Int) := of_decide_eq_true (by first | (with_reducible assumption) | assumption)
               obtain ⟨ad148, A148_1, c148_1, A148_2, c148_2, e148, hx148_0, hx148_1, hx148_2, hx148_3, hx148_4, hx148_5, hl148_1, hi148_1, hl148_2, hi148_2⟩ := at_T41 HR0.out 0 p148 q148
               have hw148_5 := hx148_5
               (try rw [show ((0 : Int)).toNat = 0 from rfl] at hw148_5)
               (try rw [show 0 * 6 = 0 from rfl] at hw148_5)
               (try rw [Addr.add_zero'] at hw148_5)
               have hw148_4 := hx148_4
               (try rw [show ((0 : Int)).toNat = 0 from rfl] at hw148_4)
               (try rw [show 0 * 6 = 0 from rfl] at hw148_4)
               (try rw [Addr.add_zero'] at hw148_4)
               have hw148_3 := hx148_3
               (try rw [show ((0 : Int)).toNat = 0 from rfl] at hw148_3)
               (try rw [show 0 * 6 = 0 from rfl] at hw148_3)
               (try rw [Addr.add_zero'] at hw148_3)
               have hw148_2 := hx148_2
               (try rw [show ((0 : Int)).toNat = 0 from rfl] at hw148_2)
               (try rw [show 0 * 6 = 0 from rfl] at hw148_2)
               (try rw [Addr.add_zero'] at hw148_2)
               have hw148_1 := hx148_1
               (try rw [show ((0 : Int)).toNat = 0 from rfl] at hw148_1)
               (try rw [show 0 * 6 = 0 from rfl] at hw148_1)
               (try rw [Addr.add_zero'] at hw148_1)
               have hw148_0 := hx148_0
               (try rw [show ((0 : Int)).toNat = 0 from rfl] at hw148_0)
               (try rw [show 0 * 6 = 0 from rfl] at hw148_0)
               (try rw [Addr.add_zero'] at hw148_0)
               obtain rfl : ad145 = ad148 := (by injection e148)
               have qi148 : (0 < l0.length) = True := eq_true (by omega)
               (try rw [show ((0 : Int)).toNat = 0 from rfl] at hx148_0)
               (try rw [show 0 * 6 = 0 from rfl] at hx148_0)
               (try rw [Addr.add_zero'] at hx148_0)
               (try rw [show ((0 : Int)).toNat = 0 from rfl] at hx148_1)
               (try rw [show 0 * 6 = 0 from rfl] at hx148_1)
               (try rw [Addr.add_zero'] at hx148_1)
               (try rw [show ((0 : Int)).toNat = 0 from rfl] at hx148_2)
               (try rw [show 0 * 6 = 0 from rfl] at hx148_2)
               (try rw [Addr.add_zero'] at hx148_2)
               (try rw [show ((0 : Int)).toNat = 0 from rfl] at hx148_3)
               (try rw [show 0 * 6 = 0 from rfl] at hx148_3)
               (try rw [Addr.add_zero'] at hx148_3)
               (try rw [show ((0 : Int)).toNat = 0 from rfl] at hx148_4)
               (try rw [show 0 * 6 = 0 from rfl] at hx148_4)
               (try rw [Addr.add_zero'] at hx148_4)
               (try rw [show ((0 : Int)).toNat = 0 from rfl] at hx148_5)
               (try rw [show 0 * 6 = 0 from rfl] at hx148_5)
               (try rw [Addr.add_zero'] at hx148_5)
               replace hx148_0 := (HB.out.cell (World.block_lt_of_cell? w _ hx148_0)).trans hx148_0
               replace hx148_1 := (HB.out.cell (World.block_lt_of_cell? w _ hx148_1)).trans hx148_1
               replace hx148_2 := (HB.out.cell (World.block_lt_of_cell? w _ hx148_2)).trans hx148_2
               replace hx148_3 := (HB.out.cell (World.block_lt_of_cell? w _ hx148_3)).trans hx148_3
               replace hx148_4 := (HB.out.cell (World.block_lt_of_cell? w _ hx148_4)).trans hx148_4
               replace hx148_5 := (HB.out.cell (World.block_lt_of_cell? w _ hx148_5)).trans hx148_5
               have HR148_1 := Aside0.mk hi148_1
               have HC148_1 := Aside0.mk hl148_1
               clear hi148_1 hl148_1
               have HR148_2 := Aside0.mk hi148_2
               have HC148_2 := Aside0.mk hl148_2
               clear hi148_2 hl148_2
               replace p148 := eq_true p148
               replace q148 := eq_true q148
               refine start_ (n := 8) (S := fun w' => w'.cell? ⟨gb146, 0, none⟩ = some (.int .i64 ((rd_T41 l0 x12_1).f0)) ∧ w'.cell? ⟨gb146, 1, none⟩ = some (.slice A145_1 ((rd_T41 l0 x12_1).f1).length c145_1) ∧ w'.cell? ⟨gb146, 2, none⟩ = some (.slice A145_2 ((rd_T41 l0 x12_1).f2).length c145_2) ∧ w'.cell? ⟨gb146, 3, none⟩ = some (.int .u64 ((rd_T41 l0 x12_1).f3)) ∧ w'.cell? ⟨gb146, 4, none⟩ = some (.int .u64 ((rd_T41 l0 x12_1).f4)) ∧ w'.cell? ⟨gb146, 5, none⟩ = some (.int .i64 ((rd_T41 l0 x12_1).f5)) ∧ w'.cell? ad145 = some (.int .i64 ((rd_T41 l0 0).f0)) ∧ w'.cell? ⟨ad145.block, ad145.off + 1, none⟩ = some (.slice A148_1 ((rd_T41 l0 0).f1).length c148_1) ∧ w'.cell? ⟨ad145.block, ad145.off + 2, none⟩ = some (.slice A148_2 ((rd_T41 l0 0).f2).length c148_2) ∧ w'.cell? ⟨ad145.block, ad145.off + 3, none⟩ = some (.int .u64 ((rd_T41 l0 0).f3)) ∧ w'.cell? ⟨ad145.block, ad145.off + 4, none⟩ = some (.int .u64 ((rd_T41 l0 0).f4)) ∧ w'.cell? ⟨ad145.block, ad145.off + 5, none⟩ = some (.int .i64 ((rd_T41 l0 0).f5))) (ds := []) #[Z,Z,Z,Z,Z,Z,Z,Z] (by kernel_rfl) rfl rfl ⟨(blk_cell BK146.out 0).trans rfl, (blk_cell BK146.out 1).trans rfl, (blk_cell BK146.out 2).trans rfl, (blk_cell BK146.out 3).trans rfl, (blk_cell BK146.out 4).trans rfl, (blk_cell BK146.out 5).trans rfl, ((HB.out.cell (World.block_lt_of_cell? w _ hw148_0)).trans hw148_0), ((HB.out.cell (World.block_lt_of_cell? w _ hw148_1)).trans hw148_1), ((HB.out.cell (World.block_lt_of_cell? w _ hw148_2)).trans hw148_2), ((HB.out.cell (World.block_lt_of_cell? w _ hw148_3)).trans hw148_3), ((HB.out.cell (World.block_lt_of_cell? w _ hw148_4)).trans hw148_4), ((HB.out.cell (World.block_lt_of_cell? w _ hw148_5)).trans hw148_5)⟩ (fun hHeld => ?_); refine with_tabW report_Check.tab7 report_Check.bits7 (fun HT_ HW_ => ?_)
               generalize wc.drew = w25 at BK146 HB HR148_1 HR148_2 hx148_0 hx148_1 hx148_2 hx148_3 hx148_4 hx148_5 hHeld ⊢
               refine pure_ (i := 1) (N := some 18) (v := ?_) (a' := ?_) #[Z,X,Z,Z,Z,Z,Z,Z] rfl rfl (any_of HT_.out (by kernel_rfl)) (fun _ _ _ h => h) (Or.inl ⟨by rfl, ?_⟩) ?_ ?_
               rotate_left
               ·intro w'
                go_simp
                with_reducible rfl
               rotate_left
               ·simp only [Act.put, sA, sB, sC, i64_w, i32_w]
                rfl
               refine pure_ (i := 2) (N := some 19) (v := ?_) (a' := ?_) #[Z,X,X,Z,Z,Z,Z,Z] rfl rfl (any_of HT_.out (by kernel_rfl)) (fun _ _ _ h => h) (Or.inl ⟨by rfl, ?_⟩) ?_ ?_
               rotate_left
               ·intro w'
                go_simp
                with_reducible rfl
               rotate_left
               ·simp only [Act.put, sA, sB, sC, i64_w, i32_w]
                rfl
               refine pure_ (i := 3) (N := some 20) (v := ?_) (a' := ?_) #[Z,X,X,X,Z,Z,Z,Z] rfl rfl (any_of HT_.out (by kernel_rfl)) (fun _ _ _ h => h) (Or.inl ⟨by rfl, ?_⟩) ?_ ?_
               rotate_left
               ·intro w'
                go_simp
                with_reducible rfl
               rotate_left
               ·simp only [Act.put, sA, sB, sC, i64_w, i32_w]
                rfl
               refine take_ (i := 0) (N := some 17) (v := ?_) (a' := ?_) #[X,X,X,X,Z,Z,Z,Z] rfl rfl (take_ofW HT_.out HW_.out (by kernel_rfl)) (fun _ _ _ h => h) (Or.inl ⟨by rfl, ?_⟩) hHeld ?_ ?_
               rotate_left
               ·rintro w' ⟨s0, s1, s2, s3, s4, s5, s6, s7, s8, s9, s10, s11⟩
                go_simp
                with_reducible rfl
               rotate_left
               ·simp only [Act.put, sA, sB, sC, i64_w, i32_w]
                rfl
               refine take_ (i := 4) (N := some 21) (v := ?_) (a' := ?_) #[X,X,X,X,X,Z,Z,Z] rfl rfl (take_ofW HT_.out HW_.out (by kernel_rfl)) (fun _ _ _ h => h) (Or.inl ⟨by rfl, ?_⟩) hHeld ?_ ?_
               rotate_left
               ·rintro w' ⟨s0, s1, s2, s3, s4, s5, s6, s7, s8, s9, s10, s11⟩
                go_simp
                with_reducible rfl
               rotate_left
               ·simp only [Act.put, sA, sB, sC, i64_w, i32_w]
                rfl
               refine pure_ (i := 5) (N := some 22) (v := ?_) (a' := ?_) #[X,X,X,X,X,X,Z,Z] rfl rfl (any_of HT_.out (by kernel_rfl)) (fun _ _ _ h => h) (Or.inl ⟨by rfl, ?_⟩) ?_ ?_
               rotate_left
               ·intro w'
                go_simp
                with_reducible rfl
               rotate_left
               ·simp only [Act.put, sA, sB, sC, i64_w, i32_w]
                rfl
               refine one_ (i := 6) (N := some 23) #[X,X,X,X,X,X,X,Z] rfl rfl (one_of HT_.out (by kernel_rfl)) (by decide) (fun K hK => ?_)
               refine goes_ Tryd.func41 (by kernel_rfl) rfl #[.agg #[.int .i64 ((rd_T41 l0 x12_1).f0), .slice A145_1 ((rd_T41 l0 x12_1).f1).length c145_1, .slice A145_2 ((rd_T41 l0 x12_1).f2).length c145_2, .int .u64 ((rd_T41 l0 x12_1).f3), .int .u64 ((rd_T41 l0 x12_1).f4), .int .i64 ((rd_T41 l0 x12_1).f5)], .int .i64 (((rd_T41 l0 0).f2).length : Int)] (by rfl) rfl rfl (by (try simp only [List.map_toArray, List.map_cons, List.map_nil]); first | done | rfl | (simp only [List.length_drop, List.length_take]; rfl)) ?_
               with_reducible refine (report_view.calls kj13 ((rd_T41 l0 x12_1).f0) _ _ ((rd_T41 l0 x12_1).f1) _ _ ((rd_T41 l0 x12_1).f2) ((rd_T41 l0 x12_1).f3) ((rd_T41 l0 x12_1).f4) ((rd_T41 l0 x12_1).f5) (((rd_T41 l0 0).f2).length : Int) t149 _ ?side1 ?side2 ?side3 ?side4 A23.out).mono ?_
               (case side1 => repeat (first | exact (Kd.C_below HR145_1.out HB.out) | (with_reducible refine Kd.C_alloc ?_ _) | (with_reducible refine Kd.C_drewN ?_ _) | (with_reducible refine Kd.C_drew ?_)))
               (case side2 => exact HC145_1.out)
               (case side3 => repeat (first | exact (Kd.C_below HR145_2.out HB.out) | (with_reducible refine Kd.C_alloc ?_ _) | (with_reducible refine Kd.C_drewN ?_ _) | (with_reducible refine Kd.C_drew ?_)))
               (case side4 => exact HC145_2.out)
               rintro e w26 ⟨rfl, hb⟩
               refine ⟨_, rfl, ?_⟩
               have n0_ := Aside0.mk (blk_below (g := gb146) (o := .cells #[.int .i64 ((rd_T41 l0 x12_1).f0), .slice A145_1 ((rd_T41 l0 x12_1).f1).length c145_1, .slice A145_2 ((rd_T41 l0 x12_1).f2).length c145_2, .int .u64 ((rd_T41 l0 x12_1).f3), .int .u64 ((rd_T41 l0 x12_1).f4), .int .i64 ((rd_T41 l0 x12_1).f5)] 41 (0, 0)) (by (with_reducible repeat (first | refine blk_drewN ?_ _ | refine blk_drew ?_ | refine blk_alloc ?_ _)); exact BK146.out) hb)
               have n1_ := Aside0.mk (below_step (by repeat (first | (with_reducible first | exact HB.out | apply below_alloc | apply pw_below_drewN | apply below_drew1 | refine below_set ?_ GE146.out) | exact HB.out)) hb)
               clear BK146
               clear HB
               have BK146 := n0_
               have HB := n1_
               clear n0_ n1_
               (try clear hb)
               (try clear hb2)
               (try clear hk)
               (try clear hi)
               refine hK.out _ _ ⟨(blk_cell BK146.out 0).trans rfl, (blk_cell BK146.out 1).trans rfl, (blk_cell BK146.out 2).trans rfl, (blk_cell BK146.out 3).trans rfl, (blk_cell BK146.out 4).trans rfl, (blk_cell BK146.out 5).trans rfl, ((HB.out.cell (World.block_lt_of_cell? w _ hw148_0)).trans hw148_0), ((HB.out.cell (World.block_lt_of_cell? w _ hw148_1)).trans hw148_1), ((HB.out.cell (World.block_lt_of_cell? w _ hw148_2)).trans hw148_2), ((HB.out.cell (World.block_lt_of_cell? w _ hw148_3)).trans hw148_3), ((HB.out.cell (World.block_lt_of_cell? w _ hw148_4)).trans hw148_4), ((HB.out.cell (World.block_lt_of_cell? w _ hw148_5)).trans hw148_5)⟩ (fun hHeld => ?_)
               clear hK K
               refine norm_ (a' := ?_) ?_ ?_
               rotate_left
               ·show Act.put _ (some 23) _ = _
                simp only [Act.put, sA, sB, sC, i64_w, i32_w]
                rfl
               refine pure_ (i := 7) (N := some 6) (v := ?_) (a' := ?_) #[X,X,X,X,X,X,X,X] rfl rfl (any_of HT_.out (by kernel_rfl)) (fun _ _ _ h => h) (Or.inl ⟨by rfl, ?_⟩) ?_ ?_
               rotate_left
               ·intro w'
                go_simp
                with_reducible rfl
               rotate_left
               ·simp only [Act.put, sA, sB, sC, i64_w, i32_w]
                rfl
               refine done_ (done_of HT_.out (by kernel_rfl)) ?_
               try go_wp2
               go_roundg kj13
               case measure => have := HK1.out; have := HJ5.out; have := HJ13.out; omega
               case rel => exact ⟨(wrap64 (x12_1 + 1)), (by first | rfl | (simp; done) | (simp [*]; done)), H', ⟨by have := HK1.out; have := HJ5.out; have := HJ13.out; omega⟩, ⟨by repeat (first | (with_reducible first | exact HB.out | apply below_alloc | apply pw_below_drewN | apply below_drew1 | refine below_set ?_ GE146.out) | exact HB.out)⟩⟩
              ·rw [if_neg c24] at H
               have c24b0 : (t149 == 0) = false := beq_eq_false_iff_ne.mpr c24
               have c24b1 : (t149 != 0) = true := bne_iff_ne.mpr c24
               simp only [Option.some.injEq, Prod.mk.injEq] at H
               obtain ⟨rfl, rfl⟩ := H
               try go_wp2
               have n0_ := Aside0.mk (blk_drew BK146.out)
               have n1_ := Aside0.mk (below_drew1 HB.out)
               clear BK146
               clear HB
               have BK146 := n0_
               have HB := n1_
               clear n0_ n1_
               have p148 : 0 ≤ (0 : Int) := (by omega)
               have q148 : 0 < (l0.length : Int) := of_decide_eq_true (by first | (with_reducible assumption) | assumption)
               obtain ⟨ad148, A148_1, c148_1, A148_2, c148_2, e148, hx148_0, hx148_1, hx148_2, hx148_3, hx148_4, hx148_5, hl148_1, hi148_1, hl148_2, hi148_2⟩ := at_T41 HR0.out 0 p148 q148
               have hw148_5 := hx148_5
               (try rw [show ((0 : Int)).toNat = 0 from rfl] at hw148_5)
               (try rw [show 0 * 6 = 0 from rfl] at hw148_5)
               (try rw [Addr.add_zero'] at hw148_5)
               have hw148_4 := hx148_4
               (try rw [show ((0 : Int)).toNat = 0 from rfl] at hw148_4)
               (try rw [show 0 * 6 = 0 from rfl] at hw148_4)
               (try rw [Addr.add_zero'] at hw148_4)
               have hw148_3 := hx148_3
               (try rw [show ((0 : Int)).toNat = 0 from rfl] at hw148_3)
               (try rw [show 0 * 6 = 0 from rfl] at hw148_3)
               (try rw [Addr.add_zero'] at hw148_3)
               have hw148_2 := hx148_2
               (try rw [show ((0 : Int)).toNat = 0 from rfl] at hw148_2)
               (try rw [show 0 * 6 = 0 from rfl] at hw148_2)
               (try rw [Addr.add_zero'] at hw148_2)
               have hw148_1 := hx148_1
               (try rw [show ((0 : Int)).toNat = 0 from rfl] at hw148_1)
               (try rw [show 0 * 6 = 0 from rfl] at hw148_1)
               (try rw [Addr.add_zero'] at hw148_1)
               have hw148_0 := hx148_0
               (try rw [show ((0 : Int)).toNat = 0 from rfl] at hw148_0)
               (try rw [show 0 * 6 = 0 from rfl] at hw148_0)
               (try rw [Addr.add_zero'] at hw148_0)
               obtain rfl : ad145 = ad148 := (by injection e148)
               have qi148 : (0 < l0.length) = True := eq_true (by omega)
               (try rw [show ((0 : Int)).toNat = 0 from rfl] at hx148_0)
               (try rw [show 0 * 6 = 0 from rfl] at hx148_0)
               (try rw [Addr.add_zero'] at hx148_0)
               (try rw [show ((0 : Int)).toNat = 0 from rfl] at hx148_1)
               (try rw [show 0 * 6 = 0 from rfl] at hx148_1)
               (try rw [Addr.add_zero'] at hx148_1)
               (try rw [show ((0 : Int)).toNat = 0 from rfl] at hx148_2)
               (try rw [show 0 * 6 = 0 from rfl] at hx148_2)
               (try rw [Addr.add_zero'] at hx148_2)
               (try rw [show ((0 : Int)).toNat = 0 from rfl] at hx148_3)
               (try rw [show 0 * 6 = 0 from rfl] at hx148_3)
               (try rw [Addr.add_zero'] at hx148_3)
               (try rw [show ((0 : Int)).toNat = 0 from rfl] at hx148_4)
               (try rw [show 0 * 6 = 0 from rfl] at hx148_4)
               (try rw [Addr.add_zero'] at hx148_4)
               (try rw [show ((0 : Int)).toNat = 0 from rfl] at hx148_5)
               (try rw [show 0 * 6 = 0 from rfl] at hx148_5)
               (try rw [Addr.add_zero'] at hx148_5)
               replace hx148_0 := (HB.out.cell (World.block_lt_of_cell? w _ hx148_0)).trans hx148_0
               replace hx148_1 := (HB.out.cell (World.block_lt_of_cell? w _ hx148_1)).trans hx148_1
               replace hx148_2 := (HB.out.cell (World.block_lt_of_cell? w _ hx148_2)).trans hx148_2
               replace hx148_3 := (HB.out.cell (World.block_lt_of_cell? w _ hx148_3)).trans hx148_3
               replace hx148_4 := (HB.out.cell (World.block_lt_of_cell? w _ hx148_4)).trans hx148_4
               replace hx148_5 := (HB.out.cell (World.block_lt_of_cell? w _ hx148_5)).trans hx148_5
               have HR148_1 := Aside0.mk hi148_1
               have HC148_1 := Aside0.mk hl148_1
               clear hi148_1 hl148_1
               have HR148_2 := Aside0.mk hi148_2
               have HC148_2 := Aside0.mk hl148_2
               clear hi148_2 hl148_2
               replace p148 := eq_true p148
               replace q148 := eq_true q148
               refine start_ (n := 8) (S := fun w' => w'.cell? ⟨gb146, 0, none⟩ = some (.int .i64 ((rd_T41 l0 x12_1).f0)) ∧ w'.cell? ⟨gb146, 1, none⟩ = some (.slice A145_1 ((rd_T41 l0 x12_1).f1).length c145_1) ∧ w'.cell? ⟨gb146, 2, none⟩ = some (.slice A145_2 ((rd_T41 l0 x12_1).f2).length c145_2) ∧ w'.cell? ⟨gb146, 3, none⟩ = some (.int .u64 ((rd_T41 l0 x12_1).f3)) ∧ w'.cell? ⟨gb146, 4, none⟩ = some (.int .u64 ((rd_T41 l0 x12_1).f4)) ∧ w'.cell? ⟨gb146, 5, none⟩ = some (.int .i64 ((rd_T41 l0 x12_1).f5)) ∧ w'.cell? ad145 = some (.int .i64 ((rd_T41 l0 0).f0)) ∧ w'.cell? ⟨ad145.block, ad145.off + 1, none⟩ = some (.slice A148_1 ((rd_T41 l0 0).f1).length c148_1) ∧ w'.cell? ⟨ad145.block, ad145.off + 2, none⟩ = some (.slice A148_2 ((rd_T41 l0 0).f2).length c148_2) ∧ w'.cell? ⟨ad145.block, ad145.off + 3, none⟩ = some (.int .u64 ((rd_T41 l0 0).f3)) ∧ w'.cell? ⟨ad145.block, ad145.off + 4, none⟩ = some (.int .u64 ((rd_T41 l0 0).f4)) ∧ w'.cell? ⟨ad145.block, ad145.off + 5, none⟩ = some (.int .i64 ((rd_T41 l0 0).f5))) (ds := []) #[Z,Z,Z,Z,Z,Z,Z,Z] (by kernel_rfl) rfl rfl ⟨(blk_cell BK146.out 0).trans rfl, (blk_cell BK146.out 1).trans rfl, (blk_cell BK146.out 2).trans rfl, (blk_cell BK146.out 3).trans rfl, (blk_cell BK146.out 4).trans rfl, (blk_cell BK146.out 5).trans rfl, ((HB.out.cell (World.block_lt_of_cell? w _ hw148_0)).trans hw148_0), ((HB.out.cell (World.block_lt_of_cell? w _ hw148_1)).trans hw148_1), ((HB.out.cell (World.block_lt_of_cell? w _ hw148_2)).trans hw148_2), ((HB.out.cell (World.block_lt_of_cell? w _ hw148_3)).trans hw148_3), ((HB.out.cell (World.block_lt_of_cell? w _ hw148_4)).trans hw148_4), ((HB.out.cell (World.block_lt_of_cell? w _ hw148_5)).trans hw148_5)⟩ (fun hHeld => ?_); refine with_tabW report_Check.tab7 report_Check.bits7 (fun HT_ HW_ => ?_)
               generalize wc.drew = w27 at BK146 HB HR148_1 HR148_2 hx148_0 hx148_1 hx148_2 hx148_3 hx148_4 hx148_5 hHeld ⊢
               refine pure_ (i := 1) (N := some 18) (v := ?_) (a' := ?_) #[Z,X,Z,Z,Z,Z,Z,Z] rfl rfl (any_of HT_.out (by kernel_rfl)) (fun _ _ _ h => h) (Or.inl ⟨by rfl, ?_⟩) ?_ ?_
               rotate_left
               ·intro w'
                go_simp
                with_reducible rfl
               rotate_left
               ·simp only [Act.put, sA, sB, sC, i64_w, i32_w]
                rfl
               refine pure_ (i := 2) (N := some 19) (v := ?_) (a' := ?_) #[Z,X,X,Z,Z,Z,Z,Z] rfl rfl (any_of HT_.out (by kernel_rfl)) (fun _ _ _ h => h) (Or.inl ⟨by rfl, ?_⟩) ?_ ?_
               rotate_left
               ·intro w'
                go_simp
                with_reducible rfl
               rotate_left
               ·simp only [Act.put, sA, sB, sC, i64_w, i32_w]
                rfl
               refine pure_ (i := 3) (N := some 20) (v := ?_) (a' := ?_) #[Z,X,X,X,Z,Z,Z,Z] rfl rfl (any_of HT_.out (by kernel_rfl)) (fun _ _ _ h => h) (Or.inl ⟨by rfl, ?_⟩) ?_ ?_
               rotate_left
               ·intro w'
                go_simp
                with_reducible rfl
               rotate_left
               ·simp only [Act.put, sA, sB, sC, i64_w, i32_w]
                rfl
               refine take_ (i := 0) (N := some 17) (v := ?_) (a' := ?_) #[X,X,X,X,Z,Z,Z,Z] rfl rfl (take_ofW HT_.out HW_.out (by kernel_rfl)) (fun _ _ _ h => h) (Or.inl ⟨by rfl, ?_⟩) hHeld ?_ ?_
               rotate_left
               ·rintro w' ⟨s0, s1, s2, s3, s4, s5, s6, s7, s8, s9, s10, s11⟩
                go_simp
                with_reducible rfl
               rotate_left
               ·simp only [Act.put, sA, sB, sC, i64_w, i32_w]
                rfl
               refine take_ (i := 4) (N := some 21) (v := ?_) (a' := ?_) #[X,X,X,X,X,Z,Z,Z] rfl rfl (take_ofW HT_.out HW_.out (by kernel_rfl)) (fun _ _ _ h => h) (Or.inl ⟨by rfl, ?_⟩) hHeld ?_ ?_
               rotate_left
               ·rintro w' ⟨s0, s1, s2, s3, s4, s5, s6, s7, s8, s9, s10, s11⟩
                go_simp
                with_reducible rfl
               rotate_left
               ·simp only [Act.put, sA, sB, sC, i64_w, i32_w]
                rfl
               refine pure_ (i := 5) (N := some 22) (v := ?_) (a' := ?_) #[X,X,X,X,X,X,Z,Z] rfl rfl (any_of HT_.out (by kernel_rfl)) (fun _ _ _ h => h) (Or.inl ⟨by rfl, ?_⟩) ?_ ?_
               rotate_left
               ·intro w'
                go_simp
                with_reducible rfl
               rotate_left
               ·simp only [Act.put, sA, sB, sC, i64_w, i32_w]
                rfl
               refine one_ (i := 6) (N := some 23) #[X,X,X,X,X,X,X,Z] rfl rfl (one_of HT_.out (by kernel_rfl)) (by decide) (fun K hK => ?_)
               refine goes_ Tryd.func41 (by kernel_rfl) rfl #[.agg #[.int .i64 ((rd_T41 l0 x12_1).f0), .slice A145_1 ((rd_T41 l0 x12_1).f1).length c145_1, .slice A145_2 ((rd_T41 l0 x12_1).f2).length c145_2, .int .u64 ((rd_T41 l0 x12_1).f3), .int .u64 ((rd_T41 l0 x12_1).f4), .int .i64 ((rd_T41 l0 x12_1).f5)], .int .i64 (((rd_T41 l0 0).f2).length : Int)] (by rfl) rfl rfl (by (try simp only [List.map_toArray, List.map_cons, List.map_nil]); first | done | rfl | (simp only [List.length_drop, List.length_take]; rfl)) ?_
               with_reducible refine (report_view.calls kj13 ((rd_T41 l0 x12_1).f0) _ _ ((rd_T41 l0 x12_1).f1) _ _ ((rd_T41 l0 x12_1).f2) ((rd_T41 l0 x12_1).f3) ((rd_T41 l0 x12_1).f4) ((rd_T41 l0 x12_1).f5) (((rd_T41 l0 0).f2).length : Int) t149 _ ?side1 ?side2 ?side3 ?side4 A23.out).mono ?_
               (case side1 => repeat (first | exact (Kd.C_below HR145_1.out HB.out) | (with_reducible refine Kd.C_alloc ?_ _) | (with_reducible refine Kd.C_drewN ?_ _) | (with_reducible refine Kd.C_drew ?_)))
               (case side2 => exact HC145_1.out)
               (case side3 => repeat (first | exact (Kd.C_below HR145_2.out HB.out) | (with_reducible refine Kd.C_alloc ?_ _) | (with_reducible refine Kd.C_drewN ?_ _) | (with_reducible refine Kd.C_drew ?_)))
               (case side4 => exact HC145_2.out)
               rintro e w28 ⟨rfl, hb⟩
               refine ⟨_, rfl, ?_⟩
               have n0_ := Aside0.mk (blk_below (g := gb146) (o := .cells #[.int .i64 ((rd_T41 l0 x12_1).f0), .slice A145_1 ((rd_T41 l0 x12_1).f1).length c145_1, .slice A145_2 ((rd_T41 l0 x12_1).f2).length c145_2, .int .u64 ((rd_T41 l0 x12_1).f3), .int .u64 ((rd_T41 l0 x12_1).f4), .int .i64 ((rd_T41 l0 x12_1).f5)] 41 (0, 0)) (by (with_reducible repeat (first | refine blk_drewN ?_ _ | refine blk_drew ?_ | refine blk_alloc ?_ _)); exact BK146.out) hb)
               have n1_ := Aside0.mk (below_step (by repeat (first | (with_reducible first | exact HB.out | apply below_alloc | apply pw_below_drewN | apply below_drew1 | refine below_set ?_ GE146.out) | exact HB.out)) hb)
               clear BK146
               clear HB
               have BK146 := n0_
               have HB := n1_
               clear n0_ n1_
               (try clear hb)
               (try clear hb2)
               (try clear hk)
               (try clear hi)
               refine hK.out _ _ ⟨(blk_cell BK146.out 0).trans rfl, (blk_cell BK146.out 1).trans rfl, (blk_cell BK146.out 2).trans rfl, (blk_cell BK146.out 3).trans rfl, (blk_cell BK146.out 4).trans rfl, (blk_cell BK146.out 5).trans rfl, ((HB.out.cell (World.block_lt_of_cell? w _ hw148_0)).trans hw148_0), ((HB.out.cell (World.block_lt_of_cell? w _ hw148_1)).trans hw148_1), ((HB.out.cell (World.block_lt_of_cell? w _ hw148_2)).trans hw148_2), ((HB.out.cell (World.block_lt_of_cell? w _ hw148_3)).trans hw148_3), ((HB.out.cell (World.block_lt_of_cell? w _ hw148_4)).trans hw148_4), ((HB.out.cell (World.block_lt_of_cell? w _ hw148_5)).trans hw148_5)⟩ (fun hHeld => ?_)
               clear hK K
               refine norm_ (a' := ?_) ?_ ?_
               rotate_left
               ·show Act.put _ (some 23) _ = _
                simp only [Act.put, sA, sB, sC, i64_w, i32_w]
                rfl
               refine pure_ (i := 7) (N := some 6) (v := ?_) (a' := ?_) #[X,X,X,X,X,X,X,X] rfl rfl (any_of HT_.out (by kernel_rfl)) (fun _ _ _ h => h) (Or.inl ⟨by rfl, ?_⟩) ?_ ?_
               rotate_left
               ·intro w'
                go_simp
                with_reducible rfl
               rotate_left
               ·simp only [Act.put, sA, sB, sC, i64_w, i32_w]
                rfl
               refine done_ (done_of HT_.out (by kernel_rfl)) ?_
               try go_wp2
               go_ret2
               exact ⟨by first | rfl | (simp [errW_none, errW_some] <;> rfl) | (simp [*, errW_none, errW_some] <;> rfl) | (simp (discharger := omega) only [Int.tdiv_eq_ediv_of_nonneg, Int.tmod_eq_emod_of_nonneg] <;> rfl), by repeat (first | (with_reducible first | exact HB.out | apply below_alloc | apply pw_below_drewN | apply below_drew1 | refine below_set ?_ GE146.out) | exact HB.out)⟩
             ·rw [if_neg c22] at H
              exact absurd H (by simp)
      ·rw [if_neg c5] at H
       exact absurd H (by simp)
     ·rw [if_neg c4] at H
      exact absurd H (by simp)
    ·rw [if_neg c3] at H
     have c3b0 : decide (x12_1 < (l0.length : Int)) = false := decide_eq_false c3
     clear c3
     simp only [Option.some.injEq, Prod.mk.injEq] at H
     obtain ⟨rfl, rfl⟩ := H
     go_wp2
     go_ret2
     exact ⟨by first | rfl | (simp [errW_none, errW_some] <;> rfl) | (simp [*, errW_none, errW_some] <;> rfl) | (simp (discharger := omega) only [Int.tdiv_eq_ediv_of_nonneg, Int.tmod_eq_emod_of_nonneg] <;> rfl), by repeat (first | (with_reducible first | exact HB.out | apply below_alloc | apply pw_below_drewN | apply below_drew1) | exact HB.out)⟩

end Go.Proofs.YtenlokaaloenmaaDoor.S
