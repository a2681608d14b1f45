-- PRINTED by print.py (a twelfth state) out of the translation. Not trusted: Lean checks it.
import Derived.Test.YtenlokaaloenmaaDoorM3
namespace Go.Proofs.YtenlokaaloenmaaDoor.S
open Go.RowKit Go.Proofs.YtenlokaaloenmaaDoorW.PrintWords Go.Proofs.YtenlokaaloenmaaDoorW.PrintLast Go.Proofs.YtenlokaaloenmaaDoorW.PrintMore
attribute [local go_sem] Go.Proofs.YtenlokaaloenmaaDoorW.PrintXtra.isSome_setCell max2_int min2_int max_two min_two max_three min_three max_four min_four   -- for this text's walks alone
set_option linter.unusedVariables false
set_option linter.unusedSimpArgs false

/-! ### tipstaffref43_Check: function 18 -/
mutual
def tipstaffref43_Check.l0 : Nat → List (S41) → Int → Option (Int × Int)
 | 0, _, _ => none
 | k + 1, x0, x4 => if x4 < (x0.length : Int) then (if x4 = 0 then (if 0 < (x0.length : Int) then ((tipstaffref43_in.f ((rd_T41 x0 0).f0) 0 1099511627776).bind fun t202 => (tipstaffref43_Check.j1 k x0 x4 (!t202))) else (none)) else (tipstaffref43_Check.j1 k x0 x4 false)) else (some (0, 0))
def tipstaffref43_Check.j1 : Nat → List (S41) → Int → Bool → Option (Int × Int)
 | 0, _, _, _ => none
 | k + 1, x0, x4, x24 => if x24 = true then (some (2, 0)) else (if x4 > 0 then (if 0 ≤ x4 then (if x4 < (x0.length : Int) then (if 0 ≤ (wrap64 (x4 - 1)) then (if (wrap64 (x4 - 1)) < (x0.length : Int) then (tipstaffref43_Check.j2 k x0 x4 ((wrap64 (((rd_T41 x0 x4).f0) - 1)) != ((rd_T41 x0 (wrap64 (x4 - 1))).f0))) else (none)) else (none)) else (none)) else (none)) else (tipstaffref43_Check.j2 k x0 x4 false))
def tipstaffref43_Check.j2 : Nat → List (S41) → Int → Bool → Option (Int × Int)
 | 0, _, _, _ => none
 | k + 1, x0, x4, x41 => if x41 = true then (some (8, x4)) else (if 0 ≤ x4 then (if x4 < (x0.length : Int) then (if 0 < (x0.length : Int) then ((tipstaffref43_one.f k ((rd_T41 x0 x4).f0) ((rd_T41 x0 x4).f1) ((rd_T41 x0 x4).f2) ((rd_T41 x0 x4).f3) ((rd_T41 x0 x4).f4) ((rd_T41 x0 x4).f5) (((rd_T41 x0 0).f2).length : Int)).bind fun t207 => (if t207 = 0 then (tipstaffref43_Check.l0 k x0 (wrap64 (x4 + 1))) else (some (t207, x4)))) else (none)) else (none)) else (none))
end
def tipstaffref43_Check.f (k : Nat) (l0 : List (S41)) : Option (Int × Int) := if (l0.length : Int) > 20000 then (some (4, 0)) else (tipstaffref43_Check.l0 k l0 0)
theorem tipstaffref43_Check.mono_l : ∀ k, (∀ y0 y1, LeO (tipstaffref43_Check.l0 k y0 y1) (tipstaffref43_Check.l0 (k + 1) y0 y1)) ∧ (∀ y0 y1 y2, LeO (tipstaffref43_Check.j1 k y0 y1 y2) (tipstaffref43_Check.j1 (k + 1) y0 y1 y2)) ∧ (∀ y0 y1 y2, LeO (tipstaffref43_Check.j2 k y0 y1 y2) (tipstaffref43_Check.j2 (k + 1) y0 y1 y2))
 | 0 => ⟨fun _ _ r h => by simp [tipstaffref43_Check.l0] at h, fun _ _ _ r h => by simp [tipstaffref43_Check.j1] at h, fun _ _ _ r h => by simp [tipstaffref43_Check.j2] at h⟩
 | k + 1 => by
  obtain ⟨ih0, ih1, ih2⟩ := tipstaffref43_Check.mono_l k
  refine ⟨?_, ?_, ?_⟩
  ·intro y0 y1
   unfold tipstaffref43_Check.l0
   repeat' first
   | (with_reducible exact ih0 _ _)
   | (with_reducible exact ih1 _ _ _)
   | (with_reducible exact ih2 _ _ _)
   | (with_reducible exact tipstaffref43_one.mono _ _ _ _ _ _ _ _)
   | (with_reducible exact LeO.refl _)
   | (with_reducible exact LeO.none _)
   | (with_reducible refine LeO.ite ?_ ?_)
   | (with_reducible refine LeO.bind ?_ (fun _ => ?_))
   | exact ih0 _ _
   | exact ih1 _ _ _
   | exact ih2 _ _ _
   | exact tipstaffref43_one.mono _ _ _ _ _ _ _ _
   | exact LeO.none _
   | refine LeO.ite ?_ ?_
   | refine LeO.bind ?_ (fun _ => ?_)
  ·intro y0 y1 y2
   unfold tipstaffref43_Check.j1
   repeat' first
   | (with_reducible exact ih0 _ _)
   | (with_reducible exact ih1 _ _ _)
   | (with_reducible exact ih2 _ _ _)
   | (with_reducible exact tipstaffref43_one.mono _ _ _ _ _ _ _ _)
   | (with_reducible exact LeO.refl _)
   | (with_reducible exact LeO.none _)
   | (with_reducible refine LeO.ite ?_ ?_)
   | (with_reducible refine LeO.bind ?_ (fun _ => ?_))
   | exact ih0 _ _
   | exact ih1 _ _ _
   | exact ih2 _ _ _
   | exact tipstaffref43_one.mono _ _ _ _ _ _ _ _
   | exact LeO.none _
   | refine LeO.ite ?_ ?_
   | refine LeO.bind ?_ (fun _ => ?_)
  ·intro y0 y1 y2
   unfold tipstaffref43_Check.j2
   repeat' first
   | (with_reducible exact ih0 _ _)
   | (with_reducible exact ih1 _ _ _)
   | (with_reducible exact ih2 _ _ _)
   | (with_reducible exact tipstaffref43_one.mono _ _ _ _ _ _ _ _)
   | (with_reducible exact LeO.refl _)
   | (with_reducible exact LeO.none _)
   | (with_reducible refine LeO.ite ?_ ?_)
   | (with_reducible refine LeO.bind ?_ (fun _ => ?_))
   | exact ih0 _ _
   | exact ih1 _ _ _
   | exact ih2 _ _ _
   | exact tipstaffref43_one.mono _ _ _ _ _ _ _ _
   | exact LeO.none _
   | refine LeO.ite ?_ ?_
   | refine LeO.bind ?_ (fun _ => ?_)
theorem tipstaffref43_Check.mono : ∀ a0 k, LeO (tipstaffref43_Check.f k a0) (tipstaffref43_Check.f (k + 1) a0) := by
 intro a0 k
 obtain ⟨ih0, ih1, ih2⟩ := tipstaffref43_Check.mono_l k
 unfold tipstaffref43_Check.f
 repeat' first
   | (with_reducible exact ih0 _ _)
   | (with_reducible exact ih1 _ _ _)
   | (with_reducible exact ih2 _ _ _)
   | (with_reducible exact tipstaffref43_one.mono _ _ _ _ _ _ _ _)
   | (with_reducible exact LeO.refl _)
   | (with_reducible exact LeO.none _)
   | (with_reducible refine LeO.ite ?_ ?_)
   | (with_reducible refine LeO.bind ?_ (fun _ => ?_))
   | exact ih0 _ _
   | exact ih1 _ _ _
   | exact ih2 _ _ _
   | exact tipstaffref43_one.mono _ _ _ _ _ _ _ _
   | exact LeO.none _
   | refine LeO.ite ?_ ?_
   | refine LeO.bind ?_ (fun _ => ?_)
def tipstaffref43_Check.T8 : Bool × List (List Nat × List Nat) := (true, [([], []), ([0], [0]), ([1], [1]), ([2], [2]), ([2], [2]), ([3, 4, 2], [2, 3, 4]), ([5, 2], [2, 5]), ([6, 2], [2, 6]), ([7, 2], [2, 7]), ([2], [2]), ([2], [2]), ([10, 2], [2, 10]), ([9, 11, 2], [2, 9, 11]), ([12, 2], [2, 12]), ([13, 2], [2, 13]), ([8, 14, 2], [2, 8, 14]), ([2, 15], [2, 15])])
def tipstaffref43_Check.B8 : List Nat := [0, 1, 3, 7, 7, 31, 63, 127, 255, 7, 7, 1031, 3591, 7687, 15879, 32767, 65535]
theorem tipstaffref43_Check.tab8 : rtab .any (opsOf Tryd.f18 8) = tipstaffref43_Check.T8 := by kernel_rfl
theorem tipstaffref43_Check.bits8 : waitsOk tipstaffref43_Check.T8.2 tipstaffref43_Check.B8 = true := by kernel_rfl
def tipstaffref43_Check.T10 : Bool × List (List Nat × List Nat) := (true, [([], []), ([], []), ([0, 1], [0, 1]), ([2], [2]), ([], []), ([4], [4]), ([5], [5]), ([6], [6]), ([7], [7]), ([3, 8], [3, 8]), ([9, 9, 0, 1, 2, 3, 4, 5, 6, 7, 8, 9], [9])])
def tipstaffref43_Check.B10 : List Nat := [0, 0, 3, 7, 0, 16, 48, 112, 240, 511, 1023]
theorem tipstaffref43_Check.tab10 : rtab .any (opsOf Tryd.f18 10) = tipstaffref43_Check.T10 := by kernel_rfl
theorem tipstaffref43_Check.bits10 : waitsOk tipstaffref43_Check.T10.2 tipstaffref43_Check.B10 = true := by kernel_rfl
set_option maxHeartbeats 8000000 in
set_option maxRecDepth 100000 in
theorem tipstaffref43_Check.calls (k : Nat) (A0 : Option Addr) (c0 : Nat) (l0 : List (S41)) (r1 : Int) (r2 : Int) (w : World) (hr0 : Kd.C k41 w A0 l0.length l0) (hc0 : l0.length ≤ c0) (h : tipstaffref43_Check.f k l0 = some (r1, r2)) :
  Calls Tryd.prog 18 #[.slice A0 l0.length c0] w fun e w' => e = .returned (.tuple #[.int .i64 r1, .int .i64 r2]) ∧ Below w.heap.size w w' := by
 have hu41 := Tryd.underlying41
 have HR0 := Aside0.mk hr0
 have HC0 := Aside0.mk hc0
 clear hr0 hc0
 have HB := Aside0.mk (Below.refl w.heap.size w)
 have H : (if (l0.length : Int) > 20000 then (some (4, 0)) else (tipstaffref43_Check.l0 k l0 0)) = some (r1, r2) := h
 clear h
 by_cases c2 : (l0.length : Int) > 20000
 ·rw [if_pos c2] at H
  have c2b0 : decide (20000 < (l0.length : Int)) = true := decide_eq_true c2
  have c2b1 : decide (20000 < l0.length) = true := decide_eq_true (by omega)
  clear c2
  simp only [Option.some.injEq, Prod.mk.injEq] at H
  obtain ⟨rfl, rfl⟩ := H
  go_enter Tryd.func18, Tryd.ntmps18
  go_wp2
  go_ret2
  exact ⟨by first | rfl | (simp [errW_none, errW_some] <;> rfl) | (simp [*, errW_none, errW_some] <;> rfl) | (simp (discharger := omega) only [Int.tdiv_eq_ediv_of_nonneg, Int.tmod_eq_emod_of_nonneg] <;> rfl), by repeat (first | (with_reducible first | exact HB.out | apply below_alloc | apply pw_below_drewN | apply below_drew1) | exact HB.out)⟩
 ·rw [if_neg c2] at H
  have c2b0 : decide (20000 < (l0.length : Int)) = false := decide_eq_false c2
  have c2b1 : decide (20000 < l0.length) = false := decide_eq_false (by omega)
  clear c2
  have H' := Aside0.mk H
  clear H
  go_enter Tryd.func18, Tryd.ntmps18
  go_wp2
  go_loopg [4] k (fun kq v4 w' => ∃ (x4_1 : Int), v4 = .int .i64 x4_1 ∧ Aside0 (tipstaffref43_Check.l0 kq l0 x4_1 = some (r1, r2)) ∧ Aside0 (kq ≤ k) ∧ Aside0 (Below w.heap.size w w'))
  case atStart => exact ⟨(0), (by first | rfl | (simp; done) | (simp [*]; done)), H', ⟨Nat.le_refl _⟩, ⟨by repeat (first | (with_reducible first | exact HB.out | apply below_alloc | apply pw_below_drewN | apply below_drew1) | exact HB.out)⟩⟩
  case round =>
   clear H'
   try clear c1
   try clear c2
   try clear c2b0
   try clear c2b1
   try clear p2
   obtain ⟨x4_1, rfl, HA, HK1, HB⟩ := hrel
   cases gk with
   | zero => exact absurd HA.out (by simp [tipstaffref43_Check.l0])
   | succ k1 =>
    have H := HA.out
    clear HA
    simp only [tipstaffref43_Check.l0] at H
    by_cases c3 : x4_1 < (l0.length : Int)
    ·rw [if_pos c3] at H
     have c3b0 : decide (x4_1 < (l0.length : Int)) = true := decide_eq_true c3
     clear c3
     have HC4 := Aside0.mk H
     clear H
     go_upto_region 6 with (fail)
     go_cut [24] (fun v24 wc => ∃ (kq : Nat) (x24_3 : Bool), v24 = .bool x24_3 ∧ Aside0 (tipstaffref43_Check.j1 kq l0 x4_1 x24_3 = some (r1, r2)) ∧ Aside0 (kq ≤ k1) ∧ Aside0 (Below w.heap.size w wc))
     case first =>
      have H := HC4.out
      clear HC4
      by_cases c5 : x4_1 = 0
      ·rw [if_pos c5] at H
       have c5b0 : (x4_1 == 0) = true := beq_iff_eq.mpr c5
       have c5b1 : (x4_1 != 0) = false := bne_eq_false_iff_eq.mpr c5
       clear c5
       (first | rw [c5b0] | (simp only [i64_w, i32_w]; rw [c5b0]) | skip)
       by_cases c6 : 0 < (l0.length : Int)
       ·rw [if_pos c6] at H
        have c6b0 : decide (0 < (l0.length : Int)) = true := decide_eq_true c6
        have c6b1 : decide (0 < l0.length) = true := decide_eq_true (by omega)
        clear c6
        replace H := Option.bind_eq_some_iff.mp H
        obtain ⟨t202, A70, H⟩ := H
        replace H : (tipstaffref43_Check.j1 k1 l0 x4_1 (!t202)) = some (r1, r2) := H
        have A7 := Aside0.mk A70
        clear A70
        have H' := Aside0.mk H
        clear H
        have p201 : 0 ≤ (0 : Int) := (by omega)
        have q201 : 0 < (l0.length : Int) := of_decide_eq_true (by first | (with_reducible assumption) | assumption)
        obtain ⟨ad201, A201_1, c201_1, A201_2, c201_2, e201, hx201_0, hx201_1, hx201_2, hx201_3, hx201_4, hx201_5, hl201_1, hi201_1, hl201_2, hi201_2⟩ := at_T41 HR0.out 0 p201 q201
        cases e201
        have qi201 : (0 < l0.length) = True := eq_true (by omega)
        (try rw [show ((0 : Int)).toNat = 0 from rfl] at hx201_0)
        (try rw [show 0 * 6 = 0 from rfl] at hx201_0)
        (try rw [Addr.add_zero'] at hx201_0)
        (try rw [show ((0 : Int)).toNat = 0 from rfl] at hx201_1)
        (try rw [show 0 * 6 = 0 from rfl] at hx201_1)
        (try rw [Addr.add_zero'] at hx201_1)
        (try rw [show ((0 : Int)).toNat = 0 from rfl] at hx201_2)
        (try rw [show 0 * 6 = 0 from rfl] at hx201_2)
        (try rw [Addr.add_zero'] at hx201_2)
        (try rw [show ((0 : Int)).toNat = 0 from rfl] at hx201_3)
        (try rw [show 0 * 6 = 0 from rfl] at hx201_3)
        (try rw [Addr.add_zero'] at hx201_3)
        (try rw [show ((0 : Int)).toNat = 0 from rfl] at hx201_4)
        (try rw [show 0 * 6 = 0 from rfl] at hx201_4)
        (try rw [Addr.add_zero'] at hx201_4)
        (try rw [show ((0 : Int)).toNat = 0 from rfl] at hx201_5)
        (try rw [show 0 * 6 = 0 from rfl] at hx201_5)
        (try rw [Addr.add_zero'] at hx201_5)
        replace hx201_0 := (HB.out.cell (World.block_lt_of_cell? w _ hx201_0)).trans hx201_0
        replace hx201_1 := (HB.out.cell (World.block_lt_of_cell? w _ hx201_1)).trans hx201_1
        replace hx201_2 := (HB.out.cell (World.block_lt_of_cell? w _ hx201_2)).trans hx201_2
        replace hx201_3 := (HB.out.cell (World.block_lt_of_cell? w _ hx201_3)).trans hx201_3
        replace hx201_4 := (HB.out.cell (World.block_lt_of_cell? w _ hx201_4)).trans hx201_4
        replace hx201_5 := (HB.out.cell (World.block_lt_of_cell? w _ hx201_5)).trans hx201_5
        have HR201_1 := Aside0.mk hi201_1
        have HC201_1 := Aside0.mk hl201_1
        clear hi201_1 hl201_1
        have HR201_2 := Aside0.mk hi201_2
        have HC201_2 := Aside0.mk hl201_2
        clear hi201_2 hl201_2
        replace p201 := eq_true p201
        replace q201 := eq_true q201
        go_wp2_with (first | (go_at_call 42; (with_reducible refine (tipstaffref43_in.calls ((rd_T41 l0 0).f0) 0 1099511627776 t202 _ A7.out).mono ?_); rintro e w' ⟨rfl, ⟨nd, rfl⟩⟩))
        go_meet
        case rel => exact ⟨_, (!t202), (by first | rfl | (simp; done) | (simp [*]; done)), H', ⟨by have := HK1.out; first | omega | exact Nat.le_refl _⟩, ⟨by repeat (first | (with_reducible first | exact HB.out | apply below_alloc | apply pw_below_drewN | apply below_drew1) | exact HB.out)⟩⟩
       ·rw [if_neg c6] at H
        exact absurd H (by simp)
      ·rw [if_neg c5] at H
       have c5b0 : (x4_1 == 0) = false := beq_eq_false_iff_ne.mpr c5
       have c5b1 : (x4_1 != 0) = true := bne_iff_ne.mpr c5
       (first | rw [c5b0] | (simp only [i64_w, i32_w]; rw [c5b0]) | skip)
       have H' := Aside0.mk H
       clear H
       go_wp2
       go_meet
       case rel => exact ⟨_, (false), (by first | rfl | (simp; done) | (simp [*]; done)), H', ⟨by have := HK1.out; first | omega | exact Nat.le_refl _⟩, ⟨by repeat (first | (with_reducible first | exact HB.out | apply below_alloc | apply pw_below_drewN | apply below_drew1) | exact HB.out)⟩⟩
     case rest =>
      clear HC4
      try clear c1
      try clear c2
      try clear c2b0
      try clear c2b1
      try clear p2
      try clear q2
      try clear hx2
      try clear qi2
      try clear c3
      try clear c3b0
      try clear c5
      try clear c5b0
      try clear c5b1
      try clear c6
      try clear c6b0
      try clear c6b1
      try clear hx201_0
      try clear hx201_1
      try clear hx201_2
      try clear hx201_3
      try clear hx201_4
      try clear hx201_5
      try clear p2
      try clear p201
      try clear q201
      obtain ⟨kq, x24_3, rfl, HA, HJ3, HB⟩ := hcut
      cases kq with
      | zero => exact absurd HA.out (by simp [tipstaffref43_Check.j1])
      | succ kj3 =>
       have H := HA.out
       clear HA
       simp only [tipstaffref43_Check.j1] at H
       by_cases c8 : x24_3 = true
       ·subst c8
        have H1 : (some (2, 0)) = some (r1, r2) := by rw [if_pos rfl] at H; exact H
        clear H
        have H := H1
        clear H1
        simp only [Option.some.injEq, Prod.mk.injEq] at H
        obtain ⟨rfl, rfl⟩ := H
        go_wp2
        go_ret2
        exact ⟨by first | rfl | (simp [errW_none, errW_some] <;> rfl) | (simp [*, errW_none, errW_some] <;> rfl) | (simp (discharger := omega) only [Int.tdiv_eq_ediv_of_nonneg, Int.tmod_eq_emod_of_nonneg] <;> rfl), by repeat (first | (with_reducible first | exact HB.out | apply below_alloc | apply pw_below_drewN | apply below_drew1) | exact HB.out)⟩
       ·replace c8 := Bool.eq_false_iff.mpr c8
        subst c8
        have H1 : (if x4_1 > 0 then (if 0 ≤ x4_1 then (if x4_1 < (l0.length : Int) then (if 0 ≤ (wrap64 (x4_1 - 1)) then (if (wrap64 (x4_1 - 1)) < (l0.length : Int) then (tipstaffref43_Check.j2 kj3 l0 x4_1 ((wrap64 (((rd_T41 l0 x4_1).f0) - 1)) != ((rd_T41 l0 (wrap64 (x4_1 - 1))).f0))) else (none)) else (none)) else (none)) else (none)) else (tipstaffref43_Check.j2 kj3 l0 x4_1 false)) = some (r1, r2) := by rw [if_neg (show ¬ (false = true) by decide)] at H; exact H
        clear H
        have H := H1
        clear H1
        have HC9 := Aside0.mk H
        clear H
        go_upto_region 8 with (fail)
        go_cut [41] (fun v41 wc => ∃ (kq : Nat) (x41_8 : Bool), v41 = .bool x41_8 ∧ Aside0 (tipstaffref43_Check.j2 kq l0 x4_1 x41_8 = some (r1, r2)) ∧ Aside0 (kq ≤ kj3) ∧ Aside0 (Below w.heap.size w wc))
        case first =>
         have H := HC9.out
         clear HC9
         by_cases c10 : x4_1 > 0
         ·rw [if_pos c10] at H
          have c10b0 : decide (0 < x4_1) = true := decide_eq_true c10
          clear c10
          (first | rw [c10b0] | (simp only [i64_w, i32_w]; rw [c10b0]) | skip)
          by_cases c11 : 0 ≤ x4_1
          ·rw [if_pos c11] at H
           have c11b0 : decide (0 ≤ x4_1) = true := decide_eq_true c11
           clear c11
           by_cases c12 : x4_1 < (l0.length : Int)
           ·rw [if_pos c12] at H
            have c12b0 : decide (x4_1 < (l0.length : Int)) = true := decide_eq_true c12
            clear c12
            obtain ⟨ji13, hji13⟩ : ∃ j_ : Int, (wrap64 (x4_1 - 1)) = j_ := ⟨_, rfl⟩
            replace H : (if 0 ≤ (ji13) then (if (ji13) < (l0.length : Int) then (tipstaffref43_Check.j2 kj3 l0 x4_1 ((wrap64 (((rd_T41 l0 x4_1).f0) - 1)) != ((rd_T41 l0 (ji13)).f0))) else (none)) else (none)) = some (r1, r2) := by first | (rw [hji13] at H; exact H) | (simp only [hji13] at H ⊢; exact H)
            have hji13w : (IntKind.i64.wrap (x4_1 - 1)) = ji13 := (i64_w _).trans hji13
            by_cases c14 : 0 ≤ (ji13)
            ·rw [if_pos c14] at H
             have c14b0 : decide (0 ≤ (ji13)) = true := decide_eq_true c14
             clear c14
             by_cases c15 : (ji13) < (l0.length : Int)
             ·rw [if_pos c15] at H
              have c15b0 : decide ((ji13) < (l0.length : Int)) = true := decide_eq_true c15
              clear c15
              have H' := Aside0.mk H
              clear H
              try go_wp2
              have n0_ := Aside0.mk (below_drew1 HB.out)
              clear HB
              have HB := n0_
              clear n0_
              have p203 : 0 ≤ (x4_1 : Int) := of_decide_eq_true (by first | (with_reducible assumption) | assumption)
              have q203 : x4_1 < (l0.length : Int) := of_decide_eq_true (by first | (with_reducible assumption) | assumption)
              obtain ⟨ad203, A203_1, c203_1, A203_2, c203_2, e203, hx203_0, hx203_1, hx203_2, hx203_3, hx203_4, hx203_5, hl203_1, hi203_1, hl203_2, hi203_2⟩ := at_T41 HR0.out x4_1 p203 q203
              have hw203_5 := hx203_5
              have hw203_4 := hx203_4
              have hw203_3 := hx203_3
              have hw203_2 := hx203_2
              have hw203_1 := hx203_1
              have hw203_0 := hx203_0
              cases e203
              replace hx203_0 := (HB.out.cell (World.block_lt_of_cell? w _ hx203_0)).trans hx203_0
              replace hx203_1 := (HB.out.cell (World.block_lt_of_cell? w _ hx203_1)).trans hx203_1
              replace hx203_2 := (HB.out.cell (World.block_lt_of_cell? w _ hx203_2)).trans hx203_2
              replace hx203_3 := (HB.out.cell (World.block_lt_of_cell? w _ hx203_3)).trans hx203_3
              replace hx203_4 := (HB.out.cell (World.block_lt_of_cell? w _ hx203_4)).trans hx203_4
              replace hx203_5 := (HB.out.cell (World.block_lt_of_cell? w _ hx203_5)).trans hx203_5
              have HR203_1 := Aside0.mk hi203_1
              have HC203_1 := Aside0.mk hl203_1
              clear hi203_1 hl203_1
              have HR203_2 := Aside0.mk hi203_2
              have HC203_2 := Aside0.mk hl203_2
              clear hi203_2 hl203_2
              replace p203 := eq_true p203
              replace q203 := eq_true q203
              have p204 : 0 ≤ ((ji13) : Int) := of_decide_eq_true (by first | (with_reducible assumption) | assumption)
              have q204 : (ji13) < (l0.length : Int) := of_decide_eq_true (by first | (with_reducible assumption) | assumption)
              obtain ⟨ad204, A204_1, c204_1, A204_2, c204_2, e204, hx204_0, hx204_1, hx204_2, hx204_3, hx204_4, hx204_5, hl204_1, hi204_1, hl204_2, hi204_2⟩ := at_T41 HR0.out (ji13) p204 q204
              have hw204_5 := hx204_5
              have hw204_4 := hx204_4
              have hw204_3 := hx204_3
              have hw204_2 := hx204_2
              have hw204_1 := hx204_1
              have hw204_0 := hx204_0
              obtain rfl : ad203 = ad204 := (by injection e204)
              replace hx204_0 := (HB.out.cell (World.block_lt_of_cell? w _ hx204_0)).trans hx204_0
              replace hx204_1 := (HB.out.cell (World.block_lt_of_cell? w _ hx204_1)).trans hx204_1
              replace hx204_2 := (HB.out.cell (World.block_lt_of_cell? w _ hx204_2)).trans hx204_2
              replace hx204_3 := (HB.out.cell (World.block_lt_of_cell? w _ hx204_3)).trans hx204_3
              replace hx204_4 := (HB.out.cell (World.block_lt_of_cell? w _ hx204_4)).trans hx204_4
              replace hx204_5 := (HB.out.cell (World.block_lt_of_cell? w _ hx204_5)).trans hx204_5
              have HR204_1 := Aside0.mk hi204_1
              have HC204_1 := Aside0.mk hl204_1
              clear hi204_1 hl204_1
              have HR204_2 := Aside0.mk hi204_2
              have HC204_2 := Aside0.mk hl204_2
              clear hi204_2 hl204_2
              replace p204 := eq_true p204
              replace q204 := eq_true q204
              refine start_ (n := 17) (S := fun w' => w'.cell? (ad203.add ((x4_1).toNat * 6)) = some (.int .i64 ((rd_T41 l0 x4_1).f0)) ∧ w'.cell? ⟨(ad203.add ((x4_1).toNat * 6)).block, (ad203.add ((x4_1).toNat * 6)).off + 1, none⟩ = some (.slice A203_1 ((rd_T41 l0 x4_1).f1).length c203_1) ∧ w'.cell? ⟨(ad203.add ((x4_1).toNat * 6)).block, (ad203.add ((x4_1).toNat * 6)).off + 2, none⟩ = some (.slice A203_2 ((rd_T41 l0 x4_1).f2).length c203_2) ∧ w'.cell? ⟨(ad203.add ((x4_1).toNat * 6)).block, (ad203.add ((x4_1).toNat * 6)).off + 3, none⟩ = some (.int .u64 ((rd_T41 l0 x4_1).f3)) ∧ w'.cell? ⟨(ad203.add ((x4_1).toNat * 6)).block, (ad203.add ((x4_1).toNat * 6)).off + 4, none⟩ = some (.int .u64 ((rd_T41 l0 x4_1).f4)) ∧ w'.cell? ⟨(ad203.add ((x4_1).toNat * 6)).block, (ad203.add ((x4_1).toNat * 6)).off + 5, none⟩ = some (.int .i64 ((rd_T41 l0 x4_1).f5)) ∧ w'.cell? (ad203.add (((ji13)).toNat * 6)) = some (.int .i64 ((rd_T41 l0 (ji13)).f0)) ∧ w'.cell? ⟨(ad203.add (((ji13)).toNat * 6)).block, (ad203.add (((ji13)).toNat * 6)).off + 1, none⟩ = some (.slice A204_1 ((rd_T41 l0 (ji13)).f1).length c204_1) ∧ w'.cell? ⟨(ad203.add (((ji13)).toNat * 6)).block, (ad203.add (((ji13)).toNat * 6)).off + 2, none⟩ = some (.slice A204_2 ((rd_T41 l0 (ji13)).f2).length c204_2) ∧ w'.cell? ⟨(ad203.add (((ji13)).toNat * 6)).block, (ad203.add (((ji13)).toNat * 6)).off + 3, none⟩ = some (.int .u64 ((rd_T41 l0 (ji13)).f3)) ∧ w'.cell? ⟨(ad203.add (((ji13)).toNat * 6)).block, (ad203.add (((ji13)).toNat * 6)).off + 4, none⟩ = some (.int .u64 ((rd_T41 l0 (ji13)).f4)) ∧ w'.cell? ⟨(ad203.add (((ji13)).toNat * 6)).block, (ad203.add (((ji13)).toNat * 6)).off + 5, none⟩ = some (.int .i64 ((rd_T41 l0 (ji13)).f5))) (ds := []) #[Z,Z,Z,Z,Z,Z,Z,Z,Z,Z,Z,Z,Z,Z,Z,Z,Z] (by kernel_rfl) rfl rfl ⟨((HB.out.cell (World.block_lt_of_cell? w _ hw203_0)).trans hw203_0), ((HB.out.cell (World.block_lt_of_cell? w _ hw203_1)).trans hw203_1), ((HB.out.cell (World.block_lt_of_cell? w _ hw203_2)).trans hw203_2), ((HB.out.cell (World.block_lt_of_cell? w _ hw203_3)).trans hw203_3), ((HB.out.cell (World.block_lt_of_cell? w _ hw203_4)).trans hw203_4), ((HB.out.cell (World.block_lt_of_cell? w _ hw203_5)).trans hw203_5), ((HB.out.cell (World.block_lt_of_cell? w _ hw204_0)).trans hw204_0), ((HB.out.cell (World.block_lt_of_cell? w _ hw204_1)).trans hw204_1), ((HB.out.cell (World.block_lt_of_cell? w _ hw204_2)).trans hw204_2), ((HB.out.cell (World.block_lt_of_cell? w _ hw204_3)).trans hw204_3), ((HB.out.cell (World.block_lt_of_cell? w _ hw204_4)).trans hw204_4), ((HB.out.cell (World.block_lt_of_cell? w _ hw204_5)).trans hw204_5)⟩ (fun hHeld => ?_); refine with_tabW tipstaffref43_Check.tab8 tipstaffref43_Check.bits8 (fun HT_ HW_ => ?_)
              generalize wc.drew = w16 at HB HR203_1 HR203_2 HR204_1 HR204_2 hx203_0 hx203_1 hx203_2 hx203_3 hx203_4 hx203_5 hx204_0 hx204_1 hx204_2 hx204_3 hx204_4 hx204_5 hHeld ⊢
              refine pure_ (i := 0) (N := some 25) (v := ?_) (a' := ?_) #[X,Z,Z,Z,Z,Z,Z,Z,Z,Z,Z,Z,Z,Z,Z,Z,Z] rfl rfl (any_of HT_.out (by kernel_rfl)) (fun _ _ _ h => h) (Or.inl ⟨by rfl, ?_⟩) ?_ ?_
              rotate_left
              ·intro w'
               go_simp
               with_reducible rfl
              rotate_left
              ·simp only [Act.put, sA, sB, sC, i64_w, i32_w]
               rfl
              refine pure_ (i := 1) (N := some 26) (v := ?_) (a' := ?_) #[X,X,Z,Z,Z,Z,Z,Z,Z,Z,Z,Z,Z,Z,Z,Z,Z] rfl rfl (any_of HT_.out (by kernel_rfl)) (fun _ _ _ h => h) (Or.inl ⟨by rfl, ?_⟩) ?_ ?_
              rotate_left
              ·intro w'
               go_simp
               with_reducible rfl
              rotate_left
              ·simp only [Act.put, sA, sB, sC, i64_w, i32_w]
               rfl
              refine pure_ (i := 2) (N := some 27) (v := ?_) (a' := ?_) #[X,X,X,Z,Z,Z,Z,Z,Z,Z,Z,Z,Z,Z,Z,Z,Z] rfl rfl (any_of HT_.out (by kernel_rfl)) (fun _ _ _ h => h) (Or.inl ⟨by rfl, ?_⟩) ?_ ?_
              rotate_left
              ·intro w'
               go_simp
               with_reducible rfl
              rotate_left
              ·simp only [Act.put, sA, sB, sC, i64_w, i32_w]
               rfl
              refine pure_ (i := 3) (N := some 28) (v := ?_) (a' := ?_) #[X,X,X,X,Z,Z,Z,Z,Z,Z,Z,Z,Z,Z,Z,Z,Z] rfl rfl (any_of HT_.out (by kernel_rfl)) (fun _ _ _ h => h) (Or.inl ⟨by rfl, ?_⟩) ?_ ?_
              rotate_left
              ·intro w'
               go_simp
               with_reducible rfl
              rotate_left
              ·simp only [Act.put, sA, sB, sC, i64_w, i32_w]
               rfl
              refine pure_ (i := 4) (N := some 29) (v := ?_) (a' := ?_) #[X,X,X,X,X,Z,Z,Z,Z,Z,Z,Z,Z,Z,Z,Z,Z] rfl rfl (any_of HT_.out (by kernel_rfl)) (fun _ _ _ h => h) (Or.inl ⟨by rfl, ?_⟩) ?_ ?_
              rotate_left
              ·intro w'
               go_simp
               with_reducible rfl
              rotate_left
              ·simp only [Act.put, sA, sB, sC, i64_w, i32_w]
               rfl
              refine pure_ (i := 5) (N := some 30) (v := ?_) (a' := ?_) #[X,X,X,X,X,X,Z,Z,Z,Z,Z,Z,Z,Z,Z,Z,Z] rfl rfl (any_of HT_.out (by kernel_rfl)) (fun _ _ _ h => h) (Or.inl ⟨by rfl, ?_⟩) ?_ ?_
              rotate_left
              ·intro w'
               go_simp
               with_reducible rfl
              rotate_left
              ·simp only [Act.put, sA, sB, sC, i64_w, i32_w]
               rfl
              refine pure_ (i := 6) (N := some 31) (v := ?_) (a' := ?_) #[X,X,X,X,X,X,X,Z,Z,Z,Z,Z,Z,Z,Z,Z,Z] rfl rfl (any_of HT_.out (by kernel_rfl)) (fun _ _ _ h => h) (Or.inl ⟨by rfl, ?_⟩) ?_ ?_
              rotate_left
              ·intro w'
               go_simp
               with_reducible rfl
              rotate_left
              ·simp only [Act.put, sA, sB, sC, i64_w, i32_w]
               rfl
              refine pure_ (i := 9) (N := some 34) (v := ?_) (a' := ?_) #[X,X,X,X,X,X,X,Z,Z,X,Z,Z,Z,Z,Z,Z,Z] rfl rfl (any_of HT_.out (by kernel_rfl)) (fun _ _ _ h => h) (Or.inl ⟨by rfl, ?_⟩) ?_ ?_
              rotate_left
              ·intro w'
               go_simp
               with_reducible rfl
              rotate_left
              ·simp only [Act.put, sA, sB, sC, i64_w, i32_w]
               rfl
              refine pure_ (i := 10) (N := some 35) (v := ?_) (a' := ?_) #[X,X,X,X,X,X,X,Z,Z,X,X,Z,Z,Z,Z,Z,Z] rfl rfl (any_of HT_.out (by kernel_rfl)) (fun _ _ _ h => h) (Or.inl ⟨by rfl, ?_⟩) ?_ ?_
              rotate_left
              ·intro w'
               go_simp
               with_reducible rfl
              rotate_left
              ·simp only [Act.put, sA, sB, sC, i64_w, i32_w]
               rfl
              refine pure_ (i := 11) (N := some 36) (v := ?_) (a' := ?_) #[X,X,X,X,X,X,X,Z,Z,X,X,X,Z,Z,Z,Z,Z] rfl rfl (any_of HT_.out (by kernel_rfl)) (fun _ _ _ h => h) (Or.inl ⟨by rfl, ?_⟩) ?_ ?_
              rotate_left
              ·intro w'
               go_simp
               with_reducible rfl
              rotate_left
              ·simp only [Act.put, sA, sB, sC, i64_w, i32_w]
               rfl
              refine pure_ (i := 12) (N := some 37) (v := ?_) (a' := ?_) #[X,X,X,X,X,X,X,Z,Z,X,X,X,X,Z,Z,Z,Z] rfl rfl (any_of HT_.out (by kernel_rfl)) (fun _ _ _ h => h) (Or.inl ⟨by rfl, ?_⟩) ?_ ?_
              rotate_left
              ·intro w'
               go_simp
               with_reducible rfl
              rotate_left
              ·simp only [Act.put, sA, sB, sC, i64_w, i32_w]
               rfl
              refine pure_ (i := 13) (N := some 38) (v := ?_) (a' := ?_) #[X,X,X,X,X,X,X,Z,Z,X,X,X,X,X,Z,Z,Z] rfl rfl (any_of HT_.out (by kernel_rfl)) (fun _ _ _ h => h) (Or.inl ⟨by rfl, ?_⟩) ?_ ?_
              rotate_left
              ·intro w'
               go_simp
               with_reducible rfl
              rotate_left
              ·simp only [Act.put, sA, sB, sC, i64_w, i32_w]
               rfl
              refine take_ (i := 7) (N := some 32) (v := ?_) (a' := ?_) #[X,X,X,X,X,X,X,X,Z,X,X,X,X,X,Z,Z,Z] rfl rfl (take_ofW HT_.out HW_.out (by kernel_rfl)) (fun _ _ _ h => h) (Or.inl ⟨by rfl, ?_⟩) hHeld ?_ ?_
              rotate_left
              ·rintro w' ⟨s0, s1, s2, s3, s4, s5, s6, s7, s8, s9, s10, s11⟩
               go_simp
               with_reducible rfl
              rotate_left
              ·simp only [Act.put, sA, sB, sC, i64_w, i32_w]
               rfl
              refine pure_ (i := 8) (N := some 33) (v := ?_) (a' := ?_) #[X,X,X,X,X,X,X,X,X,X,X,X,X,X,Z,Z,Z] rfl rfl (any_of HT_.out (by kernel_rfl)) (fun _ _ _ h => h) (Or.inl ⟨by rfl, ?_⟩) ?_ ?_
              rotate_left
              ·intro w'
               go_simp
               with_reducible rfl
              rotate_left
              ·simp only [Act.put, sA, sB, sC, i64_w, i32_w]
               rfl
              refine take_ (i := 14) (N := some 39) (v := ?_) (a' := ?_) #[X,X,X,X,X,X,X,X,X,X,X,X,X,X,X,Z,Z] rfl rfl (take_ofW HT_.out HW_.out (by kernel_rfl)) (fun _ _ _ h => h) (Or.inl ⟨by rfl, ?_⟩) hHeld ?_ ?_
              rotate_left
              ·rintro w' ⟨s0, s1, s2, s3, s4, s5, s6, s7, s8, s9, s10, s11⟩
               go_simp
               with_reducible rfl
              rotate_left
              ·simp only [Act.put, sA, sB, sC, i64_w, i32_w]
               rfl
              refine pure_ (i := 15) (N := some 40) (v := ?_) (a' := ?_) #[X,X,X,X,X,X,X,X,X,X,X,X,X,X,X,X,Z] rfl rfl (any_of HT_.out (by kernel_rfl)) (fun _ _ _ h => h) (Or.inl ⟨by rfl, ?_⟩) ?_ ?_
              rotate_left
              ·intro w'
               go_simp
               with_reducible rfl
              rotate_left
              ·simp only [Act.put, sA, sB, sC, i64_w, i32_w]
               rfl
              refine pure_ (i := 16) (N := some 41) (v := ?_) (a' := ?_) #[X,X,X,X,X,X,X,X,X,X,X,X,X,X,X,X,X] rfl rfl (any_of HT_.out (by kernel_rfl)) (fun _ _ _ h => h) (Or.inl ⟨by rfl, ?_⟩) ?_ ?_
              rotate_left
              ·intro w'
               go_simp
               with_reducible rfl
              rotate_left
              ·simp only [Act.put, sA, sB, sC, i64_w, i32_w]
               rfl
              refine done_ (done_of HT_.out (by kernel_rfl)) ?_
              try go_wp2
              go_meet
              case rel => exact ⟨_, (((wrap64 (((rd_T41 l0 x4_1).f0) - 1)) != ((rd_T41 l0 (ji13)).f0))), (by first | rfl | (simp; done) | (simp only [← hji13] <;> (first | rfl | simp)) | (simp [*]; done)), H', ⟨by have := HK1.out; have := HJ3.out; first | omega | exact Nat.le_refl _⟩, ⟨by repeat (first | (with_reducible first | exact HB.out | apply below_alloc | apply pw_below_drewN | apply below_drew1) | exact HB.out)⟩⟩
             ·rw [if_neg c15] at H
              exact absurd H (by simp)
            ·rw [if_neg c14] at H
             exact absurd H (by simp)
           ·rw [if_neg c12] at H
            exact absurd H (by simp)
          ·rw [if_neg c11] at H
           exact absurd H (by simp)
         ·rw [if_neg c10] at H
          have c10b0 : decide (0 < x4_1) = false := decide_eq_false c10
          clear c10
          (first | rw [c10b0] | (simp only [i64_w, i32_w]; rw [c10b0]) | skip)
          have H' := Aside0.mk H
          clear H
          try go_wp2
          have n0_ := Aside0.mk (below_drew1 HB.out)
          clear HB
          have HB := n0_
          clear n0_
          refine start_ (n := 17) (S := fun w' => True) (ds := []) #[Z,Z,Z,Z,Z,Z,Z,Z,Z,Z,Z,Z,Z,Z,Z,Z,Z] (by kernel_rfl) rfl rfl trivial (fun hHeld => ?_); refine with_tabW tipstaffref43_Check.tab8 tipstaffref43_Check.bits8 (fun HT_ HW_ => ?_)
          generalize wc.drew = w17 at HB hHeld ⊢
          refine pure_ (i := 0) (N := some 25) (v := ?_) (a' := ?_) #[X,Z,Z,Z,Z,Z,Z,Z,Z,Z,Z,Z,Z,Z,Z,Z,Z] rfl rfl (any_of HT_.out (by kernel_rfl)) (fun _ _ _ h => h) (Or.inl ⟨by rfl, ?_⟩) ?_ ?_
          rotate_left
          ·intro w'
           go_simp
           with_reducible rfl
          rotate_left
          ·simp only [Act.put, sA, sB, sC, i64_w, i32_w]
           rfl
          refine pure_ (i := 1) (N := some 26) (v := ?_) (a' := ?_) #[X,X,Z,Z,Z,Z,Z,Z,Z,Z,Z,Z,Z,Z,Z,Z,Z] rfl rfl (any_of HT_.out (by kernel_rfl)) (fun _ _ _ h => h) (Or.inl ⟨by rfl, ?_⟩) ?_ ?_
          rotate_left
          ·intro w'
           go_simp
           with_reducible rfl
          rotate_left
          ·simp only [Act.put, sA, sB, sC, i64_w, i32_w]
           rfl
          refine pure_ (i := 2) (N := some 27) (v := ?_) (a' := ?_) #[X,X,X,Z,Z,Z,Z,Z,Z,Z,Z,Z,Z,Z,Z,Z,Z] rfl rfl (any_of HT_.out (by kernel_rfl)) (fun _ _ _ h => h) (Or.inl ⟨by rfl, ?_⟩) ?_ ?_
          rotate_left
          ·intro w'
           go_simp
           with_reducible rfl
          rotate_left
          ·simp only [Act.put, sA, sB, sC, i64_w, i32_w]
           rfl
          refine pure_ (i := 3) (N := some 28) (v := undef) (a' := ?_) #[X,X,X,X,Z,Z,Z,Z,Z,Z,Z,Z,Z,Z,Z,Z,Z] rfl rfl (any_of HT_.out (by kernel_rfl)) (fun _ _ _ h => h) (Or.inr ⟨by rfl, rfl⟩) ?_ ?_
          rotate_left
          ·simp only [Act.put, sA, sB, sC, i64_w, i32_w]
           rfl
          refine pure_ (i := 4) (N := some 29) (v := undef) (a' := ?_) #[X,X,X,X,X,Z,Z,Z,Z,Z,Z,Z,Z,Z,Z,Z,Z] rfl rfl (any_of HT_.out (by kernel_rfl)) (fun _ _ _ h => h) (Or.inr ⟨by rfl, rfl⟩) ?_ ?_
          rotate_left
          ·simp only [Act.put, sA, sB, sC, i64_w, i32_w]
           rfl
          refine pure_ (i := 5) (N := some 30) (v := undef) (a' := ?_) #[X,X,X,X,X,X,Z,Z,Z,Z,Z,Z,Z,Z,Z,Z,Z] rfl rfl (any_of HT_.out (by kernel_rfl)) (fun _ _ _ h => h) (Or.inr ⟨by rfl, rfl⟩) ?_ ?_
          rotate_left
          ·simp only [Act.put, sA, sB, sC, i64_w, i32_w]
           rfl
          refine pure_ (i := 6) (N := some 31) (v := undef) (a' := ?_) #[X,X,X,X,X,X,X,Z,Z,Z,Z,Z,Z,Z,Z,Z,Z] rfl rfl (any_of HT_.out (by kernel_rfl)) (fun _ _ _ h => h) (Or.inr ⟨by rfl, rfl⟩) ?_ ?_
          rotate_left
          ·simp only [Act.put, sA, sB, sC, i64_w, i32_w]
           rfl
          refine pure_ (i := 7) (N := some 32) (v := undef) (a' := ?_) #[X,X,X,X,X,X,X,X,Z,Z,Z,Z,Z,Z,Z,Z,Z] rfl rfl (any_of HT_.out (by kernel_rfl)) (fun _ _ _ h => h) (Or.inr ⟨by rfl, rfl⟩) ?_ ?_
          rotate_left
          ·simp only [Act.put, sA, sB, sC, i64_w, i32_w]
           rfl
          refine pure_ (i := 8) (N := some 33) (v := undef) (a' := ?_) #[X,X,X,X,X,X,X,X,X,Z,Z,Z,Z,Z,Z,Z,Z] rfl rfl (any_of HT_.out (by kernel_rfl)) (fun _ _ _ h => h) (Or.inr ⟨by rfl, rfl⟩) ?_ ?_
          rotate_left
          ·simp only [Act.put, sA, sB, sC, i64_w, i32_w]
           rfl
          refine pure_ (i := 9) (N := some 34) (v := undef) (a' := ?_) #[X,X,X,X,X,X,X,X,X,X,Z,Z,Z,Z,Z,Z,Z] rfl rfl (any_of HT_.out (by kernel_rfl)) (fun _ _ _ h => h) (Or.inr ⟨by rfl, rfl⟩) ?_ ?_
          rotate_left
          ·simp only [Act.put, sA, sB, sC, i64_w, i32_w]
           rfl
          refine pure_ (i := 10) (N := some 35) (v := undef) (a' := ?_) #[X,X,X,X,X,X,X,X,X,X,X,Z,Z,Z,Z,Z,Z] rfl rfl (any_of HT_.out (by kernel_rfl)) (fun _ _ _ h => h) (Or.inr ⟨by rfl, rfl⟩) ?_ ?_
          rotate_left
          ·simp only [Act.put, sA, sB, sC, i64_w, i32_w]
           rfl
          refine pure_ (i := 11) (N := some 36) (v := undef) (a' := ?_) #[X,X,X,X,X,X,X,X,X,X,X,X,Z,Z,Z,Z,Z] rfl rfl (any_of HT_.out (by kernel_rfl)) (fun _ _ _ h => h) (Or.inr ⟨by rfl, rfl⟩) ?_ ?_
          rotate_left
          ·simp only [Act.put, sA, sB, sC, i64_w, i32_w]
           rfl
          refine pure_ (i := 12) (N := some 37) (v := undef) (a' := ?_) #[X,X,X,X,X,X,X,X,X,X,X,X,X,Z,Z,Z,Z] rfl rfl (any_of HT_.out (by kernel_rfl)) (fun _ _ _ h => h) (Or.inr ⟨by rfl, rfl⟩) ?_ ?_
          rotate_left
          ·simp only [Act.put, sA, sB, sC, i64_w, i32_w]
           rfl
          refine pure_ (i := 13) (N := some 38) (v := undef) (a' := ?_) #[X,X,X,X,X,X,X,X,X,X,X,X,X,X,Z,Z,Z] rfl rfl (any_of HT_.out (by kernel_rfl)) (fun _ _ _ h => h) (Or.inr ⟨by rfl, rfl⟩) ?_ ?_
          rotate_left
          ·simp only [Act.put, sA, sB, sC, i64_w, i32_w]
           rfl
          refine pure_ (i := 14) (N := some 39) (v := undef) (a' := ?_) #[X,X,X,X,X,X,X,X,X,X,X,X,X,X,X,Z,Z] rfl rfl (any_of HT_.out (by kernel_rfl)) (fun _ _ _ h => h) (Or.inr ⟨by rfl, rfl⟩) ?_ ?_
          rotate_left
          ·simp only [Act.put, sA, sB, sC, i64_w, i32_w]
           rfl
          refine pure_ (i := 15) (N := some 40) (v := undef) (a' := ?_) #[X,X,X,X,X,X,X,X,X,X,X,X,X,X,X,X,Z] rfl rfl (any_of HT_.out (by kernel_rfl)) (fun _ _ _ h => h) (Or.inr ⟨by rfl, rfl⟩) ?_ ?_
          rotate_left
          ·simp only [Act.put, sA, sB, sC, i64_w, i32_w]
           rfl
          refine pure_ (i := 16) (N := some 41) (v := ?_) (a' := ?_) #[X,X,X,X,X,X,X,X,X,X,X,X,X,X,X,X,X] rfl rfl (any_of HT_.out (by kernel_rfl)) (fun _ _ _ h => h) (Or.inl ⟨by rfl, ?_⟩) ?_ ?_
          rotate_left
          ·intro w'
           go_simp
           with_reducible rfl
          rotate_left
          ·simp only [Act.put, sA, sB, sC, i64_w, i32_w]
           rfl
          refine done_ (done_of HT_.out (by kernel_rfl)) ?_
          try go_wp2
          go_meet
          case rel => exact ⟨_, (false), (by first | rfl | (simp; done) | (simp [*]; done)), H', ⟨by have := HK1.out; have := HJ3.out; first | omega | exact Nat.le_refl _⟩, ⟨by repeat (first | (with_reducible first | exact HB.out | apply below_alloc | apply pw_below_drewN | apply below_drew1) | exact HB.out)⟩⟩
        case rest =>
         clear HC9
         try clear c1
         try clear c2
         try clear c2b0
         try clear c2b1
         try clear p2
         try clear q2
         try clear hx2
         try clear qi2
         try clear c3
         try clear c3b0
         try clear c5
         try clear c5b0
         try clear c5b1
         try clear c6
         try clear c6b0
         try clear c6b1
         try clear p6
         try clear c8
         try clear c10
         try clear c10b0
         try clear c11
         try clear c11b0
         try clear c12
         try clear c12b0
         try clear c14
         try clear c14b0
         try clear c15
         try clear c15b0
         try clear hx201_0
         try clear hx201_1
         try clear hx201_2
         try clear hx201_3
         try clear hx201_4
         try clear hx201_5
         try clear hx203_0
         try clear hx203_1
         try clear hx203_2
         try clear hx203_3
         try clear hx203_4
         try clear hx203_5
         try clear hx204_0
         try clear hx204_1
         try clear hx204_2
         try clear hx204_3
         try clear hx204_4
         try clear hx204_5
         try clear p2
         try clear p201
         try clear p203
         try clear p204
         try clear q2
         try clear q201
         try clear q203
         try clear q204
         obtain ⟨kq, x41_8, rfl, HA, HJ8, HB⟩ := hcut
         cases kq with
         | zero => exact absurd HA.out (by simp [tipstaffref43_Check.j2])
         | succ kj8 =>
          have H := HA.out
          clear HA
          simp only [tipstaffref43_Check.j2] at H
          by_cases c18 : x41_8 = true
          ·subst c18
           have H1 : (some (8, x4_1)) = some (r1, r2) := by rw [if_pos rfl] at H; exact H
           clear H
           have H := H1
           clear H1
           simp only [Option.some.injEq, Prod.mk.injEq] at H
           obtain ⟨rfl, rfl⟩ := H
           go_wp2
           go_ret2
           exact ⟨by first | rfl | (simp [errW_none, errW_some] <;> rfl) | (simp [*, errW_none, errW_some] <;> rfl) | (simp (discharger := omega) only [Int.tdiv_eq_ediv_of_nonneg, Int.tmod_eq_emod_of_nonneg] <;> rfl), by repeat (first | (with_reducible first | exact HB.out | apply below_alloc | apply pw_below_drewN | apply below_drew1) | exact HB.out)⟩
          ·replace c18 := Bool.eq_false_iff.mpr c18
           subst c18
           have H1 := H
           rw [if_neg (show ¬ (false = true) by decide)] at H1
           clear H
           have H := H1
           clear H1
           by_cases c19 : 0 ≤ x4_1
           ·rw [if_pos c19] at H
            have c19b0 : decide (0 ≤ x4_1) = true := decide_eq_true c19
            clear c19
            by_cases c20 : x4_1 < (l0.length : Int)
            ·rw [if_pos c20] at H
             have c20b0 : decide (x4_1 < (l0.length : Int)) = true := decide_eq_true c20
             clear c20
             by_cases c21 : 0 < (l0.length : Int)
             ·rw [if_pos c21] at H
              have c21b0 : decide (0 < (l0.length : Int)) = true := decide_eq_true c21
              have c21b1 : decide (0 < l0.length) = true := decide_eq_true (by omega)
              clear c21
              replace H := Option.bind_eq_some_iff.mp H
              obtain ⟨t207, A220, H⟩ := H
              replace H : (if t207 = 0 then (tipstaffref43_Check.l0 kj8 l0 (wrap64 (x4_1 + 1))) else (some (t207, x4_1))) = some (r1, r2) := H
              have A22 := Aside0.mk A220
              clear A220
              by_cases c23 : t207 = 0
              ·rw [if_pos c23] at H
               have c23b0 : (t207 == 0) = true := beq_iff_eq.mpr c23
               have c23b1 : (t207 != 0) = false := bne_eq_false_iff_eq.mpr c23
               clear c23
               have H' := Aside0.mk H
               clear H
               try go_wp2
               have n0_ := Aside0.mk (below_drew1 HB.out)
               clear HB
               have HB := n0_
               clear n0_
               have p205 : 0 ≤ (x4_1 : Int) := of_decide_eq_true (by first | (with_reducible assumption) | assumption)
               have q205 : x4_1 < (l0.length : Int) := of_decide_eq_true (by first | (with_reducible assumption) | assumption)
               obtain ⟨ad205, A205_1, c205_1, A205_2, c205_2, e205, hx205_0, hx205_1, hx205_2, hx205_3, hx205_4, hx205_5, hl205_1, hi205_1, hl205_2, hi205_2⟩ := at_T41 HR0.out x4_1 p205 q205
               have hw205_5 := hx205_5
               have hw205_4 := hx205_4
               have hw205_3 := hx205_3
               have hw205_2 := hx205_2
               have hw205_1 := hx205_1
               have hw205_0 := hx205_0
               cases e205
               replace hx205_0 := (HB.out.cell (World.block_lt_of_cell? w _ hx205_0)).trans hx205_0
               replace hx205_1 := (HB.out.cell (World.block_lt_of_cell? w _ hx205_1)).trans hx205_1
               replace hx205_2 := (HB.out.cell (World.block_lt_of_cell? w _ hx205_2)).trans hx205_2
               replace hx205_3 := (HB.out.cell (World.block_lt_of_cell? w _ hx205_3)).trans hx205_3
               replace hx205_4 := (HB.out.cell (World.block_lt_of_cell? w _ hx205_4)).trans hx205_4
               replace hx205_5 := (HB.out.cell (World.block_lt_of_cell? w _ hx205_5)).trans hx205_5
               have HR205_1 := Aside0.mk hi205_1
               have HC205_1 := Aside0.mk hl205_1
               clear hi205_1 hl205_1
               have HR205_2 := Aside0.mk hi205_2
               have HC205_2 := Aside0.mk hl205_2
               clear hi205_2 hl205_2
               replace p205 := eq_true p205
               replace q205 := eq_true q205
               have p206 : 0 ≤ (0 : Int) := (by omega)
               have q206 : 0 < (l0.length : Int) := of_decide_eq_true (by first | (with_reducible assumption) | assumption)
               obtain ⟨ad206, A206_1, c206_1, A206_2, c206_2, e206, hx206_0, hx206_1, hx206_2, hx206_3, hx206_4, hx206_5, hl206_1, hi206_1, hl206_2, hi206_2⟩ := at_T41 HR0.out 0 p206 q206
               have hw206_5 := hx206_5
               (try rw [show ((0 : Int)).toNat = 0 from rfl] at hw206_5)
               (try rw [show 0 * 6 = 0 from rfl] at hw206_5)
               (try rw [Addr.add_zero'] at hw206_5)
               have hw206_4 := hx206_4
               (try rw [show ((0 : Int)).toNat = 0 from rfl] at hw206_4)
               (try rw [show 0 * 6 = 0 from rfl] at hw206_4)
               (try rw [Addr.add_zero'] at hw206_4)
               have hw206_3 := hx206_3
               (try rw [show ((0 : Int)).toNat = 0 from rfl] at hw206_3)
               (try rw [show 0 * 6 = 0 from rfl] at hw206_3)
               (try rw [Addr.add_zero'] at hw206_3)
               have hw206_2 := hx206_2
               (try rw [show ((0 : Int)).toNat = 0 from rfl] at hw206_2)
               (try rw [show 0 * 6 = 0 from rfl] at hw206_2)
               (try rw [Addr.add_zero'] at hw206_2)
               have hw206_1 := hx206_1
               (try rw [show ((0 : Int)).toNat = 0 from rfl] at hw206_1)
               (try rw [show 0 * 6 = 0 from rfl] at hw206_1)
               (try rw [Addr.add_zero'] at hw206_1)
               have hw206_0 := hx206_0
               (try rw [show ((0 : Int)).toNat = 0 from rfl] at hw206_0)
               (try rw [show 0 * 6 = 0 from rfl] at hw206_0)
               (try rw [Addr.add_zero'] at hw206_0)
               obtain rfl : ad205 = ad206 := (by injection e206)
               have qi206 : (0 < l0.length) = True := eq_true (by omega)
               (try rw [show ((0 : Int)).toNat = 0 from rfl] at hx206_0)
               (try rw [show 0 * 6 = 0 from rfl] at hx206_0)
               (try rw [Addr.add_zero'] at hx206_0)
               (try rw [show ((0 : Int)).toNat = 0 from rfl] at hx206_1)
               (try rw [show 0 * 6 = 0 from rfl] at hx206_1)
               (try rw [Addr.add_zero'] at hx206_1)
               (try rw [show ((0 : Int)).toNat = 0 from rfl] at hx206_2)
               (try rw [show 0 * 6 = 0 from rfl] at hx206_2)
               (try rw [Addr.add_zero'] at hx206_2)
               (try rw [show ((0 : Int)).toNat = 0 from rfl] at hx206_3)
               (try rw [show 0 * 6 = 0 from rfl] at hx206_3)
               (try rw [Addr.add_zero'] at hx206_3)
               (try rw [show ((0 : Int)).toNat = 0 from rfl] at hx206_4)
               (try rw [show 0 * 6 = 0 from rfl] at hx206_4)
               (try rw [Addr.add_zero'] at hx206_4)
               (try rw [show ((0 : Int)).toNat = 0 from rfl] at hx206_5)
               (try rw [show 0 * 6 = 0 from rfl] at hx206_5)
               (try rw [Addr.add_zero'] at hx206_5)
               replace hx206_0 := (HB.out.cell (World.block_lt_of_cell? w _ hx206_0)).trans hx206_0
               replace hx206_1 := (HB.out.cell (World.block_lt_of_cell? w _ hx206_1)).trans hx206_1
               replace hx206_2 := (HB.out.cell (World.block_lt_of_cell? w _ hx206_2)).trans hx206_2
               replace hx206_3 := (HB.out.cell (World.block_lt_of_cell? w _ hx206_3)).trans hx206_3
               replace hx206_4 := (HB.out.cell (World.block_lt_of_cell? w _ hx206_4)).trans hx206_4
               replace hx206_5 := (HB.out.cell (World.block_lt_of_cell? w _ hx206_5)).trans hx206_5
               have HR206_1 := Aside0.mk hi206_1
               have HC206_1 := Aside0.mk hl206_1
               clear hi206_1 hl206_1
               have HR206_2 := Aside0.mk hi206_2
               have HC206_2 := Aside0.mk hl206_2
               clear hi206_2 hl206_2
               replace p206 := eq_true p206
               replace q206 := eq_true q206
               refine start_ (n := 11) (S := fun w' => w'.cell? (ad205.add ((x4_1).toNat * 6)) = some (.int .i64 ((rd_T41 l0 x4_1).f0)) ∧ w'.cell? ⟨(ad205.add ((x4_1).toNat * 6)).block, (ad205.add ((x4_1).toNat * 6)).off + 1, none⟩ = some (.slice A205_1 ((rd_T41 l0 x4_1).f1).length c205_1) ∧ w'.cell? ⟨(ad205.add ((x4_1).toNat * 6)).block, (ad205.add ((x4_1).toNat * 6)).off + 2, none⟩ = some (.slice A205_2 ((rd_T41 l0 x4_1).f2).length c205_2) ∧ w'.cell? ⟨(ad205.add ((x4_1).toNat * 6)).block, (ad205.add ((x4_1).toNat * 6)).off + 3, none⟩ = some (.int .u64 ((rd_T41 l0 x4_1).f3)) ∧ w'.cell? ⟨(ad205.add ((x4_1).toNat * 6)).block, (ad205.add ((x4_1).toNat * 6)).off + 4, none⟩ = some (.int .u64 ((rd_T41 l0 x4_1).f4)) ∧ w'.cell? ⟨(ad205.add ((x4_1).toNat * 6)).block, (ad205.add ((x4_1).toNat * 6)).off + 5, none⟩ = some (.int .i64 ((rd_T41 l0 x4_1).f5)) ∧ w'.cell? ad205 = some (.int .i64 ((rd_T41 l0 0).f0)) ∧ w'.cell? ⟨ad205.block, ad205.off + 1, none⟩ = some (.slice A206_1 ((rd_T41 l0 0).f1).length c206_1) ∧ w'.cell? ⟨ad205.block, ad205.off + 2, none⟩ = some (.slice A206_2 ((rd_T41 l0 0).f2).length c206_2) ∧ w'.cell? ⟨ad205.block, ad205.off + 3, none⟩ = some (.int .u64 ((rd_T41 l0 0).f3)) ∧ w'.cell? ⟨ad205.block, ad205.off + 4, none⟩ = some (.int .u64 ((rd_T41 l0 0).f4)) ∧ w'.cell? ⟨ad205.block, ad205.off + 5, none⟩ = some (.int .i64 ((rd_T41 l0 0).f5))) (ds := []) #[Z,Z,Z,Z,Z,Z,Z,Z,Z,Z,Z] (by kernel_rfl) rfl rfl ⟨((HB.out.cell (World.block_lt_of_cell? w _ hw205_0)).trans hw205_0), ((HB.out.cell (World.block_lt_of_cell? w _ hw205_1)).trans hw205_1), ((HB.out.cell (World.block_lt_of_cell? w _ hw205_2)).trans hw205_2), ((HB.out.cell (World.block_lt_of_cell? w _ hw205_3)).trans hw205_3), ((HB.out.cell (World.block_lt_of_cell? w _ hw205_4)).trans hw205_4), ((HB.out.cell (World.block_lt_of_cell? w _ hw205_5)).trans hw205_5), ((HB.out.cell (World.block_lt_of_cell? w _ hw206_0)).trans hw206_0), ((HB.out.cell (World.block_lt_of_cell? w _ hw206_1)).trans hw206_1), ((HB.out.cell (World.block_lt_of_cell? w _ hw206_2)).trans hw206_2), ((HB.out.cell (World.block_lt_of_cell? w _ hw206_3)).trans hw206_3), ((HB.out.cell (World.block_lt_of_cell? w _ hw206_4)).trans hw206_4), ((HB.out.cell (World.block_lt_of_cell? w _ hw206_5)).trans hw206_5)⟩ (fun hHeld => ?_); refine with_tabW tipstaffref43_Check.tab10 tipstaffref43_Check.bits10 (fun HT_ HW_ => ?_)
               generalize wc.drew = w24 at HB HR205_1 HR205_2 HR206_1 HR206_2 hx205_0 hx205_1 hx205_2 hx205_3 hx205_4 hx205_5 hx206_0 hx206_1 hx206_2 hx206_3 hx206_4 hx206_5 hHeld ⊢
               refine pure_ (i := 0) (N := some 43) (v := ?_) (a' := ?_) #[X,Z,Z,Z,Z,Z,Z,Z,Z,Z,Z] rfl rfl (any_of HT_.out (by kernel_rfl)) (fun _ _ _ h => h) (Or.inl ⟨by rfl, ?_⟩) ?_ ?_
               rotate_left
               ·intro w'
                go_simp
                with_reducible rfl
               rotate_left
               ·simp only [Act.put, sA, sB, sC, i64_w, i32_w]
                rfl
               refine pure_ (i := 1) (N := some 44) (v := ?_) (a' := ?_) #[X,X,Z,Z,Z,Z,Z,Z,Z,Z,Z] rfl rfl (any_of HT_.out (by kernel_rfl)) (fun _ _ _ h => h) (Or.inl ⟨by rfl, ?_⟩) ?_ ?_
               rotate_left
               ·intro w'
                go_simp
                with_reducible rfl
               rotate_left
               ·simp only [Act.put, sA, sB, sC, i64_w, i32_w]
                rfl
               refine pure_ (i := 2) (N := some 45) (v := ?_) (a' := ?_) #[X,X,X,Z,Z,Z,Z,Z,Z,Z,Z] rfl rfl (any_of HT_.out (by kernel_rfl)) (fun _ _ _ h => h) (Or.inl ⟨by rfl, ?_⟩) ?_ ?_
               rotate_left
               ·intro w'
                go_simp
                with_reducible rfl
               rotate_left
               ·simp only [Act.put, sA, sB, sC, i64_w, i32_w]
                rfl
               refine pure_ (i := 4) (N := some 47) (v := ?_) (a' := ?_) #[X,X,X,Z,X,Z,Z,Z,Z,Z,Z] rfl rfl (any_of HT_.out (by kernel_rfl)) (fun _ _ _ h => h) (Or.inl ⟨by rfl, ?_⟩) ?_ ?_
               rotate_left
               ·intro w'
                go_simp
                with_reducible rfl
               rotate_left
               ·simp only [Act.put, sA, sB, sC, i64_w, i32_w]
                rfl
               refine pure_ (i := 5) (N := some 48) (v := ?_) (a' := ?_) #[X,X,X,Z,X,X,Z,Z,Z,Z,Z] rfl rfl (any_of HT_.out (by kernel_rfl)) (fun _ _ _ h => h) (Or.inl ⟨by rfl, ?_⟩) ?_ ?_
               rotate_left
               ·intro w'
                go_simp
                with_reducible rfl
               rotate_left
               ·simp only [Act.put, sA, sB, sC, i64_w, i32_w]
                rfl
               refine pure_ (i := 6) (N := some 49) (v := ?_) (a' := ?_) #[X,X,X,Z,X,X,X,Z,Z,Z,Z] rfl rfl (any_of HT_.out (by kernel_rfl)) (fun _ _ _ h => h) (Or.inl ⟨by rfl, ?_⟩) ?_ ?_
               rotate_left
               ·intro w'
                go_simp
                with_reducible rfl
               rotate_left
               ·simp only [Act.put, sA, sB, sC, i64_w, i32_w]
                rfl
               refine take_ (i := 3) (N := some 46) (v := ?_) (a' := ?_) #[X,X,X,X,X,X,X,Z,Z,Z,Z] rfl rfl (take_ofW HT_.out HW_.out (by kernel_rfl)) (fun _ _ _ h => h) (Or.inl ⟨by rfl, ?_⟩) hHeld ?_ ?_
               rotate_left
               ·rintro w' ⟨s0, s1, s2, s3, s4, s5, s6, s7, s8, s9, s10, s11⟩
                go_simp
                with_reducible rfl
               rotate_left
               ·simp only [Act.put, sA, sB, sC, i64_w, i32_w]
                rfl
               refine take_ (i := 7) (N := some 50) (v := ?_) (a' := ?_) #[X,X,X,X,X,X,X,X,Z,Z,Z] rfl rfl (take_ofW HT_.out HW_.out (by kernel_rfl)) (fun _ _ _ h => h) (Or.inl ⟨by rfl, ?_⟩) hHeld ?_ ?_
               rotate_left
               ·rintro w' ⟨s0, s1, s2, s3, s4, s5, s6, s7, s8, s9, s10, s11⟩
                go_simp
                with_reducible rfl
               rotate_left
               ·simp only [Act.put, sA, sB, sC, i64_w, i32_w]
                rfl
               refine pure_ (i := 8) (N := some 51) (v := ?_) (a' := ?_) #[X,X,X,X,X,X,X,X,X,Z,Z] rfl rfl (any_of HT_.out (by kernel_rfl)) (fun _ _ _ h => h) (Or.inl ⟨by rfl, ?_⟩) ?_ ?_
               rotate_left
               ·intro w'
                go_simp
                with_reducible rfl
               rotate_left
               ·simp only [Act.put, sA, sB, sC, i64_w, i32_w]
                rfl
               refine one_ (i := 9) (N := some 52) #[X,X,X,X,X,X,X,X,X,X,Z] rfl rfl (one_of HT_.out (by kernel_rfl)) (by decide) (fun K hK => ?_)
               refine goes_ Tryd.func43 (by kernel_rfl) rfl #[.agg #[.int .i64 ((rd_T41 l0 x4_1).f0), .slice A205_1 ((rd_T41 l0 x4_1).f1).length c205_1, .slice A205_2 ((rd_T41 l0 x4_1).f2).length c205_2, .int .u64 ((rd_T41 l0 x4_1).f3), .int .u64 ((rd_T41 l0 x4_1).f4), .int .i64 ((rd_T41 l0 x4_1).f5)], .int .i64 (((rd_T41 l0 0).f2).length : Int)] (by rfl) rfl rfl (by (try simp only [List.map_toArray, List.map_cons, List.map_nil]); first | done | rfl | (simp only [List.length_drop, List.length_take]; rfl)) ?_
               with_reducible refine (tipstaffref43_one.calls kj8 ((rd_T41 l0 x4_1).f0) _ _ ((rd_T41 l0 x4_1).f1) _ _ ((rd_T41 l0 x4_1).f2) ((rd_T41 l0 x4_1).f3) ((rd_T41 l0 x4_1).f4) ((rd_T41 l0 x4_1).f5) (((rd_T41 l0 0).f2).length : Int) t207 _ ?side1 ?side2 ?side3 ?side4 A22.out).mono ?_
               (case side1 => repeat (first | exact (Kd.C_below HR205_1.out HB.out) | (with_reducible refine Kd.C_alloc ?_ _) | (with_reducible refine Kd.C_drewN ?_ _) | (with_reducible refine Kd.C_drew ?_)))
               (case side2 => exact HC205_1.out)
               (case side3 => repeat (first | exact (Kd.C_below HR205_2.out HB.out) | (with_reducible refine Kd.C_alloc ?_ _) | (with_reducible refine Kd.C_drewN ?_ _) | (with_reducible refine Kd.C_drew ?_)))
               (case side4 => exact HC205_2.out)
               rintro e w25 ⟨rfl, hb⟩
               refine ⟨_, rfl, ?_⟩
               have n0_ := Aside0.mk (below_step (by repeat (first | (with_reducible first | exact HB.out | apply below_alloc | apply pw_below_drewN | apply below_drew1) | exact HB.out)) hb)
               clear HB
               have HB := n0_
               clear n0_
               (try clear hb)
               (try clear hb2)
               (try clear hk)
               (try clear hi)
               refine hK.out _ _ ⟨((HB.out.cell (World.block_lt_of_cell? w _ hw205_0)).trans hw205_0), ((HB.out.cell (World.block_lt_of_cell? w _ hw205_1)).trans hw205_1), ((HB.out.cell (World.block_lt_of_cell? w _ hw205_2)).trans hw205_2), ((HB.out.cell (World.block_lt_of_cell? w _ hw205_3)).trans hw205_3), ((HB.out.cell (World.block_lt_of_cell? w _ hw205_4)).trans hw205_4), ((HB.out.cell (World.block_lt_of_cell? w _ hw205_5)).trans hw205_5), ((HB.out.cell (World.block_lt_of_cell? w _ hw206_0)).trans hw206_0), ((HB.out.cell (World.block_lt_of_cell? w _ hw206_1)).trans hw206_1), ((HB.out.cell (World.block_lt_of_cell? w _ hw206_2)).trans hw206_2), ((HB.out.cell (World.block_lt_of_cell? w _ hw206_3)).trans hw206_3), ((HB.out.cell (World.block_lt_of_cell? w _ hw206_4)).trans hw206_4), ((HB.out.cell (World.block_lt_of_cell? w _ hw206_5)).trans hw206_5)⟩ (fun hHeld => ?_)
               clear hK K
               refine norm_ (a' := ?_) ?_ ?_
               rotate_left
               ·show Act.put _ (some 52) _ = _
                simp only [Act.put, sA, sB, sC, i64_w, i32_w]
                rfl
               refine pure_ (i := 10) (N := some 5) (v := ?_) (a' := ?_) #[X,X,X,X,X,X,X,X,X,X,X] rfl rfl (any_of HT_.out (by kernel_rfl)) (fun _ _ _ h => h) (Or.inl ⟨by rfl, ?_⟩) ?_ ?_
               rotate_left
               ·intro w'
                go_simp
                with_reducible rfl
               rotate_left
               ·simp only [Act.put, sA, sB, sC, i64_w, i32_w]
                rfl
               refine done_ (done_of HT_.out (by kernel_rfl)) ?_
               try go_wp2
               go_roundg kj8
               case measure => have := HK1.out; have := HJ3.out; have := HJ8.out; omega
               case rel => exact ⟨(wrap64 (x4_1 + 1)), (by first | rfl | (simp; done) | (simp [*]; done)), H', ⟨by have := HK1.out; have := HJ3.out; have := HJ8.out; omega⟩, ⟨by repeat (first | (with_reducible first | exact HB.out | apply below_alloc | apply pw_below_drewN | apply below_drew1) | exact HB.out)⟩⟩
              ·rw [if_neg c23] at H
               have c23b0 : (t207 == 0) = false := beq_eq_false_iff_ne.mpr c23
               have c23b1 : (t207 != 0) = true := bne_iff_ne.mpr c23
               simp only [Option.some.injEq, Prod.mk.injEq] at H
               obtain ⟨rfl, rfl⟩ := H
               try go_wp2
               have n0_ := Aside0.mk (below_drew1 HB.out)
               clear HB
               have HB := n0_
               clear n0_
               have p205 : 0 ≤ (x4_1 : Int) := of_decide_eq_true (by first | (with_reducible assumption) | assumption)
               have q205 : x4_1 < (l0.length : Int) := of_decide_eq_true (by first | (with_reducible assumption) | assumption)
               obtain ⟨ad205, A205_1, c205_1, A205_2, c205_2, e205, hx205_0, hx205_1, hx205_2, hx205_3, hx205_4, hx205_5, hl205_1, hi205_1, hl205_2, hi205_2⟩ := at_T41 HR0.out x4_1 p205 q205
               have hw205_5 := hx205_5
               have hw205_4 := hx205_4
               have hw205_3 := hx205_3
               have hw205_2 := hx205_2
               have hw205_1 := hx205_1
               have hw205_0 := hx205_0
               cases e205
               replace hx205_0 := (HB.out.cell (World.block_lt_of_cell? w _ hx205_0)).trans hx205_0
               replace hx205_1 := (HB.out.cell (World.block_lt_of_cell? w _ hx205_1)).trans hx205_1
               replace hx205_2 := (HB.out.cell (World.block_lt_of_cell? w _ hx205_2)).trans hx205_2
               replace hx205_3 := (HB.out.cell (World.block_lt_of_cell? w _ hx205_3)).trans hx205_3
               replace hx205_4 := (HB.out.cell (World.block_lt_of_cell? w _ hx205_4)).trans hx205_4
               replace hx205_5 := (HB.out.cell (World.block_lt_of_cell? w _ hx205_5)).trans hx205_5
               have HR205_1 := Aside0.mk hi205_1
               have HC205_1 := Aside0.mk hl205_1
               clear hi205_1 hl205_1
               have HR205_2 := Aside0.mk hi205_2
               have HC205_2 := Aside0.mk hl205_2
               clear hi205_2 hl205_2
               replace p205 := eq_true p205
               replace q205 := eq_true q205
               have p206 : 0 ≤ (0 : Int) := (by omega)
               have q206 : 0 < (l0.length : Int) := of_decide_eq_true (by first | (with_reducible assumption) | assumption)
               obtain ⟨ad206, A206_1, c206_1, A206_2, c206_2, e206, hx206_0, hx206_1, hx206_2, hx206_3, hx206_4, hx206_5, hl206_1, hi206_1, hl206_2, hi206_2⟩ := at_T41 HR0.out 0 p206 q206
               have hw206_5 := hx206_5
               (try rw [show ((0 : Int)).toNat = 0 from rfl] at hw206_5)
               (try rw [show 0 * 6 = 0 from rfl] at hw206_5)
               (try rw [Addr.add_zero'] at hw206_5)
               have hw206_4 := hx206_4
               (try rw [show ((0 : Int)).toNat = 0 from rfl] at hw206_4)
               (try rw [show 0 * 6 = 0 from rfl] at hw206_4)
               (try rw [Addr.add_zero'] at hw206_4)
               have hw206_3 := hx206_3
               (try rw [show ((0 : Int)).toNat = 0 from rfl] at hw206_3)
               (try rw [show 0 * 6 = 0 from rfl] at hw206_3)
               (try rw [Addr.add_zero'] at hw206_3)
               have hw206_2 := hx206_2
               (try rw [show ((0 : Int)).toNat = 0 from rfl] at hw206_2)
               (try rw [show 0 * 6 = 0 from rfl] at hw206_2)
               (try rw [Addr.add_zero'] at hw206_2)
               have hw206_1 := hx206_1
               (try rw [show ((0 : Int)).toNat = 0 from rfl] at hw206_1)
               (try rw [show 0 * 6 = 0 from rfl] at hw206_1)
               (try rw [Addr.add_zero'] at hw206_1)
               have hw206_0 := hx206_0
               (try rw [show ((0 : Int)).toNat = 0 from rfl] at hw206_0)
               (try rw [show 0 * 6 = 0 from rfl] at hw206_0)
               (try rw [Addr.add_zero'] at hw206_0)
               obtain rfl : ad205 = ad206 := (by injection e206)
               have qi206 : (0 < l0.length) = True := eq_true (by omega)
               (try rw [show ((0 : Int)).toNat = 0 from rfl] at hx206_0)
               (try rw [show 0 * 6 = 0 from rfl] at hx206_0)
               (try rw [Addr.add_zero'] at hx206_0)
               (try rw [show ((0 : Int)).toNat = 0 from rfl] at hx206_1)
               (try rw [show 0 * 6 = 0 from rfl] at hx206_1)
               (try rw [Addr.add_zero'] at hx206_1)
               (try rw [show ((0 : Int)).toNat = 0 from rfl] at hx206_2)
               (try rw [show 0 * 6 = 0 from rfl] at hx206_2)
               (try rw [Addr.add_zero'] at hx206_2)
               (try rw [show ((0 : Int)).toNat = 0 from rfl] at hx206_3)
               (try rw [show 0 * 6 = 0 from rfl] at hx206_3)
               (try rw [Addr.add_zero'] at hx206_3)
               (try rw [show ((0 : Int)).toNat = 0 from rfl] at hx206_4)
               (try rw [show 0 * 6 = 0 from rfl] at hx206_4)
               (try rw [Addr.add_zero'] at hx206_4)
               (try rw [show ((0 : Int)).toNat = 0 from rfl] at hx206_5)
               (try rw [show 0 * 6 = 0 from rfl] at hx206_5)
               (try rw [Addr.add_zero'] at hx206_5)
               replace hx206_0 := (HB.out.cell (World.block_lt_of_cell? w _ hx206_0)).trans hx206_0
               replace hx206_1 := (HB.out.cell (World.block_lt_of_cell? w _ hx206_1)).trans hx206_1
               replace hx206_2 := (HB.out.cell (World.block_lt_of_cell? w _ hx206_2)).trans hx206_2
               replace hx206_3 := (HB.out.cell (World.block_lt_of_cell? w _ hx206_3)).trans hx206_3
               replace hx206_4 := (HB.out.cell (World.block_lt_of_cell? w _ hx206_4)).trans hx206_4
               replace hx206_5 := (HB.out.cell (World.block_lt_of_cell? w _ hx206_5)).trans hx206_5
               have HR206_1 := Aside0.mk hi206_1
               have HC206_1 := Aside0.mk hl206_1
               clear hi206_1 hl206_1
               have HR206_2 := Aside0.mk hi206_2
               have HC206_2 := Aside0.mk hl206_2
               clear hi206_2 hl206_2
               replace p206 := eq_true p206
               replace q206 := eq_true q206
               refine start_ (n := 11) (S := fun w' => w'.cell? (ad205.add ((x4_1).toNat * 6)) = some (.int .i64 ((rd_T41 l0 x4_1).f0)) ∧ w'.cell? ⟨(ad205.add ((x4_1).toNat * 6)).block, (ad205.add ((x4_1).toNat * 6)).off + 1, none⟩ = some (.slice A205_1 ((rd_T41 l0 x4_1).f1).length c205_1) ∧ w'.cell? ⟨(ad205.add ((x4_1).toNat * 6)).block, (ad205.add ((x4_1).toNat * 6)).off + 2, none⟩ = some (.slice A205_2 ((rd_T41 l0 x4_1).f2).length c205_2) ∧ w'.cell? ⟨(ad205.add ((x4_1).toNat * 6)).block, (ad205.add ((x4_1).toNat * 6)).off + 3, none⟩ = some (.int .u64 ((rd_T41 l0 x4_1).f3)) ∧ w'.cell? ⟨(ad205.add ((x4_1).toNat * 6)).block, (ad205.add ((x4_1).toNat * 6)).off + 4, none⟩ = some (.int .u64 ((rd_T41 l0 x4_1).f4)) ∧ w'.cell? ⟨(ad205.add ((x4_1).toNat * 6)).block, (ad205.add ((x4_1).toNat * 6)).off + 5, none⟩ = some (.int .i64 ((rd_T41 l0 x4_1).f5)) ∧ w'.cell? ad205 = some (.int .i64 ((rd_T41 l0 0).f0)) ∧ w'.cell? ⟨ad205.block, ad205.off + 1, none⟩ = some (.slice A206_1 ((rd_T41 l0 0).f1).length c206_1) ∧ w'.cell? ⟨ad205.block, ad205.off + 2, none⟩ = some (.slice A206_2 ((rd_T41 l0 0).f2).length c206_2) ∧ w'.cell? ⟨ad205.block, ad205.off + 3, none⟩ = some (.int .u64 ((rd_T41 l0 0).f3)) ∧ w'.cell? ⟨ad205.block, ad205.off + 4, none⟩ = some (.int .u64 ((rd_T41 l0 0).f4)) ∧ w'.cell? ⟨ad205.block, ad205.off + 5, none⟩ = some (.int .i64 ((rd_T41 l0 0).f5))) (ds := []) #[Z,Z,Z,Z,Z,Z,Z,Z,Z,Z,Z] (by kernel_rfl) rfl rfl ⟨((HB.out.cell (World.block_lt_of_cell? w _ hw205_0)).trans hw205_0), ((HB.out.cell (World.block_lt_of_cell? w _ hw205_1)).trans hw205_1), ((HB.out.cell (World.block_lt_of_cell? w _ hw205_2)).trans hw205_2), ((HB.out.cell (World.block_lt_of_cell? w _ hw205_3)).trans hw205_3), ((HB.out.cell (World.block_lt_of_cell? w _ hw205_4)).trans hw205_4), ((HB.out.cell (World.block_lt_of_cell? w _ hw205_5)).trans hw205_5), ((HB.out.cell (World.block_lt_of_cell? w _ hw206_0)).trans hw206_0), ((HB.out.cell (World.block_lt_of_cell? w _ hw206_1)).trans hw206_1), ((HB.out.cell (World.block_lt_of_cell? w _ hw206_2)).trans hw206_2), ((HB.out.cell (World.block_lt_of_cell? w _ hw206_3)).trans hw206_3), ((HB.out.cell (World.block_lt_of_cell? w _ hw206_4)).trans hw206_4), ((HB.out.cell (World.block_lt_of_cell? w _ hw206_5)).trans hw206_5)⟩ (fun hHeld => ?_); refine with_tabW tipstaffref43_Check.tab10 tipstaffref43_Check.bits10 (fun HT_ HW_ => ?_)
               generalize wc.drew = w26 at HB HR205_1 HR205_2 HR206_1 HR206_2 hx205_0 hx205_1 hx205_2 hx205_3 hx205_4 hx205_5 hx206_0 hx206_1 hx206_2 hx206_3 hx206_4 hx206_5 hHeld ⊢
               refine pure_ (i := 0) (N := some 43) (v := ?_) (a' := ?_) #[X,Z,Z,Z,Z,Z,Z,Z,Z,Z,Z] rfl rfl (any_of HT_.out (by kernel_rfl)) (fun _ _ _ h => h) (Or.inl ⟨by rfl, ?_⟩) ?_ ?_
               rotate_left
               ·intro w'
                go_simp
                with_reducible rfl
               rotate_left
               ·simp only [Act.put, sA, sB, sC, i64_w, i32_w]
                rfl
               refine pure_ (i := 1) (N := some 44) (v := ?_) (a' := ?_) #[X,X,Z,Z,Z,Z,Z,Z,Z,Z,Z] rfl rfl (any_of HT_.out (by kernel_rfl)) (fun _ _ _ h => h) (Or.inl ⟨by rfl, ?_⟩) ?_ ?_
               rotate_left
               ·intro w'
                go_simp
                with_reducible rfl
               rotate_left
               ·simp only [Act.put, sA, sB, sC, i64_w, i32_w]
                rfl
               refine pure_ (i := 2) (N := some 45) (v := ?_) (a' := ?_) #[X,X,X,Z,Z,Z,Z,Z,Z,Z,Z] rfl rfl (any_of HT_.out (by kernel_rfl)) (fun _ _ _ h => h) (Or.inl ⟨by rfl, ?_⟩) ?_ ?_
               rotate_left
               ·intro w'
                go_simp
                with_reducible rfl
               rotate_left
               ·simp only [Act.put, sA, sB, sC, i64_w, i32_w]
                rfl
               refine pure_ (i := 4) (N := some 47) (v := ?_) (a' := ?_) #[X,X,X,Z,X,Z,Z,Z,Z,Z,Z] rfl rfl (any_of HT_.out (by kernel_rfl)) (fun _ _ _ h => h) (Or.inl ⟨by rfl, ?_⟩) ?_ ?_
               rotate_left
               ·intro w'
                go_simp
                with_reducible rfl
               rotate_left
               ·simp only [Act.put, sA, sB, sC, i64_w, i32_w]
                rfl
               refine pure_ (i := 5) (N := some 48) (v := ?_) (a' := ?_) #[X,X,X,Z,X,X,Z,Z,Z,Z,Z] rfl rfl (any_of HT_.out (by kernel_rfl)) (fun _ _ _ h => h) (Or.inl ⟨by rfl, ?_⟩) ?_ ?_
               rotate_left
               ·intro w'
                go_simp
                with_reducible rfl
               rotate_left
               ·simp only [Act.put, sA, sB, sC, i64_w, i32_w]
                rfl
               refine pure_ (i := 6) (N := some 49) (v := ?_) (a' := ?_) #[X,X,X,Z,X,X,X,Z,Z,Z,Z] rfl rfl (any_of HT_.out (by kernel_rfl)) (fun _ _ _ h => h) (Or.inl ⟨by rfl, ?_⟩) ?_ ?_
               rotate_left
               ·intro w'
                go_simp
                with_reducible rfl
               rotate_left
               ·simp only [Act.put, sA, sB, sC, i64_w, i32_w]
                rfl
               refine take_ (i := 3) (N := some 46) (v := ?_) (a' := ?_) #[X,X,X,X,X,X,X,Z,Z,Z,Z] rfl rfl (take_ofW HT_.out HW_.out (by kernel_rfl)) (fun _ _ _ h => h) (Or.inl ⟨by rfl, ?_⟩) hHeld ?_ ?_
               rotate_left
               ·rintro w' ⟨s0, s1, s2, s3, s4, s5, s6, s7, s8, s9, s10, s11⟩
                go_simp
                with_reducible rfl
               rotate_left
               ·simp only [Act.put, sA, sB, sC, i64_w, i32_w]
                rfl
               refine take_ (i := 7) (N := some 50) (v := ?_) (a' := ?_) #[X,X,X,X,X,X,X,X,Z,Z,Z] rfl rfl (take_ofW HT_.out HW_.out (by kernel_rfl)) (fun _ _ _ h => h) (Or.inl ⟨by rfl, ?_⟩) hHeld ?_ ?_
               rotate_left
               ·rintro w' ⟨s0, s1, s2, s3, s4, s5, s6, s7, s8, s9, s10, s11⟩
                go_simp
                with_reducible rfl
               rotate_left
               ·simp only [Act.put, sA, sB, sC, i64_w, i32_w]
                rfl
               refine pure_ (i := 8) (N := some 51) (v := ?_) (a' := ?_) #[X,X,X,X,X,X,X,X,X,Z,Z] rfl rfl (any_of HT_.out (by kernel_rfl)) (fun _ _ _ h => h) (Or.inl ⟨by rfl, ?_⟩) ?_ ?_
               rotate_left
               ·intro w'
                go_simp
                with_reducible rfl
               rotate_left
               ·simp only [Act.put, sA, sB, sC, i64_w, i32_w]
                rfl
               refine one_ (i := 9) (N := some 52) #[X,X,X,X,X,X,X,X,X,X,Z] rfl rfl (one_of HT_.out (by kernel_rfl)) (by decide) (fun K hK => ?_)
               refine goes_ Tryd.func43 (by kernel_rfl) rfl #[.agg #[.int .i64 ((rd_T41 l0 x4_1).f0), .slice A205_1 ((rd_T41 l0 x4_1).f1).length c205_1, .slice A205_2 ((rd_T41 l0 x4_1).f2).length c205_2, .int .u64 ((rd_T41 l0 x4_1).f3), .int .u64 ((rd_T41 l0 x4_1).f4), .int .i64 ((rd_T41 l0 x4_1).f5)], .int .i64 (((rd_T41 l0 0).f2).length : Int)] (by rfl) rfl rfl (by (try simp only [List.map_toArray, List.map_cons, List.map_nil]); first | done | rfl | (simp only [List.length_drop, List.length_take]; rfl)) ?_
               with_reducible refine (tipstaffref43_one.calls kj8 ((rd_T41 l0 x4_1).f0) _ _ ((rd_T41 l0 x4_1).f1) _ _ ((rd_T41 l0 x4_1).f2) ((rd_T41 l0 x4_1).f3) ((rd_T41 l0 x4_1).f4) ((rd_T41 l0 x4_1).f5) (((rd_T41 l0 0).f2).length : Int) t207 _ ?side1 ?side2 ?side3 ?side4 A22.out).mono ?_
               (case side1 => repeat (first | exact (Kd.C_below HR205_1.out HB.out) | (with_reducible refine Kd.C_alloc ?_ _) | (with_reducible refine Kd.C_drewN ?_ _) | (with_reducible refine Kd.C_drew ?_)))
               (case side2 => exact HC205_1.out)
               (case side3 => repeat (first | exact (Kd.C_below HR205_2.out HB.out) | (with_reducible refine Kd.C_alloc ?_ _) | (with_reducible refine Kd.C_drewN ?_ _) | (with_reducible refine Kd.C_drew ?_)))
               (case side4 => exact HC205_2.out)
               rintro e w27 ⟨rfl, hb⟩
               refine ⟨_, rfl, ?_⟩
               have n0_ := Aside0.mk (below_step (by repeat (first | (with_reducible first | exact HB.out | apply below_alloc | apply pw_below_drewN | apply below_drew1) | exact HB.out)) hb)
               clear HB
               have HB := n0_
               clear n0_
               (try clear hb)
               (try clear hb2)
               (try clear hk)
               (try clear hi)
               refine hK.out _ _ ⟨((HB.out.cell (World.block_lt_of_cell? w _ hw205_0)).trans hw205_0), ((HB.out.cell (World.block_lt_of_cell? w _ hw205_1)).trans hw205_1), ((HB.out.cell (World.block_lt_of_cell? w _ hw205_2)).trans hw205_2), ((HB.out.cell (World.block_lt_of_cell? w _ hw205_3)).trans hw205_3), ((HB.out.cell (World.block_lt_of_cell? w _ hw205_4)).trans hw205_4), ((HB.out.cell (World.block_lt_of_cell? w _ hw205_5)).trans hw205_5), ((HB.out.cell (World.block_lt_of_cell? w _ hw206_0)).trans hw206_0), ((HB.out.cell (World.block_lt_of_cell? w _ hw206_1)).trans hw206_1), ((HB.out.cell (World.block_lt_of_cell? w _ hw206_2)).trans hw206_2), ((HB.out.cell (World.block_lt_of_cell? w _ hw206_3)).trans hw206_3), ((HB.out.cell (World.block_lt_of_cell? w _ hw206_4)).trans hw206_4), ((HB.out.cell (World.block_lt_of_cell? w _ hw206_5)).trans hw206_5)⟩ (fun hHeld => ?_)
               clear hK K
               refine norm_ (a' := ?_) ?_ ?_
               rotate_left
               ·show Act.put _ (some 52) _ = _
                simp only [Act.put, sA, sB, sC, i64_w, i32_w]
                rfl
               refine pure_ (i := 10) (N := some 5) (v := ?_) (a' := ?_) #[X,X,X,X,X,X,X,X,X,X,X] rfl rfl (any_of HT_.out (by kernel_rfl)) (fun _ _ _ h => h) (Or.inl ⟨by rfl, ?_⟩) ?_ ?_
               rotate_left
               ·intro w'
                go_simp
                with_reducible rfl
               rotate_left
               ·simp only [Act.put, sA, sB, sC, i64_w, i32_w]
                rfl
               refine done_ (done_of HT_.out (by kernel_rfl)) ?_
               try go_wp2
               go_ret2
               exact ⟨by first | rfl | (simp [errW_none, errW_some] <;> rfl) | (simp [*, errW_none, errW_some] <;> rfl) | (simp (discharger := omega) only [Int.tdiv_eq_ediv_of_nonneg, Int.tmod_eq_emod_of_nonneg] <;> rfl), by repeat (first | (with_reducible first | exact HB.out | apply below_alloc | apply pw_below_drewN | apply below_drew1) | exact HB.out)⟩
             ·rw [if_neg c21] at H
              exact absurd H (by simp)
            ·rw [if_neg c20] at H
             exact absurd H (by simp)
           ·rw [if_neg c19] at H
            exact absurd H (by simp)
    ·rw [if_neg c3] at H
     have c3b0 : decide (x4_1 < (l0.length : Int)) = false := decide_eq_false c3
     clear c3
     simp only [Option.some.injEq, Prod.mk.injEq] at H
     obtain ⟨rfl, rfl⟩ := H
     go_wp2
     go_ret2
     exact ⟨by first | rfl | (simp [errW_none, errW_some] <;> rfl) | (simp [*, errW_none, errW_some] <;> rfl) | (simp (discharger := omega) only [Int.tdiv_eq_ediv_of_nonneg, Int.tmod_eq_emod_of_nonneg] <;> rfl), by repeat (first | (with_reducible first | exact HB.out | apply below_alloc | apply pw_below_drewN | apply below_drew1) | exact HB.out)⟩

end Go.Proofs.YtenlokaaloenmaaDoor.S
