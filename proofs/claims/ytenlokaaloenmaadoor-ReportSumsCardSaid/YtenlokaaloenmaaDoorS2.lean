-- PRINTED by print.py (a twelfth state) out of the translation. Not trusted: Lean checks it.
import Derived.Test.YtenlokaaloenmaaDoorM3
namespace Go.Proofs.YtenlokaaloenmaaDoor.S
open Go.RowKit Go.Proofs.YtenlokaaloenmaaDoorW.PrintWords Go.Proofs.YtenlokaaloenmaaDoorW.PrintLast Go.Proofs.YtenlokaaloenmaaDoorW.PrintMore
attribute [local go_sem] Go.Proofs.YtenlokaaloenmaaDoorW.PrintXtra.isSome_setCell max2_int min2_int max_two min_two max_three min_three max_four min_four   -- for this text's walks alone
set_option linter.unusedVariables false
set_option linter.unusedSimpArgs false

/-! ### tipstaffkit_Mod: function 10 -/
def tipstaffkit_Mod.f (a0 : Int) (a1 : Int) : Option (Int) := if a1 < 1 then (some 0) else (if a1 = 0 then (none) else (if (Int.tmod a0 a1) < 0 then (some (wrap64 ((Int.tmod a0 a1) + a1))) else (some (Int.tmod a0 a1))))
set_option maxHeartbeats 8000000 in
set_option maxRecDepth 100000 in
theorem tipstaffkit_Mod.calls (a0 : Int) (a1 : Int) (r : Int) (w : World) (h : tipstaffkit_Mod.f a0 a1 = some r) :
    Calls Tryd.prog 10 #[.int .i64 a0, .int .i64 a1] w fun e w' => e = .returned (.int .i64 r) ∧ Drawn0 w w' := by
  have H : (if a1 < 1 then (some 0) else (if a1 = 0 then (none) else (if (Int.tmod a0 a1) < 0 then (some (wrap64 ((Int.tmod a0 a1) + a1))) else (some (Int.tmod a0 a1))))) = some r := h
  clear h
  by_cases c3 : a1 < 1
  · rw [if_pos c3] at H
    have c3b0 : decide (a1 < 1) = true := decide_eq_true c3
    clear c3
    obtain rfl := Option.some.inj H
    go_enter Tryd.func10, Tryd.ntmps10
    go_wp2
    go_ret
    exact ⟨by first | rfl | (simp; done) | (simp [*]; done), by repeat (first | exact Drawn0.refl _ | apply Drawn0.step)⟩
  · rw [if_neg c3] at H
    have c3b0 : decide (a1 < 1) = false := decide_eq_false c3
    clear c3
    by_cases c4 : a1 = 0
    · rw [if_pos c4] at H
      exact absurd H (by simp)
    · rw [if_neg c4] at H
      have c4b0 : (a1 == 0) = false := beq_eq_false_iff_ne.mpr c4
      have c4b1 : (a1 != 0) = true := bne_iff_ne.mpr c4
      by_cases c5 : (Int.tmod a0 a1) < 0
      · rw [if_pos c5] at H
        have c5b0 : decide ((Int.tmod a0 a1) < 0) = true := decide_eq_true c5
        clear c5
        obtain rfl := Option.some.inj H
        go_enter Tryd.func10, Tryd.ntmps10
        go_wp2
        go_ret
        exact ⟨by first | rfl | (simp; done) | (simp [*]; done), by repeat (first | exact Drawn0.refl _ | apply Drawn0.step)⟩
      · rw [if_neg c5] at H
        have c5b0 : decide ((Int.tmod a0 a1) < 0) = false := decide_eq_false c5
        clear c5
        obtain rfl := Option.some.inj H
        go_enter Tryd.func10, Tryd.ntmps10
        go_wp2
        go_ret
        exact ⟨by first | rfl | (simp; done) | (simp [*]; done), by repeat (first | exact Drawn0.refl _ | apply Drawn0.step)⟩

/-! ### tipstafflaw43_made: function 9 -/
mutual
def tipstafflaw43_made.l0 : Nat → Int → Int → List Int → List (S41) → Int → Int → Int → Option ((List (S41)))
 | 0, _, _, _, _, _, _, _ => none
 | k + 1, x0, x1, x2, x7, x8, x9, x10 => if x10 < (x2.length : Int) then (tipstafflaw43_made.j1 k x0 x1 x2 x7 x8 x9 x10 (decide (x10 < 40))) else (tipstafflaw43_made.j1 k x0 x1 x2 x7 x8 x9 x10 false)
def tipstafflaw43_made.j1 : Nat → Int → Int → List Int → List (S41) → Int → Int → Int → Bool → Option ((List (S41)))
 | 0, _, _, _, _, _, _, _, _ => none
 | k + 1, x0, x1, x2, x7, x8, x9, x10, x28 => if x28 = true then (if 0 ≤ x10 then (if x10 < (x2.length : Int) then ((tipstaffkit_Mod.f (rd x2 x10) 1099511627776).bind fun t104 => (if (Int.tmod t104 3) = 0 then (if 0 ≤ (IntKind.u64.wrap (Int.tmod (wrap64 (Int.tdiv t104 3)) 5)) then (tipstafflaw43_made.j2 k x0 x1 x2 x7 (Go.bits .xor .u64 x8 (shl .u64 1 (IntKind.u64.wrap (Int.tmod (wrap64 (Int.tdiv t104 3)) 5)))) x9 x10 t104) else (none)) else (if (Int.tmod t104 3) = 1 then (if 0 ≤ (IntKind.u64.wrap (Int.tmod (wrap64 (Int.tdiv t104 3)) 5)) then (tipstafflaw43_made.j2 k x0 x1 x2 x7 x8 (Go.bits .xor .u64 x9 (shl .u64 1 (IntKind.u64.wrap (Int.tmod (wrap64 (Int.tdiv t104 3)) 5)))) x10 t104) else (none)) else (tipstafflaw43_made.j2 k x0 x1 x2 x7 x8 x9 x10 t104)))) else (none)) else (none)) else (some x7)
def tipstafflaw43_made.j2 : Nat → Int → Int → List Int → List (S41) → Int → Int → Int → Int → Option ((List (S41)))
 | 0, _, _, _, _, _, _, _, _ => none
 | k + 1, x0, x1, x2, x7, x8, x9, x10, x11 => tipstafflaw43_made.l1 k x0 x1 x2 x7 x8 x9 x10 x11 0 (wrap64 (x1 + x10)) ([] : List (S66)) x8 x9 (-1)
def tipstafflaw43_made.l1 : Nat → Int → Int → List Int → List (S41) → Int → Int → Int → Int → Int → Int → List (S66) → Int → Int → Int → Option ((List (S41)))
 | 0, _, _, _, _, _, _, _, _, _, _, _, _, _, _ => none
 | k + 1, x0, x1, x2, x7, x8, x9, x10, x11, x13, x106000, x106001, x106003, x106004, x106005 => if x13 < (Int.tmod (wrap64 (Int.tdiv x11 15)) 3) then (if x106001.length < 8796093022208 then (tipstafflaw43_made.l1 k x0 x1 x2 x7 x8 x9 x10 x11 (wrap64 (x13 + 1)) x106000 (x106001 ++ [(⟨x13, wrap64 (1 + (Int.tmod (wrap64 ((wrap64 (Int.tdiv x11 45)) + x13)) 6))⟩ : S66)]) x106003 x106004 x106005) else (none)) else (tipstafflaw43_made.l2 k x0 x1 x2 x7 x8 x9 x10 x11 0 x106000 x106001 ([] : List (S43)) x106003 x106004 x106005)
def tipstafflaw43_made.l2 : Nat → Int → Int → List Int → List (S41) → Int → Int → Int → Int → Int → Int → List (S66) → List (S43) → Int → Int → Int → Option ((List (S41)))
 | 0, _, _, _, _, _, _, _, _, _, _, _, _, _, _, _ => none
 | k + 1, x0, x1, x2, x7, x8, x9, x10, x11, x14, x106000, x106001, x106002, x106003, x106004, x106005 => if x14 < x0 then (if (Int.tmod (wrap64 ((wrap64 (Int.tdiv x11 270)) + (wrap64 (7 * x14)))) 4) = 0 then (if x106002.length < 5864062014805 then (tipstafflaw43_made.l2 k x0 x1 x2 x7 x8 x9 x10 x11 (wrap64 (x14 + 1)) x106000 x106001 (x106002 ++ [(⟨wrap64 ((Int.tmod (wrap64 ((wrap64 (Int.tdiv x11 270)) + (wrap64 (7 * x14)))) 4) - 1), Int.tmod (wrap64 (Int.tdiv (wrap64 ((wrap64 (Int.tdiv x11 270)) + (wrap64 (7 * x14)))) 4)) 3, ((Int.tmod (wrap64 (Int.tdiv (wrap64 ((wrap64 (Int.tdiv x11 270)) + (wrap64 (7 * x14)))) 12)) 2) == 0)⟩ : S43)]) x106003 x106004 x106005) else (none)) else (if x106002.length < 5864062014805 then (tipstafflaw43_made.l2 k x0 x1 x2 x7 x8 x9 x10 x11 (wrap64 (x14 + 1)) x106000 x106001 (x106002 ++ [(⟨wrap64 ((Int.tmod (wrap64 ((wrap64 (Int.tdiv x11 270)) + (wrap64 (7 * x14)))) 4) - 1), Int.tmod (wrap64 (Int.tdiv (wrap64 ((wrap64 (Int.tdiv x11 270)) + (wrap64 (7 * x14)))) 4)) 3, false⟩ : S43)]) x106003 x106004 x106005) else (none))) else (if x7.length < 1759218604441 then (tipstafflaw43_made.l0 k x0 x1 x2 (x7 ++ [(⟨x106000, x106001, x106002, x106003, x106004, x106005⟩ : S41)]) x8 x9 (wrap64 (x10 + 1))) else (none))
end
def tipstafflaw43_made.f (k : Nat) (a0 : Int) (a1 : Int) (l2 : List Int) : Option ((List (S41))) := (tipstaffkit_Mod.f a0 3).bind fun t101 => ((tipstaffkit_Mod.f a1 1000).bind fun t102 => (tipstafflaw43_made.l0 k (wrap64 (1 + t101)) t102 l2 ([] : List (S41)) 0 0 0))
set_option maxHeartbeats 8000000 in
set_option maxRecDepth 100000 in
theorem tipstafflaw43_made.calls (k : Nat) (a0 : Int) (a1 : Int) (A2 : Option Addr) (c2 : Nat) (l2 : List Int) (r : List (S41)) (w : World) (hr2 : Kd.C (Kd.int .i64) w A2 l2.length l2) (hc2 : l2.length ≤ c2) (h : tipstafflaw43_made.f k a0 a1 l2 = some r) :
  Calls Tryd.prog 9 #[.int .i64 a0, .int .i64 a1, .slice A2 l2.length c2] w fun e w' => ∃ v0_ : Value, e = .returned (v0_) ∧ Kd.S k41 41 w' w.heap.size (fun _ => True) v0_ r ∧ Below w.heap.size w w' := by
 have hu41 := Tryd.underlying41
 have hu66 := Tryd.underlying66
 have hu43 := Tryd.underlying43
 have HR2 := Aside0.mk hr2
 have HC2 := Aside0.mk hc2
 clear hr2 hc2
 have HB := Aside0.mk (Below.refl w.heap.size w)
 have H : ((tipstaffkit_Mod.f a0 3).bind fun t101 => ((tipstaffkit_Mod.f a1 1000).bind fun t102 => (tipstafflaw43_made.l0 k (wrap64 (1 + t101)) t102 l2 ([] : List (S41)) 0 0 0))) = some r := h
 clear h
 replace H := Option.bind_eq_some_iff.mp H
 obtain ⟨t101, A40, H⟩ := H
 replace H : ((tipstaffkit_Mod.f a1 1000).bind fun t102 => (tipstafflaw43_made.l0 k (wrap64 (1 + t101)) t102 l2 ([] : List (S41)) 0 0 0)) = some r := H
 have A4 := Aside0.mk A40
 clear A40
 replace H := Option.bind_eq_some_iff.mp H
 obtain ⟨t102, A50, H⟩ := H
 replace H : (tipstafflaw43_made.l0 k (wrap64 (1 + t101)) t102 l2 ([] : List (S41)) 0 0 0) = some r := H
 have A5 := Aside0.mk A50
 clear A50
 have H' := Aside0.mk H
 clear H
 go_enter Tryd.func9, Tryd.ntmps9
 go_wp2_with (first | ((with_reducible refine gate_callee (f := 10) rfl ?_); refine goesL_ (some 17) rfl rfl Tryd.func10 (by kernel_rfl) rfl #[.int .i64 a0, .int .i64 3] rfl (by (try simp only [List.map_toArray, List.map_cons, List.map_nil]); first | done | rfl | (simp only [List.length_drop, List.length_take]; rfl)) ?_; (with_reducible refine (tipstaffkit_Mod.calls a0 3 t101 _ A4.out).mono ?_); rintro e w' ⟨rfl, ⟨nd, rfl⟩⟩; refine ⟨_, rfl, ?_⟩) | ((with_reducible refine gate_callee (f := 10) rfl ?_); refine goesL_ (some 20) rfl rfl Tryd.func10 (by kernel_rfl) rfl #[.int .i64 a1, .int .i64 1000] rfl (by (try simp only [List.map_toArray, List.map_cons, List.map_nil]); first | done | rfl | (simp only [List.length_drop, List.length_take]; rfl)) ?_; (with_reducible refine (tipstaffkit_Mod.calls a1 1000 t102 _ A5.out).mono ?_); rintro e w' ⟨rfl, ⟨nd, rfl⟩⟩; refine ⟨_, rfl, ?_⟩))
 go_loopg [7, 8, 9, 10] k (fun kq v7 v8 v9 v10 w' => ∃ (x7_1 : List (S41)) (x8_1 : Int) (x9_1 : Int) (x10_1 : Int), v8 = .int .u64 x8_1 ∧ v9 = .int .u64 x9_1 ∧ v10 = .int .i64 x10_1 ∧ Aside0 (tipstafflaw43_made.l0 kq (wrap64 (1 + t101)) t102 l2 x7_1 x8_1 x9_1 x10_1 = some r) ∧ Aside0 (kq ≤ k) ∧ Aside0 (Kd.S k41 41 w' w.heap.size (fun _ => True) v7 x7_1) ∧ Aside0 (Below w.heap.size w w'))
 case atStart => exact ⟨(([] : List (S41))), (0), (0), (0), (by first | rfl | (simp; done) | (simp [*]; done)), (by first | rfl | (simp; done) | (simp [*]; done)), (by first | rfl | (simp; done) | (simp [*]; done)), H', ⟨Nat.le_refl _⟩, ⟨by first | exact Kd.S_nil _ _ _ _ _ | exact Kd.N_nil _ _ _ _ _ | exact Kd.V_nil _ _ _ _ _ | exact Kd.Q_nil _ _ _ _ _ | exact Kd.R_nil _ _ _ _ _⟩, ⟨by repeat (first | (with_reducible first | exact HB.out | apply below_alloc | apply pw_below_drewN | apply below_drew1) | exact HB.out)⟩⟩
 case round =>
  clear H'
  try clear c1
  try clear c2
  try clear p2
  obtain ⟨x7_1, x8_1, x9_1, x10_1, rfl, rfl, rfl, HA, HK1, HO_7, HB⟩ := hrel
  cases gk with
  | zero => exact absurd HA.out (by simp [tipstafflaw43_made.l0])
  | succ k1 =>
   have H := HA.out
   clear HA
   simp only [tipstafflaw43_made.l0] at H
   have HC6 := Aside0.mk H
   clear H
   go_upto_region 6 with (fail)
   go_cut [28] (fun v28 wc => ∃ (kq : Nat) (x28_5 : Bool), v28 = .bool x28_5 ∧ Aside0 (tipstafflaw43_made.j1 kq (wrap64 (1 + t101)) t102 l2 x7_1 x8_1 x9_1 x10_1 x28_5 = some r) ∧ Aside0 (kq ≤ k1) ∧ Aside0 (Kd.S k41 41 wc w.heap.size (fun _ => True) u7 x7_1) ∧ Aside0 (Below w.heap.size w wc))
   case first =>
    have H := HC6.out
    clear HC6
    by_cases c7 : x10_1 < (l2.length : Int)
    ·rw [if_pos c7] at H
     have c7b0 : decide (x10_1 < (l2.length : Int)) = true := decide_eq_true c7
     clear c7
     (first | rw [c7b0] | (simp only [i64_w, i32_w]; rw [c7b0]) | skip)
     have H' := Aside0.mk H
     clear H
     go_wp2
     go_meet
     case rel => exact ⟨_, (decide (x10_1 < 40)), (by first | rfl | (simp; done) | (simp [*]; done)), H', ⟨by have := HK1.out; first | omega | exact Nat.le_refl _⟩, ⟨by (with_reducible repeat (first | apply Kd.S_alloc | apply Kd.S_drewN | apply Kd.S_drew)); exact HO_7.out⟩, ⟨by repeat (first | (with_reducible first | exact HB.out | apply below_alloc | apply pw_below_drewN | apply below_drew1) | exact HB.out)⟩⟩
    ·rw [if_neg c7] at H
     have c7b0 : decide (x10_1 < (l2.length : Int)) = false := decide_eq_false c7
     clear c7
     (first | rw [c7b0] | (simp only [i64_w, i32_w]; rw [c7b0]) | skip)
     have H' := Aside0.mk H
     clear H
     go_wp2
     go_meet
     case rel => exact ⟨_, (false), (by first | rfl | (simp; done) | (simp [*]; done)), H', ⟨by have := HK1.out; first | omega | exact Nat.le_refl _⟩, ⟨by (with_reducible repeat (first | apply Kd.S_alloc | apply Kd.S_drewN | apply Kd.S_drew)); exact HO_7.out⟩, ⟨by repeat (first | (with_reducible first | exact HB.out | apply below_alloc | apply pw_below_drewN | apply below_drew1) | exact HB.out)⟩⟩
   case rest =>
    clear HC6
    try clear c1
    try clear c2
    try clear p2
    try clear p6
    try clear c7
    try clear c7b0
    try clear p2
    obtain ⟨kq, x28_5, rfl, HA, HJ5, HO_7, HB⟩ := hcut
    cases kq with
    | zero => exact absurd HA.out (by simp [tipstafflaw43_made.j1])
    | succ kj5 =>
     have H := HA.out
     clear HA
     simp only [tipstafflaw43_made.j1] at H
     by_cases c8 : x28_5 = true
     ·subst c8
      have H1 := H
      rw [if_pos rfl] at H1
      clear H
      have H := H1
      clear H1
      by_cases c9 : 0 ≤ x10_1
      ·rw [if_pos c9] at H
       have c9b0 : decide (0 ≤ x10_1) = true := decide_eq_true c9
       clear c9
       by_cases c10 : x10_1 < (l2.length : Int)
       ·rw [if_pos c10] at H
        have c10b0 : decide (x10_1 < (l2.length : Int)) = true := decide_eq_true c10
        clear c10
        replace H := Option.bind_eq_some_iff.mp H
        obtain ⟨t104, A110, H⟩ := H
        try dsimp only at H
        have A11 := Aside0.mk A110
        clear A110
        have HC12 := Aside0.mk H
        clear H
        have p103 : 0 ≤ (x10_1 : Int) := of_decide_eq_true (by first | (with_reducible assumption) | assumption)
        have q103 : x10_1 < (l2.length : Int) := of_decide_eq_true (by first | (with_reducible assumption) | assumption)
        obtain ⟨ad103, e103, hx103_0⟩ := Kd.at_int HR2.out x10_1 p103 q103
        cases e103
        replace hx103_0 := (HB.out.cell (World.block_lt_of_cell? w _ hx103_0)).trans hx103_0
        replace p103 := eq_true p103
        replace q103 := eq_true q103
        go_upto_block 2 with (first | ((with_reducible refine gate_callee (f := 10) rfl ?_); refine goesL_ (some 35) rfl rfl Tryd.func10 (by kernel_rfl) rfl #[.int .i64 (rd l2 x10_1), .int .i64 1099511627776] rfl (by (try simp only [List.map_toArray, List.map_cons, List.map_nil]); first | done | rfl | (simp only [List.length_drop, List.length_take]; rfl)) ?_; (with_reducible refine (tipstaffkit_Mod.calls (rd l2 x10_1) 1099511627776 t104 _ A11.out).mono ?_); rintro e w' ⟨rfl, ⟨nd, rfl⟩⟩; refine ⟨_, rfl, ?_⟩))
        (try simp only [Act.put, List.setIfInBounds_toArray, List.set_cons_zero, List.set_cons_succ])
        go_cut [8, 9] (fun v8 v9 wc => ∃ (kq : Nat) (x8_11 : Int) (x9_11 : Int), v8 = .int .u64 x8_11 ∧ v9 = .int .u64 x9_11 ∧ Aside0 (tipstafflaw43_made.j2 kq (wrap64 (1 + t101)) t102 l2 x7_1 x8_11 x9_11 x10_1 t104 = some r) ∧ Aside0 (kq ≤ kj5) ∧ Aside0 (Kd.S k41 41 wc w.heap.size (fun _ => True) u7 x7_1) ∧ Aside0 (Below w.heap.size w wc))
        case first =>
         have H := HC12.out
         clear HC12
         by_cases c13 : (Int.tmod t104 3) = 0
         ·rw [if_pos c13] at H
          have c13b0 : ((Int.tmod t104 3) == 0) = true := beq_iff_eq.mpr c13
          have c13b1 : ((Int.tmod t104 3) != 0) = false := bne_eq_false_iff_eq.mpr c13
          clear c13
          (first | rw [c13b0] | (simp only [i64_w, i32_w]; rw [c13b0]) | skip)
          obtain ⟨ji14, hji14⟩ : ∃ j_ : Int, (IntKind.u64.wrap (Int.tmod (wrap64 (Int.tdiv t104 3)) 5)) = j_ := ⟨_, rfl⟩
          replace H : (if 0 ≤ (ji14) then (tipstafflaw43_made.j2 kj5 (wrap64 (1 + t101)) t102 l2 x7_1 (Go.bits .xor .u64 x8_1 (shl .u64 1 (ji14))) x9_1 x10_1 t104) else (none)) = some r := by first | (rw [hji14] at H; exact H) | (simp only [hji14] at H ⊢; exact H)
          by_cases c15 : 0 ≤ (ji14)
          ·rw [if_pos c15] at H
           have c15b0 := eq_true c15
           have c15b1 : decide (0 ≤ (ji14)) = true := decide_eq_true c15
           clear c15
           obtain ⟨ji16, hji16⟩ : ∃ j_ : Int, (shl .u64 1 (ji14)) = j_ := ⟨_, rfl⟩
           replace H : (tipstafflaw43_made.j2 kj5 (wrap64 (1 + t101)) t102 l2 x7_1 (Go.bits .xor .u64 x8_1 (ji16)) x9_1 x10_1 t104) = some r := by first | (rw [hji16] at H; exact H) | (simp only [hji16] at H ⊢; exact H)
           have hji16_ : (IntKind.u64.wrap (1 * 2 ^ min (ji14).toNat 64)) = ji16 := hji16
           have hji16z : (ji14) ≤ 64 → (IntKind.u64.wrap (1 * 2 ^ (ji14).toNat)) = ji16 := shl_small hji16
           have hji16u : (IntKind.u64.wrap (2 ^ min (ji14).toNat 64)) = ji16 := by have h_ := hji16_; rw [Int.one_mul] at h_; exact h_
           have hji16v : (ji14) ≤ 64 → (IntKind.u64.wrap (2 ^ (ji14).toNat)) = ji16 := fun hle_ => by have h_ := hji16z hle_; rw [Int.one_mul] at h_; exact h_
           have H' := Aside0.mk H
           clear H
           go_wp2
           go_meet
           case rel => exact ⟨_, (Go.bits .xor .u64 x8_1 (ji16)), (x9_1), (by first | rfl | (simp; done) | (simp only [← hji16] <;> (first | rfl | simp)) | (simp [*]; done)), (by first | rfl | (simp; done) | (simp [*]; done)), H', ⟨by have := HK1.out; have := HJ5.out; first | omega | exact Nat.le_refl _⟩, ⟨by (with_reducible repeat (first | apply Kd.S_alloc | apply Kd.S_drewN | apply Kd.S_drew)); exact HO_7.out⟩, ⟨by repeat (first | (with_reducible first | exact HB.out | apply below_alloc | apply pw_below_drewN | apply below_drew1) | exact HB.out)⟩⟩
          ·rw [if_neg c15] at H
           exact absurd H (by simp)
         ·rw [if_neg c13] at H
          have c13b0 : ((Int.tmod t104 3) == 0) = false := beq_eq_false_iff_ne.mpr c13
          have c13b1 : ((Int.tmod t104 3) != 0) = true := bne_iff_ne.mpr c13
          (first | rw [c13b0] | (simp only [i64_w, i32_w]; rw [c13b0]) | skip)
          by_cases c17 : (Int.tmod t104 3) = 1
          ·rw [if_pos c17] at H
           have c17b0 : ((Int.tmod t104 3) == 1) = true := beq_iff_eq.mpr c17
           have c17b1 : ((Int.tmod t104 3) != 1) = false := bne_eq_false_iff_eq.mpr c17
           clear c17
           obtain ⟨ji18, hji18⟩ : ∃ j_ : Int, (IntKind.u64.wrap (Int.tmod (wrap64 (Int.tdiv t104 3)) 5)) = j_ := ⟨_, rfl⟩
           replace H : (if 0 ≤ (ji18) then (tipstafflaw43_made.j2 kj5 (wrap64 (1 + t101)) t102 l2 x7_1 x8_1 (Go.bits .xor .u64 x9_1 (shl .u64 1 (ji18))) x10_1 t104) else (none)) = some r := by first | (rw [hji18] at H; exact H) | (simp only [hji18] at H ⊢; exact H)
           by_cases c19 : 0 ≤ (ji18)
           ·rw [if_pos c19] at H
            have c19b0 := eq_true c19
            have c19b1 : decide (0 ≤ (ji18)) = true := decide_eq_true c19
            clear c19
            obtain ⟨ji20, hji20⟩ : ∃ j_ : Int, (shl .u64 1 (ji18)) = j_ := ⟨_, rfl⟩
            replace H : (tipstafflaw43_made.j2 kj5 (wrap64 (1 + t101)) t102 l2 x7_1 x8_1 (Go.bits .xor .u64 x9_1 (ji20)) x10_1 t104) = some r := by first | (rw [hji20] at H; exact H) | (simp only [hji20] at H ⊢; exact H)
            have hji20_ : (IntKind.u64.wrap (1 * 2 ^ min (ji18).toNat 64)) = ji20 := hji20
            have hji20z : (ji18) ≤ 64 → (IntKind.u64.wrap (1 * 2 ^ (ji18).toNat)) = ji20 := shl_small hji20
            have hji20u : (IntKind.u64.wrap (2 ^ min (ji18).toNat 64)) = ji20 := by have h_ := hji20_; rw [Int.one_mul] at h_; exact h_
            have hji20v : (ji18) ≤ 64 → (IntKind.u64.wrap (2 ^ (ji18).toNat)) = ji20 := fun hle_ => by have h_ := hji20z hle_; rw [Int.one_mul] at h_; exact h_
            have H' := Aside0.mk H
            clear H
            go_wp2
            go_meet
            case rel => exact ⟨_, (x8_1), (Go.bits .xor .u64 x9_1 (ji20)), (by first | rfl | (simp; done) | (simp [*]; done)), (by first | rfl | (simp; done) | (simp only [← hji20] <;> (first | rfl | simp)) | (simp [*]; done)), H', ⟨by have := HK1.out; have := HJ5.out; first | omega | exact Nat.le_refl _⟩, ⟨by (with_reducible repeat (first | apply Kd.S_alloc | apply Kd.S_drewN | apply Kd.S_drew)); exact HO_7.out⟩, ⟨by repeat (first | (with_reducible first | exact HB.out | apply below_alloc | apply pw_below_drewN | apply below_drew1) | exact HB.out)⟩⟩
           ·rw [if_neg c19] at H
            exact absurd H (by simp)
          ·rw [if_neg c17] at H
           have c17b0 : ((Int.tmod t104 3) == 1) = false := beq_eq_false_iff_ne.mpr c17
           have c17b1 : ((Int.tmod t104 3) != 1) = true := bne_iff_ne.mpr c17
           have H' := Aside0.mk H
           clear H
           go_wp2
           go_meet
           case rel => exact ⟨_, (x8_1), (x9_1), (by first | rfl | (simp; done) | (simp [*]; done)), (by first | rfl | (simp; done) | (simp [*]; done)), H', ⟨by have := HK1.out; have := HJ5.out; first | omega | exact Nat.le_refl _⟩, ⟨by (with_reducible repeat (first | apply Kd.S_alloc | apply Kd.S_drewN | apply Kd.S_drew)); exact HO_7.out⟩, ⟨by repeat (first | (with_reducible first | exact HB.out | apply below_alloc | apply pw_below_drewN | apply below_drew1) | exact HB.out)⟩⟩
        case rest =>
         clear HC12
         try clear c1
         try clear p1
         try clear q1
         try clear hx1
         try clear c2
         try clear p2
         try clear p6
         try clear c7
         try clear c7b0
         try clear c8
         try clear c9
         try clear c9b0
         try clear c10
         try clear c10b0
         try clear p10
         try clear q10
         try clear hx10
         try clear c13
         try clear c13b0
         try clear c13b1
         try clear c15
         try clear c15b0
         try clear c15b1
         try clear c17
         try clear c17b0
         try clear c17b1
         try clear c19
         try clear c19b0
         try clear c19b1
         try clear hx103_0
         try clear p103
         try clear p2
         try clear p6
         try clear q103
         obtain ⟨kq, x8_11, x9_11, rfl, rfl, HA, HJ11, HO_7, HB⟩ := hcut
         cases kq with
         | zero => exact absurd HA.out (by simp [tipstafflaw43_made.j2])
         | succ kj11 =>
          have H := HA.out
          clear HA
          simp only [tipstafflaw43_made.j2] at H
          have H' := Aside0.mk H
          clear H
          go_wp2_with (first | ((with_reducible refine gate_dst (N := 12) rfl ?_); refine box_event ?hg (N := 12) ?hd (cs := #[.int .i64 0, .slice none 0 0, .slice none 0 0, .int .u64 0, .int .u64 0, .int .i64 0]) (t := 41) ?hr ?_; (case hd => rfl); (case hg => rfl); (case hr => first | (go_simp; done) | (go_simp; rfl)); intro gb105 hg w21 hbox hb; have n0_ := Aside0.mk (Kd.S_below (Kd.S_elderB (by (with_reducible repeat (first | apply Kd.S_alloc | apply Kd.S_drewN | apply Kd.S_drew)); exact HO_7.out) gb105 (Nat.le_of_eq hg.symm)) hb); have n1_ := Aside0.mk (below_step (by repeat (first | (with_reducible first | exact HB.out | apply below_alloc | apply pw_below_drewN | apply below_drew1) | exact HB.out)) hb); have n2_ := Aside0.mk (hbox); have n3_ := Aside0.mk ((by rw [hg]; exact (below_size (by repeat (first | (with_reducible first | exact HB.out | apply below_alloc | apply pw_below_drewN | apply below_drew1) | exact HB.out))) : w.heap.size ≤ gb105)); have n4_ := Aside0.mk ((by rw [hg]; exact (below_size (by repeat (first | (with_reducible first | exact HB.out | apply below_alloc | apply pw_below_drewN | apply below_drew1) | exact HB.out))) : w.heap.size ≤ gb105)); clear HO_7; clear HB; have HO_7 := n0_; have HB := n1_; have BK105 := n2_; have GW105 := n3_; have GE105 := n4_; clear n0_ n1_ n2_ n3_ n4_; clear hb hbox hg; have hcz22_0 : w21.cell? ⟨gb105, 0, none⟩ = some (.int .i64 0) := (blk_cell BK105.out 0).trans rfl; have hcz22_1 : w21.cell? ⟨gb105, 1, none⟩ = some (.slice none 0 0) := (blk_cell BK105.out 1).trans rfl; have hcz22_2 : w21.cell? ⟨gb105, 2, none⟩ = some (.slice none 0 0) := (blk_cell BK105.out 2).trans rfl; have hcz22_3 : w21.cell? ⟨gb105, 3, none⟩ = some (.int .u64 0) := (blk_cell BK105.out 3).trans rfl; have hcz22_4 : w21.cell? ⟨gb105, 4, none⟩ = some (.int .u64 0) := (blk_cell BK105.out 4).trans rfl; have hcz22_5 : w21.cell? ⟨gb105, 5, none⟩ = some (.int .i64 0) := (blk_cell BK105.out 5).trans rfl; have hfz22_0 := blk_frozen BK105.out 0; have hfz22_1 := blk_frozen BK105.out 1; have hfz22_2 := blk_frozen BK105.out 2; have hfz22_3 := blk_frozen BK105.out 3; have hfz22_4 := blk_frozen BK105.out 4; have hfz22_5 := blk_frozen BK105.out 5))
          go_loopg [13] kj11 (fun kq v13 w' => ∃ (x13_4 : Int) (x106001_4 : List (S66)) (u106001 : Value), v13 = .int .i64 x13_4 ∧ Aside0 (tipstafflaw43_made.l1 kq (wrap64 (1 + t101)) t102 l2 x7_1 x8_11 x9_11 x10_1 t104 x13_4 (wrap64 (t102 + x10_1)) x106001_4 x8_11 x9_11 (-1) = some r) ∧ Aside0 (kq ≤ kj11) ∧ Aside0 (Kd.S k41 41 w' w.heap.size (fun k_ => some k_ ≠ (u106001 : Value).ownBlock ∧ k_ ≠ gb105) u7 x7_1) ∧ Aside0 (Kd.R k66 66 w' w.heap.size (fun _ => True) u106001 x106001_4) ∧ Aside0 (w'.heap[gb105]? = some (.cells #[.int .i64 (wrap64 (t102 + x10_1)), u106001, (.slice none 0 0), .int .u64 x8_11, .int .u64 x9_11, .int .i64 (-1)] 41 (0, 0))) ∧ Aside0 (Below w.heap.size w w'))
          case atStart => exact ⟨(0), (([] : List (S66))), (.slice none 0 0), (by first | rfl | (simp; done) | (simp [*]; done)), H', ⟨Nat.le_refl _⟩, ⟨by (with_reducible repeat (first | apply Kd.S_alloc | apply Kd.S_drewN | apply Kd.S_drew)); exact Kd.S_mono (Kd.S_far (p := ⟨gb105, 5, none⟩) (Kd.S_far (p := ⟨gb105, 4, none⟩) (Kd.S_far (p := ⟨gb105, 3, none⟩) (Kd.S_far (p := ⟨gb105, 2, none⟩) (Kd.S_far (p := ⟨gb105, 1, none⟩) (Kd.S_far (p := ⟨gb105, 0, none⟩) (Kd.S_mono HO_7.out (fun k_ hk => (⟨hk, hk.2⟩ : _ ∧ k_ ≠ gb105))) (fun _ hk => hk.2) (.int .i64 (wrap64 (t102 + x10_1)))) (fun _ hk => hk.2) (.slice none 0 0)) (fun _ hk => hk.2) (.slice none 0 0)) (fun _ hk => hk.2) (.int .u64 x8_11)) (fun _ hk => hk.2) (.int .u64 x9_11)) (fun _ hk => hk.2) (.int .i64 (-1))) (fun _ hk => ⟨(by simp [Value.ownBlock]), hk.1.2⟩)⟩, ⟨by first | exact Kd.R_nil _ _ _ _ _ | exact Kd.N_nil _ _ _ _ _ | exact Kd.V_nil _ _ _ _ _ | exact Kd.Q_nil _ _ _ _ _ | exact Kd.S_nil _ _ _ _ _⟩, ⟨by (with_reducible repeat (first | refine blk_drewN ?_ _ | refine blk_drew ?_ | refine blk_alloc ?_ _)); refine blk_put (cs := #[.int .i64 (wrap64 (t102 + x10_1)), .slice none 0 0, .slice none 0 0, .int .u64 x8_11, .int .u64 x9_11, .int .i64 0]) ?_ 5 _ rfl; (with_reducible repeat (first | refine blk_drewN ?_ _ | refine blk_drew ?_ | refine blk_alloc ?_ _)); refine blk_put (cs := #[.int .i64 (wrap64 (t102 + x10_1)), .slice none 0 0, .slice none 0 0, .int .u64 x8_11, .int .u64 0, .int .i64 0]) ?_ 4 _ rfl; (with_reducible repeat (first | refine blk_drewN ?_ _ | refine blk_drew ?_ | refine blk_alloc ?_ _)); refine blk_put (cs := #[.int .i64 (wrap64 (t102 + x10_1)), .slice none 0 0, .slice none 0 0, .int .u64 0, .int .u64 0, .int .i64 0]) ?_ 3 _ rfl; (with_reducible repeat (first | refine blk_drewN ?_ _ | refine blk_drew ?_ | refine blk_alloc ?_ _)); refine blk_put (cs := #[.int .i64 (wrap64 (t102 + x10_1)), .slice none 0 0, .slice none 0 0, .int .u64 0, .int .u64 0, .int .i64 0]) ?_ 2 _ rfl; (with_reducible repeat (first | refine blk_drewN ?_ _ | refine blk_drew ?_ | refine blk_alloc ?_ _)); refine blk_put (cs := #[.int .i64 (wrap64 (t102 + x10_1)), .slice none 0 0, .slice none 0 0, .int .u64 0, .int .u64 0, .int .i64 0]) ?_ 1 _ rfl; (with_reducible repeat (first | refine blk_drewN ?_ _ | refine blk_drew ?_ | refine blk_alloc ?_ _)); refine blk_put (cs := #[.int .i64 0, .slice none 0 0, .slice none 0 0, .int .u64 0, .int .u64 0, .int .i64 0]) ?_ 0 _ rfl; (with_reducible repeat (first | refine blk_drewN ?_ _ | refine blk_drew ?_ | refine blk_alloc ?_ _)); exact BK105.out⟩, ⟨by repeat (first | (with_reducible first | exact HB.out | apply below_alloc | apply pw_below_drewN | apply below_drew1 | refine below_set ?_ GE105.out) | exact HB.out)⟩⟩
          case round =>
           clear H'
           try clear c1
           try clear p1
           try clear q1
           try clear hx1
           try clear c2
           try clear p2
           try clear p6
           try clear c7
           try clear c7b0
           try clear c8
           try clear c9
           try clear c9b0
           try clear c10
           try clear c10b0
           try clear p10
           try clear q10
           try clear hx10
           try clear c13
           try clear c13b0
           try clear c13b1
           try clear c15
           try clear c15b0
           try clear c15b1
           try clear c17
           try clear c17b0
           try clear c17b1
           try clear c19
           try clear c19b0
           try clear c19b1
           try clear hcz22_0
           try clear hcz22_1
           try clear hcz22_2
           try clear hcz22_3
           try clear hcz22_4
           try clear hcz22_5
           try clear hfz22_0
           try clear hfz22_1
           try clear hfz22_2
           try clear hfz22_3
           try clear hfz22_4
           try clear hfz22_5
           try clear hx103_0
           try clear p1
           try clear p10
           try clear p103
           try clear p2
           try clear p6
           try clear q1
           try clear q10
           try clear q103
           obtain ⟨x13_4, x106001_4, u106001, rfl, HA, HK4, HO_7, HO_106001, BK105, HB⟩ := hrel
           cases gk with
           | zero => exact absurd HA.out (by simp [tipstafflaw43_made.l1])
           | succ k4 =>
            have H := HA.out
            clear HA
            simp only [tipstafflaw43_made.l1] at H
            by_cases c23 : x13_4 < (Int.tmod (wrap64 (Int.tdiv t104 15)) 3)
            ·rw [if_pos c23] at H
             have c23b0 : decide (x13_4 < (Int.tmod (wrap64 (Int.tdiv t104 15)) 3)) = true := decide_eq_true c23
             clear c23
             by_cases c24 : x106001_4.length < 8796093022208
             ·rw [if_pos c24] at H
              have LMc24 := Aside0.mk c24
              clear c24
              obtain ⟨y106, hy106⟩ : ∃ y_ : List (S66), y_ = (x106001_4 ++ [(⟨x13_4, wrap64 (1 + (Int.tmod (wrap64 ((wrap64 (Int.tdiv t104 45)) + x13_4)) 6))⟩ : S66)]) := ⟨_, rfl⟩
              replace H : (tipstafflaw43_made.l1 k4 (wrap64 (1 + t101)) t102 l2 x7_1 x8_11 x9_11 x10_1 t104 (wrap64 (x13_4 + 1)) (wrap64 (t102 + x10_1)) y106 x8_11 x9_11 (-1)) = some r := by first | (rw [hy106]; with_reducible exact H) | (have H2_ := (Option.bind_some _ _).symm.trans H; rw [hy106]; with_reducible exact H2_) | (have H2_ := (Option.bind_some _ _).symm.trans H; with_reducible exact H2_) | with_reducible exact H | (rw [hy106]; exact H) | exact H
              have Ny106 := Aside0.mk hy106
              clear hy106
              have H' := Aside0.mk H
              clear H
              have hcz25_0 : wr.cell? ⟨gb105, 0, none⟩ = some (.int .i64 (wrap64 (t102 + x10_1))) := (blk_cell BK105.out 0).trans rfl
              have hcz25_1 : wr.cell? ⟨gb105, 1, none⟩ = some (u106001) := (blk_cell BK105.out 1).trans rfl
              have hcz25_2 : wr.cell? ⟨gb105, 2, none⟩ = some (.slice none 0 0) := (blk_cell BK105.out 2).trans rfl
              have hcz25_3 : wr.cell? ⟨gb105, 3, none⟩ = some (.int .u64 x8_11) := (blk_cell BK105.out 3).trans rfl
              have hcz25_4 : wr.cell? ⟨gb105, 4, none⟩ = some (.int .u64 x9_11) := (blk_cell BK105.out 4).trans rfl
              have hcz25_5 : wr.cell? ⟨gb105, 5, none⟩ = some (.int .i64 (-1)) := (blk_cell BK105.out 5).trans rfl
              have hfz25_0 := blk_frozen BK105.out 0
              have hfz25_1 := blk_frozen BK105.out 1
              have hfz25_2 := blk_frozen BK105.out 2
              have hfz25_3 := blk_frozen BK105.out 3
              have hfz25_4 := blk_frozen BK105.out 4
              have hfz25_5 := blk_frozen BK105.out 5
              go_wp2_with (first | ((with_reducible refine gate_builtin (b := .append) (xs := #[.tmp 70, .tmp 79]) rfl ?_); at_builtin; refine Kd.R_append k66 (w0 := w) w.heap.size rfl (.tmp 70) (.tmp 79) 37 66 (.agg #[(.int .i64 0), (.int .i64 0)]) 16 rfl Tryd.underlying37 info66 rfl (by decide) (by omega) u106001 x106001_4 (⟨x13_4, wrap64 (1 + (Int.tmod (wrap64 ((wrap64 (Int.tdiv t104 45)) + x13_4)) 6))⟩ : S66) [.int .i64 x13_4, .int .i64 (wrap64 (1 + (Int.tmod (wrap64 ((wrap64 (Int.tdiv t104 45)) + x13_4)) 6)))] (fun _ => True) (fun _ => False) rfl rfl ?aP (fun _ hk => hk.elim) ?aF ?aO ?aB ?aS ?aL ?_; (case aP => exact k66_mkM _ _ _ (⟨x13_4, wrap64 (1 + (Int.tmod (wrap64 ((wrap64 (Int.tdiv t104 45)) + x13_4)) 6))⟩ : S66)); (case aB => exact (by repeat (first | (with_reducible first | exact HB.out | apply below_alloc | apply pw_below_drewN | apply below_drew1 | refine below_set ?_ GE105.out) | exact HB.out))); (case aF => exact (fun _ _ => trivial)); (case aO => exact (by (with_reducible repeat (first | apply Kd.R_alloc | apply Kd.R_drewN | apply Kd.R_drew)); exact HO_106001.out)); (case aS => exact (below_size (by repeat (first | (with_reducible first | exact HB.out | apply below_alloc | apply pw_below_drewN | apply below_drew1 | refine below_set ?_ GE105.out) | exact HB.out)))); (case aL => have := LMc24.out; omega); intro v107 w26 ho hb hg hat; rw [← Ny106.out] at ho; have n0_ := Aside0.mk (Kd.S_after (ok := (fun k_ => k_ ≠ gb105)) (by (with_reducible repeat (first | apply Kd.S_alloc | apply Kd.S_drewN | apply Kd.S_drew)); exact Kd.S_mono HO_7.out (fun _ hk => ⟨hk.2, hk.1⟩)) hg hat); have n1_ := Aside0.mk (blk_grown (g := gb105) (o := .cells #[.int .i64 (wrap64 (t102 + x10_1)), u106001, .slice none 0 0, .int .u64 x8_11, .int .u64 x9_11, .int .i64 (-1)] 41 (0, 0)) (by (with_reducible repeat (first | refine blk_drewN ?_ _ | refine blk_drew ?_ | refine blk_alloc ?_ _)); exact BK105.out) hg (Kd.R_ne HO_106001.out BK105.out (by decide))); have n2_ := Aside0.mk (hb); have n3_ := Aside0.mk (ho); clear HO_7; clear BK105; clear HB; clear HO_106001; have HO_7 := n0_; have BK105 := n1_; have HB := n2_; have HO108 := n3_; clear n0_ n1_ n2_ n3_; clear ho hb hg hat; obtain ⟨Ao27, co27, eo27⟩ := Kd.R_slice HO108.out; subst eo27; have hcz28_0 : w26.cell? ⟨gb105, 0, none⟩ = some (.int .i64 (wrap64 (t102 + x10_1))) := (blk_cell BK105.out 0).trans rfl; have hcz28_1 : w26.cell? ⟨gb105, 1, none⟩ = some (u106001) := (blk_cell BK105.out 1).trans rfl; have hcz28_2 : w26.cell? ⟨gb105, 2, none⟩ = some (.slice none 0 0) := (blk_cell BK105.out 2).trans rfl; have hcz28_3 : w26.cell? ⟨gb105, 3, none⟩ = some (.int .u64 x8_11) := (blk_cell BK105.out 3).trans rfl; have hcz28_4 : w26.cell? ⟨gb105, 4, none⟩ = some (.int .u64 x9_11) := (blk_cell BK105.out 4).trans rfl; have hcz28_5 : w26.cell? ⟨gb105, 5, none⟩ = some (.int .i64 (-1)) := (blk_cell BK105.out 5).trans rfl; have hfz28_0 := blk_frozen BK105.out 0; have hfz28_1 := blk_frozen BK105.out 1; have hfz28_2 := blk_frozen BK105.out 2; have hfz28_3 := blk_frozen BK105.out 3; have hfz28_4 := blk_frozen BK105.out 4; have hfz28_5 := blk_frozen BK105.out 5))
              go_roundg k4
              case measure => have := HK1.out; have := HJ5.out; have := HJ11.out; have := HK4.out; omega
              case rel => exact ⟨(wrap64 (x13_4 + 1)), (y106), (.slice Ao27 y106.length co27), (by first | rfl | (simp; done) | (simp [*]; done)), H', ⟨by have := HK1.out; have := HJ5.out; have := HJ11.out; have := HK4.out; omega⟩, ⟨by (with_reducible repeat (first | apply Kd.S_alloc | apply Kd.S_drewN | apply Kd.S_drew)); exact Kd.S_mono (Kd.S_far (p := ⟨gb105, 1, none⟩) (Kd.S_mono HO_7.out (fun k_ hk => (⟨hk, hk.1⟩ : _ ∧ k_ ≠ gb105))) (fun _ hk => hk.2) (.slice Ao27 y106.length co27)) (fun _ hk => ⟨hk.1.2, hk.1.1⟩)⟩, ⟨by (with_reducible repeat (first | apply Kd.R_alloc | apply Kd.R_drewN | apply Kd.R_drew)); exact Kd.R_mono (Kd.R_far (p := ⟨gb105, 1, none⟩) (Kd.R_types HO108.out BK105.out (by decide)) (fun _ hk => hk.2) (.slice Ao27 y106.length co27)) (fun _ hk => trivial)⟩, ⟨by (with_reducible repeat (first | refine blk_drewN ?_ _ | refine blk_drew ?_ | refine blk_alloc ?_ _)); refine blk_put (cs := #[.int .i64 (wrap64 (t102 + x10_1)), u106001, .slice none 0 0, .int .u64 x8_11, .int .u64 x9_11, .int .i64 (-1)]) ?_ 1 _ rfl; (with_reducible repeat (first | refine blk_drewN ?_ _ | refine blk_drew ?_ | refine blk_alloc ?_ _)); exact BK105.out⟩, ⟨by repeat (first | (with_reducible first | exact HB.out | apply below_alloc | apply pw_below_drewN | apply below_drew1 | refine below_set ?_ GE105.out) | exact HB.out)⟩⟩
             ·rw [if_neg c24] at H
              exact absurd H (by simp)
            ·rw [if_neg c23] at H
             have c23b0 : decide (x13_4 < (Int.tmod (wrap64 (Int.tdiv t104 15)) 3)) = false := decide_eq_false c23
             clear c23
             have H' := Aside0.mk H
             clear H
             go_wp2
             go_loopg [14] k4 (fun kq v14 w' => ∃ (x14_5 : Int) (x106002_5 : List (S43)) (u106002 : Value), v14 = .int .i64 x14_5 ∧ Aside0 (tipstafflaw43_made.l2 kq (wrap64 (1 + t101)) t102 l2 x7_1 x8_11 x9_11 x10_1 t104 x14_5 (wrap64 (t102 + x10_1)) x106001_4 x106002_5 x8_11 x9_11 (-1) = some r) ∧ Aside0 (kq ≤ k4) ∧ Aside0 (Kd.S k41 41 w' w.heap.size (fun k_ => some k_ ≠ (u106001 : Value).ownBlock ∧ some k_ ≠ (u106002 : Value).ownBlock ∧ k_ ≠ gb105) u7 x7_1) ∧ Aside0 (Kd.R k66 66 w' w.heap.size (fun _ => True) u106001 x106001_4) ∧ Aside0 (Kd.R k43 43 w' w.heap.size (fun _ => True) u106002 x106002_5) ∧ Aside0 (w'.heap[gb105]? = some (.cells #[.int .i64 (wrap64 (t102 + x10_1)), u106001, u106002, .int .u64 x8_11, .int .u64 x9_11, .int .i64 (-1)] 41 (0, 0))) ∧ Aside0 (Below w.heap.size w w'))
             case atStart => exact ⟨(0), (([] : List (S43))), (.slice none 0 0), (by first | rfl | (simp; done) | (simp [*]; done)), H', ⟨Nat.le_refl _⟩, ⟨by (with_reducible repeat (first | apply Kd.S_alloc | apply Kd.S_drewN | apply Kd.S_drew)); exact Kd.S_mono HO_7.out (fun _ hk => ⟨hk.1, ⟨(by simp [Value.ownBlock]), hk.2⟩⟩)⟩, ⟨by (with_reducible repeat (first | apply Kd.R_alloc | apply Kd.R_drewN | apply Kd.R_drew)); exact HO_106001.out⟩, ⟨by first | exact Kd.R_nil _ _ _ _ _ | exact Kd.N_nil _ _ _ _ _ | exact Kd.V_nil _ _ _ _ _ | exact Kd.Q_nil _ _ _ _ _ | exact Kd.S_nil _ _ _ _ _⟩, ⟨by (with_reducible repeat (first | refine blk_drewN ?_ _ | refine blk_drew ?_ | refine blk_alloc ?_ _)); exact BK105.out⟩, ⟨by repeat (first | (with_reducible first | exact HB.out | apply below_alloc | apply pw_below_drewN | apply below_drew1 | refine below_set ?_ GE105.out) | exact HB.out)⟩⟩
             case round =>
              clear H'
              try clear c1
              try clear p1
              try clear q1
              try clear hx1
              try clear c2
              try clear p2
              try clear p6
              try clear c7
              try clear c7b0
              try clear c8
              try clear c9
              try clear c9b0
              try clear c10
              try clear c10b0
              try clear p10
              try clear q10
              try clear hx10
              try clear c13
              try clear c13b0
              try clear c13b1
              try clear c15
              try clear c15b0
              try clear c15b1
              try clear c17
              try clear c17b0
              try clear c17b1
              try clear c19
              try clear c19b0
              try clear c19b1
              try clear c23
              try clear c23b0
              try clear c24
              try clear hcz22_0
              try clear hcz22_1
              try clear hcz22_2
              try clear hcz22_3
              try clear hcz22_4
              try clear hcz22_5
              try clear hcz25_0
              try clear hcz25_1
              try clear hcz25_2
              try clear hcz25_3
              try clear hcz25_4
              try clear hcz25_5
              try clear hcz28_0
              try clear hcz28_1
              try clear hcz28_2
              try clear hcz28_3
              try clear hcz28_4
              try clear hcz28_5
              try clear hfz22_0
              try clear hfz22_1
              try clear hfz22_2
              try clear hfz22_3
              try clear hfz22_4
              try clear hfz22_5
              try clear hfz25_0
              try clear hfz25_1
              try clear hfz25_2
              try clear hfz25_3
              try clear hfz25_4
              try clear hfz25_5
              try clear hfz28_0
              try clear hfz28_1
              try clear hfz28_2
              try clear hfz28_3
              try clear hfz28_4
              try clear hfz28_5
              try clear hx103_0
              try clear p1
              try clear p10
              try clear p103
              try clear p2
              try clear p6
              try clear q1
              try clear q10
              try clear q103
              obtain ⟨x14_5, x106002_5, u106002, rfl, HA, HK5, HO_7, HO_106001, HO_106002, BK105, HB⟩ := hrel
              cases gk with
              | zero => exact absurd HA.out (by simp [tipstafflaw43_made.l2])
              | succ k5 =>
               have H := HA.out
               clear HA
               simp only [tipstafflaw43_made.l2] at H
               by_cases c29 : x14_5 < (wrap64 (1 + t101))
               ·rw [if_pos c29] at H
                have c29b0 : decide (x14_5 < (wrap64 (1 + t101))) = true := decide_eq_true c29
                clear c29
                by_cases c30 : (Int.tmod (wrap64 ((wrap64 (Int.tdiv t104 270)) + (wrap64 (7 * x14_5)))) 4) = 0
                ·rw [if_pos c30] at H
                 have c30b0 : ((Int.tmod (wrap64 ((wrap64 (Int.tdiv t104 270)) + (wrap64 (7 * x14_5)))) 4) == 0) = true := beq_iff_eq.mpr c30
                 have c30b1 : ((Int.tmod (wrap64 ((wrap64 (Int.tdiv t104 270)) + (wrap64 (7 * x14_5)))) 4) != 0) = false := bne_eq_false_iff_eq.mpr c30
                 clear c30
                 by_cases c31 : x106002_5.length < 5864062014805
                 ·rw [if_pos c31] at H
                  have LMc31 := Aside0.mk c31
                  clear c31
                  obtain ⟨y109, hy109⟩ : ∃ y_ : List (S43), y_ = (x106002_5 ++ [(⟨wrap64 ((Int.tmod (wrap64 ((wrap64 (Int.tdiv t104 270)) + (wrap64 (7 * x14_5)))) 4) - 1), Int.tmod (wrap64 (Int.tdiv (wrap64 ((wrap64 (Int.tdiv t104 270)) + (wrap64 (7 * x14_5)))) 4)) 3, ((Int.tmod (wrap64 (Int.tdiv (wrap64 ((wrap64 (Int.tdiv t104 270)) + (wrap64 (7 * x14_5)))) 12)) 2) == 0)⟩ : S43)]) := ⟨_, rfl⟩
                  replace H : (tipstafflaw43_made.l2 k5 (wrap64 (1 + t101)) t102 l2 x7_1 x8_11 x9_11 x10_1 t104 (wrap64 (x14_5 + 1)) (wrap64 (t102 + x10_1)) x106001_4 y109 x8_11 x9_11 (-1)) = some r := by first | (rw [hy109]; with_reducible exact H) | (have H2_ := (Option.bind_some _ _).symm.trans H; rw [hy109]; with_reducible exact H2_) | (have H2_ := (Option.bind_some _ _).symm.trans H; with_reducible exact H2_) | with_reducible exact H | (rw [hy109]; exact H) | exact H
                  have Ny109 := Aside0.mk hy109
                  clear hy109
                  have H' := Aside0.mk H
                  clear H
                  have hcz32_0 : wr.cell? ⟨gb105, 0, none⟩ = some (.int .i64 (wrap64 (t102 + x10_1))) := (blk_cell BK105.out 0).trans rfl
                  have hcz32_1 : wr.cell? ⟨gb105, 1, none⟩ = some (u106001) := (blk_cell BK105.out 1).trans rfl
                  have hcz32_2 : wr.cell? ⟨gb105, 2, none⟩ = some (u106002) := (blk_cell BK105.out 2).trans rfl
                  have hcz32_3 : wr.cell? ⟨gb105, 3, none⟩ = some (.int .u64 x8_11) := (blk_cell BK105.out 3).trans rfl
                  have hcz32_4 : wr.cell? ⟨gb105, 4, none⟩ = some (.int .u64 x9_11) := (blk_cell BK105.out 4).trans rfl
                  have hcz32_5 : wr.cell? ⟨gb105, 5, none⟩ = some (.int .i64 (-1)) := (blk_cell BK105.out 5).trans rfl
                  have hfz32_0 := blk_frozen BK105.out 0
                  have hfz32_1 := blk_frozen BK105.out 1
                  have hfz32_2 := blk_frozen BK105.out 2
                  have hfz32_3 := blk_frozen BK105.out 3
                  have hfz32_4 := blk_frozen BK105.out 4
                  have hfz32_5 := blk_frozen BK105.out 5
                  go_wp2_with (first | ((with_reducible refine gate_builtin (b := .append) (xs := #[.tmp 93, .tmp 110]) rfl ?_); at_builtin; refine Kd.R_append k43 (w0 := w) w.heap.size rfl (.tmp 93) (.tmp 110) 38 43 (.agg #[(.int .i64 0), (.int .i64 0), (.bool false)]) 24 rfl Tryd.underlying38 info43 rfl (by decide) (by omega) u106002 x106002_5 (⟨wrap64 ((Int.tmod (wrap64 ((wrap64 (Int.tdiv t104 270)) + (wrap64 (7 * x14_5)))) 4) - 1), Int.tmod (wrap64 (Int.tdiv (wrap64 ((wrap64 (Int.tdiv t104 270)) + (wrap64 (7 * x14_5)))) 4)) 3, ((Int.tmod (wrap64 (Int.tdiv (wrap64 ((wrap64 (Int.tdiv t104 270)) + (wrap64 (7 * x14_5)))) 12)) 2) == 0)⟩ : S43) [.int .i64 (wrap64 ((Int.tmod (wrap64 ((wrap64 (Int.tdiv t104 270)) + (wrap64 (7 * x14_5)))) 4) - 1)), .int .i64 (Int.tmod (wrap64 (Int.tdiv (wrap64 ((wrap64 (Int.tdiv t104 270)) + (wrap64 (7 * x14_5)))) 4)) 3), .bool ((Int.tmod (wrap64 (Int.tdiv (wrap64 ((wrap64 (Int.tdiv t104 270)) + (wrap64 (7 * x14_5)))) 12)) 2) == 0)] (fun _ => True) (fun _ => False) rfl rfl ?aP (fun _ hk => hk.elim) ?aF ?aO ?aB ?aS ?aL ?_; (case aP => exact k43_mkM _ _ _ (⟨wrap64 ((Int.tmod (wrap64 ((wrap64 (Int.tdiv t104 270)) + (wrap64 (7 * x14_5)))) 4) - 1), Int.tmod (wrap64 (Int.tdiv (wrap64 ((wrap64 (Int.tdiv t104 270)) + (wrap64 (7 * x14_5)))) 4)) 3, ((Int.tmod (wrap64 (Int.tdiv (wrap64 ((wrap64 (Int.tdiv t104 270)) + (wrap64 (7 * x14_5)))) 12)) 2) == 0)⟩ : S43)); (case aB => exact (by repeat (first | (with_reducible first | exact HB.out | apply below_alloc | apply pw_below_drewN | apply below_drew1 | refine below_set ?_ GE105.out) | exact HB.out))); (case aF => exact (fun _ _ => trivial)); (case aO => exact (by (with_reducible repeat (first | apply Kd.R_alloc | apply Kd.R_drewN | apply Kd.R_drew)); exact HO_106002.out)); (case aS => exact (below_size (by repeat (first | (with_reducible first | exact HB.out | apply below_alloc | apply pw_below_drewN | apply below_drew1 | refine below_set ?_ GE105.out) | exact HB.out)))); (case aL => have := LMc31.out; omega); intro v110 w33 ho hb hg hat; rw [← Ny109.out] at ho; have n0_ := Aside0.mk (Kd.S_after (ok := (fun k_ => some k_ ≠ (u106001 : Value).ownBlock ∧ k_ ≠ gb105)) (by (with_reducible repeat (first | apply Kd.S_alloc | apply Kd.S_drewN | apply Kd.S_drew)); exact Kd.S_mono HO_7.out (fun _ hk => ⟨⟨hk.1, hk.2.2⟩, hk.2.1⟩)) hg hat); have n1_ := Aside0.mk (Kd.R_over' (by (with_reducible repeat (first | apply Kd.R_alloc | apply Kd.R_drewN | apply Kd.R_drew)); exact HO_106001.out) (Kd.R_typed (by (with_reducible repeat (first | apply Kd.R_alloc | apply Kd.R_drewN | apply Kd.R_drew)); exact HO_106002.out)) (by decide) hg); have n2_ := Aside0.mk (blk_grown (g := gb105) (o := .cells #[.int .i64 (wrap64 (t102 + x10_1)), u106001, u106002, .int .u64 x8_11, .int .u64 x9_11, .int .i64 (-1)] 41 (0, 0)) (by (with_reducible repeat (first | refine blk_drewN ?_ _ | refine blk_drew ?_ | refine blk_alloc ?_ _)); exact BK105.out) hg (Kd.R_ne HO_106002.out BK105.out (by decide))); have n3_ := Aside0.mk (hb); have n4_ := Aside0.mk (ho); clear HO_7; clear HO_106001; clear BK105; clear HB; clear HO_106002; have HO_7 := n0_; have HO_106001 := n1_; have BK105 := n2_; have HB := n3_; have HO111 := n4_; clear n0_ n1_ n2_ n3_ n4_; clear ho hb hg hat; obtain ⟨Ao34, co34, eo34⟩ := Kd.R_slice HO111.out; subst eo34; have hcz35_0 : w33.cell? ⟨gb105, 0, none⟩ = some (.int .i64 (wrap64 (t102 + x10_1))) := (blk_cell BK105.out 0).trans rfl; have hcz35_1 : w33.cell? ⟨gb105, 1, none⟩ = some (u106001) := (blk_cell BK105.out 1).trans rfl; have hcz35_2 : w33.cell? ⟨gb105, 2, none⟩ = some (u106002) := (blk_cell BK105.out 2).trans rfl; have hcz35_3 : w33.cell? ⟨gb105, 3, none⟩ = some (.int .u64 x8_11) := (blk_cell BK105.out 3).trans rfl; have hcz35_4 : w33.cell? ⟨gb105, 4, none⟩ = some (.int .u64 x9_11) := (blk_cell BK105.out 4).trans rfl; have hcz35_5 : w33.cell? ⟨gb105, 5, none⟩ = some (.int .i64 (-1)) := (blk_cell BK105.out 5).trans rfl; have hfz35_0 := blk_frozen BK105.out 0; have hfz35_1 := blk_frozen BK105.out 1; have hfz35_2 := blk_frozen BK105.out 2; have hfz35_3 := blk_frozen BK105.out 3; have hfz35_4 := blk_frozen BK105.out 4; have hfz35_5 := blk_frozen BK105.out 5))
                  go_roundg k5
                  case measure => have := HK1.out; have := HJ5.out; have := HJ11.out; have := HK4.out; have := HK5.out; omega
                  case rel => exact ⟨(wrap64 (x14_5 + 1)), (y109), (.slice Ao34 y109.length co34), (by first | rfl | (simp; done) | (simp [*]; done)), H', ⟨by have := HK1.out; have := HJ5.out; have := HJ11.out; have := HK4.out; have := HK5.out; omega⟩, ⟨by (with_reducible repeat (first | apply Kd.S_alloc | apply Kd.S_drewN | apply Kd.S_drew)); exact Kd.S_mono (Kd.S_far (p := ⟨gb105, 2, none⟩) (Kd.S_mono HO_7.out (fun k_ hk => (⟨hk, hk.1.2⟩ : _ ∧ k_ ≠ gb105))) (fun _ hk => hk.2) (.slice Ao34 y109.length co34)) (fun _ hk => ⟨hk.1.1.1, ⟨hk.1.2, hk.1.1.2⟩⟩)⟩, ⟨by (with_reducible repeat (first | apply Kd.R_alloc | apply Kd.R_drewN | apply Kd.R_drew)); exact Kd.R_mono (Kd.R_far (p := ⟨gb105, 2, none⟩) (Kd.R_types HO_106001.out BK105.out (by decide)) (fun _ hk => hk.2) (.slice Ao34 y109.length co34)) (fun _ hk => trivial)⟩, ⟨by (with_reducible repeat (first | apply Kd.R_alloc | apply Kd.R_drewN | apply Kd.R_drew)); exact Kd.R_mono (Kd.R_far (p := ⟨gb105, 2, none⟩) (Kd.R_types HO111.out BK105.out (by decide)) (fun _ hk => hk.2) (.slice Ao34 y109.length co34)) (fun _ hk => trivial)⟩, ⟨by (with_reducible repeat (first | refine blk_drewN ?_ _ | refine blk_drew ?_ | refine blk_alloc ?_ _)); refine blk_put (cs := #[.int .i64 (wrap64 (t102 + x10_1)), u106001, u106002, .int .u64 x8_11, .int .u64 x9_11, .int .i64 (-1)]) ?_ 2 _ rfl; (with_reducible repeat (first | refine blk_drewN ?_ _ | refine blk_drew ?_ | refine blk_alloc ?_ _)); exact BK105.out⟩, ⟨by repeat (first | (with_reducible first | exact HB.out | apply below_alloc | apply pw_below_drewN | apply below_drew1 | refine below_set ?_ GE105.out) | exact HB.out)⟩⟩
                 ·rw [if_neg c31] at H
                  exact absurd H (by simp)
                ·rw [if_neg c30] at H
                 have c30b0 : ((Int.tmod (wrap64 ((wrap64 (Int.tdiv t104 270)) + (wrap64 (7 * x14_5)))) 4) == 0) = false := beq_eq_false_iff_ne.mpr c30
                 have c30b1 : ((Int.tmod (wrap64 ((wrap64 (Int.tdiv t104 270)) + (wrap64 (7 * x14_5)))) 4) != 0) = true := bne_iff_ne.mpr c30
                 by_cases c36 : x106002_5.length < 5864062014805
                 ·rw [if_pos c36] at H
                  have LMc36 := Aside0.mk c36
                  clear c36
                  obtain ⟨y112, hy112⟩ : ∃ y_ : List (S43), y_ = (x106002_5 ++ [(⟨wrap64 ((Int.tmod (wrap64 ((wrap64 (Int.tdiv t104 270)) + (wrap64 (7 * x14_5)))) 4) - 1), Int.tmod (wrap64 (Int.tdiv (wrap64 ((wrap64 (Int.tdiv t104 270)) + (wrap64 (7 * x14_5)))) 4)) 3, false⟩ : S43)]) := ⟨_, rfl⟩
                  replace H : (tipstafflaw43_made.l2 k5 (wrap64 (1 + t101)) t102 l2 x7_1 x8_11 x9_11 x10_1 t104 (wrap64 (x14_5 + 1)) (wrap64 (t102 + x10_1)) x106001_4 y112 x8_11 x9_11 (-1)) = some r := by first | (rw [hy112]; with_reducible exact H) | (have H2_ := (Option.bind_some _ _).symm.trans H; rw [hy112]; with_reducible exact H2_) | (have H2_ := (Option.bind_some _ _).symm.trans H; with_reducible exact H2_) | with_reducible exact H | (rw [hy112]; exact H) | exact H
                  have Ny112 := Aside0.mk hy112
                  clear hy112
                  have H' := Aside0.mk H
                  clear H
                  have hcz37_0 : wr.cell? ⟨gb105, 0, none⟩ = some (.int .i64 (wrap64 (t102 + x10_1))) := (blk_cell BK105.out 0).trans rfl
                  have hcz37_1 : wr.cell? ⟨gb105, 1, none⟩ = some (u106001) := (blk_cell BK105.out 1).trans rfl
                  have hcz37_2 : wr.cell? ⟨gb105, 2, none⟩ = some (u106002) := (blk_cell BK105.out 2).trans rfl
                  have hcz37_3 : wr.cell? ⟨gb105, 3, none⟩ = some (.int .u64 x8_11) := (blk_cell BK105.out 3).trans rfl
                  have hcz37_4 : wr.cell? ⟨gb105, 4, none⟩ = some (.int .u64 x9_11) := (blk_cell BK105.out 4).trans rfl
                  have hcz37_5 : wr.cell? ⟨gb105, 5, none⟩ = some (.int .i64 (-1)) := (blk_cell BK105.out 5).trans rfl
                  have hfz37_0 := blk_frozen BK105.out 0
                  have hfz37_1 := blk_frozen BK105.out 1
                  have hfz37_2 := blk_frozen BK105.out 2
                  have hfz37_3 := blk_frozen BK105.out 3
                  have hfz37_4 := blk_frozen BK105.out 4
                  have hfz37_5 := blk_frozen BK105.out 5
                  go_wp2_with (first | ((with_reducible refine gate_builtin (b := .append) (xs := #[.tmp 93, .tmp 110]) rfl ?_); at_builtin; refine Kd.R_append k43 (w0 := w) w.heap.size rfl (.tmp 93) (.tmp 110) 38 43 (.agg #[(.int .i64 0), (.int .i64 0), (.bool false)]) 24 rfl Tryd.underlying38 info43 rfl (by decide) (by omega) u106002 x106002_5 (⟨wrap64 ((Int.tmod (wrap64 ((wrap64 (Int.tdiv t104 270)) + (wrap64 (7 * x14_5)))) 4) - 1), Int.tmod (wrap64 (Int.tdiv (wrap64 ((wrap64 (Int.tdiv t104 270)) + (wrap64 (7 * x14_5)))) 4)) 3, false⟩ : S43) [.int .i64 (wrap64 ((Int.tmod (wrap64 ((wrap64 (Int.tdiv t104 270)) + (wrap64 (7 * x14_5)))) 4) - 1)), .int .i64 (Int.tmod (wrap64 (Int.tdiv (wrap64 ((wrap64 (Int.tdiv t104 270)) + (wrap64 (7 * x14_5)))) 4)) 3), .bool false] (fun _ => True) (fun _ => False) rfl rfl ?aP (fun _ hk => hk.elim) ?aF ?aO ?aB ?aS ?aL ?_; (case aP => exact k43_mkM _ _ _ (⟨wrap64 ((Int.tmod (wrap64 ((wrap64 (Int.tdiv t104 270)) + (wrap64 (7 * x14_5)))) 4) - 1), Int.tmod (wrap64 (Int.tdiv (wrap64 ((wrap64 (Int.tdiv t104 270)) + (wrap64 (7 * x14_5)))) 4)) 3, false⟩ : S43)); (case aB => exact (by repeat (first | (with_reducible first | exact HB.out | apply below_alloc | apply pw_below_drewN | apply below_drew1 | refine below_set ?_ GE105.out) | exact HB.out))); (case aF => exact (fun _ _ => trivial)); (case aO => exact (by (with_reducible repeat (first | apply Kd.R_alloc | apply Kd.R_drewN | apply Kd.R_drew)); exact HO_106002.out)); (case aS => exact (below_size (by repeat (first | (with_reducible first | exact HB.out | apply below_alloc | apply pw_below_drewN | apply below_drew1 | refine below_set ?_ GE105.out) | exact HB.out)))); (case aL => have := LMc36.out; omega); intro v113 w38 ho hb hg hat; rw [← Ny112.out] at ho; have n0_ := Aside0.mk (Kd.S_after (ok := (fun k_ => some k_ ≠ (u106001 : Value).ownBlock ∧ k_ ≠ gb105)) (by (with_reducible repeat (first | apply Kd.S_alloc | apply Kd.S_drewN | apply Kd.S_drew)); exact Kd.S_mono HO_7.out (fun _ hk => ⟨⟨hk.1, hk.2.2⟩, hk.2.1⟩)) hg hat); have n1_ := Aside0.mk (Kd.R_over' (by (with_reducible repeat (first | apply Kd.R_alloc | apply Kd.R_drewN | apply Kd.R_drew)); exact HO_106001.out) (Kd.R_typed (by (with_reducible repeat (first | apply Kd.R_alloc | apply Kd.R_drewN | apply Kd.R_drew)); exact HO_106002.out)) (by decide) hg); have n2_ := Aside0.mk (blk_grown (g := gb105) (o := .cells #[.int .i64 (wrap64 (t102 + x10_1)), u106001, u106002, .int .u64 x8_11, .int .u64 x9_11, .int .i64 (-1)] 41 (0, 0)) (by (with_reducible repeat (first | refine blk_drewN ?_ _ | refine blk_drew ?_ | refine blk_alloc ?_ _)); exact BK105.out) hg (Kd.R_ne HO_106002.out BK105.out (by decide))); have n3_ := Aside0.mk (hb); have n4_ := Aside0.mk (ho); clear HO_7; clear HO_106001; clear BK105; clear HB; clear HO_106002; have HO_7 := n0_; have HO_106001 := n1_; have BK105 := n2_; have HB := n3_; have HO114 := n4_; clear n0_ n1_ n2_ n3_ n4_; clear ho hb hg hat; obtain ⟨Ao39, co39, eo39⟩ := Kd.R_slice HO114.out; subst eo39; have hcz40_0 : w38.cell? ⟨gb105, 0, none⟩ = some (.int .i64 (wrap64 (t102 + x10_1))) := (blk_cell BK105.out 0).trans rfl; have hcz40_1 : w38.cell? ⟨gb105, 1, none⟩ = some (u106001) := (blk_cell BK105.out 1).trans rfl; have hcz40_2 : w38.cell? ⟨gb105, 2, none⟩ = some (u106002) := (blk_cell BK105.out 2).trans rfl; have hcz40_3 : w38.cell? ⟨gb105, 3, none⟩ = some (.int .u64 x8_11) := (blk_cell BK105.out 3).trans rfl; have hcz40_4 : w38.cell? ⟨gb105, 4, none⟩ = some (.int .u64 x9_11) := (blk_cell BK105.out 4).trans rfl; have hcz40_5 : w38.cell? ⟨gb105, 5, none⟩ = some (.int .i64 (-1)) := (blk_cell BK105.out 5).trans rfl; have hfz40_0 := blk_frozen BK105.out 0; have hfz40_1 := blk_frozen BK105.out 1; have hfz40_2 := blk_frozen BK105.out 2; have hfz40_3 := blk_frozen BK105.out 3; have hfz40_4 := blk_frozen BK105.out 4; have hfz40_5 := blk_frozen BK105.out 5))
                  go_roundg k5
                  case measure => have := HK1.out; have := HJ5.out; have := HJ11.out; have := HK4.out; have := HK5.out; omega
                  case rel => exact ⟨(wrap64 (x14_5 + 1)), (y112), (.slice Ao39 y112.length co39), (by first | rfl | (simp; done) | (simp [*]; done)), H', ⟨by have := HK1.out; have := HJ5.out; have := HJ11.out; have := HK4.out; have := HK5.out; omega⟩, ⟨by (with_reducible repeat (first | apply Kd.S_alloc | apply Kd.S_drewN | apply Kd.S_drew)); exact Kd.S_mono (Kd.S_far (p := ⟨gb105, 2, none⟩) (Kd.S_mono HO_7.out (fun k_ hk => (⟨hk, hk.1.2⟩ : _ ∧ k_ ≠ gb105))) (fun _ hk => hk.2) (.slice Ao39 y112.length co39)) (fun _ hk => ⟨hk.1.1.1, ⟨hk.1.2, hk.1.1.2⟩⟩)⟩, ⟨by (with_reducible repeat (first | apply Kd.R_alloc | apply Kd.R_drewN | apply Kd.R_drew)); exact Kd.R_mono (Kd.R_far (p := ⟨gb105, 2, none⟩) (Kd.R_types HO_106001.out BK105.out (by decide)) (fun _ hk => hk.2) (.slice Ao39 y112.length co39)) (fun _ hk => trivial)⟩, ⟨by (with_reducible repeat (first | apply Kd.R_alloc | apply Kd.R_drewN | apply Kd.R_drew)); exact Kd.R_mono (Kd.R_far (p := ⟨gb105, 2, none⟩) (Kd.R_types HO114.out BK105.out (by decide)) (fun _ hk => hk.2) (.slice Ao39 y112.length co39)) (fun _ hk => trivial)⟩, ⟨by (with_reducible repeat (first | refine blk_drewN ?_ _ | refine blk_drew ?_ | refine blk_alloc ?_ _)); refine blk_put (cs := #[.int .i64 (wrap64 (t102 + x10_1)), u106001, u106002, .int .u64 x8_11, .int .u64 x9_11, .int .i64 (-1)]) ?_ 2 _ rfl; (with_reducible repeat (first | refine blk_drewN ?_ _ | refine blk_drew ?_ | refine blk_alloc ?_ _)); exact BK105.out⟩, ⟨by repeat (first | (with_reducible first | exact HB.out | apply below_alloc | apply pw_below_drewN | apply below_drew1 | refine below_set ?_ GE105.out) | exact HB.out)⟩⟩
                 ·rw [if_neg c36] at H
                  exact absurd H (by simp)
               ·rw [if_neg c29] at H
                have c29b0 : decide (x14_5 < (wrap64 (1 + t101))) = false := decide_eq_false c29
                clear c29
                by_cases c41 : x7_1.length < 1759218604441
                ·rw [if_pos c41] at H
                 have LMc41 := Aside0.mk c41
                 clear c41
                 obtain ⟨y115, hy115⟩ : ∃ y_ : List (S41), y_ = (x7_1 ++ [(⟨(wrap64 (t102 + x10_1)), x106001_4, x106002_5, x8_11, x9_11, (-1)⟩ : S41)]) := ⟨_, rfl⟩
                 replace H : (tipstafflaw43_made.l0 k5 (wrap64 (1 + t101)) t102 l2 y115 x8_11 x9_11 (wrap64 (x10_1 + 1))) = some r := by first | (rw [hy115]; with_reducible exact H) | (have H2_ := (Option.bind_some _ _).symm.trans H; rw [hy115]; with_reducible exact H2_) | (have H2_ := (Option.bind_some _ _).symm.trans H; with_reducible exact H2_) | with_reducible exact H | (rw [hy115]; exact H) | exact H
                 have Ny115 := Aside0.mk hy115
                 clear hy115
                 have H' := Aside0.mk H
                 clear H
                 have hcz42_0 : wr.cell? ⟨gb105, 0, none⟩ = some (.int .i64 (wrap64 (t102 + x10_1))) := (blk_cell BK105.out 0).trans rfl
                 have hcz42_1 : wr.cell? ⟨gb105, 1, none⟩ = some (u106001) := (blk_cell BK105.out 1).trans rfl
                 have hcz42_2 : wr.cell? ⟨gb105, 2, none⟩ = some (u106002) := (blk_cell BK105.out 2).trans rfl
                 have hcz42_3 : wr.cell? ⟨gb105, 3, none⟩ = some (.int .u64 x8_11) := (blk_cell BK105.out 3).trans rfl
                 have hcz42_4 : wr.cell? ⟨gb105, 4, none⟩ = some (.int .u64 x9_11) := (blk_cell BK105.out 4).trans rfl
                 have hcz42_5 : wr.cell? ⟨gb105, 5, none⟩ = some (.int .i64 (-1)) := (blk_cell BK105.out 5).trans rfl
                 have hfz42_0 := blk_frozen BK105.out 0
                 have hfz42_1 := blk_frozen BK105.out 1
                 have hfz42_2 := blk_frozen BK105.out 2
                 have hfz42_3 := blk_frozen BK105.out 3
                 have hfz42_4 := blk_frozen BK105.out 4
                 have hfz42_5 := blk_frozen BK105.out 5
                 obtain ⟨Ao44, co44, eo44⟩ := Kd.R_slice HO_106001.out
                 subst eo44
                 obtain ⟨Ao45, co45, eo45⟩ := Kd.R_slice HO_106002.out
                 subst eo45
                 go_wp2_with (first | ((with_reducible refine gate_builtin (b := .append) (xs := #[.tmp 113, .tmp 115]) rfl ?_); at_builtin; refine Kd.S_append k41 (w0 := w) w.heap.size rfl (.tmp 113) (.tmp 115) 24 41 (.agg #[(.int .i64 0), (.slice none 0 0), (.slice none 0 0), (.int .u64 0), (.int .u64 0), (.int .i64 0)]) 80 rfl Tryd.underlying24 info41 rfl (by decide) (by omega) u7 x7_1 (⟨(wrap64 (t102 + x10_1)), x106001_4, x106002_5, x8_11, x9_11, (-1)⟩ : S41) [.int .i64 (wrap64 (t102 + x10_1)), .slice Ao44 x106001_4.length co44, .slice Ao45 x106002_5.length co45, .int .u64 x8_11, .int .u64 x9_11, .int .i64 (-1)] (fun k_ => k_ ≠ gb105) (fun k_ => some k_ = (.slice Ao44 x106001_4.length co44 : Value).ownBlock ∨ some k_ = (.slice Ao45 x106002_5.length co45 : Value).ownBlock) rfl rfl ?aP (fun k_ hk_ => hk_.elim (fun h_ => ((Kd.R_mono (ok' := fun k_ => ((fun k_ => k_ ≠ gb105)) k_ ∧ some k_ ≠ (u7 : Value).ownBlock) (Kd.R_types (Kd.R_apart' (HO_106001.out) (Kd.S_typed HO_7.out) (by decide)) BK105.out (by decide)) (fun k_ hk => ⟨hk.2, hk.1.2⟩))).1 k_ h_.symm) (fun h_ => ((Kd.R_mono (ok' := fun k_ => ((fun k_ => k_ ≠ gb105)) k_ ∧ some k_ ≠ (u7 : Value).ownBlock) (Kd.R_types (Kd.R_apart' (HO_106002.out) (Kd.S_typed HO_7.out) (by decide)) BK105.out (by decide)) (fun k_ hk => ⟨hk.2, hk.1.2⟩))).1 k_ h_.symm)) ?aF ?aO ?aB ?aS ?aL ?_; (case aP => exact k41_mkM _ _ _ (⟨(wrap64 (t102 + x10_1)), x106001_4, x106002_5, x8_11, x9_11, (-1)⟩ : S41) (Kd.R_mono (Kd.R_tight rfl (Kd.R_mono (ok' := fun k_ => ((fun k_ => k_ ≠ gb105)) k_ ∧ some k_ ≠ (u7 : Value).ownBlock) (Kd.R_types (Kd.R_apart' (HO_106001.out) (Kd.S_typed HO_7.out) (by decide)) BK105.out (by decide)) (fun k_ hk => ⟨hk.2, hk.1.2⟩))) (fun _ h_ => Or.inl h_)) (Kd.R_mono (Kd.R_tight rfl (Kd.R_mono (ok' := fun k_ => ((fun k_ => k_ ≠ gb105)) k_ ∧ some k_ ≠ (u7 : Value).ownBlock) (Kd.R_types (Kd.R_apart' (HO_106002.out) (Kd.S_typed HO_7.out) (by decide)) BK105.out (by decide)) (fun k_ hk => ⟨hk.2, hk.1.2⟩))) (fun _ h_ => Or.inr (h_)))); (case aB => exact (by repeat (first | (with_reducible first | exact HB.out | apply below_alloc | apply pw_below_drewN | apply below_drew1 | refine below_set ?_ GE105.out) | exact HB.out))); (case aF => exact (fun k_ hk => Kd.freshB (g := gb105) (o := .cells #[.int .i64 (wrap64 (t102 + x10_1)), .slice Ao44 x106001_4.length co44, .slice Ao45 x106002_5.length co45, .int .u64 x8_11, .int .u64 x9_11, .int .i64 (-1)] 41 (0, 0)) (by (with_reducible repeat (first | refine blk_drewN ?_ _ | refine blk_drew ?_ | refine blk_alloc ?_ _)); exact BK105.out) k_ hk)); (case aO => exact (by (with_reducible repeat (first | apply Kd.S_alloc | apply Kd.S_drewN | apply Kd.S_drew)); exact Kd.S_mono HO_7.out (fun k_ hk => ⟨hk.2.2, fun e_ => e_.elim (fun h_ => hk.1 h_) (fun h_ => hk.2.1 h_)⟩))); (case aS => exact (below_size (by repeat (first | (with_reducible first | exact HB.out | apply below_alloc | apply pw_below_drewN | apply below_drew1 | refine below_set ?_ GE105.out) | exact HB.out)))); (case aL => have := LMc41.out; omega); intro v116 w43 ho hb hg hat; rw [← Ny115.out] at ho; have n0_ := Aside0.mk (blk_grown (g := gb105) (o := .cells #[.int .i64 (wrap64 (t102 + x10_1)), .slice Ao44 x106001_4.length co44, .slice Ao45 x106002_5.length co45, .int .u64 x8_11, .int .u64 x9_11, .int .i64 (-1)] 41 (0, 0)) (by (with_reducible repeat (first | refine blk_drewN ?_ _ | refine blk_drew ?_ | refine blk_alloc ?_ _)); exact BK105.out) hg (Kd.S_away HO_7.out (fun _ hk => hk.2.2))); have n1_ := Aside0.mk (hb); have n2_ := Aside0.mk (ho); clear BK105; clear HB; clear HO_7; clear HO_106001; clear HO_106002; have BK105 := n0_; have HB := n1_; have HO117 := n2_; clear n0_ n1_ n2_; clear ho hb hg hat))
                 go_roundg k5
                 case measure => have := HK1.out; have := HJ5.out; have := HJ11.out; have := HK4.out; have := HK5.out; omega
                 case rel => exact ⟨(y115), (x8_11), (x9_11), (wrap64 (x10_1 + 1)), (by first | rfl | (simp; done) | (simp [*]; done)), (by first | rfl | (simp; done) | (simp [*]; done)), (by first | rfl | (simp; done) | (simp [*]; done)), H', ⟨by have := HK1.out; have := HJ5.out; have := HJ11.out; have := HK4.out; have := HK5.out; omega⟩, ⟨by (with_reducible repeat (first | apply Kd.S_alloc | apply Kd.S_drewN | apply Kd.S_drew)); exact Kd.S_mono HO117.out (fun _ hk => trivial)⟩, ⟨by repeat (first | (with_reducible first | exact HB.out | apply below_alloc | apply pw_below_drewN | apply below_drew1 | refine below_set ?_ GE105.out) | exact HB.out)⟩⟩
                ·rw [if_neg c41] at H
                 exact absurd H (by simp)
       ·rw [if_neg c10] at H
        exact absurd H (by simp)
      ·rw [if_neg c9] at H
       exact absurd H (by simp)
     ·replace c8 := Bool.eq_false_iff.mpr c8
      subst c8
      have H1 : (some x7_1) = some r := by rw [if_neg (show ¬ (false = true) by decide)] at H; exact H
      clear H
      have H := H1
      clear H1
      obtain rfl := Option.some.inj H
      go_wp2
      go_ret
      exact ⟨_, by first | rfl | (simp [errW_none, errW_some] <;> rfl) | (simp [*, errW_none, errW_some] <;> rfl) | (simp (discharger := omega) only [Int.tdiv_eq_ediv_of_nonneg, Int.tmod_eq_emod_of_nonneg] <;> rfl), by (with_reducible repeat (first | apply Kd.S_alloc | apply Kd.S_drewN | apply Kd.S_drew)); exact HO_7.out, by repeat (first | (with_reducible first | exact HB.out | apply below_alloc | apply pw_below_drewN | apply below_drew1) | exact HB.out)⟩

end Go.Proofs.YtenlokaaloenmaaDoor.S
