import Derived.Test.YtocbjclflabmcaaS0
import Derived.Test.YtocbjclflabmcaaS1
import Derived.Test.YtocbjclflabmcaaS15
import Derived.Test.YtocbjclflabmcaaS16
import Derived.Test.YtocbjclflabmcaaS18
import Derived.Test.YtocbjclflabmcaaHleft
import Derived.Test.YtocbjclflabmcaaHpath
import Derived.Test.YtocbjclflabmcaaHruns
import Derived.Test.YtocbjclflabmcaaMtA
namespace Go.Proofs.Ytocbjclflabmcaa.S
open Go.RowKit Go.Proofs.YtocbjclflabmcaaW.PrintWords Go.Proofs.YtocbjclflabmcaaW.PrintLast Go.Proofs.YtocbjclflabmcaaW.PrintMore
attribute [local go_sem] Go.Proofs.YtocbjclflabmcaaW.PrintXtra.isSome_setCell max2_int min2_int max_two min_two max_three min_three max_four min_four   -- for this text's walks alone
set_option linter.unusedVariables false
set_option linter.unusedSimpArgs false

attribute [local go_sem high] eqA23

def tipstafflaw09_MotionTravels.fB (k : Nat) (a0 : Int) (a1 : Int) (a2 : Int) (a3 : Int) (a4 : Int) : Option (Bool) := (tipstafflaw09_MotionKnown.f k).bind fun t393 => ((tipstafflaw09_made.f a0 a1 a2 0).bind fun bt394 => ((tipstaffkit_Mod.f a3 40).bind fun t400 => ((tipstaffkit_Mod.f a4 40).bind fun t401 => ((motion_Left.f k bt394.1 bt394.2.1 bt394.2.2.1 bt394.2.2.2.1).bind fun bt402 => ((tipstafflaw09_far.f bt394.1 bt394.2.1).bind fun t404 => ((tipstaffref08_Travel.f k t404 bt394.2.2.2.1).bind fun bt405 => ((motion_Run.f bt394.1 bt394.2.1 bt394.2.2.1 bt394.2.2.2.1 t400).bind fun bt407 => ((motion_Run.f bt407.1 bt407.2.1 bt407.2.2.1 bt407.2.2.2.1 t401).bind fun bt413 => ((motion_Run.f bt394.1 bt394.2.1 bt394.2.2.1 bt394.2.2.2.1 (wrap64 (t400 + t401))).bind fun bt419 => ((motion_Path.f k bt394.1 bt394.2.1 bt394.2.2.1 bt394.2.2.2.1 (wrap64 (t400 + t401))).bind fun bt425 => (if bt394.2.2.2.2 = true then (if bt402.2 = 0 then (if bt405.2 = 0 then (if bt402.1 = bt405.1 then (if bt407.2.2.2.2 = 0 then (if bt413.2.2.2.2 = 0 then (if bt419.2.2.2.2 = 0 then (if bt425.2 = 0 then (if (!(bt413.1 == bt419.1) || (!(bt413.2.1 == bt419.2.1) || (!(bt413.2.2.1 == bt419.2.2.1) || (!(bt413.2.2.2.1 == bt419.2.2.2.1))))) = true then (none) else (if (bt425.1.length : Int) = (mn (wrap64 (t400 + t401)) bt402.1) then (if t393 = true then (if (bt425.1.length : Int) = 0 then (none) else (if 0 ≤ (wrap64 ((bt425.1.length : Int) - 1)) then (if (wrap64 ((bt425.1.length : Int) - 1)) < (bt425.1.length : Int) then (if (rd bt425.1 (wrap64 ((bt425.1.length : Int) - 1))) = bt419.1 then (if t400 = 0 then (some true) else (if t400 > (bt425.1.length : Int) then (some true) else (if 0 ≤ (wrap64 (t400 - 1)) then (if (wrap64 (t400 - 1)) < (bt425.1.length : Int) then (some ((rd bt425.1 (wrap64 (t400 - 1))) == bt407.1)) else (none)) else (none)))) else (none)) else (none)) else (none))) else (none)) else (none))) else (none)) else (none)) else (none)) else (none)) else (none)) else (none)) else (none)) else (none))))))))))))
set_option maxHeartbeats 8000000 in
set_option maxRecDepth 100000 in
theorem tipstafflaw09_MotionTravels.callsB (k : Nat) (a0 : Int) (a1 : Int) (a2 : Int) (a3 : Int) (a4 : Int) (r : Bool) (w : World) (h : tipstafflaw09_MotionTravels.fB k a0 a1 a2 a3 a4 = some r) :
  Calls Try.prog 7 #[.int .i64 a0, .int .i64 a1, .int .i64 a2, .int .i64 a3, .int .i64 a4] w fun e w' => e = .returned (.bool r) ∧ Below w.heap.size w w' := by
 have hu23 := Try.underlying23
 have HB := Aside0.mk (Below.refl w.heap.size w)
 have H : ((tipstafflaw09_MotionKnown.f k).bind fun t393 => ((tipstafflaw09_made.f a0 a1 a2 0).bind fun bt394 => ((tipstaffkit_Mod.f a3 40).bind fun t400 => ((tipstaffkit_Mod.f a4 40).bind fun t401 => ((motion_Left.f k bt394.1 bt394.2.1 bt394.2.2.1 bt394.2.2.2.1).bind fun bt402 => ((tipstafflaw09_far.f bt394.1 bt394.2.1).bind fun t404 => ((tipstaffref08_Travel.f k t404 bt394.2.2.2.1).bind fun bt405 => ((motion_Run.f bt394.1 bt394.2.1 bt394.2.2.1 bt394.2.2.2.1 t400).bind fun bt407 => ((motion_Run.f bt407.1 bt407.2.1 bt407.2.2.1 bt407.2.2.2.1 t401).bind fun bt413 => ((motion_Run.f bt394.1 bt394.2.1 bt394.2.2.1 bt394.2.2.2.1 (wrap64 (t400 + t401))).bind fun bt419 => ((motion_Path.f k bt394.1 bt394.2.1 bt394.2.2.1 bt394.2.2.2.1 (wrap64 (t400 + t401))).bind fun bt425 => (if bt394.2.2.2.2 = true then (if bt402.2 = 0 then (if bt405.2 = 0 then (if bt402.1 = bt405.1 then (if bt407.2.2.2.2 = 0 then (if bt413.2.2.2.2 = 0 then (if bt419.2.2.2.2 = 0 then (if bt425.2 = 0 then (if (!(bt413.1 == bt419.1) || (!(bt413.2.1 == bt419.2.1) || (!(bt413.2.2.1 == bt419.2.2.1) || (!(bt413.2.2.2.1 == bt419.2.2.2.1))))) = true then (none) else (if (bt425.1.length : Int) = (mn (wrap64 (t400 + t401)) bt402.1) then (if t393 = true then (if (bt425.1.length : Int) = 0 then (none) else (if 0 ≤ (wrap64 ((bt425.1.length : Int) - 1)) then (if (wrap64 ((bt425.1.length : Int) - 1)) < (bt425.1.length : Int) then (if (rd bt425.1 (wrap64 ((bt425.1.length : Int) - 1))) = bt419.1 then (if t400 = 0 then (some true) else (if t400 > (bt425.1.length : Int) then (some true) else (if 0 ≤ (wrap64 (t400 - 1)) then (if (wrap64 (t400 - 1)) < (bt425.1.length : Int) then (some ((rd bt425.1 (wrap64 (t400 - 1))) == bt407.1)) else (none)) else (none)))) else (none)) else (none)) else (none))) else (none)) else (none))) else (none)) else (none)) else (none)) else (none)) else (none)) else (none)) else (none)) else (none))))))))))))) = some r := h
 clear h
 replace H := Option.bind_eq_some_iff.mp H
 obtain ⟨t393, A60, H⟩ := H
 try dsimp only at H
 have A6 := Aside0.mk A60
 clear A60
 replace H := Option.bind_eq_some_iff.mp H
 obtain ⟨⟨t394, t395, t396, t397, t398⟩, A70, H⟩ := H
 try dsimp only at H
 have A7 := Aside0.mk A70
 clear A70
 replace H := Option.bind_eq_some_iff.mp H
 obtain ⟨t400, A80, H⟩ := H
 try dsimp only at H
 have A8 := Aside0.mk A80
 clear A80
 replace H := Option.bind_eq_some_iff.mp H
 obtain ⟨t401, A90, H⟩ := H
 try dsimp only at H
 have A9 := Aside0.mk A90
 clear A90
 replace H := Option.bind_eq_some_iff.mp H
 obtain ⟨⟨t402, t403⟩, A100, H⟩ := H
 try dsimp only at H
 have A10 := Aside0.mk A100
 clear A100
 replace H := Option.bind_eq_some_iff.mp H
 obtain ⟨t404, A110, H⟩ := H
 try dsimp only at H
 have A11 := Aside0.mk A110
 clear A110
 replace H := Option.bind_eq_some_iff.mp H
 obtain ⟨⟨t405, t406⟩, A120, H⟩ := H
 try dsimp only at H
 have A12 := Aside0.mk A120
 clear A120
 replace H := Option.bind_eq_some_iff.mp H
 obtain ⟨⟨t407, t408, t409, t410, t411⟩, A130, H⟩ := H
 try dsimp only at H
 have A13 := Aside0.mk A130
 clear A130
 replace H := Option.bind_eq_some_iff.mp H
 obtain ⟨⟨t413, t414, t415, t416, t417⟩, A140, H⟩ := H
 try dsimp only at H
 have A14 := Aside0.mk A140
 clear A140
 replace H := Option.bind_eq_some_iff.mp H
 obtain ⟨⟨t419, t420, t421, t422, t423⟩, A150, H⟩ := H
 try dsimp only at H
 have A15 := Aside0.mk A150
 clear A150
 replace H := Option.bind_eq_some_iff.mp H
 obtain ⟨⟨t425, t428⟩, A160, H⟩ := H
 try dsimp only at H
 have A16 := Aside0.mk A160
 clear A160
 by_cases c17 : t398 = true
 ·subst c17
  have H1 := H
  rw [if_pos rfl] at H1
  clear H
  have H := H1
  clear H1
  by_cases c18 : t403 = 0
  ·rw [if_pos c18] at H
   have c18b0 : (t403 == 0) = true := beq_iff_eq.mpr c18
   have c18b1 : (t403 != 0) = false := bne_eq_false_iff_eq.mpr c18
   clear c18
   by_cases c19 : t406 = 0
   ·rw [if_pos c19] at H
    have c19b0 : (t406 == 0) = true := beq_iff_eq.mpr c19
    have c19b1 : (t406 != 0) = false := bne_eq_false_iff_eq.mpr c19
    clear c19
    by_cases c20 : t402 = t405
    ·rw [if_pos c20] at H
     have c20b0 : (t402 == t405) = true := beq_iff_eq.mpr c20
     have c20b1 : (t402 != t405) = false := bne_eq_false_iff_eq.mpr c20
     clear c20
     by_cases c21 : t411 = 0
     ·rw [if_pos c21] at H
      have c21b0 : (t411 == 0) = true := beq_iff_eq.mpr c21
      have c21b1 : (t411 != 0) = false := bne_eq_false_iff_eq.mpr c21
      clear c21
      by_cases c22 : t417 = 0
      ·rw [if_pos c22] at H
       have c22b0 : (t417 == 0) = true := beq_iff_eq.mpr c22
       have c22b1 : (t417 != 0) = false := bne_eq_false_iff_eq.mpr c22
       clear c22
       by_cases c23 : t423 = 0
       ·rw [if_pos c23] at H
        have c23b0 : (t423 == 0) = true := beq_iff_eq.mpr c23
        have c23b1 : (t423 != 0) = false := bne_eq_false_iff_eq.mpr c23
        clear c23
        by_cases c24 : t428 = 0
        ·rw [if_pos c24] at H
         have c24b0 : (t428 == 0) = true := beq_iff_eq.mpr c24
         have c24b1 : (t428 != 0) = false := bne_eq_false_iff_eq.mpr c24
         clear c24
         by_cases c25 : (!(t413 == t419) || (!(t414 == t420) || (!(t415 == t421) || (!(t416 == t422))))) = true
         ·rw [if_pos c25] at H
          exact absurd H (by simp)
         ·rw [if_neg c25] at H
          have c25b0 : (!(t413 == t419) || (!(t414 == t420) || (!(t415 == t421) || (!(t416 == t422))))) = false := by simpa using c25
          clear c25
          obtain ⟨ji26, hji26⟩ : ∃ j_ : Int, (mn (wrap64 (t400 + t401)) t402) = j_ := ⟨_, rfl⟩
          replace H : (if (t425.length : Int) = (ji26) then (if t393 = true then (if (t425.length : Int) = 0 then (none) else (if 0 ≤ (wrap64 ((t425.length : Int) - 1)) then (if (wrap64 ((t425.length : Int) - 1)) < (t425.length : Int) then (if (rd t425 (wrap64 ((t425.length : Int) - 1))) = t419 then (if t400 = 0 then (some true) else (if t400 > (t425.length : Int) then (some true) else (if 0 ≤ (wrap64 (t400 - 1)) then (if (wrap64 (t400 - 1)) < (t425.length : Int) then (some ((rd t425 (wrap64 (t400 - 1))) == t407)) else (none)) else (none)))) else (none)) else (none)) else (none))) else (none)) else (none)) = some r := by first | (rw [hji26] at H; exact H) | (simp only [hji26] at H ⊢; exact H)
          (try rw [hji26] at A6)
          (try rw [hji26] at A7)
          (try rw [hji26] at A8)
          (try rw [hji26] at A9)
          (try rw [hji26] at A10)
          (try rw [hji26] at A11)
          (try rw [hji26] at A12)
          (try rw [hji26] at A13)
          (try rw [hji26] at A14)
          (try rw [hji26] at A15)
          (try rw [hji26] at A16)
          have hji26_ : (if t402 < (wrap64 (t400 + t401)) then t402 else (wrap64 (t400 + t401))) = ji26 := hji26
          by_cases c27 : (t425.length : Int) = (ji26)
          ·rw [if_pos c27] at H
           have c27b0 : ((t425.length : Int) == (ji26)) = true := beq_iff_eq.mpr c27
           have c27b1 : ((t425.length : Int) != (ji26)) = false := bne_eq_false_iff_eq.mpr c27
           clear c27
           by_cases c28 : t393 = true
           ·subst c28
            have H1 := H
            rw [if_pos rfl] at H1
            clear H
            have H := H1
            clear H1
            by_cases c29 : (t425.length : Int) = 0
            ·rw [if_pos c29] at H
             exact absurd H (by simp)
            ·rw [if_neg c29] at H
             have c29b0 : ((t425.length : Int) == 0) = false := beq_eq_false_iff_ne.mpr c29
             have c29b1 : ((t425.length : Int) != 0) = true := bne_iff_ne.mpr c29
             have c29b2 : ¬ (t425 = []) := fun h_ => c29 (by rw [h_]; rfl)
             obtain ⟨ji128, hji128⟩ : ∃ j_ : Int, (wrap64 ((t425.length : Int) - 1)) = j_ := ⟨_, rfl⟩
             replace H : (if 0 ≤ (ji128) then (if (ji128) < (t425.length : Int) then (if (rd t425 (ji128)) = t419 then (if t400 = 0 then (some true) else (if t400 > (t425.length : Int) then (some true) else (if 0 ≤ (wrap64 (t400 - 1)) then (if (wrap64 (t400 - 1)) < (t425.length : Int) then (some ((rd t425 (wrap64 (t400 - 1))) == t407)) else (none)) else (none)))) else (none)) else (none)) else (none)) = some r := by first | (rw [hji128] at H; exact H) | (simp only [hji128] at H ⊢; exact H)
             (try rw [hji128] at A6)
             (try rw [hji128] at A7)
             (try rw [hji128] at A8)
             (try rw [hji128] at A9)
             (try rw [hji128] at A10)
             (try rw [hji128] at A11)
             (try rw [hji128] at A12)
             (try rw [hji128] at A13)
             (try rw [hji128] at A14)
             (try rw [hji128] at A15)
             (try rw [hji128] at A16)
             have hji128w : (IntKind.i64.wrap ((t425.length : Int) - 1)) = ji128 := (i64_w _).trans hji128
             by_cases c129 : 0 ≤ (ji128)
             ·rw [if_pos c129] at H
              have c129b0 : decide (0 ≤ (ji128)) = true := decide_eq_true c129
              clear c129
              by_cases c130 : (ji128) < (t425.length : Int)
              ·rw [if_pos c130] at H
               have c130b0 : decide ((ji128) < (t425.length : Int)) = true := decide_eq_true c130
               clear c130
               by_cases c131 : (rd t425 (ji128)) = t419
               ·rw [if_pos c131] at H
                have c131b0 : ((rd t425 (ji128)) == t419) = true := beq_iff_eq.mpr c131
                have c131b1 : ((rd t425 (ji128)) != t419) = false := bne_eq_false_iff_eq.mpr c131
                clear c131
                have HH_ := Aside0.mk H
                clear H
                go_enter Try.func7, Try.ntmps7
                try go_wp2_with (first | ((with_reducible refine gate_callee (f := 5) rfl ?_); refine goesL_ (some 26) rfl rfl Try.func5 (by kernel_rfl) rfl #[] rfl (by (try simp only [List.map_toArray, List.map_cons, List.map_nil]); first | done | rfl | (simp only [List.length_drop, List.length_take]; rfl)) ?_; (with_reducible refine (tipstafflaw09_MotionKnown.calls k  true _ A6.out).mono ?_); rintro e w133 ⟨rfl, hb⟩; refine ⟨_, rfl, ?_⟩; have n0_ := Aside0.mk (below_step (by repeat (first | (with_reducible first | exact HB.out | apply below_alloc | apply pw_below_drewN | apply below_drew1) | exact HB.out)) hb); clear HB; have HB := n0_; clear n0_; (try clear hb); (try clear hb2); (try clear hk); (try clear hi)) | ((with_reducible refine gate_callee (f := 32) rfl ?_); refine goesL_ (some 31) rfl rfl Try.func32 (by kernel_rfl) rfl #[.int .i64 a0, .int .i64 a1, .int .i64 a2, .int .i64 0] rfl (by (try simp only [List.map_toArray, List.map_cons, List.map_nil]); first | done | rfl | (simp only [List.length_drop, List.length_take]; rfl)) ?_; (with_reducible refine (tipstafflaw09_made.calls a0 a1 a2 0 t394 t395 t396 t397 true _ A7.out).mono ?_); rintro e w134 ⟨rfl, hb⟩; refine ⟨_, rfl, ?_⟩; have n0_ := Aside0.mk (below_step (by repeat (first | (with_reducible first | exact HB.out | apply below_alloc | apply pw_below_drewN | apply below_drew1) | exact HB.out)) hb); clear HB; have HB := n0_; clear n0_; (try clear hb); (try clear hb2); (try clear hk); (try clear hi)) | ((with_reducible refine gate_dst (N := 12) rfl ?_); (try (refine gate_guard (by rfl) ?_; dsimp only)); refine box_event ?hg (N := 12) ?hd (cs := #[.int .i64 0, .int .i64 0, .int .i64 0, .int .i64 0]) (t := 23) ?hr ?_; (case hd => rfl); (case hg => rfl); (case hr => first | (go_simp; done) | (go_simp; rfl)); intro gb399 hg w135 hbox hb; have n0_ := Aside0.mk (below_step (by repeat (first | (with_reducible first | exact HB.out | apply below_alloc | apply pw_below_drewN | apply below_drew1) | exact HB.out)) hb); have n1_ := Aside0.mk (hbox); have n2_ := Aside0.mk ((by rw [hg]; exact (below_size (by repeat (first | (with_reducible first | exact HB.out | apply below_alloc | apply pw_below_drewN | apply below_drew1) | exact HB.out))) : w.heap.size ≤ gb399)); have n3_ := Aside0.mk ((by rw [hg]; exact (below_size (by repeat (first | (with_reducible first | exact HB.out | apply below_alloc | apply pw_below_drewN | apply below_drew1) | exact HB.out))) : w.heap.size ≤ gb399)); clear HB; have HB := n0_; have BK399 := n1_; have GW399 := n2_; have GE399 := n3_; clear n0_ n1_ n2_ n3_; clear hb hbox hg; have hcz136_0 : w135.cell? ⟨gb399, 0, none⟩ = some (.int .i64 0) := (blk_cell BK399.out 0).trans rfl; have hcz136_1 : w135.cell? ⟨gb399, 1, none⟩ = some (.int .i64 0) := (blk_cell BK399.out 1).trans rfl; have hcz136_2 : w135.cell? ⟨gb399, 2, none⟩ = some (.int .i64 0) := (blk_cell BK399.out 2).trans rfl; have hcz136_3 : w135.cell? ⟨gb399, 3, none⟩ = some (.int .i64 0) := (blk_cell BK399.out 3).trans rfl; have hfz136_0 := blk_frozen BK399.out 0; have hfz136_1 := blk_frozen BK399.out 1; have hfz136_2 := blk_frozen BK399.out 2; have hfz136_3 := blk_frozen BK399.out 3) | ((with_reducible refine gate_callee (f := 34) rfl ?_); refine goesL_ (some 35) rfl rfl Try.func34 (by kernel_rfl) rfl #[.int .i64 a3, .int .i64 40] rfl (by (try simp only [List.map_toArray, List.map_cons, List.map_nil]); first | done | rfl | (simp only [List.length_drop, List.length_take]; rfl)) ?_; (with_reducible refine (tipstaffkit_Mod.calls a3 40 t400 _ A8.out).mono ?_); rintro e w' ⟨rfl, ⟨nd, rfl⟩⟩; refine ⟨_, rfl, ?_⟩) | ((with_reducible refine gate_callee (f := 34) rfl ?_); refine goesL_ (some 37) rfl rfl Try.func34 (by kernel_rfl) rfl #[.int .i64 a4, .int .i64 40] rfl (by (try simp only [List.map_toArray, List.map_cons, List.map_nil]); first | done | rfl | (simp only [List.length_drop, List.length_take]; rfl)) ?_; (with_reducible refine (tipstaffkit_Mod.calls a4 40 t401 _ A9.out).mono ?_); rintro e w' ⟨rfl, ⟨nd, rfl⟩⟩; refine ⟨_, rfl, ?_⟩) | ((with_reducible refine gate_callee (f := 17) rfl ?_); refine goesL_ (some 40) rfl rfl Try.func17 (by kernel_rfl) rfl #[.agg #[.int .i64 t394, .int .i64 t395, .int .i64 t396, .int .i64 t397]] rfl (by (try simp only [List.map_toArray, List.map_cons, List.map_nil]); first | done | rfl | (simp only [List.length_drop, List.length_take]; rfl)) ?_; (with_reducible refine (motion_Left.calls k t394 t395 t396 t397 t402 t403 _ A10.out).mono ?_); rintro e w137 ⟨rfl, hb⟩; refine ⟨_, rfl, ?_⟩; have n0_ := Aside0.mk (blk_below (g := gb399) (o := .cells #[.int .i64 t394, .int .i64 t395, .int .i64 t396, .int .i64 t397] 23 (0, 0)) (by (with_reducible repeat (first | refine blk_drewN ?_ _ | refine blk_drew ?_ | refine blk_alloc ?_ _)); refine blk_put (cs := #[.int .i64 t394, .int .i64 t395, .int .i64 t396, .int .i64 0]) ?_ 3 _ rfl; (with_reducible repeat (first | refine blk_drewN ?_ _ | refine blk_drew ?_ | refine blk_alloc ?_ _)); refine blk_put (cs := #[.int .i64 t394, .int .i64 t395, .int .i64 0, .int .i64 0]) ?_ 2 _ rfl; (with_reducible repeat (first | refine blk_drewN ?_ _ | refine blk_drew ?_ | refine blk_alloc ?_ _)); refine blk_put (cs := #[.int .i64 t394, .int .i64 0, .int .i64 0, .int .i64 0]) ?_ 1 _ rfl; (with_reducible repeat (first | refine blk_drewN ?_ _ | refine blk_drew ?_ | refine blk_alloc ?_ _)); refine blk_put (cs := #[.int .i64 0, .int .i64 0, .int .i64 0, .int .i64 0]) ?_ 0 _ rfl; (with_reducible repeat (first | refine blk_drewN ?_ _ | refine blk_drew ?_ | refine blk_alloc ?_ _)); exact BK399.out) hb); have n1_ := Aside0.mk (below_step (by repeat (first | (with_reducible first | exact HB.out | apply below_alloc | apply pw_below_drewN | apply below_drew1 | refine below_set ?_ GE399.out) | exact HB.out)) hb); clear BK399; clear HB; have BK399 := n0_; have HB := n1_; clear n0_ n1_; (try clear hb); (try clear hb2); (try clear hk); (try clear hi)))
                have n0_ := Aside0.mk (blk_drew BK399.out)
                have n1_ := Aside0.mk (below_drew1 HB.out)
                clear BK399
                clear HB
                have BK399 := n0_
                have HB := n1_
                clear n0_ n1_
                refine start_ (n := 13) (S := fun w' => w'.cell? ⟨gb399, 0, none⟩ = some (.int .i64 t394) ∧ w'.cell? ⟨gb399, 1, none⟩ = some (.int .i64 t395) ∧ w'.cell? ⟨gb399, 2, none⟩ = some (.int .i64 t396) ∧ w'.cell? ⟨gb399, 3, none⟩ = some (.int .i64 t397)) (ds := []) #[Z,Z,Z,Z,Z,Z,Z,Z,Z,Z,Z,Z,Z] (by kernel_rfl) rfl rfl ⟨(blk_cell BK399.out 0).trans rfl, (blk_cell BK399.out 1).trans rfl, (blk_cell BK399.out 2).trans rfl, (blk_cell BK399.out 3).trans rfl⟩ (fun hHeld => ?_); refine with_tabW tipstafflaw09_MotionTravels.tab5 tipstafflaw09_MotionTravels.bits5 (fun HT_ HW_ => ?_)
                generalize w137.drew = w138 at BK399 HB hHeld ⊢
                refine pure_ (i := 0) (N := some 44) (v := ?_) (a' := ?_) #[X,Z,Z,Z,Z,Z,Z,Z,Z,Z,Z,Z,Z] rfl rfl (any_of HT_.out (by kernel_rfl)) (fun _ _ _ h => h) (Or.inl ⟨by rfl, ?_⟩) ?_ ?_
                rotate_left;·intro w';go_simp;with_reducible rfl
                rotate_left;·simp only [Act.put, sA, sB, sC, i64_w, i32_w];rfl
                refine pure_ (i := 2) (N := some 46) (v := ?_) (a' := ?_) #[X,Z,X,Z,Z,Z,Z,Z,Z,Z,Z,Z,Z] rfl rfl (any_of HT_.out (by kernel_rfl)) (fun _ _ _ h => h) (Or.inl ⟨by rfl, ?_⟩) ?_ ?_
                rotate_left;·intro w';go_simp;with_reducible rfl
                rotate_left;·simp only [Act.put, sA, sB, sC, i64_w, i32_w];rfl
                refine pure_ (i := 5) (N := some 49) (v := ?_) (a' := ?_) #[X,Z,X,Z,Z,X,Z,Z,Z,Z,Z,Z,Z] rfl rfl (any_of HT_.out (by kernel_rfl)) (fun _ _ _ h => h) (Or.inl ⟨by rfl, ?_⟩) ?_ ?_
                rotate_left;·intro w';go_simp;with_reducible rfl
                rotate_left;·simp only [Act.put, sA, sB, sC, i64_w, i32_w];rfl
                refine take_ (i := 1) (N := some 45) (v := ?_) (a' := ?_) #[X,X,X,Z,Z,X,Z,Z,Z,Z,Z,Z,Z] rfl rfl (take_ofW HT_.out HW_.out (by kernel_rfl)) (fun _ _ _ h => h) (Or.inl ⟨by rfl, ?_⟩) hHeld ?_ ?_
                rotate_left;·rintro w' ⟨s0, s1, s2, s3⟩;go_simp;with_reducible rfl
                rotate_left;·simp only [Act.put, sA, sB, sC, i64_w, i32_w];rfl
                refine take_ (i := 3) (N := some 47) (v := ?_) (a' := ?_) #[X,X,X,X,Z,X,Z,Z,Z,Z,Z,Z,Z] rfl rfl (take_ofW HT_.out HW_.out (by kernel_rfl)) (fun _ _ _ h => h) (Or.inl ⟨by rfl, ?_⟩) hHeld ?_ ?_
                rotate_left;·rintro w' ⟨s0, s1, s2, s3⟩;go_simp;with_reducible rfl
                rotate_left;·simp only [Act.put, sA, sB, sC, i64_w, i32_w];rfl
                refine take_ (i := 6) (N := some 50) (v := ?_) (a' := ?_) #[X,X,X,X,Z,X,X,Z,Z,Z,Z,Z,Z] rfl rfl (take_ofW HT_.out HW_.out (by kernel_rfl)) (fun _ _ _ h => h) (Or.inl ⟨by rfl, ?_⟩) hHeld ?_ ?_
                rotate_left;·rintro w' ⟨s0, s1, s2, s3⟩;go_simp;with_reducible rfl
                rotate_left;·simp only [Act.put, sA, sB, sC, i64_w, i32_w];rfl
                refine one_ (i := 4) (N := some 48) #[X,X,X,X,X,X,X,Z,Z,Z,Z,Z,Z] rfl rfl (one_of HT_.out (by kernel_rfl)) (by decide) (fun K hK => ?_)
                refine goes_ Try.func33 (by kernel_rfl) rfl #[.int .i64 t394, .int .i64 t395] (by rfl) rfl rfl (by (try simp only [List.map_toArray, List.map_cons, List.map_nil]); first | done | rfl | (simp only [List.length_drop, List.length_take]; rfl)) ?_
                with_reducible refine (tipstafflaw09_far.calls t394 t395 t404 _ A11.out).mono ?_
                rintro e w139 ⟨rfl, hb⟩
                refine ⟨_, rfl, ?_⟩
                have n0_ := Aside0.mk (blk_below (g := gb399) (o := .cells #[.int .i64 t394, .int .i64 t395, .int .i64 t396, .int .i64 t397] 23 (0, 0)) (by (with_reducible repeat (first | refine blk_drewN ?_ _ | refine blk_drew ?_ | refine blk_alloc ?_ _)); exact BK399.out) hb)
                have n1_ := Aside0.mk (below_step (by repeat (first | (with_reducible first | exact HB.out | apply below_alloc | apply pw_below_drewN | apply below_drew1 | refine below_set ?_ GE399.out) | exact HB.out)) hb)
                clear BK399
                clear HB
                have BK399 := n0_
                have HB := n1_
                clear n0_ n1_
                (try clear hb)
                (try clear hb2)
                (try clear hk)
                (try clear hi)
                refine hK.out _ _ ⟨(blk_cell BK399.out 0).trans rfl, (blk_cell BK399.out 1).trans rfl, (blk_cell BK399.out 2).trans rfl, (blk_cell BK399.out 3).trans rfl⟩ (fun hHeld => ?_)
                clear hK K
                refine norm_ (a' := ?_) ?_ ?_
                rotate_left
                ·show Act.put _ (some 48) _ = _
                 simp only [Act.put, sA, sB, sC, i64_w, i32_w]
                 rfl
                refine one_ (i := 7) (N := some 51) #[X,X,X,X,X,X,X,X,Z,Z,Z,Z,Z] rfl rfl (one_of HT_.out (by kernel_rfl)) (by decide) (fun K hK => ?_)
                refine goes_ Try.func35 (by kernel_rfl) rfl #[.int .i64 t404, .int .i64 t397] (by rfl) rfl rfl (by (try simp only [List.map_toArray, List.map_cons, List.map_nil]); first | done | rfl | (simp only [List.length_drop, List.length_take]; rfl)) ?_
                with_reducible refine (tipstaffref08_Travel.calls k t404 t397 t405 t406 _ A12.out).mono ?_
                rintro e w140 ⟨rfl, hb⟩
                refine ⟨_, rfl, ?_⟩
                have n0_ := Aside0.mk (blk_below (g := gb399) (o := .cells #[.int .i64 t394, .int .i64 t395, .int .i64 t396, .int .i64 t397] 23 (0, 0)) (by (with_reducible repeat (first | refine blk_drewN ?_ _ | refine blk_drew ?_ | refine blk_alloc ?_ _)); exact BK399.out) hb)
                have n1_ := Aside0.mk (below_step (by repeat (first | (with_reducible first | exact HB.out | apply below_alloc | apply pw_below_drewN | apply below_drew1 | refine below_set ?_ GE399.out) | exact HB.out)) hb)
                clear BK399
                clear HB
                have BK399 := n0_
                have HB := n1_
                clear n0_ n1_
                (try clear hb)
                (try clear hb2)
                (try clear hk)
                (try clear hi)
                refine hK.out _ _ ⟨(blk_cell BK399.out 0).trans rfl, (blk_cell BK399.out 1).trans rfl, (blk_cell BK399.out 2).trans rfl, (blk_cell BK399.out 3).trans rfl⟩ (fun hHeld => ?_)
                clear hK K
                refine norm_ (a' := ?_) ?_ ?_
                rotate_left
                ·show Act.put _ (some 51) _ = _
                 simp only [Act.put, sA, sB, sC, i64_w, i32_w]
                 rfl
                refine pure_ (i := 8) (N := some 43) (v := ?_) (a' := ?_) #[X,X,X,X,X,X,X,X,X,Z,Z,Z,Z] rfl rfl (any_of HT_.out (by kernel_rfl)) (fun _ _ _ h => h) (Or.inl ⟨by rfl, ?_⟩) ?_ ?_
                rotate_left;·intro w';go_simp;with_reducible rfl
                rotate_left;·simp only [Act.put, sA, sB, sC, i64_w, i32_w];rfl
                refine pure_ (i := 9) (N := some 52) (v := ?_) (a' := ?_) #[X,X,X,X,X,X,X,X,X,X,Z,Z,Z] rfl rfl (any_of HT_.out (by kernel_rfl)) (fun _ _ _ h => h) (Or.inl ⟨by rfl, ?_⟩) ?_ ?_
                rotate_left;·intro w';go_simp;with_reducible rfl
                rotate_left;·simp only [Act.put, sA, sB, sC, i64_w, i32_w];rfl
                refine pure_ (i := 10) (N := some 53) (v := ?_) (a' := ?_) #[X,X,X,X,X,X,X,X,X,X,X,Z,Z] rfl rfl (any_of HT_.out (by kernel_rfl)) (fun _ _ _ h => h) (Or.inl ⟨by rfl, ?_⟩) ?_ ?_
                rotate_left;·intro w';go_simp;with_reducible rfl
                rotate_left;·simp only [Act.put, sA, sB, sC, i64_w, i32_w];rfl
                refine pure_ (i := 11) (N := some 16) (v := ?_) (a' := ?_) #[X,X,X,X,X,X,X,X,X,X,X,X,Z] rfl rfl (any_of HT_.out (by kernel_rfl)) (fun _ _ _ h => h) (Or.inl ⟨by rfl, ?_⟩) ?_ ?_
                rotate_left;·intro w';go_simp;with_reducible rfl
                rotate_left;·simp only [Act.put, sA, sB, sC, i64_w, i32_w];rfl
                refine pure_ (i := 12) (N := some 17) (v := ?_) (a' := ?_) #[X,X,X,X,X,X,X,X,X,X,X,X,X] rfl rfl (any_of HT_.out (by kernel_rfl)) (fun _ _ _ h => h) (Or.inl ⟨by rfl, ?_⟩) ?_ ?_
                rotate_left;·intro w';go_simp;with_reducible rfl
                rotate_left;·simp only [Act.put, sA, sB, sC, i64_w, i32_w];rfl
                refine done_ (done_of HT_.out (by kernel_rfl)) ?_
                have hcz141_0 : w140.cell? ⟨gb399, 0, none⟩ = some (.int .i64 t394) := (blk_cell BK399.out 0).trans rfl
                have hcz141_1 : w140.cell? ⟨gb399, 1, none⟩ = some (.int .i64 t395) := (blk_cell BK399.out 1).trans rfl
                have hcz141_2 : w140.cell? ⟨gb399, 2, none⟩ = some (.int .i64 t396) := (blk_cell BK399.out 2).trans rfl
                have hcz141_3 : w140.cell? ⟨gb399, 3, none⟩ = some (.int .i64 t397) := (blk_cell BK399.out 3).trans rfl
                have hfz141_0 := blk_frozen BK399.out 0
                have hfz141_1 := blk_frozen BK399.out 1
                have hfz141_2 := blk_frozen BK399.out 2
                have hfz141_3 := blk_frozen BK399.out 3
                try go_wp2_with (first | ((with_reducible refine gate_callee (f := 15) rfl ?_); refine goesL_ (some 57) rfl rfl Try.func15 (by kernel_rfl) rfl #[.agg #[.int .i64 t394, .int .i64 t395, .int .i64 t396, .int .i64 t397], .int .i64 t400] rfl (by (try simp only [List.map_toArray, List.map_cons, List.map_nil]); first | done | rfl | (simp only [List.length_drop, List.length_take]; rfl)) ?_; (with_reducible refine (motion_Run.calls t394 t395 t396 t397 t400 t407 t408 t409 t410 t411 _ A13.out).mono ?_); rintro e w142 ⟨rfl, hb⟩; refine ⟨_, rfl, ?_⟩; have n0_ := Aside0.mk (blk_below (g := gb399) (o := .cells #[.int .i64 t394, .int .i64 t395, .int .i64 t396, .int .i64 t397] 23 (0, 0)) (by (with_reducible repeat (first | refine blk_drewN ?_ _ | refine blk_drew ?_ | refine blk_alloc ?_ _)); exact BK399.out) hb); have n1_ := Aside0.mk (below_step (by repeat (first | (with_reducible first | exact HB.out | apply below_alloc | apply pw_below_drewN | apply below_drew1 | refine below_set ?_ GE399.out) | exact HB.out)) hb); clear BK399; clear HB; have BK399 := n0_; have HB := n1_; clear n0_ n1_; (try clear hb); (try clear hb2); (try clear hk); (try clear hi)) | ((with_reducible refine gate_dst (N := 18) rfl ?_); (try (refine gate_guard (by rfl) ?_; dsimp only)); refine box_event ?hg (N := 18) ?hd (cs := #[.int .i64 0, .int .i64 0, .int .i64 0, .int .i64 0]) (t := 23) ?hr ?_; (case hd => rfl); (case hg => rfl); (case hr => first | (go_simp; done) | (go_simp; rfl)); intro gb412 hg w143 hbox hb; have n0_ := Aside0.mk (blk_below (g := gb399) (o := .cells #[.int .i64 t394, .int .i64 t395, .int .i64 t396, .int .i64 t397] 23 (0, 0)) (by (with_reducible repeat (first | refine blk_drewN ?_ _ | refine blk_drew ?_ | refine blk_alloc ?_ _)); exact BK399.out) hb); have n1_ := Aside0.mk (below_step (by repeat (first | (with_reducible first | exact HB.out | apply below_alloc | apply pw_below_drewN | apply below_drew1 | refine below_set ?_ GE399.out) | exact HB.out)) hb); have n2_ := Aside0.mk (hbox); have n3_ := Aside0.mk ((by rw [hg]; exact (below_size (by repeat (first | (with_reducible first | exact HB.out | apply below_alloc | apply pw_below_drewN | apply below_drew1 | refine below_set ?_ GE399.out) | exact HB.out))) : w.heap.size ≤ gb412)); have n4_ := Aside0.mk ((by rw [hg]; exact (below_size (by repeat (first | (with_reducible first | exact HB.out | apply below_alloc | apply pw_below_drewN | apply below_drew1 | refine below_set ?_ GE399.out) | exact HB.out))) : w.heap.size ≤ gb412)); have n5_ := Aside0.mk ((by rw [hg]; exact Nat.ne_of_lt (blk_lt (g := gb399) (o := .cells #[.int .i64 t394, .int .i64 t395, .int .i64 t396, .int .i64 t397] 23 (0, 0)) (by (with_reducible repeat (first | refine blk_drewN ?_ _ | refine blk_drew ?_ | refine blk_alloc ?_ _)); exact BK399.out)) : gb399 ≠ gb412)); have n6_ := Aside0.mk ((by rw [hg]; exact Nat.ne_of_gt (blk_lt (g := gb399) (o := .cells #[.int .i64 t394, .int .i64 t395, .int .i64 t396, .int .i64 t397] 23 (0, 0)) (by (with_reducible repeat (first | refine blk_drewN ?_ _ | refine blk_drew ?_ | refine blk_alloc ?_ _)); exact BK399.out)) : gb412 ≠ gb399)); clear BK399; clear HB; have BK399 := n0_; have HB := n1_; have BK412 := n2_; have GW412 := n3_; have GE412 := n4_; have NB399_412 := n5_; have NB412_399 := n6_; clear n0_ n1_ n2_ n3_ n4_ n5_ n6_; clear hb hbox hg; have hnb144 := NB412_399.out; have hnc144 := NB399_412.out; have hcz145_0 : w143.cell? ⟨gb412, 0, none⟩ = some (.int .i64 0) := (blk_cell BK412.out 0).trans rfl; have hcz145_1 : w143.cell? ⟨gb412, 1, none⟩ = some (.int .i64 0) := (blk_cell BK412.out 1).trans rfl; have hcz145_2 : w143.cell? ⟨gb412, 2, none⟩ = some (.int .i64 0) := (blk_cell BK412.out 2).trans rfl; have hcz145_3 : w143.cell? ⟨gb412, 3, none⟩ = some (.int .i64 0) := (blk_cell BK412.out 3).trans rfl; have hfz145_0 := blk_frozen BK412.out 0; have hfz145_1 := blk_frozen BK412.out 1; have hfz145_2 := blk_frozen BK412.out 2; have hfz145_3 := blk_frozen BK412.out 3) | ((with_reducible refine gate_callee (f := 15) rfl ?_); refine goesL_ (some 63) rfl rfl Try.func15 (by kernel_rfl) rfl #[.agg #[.int .i64 t407, .int .i64 t408, .int .i64 t409, .int .i64 t410], .int .i64 t401] rfl (by (try simp only [List.map_toArray, List.map_cons, List.map_nil]); first | done | rfl | (simp only [List.length_drop, List.length_take]; rfl)) ?_; (with_reducible refine (motion_Run.calls t407 t408 t409 t410 t401 t413 t414 t415 t416 t417 _ A14.out).mono ?_); rintro e w146 ⟨rfl, hb⟩; refine ⟨_, rfl, ?_⟩; have n0_ := Aside0.mk (blk_below (g := gb399) (o := .cells #[.int .i64 t394, .int .i64 t395, .int .i64 t396, .int .i64 t397] 23 (0, 0)) (by (with_reducible repeat (first | refine blk_drewN ?_ _ | refine blk_drew ?_ | refine blk_alloc ?_ _)); refine blk_far ?_ NB399_412.out _; (with_reducible repeat (first | refine blk_drewN ?_ _ | refine blk_drew ?_ | refine blk_alloc ?_ _)); refine blk_far ?_ NB399_412.out _; (with_reducible repeat (first | refine blk_drewN ?_ _ | refine blk_drew ?_ | refine blk_alloc ?_ _)); refine blk_far ?_ NB399_412.out _; (with_reducible repeat (first | refine blk_drewN ?_ _ | refine blk_drew ?_ | refine blk_alloc ?_ _)); refine blk_far ?_ NB399_412.out _; (with_reducible repeat (first | refine blk_drewN ?_ _ | refine blk_drew ?_ | refine blk_alloc ?_ _)); exact BK399.out) hb); have n1_ := Aside0.mk (blk_below (g := gb412) (o := .cells #[.int .i64 t407, .int .i64 t408, .int .i64 t409, .int .i64 t410] 23 (0, 0)) (by (with_reducible repeat (first | refine blk_drewN ?_ _ | refine blk_drew ?_ | refine blk_alloc ?_ _)); refine blk_put (cs := #[.int .i64 t407, .int .i64 t408, .int .i64 t409, .int .i64 0]) ?_ 3 _ rfl; (with_reducible repeat (first | refine blk_drewN ?_ _ | refine blk_drew ?_ | refine blk_alloc ?_ _)); refine blk_put (cs := #[.int .i64 t407, .int .i64 t408, .int .i64 0, .int .i64 0]) ?_ 2 _ rfl; (with_reducible repeat (first | refine blk_drewN ?_ _ | refine blk_drew ?_ | refine blk_alloc ?_ _)); refine blk_put (cs := #[.int .i64 t407, .int .i64 0, .int .i64 0, .int .i64 0]) ?_ 1 _ rfl; (with_reducible repeat (first | refine blk_drewN ?_ _ | refine blk_drew ?_ | refine blk_alloc ?_ _)); refine blk_put (cs := #[.int .i64 0, .int .i64 0, .int .i64 0, .int .i64 0]) ?_ 0 _ rfl; (with_reducible repeat (first | refine blk_drewN ?_ _ | refine blk_drew ?_ | refine blk_alloc ?_ _)); exact BK412.out) hb); have n2_ := Aside0.mk (below_step (by repeat (first | (with_reducible first | exact HB.out | apply below_alloc | apply pw_below_drewN | apply below_drew1 | refine below_set ?_ GE399.out | refine below_set ?_ GE412.out) | exact HB.out)) hb); clear BK399; clear BK412; clear HB; have BK399 := n0_; have BK412 := n1_; have HB := n2_; clear n0_ n1_ n2_; (try clear hb); (try clear hb2); (try clear hk); (try clear hi)) | ((with_reducible refine gate_dst (N := 20) rfl ?_); (try (refine gate_guard (by rfl) ?_; dsimp only)); refine box_event ?hg (N := 20) ?hd (cs := #[.int .i64 0, .int .i64 0, .int .i64 0, .int .i64 0]) (t := 23) ?hr ?_; (case hd => rfl); (case hg => rfl); (case hr => first | (go_simp; done) | (go_simp; rfl)); intro gb418 hg w147 hbox hb; have n0_ := Aside0.mk (blk_below (g := gb399) (o := .cells #[.int .i64 t394, .int .i64 t395, .int .i64 t396, .int .i64 t397] 23 (0, 0)) (by (with_reducible repeat (first | refine blk_drewN ?_ _ | refine blk_drew ?_ | refine blk_alloc ?_ _)); exact BK399.out) hb); have n1_ := Aside0.mk (blk_below (g := gb412) (o := .cells #[.int .i64 t407, .int .i64 t408, .int .i64 t409, .int .i64 t410] 23 (0, 0)) (by (with_reducible repeat (first | refine blk_drewN ?_ _ | refine blk_drew ?_ | refine blk_alloc ?_ _)); exact BK412.out) hb); have n2_ := Aside0.mk (below_step (by repeat (first | (with_reducible first | exact HB.out | apply below_alloc | apply pw_below_drewN | apply below_drew1 | refine below_set ?_ GE399.out | refine below_set ?_ GE412.out) | exact HB.out)) hb); have n3_ := Aside0.mk (hbox); have n4_ := Aside0.mk ((by rw [hg]; exact (below_size (by repeat (first | (with_reducible first | exact HB.out | apply below_alloc | apply pw_below_drewN | apply below_drew1 | refine below_set ?_ GE399.out | refine below_set ?_ GE412.out) | exact HB.out))) : w.heap.size ≤ gb418)); have n5_ := Aside0.mk ((by rw [hg]; exact (below_size (by repeat (first | (with_reducible first | exact HB.out | apply below_alloc | apply pw_below_drewN | apply below_drew1 | refine below_set ?_ GE399.out | refine below_set ?_ GE412.out) | exact HB.out))) : w.heap.size ≤ gb418)); have n6_ := Aside0.mk ((by rw [hg]; exact Nat.ne_of_lt (blk_lt (g := gb399) (o := .cells #[.int .i64 t394, .int .i64 t395, .int .i64 t396, .int .i64 t397] 23 (0, 0)) (by (with_reducible repeat (first | refine blk_drewN ?_ _ | refine blk_drew ?_ | refine blk_alloc ?_ _)); exact BK399.out)) : gb399 ≠ gb418)); have n7_ := Aside0.mk ((by rw [hg]; exact Nat.ne_of_gt (blk_lt (g := gb399) (o := .cells #[.int .i64 t394, .int .i64 t395, .int .i64 t396, .int .i64 t397] 23 (0, 0)) (by (with_reducible repeat (first | refine blk_drewN ?_ _ | refine blk_drew ?_ | refine blk_alloc ?_ _)); exact BK399.out)) : gb418 ≠ gb399)); have n8_ := Aside0.mk ((by rw [hg]; exact Nat.ne_of_lt (blk_lt (g := gb412) (o := .cells #[.int .i64 t407, .int .i64 t408, .int .i64 t409, .int .i64 t410] 23 (0, 0)) (by (with_reducible repeat (first | refine blk_drewN ?_ _ | refine blk_drew ?_ | refine blk_alloc ?_ _)); exact BK412.out)) : gb412 ≠ gb418)); have n9_ := Aside0.mk ((by rw [hg]; exact Nat.ne_of_gt (blk_lt (g := gb412) (o := .cells #[.int .i64 t407, .int .i64 t408, .int .i64 t409, .int .i64 t410] 23 (0, 0)) (by (with_reducible repeat (first | refine blk_drewN ?_ _ | refine blk_drew ?_ | refine blk_alloc ?_ _)); exact BK412.out)) : gb418 ≠ gb412)); clear BK399; clear BK412; clear HB; have BK399 := n0_; have BK412 := n1_; have HB := n2_; have BK418 := n3_; have GW418 := n4_; have GE418 := n5_; have NB399_418 := n6_; have NB418_399 := n7_; have NB412_418 := n8_; have NB418_412 := n9_; clear n0_ n1_ n2_ n3_ n4_ n5_ n6_ n7_ n8_ n9_; clear hb hbox hg; have hnb148 := NB418_399.out; have hnc148 := NB399_418.out; have hnb149 := NB418_412.out; have hnc149 := NB412_418.out; have hcz150_0 : w147.cell? ⟨gb418, 0, none⟩ = some (.int .i64 0) := (blk_cell BK418.out 0).trans rfl; have hcz150_1 : w147.cell? ⟨gb418, 1, none⟩ = some (.int .i64 0) := (blk_cell BK418.out 1).trans rfl; have hcz150_2 : w147.cell? ⟨gb418, 2, none⟩ = some (.int .i64 0) := (blk_cell BK418.out 2).trans rfl; have hcz150_3 : w147.cell? ⟨gb418, 3, none⟩ = some (.int .i64 0) := (blk_cell BK418.out 3).trans rfl; have hfz150_0 := blk_frozen BK418.out 0; have hfz150_1 := blk_frozen BK418.out 1; have hfz150_2 := blk_frozen BK418.out 2; have hfz150_3 := blk_frozen BK418.out 3; have hcz151_0 : w147.cell? ⟨gb399, 0, none⟩ = some (.int .i64 t394) := (blk_cell BK399.out 0).trans rfl; have hcz151_1 : w147.cell? ⟨gb399, 1, none⟩ = some (.int .i64 t395) := (blk_cell BK399.out 1).trans rfl; have hcz151_2 : w147.cell? ⟨gb399, 2, none⟩ = some (.int .i64 t396) := (blk_cell BK399.out 2).trans rfl; have hcz151_3 : w147.cell? ⟨gb399, 3, none⟩ = some (.int .i64 t397) := (blk_cell BK399.out 3).trans rfl; have hfz151_0 := blk_frozen BK399.out 0; have hfz151_1 := blk_frozen BK399.out 1; have hfz151_2 := blk_frozen BK399.out 2; have hfz151_3 := blk_frozen BK399.out 3) | ((with_reducible refine gate_callee (f := 15) rfl ?_); refine goesL_ (some 71) rfl rfl Try.func15 (by kernel_rfl) rfl #[.agg #[.int .i64 t394, .int .i64 t395, .int .i64 t396, .int .i64 t397], .int .i64 (wrap64 (t400 + t401))] rfl (by (try simp only [List.map_toArray, List.map_cons, List.map_nil]); first | done | rfl | (simp only [List.length_drop, List.length_take]; rfl)) ?_; (with_reducible refine (motion_Run.calls t394 t395 t396 t397 (wrap64 (t400 + t401)) t419 t420 t421 t422 t423 _ A15.out).mono ?_); rintro e w152 ⟨rfl, hb⟩; refine ⟨_, rfl, ?_⟩; have n0_ := Aside0.mk (blk_below (g := gb399) (o := .cells #[.int .i64 t394, .int .i64 t395, .int .i64 t396, .int .i64 t397] 23 (0, 0)) (by (with_reducible repeat (first | refine blk_drewN ?_ _ | refine blk_drew ?_ | refine blk_alloc ?_ _)); refine blk_far ?_ NB399_418.out _; (with_reducible repeat (first | refine blk_drewN ?_ _ | refine blk_drew ?_ | refine blk_alloc ?_ _)); refine blk_far ?_ NB399_418.out _; (with_reducible repeat (first | refine blk_drewN ?_ _ | refine blk_drew ?_ | refine blk_alloc ?_ _)); refine blk_far ?_ NB399_418.out _; (with_reducible repeat (first | refine blk_drewN ?_ _ | refine blk_drew ?_ | refine blk_alloc ?_ _)); refine blk_far ?_ NB399_418.out _; (with_reducible repeat (first | refine blk_drewN ?_ _ | refine blk_drew ?_ | refine blk_alloc ?_ _)); exact BK399.out) hb); have n1_ := Aside0.mk (blk_below (g := gb412) (o := .cells #[.int .i64 t407, .int .i64 t408, .int .i64 t409, .int .i64 t410] 23 (0, 0)) (by (with_reducible repeat (first | refine blk_drewN ?_ _ | refine blk_drew ?_ | refine blk_alloc ?_ _)); refine blk_far ?_ NB412_418.out _; (with_reducible repeat (first | refine blk_drewN ?_ _ | refine blk_drew ?_ | refine blk_alloc ?_ _)); refine blk_far ?_ NB412_418.out _; (with_reducible repeat (first | refine blk_drewN ?_ _ | refine blk_drew ?_ | refine blk_alloc ?_ _)); refine blk_far ?_ NB412_418.out _; (with_reducible repeat (first | refine blk_drewN ?_ _ | refine blk_drew ?_ | refine blk_alloc ?_ _)); refine blk_far ?_ NB412_418.out _; (with_reducible repeat (first | refine blk_drewN ?_ _ | refine blk_drew ?_ | refine blk_alloc ?_ _)); exact BK412.out) hb); have n2_ := Aside0.mk (blk_below (g := gb418) (o := .cells #[.int .i64 t413, .int .i64 t414, .int .i64 t415, .int .i64 t416] 23 (0, 0)) (by (with_reducible repeat (first | refine blk_drewN ?_ _ | refine blk_drew ?_ | refine blk_alloc ?_ _)); refine blk_put (cs := #[.int .i64 t413, .int .i64 t414, .int .i64 t415, .int .i64 0]) ?_ 3 _ rfl; (with_reducible repeat (first | refine blk_drewN ?_ _ | refine blk_drew ?_ | refine blk_alloc ?_ _)); refine blk_put (cs := #[.int .i64 t413, .int .i64 t414, .int .i64 0, .int .i64 0]) ?_ 2 _ rfl; (with_reducible repeat (first | refine blk_drewN ?_ _ | refine blk_drew ?_ | refine blk_alloc ?_ _)); refine blk_put (cs := #[.int .i64 t413, .int .i64 0, .int .i64 0, .int .i64 0]) ?_ 1 _ rfl; (with_reducible repeat (first | refine blk_drewN ?_ _ | refine blk_drew ?_ | refine blk_alloc ?_ _)); refine blk_put (cs := #[.int .i64 0, .int .i64 0, .int .i64 0, .int .i64 0]) ?_ 0 _ rfl; (with_reducible repeat (first | refine blk_drewN ?_ _ | refine blk_drew ?_ | refine blk_alloc ?_ _)); exact BK418.out) hb); have n3_ := Aside0.mk (below_step (by repeat (first | (with_reducible first | exact HB.out | apply below_alloc | apply pw_below_drewN | apply below_drew1 | refine below_set ?_ GE399.out | refine below_set ?_ GE412.out | refine below_set ?_ GE418.out) | exact HB.out)) hb); clear BK399; clear BK412; clear BK418; clear HB; have BK399 := n0_; have BK412 := n1_; have BK418 := n2_; have HB := n3_; clear n0_ n1_ n2_ n3_; (try clear hb); (try clear hb2); (try clear hk); (try clear hi)) | ((with_reducible refine gate_dst (N := 22) rfl ?_); (try (refine gate_guard (by rfl) ?_; dsimp only)); refine box_event ?hg (N := 22) ?hd (cs := #[.int .i64 0, .int .i64 0, .int .i64 0, .int .i64 0]) (t := 23) ?hr ?_; (case hd => rfl); (case hg => rfl); (case hr => first | (go_simp; done) | (go_simp; rfl)); intro gb424 hg w153 hbox hb; have n0_ := Aside0.mk (blk_below (g := gb399) (o := .cells #[.int .i64 t394, .int .i64 t395, .int .i64 t396, .int .i64 t397] 23 (0, 0)) (by (with_reducible repeat (first | refine blk_drewN ?_ _ | refine blk_drew ?_ | refine blk_alloc ?_ _)); exact BK399.out) hb); have n1_ := Aside0.mk (blk_below (g := gb412) (o := .cells #[.int .i64 t407, .int .i64 t408, .int .i64 t409, .int .i64 t410] 23 (0, 0)) (by (with_reducible repeat (first | refine blk_drewN ?_ _ | refine blk_drew ?_ | refine blk_alloc ?_ _)); exact BK412.out) hb); have n2_ := Aside0.mk (blk_below (g := gb418) (o := .cells #[.int .i64 t413, .int .i64 t414, .int .i64 t415, .int .i64 t416] 23 (0, 0)) (by (with_reducible repeat (first | refine blk_drewN ?_ _ | refine blk_drew ?_ | refine blk_alloc ?_ _)); exact BK418.out) hb); have n3_ := Aside0.mk (below_step (by repeat (first | (with_reducible first | exact HB.out | apply below_alloc | apply pw_below_drewN | apply below_drew1 | refine below_set ?_ GE399.out | refine below_set ?_ GE412.out | refine below_set ?_ GE418.out) | exact HB.out)) hb); have n4_ := Aside0.mk (hbox); have n5_ := Aside0.mk ((by rw [hg]; exact (below_size (by repeat (first | (with_reducible first | exact HB.out | apply below_alloc | apply pw_below_drewN | apply below_drew1 | refine below_set ?_ GE399.out | refine below_set ?_ GE412.out | refine below_set ?_ GE418.out) | exact HB.out))) : w.heap.size ≤ gb424)); have n6_ := Aside0.mk ((by rw [hg]; exact (below_size (by repeat (first | (with_reducible first | exact HB.out | apply below_alloc | apply pw_below_drewN | apply below_drew1 | refine below_set ?_ GE399.out | refine below_set ?_ GE412.out | refine below_set ?_ GE418.out) | exact HB.out))) : w.heap.size ≤ gb424)); have n7_ := Aside0.mk ((by rw [hg]; exact Nat.ne_of_lt (blk_lt (g := gb399) (o := .cells #[.int .i64 t394, .int .i64 t395, .int .i64 t396, .int .i64 t397] 23 (0, 0)) (by (with_reducible repeat (first | refine blk_drewN ?_ _ | refine blk_drew ?_ | refine blk_alloc ?_ _)); exact BK399.out)) : gb399 ≠ gb424)); have n8_ := Aside0.mk ((by rw [hg]; exact Nat.ne_of_gt (blk_lt (g := gb399) (o := .cells #[.int .i64 t394, .int .i64 t395, .int .i64 t396, .int .i64 t397] 23 (0, 0)) (by (with_reducible repeat (first | refine blk_drewN ?_ _ | refine blk_drew ?_ | refine blk_alloc ?_ _)); exact BK399.out)) : gb424 ≠ gb399)); have n9_ := Aside0.mk ((by rw [hg]; exact Nat.ne_of_lt (blk_lt (g := gb412) (o := .cells #[.int .i64 t407, .int .i64 t408, .int .i64 t409, .int .i64 t410] 23 (0, 0)) (by (with_reducible repeat (first | refine blk_drewN ?_ _ | refine blk_drew ?_ | refine blk_alloc ?_ _)); exact BK412.out)) : gb412 ≠ gb424)); have n10_ := Aside0.mk ((by rw [hg]; exact Nat.ne_of_gt (blk_lt (g := gb412) (o := .cells #[.int .i64 t407, .int .i64 t408, .int .i64 t409, .int .i64 t410] 23 (0, 0)) (by (with_reducible repeat (first | refine blk_drewN ?_ _ | refine blk_drew ?_ | refine blk_alloc ?_ _)); exact BK412.out)) : gb424 ≠ gb412)); have n11_ := Aside0.mk ((by rw [hg]; exact Nat.ne_of_lt (blk_lt (g := gb418) (o := .cells #[.int .i64 t413, .int .i64 t414, .int .i64 t415, .int .i64 t416] 23 (0, 0)) (by (with_reducible repeat (first | refine blk_drewN ?_ _ | refine blk_drew ?_ | refine blk_alloc ?_ _)); exact BK418.out)) : gb418 ≠ gb424)); have n12_ := Aside0.mk ((by rw [hg]; exact Nat.ne_of_gt (blk_lt (g := gb418) (o := .cells #[.int .i64 t413, .int .i64 t414, .int .i64 t415, .int .i64 t416] 23 (0, 0)) (by (with_reducible repeat (first | refine blk_drewN ?_ _ | refine blk_drew ?_ | refine blk_alloc ?_ _)); exact BK418.out)) : gb424 ≠ gb418)); clear BK399; clear BK412; clear BK418; clear HB; have BK399 := n0_; have BK412 := n1_; have BK418 := n2_; have HB := n3_; have BK424 := n4_; have GW424 := n5_; have GE424 := n6_; have NB399_424 := n7_; have NB424_399 := n8_; have NB412_424 := n9_; have NB424_412 := n10_; have NB418_424 := n11_; have NB424_418 := n12_; clear n0_ n1_ n2_ n3_ n4_ n5_ n6_ n7_ n8_ n9_ n10_ n11_ n12_; clear hb hbox hg; have hnb154 := NB424_399.out; have hnc154 := NB399_424.out; have hnb155 := NB424_412.out; have hnc155 := NB412_424.out; have hnb156 := NB424_418.out; have hnc156 := NB418_424.out; have hcz157_0 : w153.cell? ⟨gb424, 0, none⟩ = some (.int .i64 0) := (blk_cell BK424.out 0).trans rfl; have hcz157_1 : w153.cell? ⟨gb424, 1, none⟩ = some (.int .i64 0) := (blk_cell BK424.out 1).trans rfl; have hcz157_2 : w153.cell? ⟨gb424, 2, none⟩ = some (.int .i64 0) := (blk_cell BK424.out 2).trans rfl; have hcz157_3 : w153.cell? ⟨gb424, 3, none⟩ = some (.int .i64 0) := (blk_cell BK424.out 3).trans rfl; have hfz157_0 := blk_frozen BK424.out 0; have hfz157_1 := blk_frozen BK424.out 1; have hfz157_2 := blk_frozen BK424.out 2; have hfz157_3 := blk_frozen BK424.out 3; have hcz158_0 : w153.cell? ⟨gb399, 0, none⟩ = some (.int .i64 t394) := (blk_cell BK399.out 0).trans rfl; have hcz158_1 : w153.cell? ⟨gb399, 1, none⟩ = some (.int .i64 t395) := (blk_cell BK399.out 1).trans rfl; have hcz158_2 : w153.cell? ⟨gb399, 2, none⟩ = some (.int .i64 t396) := (blk_cell BK399.out 2).trans rfl; have hcz158_3 : w153.cell? ⟨gb399, 3, none⟩ = some (.int .i64 t397) := (blk_cell BK399.out 3).trans rfl; have hfz158_0 := blk_frozen BK399.out 0; have hfz158_1 := blk_frozen BK399.out 1; have hfz158_2 := blk_frozen BK399.out 2; have hfz158_3 := blk_frozen BK399.out 3) | ((with_reducible refine gate_callee (f := 22) rfl ?_); refine goesL_ (some 79) rfl rfl Try.func22 (by kernel_rfl) rfl #[.agg #[.int .i64 t394, .int .i64 t395, .int .i64 t396, .int .i64 t397], .int .i64 (wrap64 (t400 + t401))] rfl (by (try simp only [List.map_toArray, List.map_cons, List.map_nil]); first | done | rfl | (simp only [List.length_drop, List.length_take]; rfl)) ?_; (with_reducible refine (motion_Path.calls k t394 t395 t396 t397 (wrap64 (t400 + t401)) t425 t428 _ A16.out).mono ?_); rintro e w159 ⟨v426, rfl, ho0, hb⟩; refine ⟨_, rfl, ?_⟩; have n0_ := Aside0.mk (Kd.R_lower ho0 (below_size (by repeat (first | (with_reducible first | exact HB.out | apply below_alloc | apply pw_below_drewN | apply below_drew1 | refine below_set ?_ GE399.out | refine below_set ?_ GE412.out | refine below_set ?_ GE418.out | refine below_set ?_ GE424.out) | exact HB.out)))); have n1_ := Aside0.mk (blk_below (g := gb399) (o := .cells #[.int .i64 t394, .int .i64 t395, .int .i64 t396, .int .i64 t397] 23 (0, 0)) (by (with_reducible repeat (first | refine blk_drewN ?_ _ | refine blk_drew ?_ | refine blk_alloc ?_ _)); refine blk_far ?_ NB399_424.out _; (with_reducible repeat (first | refine blk_drewN ?_ _ | refine blk_drew ?_ | refine blk_alloc ?_ _)); refine blk_far ?_ NB399_424.out _; (with_reducible repeat (first | refine blk_drewN ?_ _ | refine blk_drew ?_ | refine blk_alloc ?_ _)); refine blk_far ?_ NB399_424.out _; (with_reducible repeat (first | refine blk_drewN ?_ _ | refine blk_drew ?_ | refine blk_alloc ?_ _)); refine blk_far ?_ NB399_424.out _; (with_reducible repeat (first | refine blk_drewN ?_ _ | refine blk_drew ?_ | refine blk_alloc ?_ _)); exact BK399.out) hb); have n2_ := Aside0.mk (blk_below (g := gb412) (o := .cells #[.int .i64 t407, .int .i64 t408, .int .i64 t409, .int .i64 t410] 23 (0, 0)) (by (with_reducible repeat (first | refine blk_drewN ?_ _ | refine blk_drew ?_ | refine blk_alloc ?_ _)); refine blk_far ?_ NB412_424.out _; (with_reducible repeat (first | refine blk_drewN ?_ _ | refine blk_drew ?_ | refine blk_alloc ?_ _)); refine blk_far ?_ NB412_424.out _; (with_reducible repeat (first | refine blk_drewN ?_ _ | refine blk_drew ?_ | refine blk_alloc ?_ _)); refine blk_far ?_ NB412_424.out _; (with_reducible repeat (first | refine blk_drewN ?_ _ | refine blk_drew ?_ | refine blk_alloc ?_ _)); refine blk_far ?_ NB412_424.out _; (with_reducible repeat (first | refine blk_drewN ?_ _ | refine blk_drew ?_ | refine blk_alloc ?_ _)); exact BK412.out) hb); have n3_ := Aside0.mk (blk_below (g := gb418) (o := .cells #[.int .i64 t413, .int .i64 t414, .int .i64 t415, .int .i64 t416] 23 (0, 0)) (by (with_reducible repeat (first | refine blk_drewN ?_ _ | refine blk_drew ?_ | refine blk_alloc ?_ _)); refine blk_far ?_ NB418_424.out _; (with_reducible repeat (first | refine blk_drewN ?_ _ | refine blk_drew ?_ | refine blk_alloc ?_ _)); refine blk_far ?_ NB418_424.out _; (with_reducible repeat (first | refine blk_drewN ?_ _ | refine blk_drew ?_ | refine blk_alloc ?_ _)); refine blk_far ?_ NB418_424.out _; (with_reducible repeat (first | refine blk_drewN ?_ _ | refine blk_drew ?_ | refine blk_alloc ?_ _)); refine blk_far ?_ NB418_424.out _; (with_reducible repeat (first | refine blk_drewN ?_ _ | refine blk_drew ?_ | refine blk_alloc ?_ _)); exact BK418.out) hb); have n4_ := Aside0.mk (blk_below (g := gb424) (o := .cells #[.int .i64 t419, .int .i64 t420, .int .i64 t421, .int .i64 t422] 23 (0, 0)) (by (with_reducible repeat (first | refine blk_drewN ?_ _ | refine blk_drew ?_ | refine blk_alloc ?_ _)); refine blk_put (cs := #[.int .i64 t419, .int .i64 t420, .int .i64 t421, .int .i64 0]) ?_ 3 _ rfl; (with_reducible repeat (first | refine blk_drewN ?_ _ | refine blk_drew ?_ | refine blk_alloc ?_ _)); refine blk_put (cs := #[.int .i64 t419, .int .i64 t420, .int .i64 0, .int .i64 0]) ?_ 2 _ rfl; (with_reducible repeat (first | refine blk_drewN ?_ _ | refine blk_drew ?_ | refine blk_alloc ?_ _)); refine blk_put (cs := #[.int .i64 t419, .int .i64 0, .int .i64 0, .int .i64 0]) ?_ 1 _ rfl; (with_reducible repeat (first | refine blk_drewN ?_ _ | refine blk_drew ?_ | refine blk_alloc ?_ _)); refine blk_put (cs := #[.int .i64 0, .int .i64 0, .int .i64 0, .int .i64 0]) ?_ 0 _ rfl; (with_reducible repeat (first | refine blk_drewN ?_ _ | refine blk_drew ?_ | refine blk_alloc ?_ _)); exact BK424.out) hb); have n5_ := Aside0.mk (below_step (by repeat (first | (with_reducible first | exact HB.out | apply below_alloc | apply pw_below_drewN | apply below_drew1 | refine below_set ?_ GE399.out | refine below_set ?_ GE412.out | refine below_set ?_ GE418.out | refine below_set ?_ GE424.out) | exact HB.out)) hb); clear BK399; clear BK412; clear BK418; clear BK424; clear HB; have HO427 := n0_; have BK399 := n1_; have BK412 := n2_; have BK418 := n3_; have BK424 := n4_; have HB := n5_; clear n0_ n1_ n2_ n3_ n4_ n5_; (try clear hb); (try clear hb2); (try clear hk); (try clear hi); (try clear ho0); have hcz160_0 : w159.cell? ⟨gb418, 0, none⟩ = some (.int .i64 t413) := (blk_cell BK418.out 0).trans rfl; have hcz160_1 : w159.cell? ⟨gb418, 1, none⟩ = some (.int .i64 t414) := (blk_cell BK418.out 1).trans rfl; have hcz160_2 : w159.cell? ⟨gb418, 2, none⟩ = some (.int .i64 t415) := (blk_cell BK418.out 2).trans rfl; have hcz160_3 : w159.cell? ⟨gb418, 3, none⟩ = some (.int .i64 t416) := (blk_cell BK418.out 3).trans rfl; have hfz160_0 := blk_frozen BK418.out 0; have hfz160_1 := blk_frozen BK418.out 1; have hfz160_2 := blk_frozen BK418.out 2; have hfz160_3 := blk_frozen BK418.out 3; have hcz161_0 : w159.cell? ⟨gb424, 0, none⟩ = some (.int .i64 t419) := (blk_cell BK424.out 0).trans rfl; have hcz161_1 : w159.cell? ⟨gb424, 1, none⟩ = some (.int .i64 t420) := (blk_cell BK424.out 1).trans rfl; have hcz161_2 : w159.cell? ⟨gb424, 2, none⟩ = some (.int .i64 t421) := (blk_cell BK424.out 2).trans rfl; have hcz161_3 : w159.cell? ⟨gb424, 3, none⟩ = some (.int .i64 t422) := (blk_cell BK424.out 3).trans rfl; have hfz161_0 := blk_frozen BK424.out 0; have hfz161_1 := blk_frozen BK424.out 1; have hfz161_2 := blk_frozen BK424.out 2; have hfz161_3 := blk_frozen BK424.out 3; obtain ⟨Ao162, co162, eo162⟩ := Kd.R_slice HO427.out; subst eo162))
                have n0_ := Aside0.mk (Kd.R_drew HO427.out)
                have n1_ := Aside0.mk (blk_drew BK399.out)
                have n2_ := Aside0.mk (blk_drew BK412.out)
                have n3_ := Aside0.mk (blk_drew BK418.out)
                have n4_ := Aside0.mk (blk_drew BK424.out)
                have n5_ := Aside0.mk (below_drew1 HB.out)
                clear HO427
                clear BK399
                clear BK412
                clear BK418
                clear BK424
                clear HB
                have HO427 := n0_
                have BK399 := n1_
                have BK412 := n2_
                have BK418 := n3_
                have BK424 := n4_
                have HB := n5_
                clear n0_ n1_ n2_ n3_ n4_ n5_
                have H := HH_.out
                clear HH_
                by_cases c132 : t400 = 0
                ·rw [if_pos c132] at H
                 have c132b0 : (t400 == 0) = true := beq_iff_eq.mpr c132
                 have c132b1 : (t400 != 0) = false := bne_eq_false_iff_eq.mpr c132
                 clear c132
                 obtain rfl := Option.some.inj H
                 have p430 : 0 ≤ ((ji128) : Int) := of_decide_eq_true (by first | (with_reducible assumption) | assumption)
                 have q430 : (ji128) < (t425.length : Int) := of_decide_eq_true (by first | (with_reducible assumption) | assumption)
                 obtain ⟨ad430, e430, hx430_0⟩ := Kd.at_int (Kd.R_reads' HO427.out).2.2 (ji128) p430 q430
                 cases e430
                 replace p430 := eq_true p430
                 replace q430 := eq_true q430
                 refine start_ (n := 38) (S := fun w' => w'.cell? ⟨gb424, 0, none⟩ = some (.int .i64 t419) ∧ w'.cell? ⟨gb424, 1, none⟩ = some (.int .i64 t420) ∧ w'.cell? ⟨gb424, 2, none⟩ = some (.int .i64 t421) ∧ w'.cell? ⟨gb424, 3, none⟩ = some (.int .i64 t422) ∧ w'.cell? (ad430.add ((ji128)).toNat) = some (.int .i64 (rd t425 (ji128)))) (ds := []) #[Z,Z,Z,Z,Z,Z,Z,Z,Z,Z,Z,Z,Z,Z,Z,Z,Z,Z,Z,Z,Z,Z,Z,Z,Z,Z,Z,Z,Z,Z,Z,Z,Z,Z,Z,Z,Z,Z] (by kernel_rfl) rfl rfl ⟨(blk_cell BK424.out 0).trans rfl, (blk_cell BK424.out 1).trans rfl, (blk_cell BK424.out 2).trans rfl, (blk_cell BK424.out 3).trans rfl, hx430_0⟩ (fun hHeld => ?_); refine with_tabW tipstafflaw09_MotionTravels.tab12 tipstafflaw09_MotionTravels.bits12 (fun HT_ HW_ => ?_)
                 generalize w159.drew = w163 at HO427 BK399 BK412 BK418 BK424 HB hx430_0 hHeld ⊢
                 refine pure_ (i := 0) (N := some 128) (v := ?_) (a' := ?_) #[X,Z,Z,Z,Z,Z,Z,Z,Z,Z,Z,Z,Z,Z,Z,Z,Z,Z,Z,Z,Z,Z,Z,Z,Z,Z,Z,Z,Z,Z,Z,Z,Z,Z,Z,Z,Z,Z] rfl rfl (any_of HT_.out (by kernel_rfl)) (fun _ _ _ h => h) (Or.inl ⟨by rfl, ?_⟩) ?_ ?_
                 rotate_left;·intro w';go_simp;with_reducible rfl
                 rotate_left;·simp only [Act.put, sA, sB, sC, i64_w, i32_w];rfl
                 refine pure_ (i := 1) (N := some 129) (v := ?_) (a' := ?_) #[X,X,Z,Z,Z,Z,Z,Z,Z,Z,Z,Z,Z,Z,Z,Z,Z,Z,Z,Z,Z,Z,Z,Z,Z,Z,Z,Z,Z,Z,Z,Z,Z,Z,Z,Z,Z,Z] rfl rfl (any_of HT_.out (by kernel_rfl)) (fun _ _ _ h => h) (Or.inl ⟨by rfl, ?_⟩) ?_ ?_
                 rotate_left;·intro w';go_simp;with_reducible rfl
                 rotate_left;·simp only [Act.put, sA, sB, sC, i64_w, i32_w];rfl
                 refine pure_ (i := 2) (N := some 130) (v := ?_) (a' := ?_) #[X,X,X,Z,Z,Z,Z,Z,Z,Z,Z,Z,Z,Z,Z,Z,Z,Z,Z,Z,Z,Z,Z,Z,Z,Z,Z,Z,Z,Z,Z,Z,Z,Z,Z,Z,Z,Z] rfl rfl (any_of HT_.out (by kernel_rfl)) (fun _ _ _ h => h) (Or.inl ⟨by rfl, ?_⟩) ?_ ?_
                 rotate_left;·intro w';go_simp;with_reducible rfl
                 rotate_left;·simp only [Act.put, sA, sB, sC, i64_w, i32_w];rfl
                 refine pure_ (i := 3) (N := some 131) (v := ?_) (a' := ?_) #[X,X,X,X,Z,Z,Z,Z,Z,Z,Z,Z,Z,Z,Z,Z,Z,Z,Z,Z,Z,Z,Z,Z,Z,Z,Z,Z,Z,Z,Z,Z,Z,Z,Z,Z,Z,Z] rfl rfl (any_of HT_.out (by kernel_rfl)) (fun _ _ _ h => h) (Or.inl ⟨by rfl, ?_⟩) ?_ ?_
                 rotate_left;·intro w';go_simp;with_reducible rfl
                 rotate_left;·simp only [Act.put, sA, sB, sC, i64_w, i32_w];rfl
                 refine pure_ (i := 4) (N := some 132) (v := ?_) (a' := ?_) #[X,X,X,X,X,Z,Z,Z,Z,Z,Z,Z,Z,Z,Z,Z,Z,Z,Z,Z,Z,Z,Z,Z,Z,Z,Z,Z,Z,Z,Z,Z,Z,Z,Z,Z,Z,Z] rfl rfl (any_of HT_.out (by kernel_rfl)) (fun _ _ _ h => h) (Or.inl ⟨by rfl, ?_⟩) ?_ ?_
                 rotate_left;·intro w';go_simp;with_reducible rfl
                 rotate_left;·simp only [Act.put, sA, sB, sC, i64_w, i32_w];rfl
                 refine pure_ (i := 5) (N := some 133) (v := ?_) (a' := ?_) #[X,X,X,X,X,X,Z,Z,Z,Z,Z,Z,Z,Z,Z,Z,Z,Z,Z,Z,Z,Z,Z,Z,Z,Z,Z,Z,Z,Z,Z,Z,Z,Z,Z,Z,Z,Z] rfl rfl (any_of HT_.out (by kernel_rfl)) (fun _ _ _ h => h) (Or.inl ⟨by rfl, ?_⟩) ?_ ?_
                 rotate_left;·intro w';go_simp;with_reducible rfl
                 rotate_left;·simp only [Act.put, sA, sB, sC, i64_w, i32_w];rfl
                 refine pure_ (i := 6) (N := some 134) (v := ?_) (a' := ?_) #[X,X,X,X,X,X,X,Z,Z,Z,Z,Z,Z,Z,Z,Z,Z,Z,Z,Z,Z,Z,Z,Z,Z,Z,Z,Z,Z,Z,Z,Z,Z,Z,Z,Z,Z,Z] rfl rfl (any_of HT_.out (by kernel_rfl)) (fun _ _ _ h => h) (Or.inl ⟨by rfl, ?_⟩) ?_ ?_
                 rotate_left;·intro w';go_simp;with_reducible rfl
                 rotate_left;·simp only [Act.put, sA, sB, sC, i64_w, i32_w];rfl
                 refine pure_ (i := 7) (N := some 135) (v := ?_) (a' := ?_) #[X,X,X,X,X,X,X,X,Z,Z,Z,Z,Z,Z,Z,Z,Z,Z,Z,Z,Z,Z,Z,Z,Z,Z,Z,Z,Z,Z,Z,Z,Z,Z,Z,Z,Z,Z] rfl rfl (any_of HT_.out (by kernel_rfl)) (fun _ _ _ h => h) (Or.inl ⟨by rfl, ?_⟩) ?_ ?_
                 rotate_left;·intro w';go_simp;with_reducible rfl
                 rotate_left;·simp only [Act.put, sA, sB, sC, i64_w, i32_w];rfl
                 refine pure_ (i := 8) (N := some 136) (v := ?_) (a' := ?_) #[X,X,X,X,X,X,X,X,X,Z,Z,Z,Z,Z,Z,Z,Z,Z,Z,Z,Z,Z,Z,Z,Z,Z,Z,Z,Z,Z,Z,Z,Z,Z,Z,Z,Z,Z] rfl rfl (any_of HT_.out (by kernel_rfl)) (fun _ _ _ h => h) (Or.inl ⟨by rfl, ?_⟩) ?_ ?_
                 rotate_left;·intro w';go_simp;with_reducible rfl
                 rotate_left;·simp only [Act.put, sA, sB, sC, i64_w, i32_w];rfl
                 refine pure_ (i := 9) (N := some 137) (v := ?_) (a' := ?_) #[X,X,X,X,X,X,X,X,X,X,Z,Z,Z,Z,Z,Z,Z,Z,Z,Z,Z,Z,Z,Z,Z,Z,Z,Z,Z,Z,Z,Z,Z,Z,Z,Z,Z,Z] rfl rfl (any_of HT_.out (by kernel_rfl)) (fun _ _ _ h => h) (Or.inl ⟨by rfl, ?_⟩) ?_ ?_
                 rotate_left;·intro w';go_simp;with_reducible rfl
                 rotate_left;·simp only [Act.put, sA, sB, sC, i64_w, i32_w];rfl
                 refine pure_ (i := 10) (N := some 138) (v := ?_) (a' := ?_) #[X,X,X,X,X,X,X,X,X,X,X,Z,Z,Z,Z,Z,Z,Z,Z,Z,Z,Z,Z,Z,Z,Z,Z,Z,Z,Z,Z,Z,Z,Z,Z,Z,Z,Z] rfl rfl (any_of HT_.out (by kernel_rfl)) (fun _ _ _ h => h) (Or.inl ⟨by rfl, ?_⟩) ?_ ?_
                 rotate_left;·intro w';go_simp;with_reducible rfl
                 rotate_left;·simp only [Act.put, sA, sB, sC, i64_w, i32_w];rfl
                 refine pure_ (i := 12) (N := some 140) (v := ?_) (a' := ?_) #[X,X,X,X,X,X,X,X,X,X,X,Z,X,Z,Z,Z,Z,Z,Z,Z,Z,Z,Z,Z,Z,Z,Z,Z,Z,Z,Z,Z,Z,Z,Z,Z,Z,Z] rfl rfl (any_of HT_.out (by kernel_rfl)) (fun _ _ _ h => h) (Or.inl ⟨by rfl, ?_⟩) ?_ ?_
                 rotate_left;·intro w';go_simp;with_reducible rfl
                 rotate_left;·simp only [Act.put, sA, sB, sC, i64_w, i32_w];rfl
                 refine take_ (i := 11) (N := some 139) (v := ?_) (a' := ?_) #[X,X,X,X,X,X,X,X,X,X,X,X,X,Z,Z,Z,Z,Z,Z,Z,Z,Z,Z,Z,Z,Z,Z,Z,Z,Z,Z,Z,Z,Z,Z,Z,Z,Z] rfl rfl (take_ofW HT_.out HW_.out (by kernel_rfl)) (fun _ _ _ h => h) (Or.inl ⟨by rfl, ?_⟩) hHeld ?_ ?_
                 rotate_left;·rintro w' ⟨s0, s1, s2, s3, s4⟩;go_simp;with_reducible rfl
                 rotate_left;·simp only [Act.put, sA, sB, sC, i64_w, i32_w];rfl
                 refine take_ (i := 13) (N := some 141) (v := ?_) (a' := ?_) #[X,X,X,X,X,X,X,X,X,X,X,X,X,X,Z,Z,Z,Z,Z,Z,Z,Z,Z,Z,Z,Z,Z,Z,Z,Z,Z,Z,Z,Z,Z,Z,Z,Z] rfl rfl (take_ofW HT_.out HW_.out (by kernel_rfl)) (fun _ _ _ h => h) (Or.inl ⟨by rfl, ?_⟩) hHeld ?_ ?_
                 rotate_left;·rintro w' ⟨s0, s1, s2, s3, s4⟩;go_simp;with_reducible rfl
                 rotate_left;·simp only [Act.put, sA, sB, sC, i64_w, i32_w];rfl
                 refine pure_ (i := 14) (N := some 142) (v := ?_) (a' := ?_) #[X,X,X,X,X,X,X,X,X,X,X,X,X,X,X,Z,Z,Z,Z,Z,Z,Z,Z,Z,Z,Z,Z,Z,Z,Z,Z,Z,Z,Z,Z,Z,Z,Z] rfl rfl (any_of HT_.out (by kernel_rfl)) (fun _ _ _ h => h) (Or.inl ⟨by rfl, ?_⟩) ?_ ?_
                 rotate_left;·intro w';go_simp;with_reducible rfl
                 rotate_left;·simp only [Act.put, sA, sB, sC, i64_w, i32_w];rfl
                 refine pure_ (i := 15) (N := some 143) (v := ?_) (a' := ?_) #[X,X,X,X,X,X,X,X,X,X,X,X,X,X,X,X,Z,Z,Z,Z,Z,Z,Z,Z,Z,Z,Z,Z,Z,Z,Z,Z,Z,Z,Z,Z,Z,Z] rfl rfl (any_of HT_.out (by kernel_rfl)) (fun _ _ _ h => h) (Or.inl ⟨by rfl, ?_⟩) ?_ ?_
                 rotate_left;·intro w';go_simp;with_reducible rfl
                 rotate_left;·simp only [Act.put, sA, sB, sC, i64_w, i32_w];rfl
                 refine pure_ (i := 16) (N := some 144) (v := ?_) (a' := ?_) #[X,X,X,X,X,X,X,X,X,X,X,X,X,X,X,X,X,Z,Z,Z,Z,Z,Z,Z,Z,Z,Z,Z,Z,Z,Z,Z,Z,Z,Z,Z,Z,Z] rfl rfl (any_of HT_.out (by kernel_rfl)) (fun _ _ _ h => h) (Or.inl ⟨by rfl, ?_⟩) ?_ ?_
                 rotate_left;·intro w';go_simp;with_reducible rfl
                 rotate_left;·simp only [Act.put, sA, sB, sC, i64_w, i32_w];rfl
                 refine pure_ (i := 17) (N := some 145) (v := ?_) (a' := ?_) #[X,X,X,X,X,X,X,X,X,X,X,X,X,X,X,X,X,X,Z,Z,Z,Z,Z,Z,Z,Z,Z,Z,Z,Z,Z,Z,Z,Z,Z,Z,Z,Z] rfl rfl (any_of HT_.out (by kernel_rfl)) (fun _ _ _ h => h) (Or.inl ⟨by rfl, ?_⟩) ?_ ?_
                 rotate_left;·intro w';go_simp;with_reducible rfl
                 rotate_left;·simp only [Act.put, sA, sB, sC, i64_w, i32_w];rfl
                 refine pure_ (i := 18) (N := some 146) (v := ?_) (a' := ?_) #[X,X,X,X,X,X,X,X,X,X,X,X,X,X,X,X,X,X,X,Z,Z,Z,Z,Z,Z,Z,Z,Z,Z,Z,Z,Z,Z,Z,Z,Z,Z,Z] rfl rfl (any_of HT_.out (by kernel_rfl)) (fun _ _ _ h => h) (Or.inl ⟨by rfl, ?_⟩) ?_ ?_
                 rotate_left;·intro w';go_simp;with_reducible rfl
                 rotate_left;·simp only [Act.put, sA, sB, sC, i64_w, i32_w];rfl
                 refine pure_ (i := 19) (N := some 147) (v := ?_) (a' := ?_) #[X,X,X,X,X,X,X,X,X,X,X,X,X,X,X,X,X,X,X,X,Z,Z,Z,Z,Z,Z,Z,Z,Z,Z,Z,Z,Z,Z,Z,Z,Z,Z] rfl rfl (any_of HT_.out (by kernel_rfl)) (fun _ _ _ h => h) (Or.inl ⟨by rfl, ?_⟩) ?_ ?_
                 rotate_left;·intro w';go_simp;with_reducible rfl
                 rotate_left;·simp only [Act.put, sA, sB, sC, i64_w, i32_w];rfl
                 refine pure_ (i := 20) (N := some 148) (v := ?_) (a' := ?_) #[X,X,X,X,X,X,X,X,X,X,X,X,X,X,X,X,X,X,X,X,X,Z,Z,Z,Z,Z,Z,Z,Z,Z,Z,Z,Z,Z,Z,Z,Z,Z] rfl rfl (any_of HT_.out (by kernel_rfl)) (fun _ _ _ h => h) (Or.inl ⟨by rfl, ?_⟩) ?_ ?_
                 rotate_left;·intro w';go_simp;with_reducible rfl
                 rotate_left;·simp only [Act.put, sA, sB, sC, i64_w, i32_w];rfl
                 refine pure_ (i := 21) (N := some 149) (v := undef) (a' := ?_) #[X,X,X,X,X,X,X,X,X,X,X,X,X,X,X,X,X,X,X,X,X,X,Z,Z,Z,Z,Z,Z,Z,Z,Z,Z,Z,Z,Z,Z,Z,Z] rfl rfl (any_of HT_.out (by kernel_rfl)) (fun _ _ _ h => h) (Or.inr ⟨by rfl, rfl⟩) ?_ ?_
                 rotate_left;·simp only [Act.put, sA, sB, sC, i64_w, i32_w];rfl
                 refine pure_ (i := 22) (N := some 150) (v := undef) (a' := ?_) #[X,X,X,X,X,X,X,X,X,X,X,X,X,X,X,X,X,X,X,X,X,X,X,Z,Z,Z,Z,Z,Z,Z,Z,Z,Z,Z,Z,Z,Z,Z] rfl rfl (any_of HT_.out (by kernel_rfl)) (fun _ _ _ h => h) (Or.inr ⟨by rfl, rfl⟩) ?_ ?_
                 rotate_left;·simp only [Act.put, sA, sB, sC, i64_w, i32_w];rfl
                 refine pure_ (i := 23) (N := some 151) (v := undef) (a' := ?_) #[X,X,X,X,X,X,X,X,X,X,X,X,X,X,X,X,X,X,X,X,X,X,X,X,Z,Z,Z,Z,Z,Z,Z,Z,Z,Z,Z,Z,Z,Z] rfl rfl (any_of HT_.out (by kernel_rfl)) (fun _ _ _ h => h) (Or.inr ⟨by rfl, rfl⟩) ?_ ?_
                 rotate_left;·simp only [Act.put, sA, sB, sC, i64_w, i32_w];rfl
                 refine pure_ (i := 24) (N := some 152) (v := undef) (a' := ?_) #[X,X,X,X,X,X,X,X,X,X,X,X,X,X,X,X,X,X,X,X,X,X,X,X,X,Z,Z,Z,Z,Z,Z,Z,Z,Z,Z,Z,Z,Z] rfl rfl (any_of HT_.out (by kernel_rfl)) (fun _ _ _ h => h) (Or.inr ⟨by rfl, rfl⟩) ?_ ?_
                 rotate_left;·simp only [Act.put, sA, sB, sC, i64_w, i32_w];rfl
                 refine pure_ (i := 25) (N := some 153) (v := ?_) (a' := ?_) #[X,X,X,X,X,X,X,X,X,X,X,X,X,X,X,X,X,X,X,X,X,X,X,X,X,X,Z,Z,Z,Z,Z,Z,Z,Z,Z,Z,Z,Z] rfl rfl (any_of HT_.out (by kernel_rfl)) (fun _ _ _ h => h) (Or.inl ⟨by rfl, ?_⟩) ?_ ?_
                 rotate_left;·intro w';go_simp;with_reducible rfl
                 rotate_left;·simp only [Act.put, sA, sB, sC, i64_w, i32_w];rfl
                 refine pure_ (i := 26) (N := some 154) (v := ?_) (a' := ?_) #[X,X,X,X,X,X,X,X,X,X,X,X,X,X,X,X,X,X,X,X,X,X,X,X,X,X,X,Z,Z,Z,Z,Z,Z,Z,Z,Z,Z,Z] rfl rfl (any_of HT_.out (by kernel_rfl)) (fun _ _ _ h => h) (Or.inl ⟨by rfl, ?_⟩) ?_ ?_
                 rotate_left;·intro w';go_simp;with_reducible rfl
                 rotate_left;·simp only [Act.put, sA, sB, sC, i64_w, i32_w];rfl
                 refine pure_ (i := 27) (N := some 155) (v := undef) (a' := ?_) #[X,X,X,X,X,X,X,X,X,X,X,X,X,X,X,X,X,X,X,X,X,X,X,X,X,X,X,X,Z,Z,Z,Z,Z,Z,Z,Z,Z,Z] rfl rfl (any_of HT_.out (by kernel_rfl)) (fun _ _ _ h => h) (Or.inr ⟨by rfl, rfl⟩) ?_ ?_
                 rotate_left;·simp only [Act.put, sA, sB, sC, i64_w, i32_w];rfl
                 refine pure_ (i := 28) (N := some 156) (v := undef) (a' := ?_) #[X,X,X,X,X,X,X,X,X,X,X,X,X,X,X,X,X,X,X,X,X,X,X,X,X,X,X,X,X,Z,Z,Z,Z,Z,Z,Z,Z,Z] rfl rfl (any_of HT_.out (by kernel_rfl)) (fun _ _ _ h => h) (Or.inr ⟨by rfl, rfl⟩) ?_ ?_
                 rotate_left;·simp only [Act.put, sA, sB, sC, i64_w, i32_w];rfl
                 refine pure_ (i := 29) (N := some 157) (v := undef) (a' := ?_) #[X,X,X,X,X,X,X,X,X,X,X,X,X,X,X,X,X,X,X,X,X,X,X,X,X,X,X,X,X,X,Z,Z,Z,Z,Z,Z,Z,Z] rfl rfl (any_of HT_.out (by kernel_rfl)) (fun _ _ _ h => h) (Or.inr ⟨by rfl, rfl⟩) ?_ ?_
                 rotate_left;·simp only [Act.put, sA, sB, sC, i64_w, i32_w];rfl
                 refine pure_ (i := 30) (N := some 158) (v := undef) (a' := ?_) #[X,X,X,X,X,X,X,X,X,X,X,X,X,X,X,X,X,X,X,X,X,X,X,X,X,X,X,X,X,X,X,Z,Z,Z,Z,Z,Z,Z] rfl rfl (any_of HT_.out (by kernel_rfl)) (fun _ _ _ h => h) (Or.inr ⟨by rfl, rfl⟩) ?_ ?_
                 rotate_left;·simp only [Act.put, sA, sB, sC, i64_w, i32_w];rfl
                 refine pure_ (i := 31) (N := some 159) (v := undef) (a' := ?_) #[X,X,X,X,X,X,X,X,X,X,X,X,X,X,X,X,X,X,X,X,X,X,X,X,X,X,X,X,X,X,X,X,Z,Z,Z,Z,Z,Z] rfl rfl (any_of HT_.out (by kernel_rfl)) (fun _ _ _ h => h) (Or.inr ⟨by rfl, rfl⟩) ?_ ?_
                 rotate_left;·simp only [Act.put, sA, sB, sC, i64_w, i32_w];rfl
                 refine pure_ (i := 32) (N := some 160) (v := undef) (a' := ?_) #[X,X,X,X,X,X,X,X,X,X,X,X,X,X,X,X,X,X,X,X,X,X,X,X,X,X,X,X,X,X,X,X,X,Z,Z,Z,Z,Z] rfl rfl (any_of HT_.out (by kernel_rfl)) (fun _ _ _ h => h) (Or.inr ⟨by rfl, rfl⟩) ?_ ?_
                 rotate_left;·simp only [Act.put, sA, sB, sC, i64_w, i32_w];rfl
                 refine pure_ (i := 33) (N := some 161) (v := undef) (a' := ?_) #[X,X,X,X,X,X,X,X,X,X,X,X,X,X,X,X,X,X,X,X,X,X,X,X,X,X,X,X,X,X,X,X,X,X,Z,Z,Z,Z] rfl rfl (any_of HT_.out (by kernel_rfl)) (fun _ _ _ h => h) (Or.inr ⟨by rfl, rfl⟩) ?_ ?_
                 rotate_left;·simp only [Act.put, sA, sB, sC, i64_w, i32_w];rfl
                 refine pure_ (i := 34) (N := some 162) (v := undef) (a' := ?_) #[X,X,X,X,X,X,X,X,X,X,X,X,X,X,X,X,X,X,X,X,X,X,X,X,X,X,X,X,X,X,X,X,X,X,X,Z,Z,Z] rfl rfl (any_of HT_.out (by kernel_rfl)) (fun _ _ _ h => h) (Or.inr ⟨by rfl, rfl⟩) ?_ ?_
                 rotate_left;·simp only [Act.put, sA, sB, sC, i64_w, i32_w];rfl
                 refine pure_ (i := 35) (N := some 163) (v := ?_) (a' := ?_) #[X,X,X,X,X,X,X,X,X,X,X,X,X,X,X,X,X,X,X,X,X,X,X,X,X,X,X,X,X,X,X,X,X,X,X,X,Z,Z] rfl rfl (any_of HT_.out (by kernel_rfl)) (fun _ _ _ h => h) (Or.inl ⟨by rfl, ?_⟩) ?_ ?_
                 rotate_left;·intro w';go_simp;with_reducible rfl
                 rotate_left;·simp only [Act.put, sA, sB, sC, i64_w, i32_w];rfl
                 refine pure_ (i := 36) (N := some 164) (v := ?_) (a' := ?_) #[X,X,X,X,X,X,X,X,X,X,X,X,X,X,X,X,X,X,X,X,X,X,X,X,X,X,X,X,X,X,X,X,X,X,X,X,X,Z] rfl rfl (any_of HT_.out (by kernel_rfl)) (fun _ _ _ h => h) (Or.inl ⟨by rfl, ?_⟩) ?_ ?_
                 rotate_left;·intro w';go_simp;with_reducible rfl
                 rotate_left;·simp only [Act.put, sA, sB, sC, i64_w, i32_w];rfl
                 refine pure_ (i := 37) (N := some 10) (v := ?_) (a' := ?_) #[X,X,X,X,X,X,X,X,X,X,X,X,X,X,X,X,X,X,X,X,X,X,X,X,X,X,X,X,X,X,X,X,X,X,X,X,X,X] rfl rfl (any_of HT_.out (by kernel_rfl)) (fun _ _ _ h => h) (Or.inl ⟨by rfl, ?_⟩) ?_ ?_
                 rotate_left;·intro w';go_simp;with_reducible rfl
                 rotate_left;·simp only [Act.put, sA, sB, sC, i64_w, i32_w];rfl
                 refine done_ (done_of HT_.out (by kernel_rfl)) ?_
                 try go_wp2
                 go_ret
                 exact ⟨by first | rfl | (simp [errW_none, errW_some] <;> rfl) | (simp only [← hji26, ← hji128]; first | rfl | (simp [errW_none, errW_some] <;> rfl)) | (simp [*, errW_none, errW_some] <;> rfl) | (simp (discharger := omega) only [Int.tdiv_eq_ediv_of_nonneg, Int.tmod_eq_emod_of_nonneg] <;> rfl), by repeat (first | (with_reducible first | exact HB.out | apply below_alloc | apply pw_below_drewN | apply below_drew1 | refine below_set ?_ GE399.out | refine below_set ?_ GE412.out | refine below_set ?_ GE418.out | refine below_set ?_ GE424.out) | exact HB.out)⟩
                ·rw [if_neg c132] at H
                 have c132b0 : (t400 == 0) = false := beq_eq_false_iff_ne.mpr c132
                 have c132b1 : (t400 != 0) = true := bne_iff_ne.mpr c132
                 by_cases c164 : t400 > (t425.length : Int)
                 ·rw [if_pos c164] at H
                  have c164b0 : decide ((t425.length : Int) < t400) = true := decide_eq_true c164
                  clear c164
                  obtain rfl := Option.some.inj H
                  have p430 : 0 ≤ ((ji128) : Int) := of_decide_eq_true (by first | (with_reducible assumption) | assumption)
                  have q430 : (ji128) < (t425.length : Int) := of_decide_eq_true (by first | (with_reducible assumption) | assumption)
                  obtain ⟨ad430, e430, hx430_0⟩ := Kd.at_int (Kd.R_reads' HO427.out).2.2 (ji128) p430 q430
                  cases e430
                  replace p430 := eq_true p430
                  replace q430 := eq_true q430
                  refine start_ (n := 38) (S := fun w' => w'.cell? ⟨gb424, 0, none⟩ = some (.int .i64 t419) ∧ w'.cell? ⟨gb424, 1, none⟩ = some (.int .i64 t420) ∧ w'.cell? ⟨gb424, 2, none⟩ = some (.int .i64 t421) ∧ w'.cell? ⟨gb424, 3, none⟩ = some (.int .i64 t422) ∧ w'.cell? (ad430.add ((ji128)).toNat) = some (.int .i64 (rd t425 (ji128)))) (ds := []) #[Z,Z,Z,Z,Z,Z,Z,Z,Z,Z,Z,Z,Z,Z,Z,Z,Z,Z,Z,Z,Z,Z,Z,Z,Z,Z,Z,Z,Z,Z,Z,Z,Z,Z,Z,Z,Z,Z] (by kernel_rfl) rfl rfl ⟨(blk_cell BK424.out 0).trans rfl, (blk_cell BK424.out 1).trans rfl, (blk_cell BK424.out 2).trans rfl, (blk_cell BK424.out 3).trans rfl, hx430_0⟩ (fun hHeld => ?_); refine with_tabW tipstafflaw09_MotionTravels.tab12 tipstafflaw09_MotionTravels.bits12 (fun HT_ HW_ => ?_)
                  generalize w159.drew = w195 at HO427 BK399 BK412 BK418 BK424 HB hx430_0 hHeld ⊢
                  refine pure_ (i := 0) (N := some 128) (v := ?_) (a' := ?_) #[X,Z,Z,Z,Z,Z,Z,Z,Z,Z,Z,Z,Z,Z,Z,Z,Z,Z,Z,Z,Z,Z,Z,Z,Z,Z,Z,Z,Z,Z,Z,Z,Z,Z,Z,Z,Z,Z] rfl rfl (any_of HT_.out (by kernel_rfl)) (fun _ _ _ h => h) (Or.inl ⟨by rfl, ?_⟩) ?_ ?_
                  rotate_left;·intro w';go_simp;with_reducible rfl
                  rotate_left;·simp only [Act.put, sA, sB, sC, i64_w, i32_w];rfl
                  refine pure_ (i := 1) (N := some 129) (v := ?_) (a' := ?_) #[X,X,Z,Z,Z,Z,Z,Z,Z,Z,Z,Z,Z,Z,Z,Z,Z,Z,Z,Z,Z,Z,Z,Z,Z,Z,Z,Z,Z,Z,Z,Z,Z,Z,Z,Z,Z,Z] rfl rfl (any_of HT_.out (by kernel_rfl)) (fun _ _ _ h => h) (Or.inl ⟨by rfl, ?_⟩) ?_ ?_
                  rotate_left;·intro w';go_simp;with_reducible rfl
                  rotate_left;·simp only [Act.put, sA, sB, sC, i64_w, i32_w];rfl
                  refine pure_ (i := 2) (N := some 130) (v := ?_) (a' := ?_) #[X,X,X,Z,Z,Z,Z,Z,Z,Z,Z,Z,Z,Z,Z,Z,Z,Z,Z,Z,Z,Z,Z,Z,Z,Z,Z,Z,Z,Z,Z,Z,Z,Z,Z,Z,Z,Z] rfl rfl (any_of HT_.out (by kernel_rfl)) (fun _ _ _ h => h) (Or.inl ⟨by rfl, ?_⟩) ?_ ?_
                  rotate_left;·intro w';go_simp;with_reducible rfl
                  rotate_left;·simp only [Act.put, sA, sB, sC, i64_w, i32_w];rfl
                  refine pure_ (i := 3) (N := some 131) (v := ?_) (a' := ?_) #[X,X,X,X,Z,Z,Z,Z,Z,Z,Z,Z,Z,Z,Z,Z,Z,Z,Z,Z,Z,Z,Z,Z,Z,Z,Z,Z,Z,Z,Z,Z,Z,Z,Z,Z,Z,Z] rfl rfl (any_of HT_.out (by kernel_rfl)) (fun _ _ _ h => h) (Or.inl ⟨by rfl, ?_⟩) ?_ ?_
                  rotate_left;·intro w';go_simp;with_reducible rfl
                  rotate_left;·simp only [Act.put, sA, sB, sC, i64_w, i32_w];rfl
                  refine pure_ (i := 4) (N := some 132) (v := ?_) (a' := ?_) #[X,X,X,X,X,Z,Z,Z,Z,Z,Z,Z,Z,Z,Z,Z,Z,Z,Z,Z,Z,Z,Z,Z,Z,Z,Z,Z,Z,Z,Z,Z,Z,Z,Z,Z,Z,Z] rfl rfl (any_of HT_.out (by kernel_rfl)) (fun _ _ _ h => h) (Or.inl ⟨by rfl, ?_⟩) ?_ ?_
                  rotate_left;·intro w';go_simp;with_reducible rfl
                  rotate_left;·simp only [Act.put, sA, sB, sC, i64_w, i32_w];rfl
                  refine pure_ (i := 5) (N := some 133) (v := ?_) (a' := ?_) #[X,X,X,X,X,X,Z,Z,Z,Z,Z,Z,Z,Z,Z,Z,Z,Z,Z,Z,Z,Z,Z,Z,Z,Z,Z,Z,Z,Z,Z,Z,Z,Z,Z,Z,Z,Z] rfl rfl (any_of HT_.out (by kernel_rfl)) (fun _ _ _ h => h) (Or.inl ⟨by rfl, ?_⟩) ?_ ?_
                  rotate_left;·intro w';go_simp;with_reducible rfl
                  rotate_left;·simp only [Act.put, sA, sB, sC, i64_w, i32_w];rfl
                  refine pure_ (i := 6) (N := some 134) (v := ?_) (a' := ?_) #[X,X,X,X,X,X,X,Z,Z,Z,Z,Z,Z,Z,Z,Z,Z,Z,Z,Z,Z,Z,Z,Z,Z,Z,Z,Z,Z,Z,Z,Z,Z,Z,Z,Z,Z,Z] rfl rfl (any_of HT_.out (by kernel_rfl)) (fun _ _ _ h => h) (Or.inl ⟨by rfl, ?_⟩) ?_ ?_
                  rotate_left;·intro w';go_simp;with_reducible rfl
                  rotate_left;·simp only [Act.put, sA, sB, sC, i64_w, i32_w];rfl
                  refine pure_ (i := 7) (N := some 135) (v := ?_) (a' := ?_) #[X,X,X,X,X,X,X,X,Z,Z,Z,Z,Z,Z,Z,Z,Z,Z,Z,Z,Z,Z,Z,Z,Z,Z,Z,Z,Z,Z,Z,Z,Z,Z,Z,Z,Z,Z] rfl rfl (any_of HT_.out (by kernel_rfl)) (fun _ _ _ h => h) (Or.inl ⟨by rfl, ?_⟩) ?_ ?_
                  rotate_left;·intro w';go_simp;with_reducible rfl
                  rotate_left;·simp only [Act.put, sA, sB, sC, i64_w, i32_w];rfl
                  refine pure_ (i := 8) (N := some 136) (v := ?_) (a' := ?_) #[X,X,X,X,X,X,X,X,X,Z,Z,Z,Z,Z,Z,Z,Z,Z,Z,Z,Z,Z,Z,Z,Z,Z,Z,Z,Z,Z,Z,Z,Z,Z,Z,Z,Z,Z] rfl rfl (any_of HT_.out (by kernel_rfl)) (fun _ _ _ h => h) (Or.inl ⟨by rfl, ?_⟩) ?_ ?_
                  rotate_left;·intro w';go_simp;with_reducible rfl
                  rotate_left;·simp only [Act.put, sA, sB, sC, i64_w, i32_w];rfl
                  refine pure_ (i := 9) (N := some 137) (v := ?_) (a' := ?_) #[X,X,X,X,X,X,X,X,X,X,Z,Z,Z,Z,Z,Z,Z,Z,Z,Z,Z,Z,Z,Z,Z,Z,Z,Z,Z,Z,Z,Z,Z,Z,Z,Z,Z,Z] rfl rfl (any_of HT_.out (by kernel_rfl)) (fun _ _ _ h => h) (Or.inl ⟨by rfl, ?_⟩) ?_ ?_
                  rotate_left;·intro w';go_simp;with_reducible rfl
                  rotate_left;·simp only [Act.put, sA, sB, sC, i64_w, i32_w];rfl
                  refine pure_ (i := 10) (N := some 138) (v := ?_) (a' := ?_) #[X,X,X,X,X,X,X,X,X,X,X,Z,Z,Z,Z,Z,Z,Z,Z,Z,Z,Z,Z,Z,Z,Z,Z,Z,Z,Z,Z,Z,Z,Z,Z,Z,Z,Z] rfl rfl (any_of HT_.out (by kernel_rfl)) (fun _ _ _ h => h) (Or.inl ⟨by rfl, ?_⟩) ?_ ?_
                  rotate_left;·intro w';go_simp;with_reducible rfl
                  rotate_left;·simp only [Act.put, sA, sB, sC, i64_w, i32_w];rfl
                  refine pure_ (i := 12) (N := some 140) (v := ?_) (a' := ?_) #[X,X,X,X,X,X,X,X,X,X,X,Z,X,Z,Z,Z,Z,Z,Z,Z,Z,Z,Z,Z,Z,Z,Z,Z,Z,Z,Z,Z,Z,Z,Z,Z,Z,Z] rfl rfl (any_of HT_.out (by kernel_rfl)) (fun _ _ _ h => h) (Or.inl ⟨by rfl, ?_⟩) ?_ ?_
                  rotate_left;·intro w';go_simp;with_reducible rfl
                  rotate_left;·simp only [Act.put, sA, sB, sC, i64_w, i32_w];rfl
                  refine take_ (i := 11) (N := some 139) (v := ?_) (a' := ?_) #[X,X,X,X,X,X,X,X,X,X,X,X,X,Z,Z,Z,Z,Z,Z,Z,Z,Z,Z,Z,Z,Z,Z,Z,Z,Z,Z,Z,Z,Z,Z,Z,Z,Z] rfl rfl (take_ofW HT_.out HW_.out (by kernel_rfl)) (fun _ _ _ h => h) (Or.inl ⟨by rfl, ?_⟩) hHeld ?_ ?_
                  rotate_left;·rintro w' ⟨s0, s1, s2, s3, s4⟩;go_simp;with_reducible rfl
                  rotate_left;·simp only [Act.put, sA, sB, sC, i64_w, i32_w];rfl
                  refine take_ (i := 13) (N := some 141) (v := ?_) (a' := ?_) #[X,X,X,X,X,X,X,X,X,X,X,X,X,X,Z,Z,Z,Z,Z,Z,Z,Z,Z,Z,Z,Z,Z,Z,Z,Z,Z,Z,Z,Z,Z,Z,Z,Z] rfl rfl (take_ofW HT_.out HW_.out (by kernel_rfl)) (fun _ _ _ h => h) (Or.inl ⟨by rfl, ?_⟩) hHeld ?_ ?_
                  rotate_left;·rintro w' ⟨s0, s1, s2, s3, s4⟩;go_simp;with_reducible rfl
                  rotate_left;·simp only [Act.put, sA, sB, sC, i64_w, i32_w];rfl
                  refine pure_ (i := 14) (N := some 142) (v := ?_) (a' := ?_) #[X,X,X,X,X,X,X,X,X,X,X,X,X,X,X,Z,Z,Z,Z,Z,Z,Z,Z,Z,Z,Z,Z,Z,Z,Z,Z,Z,Z,Z,Z,Z,Z,Z] rfl rfl (any_of HT_.out (by kernel_rfl)) (fun _ _ _ h => h) (Or.inl ⟨by rfl, ?_⟩) ?_ ?_
                  rotate_left;·intro w';go_simp;with_reducible rfl
                  rotate_left;·simp only [Act.put, sA, sB, sC, i64_w, i32_w];rfl
                  refine pure_ (i := 15) (N := some 143) (v := ?_) (a' := ?_) #[X,X,X,X,X,X,X,X,X,X,X,X,X,X,X,X,Z,Z,Z,Z,Z,Z,Z,Z,Z,Z,Z,Z,Z,Z,Z,Z,Z,Z,Z,Z,Z,Z] rfl rfl (any_of HT_.out (by kernel_rfl)) (fun _ _ _ h => h) (Or.inl ⟨by rfl, ?_⟩) ?_ ?_
                  rotate_left;·intro w';go_simp;with_reducible rfl
                  rotate_left;·simp only [Act.put, sA, sB, sC, i64_w, i32_w];rfl
                  refine pure_ (i := 16) (N := some 144) (v := ?_) (a' := ?_) #[X,X,X,X,X,X,X,X,X,X,X,X,X,X,X,X,X,Z,Z,Z,Z,Z,Z,Z,Z,Z,Z,Z,Z,Z,Z,Z,Z,Z,Z,Z,Z,Z] rfl rfl (any_of HT_.out (by kernel_rfl)) (fun _ _ _ h => h) (Or.inl ⟨by rfl, ?_⟩) ?_ ?_
                  rotate_left;·intro w';go_simp;with_reducible rfl
                  rotate_left;·simp only [Act.put, sA, sB, sC, i64_w, i32_w];rfl
                  refine pure_ (i := 17) (N := some 145) (v := ?_) (a' := ?_) #[X,X,X,X,X,X,X,X,X,X,X,X,X,X,X,X,X,X,Z,Z,Z,Z,Z,Z,Z,Z,Z,Z,Z,Z,Z,Z,Z,Z,Z,Z,Z,Z] rfl rfl (any_of HT_.out (by kernel_rfl)) (fun _ _ _ h => h) (Or.inl ⟨by rfl, ?_⟩) ?_ ?_
                  rotate_left;·intro w';go_simp;with_reducible rfl
                  rotate_left;·simp only [Act.put, sA, sB, sC, i64_w, i32_w];rfl
                  refine pure_ (i := 18) (N := some 146) (v := ?_) (a' := ?_) #[X,X,X,X,X,X,X,X,X,X,X,X,X,X,X,X,X,X,X,Z,Z,Z,Z,Z,Z,Z,Z,Z,Z,Z,Z,Z,Z,Z,Z,Z,Z,Z] rfl rfl (any_of HT_.out (by kernel_rfl)) (fun _ _ _ h => h) (Or.inl ⟨by rfl, ?_⟩) ?_ ?_
                  rotate_left;·intro w';go_simp;with_reducible rfl
                  rotate_left;·simp only [Act.put, sA, sB, sC, i64_w, i32_w];rfl
                  refine pure_ (i := 19) (N := some 147) (v := ?_) (a' := ?_) #[X,X,X,X,X,X,X,X,X,X,X,X,X,X,X,X,X,X,X,X,Z,Z,Z,Z,Z,Z,Z,Z,Z,Z,Z,Z,Z,Z,Z,Z,Z,Z] rfl rfl (any_of HT_.out (by kernel_rfl)) (fun _ _ _ h => h) (Or.inl ⟨by rfl, ?_⟩) ?_ ?_
                  rotate_left;·intro w';go_simp;with_reducible rfl
                  rotate_left;·simp only [Act.put, sA, sB, sC, i64_w, i32_w];rfl
                  refine pure_ (i := 20) (N := some 148) (v := ?_) (a' := ?_) #[X,X,X,X,X,X,X,X,X,X,X,X,X,X,X,X,X,X,X,X,X,Z,Z,Z,Z,Z,Z,Z,Z,Z,Z,Z,Z,Z,Z,Z,Z,Z] rfl rfl (any_of HT_.out (by kernel_rfl)) (fun _ _ _ h => h) (Or.inl ⟨by rfl, ?_⟩) ?_ ?_
                  rotate_left;·intro w';go_simp;with_reducible rfl
                  rotate_left;·simp only [Act.put, sA, sB, sC, i64_w, i32_w];rfl
                  refine pure_ (i := 21) (N := some 149) (v := ?_) (a' := ?_) #[X,X,X,X,X,X,X,X,X,X,X,X,X,X,X,X,X,X,X,X,X,X,Z,Z,Z,Z,Z,Z,Z,Z,Z,Z,Z,Z,Z,Z,Z,Z] rfl rfl (any_of HT_.out (by kernel_rfl)) (fun _ _ _ h => h) (Or.inl ⟨by rfl, ?_⟩) ?_ ?_
                  rotate_left;·intro w';go_simp;with_reducible rfl
                  rotate_left;·simp only [Act.put, sA, sB, sC, i64_w, i32_w];rfl
                  refine pure_ (i := 22) (N := some 150) (v := ?_) (a' := ?_) #[X,X,X,X,X,X,X,X,X,X,X,X,X,X,X,X,X,X,X,X,X,X,X,Z,Z,Z,Z,Z,Z,Z,Z,Z,Z,Z,Z,Z,Z,Z] rfl rfl (any_of HT_.out (by kernel_rfl)) (fun _ _ _ h => h) (Or.inl ⟨by rfl, ?_⟩) ?_ ?_
                  rotate_left;·intro w';go_simp;with_reducible rfl
                  rotate_left;·simp only [Act.put, sA, sB, sC, i64_w, i32_w];rfl
                  refine pure_ (i := 23) (N := some 151) (v := ?_) (a' := ?_) #[X,X,X,X,X,X,X,X,X,X,X,X,X,X,X,X,X,X,X,X,X,X,X,X,Z,Z,Z,Z,Z,Z,Z,Z,Z,Z,Z,Z,Z,Z] rfl rfl (any_of HT_.out (by kernel_rfl)) (fun _ _ _ h => h) (Or.inl ⟨by rfl, ?_⟩) ?_ ?_
                  rotate_left;·intro w';go_simp;with_reducible rfl
                  rotate_left;·simp only [Act.put, sA, sB, sC, i64_w, i32_w];rfl
                  refine pure_ (i := 24) (N := some 152) (v := ?_) (a' := ?_) #[X,X,X,X,X,X,X,X,X,X,X,X,X,X,X,X,X,X,X,X,X,X,X,X,X,Z,Z,Z,Z,Z,Z,Z,Z,Z,Z,Z,Z,Z] rfl rfl (any_of HT_.out (by kernel_rfl)) (fun _ _ _ h => h) (Or.inl ⟨by rfl, ?_⟩) ?_ ?_
                  rotate_left;·intro w';go_simp;with_reducible rfl
                  rotate_left;·simp only [Act.put, sA, sB, sC, i64_w, i32_w];rfl
                  refine pure_ (i := 25) (N := some 153) (v := ?_) (a' := ?_) #[X,X,X,X,X,X,X,X,X,X,X,X,X,X,X,X,X,X,X,X,X,X,X,X,X,X,Z,Z,Z,Z,Z,Z,Z,Z,Z,Z,Z,Z] rfl rfl (any_of HT_.out (by kernel_rfl)) (fun _ _ _ h => h) (Or.inl ⟨by rfl, ?_⟩) ?_ ?_
                  rotate_left;·intro w';go_simp;with_reducible rfl
                  rotate_left;·simp only [Act.put, sA, sB, sC, i64_w, i32_w];rfl
                  refine pure_ (i := 26) (N := some 154) (v := ?_) (a' := ?_) #[X,X,X,X,X,X,X,X,X,X,X,X,X,X,X,X,X,X,X,X,X,X,X,X,X,X,X,Z,Z,Z,Z,Z,Z,Z,Z,Z,Z,Z] rfl rfl (any_of HT_.out (by kernel_rfl)) (fun _ _ _ h => h) (Or.inl ⟨by rfl, ?_⟩) ?_ ?_
                  rotate_left;·intro w';go_simp;with_reducible rfl
                  rotate_left;·simp only [Act.put, sA, sB, sC, i64_w, i32_w];rfl
                  refine pure_ (i := 27) (N := some 155) (v := undef) (a' := ?_) #[X,X,X,X,X,X,X,X,X,X,X,X,X,X,X,X,X,X,X,X,X,X,X,X,X,X,X,X,Z,Z,Z,Z,Z,Z,Z,Z,Z,Z] rfl rfl (any_of HT_.out (by kernel_rfl)) (fun _ _ _ h => h) (Or.inr ⟨by rfl, rfl⟩) ?_ ?_
                  rotate_left;·simp only [Act.put, sA, sB, sC, i64_w, i32_w];rfl
                  refine pure_ (i := 28) (N := some 156) (v := undef) (a' := ?_) #[X,X,X,X,X,X,X,X,X,X,X,X,X,X,X,X,X,X,X,X,X,X,X,X,X,X,X,X,X,Z,Z,Z,Z,Z,Z,Z,Z,Z] rfl rfl (any_of HT_.out (by kernel_rfl)) (fun _ _ _ h => h) (Or.inr ⟨by rfl, rfl⟩) ?_ ?_
                  rotate_left;·simp only [Act.put, sA, sB, sC, i64_w, i32_w];rfl
                  refine pure_ (i := 29) (N := some 157) (v := undef) (a' := ?_) #[X,X,X,X,X,X,X,X,X,X,X,X,X,X,X,X,X,X,X,X,X,X,X,X,X,X,X,X,X,X,Z,Z,Z,Z,Z,Z,Z,Z] rfl rfl (any_of HT_.out (by kernel_rfl)) (fun _ _ _ h => h) (Or.inr ⟨by rfl, rfl⟩) ?_ ?_
                  rotate_left;·simp only [Act.put, sA, sB, sC, i64_w, i32_w];rfl
                  refine pure_ (i := 30) (N := some 158) (v := undef) (a' := ?_) #[X,X,X,X,X,X,X,X,X,X,X,X,X,X,X,X,X,X,X,X,X,X,X,X,X,X,X,X,X,X,X,Z,Z,Z,Z,Z,Z,Z] rfl rfl (any_of HT_.out (by kernel_rfl)) (fun _ _ _ h => h) (Or.inr ⟨by rfl, rfl⟩) ?_ ?_
                  rotate_left;·simp only [Act.put, sA, sB, sC, i64_w, i32_w];rfl
                  refine pure_ (i := 31) (N := some 159) (v := undef) (a' := ?_) #[X,X,X,X,X,X,X,X,X,X,X,X,X,X,X,X,X,X,X,X,X,X,X,X,X,X,X,X,X,X,X,X,Z,Z,Z,Z,Z,Z] rfl rfl (any_of HT_.out (by kernel_rfl)) (fun _ _ _ h => h) (Or.inr ⟨by rfl, rfl⟩) ?_ ?_
                  rotate_left;·simp only [Act.put, sA, sB, sC, i64_w, i32_w];rfl
                  refine pure_ (i := 32) (N := some 160) (v := undef) (a' := ?_) #[X,X,X,X,X,X,X,X,X,X,X,X,X,X,X,X,X,X,X,X,X,X,X,X,X,X,X,X,X,X,X,X,X,Z,Z,Z,Z,Z] rfl rfl (any_of HT_.out (by kernel_rfl)) (fun _ _ _ h => h) (Or.inr ⟨by rfl, rfl⟩) ?_ ?_
                  rotate_left;·simp only [Act.put, sA, sB, sC, i64_w, i32_w];rfl
                  refine pure_ (i := 33) (N := some 161) (v := undef) (a' := ?_) #[X,X,X,X,X,X,X,X,X,X,X,X,X,X,X,X,X,X,X,X,X,X,X,X,X,X,X,X,X,X,X,X,X,X,Z,Z,Z,Z] rfl rfl (any_of HT_.out (by kernel_rfl)) (fun _ _ _ h => h) (Or.inr ⟨by rfl, rfl⟩) ?_ ?_
                  rotate_left;·simp only [Act.put, sA, sB, sC, i64_w, i32_w];rfl
                  refine pure_ (i := 34) (N := some 162) (v := undef) (a' := ?_) #[X,X,X,X,X,X,X,X,X,X,X,X,X,X,X,X,X,X,X,X,X,X,X,X,X,X,X,X,X,X,X,X,X,X,X,Z,Z,Z] rfl rfl (any_of HT_.out (by kernel_rfl)) (fun _ _ _ h => h) (Or.inr ⟨by rfl, rfl⟩) ?_ ?_
                  rotate_left;·simp only [Act.put, sA, sB, sC, i64_w, i32_w];rfl
                  refine pure_ (i := 35) (N := some 163) (v := ?_) (a' := ?_) #[X,X,X,X,X,X,X,X,X,X,X,X,X,X,X,X,X,X,X,X,X,X,X,X,X,X,X,X,X,X,X,X,X,X,X,X,Z,Z] rfl rfl (any_of HT_.out (by kernel_rfl)) (fun _ _ _ h => h) (Or.inl ⟨by rfl, ?_⟩) ?_ ?_
                  rotate_left;·intro w';go_simp;with_reducible rfl
                  rotate_left;·simp only [Act.put, sA, sB, sC, i64_w, i32_w];rfl
                  refine pure_ (i := 36) (N := some 164) (v := ?_) (a' := ?_) #[X,X,X,X,X,X,X,X,X,X,X,X,X,X,X,X,X,X,X,X,X,X,X,X,X,X,X,X,X,X,X,X,X,X,X,X,X,Z] rfl rfl (any_of HT_.out (by kernel_rfl)) (fun _ _ _ h => h) (Or.inl ⟨by rfl, ?_⟩) ?_ ?_
                  rotate_left;·intro w';go_simp;with_reducible rfl
                  rotate_left;·simp only [Act.put, sA, sB, sC, i64_w, i32_w];rfl
                  refine pure_ (i := 37) (N := some 10) (v := ?_) (a' := ?_) #[X,X,X,X,X,X,X,X,X,X,X,X,X,X,X,X,X,X,X,X,X,X,X,X,X,X,X,X,X,X,X,X,X,X,X,X,X,X] rfl rfl (any_of HT_.out (by kernel_rfl)) (fun _ _ _ h => h) (Or.inl ⟨by rfl, ?_⟩) ?_ ?_
                  rotate_left;·intro w';go_simp;with_reducible rfl
                  rotate_left;·simp only [Act.put, sA, sB, sC, i64_w, i32_w];rfl
                  refine done_ (done_of HT_.out (by kernel_rfl)) ?_
                  try go_wp2
                  go_ret
                  exact ⟨by first | rfl | (simp [errW_none, errW_some] <;> rfl) | (simp only [← hji26, ← hji128]; first | rfl | (simp [errW_none, errW_some] <;> rfl)) | (simp [*, errW_none, errW_some] <;> rfl) | (simp (discharger := omega) only [Int.tdiv_eq_ediv_of_nonneg, Int.tmod_eq_emod_of_nonneg] <;> rfl), by repeat (first | (with_reducible first | exact HB.out | apply below_alloc | apply pw_below_drewN | apply below_drew1 | refine below_set ?_ GE399.out | refine below_set ?_ GE412.out | refine below_set ?_ GE418.out | refine below_set ?_ GE424.out) | exact HB.out)⟩
                 ·rw [if_neg c164] at H
                  have c164b0 : decide ((t425.length : Int) < t400) = false := decide_eq_false c164
                  clear c164
                  obtain ⟨ji196, hji196⟩ : ∃ j_ : Int, (wrap64 (t400 - 1)) = j_ := ⟨_, rfl⟩
                  replace H : (if 0 ≤ (ji196) then (if (ji196) < (t425.length : Int) then (some ((rd t425 (ji196)) == t407)) else (none)) else (none)) = some r := by first | (rw [hji196] at H; exact H) | (simp only [hji196] at H ⊢; exact H)
                  (try rw [hji196] at A6)
                  (try rw [hji196] at A7)
                  (try rw [hji196] at A8)
                  (try rw [hji196] at A9)
                  (try rw [hji196] at A10)
                  (try rw [hji196] at A11)
                  (try rw [hji196] at A12)
                  (try rw [hji196] at A13)
                  (try rw [hji196] at A14)
                  (try rw [hji196] at A15)
                  (try rw [hji196] at A16)
                  have hji196w : (IntKind.i64.wrap (t400 - 1)) = ji196 := (i64_w _).trans hji196
                  by_cases c197 : 0 ≤ (ji196)
                  ·rw [if_pos c197] at H
                   have c197b0 : decide (0 ≤ (ji196)) = true := decide_eq_true c197
                   clear c197
                   by_cases c198 : (ji196) < (t425.length : Int)
                   ·rw [if_pos c198] at H
                    have c198b0 : decide ((ji196) < (t425.length : Int)) = true := decide_eq_true c198
                    clear c198
                    obtain rfl := Option.some.inj H
                    have p430 : 0 ≤ ((ji128) : Int) := of_decide_eq_true (by first | (with_reducible assumption) | assumption)
                    have q430 : (ji128) < (t425.length : Int) := of_decide_eq_true (by first | (with_reducible assumption) | assumption)
                    obtain ⟨ad430, e430, hx430_0⟩ := Kd.at_int (Kd.R_reads' HO427.out).2.2 (ji128) p430 q430
                    cases e430
                    replace p430 := eq_true p430
                    replace q430 := eq_true q430
                    have p431 : 0 ≤ ((ji196) : Int) := of_decide_eq_true (by first | (with_reducible assumption) | assumption)
                    have q431 : (ji196) < (t425.length : Int) := of_decide_eq_true (by first | (with_reducible assumption) | assumption)
                    obtain ⟨ad431, e431, hx431_0⟩ := Kd.at_int (Kd.R_reads' HO427.out).2.2 (ji196) p431 q431
                    obtain rfl : ad430 = ad431 := (by injection e431)
                    replace p431 := eq_true p431
                    replace q431 := eq_true q431
                    refine start_ (n := 38) (S := fun w' => w'.cell? ⟨gb424, 0, none⟩ = some (.int .i64 t419) ∧ w'.cell? ⟨gb424, 1, none⟩ = some (.int .i64 t420) ∧ w'.cell? ⟨gb424, 2, none⟩ = some (.int .i64 t421) ∧ w'.cell? ⟨gb424, 3, none⟩ = some (.int .i64 t422) ∧ w'.cell? ⟨gb412, 0, none⟩ = some (.int .i64 t407) ∧ w'.cell? ⟨gb412, 1, none⟩ = some (.int .i64 t408) ∧ w'.cell? ⟨gb412, 2, none⟩ = some (.int .i64 t409) ∧ w'.cell? ⟨gb412, 3, none⟩ = some (.int .i64 t410) ∧ w'.cell? (ad430.add ((ji128)).toNat) = some (.int .i64 (rd t425 (ji128))) ∧ w'.cell? (ad430.add ((ji196)).toNat) = some (.int .i64 (rd t425 (ji196)))) (ds := []) #[Z,Z,Z,Z,Z,Z,Z,Z,Z,Z,Z,Z,Z,Z,Z,Z,Z,Z,Z,Z,Z,Z,Z,Z,Z,Z,Z,Z,Z,Z,Z,Z,Z,Z,Z,Z,Z,Z] (by kernel_rfl) rfl rfl ⟨(blk_cell BK424.out 0).trans rfl, (blk_cell BK424.out 1).trans rfl, (blk_cell BK424.out 2).trans rfl, (blk_cell BK424.out 3).trans rfl, (blk_cell BK412.out 0).trans rfl, (blk_cell BK412.out 1).trans rfl, (blk_cell BK412.out 2).trans rfl, (blk_cell BK412.out 3).trans rfl, hx430_0, hx431_0⟩ (fun hHeld => ?_); refine with_tabW tipstafflaw09_MotionTravels.tab12 tipstafflaw09_MotionTravels.bits12 (fun HT_ HW_ => ?_)
                    generalize w159.drew = w229 at HO427 BK399 BK412 BK418 BK424 HB hx430_0 hx431_0 hHeld ⊢
                    refine pure_ (i := 0) (N := some 128) (v := ?_) (a' := ?_) #[X,Z,Z,Z,Z,Z,Z,Z,Z,Z,Z,Z,Z,Z,Z,Z,Z,Z,Z,Z,Z,Z,Z,Z,Z,Z,Z,Z,Z,Z,Z,Z,Z,Z,Z,Z,Z,Z] rfl rfl (any_of HT_.out (by kernel_rfl)) (fun _ _ _ h => h) (Or.inl ⟨by rfl, ?_⟩) ?_ ?_
                    rotate_left;·intro w';go_simp;with_reducible rfl
                    rotate_left;·simp only [Act.put, sA, sB, sC, i64_w, i32_w];rfl
                    refine pure_ (i := 1) (N := some 129) (v := ?_) (a' := ?_) #[X,X,Z,Z,Z,Z,Z,Z,Z,Z,Z,Z,Z,Z,Z,Z,Z,Z,Z,Z,Z,Z,Z,Z,Z,Z,Z,Z,Z,Z,Z,Z,Z,Z,Z,Z,Z,Z] rfl rfl (any_of HT_.out (by kernel_rfl)) (fun _ _ _ h => h) (Or.inl ⟨by rfl, ?_⟩) ?_ ?_
                    rotate_left;·intro w';go_simp;with_reducible rfl
                    rotate_left;·simp only [Act.put, sA, sB, sC, i64_w, i32_w];rfl
                    refine pure_ (i := 2) (N := some 130) (v := ?_) (a' := ?_) #[X,X,X,Z,Z,Z,Z,Z,Z,Z,Z,Z,Z,Z,Z,Z,Z,Z,Z,Z,Z,Z,Z,Z,Z,Z,Z,Z,Z,Z,Z,Z,Z,Z,Z,Z,Z,Z] rfl rfl (any_of HT_.out (by kernel_rfl)) (fun _ _ _ h => h) (Or.inl ⟨by rfl, ?_⟩) ?_ ?_
                    rotate_left;·intro w';go_simp;with_reducible rfl
                    rotate_left;·simp only [Act.put, sA, sB, sC, i64_w, i32_w];rfl
                    refine pure_ (i := 3) (N := some 131) (v := ?_) (a' := ?_) #[X,X,X,X,Z,Z,Z,Z,Z,Z,Z,Z,Z,Z,Z,Z,Z,Z,Z,Z,Z,Z,Z,Z,Z,Z,Z,Z,Z,Z,Z,Z,Z,Z,Z,Z,Z,Z] rfl rfl (any_of HT_.out (by kernel_rfl)) (fun _ _ _ h => h) (Or.inl ⟨by rfl, ?_⟩) ?_ ?_
                    rotate_left;·intro w';go_simp;with_reducible rfl
                    rotate_left;·simp only [Act.put, sA, sB, sC, i64_w, i32_w];rfl
                    refine pure_ (i := 4) (N := some 132) (v := ?_) (a' := ?_) #[X,X,X,X,X,Z,Z,Z,Z,Z,Z,Z,Z,Z,Z,Z,Z,Z,Z,Z,Z,Z,Z,Z,Z,Z,Z,Z,Z,Z,Z,Z,Z,Z,Z,Z,Z,Z] rfl rfl (any_of HT_.out (by kernel_rfl)) (fun _ _ _ h => h) (Or.inl ⟨by rfl, ?_⟩) ?_ ?_
                    rotate_left;·intro w';go_simp;with_reducible rfl
                    rotate_left;·simp only [Act.put, sA, sB, sC, i64_w, i32_w];rfl
                    refine pure_ (i := 5) (N := some 133) (v := ?_) (a' := ?_) #[X,X,X,X,X,X,Z,Z,Z,Z,Z,Z,Z,Z,Z,Z,Z,Z,Z,Z,Z,Z,Z,Z,Z,Z,Z,Z,Z,Z,Z,Z,Z,Z,Z,Z,Z,Z] rfl rfl (any_of HT_.out (by kernel_rfl)) (fun _ _ _ h => h) (Or.inl ⟨by rfl, ?_⟩) ?_ ?_
                    rotate_left;·intro w';go_simp;with_reducible rfl
                    rotate_left;·simp only [Act.put, sA, sB, sC, i64_w, i32_w];rfl
                    refine pure_ (i := 6) (N := some 134) (v := ?_) (a' := ?_) #[X,X,X,X,X,X,X,Z,Z,Z,Z,Z,Z,Z,Z,Z,Z,Z,Z,Z,Z,Z,Z,Z,Z,Z,Z,Z,Z,Z,Z,Z,Z,Z,Z,Z,Z,Z] rfl rfl (any_of HT_.out (by kernel_rfl)) (fun _ _ _ h => h) (Or.inl ⟨by rfl, ?_⟩) ?_ ?_
                    rotate_left;·intro w';go_simp;with_reducible rfl
                    rotate_left;·simp only [Act.put, sA, sB, sC, i64_w, i32_w];rfl
                    refine pure_ (i := 7) (N := some 135) (v := ?_) (a' := ?_) #[X,X,X,X,X,X,X,X,Z,Z,Z,Z,Z,Z,Z,Z,Z,Z,Z,Z,Z,Z,Z,Z,Z,Z,Z,Z,Z,Z,Z,Z,Z,Z,Z,Z,Z,Z] rfl rfl (any_of HT_.out (by kernel_rfl)) (fun _ _ _ h => h) (Or.inl ⟨by rfl, ?_⟩) ?_ ?_
                    rotate_left;·intro w';go_simp;with_reducible rfl
                    rotate_left;·simp only [Act.put, sA, sB, sC, i64_w, i32_w];rfl
                    refine pure_ (i := 8) (N := some 136) (v := ?_) (a' := ?_) #[X,X,X,X,X,X,X,X,X,Z,Z,Z,Z,Z,Z,Z,Z,Z,Z,Z,Z,Z,Z,Z,Z,Z,Z,Z,Z,Z,Z,Z,Z,Z,Z,Z,Z,Z] rfl rfl (any_of HT_.out (by kernel_rfl)) (fun _ _ _ h => h) (Or.inl ⟨by rfl, ?_⟩) ?_ ?_
                    rotate_left;·intro w';go_simp;with_reducible rfl
                    rotate_left;·simp only [Act.put, sA, sB, sC, i64_w, i32_w];rfl
                    refine pure_ (i := 9) (N := some 137) (v := ?_) (a' := ?_) #[X,X,X,X,X,X,X,X,X,X,Z,Z,Z,Z,Z,Z,Z,Z,Z,Z,Z,Z,Z,Z,Z,Z,Z,Z,Z,Z,Z,Z,Z,Z,Z,Z,Z,Z] rfl rfl (any_of HT_.out (by kernel_rfl)) (fun _ _ _ h => h) (Or.inl ⟨by rfl, ?_⟩) ?_ ?_
                    rotate_left;·intro w';go_simp;with_reducible rfl
                    rotate_left;·simp only [Act.put, sA, sB, sC, i64_w, i32_w];rfl
                    refine pure_ (i := 10) (N := some 138) (v := ?_) (a' := ?_) #[X,X,X,X,X,X,X,X,X,X,X,Z,Z,Z,Z,Z,Z,Z,Z,Z,Z,Z,Z,Z,Z,Z,Z,Z,Z,Z,Z,Z,Z,Z,Z,Z,Z,Z] rfl rfl (any_of HT_.out (by kernel_rfl)) (fun _ _ _ h => h) (Or.inl ⟨by rfl, ?_⟩) ?_ ?_
                    rotate_left;·intro w';go_simp;with_reducible rfl
                    rotate_left;·simp only [Act.put, sA, sB, sC, i64_w, i32_w];rfl
                    refine pure_ (i := 12) (N := some 140) (v := ?_) (a' := ?_) #[X,X,X,X,X,X,X,X,X,X,X,Z,X,Z,Z,Z,Z,Z,Z,Z,Z,Z,Z,Z,Z,Z,Z,Z,Z,Z,Z,Z,Z,Z,Z,Z,Z,Z] rfl rfl (any_of HT_.out (by kernel_rfl)) (fun _ _ _ h => h) (Or.inl ⟨by rfl, ?_⟩) ?_ ?_
                    rotate_left;·intro w';go_simp;with_reducible rfl
                    rotate_left;·simp only [Act.put, sA, sB, sC, i64_w, i32_w];rfl
                    refine take_ (i := 11) (N := some 139) (v := ?_) (a' := ?_) #[X,X,X,X,X,X,X,X,X,X,X,X,X,Z,Z,Z,Z,Z,Z,Z,Z,Z,Z,Z,Z,Z,Z,Z,Z,Z,Z,Z,Z,Z,Z,Z,Z,Z] rfl rfl (take_ofW HT_.out HW_.out (by kernel_rfl)) (fun _ _ _ h => h) (Or.inl ⟨by rfl, ?_⟩) hHeld ?_ ?_
                    rotate_left;·rintro w' ⟨s0, s1, s2, s3, s4, s5, s6, s7, s8, s9⟩;go_simp;with_reducible rfl
                    rotate_left;·simp only [Act.put, sA, sB, sC, i64_w, i32_w];rfl
                    refine take_ (i := 13) (N := some 141) (v := ?_) (a' := ?_) #[X,X,X,X,X,X,X,X,X,X,X,X,X,X,Z,Z,Z,Z,Z,Z,Z,Z,Z,Z,Z,Z,Z,Z,Z,Z,Z,Z,Z,Z,Z,Z,Z,Z] rfl rfl (take_ofW HT_.out HW_.out (by kernel_rfl)) (fun _ _ _ h => h) (Or.inl ⟨by rfl, ?_⟩) hHeld ?_ ?_
                    rotate_left;·rintro w' ⟨s0, s1, s2, s3, s4, s5, s6, s7, s8, s9⟩;go_simp;with_reducible rfl
                    rotate_left;·simp only [Act.put, sA, sB, sC, i64_w, i32_w];rfl
                    refine pure_ (i := 14) (N := some 142) (v := ?_) (a' := ?_) #[X,X,X,X,X,X,X,X,X,X,X,X,X,X,X,Z,Z,Z,Z,Z,Z,Z,Z,Z,Z,Z,Z,Z,Z,Z,Z,Z,Z,Z,Z,Z,Z,Z] rfl rfl (any_of HT_.out (by kernel_rfl)) (fun _ _ _ h => h) (Or.inl ⟨by rfl, ?_⟩) ?_ ?_
                    rotate_left;·intro w';go_simp;with_reducible rfl
                    rotate_left;·simp only [Act.put, sA, sB, sC, i64_w, i32_w];rfl
                    refine pure_ (i := 15) (N := some 143) (v := ?_) (a' := ?_) #[X,X,X,X,X,X,X,X,X,X,X,X,X,X,X,X,Z,Z,Z,Z,Z,Z,Z,Z,Z,Z,Z,Z,Z,Z,Z,Z,Z,Z,Z,Z,Z,Z] rfl rfl (any_of HT_.out (by kernel_rfl)) (fun _ _ _ h => h) (Or.inl ⟨by rfl, ?_⟩) ?_ ?_
                    rotate_left;·intro w';go_simp;with_reducible rfl
                    rotate_left;·simp only [Act.put, sA, sB, sC, i64_w, i32_w];rfl
                    refine pure_ (i := 16) (N := some 144) (v := ?_) (a' := ?_) #[X,X,X,X,X,X,X,X,X,X,X,X,X,X,X,X,X,Z,Z,Z,Z,Z,Z,Z,Z,Z,Z,Z,Z,Z,Z,Z,Z,Z,Z,Z,Z,Z] rfl rfl (any_of HT_.out (by kernel_rfl)) (fun _ _ _ h => h) (Or.inl ⟨by rfl, ?_⟩) ?_ ?_
                    rotate_left;·intro w';go_simp;with_reducible rfl
                    rotate_left;·simp only [Act.put, sA, sB, sC, i64_w, i32_w];rfl
                    refine pure_ (i := 17) (N := some 145) (v := ?_) (a' := ?_) #[X,X,X,X,X,X,X,X,X,X,X,X,X,X,X,X,X,X,Z,Z,Z,Z,Z,Z,Z,Z,Z,Z,Z,Z,Z,Z,Z,Z,Z,Z,Z,Z] rfl rfl (any_of HT_.out (by kernel_rfl)) (fun _ _ _ h => h) (Or.inl ⟨by rfl, ?_⟩) ?_ ?_
                    rotate_left;·intro w';go_simp;with_reducible rfl
                    rotate_left;·simp only [Act.put, sA, sB, sC, i64_w, i32_w];rfl
                    refine pure_ (i := 18) (N := some 146) (v := ?_) (a' := ?_) #[X,X,X,X,X,X,X,X,X,X,X,X,X,X,X,X,X,X,X,Z,Z,Z,Z,Z,Z,Z,Z,Z,Z,Z,Z,Z,Z,Z,Z,Z,Z,Z] rfl rfl (any_of HT_.out (by kernel_rfl)) (fun _ _ _ h => h) (Or.inl ⟨by rfl, ?_⟩) ?_ ?_
                    rotate_left;·intro w';go_simp;with_reducible rfl
                    rotate_left;·simp only [Act.put, sA, sB, sC, i64_w, i32_w];rfl
                    refine pure_ (i := 19) (N := some 147) (v := ?_) (a' := ?_) #[X,X,X,X,X,X,X,X,X,X,X,X,X,X,X,X,X,X,X,X,Z,Z,Z,Z,Z,Z,Z,Z,Z,Z,Z,Z,Z,Z,Z,Z,Z,Z] rfl rfl (any_of HT_.out (by kernel_rfl)) (fun _ _ _ h => h) (Or.inl ⟨by rfl, ?_⟩) ?_ ?_
                    rotate_left;·intro w';go_simp;with_reducible rfl
                    rotate_left;·simp only [Act.put, sA, sB, sC, i64_w, i32_w];rfl
                    refine pure_ (i := 20) (N := some 148) (v := ?_) (a' := ?_) #[X,X,X,X,X,X,X,X,X,X,X,X,X,X,X,X,X,X,X,X,X,Z,Z,Z,Z,Z,Z,Z,Z,Z,Z,Z,Z,Z,Z,Z,Z,Z] rfl rfl (any_of HT_.out (by kernel_rfl)) (fun _ _ _ h => h) (Or.inl ⟨by rfl, ?_⟩) ?_ ?_
                    rotate_left;·intro w';go_simp;with_reducible rfl
                    rotate_left;·simp only [Act.put, sA, sB, sC, i64_w, i32_w];rfl
                    refine pure_ (i := 21) (N := some 149) (v := ?_) (a' := ?_) #[X,X,X,X,X,X,X,X,X,X,X,X,X,X,X,X,X,X,X,X,X,X,Z,Z,Z,Z,Z,Z,Z,Z,Z,Z,Z,Z,Z,Z,Z,Z] rfl rfl (any_of HT_.out (by kernel_rfl)) (fun _ _ _ h => h) (Or.inl ⟨by rfl, ?_⟩) ?_ ?_
                    rotate_left;·intro w';go_simp;with_reducible rfl
                    rotate_left;·simp only [Act.put, sA, sB, sC, i64_w, i32_w];rfl
                    refine pure_ (i := 22) (N := some 150) (v := ?_) (a' := ?_) #[X,X,X,X,X,X,X,X,X,X,X,X,X,X,X,X,X,X,X,X,X,X,X,Z,Z,Z,Z,Z,Z,Z,Z,Z,Z,Z,Z,Z,Z,Z] rfl rfl (any_of HT_.out (by kernel_rfl)) (fun _ _ _ h => h) (Or.inl ⟨by rfl, ?_⟩) ?_ ?_
                    rotate_left;·intro w';go_simp;with_reducible rfl
                    rotate_left;·simp only [Act.put, sA, sB, sC, i64_w, i32_w];rfl
                    refine pure_ (i := 23) (N := some 151) (v := ?_) (a' := ?_) #[X,X,X,X,X,X,X,X,X,X,X,X,X,X,X,X,X,X,X,X,X,X,X,X,Z,Z,Z,Z,Z,Z,Z,Z,Z,Z,Z,Z,Z,Z] rfl rfl (any_of HT_.out (by kernel_rfl)) (fun _ _ _ h => h) (Or.inl ⟨by rfl, ?_⟩) ?_ ?_
                    rotate_left;·intro w';go_simp;with_reducible rfl
                    rotate_left;·simp only [Act.put, sA, sB, sC, i64_w, i32_w];rfl
                    refine pure_ (i := 24) (N := some 152) (v := ?_) (a' := ?_) #[X,X,X,X,X,X,X,X,X,X,X,X,X,X,X,X,X,X,X,X,X,X,X,X,X,Z,Z,Z,Z,Z,Z,Z,Z,Z,Z,Z,Z,Z] rfl rfl (any_of HT_.out (by kernel_rfl)) (fun _ _ _ h => h) (Or.inl ⟨by rfl, ?_⟩) ?_ ?_
                    rotate_left;·intro w';go_simp;with_reducible rfl
                    rotate_left;·simp only [Act.put, sA, sB, sC, i64_w, i32_w];rfl
                    refine pure_ (i := 25) (N := some 153) (v := ?_) (a' := ?_) #[X,X,X,X,X,X,X,X,X,X,X,X,X,X,X,X,X,X,X,X,X,X,X,X,X,X,Z,Z,Z,Z,Z,Z,Z,Z,Z,Z,Z,Z] rfl rfl (any_of HT_.out (by kernel_rfl)) (fun _ _ _ h => h) (Or.inl ⟨by rfl, ?_⟩) ?_ ?_
                    rotate_left;·intro w';go_simp;with_reducible rfl
                    rotate_left;·simp only [Act.put, sA, sB, sC, i64_w, i32_w];rfl
                    refine pure_ (i := 26) (N := some 154) (v := ?_) (a' := ?_) #[X,X,X,X,X,X,X,X,X,X,X,X,X,X,X,X,X,X,X,X,X,X,X,X,X,X,X,Z,Z,Z,Z,Z,Z,Z,Z,Z,Z,Z] rfl rfl (any_of HT_.out (by kernel_rfl)) (fun _ _ _ h => h) (Or.inl ⟨by rfl, ?_⟩) ?_ ?_
                    rotate_left;·intro w';go_simp;with_reducible rfl
                    rotate_left;·simp only [Act.put, sA, sB, sC, i64_w, i32_w];rfl
                    refine pure_ (i := 27) (N := some 155) (v := ?_) (a' := ?_) #[X,X,X,X,X,X,X,X,X,X,X,X,X,X,X,X,X,X,X,X,X,X,X,X,X,X,X,X,Z,Z,Z,Z,Z,Z,Z,Z,Z,Z] rfl rfl (any_of HT_.out (by kernel_rfl)) (fun _ _ _ h => h) (Or.inl ⟨by rfl, ?_⟩) ?_ ?_
                    rotate_left;·intro w';go_simp;with_reducible rfl
                    rotate_left;·simp only [Act.put, sA, sB, sC, i64_w, i32_w];rfl
                    refine pure_ (i := 28) (N := some 156) (v := ?_) (a' := ?_) #[X,X,X,X,X,X,X,X,X,X,X,X,X,X,X,X,X,X,X,X,X,X,X,X,X,X,X,X,X,Z,Z,Z,Z,Z,Z,Z,Z,Z] rfl rfl (any_of HT_.out (by kernel_rfl)) (fun _ _ _ h => h) (Or.inl ⟨by rfl, ?_⟩) ?_ ?_
                    rotate_left;·intro w';go_simp;with_reducible rfl
                    rotate_left;·simp only [Act.put, sA, sB, sC, i64_w, i32_w];rfl
                    refine pure_ (i := 29) (N := some 157) (v := ?_) (a' := ?_) #[X,X,X,X,X,X,X,X,X,X,X,X,X,X,X,X,X,X,X,X,X,X,X,X,X,X,X,X,X,X,Z,Z,Z,Z,Z,Z,Z,Z] rfl rfl (any_of HT_.out (by kernel_rfl)) (fun _ _ _ h => h) (Or.inl ⟨by rfl, ?_⟩) ?_ ?_
                    rotate_left;·intro w';go_simp;with_reducible rfl
                    rotate_left;·simp only [Act.put, sA, sB, sC, i64_w, i32_w];rfl
                    refine pure_ (i := 30) (N := some 158) (v := ?_) (a' := ?_) #[X,X,X,X,X,X,X,X,X,X,X,X,X,X,X,X,X,X,X,X,X,X,X,X,X,X,X,X,X,X,X,Z,Z,Z,Z,Z,Z,Z] rfl rfl (any_of HT_.out (by kernel_rfl)) (fun _ _ _ h => h) (Or.inl ⟨by rfl, ?_⟩) ?_ ?_
                    rotate_left;·intro w';go_simp;with_reducible rfl
                    rotate_left;·simp only [Act.put, sA, sB, sC, i64_w, i32_w];rfl
                    refine pure_ (i := 32) (N := some 160) (v := ?_) (a' := ?_) #[X,X,X,X,X,X,X,X,X,X,X,X,X,X,X,X,X,X,X,X,X,X,X,X,X,X,X,X,X,X,X,Z,X,Z,Z,Z,Z,Z] rfl rfl (any_of HT_.out (by kernel_rfl)) (fun _ _ _ h => h) (Or.inl ⟨by rfl, ?_⟩) ?_ ?_
                    rotate_left;·intro w';go_simp;with_reducible rfl
                    rotate_left;·simp only [Act.put, sA, sB, sC, i64_w, i32_w];rfl
                    refine take_ (i := 31) (N := some 159) (v := ?_) (a' := ?_) #[X,X,X,X,X,X,X,X,X,X,X,X,X,X,X,X,X,X,X,X,X,X,X,X,X,X,X,X,X,X,X,X,X,Z,Z,Z,Z,Z] rfl rfl (take_ofW HT_.out HW_.out (by kernel_rfl)) (fun _ _ _ h => h) (Or.inl ⟨by rfl, ?_⟩) hHeld ?_ ?_
                    rotate_left;·rintro w' ⟨s0, s1, s2, s3, s4, s5, s6, s7, s8, s9⟩;go_simp;with_reducible rfl
                    rotate_left;·simp only [Act.put, sA, sB, sC, i64_w, i32_w];rfl
                    refine take_ (i := 33) (N := some 161) (v := ?_) (a' := ?_) #[X,X,X,X,X,X,X,X,X,X,X,X,X,X,X,X,X,X,X,X,X,X,X,X,X,X,X,X,X,X,X,X,X,X,Z,Z,Z,Z] rfl rfl (take_ofW HT_.out HW_.out (by kernel_rfl)) (fun _ _ _ h => h) (Or.inl ⟨by rfl, ?_⟩) hHeld ?_ ?_
                    rotate_left;·rintro w' ⟨s0, s1, s2, s3, s4, s5, s6, s7, s8, s9⟩;go_simp;with_reducible rfl
                    rotate_left;·simp only [Act.put, sA, sB, sC, i64_w, i32_w];rfl
                    refine pure_ (i := 34) (N := some 162) (v := ?_) (a' := ?_) #[X,X,X,X,X,X,X,X,X,X,X,X,X,X,X,X,X,X,X,X,X,X,X,X,X,X,X,X,X,X,X,X,X,X,X,Z,Z,Z] rfl rfl (any_of HT_.out (by kernel_rfl)) (fun _ _ _ h => h) (Or.inl ⟨by rfl, ?_⟩) ?_ ?_
                    rotate_left;·intro w';go_simp;with_reducible rfl
                    rotate_left;·simp only [Act.put, sA, sB, sC, i64_w, i32_w];rfl
                    refine pure_ (i := 35) (N := some 163) (v := ?_) (a' := ?_) #[X,X,X,X,X,X,X,X,X,X,X,X,X,X,X,X,X,X,X,X,X,X,X,X,X,X,X,X,X,X,X,X,X,X,X,X,Z,Z] rfl rfl (any_of HT_.out (by kernel_rfl)) (fun _ _ _ h => h) (Or.inl ⟨by rfl, ?_⟩) ?_ ?_
                    rotate_left;·intro w';go_simp;with_reducible rfl
                    rotate_left;·simp only [Act.put, sA, sB, sC, i64_w, i32_w];rfl
                    refine pure_ (i := 36) (N := some 164) (v := ?_) (a' := ?_) #[X,X,X,X,X,X,X,X,X,X,X,X,X,X,X,X,X,X,X,X,X,X,X,X,X,X,X,X,X,X,X,X,X,X,X,X,X,Z] rfl rfl (any_of HT_.out (by kernel_rfl)) (fun _ _ _ h => h) (Or.inl ⟨by rfl, ?_⟩) ?_ ?_
                    rotate_left;·intro w';go_simp;with_reducible rfl
                    rotate_left;·simp only [Act.put, sA, sB, sC, i64_w, i32_w];rfl
                    refine pure_ (i := 37) (N := some 10) (v := ?_) (a' := ?_) #[X,X,X,X,X,X,X,X,X,X,X,X,X,X,X,X,X,X,X,X,X,X,X,X,X,X,X,X,X,X,X,X,X,X,X,X,X,X] rfl rfl (any_of HT_.out (by kernel_rfl)) (fun _ _ _ h => h) (Or.inl ⟨by rfl, ?_⟩) ?_ ?_
                    rotate_left;·intro w';go_simp;with_reducible rfl
                    rotate_left;·simp only [Act.put, sA, sB, sC, i64_w, i32_w];rfl
                    refine done_ (done_of HT_.out (by kernel_rfl)) ?_
                    try go_wp2
                    go_ret
                    exact ⟨by first | rfl | (simp [errW_none, errW_some] <;> rfl) | (simp only [← hji26, ← hji128, ← hji196]; first | rfl | (simp [errW_none, errW_some] <;> rfl)) | (simp [*, errW_none, errW_some] <;> rfl) | (simp (discharger := omega) only [Int.tdiv_eq_ediv_of_nonneg, Int.tmod_eq_emod_of_nonneg] <;> rfl), by repeat (first | (with_reducible first | exact HB.out | apply below_alloc | apply pw_below_drewN | apply below_drew1 | refine below_set ?_ GE399.out | refine below_set ?_ GE412.out | refine below_set ?_ GE418.out | refine below_set ?_ GE424.out) | exact HB.out)⟩
                   ·rw [if_neg c198] at H
                    exact absurd H (by simp)
                  ·rw [if_neg c197] at H
                   exact absurd H (by simp)
               ·rw [if_neg c131] at H
                have c131b0 : ((rd t425 (ji128)) == t419) = false := beq_eq_false_iff_ne.mpr c131
                have c131b1 : ((rd t425 (ji128)) != t419) = true := bne_iff_ne.mpr c131
                exact absurd H (by simp)
              ·rw [if_neg c130] at H
               exact absurd H (by simp)
             ·rw [if_neg c129] at H
              exact absurd H (by simp)
           ·replace c28 := Bool.eq_false_iff.mpr c28
            subst c28
            have H1 : (none) = some r := by rw [if_neg (show ¬ (false = true) by decide)] at H; exact H
            clear H
            have H := H1
            clear H1
            exact absurd H (by simp)
          ·rw [if_neg c27] at H
           exact absurd H (by simp)
        ·rw [if_neg c24] at H
         exact absurd H (by simp)
       ·rw [if_neg c23] at H
        exact absurd H (by simp)
      ·rw [if_neg c22] at H
       exact absurd H (by simp)
     ·rw [if_neg c21] at H
      exact absurd H (by simp)
    ·rw [if_neg c20] at H
     exact absurd H (by simp)
   ·rw [if_neg c19] at H
    exact absurd H (by simp)
  ·rw [if_neg c18] at H
   exact absurd H (by simp)
 ·replace c17 := Bool.eq_false_iff.mpr c17
  subst c17
  have H1 : (none) = some r := by rw [if_neg (show ¬ (false = true) by decide)] at H; exact H
  clear H
  have H := H1
  clear H1
  exact absurd H (by simp)


end Go.Proofs.Ytocbjclflabmcaa.S
