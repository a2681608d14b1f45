-- PRINTED by print.py (a twelfth state) out of the translation. Not trusted: Lean checks it.
import Derived.Test.YtbcmlgbhejcjbaaDoorS0
import Derived.Test.YtbcmlgbhejcjbaaDoorS3
import Derived.Test.YtbcmlgbhejcjbaaDoorS10
import Derived.Test.YtbcmlgbhejcjbaaDoorS17
import Derived.Test.YtbcmlgbhejcjbaaDoorS18
namespace Go.Proofs.YtbcmlgbhejcjbaaDoor.S
open Go.RowKit Go.Proofs.YtbcmlgbhejcjbaaDoorW.PrintWords Go.Proofs.YtbcmlgbhejcjbaaDoorW.PrintLast Go.Proofs.YtbcmlgbhejcjbaaDoorW.PrintMore
attribute [local go_sem] Go.Proofs.YtbcmlgbhejcjbaaDoorW.PrintXtra.isSome_setCell max2_int min2_int max_two min_two max_three min_three max_four min_four   -- for this text's walks alone
set_option linter.unusedVariables false
set_option linter.unusedSimpArgs false

/-! ### tipstafflaw33_WordBits: function 8 -/
def tipstafflaw33_WordBits.j0 : Nat → Int → Int → Int → Bool → Option (Bool)
 | 0, _, _, _, _ => none
 | k + 1, x0, x1, x2, x59 => if x59 = true then (none) else ((word_Merge.f k x0 x1 x2).bind fun bt506 => ((tipstaffref33_Merge.f k x0 x1 x2).bind fun bt508 => ((word_Differ.f k x0 x1 x2).bind fun bt510 => ((tipstaffref33_Differ.f k x0 x1 x2).bind fun bt514 => (if bt506.1 = bt508.1 then (if bt506.2 = bt508.2 then ((tipstaffkit_SameInts.f k bt510.1 bt514.1).bind fun t518 => (if t518 = true then (if bt510.2 = bt514.2 then ((tipstafflaw33_awake.f k).bind fun t519 => (some t519)) else (none)) else (none))) else (none)) else (none))))))
def tipstafflaw33_WordBits.f (k : Nat) (a0 : Int) (a1 : Int) (a2 : Int) : Option (Bool) := (word_Cars.f k a0 a2).bind fun bt493 => ((tipstaffref33_Cars.f k a0 a2).bind fun bt497 => ((word_Text.f k a0 a2).bind fun bt501 => ((tipstaffref33_Text.f k a0 a2).bind fun bt503 => ((tipstaffkit_SameInts.f k bt493.1 bt497.1).bind fun t505 => (if t505 = true then (if bt493.2 = bt497.2 then (if bt501.1.toList = bt503.1.toList then (tipstafflaw33_WordBits.j0 k a0 a1 a2 (bt501.2 != bt503.2)) else (tipstafflaw33_WordBits.j0 k a0 a1 a2 true)) else (tipstafflaw33_WordBits.j0 k a0 a1 a2 true)) else (tipstafflaw33_WordBits.j0 k a0 a1 a2 true))))))
theorem tipstafflaw33_WordBits.mono_l : ∀ k, (∀ y0 y1 y2 y3, LeO (tipstafflaw33_WordBits.j0 k y0 y1 y2 y3) (tipstafflaw33_WordBits.j0 (k + 1) y0 y1 y2 y3))
 | 0 => fun _ _ _ _ r h => by simp [tipstafflaw33_WordBits.j0] at h
 | k + 1 => by
  have ih0 := tipstafflaw33_WordBits.mono_l k
  ·intro y0 y1 y2 y3
   unfold tipstafflaw33_WordBits.j0
   repeat' first
   | (with_reducible exact ih0 _ _ _ _)
   | (with_reducible exact tipstaffkit_SameInts.mono _ _ _)
   | (with_reducible exact tipstafflaw33_awake.mono _)
   | (with_reducible exact tipstaffref33_Cars.mono _ _ _)
   | (with_reducible exact tipstaffref33_Differ.mono _ _ _ _)
   | (with_reducible exact tipstaffref33_Merge.mono _ _ _ _)
   | (with_reducible exact tipstaffref33_Text.mono _ _ _)
   | (with_reducible exact word_Cars.mono _ _ _)
   | (with_reducible exact word_Differ.mono _ _ _ _)
   | (with_reducible exact word_Merge.mono _ _ _ _)
   | (with_reducible exact word_Text.mono _ _ _)
   | (with_reducible exact LeO.refl _)
   | (with_reducible exact LeO.none _)
   | (with_reducible refine LeO.ite ?_ ?_)
   | (with_reducible refine LeO.bind ?_ (fun _ => ?_))
   | exact ih0 _ _ _ _
   | exact tipstaffkit_SameInts.mono _ _ _
   | exact tipstafflaw33_awake.mono _
   | exact tipstaffref33_Cars.mono _ _ _
   | exact tipstaffref33_Differ.mono _ _ _ _
   | exact tipstaffref33_Merge.mono _ _ _ _
   | exact tipstaffref33_Text.mono _ _ _
   | exact word_Cars.mono _ _ _
   | exact word_Differ.mono _ _ _ _
   | exact word_Merge.mono _ _ _ _
   | exact word_Text.mono _ _ _
   | exact LeO.none _
   | refine LeO.ite ?_ ?_
   | refine LeO.bind ?_ (fun _ => ?_)
theorem tipstafflaw33_WordBits.mono : ∀ a0 a1 a2 k, LeO (tipstafflaw33_WordBits.f k a0 a1 a2) (tipstafflaw33_WordBits.f (k + 1) a0 a1 a2) := by
 intro a0 a1 a2 k
 have ih0 := tipstafflaw33_WordBits.mono_l k
 unfold tipstafflaw33_WordBits.f
 repeat' first
   | (with_reducible exact ih0 _ _ _ _)
   | (with_reducible exact tipstaffkit_SameInts.mono _ _ _)
   | (with_reducible exact tipstafflaw33_awake.mono _)
   | (with_reducible exact tipstaffref33_Cars.mono _ _ _)
   | (with_reducible exact tipstaffref33_Differ.mono _ _ _ _)
   | (with_reducible exact tipstaffref33_Merge.mono _ _ _ _)
   | (with_reducible exact tipstaffref33_Text.mono _ _ _)
   | (with_reducible exact word_Cars.mono _ _ _)
   | (with_reducible exact word_Differ.mono _ _ _ _)
   | (with_reducible exact word_Merge.mono _ _ _ _)
   | (with_reducible exact word_Text.mono _ _ _)
   | (with_reducible exact LeO.refl _)
   | (with_reducible exact LeO.none _)
   | (with_reducible refine LeO.ite ?_ ?_)
   | (with_reducible refine LeO.bind ?_ (fun _ => ?_))
   | exact ih0 _ _ _ _
   | exact tipstaffkit_SameInts.mono _ _ _
   | exact tipstafflaw33_awake.mono _
   | exact tipstaffref33_Cars.mono _ _ _
   | exact tipstaffref33_Differ.mono _ _ _ _
   | exact tipstaffref33_Merge.mono _ _ _ _
   | exact tipstaffref33_Text.mono _ _ _
   | exact word_Cars.mono _ _ _
   | exact word_Differ.mono _ _ _ _
   | exact word_Merge.mono _ _ _ _
   | exact word_Text.mono _ _ _
   | exact LeO.none _
   | refine LeO.ite ?_ ?_
   | refine LeO.bind ?_ (fun _ => ?_)
set_option maxHeartbeats 8000000 in
set_option maxRecDepth 100000 in
theorem tipstafflaw33_WordBits.calls (k : Nat) (a0 : Int) (a1 : Int) (a2 : Int) (r : Bool) (w : World) (HL_ : LaidAt w) (h : tipstafflaw33_WordBits.f k a0 a1 a2 = some r) :
  Calls Tryd.prog 8 #[.int .i64 a0, .int .i64 a1, .int .i64 a2] w fun e w' => e = .returned (.bool r) ∧ Below w.heap.size w w' := by
 have HB := Aside0.mk (Below.refl w.heap.size w)
 have H : ((word_Cars.f k a0 a2).bind fun bt493 => ((tipstaffref33_Cars.f k a0 a2).bind fun bt497 => ((word_Text.f k a0 a2).bind fun bt501 => ((tipstaffref33_Text.f k a0 a2).bind fun bt503 => ((tipstaffkit_SameInts.f k bt493.1 bt497.1).bind fun t505 => (if t505 = true then (if bt493.2 = bt497.2 then (if bt501.1.toList = bt503.1.toList then (tipstafflaw33_WordBits.j0 k a0 a1 a2 (bt501.2 != bt503.2)) else (tipstafflaw33_WordBits.j0 k a0 a1 a2 true)) else (tipstafflaw33_WordBits.j0 k a0 a1 a2 true)) else (tipstafflaw33_WordBits.j0 k a0 a1 a2 true))))))) = some r := h
 clear h
 replace H := Option.bind_eq_some_iff.mp H
 obtain ⟨⟨t493, t494⟩, A40, H⟩ := H
 replace H : ((tipstaffref33_Cars.f k a0 a2).bind fun bt497 => ((word_Text.f k a0 a2).bind fun bt501 => ((tipstaffref33_Text.f k a0 a2).bind fun bt503 => ((tipstaffkit_SameInts.f k t493 bt497.1).bind fun t505 => (if t505 = true then (if t494 = bt497.2 then (if bt501.1.toList = bt503.1.toList then (tipstafflaw33_WordBits.j0 k a0 a1 a2 (bt501.2 != bt503.2)) else (tipstafflaw33_WordBits.j0 k a0 a1 a2 true)) else (tipstafflaw33_WordBits.j0 k a0 a1 a2 true)) else (tipstafflaw33_WordBits.j0 k a0 a1 a2 true)))))) = some r := H
 have A4 := Aside0.mk A40
 clear A40
 replace H := Option.bind_eq_some_iff.mp H
 obtain ⟨⟨t497, t498⟩, A50, H⟩ := H
 replace H : ((word_Text.f k a0 a2).bind fun bt501 => ((tipstaffref33_Text.f k a0 a2).bind fun bt503 => ((tipstaffkit_SameInts.f k t493 t497).bind fun t505 => (if t505 = true then (if t494 = t498 then (if bt501.1.toList = bt503.1.toList then (tipstafflaw33_WordBits.j0 k a0 a1 a2 (bt501.2 != bt503.2)) else (tipstafflaw33_WordBits.j0 k a0 a1 a2 true)) else (tipstafflaw33_WordBits.j0 k a0 a1 a2 true)) else (tipstafflaw33_WordBits.j0 k a0 a1 a2 true))))) = some r := H
 have A5 := Aside0.mk A50
 clear A50
 replace H := Option.bind_eq_some_iff.mp H
 obtain ⟨⟨t501, t502⟩, A60, H⟩ := H
 replace H : ((tipstaffref33_Text.f k a0 a2).bind fun bt503 => ((tipstaffkit_SameInts.f k t493 t497).bind fun t505 => (if t505 = true then (if t494 = t498 then (if t501.toList = bt503.1.toList then (tipstafflaw33_WordBits.j0 k a0 a1 a2 (t502 != bt503.2)) else (tipstafflaw33_WordBits.j0 k a0 a1 a2 true)) else (tipstafflaw33_WordBits.j0 k a0 a1 a2 true)) else (tipstafflaw33_WordBits.j0 k a0 a1 a2 true)))) = some r := H
 have A6 := Aside0.mk A60
 clear A60
 replace H := Option.bind_eq_some_iff.mp H
 obtain ⟨⟨t503, t504⟩, A70, H⟩ := H
 replace H : ((tipstaffkit_SameInts.f k t493 t497).bind fun t505 => (if t505 = true then (if t494 = t498 then (if t501.toList = t503.toList then (tipstafflaw33_WordBits.j0 k a0 a1 a2 (t502 != t504)) else (tipstafflaw33_WordBits.j0 k a0 a1 a2 true)) else (tipstafflaw33_WordBits.j0 k a0 a1 a2 true)) else (tipstafflaw33_WordBits.j0 k a0 a1 a2 true))) = some r := H
 have A7 := Aside0.mk A70
 clear A70
 have HC8 := Aside0.mk H
 clear H
 go_enter Tryd.func8, Tryd.ntmps8
 go_upto_region 5 with (first | ((with_reducible refine gate_callee (f := 28) rfl ?_); refine goesL_ (some 20) rfl rfl Tryd.func28 (by kernel_rfl) rfl #[.int .i64 a0, .int .i64 a2] rfl (by (try simp only [List.map_toArray, List.map_cons, List.map_nil]); first | done | rfl | (simp only [List.length_drop, List.length_take]; rfl)) ?_; (with_reducible refine (word_Cars.calls k a0 a2 t493 t494 _ A4.out).mono ?_); rintro e w9 ⟨v495, rfl, ho0, hb⟩; refine ⟨_, rfl, ?_⟩; have n0_ := Aside0.mk (Kd.R_lower ho0 (below_size (by repeat (first | (with_reducible first | exact HB.out | apply below_alloc | apply pw_below_drewN | apply below_drew1) | exact HB.out)))); have n1_ := Aside0.mk (below_step (by repeat (first | (with_reducible first | exact HB.out | apply below_alloc | apply pw_below_drewN | apply below_drew1) | exact HB.out)) hb); clear HB; have HO496 := n0_; have HB := n1_; clear n0_ n1_; (try clear hb); (try clear hb2); (try clear hk); (try clear hi); (try clear ho0)) | ((with_reducible refine gate_callee (f := 29) rfl ?_); refine goesL_ (some 26) rfl rfl Tryd.func29 (by kernel_rfl) rfl #[.int .i64 a0, .int .i64 a2] rfl (by (try simp only [List.map_toArray, List.map_cons, List.map_nil]); first | done | rfl | (simp only [List.length_drop, List.length_take]; rfl)) ?_; (with_reducible refine (tipstaffref33_Cars.calls k a0 a2 t497 t498 _ A5.out).mono ?_); rintro e w10 ⟨v499, rfl, ho0, hb⟩; refine ⟨_, rfl, ?_⟩; have n0_ := Aside0.mk (Kd.R_elder' (by (with_reducible repeat (first | apply Kd.R_alloc | apply Kd.R_drewN | apply Kd.R_drew)); exact HO496.out) (Kd.R_base ho0) hb); have n1_ := Aside0.mk (Kd.R_lower (Kd.R_new' ho0 (Kd.R_lt (by (with_reducible repeat (first | apply Kd.R_alloc | apply Kd.R_drewN | apply Kd.R_drew)); exact HO496.out))) (below_size (by repeat (first | (with_reducible first | exact HB.out | apply below_alloc | apply pw_below_drewN | apply below_drew1) | exact HB.out)))); have n2_ := Aside0.mk (below_step (by repeat (first | (with_reducible first | exact HB.out | apply below_alloc | apply pw_below_drewN | apply below_drew1) | exact HB.out)) hb); clear HO496; clear HB; have HO496 := n0_; have HO500 := n1_; have HB := n2_; clear n0_ n1_ n2_; (try clear hb); (try clear hb2); (try clear hk); (try clear hi); (try clear ho0)) | ((with_reducible refine gate_callee (f := 30) rfl ?_); refine goesL_ (some 32) rfl rfl Tryd.func30 (by kernel_rfl) rfl #[.int .i64 a0, .int .i64 a2] rfl (by (try simp only [List.map_toArray, List.map_cons, List.map_nil]); first | done | rfl | (simp only [List.length_drop, List.length_take]; rfl)) ?_; (with_reducible refine (word_Text.calls k a0 a2 t501 t502 _ A6.out).mono ?_); rintro e w11 ⟨rfl, hb⟩; refine ⟨_, rfl, ?_⟩; have n0_ := Aside0.mk (Kd.R_below (by (with_reducible repeat (first | apply Kd.R_alloc | apply Kd.R_drewN | apply Kd.R_drew)); exact HO496.out) hb); have n1_ := Aside0.mk (Kd.R_below (by (with_reducible repeat (first | apply Kd.R_alloc | apply Kd.R_drewN | apply Kd.R_drew)); exact HO500.out) hb); have n2_ := Aside0.mk (below_step (by repeat (first | (with_reducible first | exact HB.out | apply below_alloc | apply pw_below_drewN | apply below_drew1) | exact HB.out)) hb); clear HO496; clear HO500; clear HB; have HO496 := n0_; have HO500 := n1_; have HB := n2_; clear n0_ n1_ n2_; (try clear hb); (try clear hb2); (try clear hk); (try clear hi)) | ((with_reducible refine gate_callee (f := 31) rfl ?_); refine goesL_ (some 38) rfl rfl Tryd.func31 (by kernel_rfl) rfl #[.int .i64 a0, .int .i64 a2] rfl (by (try simp only [List.map_toArray, List.map_cons, List.map_nil]); first | done | rfl | (simp only [List.length_drop, List.length_take]; rfl)) ?_; (with_reducible refine (tipstaffref33_Text.calls k a0 a2 t503 t504 _ A7.out).mono ?_); rintro e w' ⟨rfl, ⟨nd, rfl⟩⟩; refine ⟨_, rfl, ?_⟩))
 (try simp only [Act.put, List.setIfInBounds_toArray, List.set_cons_zero, List.set_cons_succ])
 go_cut [59] (fun v59 wc => ∃ (kq : Nat) (x59_7 : Bool), v59 = .bool x59_7 ∧ Aside0 (tipstafflaw33_WordBits.j0 kq a0 a1 a2 x59_7 = some r) ∧ Aside0 (kq ≤ k) ∧ Aside0 (Below w.heap.size w wc))
 case first =>
  have H := HC8.out
  clear HC8
  replace H := Option.bind_eq_some_iff.mp H
  obtain ⟨t505, A120, H⟩ := H
  replace H : (if t505 = true then (if t494 = t498 then (if t501.toList = t503.toList then (tipstafflaw33_WordBits.j0 k a0 a1 a2 (t502 != t504)) else (tipstafflaw33_WordBits.j0 k a0 a1 a2 true)) else (tipstafflaw33_WordBits.j0 k a0 a1 a2 true)) else (tipstafflaw33_WordBits.j0 k a0 a1 a2 true)) = some r := H
  have A12 := Aside0.mk A120
  clear A120
  by_cases c13 : t505 = true
  ·subst c13
   have H1 : (if t494 = t498 then (if t501.toList = t503.toList then (tipstafflaw33_WordBits.j0 k a0 a1 a2 (t502 != t504)) else (tipstafflaw33_WordBits.j0 k a0 a1 a2 true)) else (tipstafflaw33_WordBits.j0 k a0 a1 a2 true)) = some r := by rw [if_pos rfl] at H; exact H
   clear H
   have H := H1
   clear H1
   by_cases c14 : t494 = t498
   ·rw [if_pos c14] at H
    have c14b0 : (t494 == t498) = true := beq_iff_eq.mpr c14
    have c14b1 : (t494 != t498) = false := bne_eq_false_iff_eq.mpr c14
    clear c14
    (first | rw [c14b0] | (simp only [i64_w, i32_w]; rw [c14b0]) | skip)
    by_cases c15 : t501.toList = t503.toList
    ·rw [if_pos c15] at H
     have c15b0 : (t501.toList == t503.toList) = true := beq_iff_eq.mpr c15
     have c15b1 : (t501.toList != t503.toList) = false := bne_eq_false_iff_eq.mpr c15
     clear c15
     have H' := Aside0.mk H
     clear H
     obtain ⟨Ao16, co16, eo16⟩ := Kd.R_slice HO496.out
     subst eo16
     obtain ⟨Ao17, co17, eo17⟩ := Kd.R_slice HO500.out
     subst eo17
     go_wp2_with (first | ((with_reducible refine gate_callee (f := 17) rfl ?_); refine goesL_ (some 43) rfl rfl Tryd.func17 (by kernel_rfl) rfl #[.slice Ao16 t493.length co16, .slice Ao17 t497.length co17] rfl (by (try simp only [List.map_toArray, List.map_cons, List.map_nil]); first | done | rfl | (simp only [List.length_drop, List.length_take]; rfl)) ?_; (with_reducible refine (tipstaffkit_SameInts.calls k _ _ t493 _ _ t497 true _ ?side1 ?side2 ?side3 ?side4 A12.out).mono ?_); (case side1 => repeat (first | exact (Kd.R_reads' HO496.out).2.2 | (with_reducible refine Kd.C_alloc ?_ _) | (with_reducible refine Kd.C_drewN ?_ _) | (with_reducible refine Kd.C_drew ?_))); (case side2 => exact (Kd.R_reads' HO496.out).2.1); (case side3 => repeat (first | exact (Kd.R_reads' HO500.out).2.2 | (with_reducible refine Kd.C_alloc ?_ _) | (with_reducible refine Kd.C_drewN ?_ _) | (with_reducible refine Kd.C_drew ?_))); (case side4 => exact (Kd.R_reads' HO500.out).2.1); rintro e w' ⟨rfl, ⟨nd, rfl⟩⟩; refine ⟨_, rfl, ?_⟩))
     go_meet
     case rel => exact ⟨_, ((t502 != t504)), (by first | rfl | (simp; done) | (simp [*]; done)), H', ⟨by first | omega | exact Nat.le_refl _⟩, ⟨by repeat (first | (with_reducible first | exact HB.out | apply below_alloc | apply pw_below_drewN | apply below_drew1) | exact HB.out)⟩⟩
    ·rw [if_neg c15] at H
     have c15b0 : (t501.toList == t503.toList) = false := beq_eq_false_iff_ne.mpr c15
     have c15b1 : (t501.toList != t503.toList) = true := bne_iff_ne.mpr c15
     have H' := Aside0.mk H
     clear H
     obtain ⟨Ao18, co18, eo18⟩ := Kd.R_slice HO496.out
     subst eo18
     obtain ⟨Ao19, co19, eo19⟩ := Kd.R_slice HO500.out
     subst eo19
     go_wp2_with (first | ((with_reducible refine gate_callee (f := 17) rfl ?_); refine goesL_ (some 43) rfl rfl Tryd.func17 (by kernel_rfl) rfl #[.slice Ao18 t493.length co18, .slice Ao19 t497.length co19] rfl (by (try simp only [List.map_toArray, List.map_cons, List.map_nil]); first | done | rfl | (simp only [List.length_drop, List.length_take]; rfl)) ?_; (with_reducible refine (tipstaffkit_SameInts.calls k _ _ t493 _ _ t497 true _ ?side1 ?side2 ?side3 ?side4 A12.out).mono ?_); (case side1 => repeat (first | exact (Kd.R_reads' HO496.out).2.2 | (with_reducible refine Kd.C_alloc ?_ _) | (with_reducible refine Kd.C_drewN ?_ _) | (with_reducible refine Kd.C_drew ?_))); (case side2 => exact (Kd.R_reads' HO496.out).2.1); (case side3 => repeat (first | exact (Kd.R_reads' HO500.out).2.2 | (with_reducible refine Kd.C_alloc ?_ _) | (with_reducible refine Kd.C_drewN ?_ _) | (with_reducible refine Kd.C_drew ?_))); (case side4 => exact (Kd.R_reads' HO500.out).2.1); rintro e w' ⟨rfl, ⟨nd, rfl⟩⟩; refine ⟨_, rfl, ?_⟩))
     go_meet
     case rel => exact ⟨_, (true), (by first | rfl | (simp; done) | (simp [*]; done)), H', ⟨by first | omega | exact Nat.le_refl _⟩, ⟨by repeat (first | (with_reducible first | exact HB.out | apply below_alloc | apply pw_below_drewN | apply below_drew1) | exact HB.out)⟩⟩
   ·rw [if_neg c14] at H
    have c14b0 : (t494 == t498) = false := beq_eq_false_iff_ne.mpr c14
    have c14b1 : (t494 != t498) = true := bne_iff_ne.mpr c14
    (first | rw [c14b0] | (simp only [i64_w, i32_w]; rw [c14b0]) | skip)
    have H' := Aside0.mk H
    clear H
    obtain ⟨Ao20, co20, eo20⟩ := Kd.R_slice HO496.out
    subst eo20
    obtain ⟨Ao21, co21, eo21⟩ := Kd.R_slice HO500.out
    subst eo21
    go_wp2_with (first | ((with_reducible refine gate_callee (f := 17) rfl ?_); refine goesL_ (some 43) rfl rfl Tryd.func17 (by kernel_rfl) rfl #[.slice Ao20 t493.length co20, .slice Ao21 t497.length co21] rfl (by (try simp only [List.map_toArray, List.map_cons, List.map_nil]); first | done | rfl | (simp only [List.length_drop, List.length_take]; rfl)) ?_; (with_reducible refine (tipstaffkit_SameInts.calls k _ _ t493 _ _ t497 true _ ?side1 ?side2 ?side3 ?side4 A12.out).mono ?_); (case side1 => repeat (first | exact (Kd.R_reads' HO496.out).2.2 | (with_reducible refine Kd.C_alloc ?_ _) | (with_reducible refine Kd.C_drewN ?_ _) | (with_reducible refine Kd.C_drew ?_))); (case side2 => exact (Kd.R_reads' HO496.out).2.1); (case side3 => repeat (first | exact (Kd.R_reads' HO500.out).2.2 | (with_reducible refine Kd.C_alloc ?_ _) | (with_reducible refine Kd.C_drewN ?_ _) | (with_reducible refine Kd.C_drew ?_))); (case side4 => exact (Kd.R_reads' HO500.out).2.1); rintro e w' ⟨rfl, ⟨nd, rfl⟩⟩; refine ⟨_, rfl, ?_⟩))
    go_meet
    case rel => exact ⟨_, (true), (by first | rfl | (simp; done) | (simp [*]; done)), H', ⟨by first | omega | exact Nat.le_refl _⟩, ⟨by repeat (first | (with_reducible first | exact HB.out | apply below_alloc | apply pw_below_drewN | apply below_drew1) | exact HB.out)⟩⟩
  ·replace c13 := Bool.eq_false_iff.mpr c13
   subst c13
   have H1 : (tipstafflaw33_WordBits.j0 k a0 a1 a2 true) = some r := by rw [if_neg (show ¬ (false = true) by decide)] at H; exact H
   clear H
   have H := H1
   clear H1
   have H' := Aside0.mk H
   clear H
   obtain ⟨Ao22, co22, eo22⟩ := Kd.R_slice HO496.out
   subst eo22
   obtain ⟨Ao23, co23, eo23⟩ := Kd.R_slice HO500.out
   subst eo23
   go_wp2_with (first | ((with_reducible refine gate_callee (f := 17) rfl ?_); refine goesL_ (some 43) rfl rfl Tryd.func17 (by kernel_rfl) rfl #[.slice Ao22 t493.length co22, .slice Ao23 t497.length co23] rfl (by (try simp only [List.map_toArray, List.map_cons, List.map_nil]); first | done | rfl | (simp only [List.length_drop, List.length_take]; rfl)) ?_; (with_reducible refine (tipstaffkit_SameInts.calls k _ _ t493 _ _ t497 false _ ?side1 ?side2 ?side3 ?side4 A12.out).mono ?_); (case side1 => repeat (first | exact (Kd.R_reads' HO496.out).2.2 | (with_reducible refine Kd.C_alloc ?_ _) | (with_reducible refine Kd.C_drewN ?_ _) | (with_reducible refine Kd.C_drew ?_))); (case side2 => exact (Kd.R_reads' HO496.out).2.1); (case side3 => repeat (first | exact (Kd.R_reads' HO500.out).2.2 | (with_reducible refine Kd.C_alloc ?_ _) | (with_reducible refine Kd.C_drewN ?_ _) | (with_reducible refine Kd.C_drew ?_))); (case side4 => exact (Kd.R_reads' HO500.out).2.1); rintro e w' ⟨rfl, ⟨nd, rfl⟩⟩; refine ⟨_, rfl, ?_⟩))
   go_meet
   case rel => exact ⟨_, (true), (by first | rfl | (simp; done) | (simp [*]; done)), H', ⟨by first | omega | exact Nat.le_refl _⟩, ⟨by repeat (first | (with_reducible first | exact HB.out | apply below_alloc | apply pw_below_drewN | apply below_drew1) | exact HB.out)⟩⟩
 case rest =>
  clear HC8
  try clear c1
  try clear c2
  try clear p2
  try clear c3
  try clear c8
  try clear c13
  try clear c14
  try clear c14b0
  try clear c14b1
  try clear c15
  try clear c15b0
  try clear c15b1
  try clear c17
  obtain ⟨kq, x59_7, rfl, HA, HJ7, HB⟩ := hcut
  cases kq with
  | zero => exact absurd HA.out (by simp [tipstafflaw33_WordBits.j0])
  | succ kj7 =>
   have H := HA.out
   clear HA
   simp only [tipstafflaw33_WordBits.j0] at H
   by_cases c24 : x59_7 = true
   ·subst c24
    have H1 : (none) = some r := by rw [if_pos rfl] at H; exact H
    clear H
    have H := H1
    clear H1
    exact absurd H (by simp)
   ·replace c24 := Bool.eq_false_iff.mpr c24
    subst c24
    have H1 : ((word_Merge.f kj7 a0 a1 a2).bind fun bt506 => ((tipstaffref33_Merge.f kj7 a0 a1 a2).bind fun bt508 => ((word_Differ.f kj7 a0 a1 a2).bind fun bt510 => ((tipstaffref33_Differ.f kj7 a0 a1 a2).bind fun bt514 => (if bt506.1 = bt508.1 then (if bt506.2 = bt508.2 then ((tipstaffkit_SameInts.f kj7 bt510.1 bt514.1).bind fun t518 => (if t518 = true then (if bt510.2 = bt514.2 then ((tipstafflaw33_awake.f kj7).bind fun t519 => (some t519)) else (none)) else (none))) else (none)) else (none)))))) = some r := by rw [if_neg (show ¬ (false = true) by decide)] at H; exact H
    clear H
    have H := H1
    clear H1
    replace H := Option.bind_eq_some_iff.mp H
    obtain ⟨⟨t506, t507⟩, A250, H⟩ := H
    replace H : ((tipstaffref33_Merge.f kj7 a0 a1 a2).bind fun bt508 => ((word_Differ.f kj7 a0 a1 a2).bind fun bt510 => ((tipstaffref33_Differ.f kj7 a0 a1 a2).bind fun bt514 => (if t506 = bt508.1 then (if t507 = bt508.2 then ((tipstaffkit_SameInts.f kj7 bt510.1 bt514.1).bind fun t518 => (if t518 = true then (if bt510.2 = bt514.2 then ((tipstafflaw33_awake.f kj7).bind fun t519 => (some t519)) else (none)) else (none))) else (none)) else (none))))) = some r := H
    have A25 := Aside0.mk A250
    clear A250
    replace H := Option.bind_eq_some_iff.mp H
    obtain ⟨⟨t508, t509⟩, A260, H⟩ := H
    replace H : ((word_Differ.f kj7 a0 a1 a2).bind fun bt510 => ((tipstaffref33_Differ.f kj7 a0 a1 a2).bind fun bt514 => (if t506 = t508 then (if t507 = t509 then ((tipstaffkit_SameInts.f kj7 bt510.1 bt514.1).bind fun t518 => (if t518 = true then (if bt510.2 = bt514.2 then ((tipstafflaw33_awake.f kj7).bind fun t519 => (some t519)) else (none)) else (none))) else (none)) else (none)))) = some r := H
    have A26 := Aside0.mk A260
    clear A260
    replace H := Option.bind_eq_some_iff.mp H
    obtain ⟨⟨t510, t511⟩, A270, H⟩ := H
    replace H : ((tipstaffref33_Differ.f kj7 a0 a1 a2).bind fun bt514 => (if t506 = t508 then (if t507 = t509 then ((tipstaffkit_SameInts.f kj7 t510 bt514.1).bind fun t518 => (if t518 = true then (if t511 = bt514.2 then ((tipstafflaw33_awake.f kj7).bind fun t519 => (some t519)) else (none)) else (none))) else (none)) else (none))) = some r := H
    have A27 := Aside0.mk A270
    clear A270
    replace H := Option.bind_eq_some_iff.mp H
    obtain ⟨⟨t514, t515⟩, A280, H⟩ := H
    replace H : (if t506 = t508 then (if t507 = t509 then ((tipstaffkit_SameInts.f kj7 t510 t514).bind fun t518 => (if t518 = true then (if t511 = t515 then ((tipstafflaw33_awake.f kj7).bind fun t519 => (some t519)) else (none)) else (none))) else (none)) else (none)) = some r := H
    have A28 := Aside0.mk A280
    clear A280
    by_cases c29 : t506 = t508
    ·rw [if_pos c29] at H
     have c29b0 : (t506 == t508) = true := beq_iff_eq.mpr c29
     have c29b1 : (t506 != t508) = false := bne_eq_false_iff_eq.mpr c29
     clear c29
     by_cases c30 : t507 = t509
     ·rw [if_pos c30] at H
      have c30b0 : (t507 == t509) = true := beq_iff_eq.mpr c30
      have c30b1 : (t507 != t509) = false := bne_eq_false_iff_eq.mpr c30
      clear c30
      replace H := Option.bind_eq_some_iff.mp H
      obtain ⟨t518, A310, H⟩ := H
      replace H : (if t518 = true then (if t511 = t515 then ((tipstafflaw33_awake.f kj7).bind fun t519 => (some t519)) else (none)) else (none)) = some r := H
      have A31 := Aside0.mk A310
      clear A310
      by_cases c32 : t518 = true
      ·subst c32
       have H1 : (if t511 = t515 then ((tipstafflaw33_awake.f kj7).bind fun t519 => (some t519)) else (none)) = some r := by rw [if_pos rfl] at H; exact H
       clear H
       have H := H1
       clear H1
       by_cases c33 : t511 = t515
       ·rw [if_pos c33] at H
        have c33b0 : (t511 == t515) = true := beq_iff_eq.mpr c33
        have c33b1 : (t511 != t515) = false := bne_eq_false_iff_eq.mpr c33
        clear c33
        replace H := Option.bind_eq_some_iff.mp H
        obtain ⟨t519, A340, H⟩ := H
        replace H : (some t519) = some r := H
        have A34 := Aside0.mk A340
        clear A340
        obtain rfl := Option.some.inj H
        go_wp2_with (first | ((with_reducible refine gate_callee (f := 21) rfl ?_); refine goesL_ (some 64) rfl rfl Tryd.func21 (by kernel_rfl) rfl #[.int .i64 a0, .int .i64 a1, .int .i64 a2] rfl (by (try simp only [List.map_toArray, List.map_cons, List.map_nil]); first | done | rfl | (simp only [List.length_drop, List.length_take]; rfl)) ?_; (with_reducible refine (word_Merge.calls kj7 a0 a1 a2 t506 t507 _ A25.out).mono ?_); rintro e w35 ⟨rfl, hb⟩; refine ⟨_, rfl, ?_⟩; have n0_ := Aside0.mk (below_step (by repeat (first | (with_reducible first | exact HB.out | apply below_alloc | apply pw_below_drewN | apply below_drew1) | exact HB.out)) hb); clear HB; have HB := n0_; clear n0_; (try clear hb); (try clear hb2); (try clear hk); (try clear hi)) | ((with_reducible refine gate_callee (f := 32) rfl ?_); refine goesL_ (some 71) rfl rfl Tryd.func32 (by kernel_rfl) rfl #[.int .i64 a0, .int .i64 a1, .int .i64 a2] rfl (by (try simp only [List.map_toArray, List.map_cons, List.map_nil]); first | done | rfl | (simp only [List.length_drop, List.length_take]; rfl)) ?_; (with_reducible refine (tipstaffref33_Merge.calls kj7 a0 a1 a2 t508 t509 _ A26.out).mono ?_); rintro e w36 ⟨rfl, hb⟩; refine ⟨_, rfl, ?_⟩; have n0_ := Aside0.mk (below_step (by repeat (first | (with_reducible first | exact HB.out | apply below_alloc | apply pw_below_drewN | apply below_drew1) | exact HB.out)) hb); clear HB; have HB := n0_; clear n0_; (try clear hb); (try clear hb2); (try clear hk); (try clear hi)) | ((with_reducible refine gate_callee (f := 33) rfl ?_); refine goesL_ (some 78) rfl rfl Tryd.func33 (by kernel_rfl) rfl #[.int .i64 a0, .int .i64 a1, .int .i64 a2] rfl (by (try simp only [List.map_toArray, List.map_cons, List.map_nil]); first | done | rfl | (simp only [List.length_drop, List.length_take]; rfl)) ?_; (with_reducible refine (word_Differ.calls kj7 a0 a1 a2 t510 t511 _ A27.out).mono ?_); rintro e w37 ⟨v512, rfl, ho0, hb⟩; refine ⟨_, rfl, ?_⟩; have n0_ := Aside0.mk (Kd.R_lower ho0 (below_size (by repeat (first | (with_reducible first | exact HB.out | apply below_alloc | apply pw_below_drewN | apply below_drew1) | exact HB.out)))); have n1_ := Aside0.mk (below_step (by repeat (first | (with_reducible first | exact HB.out | apply below_alloc | apply pw_below_drewN | apply below_drew1) | exact HB.out)) hb); clear HB; have HO513 := n0_; have HB := n1_; clear n0_ n1_; (try clear hb); (try clear hb2); (try clear hk); (try clear hi); (try clear ho0)) | ((with_reducible refine gate_callee (f := 34) rfl ?_); refine goesL_ (some 85) rfl rfl Tryd.func34 (by kernel_rfl) rfl #[.int .i64 a0, .int .i64 a1, .int .i64 a2] rfl (by (try simp only [List.map_toArray, List.map_cons, List.map_nil]); first | done | rfl | (simp only [List.length_drop, List.length_take]; rfl)) ?_; (with_reducible refine (tipstaffref33_Differ.calls kj7 a0 a1 a2 t514 t515 _ A28.out).mono ?_); rintro e w38 ⟨v516, rfl, ho0, hb⟩; refine ⟨_, rfl, ?_⟩; have n0_ := Aside0.mk (Kd.R_elder' (by (with_reducible repeat (first | apply Kd.R_alloc | apply Kd.R_drewN | apply Kd.R_drew)); exact HO513.out) (Kd.R_base ho0) hb); have n1_ := Aside0.mk (Kd.R_lower (Kd.R_new' ho0 (Kd.R_lt (by (with_reducible repeat (first | apply Kd.R_alloc | apply Kd.R_drewN | apply Kd.R_drew)); exact HO513.out))) (below_size (by repeat (first | (with_reducible first | exact HB.out | apply below_alloc | apply pw_below_drewN | apply below_drew1) | exact HB.out)))); have n2_ := Aside0.mk (below_step (by repeat (first | (with_reducible first | exact HB.out | apply below_alloc | apply pw_below_drewN | apply below_drew1) | exact HB.out)) hb); clear HO513; clear HB; have HO513 := n0_; have HO517 := n1_; have HB := n2_; clear n0_ n1_ n2_; (try clear hb); (try clear hb2); (try clear hk); (try clear hi); (try clear ho0); obtain ⟨Ao39, co39, eo39⟩ := Kd.R_slice HO513.out; subst eo39; obtain ⟨Ao40, co40, eo40⟩ := Kd.R_slice HO517.out; subst eo40) | (go_at_call 17; (with_reducible refine (tipstaffkit_SameInts.calls kj7 _ _ t510 _ _ t514 true _ ?side1 ?side2 ?side3 ?side4 A31.out).mono ?_); (case side1 => repeat (first | exact (Kd.R_reads' HO513.out).2.2 | (with_reducible refine Kd.C_alloc ?_ _) | (with_reducible refine Kd.C_drewN ?_ _) | (with_reducible refine Kd.C_drew ?_))); (case side2 => exact (Kd.R_reads' HO513.out).2.1); (case side3 => repeat (first | exact (Kd.R_reads' HO517.out).2.2 | (with_reducible refine Kd.C_alloc ?_ _) | (with_reducible refine Kd.C_drewN ?_ _) | (with_reducible refine Kd.C_drew ?_))); (case side4 => exact (Kd.R_reads' HO517.out).2.1); rintro e w' ⟨rfl, ⟨nd, rfl⟩⟩) | (go_at_call 12; (with_reducible refine (tipstafflaw33_awake.calls kj7  t519 _ (by first | with_reducible exact HL_ | ((repeat with_reducible apply LaidAt.drewN); with_reducible exact HL_) | exact LaidAt.below HL_ (by repeat (first | (with_reducible first | exact HB.out | apply below_alloc | apply pw_below_drewN | apply below_drew1) | exact HB.out))) A34.out).mono ?_); rintro e w41 ⟨rfl, hb⟩; have n0_ := Aside0.mk (Kd.R_below (by (with_reducible repeat (first | apply Kd.R_alloc | apply Kd.R_drewN | apply Kd.R_drew)); exact HO513.out) hb); have n1_ := Aside0.mk (Kd.R_below (by (with_reducible repeat (first | apply Kd.R_alloc | apply Kd.R_drewN | apply Kd.R_drew)); exact HO517.out) hb); have n2_ := Aside0.mk (below_step (by repeat (first | (with_reducible first | exact HB.out | apply below_alloc | apply pw_below_drewN | apply below_drew1) | exact HB.out)) hb); clear HO513; clear HO517; clear HB; have HO513 := n0_; have HO517 := n1_; have HB := n2_; clear n0_ n1_ n2_; (try clear hb); (try clear hb2); (try clear hk); (try clear hi)))
        go_ret
        exact ⟨by first | rfl | (simp [errW_none, errW_some] <;> rfl) | (simp [*, errW_none, errW_some] <;> rfl) | (simp (discharger := omega) only [Int.tdiv_eq_ediv_of_nonneg, Int.tmod_eq_emod_of_nonneg] <;> rfl), by repeat (first | (with_reducible first | exact HB.out | apply below_alloc | apply pw_below_drewN | apply below_drew1) | exact HB.out)⟩
       ·rw [if_neg c33] at H
        exact absurd H (by simp)
      ·replace c32 := Bool.eq_false_iff.mpr c32
       subst c32
       have H1 : (none) = some r := by rw [if_neg (show ¬ (false = true) by decide)] at H; exact H
       clear H
       have H := H1
       clear H1
       exact absurd H (by simp)
     ·rw [if_neg c30] at H
      exact absurd H (by simp)
    ·rw [if_neg c29] at H
     exact absurd H (by simp)

/-- THE ONE PURE STATEMENT of tipstafflaw33_WordBits: yours. -/
def tipstafflaw33_WordBits.Pure : Prop := ∀ (a0 : Int) (a1 : Int) (a2 : Int), (Lit.int .i64 a0).wf = true → (Lit.int .i64 a1).wf = true → (Lit.int .i64 a2).wf = true → ∃ k, tipstafflaw33_WordBits.f k a0 a1 a2 = some true
theorem tipstafflaw33_WordBits.walk (P : tipstafflaw33_WordBits.Pure) (a0 : Int) (a1 : Int) (a2 : Int) (w : World) (HL_ : LaidAt w) (w0 : (Lit.int .i64 a0).wf = true) (w1 : (Lit.int .i64 a1).wf = true) (w2 : (Lit.int .i64 a2).wf = true) :
  Calls Tryd.prog 8 #[.int .i64 a0, .int .i64 a1, .int .i64 a2] w fun e w' => e = .returned (.bool true) ∧ Below w.heap.size w w' := by
 obtain ⟨k, h⟩ := P a0 a1 a2 w0 w1 w2
 refine (tipstafflaw33_WordBits.calls k a0 a1 a2 true w HL_ h).mono ?_
 rintro e w' ⟨rfl, hd⟩
 exact ⟨rfl, hd⟩

end Go.Proofs.YtbcmlgbhejcjbaaDoor.S
