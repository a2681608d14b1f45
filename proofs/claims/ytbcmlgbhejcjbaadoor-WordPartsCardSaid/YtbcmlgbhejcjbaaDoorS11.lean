-- PRINTED by print.py (a twelfth state) out of the translation. Not trusted: Lean checks it.
import Derived.Test.YtbcmlgbhejcjbaaDoorS0
import Derived.Test.YtbcmlgbhejcjbaaDoorS3
import Derived.Test.YtbcmlgbhejcjbaaDoorS8
import Derived.Test.YtbcmlgbhejcjbaaDoorS10
namespace Go.Proofs.YtbcmlgbhejcjbaaDoor.S
open Go.RowKit Go.Proofs.YtbcmlgbhejcjbaaDoorW.PrintWords Go.Proofs.YtbcmlgbhejcjbaaDoorW.PrintLast Go.Proofs.YtbcmlgbhejcjbaaDoorW.PrintMore
attribute [local go_sem] Go.Proofs.YtbcmlgbhejcjbaaDoorW.PrintXtra.isSome_setCell max2_int min2_int max_two min_two max_three min_three max_four min_four   -- for this text's walks alone
set_option linter.unusedVariables false
set_option linter.unusedSimpArgs false

/-! ### tipstafflaw33_WordParts: function 5 -/
def tipstafflaw33_WordParts.j0 : Nat → Int → Int → Int → Bool → Option (Bool)
 | 0, _, _, _, _ => none
 | k + 1, x8, x11, x14, x68 => if x68 = true then (none) else ((word_Merge.f k x11 x14 3).bind fun bt361 => (if bt361.2 = 0 then (if bt361.1 = x8 then ((tipstafflaw33_awake.f k).bind fun t363 => (some t363)) else (none)) else (none)))
def tipstafflaw33_WordParts.f (k : Nat) (l0 : List Int) (a1 : Int) : Option (Bool) := (tipstafflaw33_made.f k l0).bind fun bt330 => ((tipstaffkit_Mod.f a1 (wrap64 ((bt330.2.length : Int) + 1))).bind fun t336 => ((word_Of.f 50 bt330.1 bt330.2).bind fun bt337 => (if 0 ≤ t336 then (if t336 ≤ (bt330.2.length : Int) then ((word_Of.f 10000 bt330.1 (bt330.2.take (t336 : Int).toNat)).bind fun bt346 => ((word_Of.f 50 bt346.2.1 (bt330.2.drop (t336 : Int).toNat)).bind fun bt355 => (if bt337.2.2 = 0 then (if bt346.2.2 = 0 then (if bt355.2.2 = 0 then ((tipstaffkit_SameInts.f k bt337.2.1 bt355.2.1).bind fun t360 => (tipstafflaw33_WordParts.j0 k bt337.1 bt346.1 bt355.1 (!t360))) else (tipstafflaw33_WordParts.j0 k bt337.1 bt346.1 bt355.1 true)) else (tipstafflaw33_WordParts.j0 k bt337.1 bt346.1 bt355.1 true)) else (tipstafflaw33_WordParts.j0 k bt337.1 bt346.1 bt355.1 true)))) else (none)) else (none))))
theorem tipstafflaw33_WordParts.mono_l : ∀ k, (∀ y0 y1 y2 y3, LeO (tipstafflaw33_WordParts.j0 k y0 y1 y2 y3) (tipstafflaw33_WordParts.j0 (k + 1) y0 y1 y2 y3))
 | 0 => fun _ _ _ _ r h => by simp [tipstafflaw33_WordParts.j0] at h
 | k + 1 => by
  have ih0 := tipstafflaw33_WordParts.mono_l k
  ·intro y0 y1 y2 y3
   unfold tipstafflaw33_WordParts.j0
   repeat' first
   | (with_reducible exact ih0 _ _ _ _)
   | (with_reducible exact tipstaffkit_SameInts.mono _ _ _)
   | (with_reducible exact tipstafflaw33_awake.mono _)
   | (with_reducible exact tipstafflaw33_made.mono _ _)
   | (with_reducible exact word_Merge.mono _ _ _ _)
   | (with_reducible exact LeO.refl _)
   | (with_reducible exact LeO.none _)
   | (with_reducible refine LeO.ite ?_ ?_)
   | (with_reducible refine LeO.bind ?_ (fun _ => ?_))
   | exact ih0 _ _ _ _
   | exact tipstaffkit_SameInts.mono _ _ _
   | exact tipstafflaw33_awake.mono _
   | exact tipstafflaw33_made.mono _ _
   | exact word_Merge.mono _ _ _ _
   | exact LeO.none _
   | refine LeO.ite ?_ ?_
   | refine LeO.bind ?_ (fun _ => ?_)
theorem tipstafflaw33_WordParts.mono : ∀ a0 a1 k, LeO (tipstafflaw33_WordParts.f k a0 a1) (tipstafflaw33_WordParts.f (k + 1) a0 a1) := by
 intro a0 a1 k
 have ih0 := tipstafflaw33_WordParts.mono_l k
 unfold tipstafflaw33_WordParts.f
 repeat' first
   | (with_reducible exact ih0 _ _ _ _)
   | (with_reducible exact tipstaffkit_SameInts.mono _ _ _)
   | (with_reducible exact tipstafflaw33_awake.mono _)
   | (with_reducible exact tipstafflaw33_made.mono _ _)
   | (with_reducible exact word_Merge.mono _ _ _ _)
   | (with_reducible exact LeO.refl _)
   | (with_reducible exact LeO.none _)
   | (with_reducible refine LeO.ite ?_ ?_)
   | (with_reducible refine LeO.bind ?_ (fun _ => ?_))
   | exact ih0 _ _ _ _
   | exact tipstaffkit_SameInts.mono _ _ _
   | exact tipstafflaw33_awake.mono _
   | exact tipstafflaw33_made.mono _ _
   | exact word_Merge.mono _ _ _ _
   | exact LeO.none _
   | refine LeO.ite ?_ ?_
   | refine LeO.bind ?_ (fun _ => ?_)
set_option maxHeartbeats 8000000 in
set_option maxRecDepth 100000 in
theorem tipstafflaw33_WordParts.calls (k : Nat) (A0 : Option Addr) (c0 : Nat) (l0 : List Int) (a1 : Int) (r : Bool) (w : World) (HL_ : LaidAt w) (hr0 : Kd.C (Kd.int .i64) w A0 l0.length l0) (hc0 : l0.length ≤ c0) (h : tipstafflaw33_WordParts.f k l0 a1 = some r) :
  Calls Tryd.prog 5 #[.slice A0 l0.length c0, .int .i64 a1] w fun e w' => e = .returned (.bool r) ∧ Below w.heap.size w w' := by
 have HR0 := Aside0.mk hr0
 have HC0 := Aside0.mk hc0
 clear hr0 hc0
 have HB := Aside0.mk (Below.refl w.heap.size w)
 have H : ((tipstafflaw33_made.f k l0).bind fun bt330 => ((tipstaffkit_Mod.f a1 (wrap64 ((bt330.2.length : Int) + 1))).bind fun t336 => ((word_Of.f 50 bt330.1 bt330.2).bind fun bt337 => (if 0 ≤ t336 then (if t336 ≤ (bt330.2.length : Int) then ((word_Of.f 10000 bt330.1 (bt330.2.take (t336 : Int).toNat)).bind fun bt346 => ((word_Of.f 50 bt346.2.1 (bt330.2.drop (t336 : Int).toNat)).bind fun bt355 => (if bt337.2.2 = 0 then (if bt346.2.2 = 0 then (if bt355.2.2 = 0 then ((tipstaffkit_SameInts.f k bt337.2.1 bt355.2.1).bind fun t360 => (tipstafflaw33_WordParts.j0 k bt337.1 bt346.1 bt355.1 (!t360))) else (tipstafflaw33_WordParts.j0 k bt337.1 bt346.1 bt355.1 true)) else (tipstafflaw33_WordParts.j0 k bt337.1 bt346.1 bt355.1 true)) else (tipstafflaw33_WordParts.j0 k bt337.1 bt346.1 bt355.1 true)))) else (none)) else (none))))) = some r := h
 clear h
 replace H := Option.bind_eq_some_iff.mp H
 obtain ⟨⟨t330, t331⟩, A30, H⟩ := H
 replace H : ((tipstaffkit_Mod.f a1 (wrap64 ((t331.length : Int) + 1))).bind fun t336 => ((word_Of.f 50 t330 t331).bind fun bt337 => (if 0 ≤ t336 then (if t336 ≤ (t331.length : Int) then ((word_Of.f 10000 t330 (t331.take (t336 : Int).toNat)).bind fun bt346 => ((word_Of.f 50 bt346.2.1 (t331.drop (t336 : Int).toNat)).bind fun bt355 => (if bt337.2.2 = 0 then (if bt346.2.2 = 0 then (if bt355.2.2 = 0 then ((tipstaffkit_SameInts.f k bt337.2.1 bt355.2.1).bind fun t360 => (tipstafflaw33_WordParts.j0 k bt337.1 bt346.1 bt355.1 (!t360))) else (tipstafflaw33_WordParts.j0 k bt337.1 bt346.1 bt355.1 true)) else (tipstafflaw33_WordParts.j0 k bt337.1 bt346.1 bt355.1 true)) else (tipstafflaw33_WordParts.j0 k bt337.1 bt346.1 bt355.1 true)))) else (none)) else (none)))) = some r := H
 have A3 := Aside0.mk A30
 clear A30
 replace H := Option.bind_eq_some_iff.mp H
 obtain ⟨t336, A40, H⟩ := H
 replace H : ((word_Of.f 50 t330 t331).bind fun bt337 => (if 0 ≤ t336 then (if t336 ≤ (t331.length : Int) then ((word_Of.f 10000 t330 (t331.take (t336 : Int).toNat)).bind fun bt346 => ((word_Of.f 50 bt346.2.1 (t331.drop (t336 : Int).toNat)).bind fun bt355 => (if bt337.2.2 = 0 then (if bt346.2.2 = 0 then (if bt355.2.2 = 0 then ((tipstaffkit_SameInts.f k bt337.2.1 bt355.2.1).bind fun t360 => (tipstafflaw33_WordParts.j0 k bt337.1 bt346.1 bt355.1 (!t360))) else (tipstafflaw33_WordParts.j0 k bt337.1 bt346.1 bt355.1 true)) else (tipstafflaw33_WordParts.j0 k bt337.1 bt346.1 bt355.1 true)) else (tipstafflaw33_WordParts.j0 k bt337.1 bt346.1 bt355.1 true)))) else (none)) else (none))) = some r := H
 have A4 := Aside0.mk A40
 clear A40
 replace H := Option.bind_eq_some_iff.mp H
 obtain ⟨⟨t337, t338, t339⟩, A50, H⟩ := H
 replace H : (if 0 ≤ t336 then (if t336 ≤ (t331.length : Int) then ((word_Of.f 10000 t330 (t331.take (t336 : Int).toNat)).bind fun bt346 => ((word_Of.f 50 bt346.2.1 (t331.drop (t336 : Int).toNat)).bind fun bt355 => (if t339 = 0 then (if bt346.2.2 = 0 then (if bt355.2.2 = 0 then ((tipstaffkit_SameInts.f k t338 bt355.2.1).bind fun t360 => (tipstafflaw33_WordParts.j0 k t337 bt346.1 bt355.1 (!t360))) else (tipstafflaw33_WordParts.j0 k t337 bt346.1 bt355.1 true)) else (tipstafflaw33_WordParts.j0 k t337 bt346.1 bt355.1 true)) else (tipstafflaw33_WordParts.j0 k t337 bt346.1 bt355.1 true)))) else (none)) else (none)) = some r := H
 have A5 := Aside0.mk A50
 clear A50
 by_cases c6 : 0 ≤ t336
 ·rw [if_pos c6] at H
  have c6b0 := eq_true c6
  have c6b1 : decide (0 ≤ t336) = true := decide_eq_true c6
  clear c6
  by_cases c7 : t336 ≤ (t331.length : Int)
  ·rw [if_pos c7] at H
   have c7b0 := eq_true c7
   have c7b1 : decide (t336 ≤ (t331.length : Int)) = true := decide_eq_true c7
   clear c7
   obtain ⟨y342, hy342⟩ : ∃ y_ : List (S38), y_ = (t331.take (t336 : Int).toNat) := ⟨_, rfl⟩
   replace H : ((word_Of.f 10000 t330 y342).bind fun bt346 => ((word_Of.f 50 bt346.2.1 (t331.drop (t336 : Int).toNat)).bind fun bt355 => (if t339 = 0 then (if bt346.2.2 = 0 then (if bt355.2.2 = 0 then ((tipstaffkit_SameInts.f k t338 bt355.2.1).bind fun t360 => (tipstafflaw33_WordParts.j0 k t337 bt346.1 bt355.1 (!t360))) else (tipstafflaw33_WordParts.j0 k t337 bt346.1 bt355.1 true)) else (tipstafflaw33_WordParts.j0 k t337 bt346.1 bt355.1 true)) else (tipstafflaw33_WordParts.j0 k t337 bt346.1 bt355.1 true)))) = some r := by first | (rw [hy342]; with_reducible exact H) | (have H2_ := (Option.bind_some _ _).symm.trans H; rw [hy342]; with_reducible exact H2_) | (have H2_ := (Option.bind_some _ _).symm.trans H; with_reducible exact H2_) | with_reducible exact H | (rw [hy342]; exact H) | exact H
   have Ny342 := Aside0.mk hy342
   clear hy342
   replace H := Option.bind_eq_some_iff.mp H
   obtain ⟨⟨t346, t347, t348⟩, A80, H⟩ := H
   replace H : ((word_Of.f 50 t347 (t331.drop (t336 : Int).toNat)).bind fun bt355 => (if t339 = 0 then (if t348 = 0 then (if bt355.2.2 = 0 then ((tipstaffkit_SameInts.f k t338 bt355.2.1).bind fun t360 => (tipstafflaw33_WordParts.j0 k t337 t346 bt355.1 (!t360))) else (tipstafflaw33_WordParts.j0 k t337 t346 bt355.1 true)) else (tipstafflaw33_WordParts.j0 k t337 t346 bt355.1 true)) else (tipstafflaw33_WordParts.j0 k t337 t346 bt355.1 true))) = some r := H
   have A8 := Aside0.mk A80
   clear A80
   have c9b0 := eq_true (of_decide_eq_true (by first | (with_reducible assumption) | assumption) : 0 ≤ t336)
   have c10b0 := eq_true (of_decide_eq_true (by first | (with_reducible assumption) | assumption) : t336 ≤ (t331.length : Int))
   obtain ⟨y351, hy351⟩ : ∃ y_ : List (S38), y_ = (t331.drop (t336 : Int).toNat) := ⟨_, rfl⟩
   replace H : ((word_Of.f 50 t347 y351).bind fun bt355 => (if t339 = 0 then (if t348 = 0 then (if bt355.2.2 = 0 then ((tipstaffkit_SameInts.f k t338 bt355.2.1).bind fun t360 => (tipstafflaw33_WordParts.j0 k t337 t346 bt355.1 (!t360))) else (tipstafflaw33_WordParts.j0 k t337 t346 bt355.1 true)) else (tipstafflaw33_WordParts.j0 k t337 t346 bt355.1 true)) else (tipstafflaw33_WordParts.j0 k t337 t346 bt355.1 true))) = some r := by first | (rw [hy351]; with_reducible exact H) | (have H2_ := (Option.bind_some _ _).symm.trans H; rw [hy351]; with_reducible exact H2_) | (have H2_ := (Option.bind_some _ _).symm.trans H; with_reducible exact H2_) | with_reducible exact H | (rw [hy351]; exact H) | exact H
   have Ny351 := Aside0.mk hy351
   clear hy351
   replace H := Option.bind_eq_some_iff.mp H
   obtain ⟨⟨t355, t356, t357⟩, A110, H⟩ := H
   replace H : (if t339 = 0 then (if t348 = 0 then (if t357 = 0 then ((tipstaffkit_SameInts.f k t338 t356).bind fun t360 => (tipstafflaw33_WordParts.j0 k t337 t346 t355 (!t360))) else (tipstafflaw33_WordParts.j0 k t337 t346 t355 true)) else (tipstafflaw33_WordParts.j0 k t337 t346 t355 true)) else (tipstafflaw33_WordParts.j0 k t337 t346 t355 true)) = some r := H
   have A11 := Aside0.mk A110
   clear A110
   have HC12 := Aside0.mk H
   clear H
   go_enter Tryd.func5, Tryd.ntmps5
   go_upto_region 6 with (first | ((with_reducible refine gate_callee (f := 19) rfl ?_); refine goesL_ (some 20) rfl rfl Tryd.func19 (by kernel_rfl) rfl #[.slice A0 l0.length c0] rfl (by (try simp only [List.map_toArray, List.map_cons, List.map_nil]); first | done | rfl | (simp only [List.length_drop, List.length_take]; rfl)) ?_; (with_reducible refine (tipstafflaw33_made.calls k _ _ l0 t330 t331 _ ?side1 ?side2 A3.out).mono ?_); (case side1 => repeat (first | exact HR0.out | (with_reducible refine Kd.C_alloc ?_ _) | (with_reducible refine Kd.C_drewN ?_ _) | (with_reducible refine Kd.C_drew ?_))); (case side2 => exact HC0.out); rintro e w13 ⟨v332, v334, rfl, ho0, ho1, hb⟩; refine ⟨_, rfl, ?_⟩; have n0_ := Aside0.mk (Kd.R_lower ho0 (below_size (by repeat (first | (with_reducible first | exact HB.out | apply below_alloc | apply pw_below_drewN | apply below_drew1) | exact HB.out)))); have n1_ := Aside0.mk (Kd.R_lower ho1 (below_size (by repeat (first | (with_reducible first | exact HB.out | apply below_alloc | apply pw_below_drewN | apply below_drew1) | exact HB.out)))); have n2_ := Aside0.mk (below_step (by repeat (first | (with_reducible first | exact HB.out | apply below_alloc | apply pw_below_drewN | apply below_drew1) | exact HB.out)) hb); clear HB; have HO333 := n0_; have HO335 := n1_; have HB := n2_; clear n0_ n1_ n2_; (try clear hb); (try clear hb2); (try clear hk); (try clear hi); (try clear ho0); (try clear ho1); obtain ⟨Ao14, co14, eo14⟩ := Kd.R_slice HO335.out; subst eo14) | ((with_reducible refine gate_callee (f := 20) rfl ?_); refine goesL_ (some 27) rfl rfl Tryd.func20 (by kernel_rfl) rfl #[.int .i64 a1, .int .i64 (wrap64 ((t331.length : Int) + 1))] rfl (by (try simp only [List.map_toArray, List.map_cons, List.map_nil]); first | done | rfl | (simp only [List.length_drop, List.length_take]; rfl)) ?_; (with_reducible refine (tipstaffkit_Mod.calls a1 (wrap64 ((t331.length : Int) + 1)) t336 _ A4.out).mono ?_); rintro e w' ⟨rfl, ⟨nd, rfl⟩⟩; refine ⟨_, rfl, ?_⟩; obtain ⟨Ao15, co15, eo15⟩ := Kd.R_slice HO333.out; subst eo15) | ((with_reducible refine gate_callee (f := 15) rfl ?_); refine goesL_ (some 31) rfl rfl Tryd.func15 (by kernel_rfl) rfl #[.int .i64 50, .slice Ao15 t330.length co15, .slice Ao14 t331.length co14] rfl (by (try simp only [List.map_toArray, List.map_cons, List.map_nil]); first | done | rfl | (simp only [List.length_drop, List.length_take]; rfl)) ?_; (with_reducible refine (word_Of.calls 50 _ _ t330 _ _ t331 t337 t338 t339 _ (by first | with_reducible exact HL_ | ((repeat with_reducible apply LaidAt.drewN); with_reducible exact HL_) | exact LaidAt.below HL_ (by repeat (first | (with_reducible first | exact HB.out | apply below_alloc | apply pw_below_drewN | apply below_drew1) | exact HB.out))) ?side1 ?side2 ?side3 ?side4 A5.out).mono ?_); (case side1 => repeat (first | exact (Kd.R_reads' HO333.out).2.2 | (with_reducible refine Kd.C_alloc ?_ _) | (with_reducible refine Kd.C_drewN ?_ _) | (with_reducible refine Kd.C_drew ?_))); (case side2 => exact (Kd.R_reads' HO333.out).2.1); (case side3 => repeat (first | exact (Kd.R_reads' HO335.out).2.2 | (with_reducible refine Kd.C_alloc ?_ _) | (with_reducible refine Kd.C_drewN ?_ _) | (with_reducible refine Kd.C_drew ?_))); (case side4 => exact (Kd.R_reads' HO335.out).2.1); rintro e w16 ⟨v340, rfl, ho0, hb⟩; refine ⟨_, rfl, ?_⟩; have n0_ := Aside0.mk (Kd.R_elder' (by (with_reducible repeat (first | apply Kd.R_alloc | apply Kd.R_drewN | apply Kd.R_drew)); exact HO333.out) (Kd.R_base ho0) hb); have n1_ := Aside0.mk (Kd.R_below (by (with_reducible repeat (first | apply Kd.R_alloc | apply Kd.R_drewN | apply Kd.R_drew)); exact HO335.out) hb); have n2_ := Aside0.mk (Kd.R_lower (Kd.R_new' ho0 (Kd.R_lt (by (with_reducible repeat (first | apply Kd.R_alloc | apply Kd.R_drewN | apply Kd.R_drew)); exact HO333.out))) (below_size (by repeat (first | (with_reducible first | exact HB.out | apply below_alloc | apply pw_below_drewN | apply below_drew1) | exact HB.out)))); have n3_ := Aside0.mk (below_step (by repeat (first | (with_reducible first | exact HB.out | apply below_alloc | apply pw_below_drewN | apply below_drew1) | exact HB.out)) hb); clear HO333; clear HO335; clear HB; have HO333 := n0_; have HO335 := n1_; have HO341 := n2_; have HB := n3_; clear n0_ n1_ n2_ n3_; (try clear hb); (try clear hb2); (try clear hk); (try clear hi); (try clear ho0); have q17 : (t336 : Int) ≤ ((t331.length : Int) : Int) := of_decide_eq_true (by first | (with_reducible assumption) | assumption); obtain ⟨i017, hi017, _, hsz17, _⟩ := info_parts info38; have hroom17 : t331.length ≤ co14 := (Kd.R_reads' HO335.out).2.1; have hC17 : Kd.C k38 _ Ao14 t331.length t331 := (Kd.R_reads' HO335.out).2.2; have hcut17 := cut_to (P := Tryd.prog) 23 38 .i64 Tryd.underlying23 hi017 Ao14 t331.length co14 t336 (of_decide_eq_true (by first | (with_reducible assumption) | assumption)) q17 hroom17; have hr17 := Kd.C_take (m := (t336 : Int).toNat) hC17 (by omega); have hy17 : y342.length = (t336 : Int).toNat := (by rw [Ny342.out, List.length_take]; omega); rw [← Ny342.out] at hr17; rw [← hy17] at hcut17; have HR345 := Aside0.mk hr17; have HC345 := Aside0.mk (show y342.length ≤ co14 from by omega); clear hr17 hC17 hroom17 hi017 hsz17; have KY17 := Aside0.mk hy17; clear hy17; have KL17 := Aside0.mk (show (t336 : Int).toNat ≤ t331.length from by omega); replace q17 := eq_true q17) | ((with_reducible refine gate_callee (f := 15) rfl ?_); refine goesL_ (some 40) rfl rfl Tryd.func15 (by kernel_rfl) rfl #[.int .i64 10000, .slice Ao15 t330.length co15, .slice Ao14 y342.length co14] rfl (by (try simp only [List.map_toArray, List.map_cons, List.map_nil]); first | done | rfl | (simp only [List.length_drop, List.length_take]; rfl)) ?_; (with_reducible refine (word_Of.calls 10000 _ _ t330 _ _ y342 t346 t347 t348 _ (by first | with_reducible exact HL_ | ((repeat with_reducible apply LaidAt.drewN); with_reducible exact HL_) | exact LaidAt.below HL_ (by repeat (first | (with_reducible first | exact HB.out | apply below_alloc | apply pw_below_drewN | apply below_drew1) | exact HB.out))) ?side1 ?side2 ?side3 ?side4 A8.out).mono ?_); (case side1 => repeat (first | exact (Kd.R_reads' HO333.out).2.2 | (with_reducible refine Kd.C_alloc ?_ _) | (with_reducible refine Kd.C_drewN ?_ _) | (with_reducible refine Kd.C_drew ?_))); (case side2 => exact (Kd.R_reads' HO333.out).2.1); (case side3 => repeat (first | exact (by repeat (first | (with_reducible exact HR345.out) | (with_reducible refine Kd.C_alloc ?_ _) | (with_reducible refine Kd.C_drewN ?_ _) | (with_reducible refine Kd.C_drew ?_) | exact HR345.out)) | (with_reducible refine Kd.C_alloc ?_ _) | (with_reducible refine Kd.C_drewN ?_ _) | (with_reducible refine Kd.C_drew ?_))); (case side4 => exact HC345.out); rintro e w18 ⟨v349, rfl, ho0, hb⟩; refine ⟨_, rfl, ?_⟩; have n0_ := Aside0.mk (Kd.R_elder' (by (with_reducible repeat (first | apply Kd.R_alloc | apply Kd.R_drewN | apply Kd.R_drew)); exact HO333.out) (Kd.R_base ho0) hb); have n1_ := Aside0.mk (Kd.R_below (by (with_reducible repeat (first | apply Kd.R_alloc | apply Kd.R_drewN | apply Kd.R_drew)); exact HO335.out) hb); have n2_ := Aside0.mk (Kd.R_elder' (by (with_reducible repeat (first | apply Kd.R_alloc | apply Kd.R_drewN | apply Kd.R_drew)); exact HO341.out) (Kd.R_base ho0) hb); have n3_ := Aside0.mk (Kd.R_lower (Kd.R_new' (Kd.R_new' ho0 (Kd.R_lt (by (with_reducible repeat (first | apply Kd.R_alloc | apply Kd.R_drewN | apply Kd.R_drew)); exact HO333.out))) (Kd.R_lt (by (with_reducible repeat (first | apply Kd.R_alloc | apply Kd.R_drewN | apply Kd.R_drew)); exact HO341.out))) (below_size (by repeat (first | (with_reducible first | exact HB.out | apply below_alloc | apply pw_below_drewN | apply below_drew1) | exact HB.out)))); have n4_ := Aside0.mk (Kd.C_below (by repeat (first | (with_reducible exact HR345.out) | (with_reducible refine Kd.C_alloc ?_ _) | (with_reducible refine Kd.C_drewN ?_ _) | (with_reducible refine Kd.C_drew ?_) | exact HR345.out)) hb); have n5_ := Aside0.mk (below_step (by repeat (first | (with_reducible first | exact HB.out | apply below_alloc | apply pw_below_drewN | apply below_drew1) | exact HB.out)) hb); clear HO333; clear HO335; clear HO341; clear HR345; clear HB; have HO333 := n0_; have HO335 := n1_; have HO341 := n2_; have HO350 := n3_; have HR345 := n4_; have HB := n5_; clear n0_ n1_ n2_ n3_ n4_ n5_; (try clear hb); (try clear hb2); (try clear hk); (try clear hi); (try clear ho0); have q19 : (t336 : Int) ≤ ((t331.length : Int) : Int) := of_decide_eq_true (by first | (with_reducible assumption) | assumption); obtain ⟨i019, hi019, _, hsz19, _⟩ := info_parts info38; have hroom19 : t331.length ≤ co14 := (Kd.R_reads' HO335.out).2.1; have hC19 : Kd.C k38 _ Ao14 t331.length t331 := (Kd.R_reads' HO335.out).2.2; have q019 : (0 : Int) ≤ (t336 : Int) := of_decide_eq_true (by first | (with_reducible assumption) | assumption); have hcut19 := cut_from (P := Tryd.prog) 23 38 .i64 Tryd.underlying23 hi019 7 hsz19 Ao14 t331.length co14 t336 q019 q19; have hr19 := Kd.C_drop (m := (t336 : Int).toNat) (c := co14) hC19 (by omega) hroom19; obtain ⟨A19, hA19⟩ : ∃ A1, A1 = (if co14 = (t336 : Int).toNat then Ao14 else (Ao14 : Option Addr).map (·.add ((t336 : Int).toNat * 7))) := ⟨_, rfl⟩; obtain ⟨c19, hc19⟩ : ∃ c1, c1 = co14 - (t336 : Int).toNat := ⟨_, rfl⟩; have hy19 : y351.length = t331.length - (t336 : Int).toNat := (by rw [Ny351.out, List.length_drop] <;> omega); rw [show (t331).drop (t336 : Int).toNat = y351 from Ny351.out.symm] at hr19; replace hr19 : Kd.C k38 _ A19 y351.length y351 := (by rw [hA19]; exact hr19); rw [← hy19, ← hA19, ← hc19] at hcut19; have HR354 := Aside0.mk hr19; have HC354 := Aside0.mk (show y351.length ≤ c19 from by rw [hy19, hc19]; exact Nat.sub_le_sub_right hroom19 _); clear hr19 hC19 hroom19 hi019 hsz19 hc19; have KY19 := Aside0.mk hy19; have KA19 := Aside0.mk hA19; clear hy19 hA19; have KL19 := Aside0.mk (show (t336 : Int).toNat ≤ t331.length from by omega); replace q19 := eq_true q19; obtain ⟨Ao20, co20, eo20⟩ := Kd.R_slice HO350.out; subst eo20) | ((with_reducible refine gate_callee (f := 15) rfl ?_); refine goesL_ (some 49) rfl rfl Tryd.func15 (by kernel_rfl) rfl #[.int .i64 50, .slice Ao20 t347.length co20, .slice A19 y351.length c19] rfl (by (try simp only [List.map_toArray, List.map_cons, List.map_nil]); first | done | rfl | (simp only [List.length_drop, List.length_take]; rfl)) ?_; (with_reducible refine (word_Of.calls 50 _ _ t347 _ _ y351 t355 t356 t357 _ (by first | with_reducible exact HL_ | ((repeat with_reducible apply LaidAt.drewN); with_reducible exact HL_) | exact LaidAt.below HL_ (by repeat (first | (with_reducible first | exact HB.out | apply below_alloc | apply pw_below_drewN | apply below_drew1) | exact HB.out))) ?side1 ?side2 ?side3 ?side4 A11.out).mono ?_); (case side1 => repeat (first | exact (Kd.R_reads' HO350.out).2.2 | (with_reducible refine Kd.C_alloc ?_ _) | (with_reducible refine Kd.C_drewN ?_ _) | (with_reducible refine Kd.C_drew ?_))); (case side2 => exact (Kd.R_reads' HO350.out).2.1); (case side3 => repeat (first | exact (by repeat (first | (with_reducible exact HR354.out) | (with_reducible refine Kd.C_alloc ?_ _) | (with_reducible refine Kd.C_drewN ?_ _) | (with_reducible refine Kd.C_drew ?_) | exact HR354.out)) | (with_reducible refine Kd.C_alloc ?_ _) | (with_reducible refine Kd.C_drewN ?_ _) | (with_reducible refine Kd.C_drew ?_))); (case side4 => exact HC354.out); rintro e w21 ⟨v358, rfl, ho0, hb⟩; refine ⟨_, rfl, ?_⟩; have n0_ := Aside0.mk (Kd.R_elder' (by (with_reducible repeat (first | apply Kd.R_alloc | apply Kd.R_drewN | apply Kd.R_drew)); exact HO333.out) (Kd.R_base ho0) hb); have n1_ := Aside0.mk (Kd.R_below (by (with_reducible repeat (first | apply Kd.R_alloc | apply Kd.R_drewN | apply Kd.R_drew)); exact HO335.out) hb); have n2_ := Aside0.mk (Kd.R_elder' (by (with_reducible repeat (first | apply Kd.R_alloc | apply Kd.R_drewN | apply Kd.R_drew)); exact HO341.out) (Kd.R_base ho0) hb); have n3_ := Aside0.mk (Kd.R_elder' (by (with_reducible repeat (first | apply Kd.R_alloc | apply Kd.R_drewN | apply Kd.R_drew)); exact HO350.out) (Kd.R_base ho0) hb); have n4_ := Aside0.mk (Kd.R_lower (Kd.R_new' (Kd.R_new' (Kd.R_new' ho0 (Kd.R_lt (by (with_reducible repeat (first | apply Kd.R_alloc | apply Kd.R_drewN | apply Kd.R_drew)); exact HO333.out))) (Kd.R_lt (by (with_reducible repeat (first | apply Kd.R_alloc | apply Kd.R_drewN | apply Kd.R_drew)); exact HO341.out))) (Kd.R_lt (by (with_reducible repeat (first | apply Kd.R_alloc | apply Kd.R_drewN | apply Kd.R_drew)); exact HO350.out))) (below_size (by repeat (first | (with_reducible first | exact HB.out | apply below_alloc | apply pw_below_drewN | apply below_drew1) | exact HB.out)))); have n5_ := Aside0.mk (Kd.C_below (by repeat (first | (with_reducible exact HR345.out) | (with_reducible refine Kd.C_alloc ?_ _) | (with_reducible refine Kd.C_drewN ?_ _) | (with_reducible refine Kd.C_drew ?_) | exact HR345.out)) hb); have n6_ := Aside0.mk (Kd.C_below (by repeat (first | (with_reducible exact HR354.out) | (with_reducible refine Kd.C_alloc ?_ _) | (with_reducible refine Kd.C_drewN ?_ _) | (with_reducible refine Kd.C_drew ?_) | exact HR354.out)) hb); have n7_ := Aside0.mk (below_step (by repeat (first | (with_reducible first | exact HB.out | apply below_alloc | apply pw_below_drewN | apply below_drew1) | exact HB.out)) hb); clear HO333; clear HO335; clear HO341; clear HO350; clear HR345; clear HR354; clear HB; have HO333 := n0_; have HO335 := n1_; have HO341 := n2_; have HO350 := n3_; have HO359 := n4_; have HR345 := n5_; have HR354 := n6_; have HB := n7_; clear n0_ n1_ n2_ n3_ n4_ n5_ n6_ n7_; (try clear hb); (try clear hb2); (try clear hk); (try clear hi); (try clear ho0)))
   (try simp only [Act.put, List.setIfInBounds_toArray, List.set_cons_zero, List.set_cons_succ])
   go_cut [68] (fun v68 wc => ∃ (kq : Nat) (x68_11 : Bool), v68 = .bool x68_11 ∧ Aside0 (tipstafflaw33_WordParts.j0 kq t337 t346 t355 x68_11 = some r) ∧ Aside0 (kq ≤ k) ∧ Aside0 (Below w.heap.size w wc))
   case first =>
    have H := HC12.out
    clear HC12
    by_cases c22 : t339 = 0
    ·rw [if_pos c22] at H
     have c22b0 : (t339 == 0) = true := beq_iff_eq.mpr c22
     have c22b1 : (t339 != 0) = false := bne_eq_false_iff_eq.mpr c22
     clear c22
     (first | rw [c22b0] | (simp only [i64_w, i32_w]; rw [c22b0]) | skip)
     by_cases c23 : t348 = 0
     ·rw [if_pos c23] at H
      have c23b0 : (t348 == 0) = true := beq_iff_eq.mpr c23
      have c23b1 : (t348 != 0) = false := bne_eq_false_iff_eq.mpr c23
      clear c23
      by_cases c24 : t357 = 0
      ·rw [if_pos c24] at H
       have c24b0 : (t357 == 0) = true := beq_iff_eq.mpr c24
       have c24b1 : (t357 != 0) = false := bne_eq_false_iff_eq.mpr c24
       clear c24
       replace H := Option.bind_eq_some_iff.mp H
       obtain ⟨t360, A250, H⟩ := H
       replace H : (tipstafflaw33_WordParts.j0 k t337 t346 t355 (!t360)) = some r := H
       have A25 := Aside0.mk A250
       clear A250
       have H' := Aside0.mk H
       clear H
       obtain ⟨Ao26, co26, eo26⟩ := Kd.R_slice HO341.out
       subst eo26
       obtain ⟨Ao27, co27, eo27⟩ := Kd.R_slice HO359.out
       subst eo27
       go_wp2_with (first | (go_at_call 17; (with_reducible refine (tipstaffkit_SameInts.calls k _ _ t338 _ _ t356 t360 _ ?side1 ?side2 ?side3 ?side4 A25.out).mono ?_); (case side1 => repeat (first | exact (Kd.R_reads' HO341.out).2.2 | (with_reducible refine Kd.C_alloc ?_ _) | (with_reducible refine Kd.C_drewN ?_ _) | (with_reducible refine Kd.C_drew ?_))); (case side2 => exact (Kd.R_reads' HO341.out).2.1); (case side3 => repeat (first | exact (Kd.R_reads' HO359.out).2.2 | (with_reducible refine Kd.C_alloc ?_ _) | (with_reducible refine Kd.C_drewN ?_ _) | (with_reducible refine Kd.C_drew ?_))); (case side4 => exact (Kd.R_reads' HO359.out).2.1); rintro e w' ⟨rfl, ⟨nd, rfl⟩⟩))
       go_meet
       case rel => exact ⟨_, (!t360), (by first | rfl | (simp; done) | (simp [*]; done)), H', ⟨by first | omega | exact Nat.le_refl _⟩, ⟨by repeat (first | (with_reducible first | exact HB.out | apply below_alloc | apply pw_below_drewN | apply below_drew1) | exact HB.out)⟩⟩
      ·rw [if_neg c24] at H
       have c24b0 : (t357 == 0) = false := beq_eq_false_iff_ne.mpr c24
       have c24b1 : (t357 != 0) = true := bne_iff_ne.mpr c24
       have H' := Aside0.mk H
       clear H
       go_wp2
       go_meet
       case rel => exact ⟨_, (true), (by first | rfl | (simp; done) | (simp [*]; done)), H', ⟨by first | omega | exact Nat.le_refl _⟩, ⟨by repeat (first | (with_reducible first | exact HB.out | apply below_alloc | apply pw_below_drewN | apply below_drew1) | exact HB.out)⟩⟩
     ·rw [if_neg c23] at H
      have c23b0 : (t348 == 0) = false := beq_eq_false_iff_ne.mpr c23
      have c23b1 : (t348 != 0) = true := bne_iff_ne.mpr c23
      have H' := Aside0.mk H
      clear H
      go_wp2
      go_meet
      case rel => exact ⟨_, (true), (by first | rfl | (simp; done) | (simp [*]; done)), H', ⟨by first | omega | exact Nat.le_refl _⟩, ⟨by repeat (first | (with_reducible first | exact HB.out | apply below_alloc | apply pw_below_drewN | apply below_drew1) | exact HB.out)⟩⟩
    ·rw [if_neg c22] at H
     have c22b0 : (t339 == 0) = false := beq_eq_false_iff_ne.mpr c22
     have c22b1 : (t339 != 0) = true := bne_iff_ne.mpr c22
     (first | rw [c22b0] | (simp only [i64_w, i32_w]; rw [c22b0]) | skip)
     have H' := Aside0.mk H
     clear H
     go_wp2
     go_meet
     case rel => exact ⟨_, (true), (by first | rfl | (simp; done) | (simp [*]; done)), H', ⟨by first | omega | exact Nat.le_refl _⟩, ⟨by repeat (first | (with_reducible first | exact HB.out | apply below_alloc | apply pw_below_drewN | apply below_drew1) | exact HB.out)⟩⟩
   case rest =>
    clear HC12
    try clear c1
    try clear q1
    try clear c2
    try clear p2
    try clear c5
    try clear c6
    try clear c6b0
    try clear c6b1
    try clear p6
    try clear c7
    try clear c7b0
    try clear c7b1
    try clear c9
    try clear c9b0
    try clear c10
    try clear c10b0
    try clear c15
    try clear q17
    try clear c19
    try clear q19
    try clear c20
    try clear c22
    try clear c22b0
    try clear c22b1
    try clear c23
    try clear c23b0
    try clear c23b1
    try clear c24
    try clear c24b0
    try clear c24b1
    try clear q019
    try clear q17
    try clear q19
    obtain ⟨kq, x68_11, rfl, HA, HJ11, HB⟩ := hcut
    cases kq with
    | zero => exact absurd HA.out (by simp [tipstafflaw33_WordParts.j0])
    | succ kj11 =>
     have H := HA.out
     clear HA
     simp only [tipstafflaw33_WordParts.j0] at H
     by_cases c28 : x68_11 = true
     ·subst c28
      have H1 : (none) = some r := by rw [if_pos rfl] at H; exact H
      clear H
      have H := H1
      clear H1
      exact absurd H (by simp)
     ·replace c28 := Bool.eq_false_iff.mpr c28
      subst c28
      have H1 : ((word_Merge.f kj11 t346 t355 3).bind fun bt361 => (if bt361.2 = 0 then (if bt361.1 = t337 then ((tipstafflaw33_awake.f kj11).bind fun t363 => (some t363)) else (none)) else (none))) = some r := by rw [if_neg (show ¬ (false = true) by decide)] at H; exact H
      clear H
      have H := H1
      clear H1
      replace H := Option.bind_eq_some_iff.mp H
      obtain ⟨⟨t361, t362⟩, A290, H⟩ := H
      replace H : (if t362 = 0 then (if t361 = t337 then ((tipstafflaw33_awake.f kj11).bind fun t363 => (some t363)) else (none)) else (none)) = some r := H
      have A29 := Aside0.mk A290
      clear A290
      by_cases c30 : t362 = 0
      ·rw [if_pos c30] at H
       have c30b0 : (t362 == 0) = true := beq_iff_eq.mpr c30
       have c30b1 : (t362 != 0) = false := bne_eq_false_iff_eq.mpr c30
       clear c30
       by_cases c31 : t361 = t337
       ·rw [if_pos c31] at H
        have c31b0 : (t361 == t337) = true := beq_iff_eq.mpr c31
        have c31b1 : (t361 != t337) = false := bne_eq_false_iff_eq.mpr c31
        clear c31
        replace H := Option.bind_eq_some_iff.mp H
        obtain ⟨t363, A320, H⟩ := H
        replace H : (some t363) = some r := H
        have A32 := Aside0.mk A320
        clear A320
        obtain rfl := Option.some.inj H
        go_wp2_with (first | ((with_reducible refine gate_callee (f := 21) rfl ?_); refine goesL_ (some 72) rfl rfl Tryd.func21 (by kernel_rfl) rfl #[.int .i64 t346, .int .i64 t355, .int .i64 3] rfl (by (try simp only [List.map_toArray, List.map_cons, List.map_nil]); first | done | rfl | (simp only [List.length_drop, List.length_take]; rfl)) ?_; (with_reducible refine (word_Merge.calls kj11 t346 t355 3 t361 t362 _ A29.out).mono ?_); rintro e w33 ⟨rfl, hb⟩; refine ⟨_, rfl, ?_⟩; have n2_ := Aside0.mk (below_step (by repeat (first | (with_reducible first | exact HB.out | apply below_alloc | apply pw_below_drewN | apply below_drew1) | exact HB.out)) hb); clear HB; have HB := n2_; clear n2_; (try clear hb); (try clear hb2); (try clear hk); (try clear hi)) | (go_at_call 12; (with_reducible refine (tipstafflaw33_awake.calls kj11  t363 _ (by first | with_reducible exact HL_ | ((repeat with_reducible apply LaidAt.drewN); with_reducible exact HL_) | exact LaidAt.below HL_ (by repeat (first | (with_reducible first | exact HB.out | apply below_alloc | apply pw_below_drewN | apply below_drew1) | exact HB.out))) A32.out).mono ?_); rintro e w34 ⟨rfl, hb⟩; have n2_ := Aside0.mk (below_step (by repeat (first | (with_reducible first | exact HB.out | apply below_alloc | apply pw_below_drewN | apply below_drew1) | exact HB.out)) hb); clear HB; have HB := n2_; clear n2_; (try clear hb); (try clear hb2); (try clear hk); (try clear hi)))
        go_ret
        exact ⟨by first | rfl | (simp [errW_none, errW_some] <;> rfl) | (simp [*, errW_none, errW_some] <;> rfl) | (simp (discharger := omega) only [Int.tdiv_eq_ediv_of_nonneg, Int.tmod_eq_emod_of_nonneg] <;> rfl), by repeat (first | (with_reducible first | exact HB.out | apply below_alloc | apply pw_below_drewN | apply below_drew1) | exact HB.out)⟩
       ·rw [if_neg c31] at H
        exact absurd H (by simp)
      ·rw [if_neg c30] at H
       exact absurd H (by simp)
  ·rw [if_neg c7] at H
   exact absurd H (by simp)
 ·rw [if_neg c6] at H
  exact absurd H (by simp)

/-- THE ONE PURE STATEMENT of tipstafflaw33_WordParts: yours. -/
def tipstafflaw33_WordParts.Pure : Prop := ∀ (l0 : List Int) (a1 : Int), l0.length ≤ maxLen → l0.length * 8 ≤ 140737488351232 → (∀ x ∈ l0, (Lit.int .i64 x).wf = true) → (Lit.int .i64 a1).wf = true → ∃ k, tipstafflaw33_WordParts.f k l0 a1 = some true
theorem tipstafflaw33_WordParts.walk (P : tipstafflaw33_WordParts.Pure) (a0 : Option Addr) (len0 cap0 : Nat) (z0 : List Int) (a1 : Int) (w : World) (HL_ : LaidAt w) (w0 : (a0 = none ∧ len0 = 0 ∧ cap0 = 0 ∧ z0 = []) ∨ ∃ x, a0 = some x ∧ len0 ≤ cap0 ∧ cap0 ≤ maxLen ∧ z0.length = cap0 ∧ (∀ i, i < z0.length → w.cell? (x.add i) = some (.int .i64 (z0.getD i 0))) ∧ ∀ n ∈ z0, (Lit.int .i64 n).wf = true) (y0 : len0 * 8 ≤ 140737488351232) (w1 : (Lit.int .i64 a1).wf = true) :
  Calls Tryd.prog 5 #[.slice a0 len0 cap0, .int .i64 a1] w fun e w' => e = .returned (.bool true) ∧ Below w.heap.size w w' := by
 obtain ⟨l0, rfl, hr0, hm0, hw0, hc0⟩ := ReadsInt.ofRowC w0
 obtain ⟨k, h⟩ := P l0 a1 hm0 y0 hw0 w1
 refine (tipstafflaw33_WordParts.calls k _ _ l0 a1 true w HL_ (Kd.C_of_reads (d := (0 : Int)) (h1 := fun _ => rfl) hr0) hc0 h).mono ?_
 rintro e w' ⟨rfl, hd⟩
 exact ⟨rfl, hd⟩

end Go.Proofs.YtbcmlgbhejcjbaaDoor.S
