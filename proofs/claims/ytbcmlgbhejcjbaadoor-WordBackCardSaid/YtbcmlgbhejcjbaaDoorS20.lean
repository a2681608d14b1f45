-- PRINTED by print.py (a twelfth state) out of the translation. Not trusted: Lean checks it.
import Derived.Test.YtbcmlgbhejcjbaaDoorS0
import Derived.Test.YtbcmlgbhejcjbaaDoorS3
import Derived.Test.YtbcmlgbhejcjbaaDoorS8
import Derived.Test.YtbcmlgbhejcjbaaDoorS10
import Derived.Test.YtbcmlgbhejcjbaaDoorS14
import Derived.Test.YtbcmlgbhejcjbaaDoorS17
import Derived.Test.YtbcmlgbhejcjbaaDoorHparse
namespace Go.Proofs.YtbcmlgbhejcjbaaDoor.S
open Go.RowKit Go.Proofs.YtbcmlgbhejcjbaaDoorW.PrintWords Go.Proofs.YtbcmlgbhejcjbaaDoorW.PrintLast Go.Proofs.YtbcmlgbhejcjbaaDoorW.PrintMore
attribute [local go_sem] Go.Proofs.YtbcmlgbhejcjbaaDoorW.PrintXtra.isSome_setCell max2_int min2_int max_two min_two max_three min_three max_four min_four   -- for this text's walks alone
set_option linter.unusedVariables false
set_option linter.unusedSimpArgs false

/-! ### tipstafflaw33_WordBack: function 9 -/
def tipstafflaw33_WordBack.j0 : Nat → Int → Int → Int → Bool → Option (Bool)
 | 0, _, _, _, _ => none
 | k + 1, x7, x8, x9, x90 => if x90 = true then (none) else ((word_Merge.f k x8 x9 x7).bind fun bt534 => ((word_Merge.f k x9 x8 x7).bind fun bt536 => ((word_Differ.f k x8 x8 x7).bind fun bt538 => ((word_Differ.f k x8 x9 x7).bind fun bt542 => ((word_Make.f k bt542.1 x7).bind fun bt546 => (if bt534.2 = 0 then (if bt536.2 = 0 then (if bt538.2 = 0 then (if bt542.2 = 0 then (if bt546.2 = 0 then (if bt534.1 = bt536.1 then (if bt534.1 = (Go.bits .or .i64 x8 x9) then (if (bt538.1.length : Int) = 0 then (if bt546.1 = (Go.bits .xor .i64 x8 x9) then ((tipstafflaw33_awake.f k).bind fun t548 => (some t548)) else (none)) else (none)) else (none)) else (none)) else (none)) else (none)) else (none)) else (none)) else (none)))))))
def tipstafflaw33_WordBack.f (k : Nat) (a0 : Int) (a1 : Int) (a2 : Int) : Option (Bool) := (tipstaffkit_Mod.f a2 8).bind fun t520 => (if 0 ≤ (IntKind.u64.wrap (wrap64 (1 + t520))) then ((tipstaffkit_Mod.f a0 (shl .i64 1 (IntKind.u64.wrap (wrap64 (1 + t520))))).bind fun t521 => ((tipstaffkit_Mod.f a1 (shl .i64 1 (IntKind.u64.wrap (wrap64 (1 + t520))))).bind fun t522 => ((word_Cars.f k t521 (wrap64 (1 + t520))).bind fun bt523 => ((word_Make.f k bt523.1 (wrap64 (1 + t520))).bind fun bt527 => ((word_Text.f k t521 (wrap64 (1 + t520))).bind fun bt529 => ((word_Parse.f bt529.1).bind fun bt531 => (if bt523.2 = 0 then (if bt527.2 = 0 then (if bt529.2 = 0 then (if bt531.2.2 = 0 then (if bt527.1 = t521 then (if bt531.1 = t521 then (tipstafflaw33_WordBack.j0 k (wrap64 (1 + t520)) t521 t522 (bt531.2.1 != (wrap64 (1 + t520)))) else (tipstafflaw33_WordBack.j0 k (wrap64 (1 + t520)) t521 t522 true)) else (tipstafflaw33_WordBack.j0 k (wrap64 (1 + t520)) t521 t522 true)) else (tipstafflaw33_WordBack.j0 k (wrap64 (1 + t520)) t521 t522 true)) else (tipstafflaw33_WordBack.j0 k (wrap64 (1 + t520)) t521 t522 true)) else (tipstafflaw33_WordBack.j0 k (wrap64 (1 + t520)) t521 t522 true)) else (tipstafflaw33_WordBack.j0 k (wrap64 (1 + t520)) t521 t522 true)))))))) else (none))
theorem tipstafflaw33_WordBack.mono_l : ∀ k, (∀ y0 y1 y2 y3, LeO (tipstafflaw33_WordBack.j0 k y0 y1 y2 y3) (tipstafflaw33_WordBack.j0 (k + 1) y0 y1 y2 y3))
 | 0 => fun _ _ _ _ r h => by simp [tipstafflaw33_WordBack.j0] at h
 | k + 1 => by
  have ih0 := tipstafflaw33_WordBack.mono_l k
  ·intro y0 y1 y2 y3
   unfold tipstafflaw33_WordBack.j0
   repeat' first
   | (with_reducible exact ih0 _ _ _ _)
   | (with_reducible exact tipstafflaw33_awake.mono _)
   | (with_reducible exact word_Cars.mono _ _ _)
   | (with_reducible exact word_Differ.mono _ _ _ _)
   | (with_reducible exact word_Make.mono _ _ _)
   | (with_reducible exact word_Merge.mono _ _ _ _)
   | (with_reducible exact word_Text.mono _ _ _)
   | (with_reducible exact LeO.refl _)
   | (with_reducible exact LeO.none _)
   | (with_reducible refine LeO.ite ?_ ?_)
   | (with_reducible refine LeO.bind ?_ (fun _ => ?_))
   | exact ih0 _ _ _ _
   | exact tipstafflaw33_awake.mono _
   | exact word_Cars.mono _ _ _
   | exact word_Differ.mono _ _ _ _
   | exact word_Make.mono _ _ _
   | exact word_Merge.mono _ _ _ _
   | exact word_Text.mono _ _ _
   | exact LeO.none _
   | refine LeO.ite ?_ ?_
   | refine LeO.bind ?_ (fun _ => ?_)
theorem tipstafflaw33_WordBack.mono : ∀ a0 a1 a2 k, LeO (tipstafflaw33_WordBack.f k a0 a1 a2) (tipstafflaw33_WordBack.f (k + 1) a0 a1 a2) := by
 intro a0 a1 a2 k
 have ih0 := tipstafflaw33_WordBack.mono_l k
 unfold tipstafflaw33_WordBack.f
 repeat' first
   | (with_reducible exact ih0 _ _ _ _)
   | (with_reducible exact tipstafflaw33_awake.mono _)
   | (with_reducible exact word_Cars.mono _ _ _)
   | (with_reducible exact word_Differ.mono _ _ _ _)
   | (with_reducible exact word_Make.mono _ _ _)
   | (with_reducible exact word_Merge.mono _ _ _ _)
   | (with_reducible exact word_Text.mono _ _ _)
   | (with_reducible exact LeO.refl _)
   | (with_reducible exact LeO.none _)
   | (with_reducible refine LeO.ite ?_ ?_)
   | (with_reducible refine LeO.bind ?_ (fun _ => ?_))
   | exact ih0 _ _ _ _
   | exact tipstafflaw33_awake.mono _
   | exact word_Cars.mono _ _ _
   | exact word_Differ.mono _ _ _ _
   | exact word_Make.mono _ _ _
   | exact word_Merge.mono _ _ _ _
   | exact word_Text.mono _ _ _
   | exact LeO.none _
   | refine LeO.ite ?_ ?_
   | refine LeO.bind ?_ (fun _ => ?_)
set_option maxHeartbeats 8000000 in
set_option maxRecDepth 100000 in
theorem tipstafflaw33_WordBack.calls (k : Nat) (a0 : Int) (a1 : Int) (a2 : Int) (r : Bool) (w : World) (HL_ : LaidAt w) (h : tipstafflaw33_WordBack.f k a0 a1 a2 = some r) :
  Calls Tryd.prog 9 #[.int .i64 a0, .int .i64 a1, .int .i64 a2] w fun e w' => e = .returned (.bool r) ∧ Below w.heap.size w w' := by
 have HB := Aside0.mk (Below.refl w.heap.size w)
 have H : ((tipstaffkit_Mod.f a2 8).bind fun t520 => (if 0 ≤ (IntKind.u64.wrap (wrap64 (1 + t520))) then ((tipstaffkit_Mod.f a0 (shl .i64 1 (IntKind.u64.wrap (wrap64 (1 + t520))))).bind fun t521 => ((tipstaffkit_Mod.f a1 (shl .i64 1 (IntKind.u64.wrap (wrap64 (1 + t520))))).bind fun t522 => ((word_Cars.f k t521 (wrap64 (1 + t520))).bind fun bt523 => ((word_Make.f k bt523.1 (wrap64 (1 + t520))).bind fun bt527 => ((word_Text.f k t521 (wrap64 (1 + t520))).bind fun bt529 => ((word_Parse.f bt529.1).bind fun bt531 => (if bt523.2 = 0 then (if bt527.2 = 0 then (if bt529.2 = 0 then (if bt531.2.2 = 0 then (if bt527.1 = t521 then (if bt531.1 = t521 then (tipstafflaw33_WordBack.j0 k (wrap64 (1 + t520)) t521 t522 (bt531.2.1 != (wrap64 (1 + t520)))) else (tipstafflaw33_WordBack.j0 k (wrap64 (1 + t520)) t521 t522 true)) else (tipstafflaw33_WordBack.j0 k (wrap64 (1 + t520)) t521 t522 true)) else (tipstafflaw33_WordBack.j0 k (wrap64 (1 + t520)) t521 t522 true)) else (tipstafflaw33_WordBack.j0 k (wrap64 (1 + t520)) t521 t522 true)) else (tipstafflaw33_WordBack.j0 k (wrap64 (1 + t520)) t521 t522 true)) else (tipstafflaw33_WordBack.j0 k (wrap64 (1 + t520)) t521 t522 true)))))))) else (none))) = some r := h
 clear h
 replace H := Option.bind_eq_some_iff.mp H
 obtain ⟨t520, A40, H⟩ := H
 replace H : (if 0 ≤ (IntKind.u64.wrap (wrap64 (1 + t520))) then ((tipstaffkit_Mod.f a0 (shl .i64 1 (IntKind.u64.wrap (wrap64 (1 + t520))))).bind fun t521 => ((tipstaffkit_Mod.f a1 (shl .i64 1 (IntKind.u64.wrap (wrap64 (1 + t520))))).bind fun t522 => ((word_Cars.f k t521 (wrap64 (1 + t520))).bind fun bt523 => ((word_Make.f k bt523.1 (wrap64 (1 + t520))).bind fun bt527 => ((word_Text.f k t521 (wrap64 (1 + t520))).bind fun bt529 => ((word_Parse.f bt529.1).bind fun bt531 => (if bt523.2 = 0 then (if bt527.2 = 0 then (if bt529.2 = 0 then (if bt531.2.2 = 0 then (if bt527.1 = t521 then (if bt531.1 = t521 then (tipstafflaw33_WordBack.j0 k (wrap64 (1 + t520)) t521 t522 (bt531.2.1 != (wrap64 (1 + t520)))) else (tipstafflaw33_WordBack.j0 k (wrap64 (1 + t520)) t521 t522 true)) else (tipstafflaw33_WordBack.j0 k (wrap64 (1 + t520)) t521 t522 true)) else (tipstafflaw33_WordBack.j0 k (wrap64 (1 + t520)) t521 t522 true)) else (tipstafflaw33_WordBack.j0 k (wrap64 (1 + t520)) t521 t522 true)) else (tipstafflaw33_WordBack.j0 k (wrap64 (1 + t520)) t521 t522 true)) else (tipstafflaw33_WordBack.j0 k (wrap64 (1 + t520)) t521 t522 true)))))))) else (none)) = some r := H
 have A4 := Aside0.mk A40
 clear A40
 obtain ⟨ji5, hji5⟩ : ∃ j_ : Int, (IntKind.u64.wrap (wrap64 (1 + t520))) = j_ := ⟨_, rfl⟩
 replace H : (if 0 ≤ (ji5) then ((tipstaffkit_Mod.f a0 (shl .i64 1 (ji5))).bind fun t521 => ((tipstaffkit_Mod.f a1 (shl .i64 1 (ji5))).bind fun t522 => ((word_Cars.f k t521 (wrap64 (1 + t520))).bind fun bt523 => ((word_Make.f k bt523.1 (wrap64 (1 + t520))).bind fun bt527 => ((word_Text.f k t521 (wrap64 (1 + t520))).bind fun bt529 => ((word_Parse.f bt529.1).bind fun bt531 => (if bt523.2 = 0 then (if bt527.2 = 0 then (if bt529.2 = 0 then (if bt531.2.2 = 0 then (if bt527.1 = t521 then (if bt531.1 = t521 then (tipstafflaw33_WordBack.j0 k (wrap64 (1 + t520)) t521 t522 (bt531.2.1 != (wrap64 (1 + t520)))) else (tipstafflaw33_WordBack.j0 k (wrap64 (1 + t520)) t521 t522 true)) else (tipstafflaw33_WordBack.j0 k (wrap64 (1 + t520)) t521 t522 true)) else (tipstafflaw33_WordBack.j0 k (wrap64 (1 + t520)) t521 t522 true)) else (tipstafflaw33_WordBack.j0 k (wrap64 (1 + t520)) t521 t522 true)) else (tipstafflaw33_WordBack.j0 k (wrap64 (1 + t520)) t521 t522 true)) else (tipstafflaw33_WordBack.j0 k (wrap64 (1 + t520)) t521 t522 true)))))))) else (none)) = some r := by first | (rw [hji5] at H; exact H) | (simp only [hji5] at H ⊢; exact H)
 (try rw [hji5] at A4)
 by_cases c6 : 0 ≤ (ji5)
 ·rw [if_pos c6] at H
  have c6b0 := eq_true c6
  have c6b1 : decide (0 ≤ (ji5)) = true := decide_eq_true c6
  clear c6
  obtain ⟨ji7, hji7⟩ : ∃ j_ : Int, (shl .i64 1 (ji5)) = j_ := ⟨_, rfl⟩
  replace H : ((tipstaffkit_Mod.f a0 (ji7)).bind fun t521 => ((tipstaffkit_Mod.f a1 (ji7)).bind fun t522 => ((word_Cars.f k t521 (wrap64 (1 + t520))).bind fun bt523 => ((word_Make.f k bt523.1 (wrap64 (1 + t520))).bind fun bt527 => ((word_Text.f k t521 (wrap64 (1 + t520))).bind fun bt529 => ((word_Parse.f bt529.1).bind fun bt531 => (if bt523.2 = 0 then (if bt527.2 = 0 then (if bt529.2 = 0 then (if bt531.2.2 = 0 then (if bt527.1 = t521 then (if bt531.1 = t521 then (tipstafflaw33_WordBack.j0 k (wrap64 (1 + t520)) t521 t522 (bt531.2.1 != (wrap64 (1 + t520)))) else (tipstafflaw33_WordBack.j0 k (wrap64 (1 + t520)) t521 t522 true)) else (tipstafflaw33_WordBack.j0 k (wrap64 (1 + t520)) t521 t522 true)) else (tipstafflaw33_WordBack.j0 k (wrap64 (1 + t520)) t521 t522 true)) else (tipstafflaw33_WordBack.j0 k (wrap64 (1 + t520)) t521 t522 true)) else (tipstafflaw33_WordBack.j0 k (wrap64 (1 + t520)) t521 t522 true)) else (tipstafflaw33_WordBack.j0 k (wrap64 (1 + t520)) t521 t522 true)))))))) = some r := by first | (rw [hji7] at H; exact H) | (simp only [hji7] at H ⊢; exact H)
  (try rw [hji7] at A4)
  have hji7_ : (IntKind.i64.wrap (1 * 2 ^ min (ji5).toNat 64)) = ji7 := hji7
  have hji7z : (ji5) ≤ 64 → (IntKind.i64.wrap (1 * 2 ^ (ji5).toNat)) = ji7 := shl_small hji7
  have hji7u : (IntKind.i64.wrap (2 ^ min (ji5).toNat 64)) = ji7 := by have h_ := hji7_; rw [Int.one_mul] at h_; exact h_
  have hji7v : (ji5) ≤ 64 → (IntKind.i64.wrap (2 ^ (ji5).toNat)) = ji7 := fun hle_ => by have h_ := hji7z hle_; rw [Int.one_mul] at h_; exact h_
  have hji7y : (wrap64 (1 * 2 ^ min (ji5).toNat 64)) = ji7 := (i64_w _).symm.trans hji7_
  have hji7x : (ji5) ≤ 64 → (wrap64 (1 * 2 ^ (ji5).toNat)) = ji7 := fun h_ => (i64_w _).symm.trans (hji7z h_)
  replace H := Option.bind_eq_some_iff.mp H
  obtain ⟨t521, A80, H⟩ := H
  replace H : ((tipstaffkit_Mod.f a1 (ji7)).bind fun t522 => ((word_Cars.f k t521 (wrap64 (1 + t520))).bind fun bt523 => ((word_Make.f k bt523.1 (wrap64 (1 + t520))).bind fun bt527 => ((word_Text.f k t521 (wrap64 (1 + t520))).bind fun bt529 => ((word_Parse.f bt529.1).bind fun bt531 => (if bt523.2 = 0 then (if bt527.2 = 0 then (if bt529.2 = 0 then (if bt531.2.2 = 0 then (if bt527.1 = t521 then (if bt531.1 = t521 then (tipstafflaw33_WordBack.j0 k (wrap64 (1 + t520)) t521 t522 (bt531.2.1 != (wrap64 (1 + t520)))) else (tipstafflaw33_WordBack.j0 k (wrap64 (1 + t520)) t521 t522 true)) else (tipstafflaw33_WordBack.j0 k (wrap64 (1 + t520)) t521 t522 true)) else (tipstafflaw33_WordBack.j0 k (wrap64 (1 + t520)) t521 t522 true)) else (tipstafflaw33_WordBack.j0 k (wrap64 (1 + t520)) t521 t522 true)) else (tipstafflaw33_WordBack.j0 k (wrap64 (1 + t520)) t521 t522 true)) else (tipstafflaw33_WordBack.j0 k (wrap64 (1 + t520)) t521 t522 true))))))) = some r := H
  have A8 := Aside0.mk A80
  clear A80
  have c9b0 := eq_true (of_decide_eq_true (by first | (with_reducible assumption) | assumption) : 0 ≤ (ji5))
  have c10b0 := eq_true (of_decide_eq_true (by first | (with_reducible assumption) | assumption) : 0 ≤ ji5)
  replace H := Option.bind_eq_some_iff.mp H
  obtain ⟨t522, A110, H⟩ := H
  replace H : ((word_Cars.f k t521 (wrap64 (1 + t520))).bind fun bt523 => ((word_Make.f k bt523.1 (wrap64 (1 + t520))).bind fun bt527 => ((word_Text.f k t521 (wrap64 (1 + t520))).bind fun bt529 => ((word_Parse.f bt529.1).bind fun bt531 => (if bt523.2 = 0 then (if bt527.2 = 0 then (if bt529.2 = 0 then (if bt531.2.2 = 0 then (if bt527.1 = t521 then (if bt531.1 = t521 then (tipstafflaw33_WordBack.j0 k (wrap64 (1 + t520)) t521 t522 (bt531.2.1 != (wrap64 (1 + t520)))) else (tipstafflaw33_WordBack.j0 k (wrap64 (1 + t520)) t521 t522 true)) else (tipstafflaw33_WordBack.j0 k (wrap64 (1 + t520)) t521 t522 true)) else (tipstafflaw33_WordBack.j0 k (wrap64 (1 + t520)) t521 t522 true)) else (tipstafflaw33_WordBack.j0 k (wrap64 (1 + t520)) t521 t522 true)) else (tipstafflaw33_WordBack.j0 k (wrap64 (1 + t520)) t521 t522 true)) else (tipstafflaw33_WordBack.j0 k (wrap64 (1 + t520)) t521 t522 true)))))) = some r := H
  have A11 := Aside0.mk A110
  clear A110
  replace H := Option.bind_eq_some_iff.mp H
  obtain ⟨⟨t523, t524⟩, A120, H⟩ := H
  replace H : ((word_Make.f k t523 (wrap64 (1 + t520))).bind fun bt527 => ((word_Text.f k t521 (wrap64 (1 + t520))).bind fun bt529 => ((word_Parse.f bt529.1).bind fun bt531 => (if t524 = 0 then (if bt527.2 = 0 then (if bt529.2 = 0 then (if bt531.2.2 = 0 then (if bt527.1 = t521 then (if bt531.1 = t521 then (tipstafflaw33_WordBack.j0 k (wrap64 (1 + t520)) t521 t522 (bt531.2.1 != (wrap64 (1 + t520)))) else (tipstafflaw33_WordBack.j0 k (wrap64 (1 + t520)) t521 t522 true)) else (tipstafflaw33_WordBack.j0 k (wrap64 (1 + t520)) t521 t522 true)) else (tipstafflaw33_WordBack.j0 k (wrap64 (1 + t520)) t521 t522 true)) else (tipstafflaw33_WordBack.j0 k (wrap64 (1 + t520)) t521 t522 true)) else (tipstafflaw33_WordBack.j0 k (wrap64 (1 + t520)) t521 t522 true)) else (tipstafflaw33_WordBack.j0 k (wrap64 (1 + t520)) t521 t522 true))))) = some r := H
  have A12 := Aside0.mk A120
  clear A120
  replace H := Option.bind_eq_some_iff.mp H
  obtain ⟨⟨t527, t528⟩, A130, H⟩ := H
  replace H : ((word_Text.f k t521 (wrap64 (1 + t520))).bind fun bt529 => ((word_Parse.f bt529.1).bind fun bt531 => (if t524 = 0 then (if t528 = 0 then (if bt529.2 = 0 then (if bt531.2.2 = 0 then (if t527 = t521 then (if bt531.1 = t521 then (tipstafflaw33_WordBack.j0 k (wrap64 (1 + t520)) t521 t522 (bt531.2.1 != (wrap64 (1 + t520)))) else (tipstafflaw33_WordBack.j0 k (wrap64 (1 + t520)) t521 t522 true)) else (tipstafflaw33_WordBack.j0 k (wrap64 (1 + t520)) t521 t522 true)) else (tipstafflaw33_WordBack.j0 k (wrap64 (1 + t520)) t521 t522 true)) else (tipstafflaw33_WordBack.j0 k (wrap64 (1 + t520)) t521 t522 true)) else (tipstafflaw33_WordBack.j0 k (wrap64 (1 + t520)) t521 t522 true)) else (tipstafflaw33_WordBack.j0 k (wrap64 (1 + t520)) t521 t522 true)))) = some r := H
  have A13 := Aside0.mk A130
  clear A130
  replace H := Option.bind_eq_some_iff.mp H
  obtain ⟨⟨t529, t530⟩, A140, H⟩ := H
  replace H : ((word_Parse.f t529).bind fun bt531 => (if t524 = 0 then (if t528 = 0 then (if t530 = 0 then (if bt531.2.2 = 0 then (if t527 = t521 then (if bt531.1 = t521 then (tipstafflaw33_WordBack.j0 k (wrap64 (1 + t520)) t521 t522 (bt531.2.1 != (wrap64 (1 + t520)))) else (tipstafflaw33_WordBack.j0 k (wrap64 (1 + t520)) t521 t522 true)) else (tipstafflaw33_WordBack.j0 k (wrap64 (1 + t520)) t521 t522 true)) else (tipstafflaw33_WordBack.j0 k (wrap64 (1 + t520)) t521 t522 true)) else (tipstafflaw33_WordBack.j0 k (wrap64 (1 + t520)) t521 t522 true)) else (tipstafflaw33_WordBack.j0 k (wrap64 (1 + t520)) t521 t522 true)) else (tipstafflaw33_WordBack.j0 k (wrap64 (1 + t520)) t521 t522 true))) = some r := H
  have A14 := Aside0.mk A140
  clear A140
  replace H := Option.bind_eq_some_iff.mp H
  obtain ⟨⟨t531, t532, t533⟩, A150, H⟩ := H
  replace H : (if t524 = 0 then (if t528 = 0 then (if t530 = 0 then (if t533 = 0 then (if t527 = t521 then (if t531 = t521 then (tipstafflaw33_WordBack.j0 k (wrap64 (1 + t520)) t521 t522 (t532 != (wrap64 (1 + t520)))) else (tipstafflaw33_WordBack.j0 k (wrap64 (1 + t520)) t521 t522 true)) else (tipstafflaw33_WordBack.j0 k (wrap64 (1 + t520)) t521 t522 true)) else (tipstafflaw33_WordBack.j0 k (wrap64 (1 + t520)) t521 t522 true)) else (tipstafflaw33_WordBack.j0 k (wrap64 (1 + t520)) t521 t522 true)) else (tipstafflaw33_WordBack.j0 k (wrap64 (1 + t520)) t521 t522 true)) else (tipstafflaw33_WordBack.j0 k (wrap64 (1 + t520)) t521 t522 true)) = some r := H
  have A15 := Aside0.mk A150
  clear A150
  have HC16 := Aside0.mk H
  clear H
  go_enter Tryd.func9, Tryd.ntmps9
  go_upto_region 7 with (first | ((with_reducible refine gate_callee (f := 20) rfl ?_); refine goesL_ (some 26) rfl rfl Tryd.func20 (by kernel_rfl) rfl #[.int .i64 a2, .int .i64 8] rfl (by (try simp only [List.map_toArray, List.map_cons, List.map_nil]); first | done | rfl | (simp only [List.length_drop, List.length_take]; rfl)) ?_; (with_reducible refine (tipstaffkit_Mod.calls a2 8 t520 _ A4.out).mono ?_); rintro e w' ⟨rfl, ⟨nd, rfl⟩⟩; refine ⟨_, rfl, ?_⟩) | ((with_reducible refine gate_callee (f := 20) rfl ?_); refine goesL_ (some 32) rfl rfl Tryd.func20 (by kernel_rfl) rfl #[.int .i64 a0, .int .i64 ji7] rfl (by (try simp only [List.map_toArray, List.map_cons, List.map_nil]); first | done | (simp only [hji7]; rfl) | rfl | (simp only [List.length_drop, List.length_take]; rfl)) ?_; (with_reducible refine (tipstaffkit_Mod.calls a0 ji7 t521 _ A8.out).mono ?_); rintro e w' ⟨rfl, ⟨nd, rfl⟩⟩; refine ⟨_, rfl, ?_⟩) | ((with_reducible refine gate_callee (f := 20) rfl ?_); refine goesL_ (some 37) rfl rfl Tryd.func20 (by kernel_rfl) rfl #[.int .i64 a1, .int .i64 ji7] rfl (by (try simp only [List.map_toArray, List.map_cons, List.map_nil]); first | done | (simp only [hji7]; rfl) | rfl | (simp only [List.length_drop, List.length_take]; rfl)) ?_; (with_reducible refine (tipstaffkit_Mod.calls a1 ji7 t522 _ A11.out).mono ?_); rintro e w' ⟨rfl, ⟨nd, rfl⟩⟩; refine ⟨_, rfl, ?_⟩) | ((with_reducible refine gate_callee (f := 28) rfl ?_); refine goesL_ (some 41) rfl rfl Tryd.func28 (by kernel_rfl) rfl #[.int .i64 t521, .int .i64 (wrap64 (1 + t520))] rfl (by (try simp only [List.map_toArray, List.map_cons, List.map_nil]); first | done | rfl | (simp only [List.length_drop, List.length_take]; rfl)) ?_; (with_reducible refine (word_Cars.calls k t521 (wrap64 (1 + t520)) t523 t524 _ A12.out).mono ?_); rintro e w17 ⟨v525, rfl, ho0, hb⟩; refine ⟨_, rfl, ?_⟩; have n0_ := Aside0.mk (Kd.R_lower ho0 (below_size (by repeat (first | (with_reducible first | exact HB.out | apply below_alloc | apply pw_below_drewN | apply below_drew1) | exact HB.out)))); have n1_ := Aside0.mk (below_step (by repeat (first | (with_reducible first | exact HB.out | apply below_alloc | apply pw_below_drewN | apply below_drew1) | exact HB.out)) hb); clear HB; have HO526 := n0_; have HB := n1_; clear n0_ n1_; (try clear hb); (try clear hb2); (try clear hk); (try clear hi); (try clear ho0); obtain ⟨Ao18, co18, eo18⟩ := Kd.R_slice HO526.out; subst eo18) | ((with_reducible refine gate_callee (f := 24) rfl ?_); refine goesL_ (some 47) rfl rfl Tryd.func24 (by kernel_rfl) rfl #[.slice Ao18 t523.length co18, .int .i64 (wrap64 (1 + t520))] rfl (by (try simp only [List.map_toArray, List.map_cons, List.map_nil]); first | done | rfl | (simp only [List.length_drop, List.length_take]; rfl)) ?_; (with_reducible refine (word_Make.calls k _ _ t523 (wrap64 (1 + t520)) t527 t528 _ ?side1 ?side2 A13.out).mono ?_); (case side1 => repeat (first | exact (Kd.R_reads' HO526.out).2.2 | (with_reducible refine Kd.C_alloc ?_ _) | (with_reducible refine Kd.C_drewN ?_ _) | (with_reducible refine Kd.C_drew ?_))); (case side2 => exact (Kd.R_reads' HO526.out).2.1); rintro e w' ⟨rfl, ⟨nd, rfl⟩⟩; refine ⟨_, rfl, ?_⟩) | ((with_reducible refine gate_callee (f := 30) rfl ?_); refine goesL_ (some 53) rfl rfl Tryd.func30 (by kernel_rfl) rfl #[.int .i64 t521, .int .i64 (wrap64 (1 + t520))] rfl (by (try simp only [List.map_toArray, List.map_cons, List.map_nil]); first | done | rfl | (simp only [List.length_drop, List.length_take]; rfl)) ?_; (with_reducible refine (word_Text.calls k t521 (wrap64 (1 + t520)) t529 t530 _ A14.out).mono ?_); rintro e w19 ⟨rfl, hb⟩; refine ⟨_, rfl, ?_⟩; have n0_ := Aside0.mk (Kd.R_below (by (with_reducible repeat (first | apply Kd.R_alloc | apply Kd.R_drewN | apply Kd.R_drew)); exact HO526.out) hb); have n1_ := Aside0.mk (below_step (by repeat (first | (with_reducible first | exact HB.out | apply below_alloc | apply pw_below_drewN | apply below_drew1) | exact HB.out)) hb); clear HO526; clear HB; have HO526 := n0_; have HB := n1_; clear n0_ n1_; (try clear hb); (try clear hb2); (try clear hk); (try clear hi)) | ((with_reducible refine gate_callee (f := 26) rfl ?_); refine goesL_ (some 58) rfl rfl Tryd.func26 (by kernel_rfl) rfl #[.string t529] rfl (by (try simp only [List.map_toArray, List.map_cons, List.map_nil]); first | done | rfl | (simp only [List.length_drop, List.length_take]; rfl)) ?_; (with_reducible refine (word_Parse.calls t529 t531 t532 t533 _ A15.out).mono ?_); rintro e w20 ⟨rfl, hb⟩; refine ⟨_, rfl, ?_⟩; have n0_ := Aside0.mk (Kd.R_below (by (with_reducible repeat (first | apply Kd.R_alloc | apply Kd.R_drewN | apply Kd.R_drew)); exact HO526.out) hb); have n1_ := Aside0.mk (below_step (by repeat (first | (with_reducible first | exact HB.out | apply below_alloc | apply pw_below_drewN | apply below_drew1) | exact HB.out)) hb); clear HO526; clear HB; have HO526 := n0_; have HB := n1_; clear n0_ n1_; (try clear hb); (try clear hb2); (try clear hk); (try clear hi)))
  (try simp only [Act.put, List.setIfInBounds_toArray, List.set_cons_zero, List.set_cons_succ])
  go_cut [90] (fun v90 wc => ∃ (kq : Nat) (x90_15 : Bool), v90 = .bool x90_15 ∧ Aside0 (tipstafflaw33_WordBack.j0 kq (wrap64 (1 + t520)) t521 t522 x90_15 = some r) ∧ Aside0 (kq ≤ k) ∧ Aside0 (Below w.heap.size w wc))
  case first =>
   have H := HC16.out
   clear HC16
   by_cases c21 : t524 = 0
   ·rw [if_pos c21] at H
    have c21b0 : (t524 == 0) = true := beq_iff_eq.mpr c21
    have c21b1 : (t524 != 0) = false := bne_eq_false_iff_eq.mpr c21
    clear c21
    (first | rw [c21b0] | (simp only [i64_w, i32_w]; rw [c21b0]) | skip)
    by_cases c22 : t528 = 0
    ·rw [if_pos c22] at H
     have c22b0 : (t528 == 0) = true := beq_iff_eq.mpr c22
     have c22b1 : (t528 != 0) = false := bne_eq_false_iff_eq.mpr c22
     clear c22
     by_cases c23 : t530 = 0
     ·rw [if_pos c23] at H
      have c23b0 : (t530 == 0) = true := beq_iff_eq.mpr c23
      have c23b1 : (t530 != 0) = false := bne_eq_false_iff_eq.mpr c23
      clear c23
      by_cases c24 : t533 = 0
      ·rw [if_pos c24] at H
       have c24b0 : (t533 == 0) = true := beq_iff_eq.mpr c24
       have c24b1 : (t533 != 0) = false := bne_eq_false_iff_eq.mpr c24
       clear c24
       by_cases c25 : t527 = t521
       ·rw [if_pos c25] at H
        have c25b0 : (t527 == t521) = true := beq_iff_eq.mpr c25
        have c25b1 : (t527 != t521) = false := bne_eq_false_iff_eq.mpr c25
        clear c25
        by_cases c26 : t531 = t521
        ·rw [if_pos c26] at H
         have c26b0 : (t531 == t521) = true := beq_iff_eq.mpr c26
         have c26b1 : (t531 != t521) = false := bne_eq_false_iff_eq.mpr c26
         clear c26
         have H' := Aside0.mk H
         clear H
         go_wp2
         go_meet
         case rel => exact ⟨_, ((t532 != (wrap64 (1 + t520)))), (by first | rfl | (simp; done) | (simp [*]; done)), H', ⟨by first | omega | exact Nat.le_refl _⟩, ⟨by repeat (first | (with_reducible first | exact HB.out | apply below_alloc | apply pw_below_drewN | apply below_drew1) | exact HB.out)⟩⟩
        ·rw [if_neg c26] at H
         have c26b0 : (t531 == t521) = false := beq_eq_false_iff_ne.mpr c26
         have c26b1 : (t531 != t521) = true := bne_iff_ne.mpr c26
         have H' := Aside0.mk H
         clear H
         go_wp2
         go_meet
         case rel => exact ⟨_, (true), (by first | rfl | (simp; done) | (simp [*]; done)), H', ⟨by first | omega | exact Nat.le_refl _⟩, ⟨by repeat (first | (with_reducible first | exact HB.out | apply below_alloc | apply pw_below_drewN | apply below_drew1) | exact HB.out)⟩⟩
       ·rw [if_neg c25] at H
        have c25b0 : (t527 == t521) = false := beq_eq_false_iff_ne.mpr c25
        have c25b1 : (t527 != t521) = true := bne_iff_ne.mpr c25
        have H' := Aside0.mk H
        clear H
        go_wp2
        go_meet
        case rel => exact ⟨_, (true), (by first | rfl | (simp; done) | (simp [*]; done)), H', ⟨by first | omega | exact Nat.le_refl _⟩, ⟨by repeat (first | (with_reducible first | exact HB.out | apply below_alloc | apply pw_below_drewN | apply below_drew1) | exact HB.out)⟩⟩
      ·rw [if_neg c24] at H
       have c24b0 : (t533 == 0) = false := beq_eq_false_iff_ne.mpr c24
       have c24b1 : (t533 != 0) = true := bne_iff_ne.mpr c24
       have H' := Aside0.mk H
       clear H
       go_wp2
       go_meet
       case rel => exact ⟨_, (true), (by first | rfl | (simp; done) | (simp [*]; done)), H', ⟨by first | omega | exact Nat.le_refl _⟩, ⟨by repeat (first | (with_reducible first | exact HB.out | apply below_alloc | apply pw_below_drewN | apply below_drew1) | exact HB.out)⟩⟩
     ·rw [if_neg c23] at H
      have c23b0 : (t530 == 0) = false := beq_eq_false_iff_ne.mpr c23
      have c23b1 : (t530 != 0) = true := bne_iff_ne.mpr c23
      have H' := Aside0.mk H
      clear H
      go_wp2
      go_meet
      case rel => exact ⟨_, (true), (by first | rfl | (simp; done) | (simp [*]; done)), H', ⟨by first | omega | exact Nat.le_refl _⟩, ⟨by repeat (first | (with_reducible first | exact HB.out | apply below_alloc | apply pw_below_drewN | apply below_drew1) | exact HB.out)⟩⟩
    ·rw [if_neg c22] at H
     have c22b0 : (t528 == 0) = false := beq_eq_false_iff_ne.mpr c22
     have c22b1 : (t528 != 0) = true := bne_iff_ne.mpr c22
     have H' := Aside0.mk H
     clear H
     go_wp2
     go_meet
     case rel => exact ⟨_, (true), (by first | rfl | (simp; done) | (simp [*]; done)), H', ⟨by first | omega | exact Nat.le_refl _⟩, ⟨by repeat (first | (with_reducible first | exact HB.out | apply below_alloc | apply pw_below_drewN | apply below_drew1) | exact HB.out)⟩⟩
   ·rw [if_neg c21] at H
    have c21b0 : (t524 == 0) = false := beq_eq_false_iff_ne.mpr c21
    have c21b1 : (t524 != 0) = true := bne_iff_ne.mpr c21
    (first | rw [c21b0] | (simp only [i64_w, i32_w]; rw [c21b0]) | skip)
    have H' := Aside0.mk H
    clear H
    go_wp2
    go_meet
    case rel => exact ⟨_, (true), (by first | rfl | (simp; done) | (simp [*]; done)), H', ⟨by first | omega | exact Nat.le_refl _⟩, ⟨by repeat (first | (with_reducible first | exact HB.out | apply below_alloc | apply pw_below_drewN | apply below_drew1) | exact HB.out)⟩⟩
  case rest =>
   clear HC16
   try clear c1
   try clear c2
   try clear p2
   try clear c3
   try clear c6
   try clear c6b0
   try clear c6b1
   try clear p6
   try clear c9
   try clear c9b0
   try clear c10
   try clear c10b0
   try clear c20
   try clear c21
   try clear c21b0
   try clear c21b1
   try clear c22
   try clear c22b0
   try clear c22b1
   try clear c23
   try clear c23b0
   try clear c23b1
   try clear c24
   try clear c24b0
   try clear c24b1
   try clear c25
   try clear c25b0
   try clear c25b1
   try clear c26
   try clear c26b0
   try clear c26b1
   obtain ⟨kq, x90_15, rfl, HA, HJ15, HB⟩ := hcut
   cases kq with
   | zero => exact absurd HA.out (by simp [tipstafflaw33_WordBack.j0])
   | succ kj15 =>
    have H := HA.out
    clear HA
    simp only [tipstafflaw33_WordBack.j0] at H
    by_cases c27 : x90_15 = true
    ·subst c27
     have H1 : (none) = some r := by rw [if_pos rfl] at H; exact H
     clear H
     have H := H1
     clear H1
     exact absurd H (by simp)
    ·replace c27 := Bool.eq_false_iff.mpr c27
     subst c27
     have H1 : ((word_Merge.f kj15 t521 t522 (wrap64 (1 + t520))).bind fun bt534 => ((word_Merge.f kj15 t522 t521 (wrap64 (1 + t520))).bind fun bt536 => ((word_Differ.f kj15 t521 t521 (wrap64 (1 + t520))).bind fun bt538 => ((word_Differ.f kj15 t521 t522 (wrap64 (1 + t520))).bind fun bt542 => ((word_Make.f kj15 bt542.1 (wrap64 (1 + t520))).bind fun bt546 => (if bt534.2 = 0 then (if bt536.2 = 0 then (if bt538.2 = 0 then (if bt542.2 = 0 then (if bt546.2 = 0 then (if bt534.1 = bt536.1 then (if bt534.1 = (Go.bits .or .i64 t521 t522) then (if (bt538.1.length : Int) = 0 then (if bt546.1 = (Go.bits .xor .i64 t521 t522) then ((tipstafflaw33_awake.f kj15).bind fun t548 => (some t548)) else (none)) else (none)) else (none)) else (none)) else (none)) else (none)) else (none)) else (none)) else (none))))))) = some r := by rw [if_neg (show ¬ (false = true) by decide)] at H; exact H
     clear H
     have H := H1
     clear H1
     replace H := Option.bind_eq_some_iff.mp H
     obtain ⟨⟨t534, t535⟩, A280, H⟩ := H
     replace H : ((word_Merge.f kj15 t522 t521 (wrap64 (1 + t520))).bind fun bt536 => ((word_Differ.f kj15 t521 t521 (wrap64 (1 + t520))).bind fun bt538 => ((word_Differ.f kj15 t521 t522 (wrap64 (1 + t520))).bind fun bt542 => ((word_Make.f kj15 bt542.1 (wrap64 (1 + t520))).bind fun bt546 => (if t535 = 0 then (if bt536.2 = 0 then (if bt538.2 = 0 then (if bt542.2 = 0 then (if bt546.2 = 0 then (if t534 = bt536.1 then (if t534 = (Go.bits .or .i64 t521 t522) then (if (bt538.1.length : Int) = 0 then (if bt546.1 = (Go.bits .xor .i64 t521 t522) then ((tipstafflaw33_awake.f kj15).bind fun t548 => (some t548)) else (none)) else (none)) else (none)) else (none)) else (none)) else (none)) else (none)) else (none)) else (none)))))) = some r := H
     have A28 := Aside0.mk A280
     clear A280
     replace H := Option.bind_eq_some_iff.mp H
     obtain ⟨⟨t536, t537⟩, A290, H⟩ := H
     replace H : ((word_Differ.f kj15 t521 t521 (wrap64 (1 + t520))).bind fun bt538 => ((word_Differ.f kj15 t521 t522 (wrap64 (1 + t520))).bind fun bt542 => ((word_Make.f kj15 bt542.1 (wrap64 (1 + t520))).bind fun bt546 => (if t535 = 0 then (if t537 = 0 then (if bt538.2 = 0 then (if bt542.2 = 0 then (if bt546.2 = 0 then (if t534 = t536 then (if t534 = (Go.bits .or .i64 t521 t522) then (if (bt538.1.length : Int) = 0 then (if bt546.1 = (Go.bits .xor .i64 t521 t522) then ((tipstafflaw33_awake.f kj15).bind fun t548 => (some t548)) else (none)) else (none)) else (none)) else (none)) else (none)) else (none)) else (none)) else (none)) else (none))))) = some r := H
     have A29 := Aside0.mk A290
     clear A290
     replace H := Option.bind_eq_some_iff.mp H
     obtain ⟨⟨t538, t539⟩, A300, H⟩ := H
     replace H : ((word_Differ.f kj15 t521 t522 (wrap64 (1 + t520))).bind fun bt542 => ((word_Make.f kj15 bt542.1 (wrap64 (1 + t520))).bind fun bt546 => (if t535 = 0 then (if t537 = 0 then (if t539 = 0 then (if bt542.2 = 0 then (if bt546.2 = 0 then (if t534 = t536 then (if t534 = (Go.bits .or .i64 t521 t522) then (if (t538.length : Int) = 0 then (if bt546.1 = (Go.bits .xor .i64 t521 t522) then ((tipstafflaw33_awake.f kj15).bind fun t548 => (some t548)) else (none)) else (none)) else (none)) else (none)) else (none)) else (none)) else (none)) else (none)) else (none)))) = some r := H
     have A30 := Aside0.mk A300
     clear A300
     replace H := Option.bind_eq_some_iff.mp H
     obtain ⟨⟨t542, t543⟩, A310, H⟩ := H
     replace H : ((word_Make.f kj15 t542 (wrap64 (1 + t520))).bind fun bt546 => (if t535 = 0 then (if t537 = 0 then (if t539 = 0 then (if t543 = 0 then (if bt546.2 = 0 then (if t534 = t536 then (if t534 = (Go.bits .or .i64 t521 t522) then (if (t538.length : Int) = 0 then (if bt546.1 = (Go.bits .xor .i64 t521 t522) then ((tipstafflaw33_awake.f kj15).bind fun t548 => (some t548)) else (none)) else (none)) else (none)) else (none)) else (none)) else (none)) else (none)) else (none)) else (none))) = some r := H
     have A31 := Aside0.mk A310
     clear A310
     replace H := Option.bind_eq_some_iff.mp H
     obtain ⟨⟨t546, t547⟩, A320, H⟩ := H
     replace H : (if t535 = 0 then (if t537 = 0 then (if t539 = 0 then (if t543 = 0 then (if t547 = 0 then (if t534 = t536 then (if t534 = (Go.bits .or .i64 t521 t522) then (if (t538.length : Int) = 0 then (if t546 = (Go.bits .xor .i64 t521 t522) then ((tipstafflaw33_awake.f kj15).bind fun t548 => (some t548)) else (none)) else (none)) else (none)) else (none)) else (none)) else (none)) else (none)) else (none)) else (none)) = some r := H
     have A32 := Aside0.mk A320
     clear A320
     by_cases c33 : t535 = 0
     ·rw [if_pos c33] at H
      have c33b0 : (t535 == 0) = true := beq_iff_eq.mpr c33
      have c33b1 : (t535 != 0) = false := bne_eq_false_iff_eq.mpr c33
      clear c33
      by_cases c34 : t537 = 0
      ·rw [if_pos c34] at H
       have c34b0 : (t537 == 0) = true := beq_iff_eq.mpr c34
       have c34b1 : (t537 != 0) = false := bne_eq_false_iff_eq.mpr c34
       clear c34
       by_cases c35 : t539 = 0
       ·rw [if_pos c35] at H
        have c35b0 : (t539 == 0) = true := beq_iff_eq.mpr c35
        have c35b1 : (t539 != 0) = false := bne_eq_false_iff_eq.mpr c35
        clear c35
        by_cases c36 : t543 = 0
        ·rw [if_pos c36] at H
         have c36b0 : (t543 == 0) = true := beq_iff_eq.mpr c36
         have c36b1 : (t543 != 0) = false := bne_eq_false_iff_eq.mpr c36
         clear c36
         by_cases c37 : t547 = 0
         ·rw [if_pos c37] at H
          have c37b0 : (t547 == 0) = true := beq_iff_eq.mpr c37
          have c37b1 : (t547 != 0) = false := bne_eq_false_iff_eq.mpr c37
          clear c37
          by_cases c38 : t534 = t536
          ·rw [if_pos c38] at H
           have c38b0 : (t534 == t536) = true := beq_iff_eq.mpr c38
           have c38b1 : (t534 != t536) = false := bne_eq_false_iff_eq.mpr c38
           clear c38
           by_cases c39 : t534 = (Go.bits .or .i64 t521 t522)
           ·rw [if_pos c39] at H
            have c39b0 : (t534 == (Go.bits .or .i64 t521 t522)) = true := beq_iff_eq.mpr c39
            have c39b1 : (t534 != (Go.bits .or .i64 t521 t522)) = false := bne_eq_false_iff_eq.mpr c39
            clear c39
            by_cases c40 : (t538.length : Int) = 0
            ·rw [if_pos c40] at H
             have c40b0 : ((t538.length : Int) == 0) = true := beq_iff_eq.mpr c40
             have c40b1 : ((t538.length : Int) != 0) = false := bne_eq_false_iff_eq.mpr c40
             clear c40
             by_cases c41 : t546 = (Go.bits .xor .i64 t521 t522)
             ·rw [if_pos c41] at H
              have c41b0 : (t546 == (Go.bits .xor .i64 t521 t522)) = true := beq_iff_eq.mpr c41
              have c41b1 : (t546 != (Go.bits .xor .i64 t521 t522)) = false := bne_eq_false_iff_eq.mpr c41
              clear c41
              replace H := Option.bind_eq_some_iff.mp H
              obtain ⟨t548, A420, H⟩ := H
              replace H : (some t548) = some r := H
              have A42 := Aside0.mk A420
              clear A420
              obtain rfl := Option.some.inj H
              go_wp2_with (first | ((with_reducible refine gate_callee (f := 21) rfl ?_); refine goesL_ (some 95) rfl rfl Tryd.func21 (by kernel_rfl) rfl #[.int .i64 t521, .int .i64 t522, .int .i64 (wrap64 (1 + t520))] rfl (by (try simp only [List.map_toArray, List.map_cons, List.map_nil]); first | done | rfl | (simp only [List.length_drop, List.length_take]; rfl)) ?_; (with_reducible refine (word_Merge.calls kj15 t521 t522 (wrap64 (1 + t520)) t534 t535 _ A28.out).mono ?_); rintro e w43 ⟨rfl, hb⟩; refine ⟨_, rfl, ?_⟩; have n0_ := Aside0.mk (below_step (by repeat (first | (with_reducible first | exact HB.out | apply below_alloc | apply pw_below_drewN | apply below_drew1) | exact HB.out)) hb); clear HB; have HB := n0_; clear n0_; (try clear hb); (try clear hb2); (try clear hk); (try clear hi)) | ((with_reducible refine gate_callee (f := 21) rfl ?_); refine goesL_ (some 102) rfl rfl Tryd.func21 (by kernel_rfl) rfl #[.int .i64 t522, .int .i64 t521, .int .i64 (wrap64 (1 + t520))] rfl (by (try simp only [List.map_toArray, List.map_cons, List.map_nil]); first | done | rfl | (simp only [List.length_drop, List.length_take]; rfl)) ?_; (with_reducible refine (word_Merge.calls kj15 t522 t521 (wrap64 (1 + t520)) t536 t537 _ A29.out).mono ?_); rintro e w44 ⟨rfl, hb⟩; refine ⟨_, rfl, ?_⟩; have n0_ := Aside0.mk (below_step (by repeat (first | (with_reducible first | exact HB.out | apply below_alloc | apply pw_below_drewN | apply below_drew1) | exact HB.out)) hb); clear HB; have HB := n0_; clear n0_; (try clear hb); (try clear hb2); (try clear hk); (try clear hi)) | ((with_reducible refine gate_callee (f := 33) rfl ?_); refine goesL_ (some 109) rfl rfl Tryd.func33 (by kernel_rfl) rfl #[.int .i64 t521, .int .i64 t521, .int .i64 (wrap64 (1 + t520))] rfl (by (try simp only [List.map_toArray, List.map_cons, List.map_nil]); first | done | rfl | (simp only [List.length_drop, List.length_take]; rfl)) ?_; (with_reducible refine (word_Differ.calls kj15 t521 t521 (wrap64 (1 + t520)) t538 t539 _ A30.out).mono ?_); rintro e w45 ⟨v540, rfl, ho0, hb⟩; refine ⟨_, rfl, ?_⟩; have n0_ := Aside0.mk (Kd.R_lower ho0 (below_size (by repeat (first | (with_reducible first | exact HB.out | apply below_alloc | apply pw_below_drewN | apply below_drew1) | exact HB.out)))); have n1_ := Aside0.mk (below_step (by repeat (first | (with_reducible first | exact HB.out | apply below_alloc | apply pw_below_drewN | apply below_drew1) | exact HB.out)) hb); clear HB; have HO541 := n0_; have HB := n1_; clear n0_ n1_; (try clear hb); (try clear hb2); (try clear hk); (try clear hi); (try clear ho0)) | ((with_reducible refine gate_callee (f := 33) rfl ?_); refine goesL_ (some 116) rfl rfl Tryd.func33 (by kernel_rfl) rfl #[.int .i64 t521, .int .i64 t522, .int .i64 (wrap64 (1 + t520))] rfl (by (try simp only [List.map_toArray, List.map_cons, List.map_nil]); first | done | rfl | (simp only [List.length_drop, List.length_take]; rfl)) ?_; (with_reducible refine (word_Differ.calls kj15 t521 t522 (wrap64 (1 + t520)) t542 t543 _ A31.out).mono ?_); rintro e w46 ⟨v544, rfl, ho0, hb⟩; refine ⟨_, rfl, ?_⟩; have n0_ := Aside0.mk (Kd.R_elder' (by (with_reducible repeat (first | apply Kd.R_alloc | apply Kd.R_drewN | apply Kd.R_drew)); exact HO541.out) (Kd.R_base ho0) hb); have n1_ := Aside0.mk (Kd.R_lower (Kd.R_new' ho0 (Kd.R_lt (by (with_reducible repeat (first | apply Kd.R_alloc | apply Kd.R_drewN | apply Kd.R_drew)); exact HO541.out))) (below_size (by repeat (first | (with_reducible first | exact HB.out | apply below_alloc | apply pw_below_drewN | apply below_drew1) | exact HB.out)))); have n2_ := Aside0.mk (below_step (by repeat (first | (with_reducible first | exact HB.out | apply below_alloc | apply pw_below_drewN | apply below_drew1) | exact HB.out)) hb); clear HO541; clear HB; have HO541 := n0_; have HO545 := n1_; have HB := n2_; clear n0_ n1_ n2_; (try clear hb); (try clear hb2); (try clear hk); (try clear hi); (try clear ho0); obtain ⟨Ao47, co47, eo47⟩ := Kd.R_slice HO545.out; subst eo47) | ((with_reducible refine gate_callee (f := 24) rfl ?_); refine goesL_ (some 122) rfl rfl Tryd.func24 (by kernel_rfl) rfl #[.slice Ao47 t542.length co47, .int .i64 (wrap64 (1 + t520))] rfl (by (try simp only [List.map_toArray, List.map_cons, List.map_nil]); first | done | rfl | (simp only [List.length_drop, List.length_take]; rfl)) ?_; (with_reducible refine (word_Make.calls kj15 _ _ t542 (wrap64 (1 + t520)) t546 t547 _ ?side1 ?side2 A32.out).mono ?_); (case side1 => repeat (first | exact (Kd.R_reads' HO545.out).2.2 | (with_reducible refine Kd.C_alloc ?_ _) | (with_reducible refine Kd.C_drewN ?_ _) | (with_reducible refine Kd.C_drew ?_))); (case side2 => exact (Kd.R_reads' HO545.out).2.1); rintro e w' ⟨rfl, ⟨nd, rfl⟩⟩; refine ⟨_, rfl, ?_⟩; obtain ⟨Ao48, co48, eo48⟩ := Kd.R_slice HO541.out; subst eo48) | (go_at_call 12; (with_reducible refine (tipstafflaw33_awake.calls kj15  t548 _ (by first | with_reducible exact HL_ | ((repeat with_reducible apply LaidAt.drewN); with_reducible exact HL_) | exact LaidAt.below HL_ (by repeat (first | (with_reducible first | exact HB.out | apply below_alloc | apply pw_below_drewN | apply below_drew1) | exact HB.out))) A42.out).mono ?_); rintro e w49 ⟨rfl, hb⟩; have n0_ := Aside0.mk (Kd.R_below (by (with_reducible repeat (first | apply Kd.R_alloc | apply Kd.R_drewN | apply Kd.R_drew)); exact HO541.out) hb); have n1_ := Aside0.mk (Kd.R_below (by (with_reducible repeat (first | apply Kd.R_alloc | apply Kd.R_drewN | apply Kd.R_drew)); exact HO545.out) hb); have n2_ := Aside0.mk (below_step (by repeat (first | (with_reducible first | exact HB.out | apply below_alloc | apply pw_below_drewN | apply below_drew1) | exact HB.out)) hb); clear HO541; clear HO545; clear HB; have HO541 := n0_; have HO545 := n1_; have HB := n2_; clear n0_ n1_ n2_; (try clear hb); (try clear hb2); (try clear hk); (try clear hi)))
              go_ret
              exact ⟨by first | rfl | (simp [errW_none, errW_some] <;> rfl) | (simp only [← hji5, ← hji7]; first | rfl | (simp [errW_none, errW_some] <;> rfl)) | (simp [*, errW_none, errW_some] <;> rfl) | (simp (discharger := omega) only [Int.tdiv_eq_ediv_of_nonneg, Int.tmod_eq_emod_of_nonneg] <;> rfl), by repeat (first | (with_reducible first | exact HB.out | apply below_alloc | apply pw_below_drewN | apply below_drew1) | exact HB.out)⟩
             ·rw [if_neg c41] at H
              exact absurd H (by simp)
            ·rw [if_neg c40] at H
             exact absurd H (by simp)
           ·rw [if_neg c39] at H
            exact absurd H (by simp)
          ·rw [if_neg c38] at H
           exact absurd H (by simp)
         ·rw [if_neg c37] at H
          exact absurd H (by simp)
        ·rw [if_neg c36] at H
         exact absurd H (by simp)
       ·rw [if_neg c35] at H
        exact absurd H (by simp)
      ·rw [if_neg c34] at H
       exact absurd H (by simp)
     ·rw [if_neg c33] at H
      exact absurd H (by simp)
 ·rw [if_neg c6] at H
  exact absurd H (by simp)

/-- THE ONE PURE STATEMENT of tipstafflaw33_WordBack: yours. -/
def tipstafflaw33_WordBack.Pure : Prop := ∀ (a0 : Int) (a1 : Int) (a2 : Int), (Lit.int .i64 a0).wf = true → (Lit.int .i64 a1).wf = true → (Lit.int .i64 a2).wf = true → ∃ k, tipstafflaw33_WordBack.f k a0 a1 a2 = some true
theorem tipstafflaw33_WordBack.walk (P : tipstafflaw33_WordBack.Pure) (a0 : Int) (a1 : Int) (a2 : Int) (w : World) (HL_ : LaidAt w) (w0 : (Lit.int .i64 a0).wf = true) (w1 : (Lit.int .i64 a1).wf = true) (w2 : (Lit.int .i64 a2).wf = true) :
  Calls Tryd.prog 9 #[.int .i64 a0, .int .i64 a1, .int .i64 a2] w fun e w' => e = .returned (.bool true) ∧ Below w.heap.size w w' := by
 obtain ⟨k, h⟩ := P a0 a1 a2 w0 w1 w2
 refine (tipstafflaw33_WordBack.calls k a0 a1 a2 true w HL_ h).mono ?_
 rintro e w' ⟨rfl, hd⟩
 exact ⟨rfl, hd⟩

end Go.Proofs.YtbcmlgbhejcjbaaDoor.S
