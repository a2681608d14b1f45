/- Words, cars and texts belong together; Merge does not depend on the order; equal words do not differ. -/
import Derived.Test.YtbcmlgbhejcjbaaDoorAskWordBack
import Derived.Test.YtbcmlgbhejcjbaaDoorWb3
import Derived.Test.YtbcmlgbhejcjbaaDoorWdA
import Derived.Test.YtbcmlgbhejcjbaaDoorKitMod
namespace Go.Proofs.YtbcmlgbhejcjbaaDoor.Pure
open Go.RowKit Go.Proofs.YtbcmlgbhejcjbaaDoor.S Go.Proofs.YtbcmlgbhejcjbaaDoorW.PrintWords Go.Proofs.YtbcmlgbhejcjbaaDoorW.PrintLast
set_option linter.unusedVariables false
set_option linter.unusedSimpArgs false

theorem one_shl : ∀ m : Fin 9, shl .i64 1 (m.val : Int) = ((2 ^ m.val : Nat) : Int) ∧ IntKind.u64.wrap (m.val : Int) = (m.val : Int) := by decide +kernel
theorem carsL_zero (m : Nat) : carsL 0 m = [] := by
  unfold carsL
  rw [List.filter_eq_nil_iff.2 (by intro i _; simp)]; rfl
theorem WordBack : WordBack.Stmt := by
  intro a0 a1 a2 i0 i1 i2
  refine Ev.get (g := fun k => tipstafflaw33_WordBack.f k a0 a1 a2) ?_
  have aw : Ev (fun k => (tipstafflaw33_awake.f k).bind fun t => some t) true := awake_ev.bind (f := fun t _ => some t) (Ev.const _)
  have m2 := mod_val a2 8 (i64_of i2) (by omega) (by omega)
  obtain ⟨m, hm⟩ : ∃ m : Nat, 1 + a2 % 8 = m := ⟨(1 + a2 % 8).toNat, by omega⟩
  have hw : wrap64 (1 + a2 % 8) = (m : Int) := by rw [hm]; exact wrap_id _ (by omega) (by omega)
  have q1 : 1 ≤ m := by omega
  have q2 : m ≤ 8 := by omega
  obtain ⟨s1, s2⟩ := one_shl ⟨m, by omega⟩
  have hp := pow_small q2
  have hp1 : 1 ≤ 2 ^ m := Nat.one_le_two_pow
  have s1' : shl .i64 1 (m : Int) = ((2 ^ m : Nat) : Int) := s1
  have s2' : IntKind.u64.wrap (m : Int) = (m : Int) := s2
  have hM : ∃ M : Nat, 2 ^ m = M := ⟨_, rfl⟩
  obtain ⟨M, hM⟩ := hM
  rw [hM] at s1' hp hp1
  have m0 := mod_val a0 (M : Int) (i64_of i0) (by omega) (by omega)
  have m1 := mod_val a1 (M : Int) (i64_of i1) (by omega) (by omega)
  have b0 := Int.emod_nonneg a0 (show (M : Int) ≠ 0 by omega)
  have b1 := Int.emod_lt_of_pos a0 (show 0 < (M : Int) by omega)
  have b2 := Int.emod_nonneg a1 (show (M : Int) ≠ 0 by omega)
  have b3 := Int.emod_lt_of_pos a1 (show 0 < (M : Int) by omega)
  obtain ⟨x, hx⟩ : ∃ x : Nat, a0 % (M : Int) = x := ⟨(a0 % (M : Int)).toNat, by omega⟩
  obtain ⟨y, hy⟩ : ∃ y : Nat, a1 % (M : Int) = y := ⟨(a1 % (M : Int)).toNat, by omega⟩
  rw [hx] at m0 b1
  rw [hy] at m1 b3
  have q3 : x < 2 ^ m := by omega
  have q4 : y < 2 ^ m := by omega
  have okx : okW (m : Int) [(x : Int)] = 0 := okW_of ⟨by omega, by omega⟩ (fun z hz => by rw [List.mem_singleton.1 hz, Int.toNat_natCast, pow_nat]; omega)
  have oky : okW (m : Int) [(y : Int)] = 0 := okW_of ⟨by omega, by omega⟩ (fun z hz => by rw [List.mem_singleton.1 hz, Int.toNat_natCast, pow_nat]; omega)
  have hxy := xor_ok q2 q1 q3 q4
  have vc : carsV (x : Int) (m : Int) = (carsL x m, 0) := by unfold carsV; rw [if_pos okx, Int.toNat_natCast, Int.toNat_natCast]
  have vt : textV (x : Int) (m : Int) = (textB x m, 0) := by unfold textV; rw [if_pos okx, Int.toNat_natCast, Int.toNat_natCast]
  have vm : mergeV (x : Int) (y : Int) (m : Int) = (((x ||| y : Nat) : Int), 0) := by unfold mergeV; rw [if_pos ((okW_pair _ _ _).2 ⟨okx, oky⟩), Int.toNat_natCast, Int.toNat_natCast]
  have vm' : mergeV (y : Int) (x : Int) (m : Int) = (((x ||| y : Nat) : Int), 0) := by unfold mergeV; rw [if_pos ((okW_pair _ _ _).2 ⟨oky, okx⟩), Int.toNat_natCast, Int.toNat_natCast, Nat.or_comm]
  have vd : differV (x : Int) (x : Int) (m : Int) = ([], 0) := by unfold differV; rw [if_pos ((okW_pair _ _ _).2 ⟨okx, okx⟩), Int.toNat_natCast, Nat.xor_self, carsL_zero]
  have vd' : differV (x : Int) (y : Int) (m : Int) = (carsL (x ^^^ y) m, 0) := by unfold differV; rw [if_pos ((okW_pair _ _ _).2 ⟨okx, oky⟩), Int.toNat_natCast, Int.toNat_natCast, Int.toNat_natCast]
  have cl := carsL_len x m
  have cl' := carsL_len (x ^^^ y) m
  have kc := cars_val (x : Int) (m : Int)
  have kt := text_val (x : Int) (m : Int)
  have km := merge_val (x : Int) (y : Int) (m : Int)
  have km' := merge_val (y : Int) (x : Int) (m : Int)
  have kd := differ_val (x : Int) (x : Int) (m : Int)
  have kd' := differ_val (x : Int) (y : Int) (m : Int)
  rw [vc] at kc
  rw [vt] at kt
  rw [vm] at km
  rw [vm'] at km'
  rw [vd] at kd
  rw [vd'] at kd'
  have kk := make_val (carsL x m) (m : Int) (by omega)
  rw [make_cars m x q1 q2 q3] at kk
  have kk' := make_val (carsL (x ^^^ y) m) (m : Int) (by omega)
  rw [make_cars m (x ^^^ y) q1 q2 (Nat.xor_lt_two_pow q3 q4)] at kk'
  have kp : word_Parse.f (textB x m) = some ((x : Int), (m : Int), 0) := parse_fin ⟨m, by omega⟩ ⟨x, by omega⟩ q1 q3
  have eo := bits_or x y (by omega) (by omega)
  have ex := bits_xor x y (by omega) (by omega)
  have rest : Ev (fun k => tipstafflaw33_WordBack.j0 k (m : Int) (x : Int) (y : Int) false) true := by
    refine Ev.step (g' := fun k => (word_Merge.f k (x : Int) (y : Int) (m : Int)).bind fun bt534 => ((word_Merge.f k (y : Int) (x : Int) (m : Int)).bind fun bt536 => ((word_Differ.f k (x : Int) (x : Int) (m : Int)).bind fun bt538 => ((word_Differ.f k (x : Int) (y : Int) (m : Int)).bind fun bt542 => ((word_Make.f k bt542.1 (m : Int)).bind fun bt546 => (if bt534.2 = 0 then (if bt536.2 = 0 then (if bt538.2 = 0 then (if bt542.2 = 0 then (if bt546.2 = 0 then (if bt534.1 = bt536.1 then (if bt534.1 = ((x ||| y : Nat) : Int) then (if (bt538.1.length : Int) = 0 then (if bt546.1 = ((x ^^^ y : Nat) : Int) then ((tipstafflaw33_awake.f k).bind fun t548 => (some t548)) else (none)) else (none)) else (none)) else (none)) else (none)) else (none)) else (none)) else (none)) else (none)))))) ) ?_ (fun k => by rw [tipstafflaw33_WordBack.j0, if_neg (by decide), eo, ex])
    refine km.bind (f := fun bt534 k => ((word_Merge.f k (y : Int) (x : Int) (m : Int)).bind fun bt536 => ((word_Differ.f k (x : Int) (x : Int) (m : Int)).bind fun bt538 => ((word_Differ.f k (x : Int) (y : Int) (m : Int)).bind fun bt542 => ((word_Make.f k bt542.1 (m : Int)).bind fun bt546 => (if bt534.2 = 0 then (if bt536.2 = 0 then (if bt538.2 = 0 then (if bt542.2 = 0 then (if bt546.2 = 0 then (if bt534.1 = bt536.1 then (if bt534.1 = ((x ||| y : Nat) : Int) then (if (bt538.1.length : Int) = 0 then (if bt546.1 = ((x ^^^ y : Nat) : Int) then ((tipstafflaw33_awake.f k).bind fun t548 => (some t548)) else (none)) else (none)) else (none)) else (none)) else (none)) else (none)) else (none)) else (none)) else (none))))))) ?_
    refine km'.bind (f := fun bt536 k => ((word_Differ.f k (x : Int) (x : Int) (m : Int)).bind fun bt538 => ((word_Differ.f k (x : Int) (y : Int) (m : Int)).bind fun bt542 => ((word_Make.f k bt542.1 (m : Int)).bind fun bt546 => (if (0 : Int) = 0 then (if bt536.2 = 0 then (if bt538.2 = 0 then (if bt542.2 = 0 then (if bt546.2 = 0 then (if ((x ||| y : Nat) : Int) = bt536.1 then (if ((x ||| y : Nat) : Int) = ((x ||| y : Nat) : Int) then (if (bt538.1.length : Int) = 0 then (if bt546.1 = ((x ^^^ y : Nat) : Int) then ((tipstafflaw33_awake.f k).bind fun t548 => (some t548)) else (none)) else (none)) else (none)) else (none)) else (none)) else (none)) else (none)) else (none)) else (none)))))) ?_
    refine kd.bind (f := fun bt538 k => ((word_Differ.f k (x : Int) (y : Int) (m : Int)).bind fun bt542 => ((word_Make.f k bt542.1 (m : Int)).bind fun bt546 => (if (0 : Int) = 0 then (if (0 : Int) = 0 then (if bt538.2 = 0 then (if bt542.2 = 0 then (if bt546.2 = 0 then (if ((x ||| y : Nat) : Int) = ((x ||| y : Nat) : Int) then (if ((x ||| y : Nat) : Int) = ((x ||| y : Nat) : Int) then (if (bt538.1.length : Int) = 0 then (if bt546.1 = ((x ^^^ y : Nat) : Int) then ((tipstafflaw33_awake.f k).bind fun t548 => (some t548)) else (none)) else (none)) else (none)) else (none)) else (none)) else (none)) else (none)) else (none)) else (none))))) ?_
    refine kd'.bind (f := fun bt542 k => ((word_Make.f k bt542.1 (m : Int)).bind fun bt546 => (if (0 : Int) = 0 then (if (0 : Int) = 0 then (if (0 : Int) = 0 then (if bt542.2 = 0 then (if bt546.2 = 0 then (if ((x ||| y : Nat) : Int) = ((x ||| y : Nat) : Int) then (if ((x ||| y : Nat) : Int) = ((x ||| y : Nat) : Int) then (if ((([] : List Int).length : Nat) : Int) = 0 then (if bt546.1 = ((x ^^^ y : Nat) : Int) then ((tipstafflaw33_awake.f k).bind fun t548 => (some t548)) else (none)) else (none)) else (none)) else (none)) else (none)) else (none)) else (none)) else (none)) else (none)))) ?_
    refine kk'.bind (f := fun bt546 k => (if (0 : Int) = 0 then (if (0 : Int) = 0 then (if (0 : Int) = 0 then (if (0 : Int) = 0 then (if bt546.2 = 0 then (if ((x ||| y : Nat) : Int) = ((x ||| y : Nat) : Int) then (if ((x ||| y : Nat) : Int) = ((x ||| y : Nat) : Int) then (if ((([] : List Int).length : Nat) : Int) = 0 then (if bt546.1 = ((x ^^^ y : Nat) : Int) then ((tipstafflaw33_awake.f k).bind fun t548 => (some t548)) else (none)) else (none)) else (none)) else (none)) else (none)) else (none)) else (none)) else (none)) else (none))) ?_
    exact aw.congr (fun k => by simp only [if_true]; rfl)
  refine Ev.congr (g' := fun k => (word_Cars.f k (x : Int) (m : Int)).bind fun bt523 => ((word_Make.f k bt523.1 (m : Int)).bind fun bt527 => ((word_Text.f k (x : Int) (m : Int)).bind fun bt529 => ((word_Parse.f bt529.1).bind fun bt531 => (if bt523.2 = 0 then (if bt527.2 = 0 then (if bt529.2 = 0 then (if bt531.2.2 = 0 then (if bt527.1 = (x : Int) then (if bt531.1 = (x : Int) then (tipstafflaw33_WordBack.j0 k (m : Int) (x : Int) (y : Int) (bt531.2.1 != (m : Int))) else (tipstafflaw33_WordBack.j0 k (m : Int) (x : Int) (y : Int) true)) else (tipstafflaw33_WordBack.j0 k (m : Int) (x : Int) (y : Int) true)) else (tipstafflaw33_WordBack.j0 k (m : Int) (x : Int) (y : Int) true)) else (tipstafflaw33_WordBack.j0 k (m : Int) (x : Int) (y : Int) true)) else (tipstafflaw33_WordBack.j0 k (m : Int) (x : Int) (y : Int) true)) else (tipstafflaw33_WordBack.j0 k (m : Int) (x : Int) (y : Int) true))))))  ?_ (fun k => by
    rw [tipstafflaw33_WordBack.f, m2, Option.bind_some, hw, s2', if_pos (by omega), s1', m0, Option.bind_some, m1, Option.bind_some])
  refine kc.bind (f := fun bt523 k => ((word_Make.f k bt523.1 (m : Int)).bind fun bt527 => ((word_Text.f k (x : Int) (m : Int)).bind fun bt529 => ((word_Parse.f bt529.1).bind fun bt531 => (if bt523.2 = 0 then (if bt527.2 = 0 then (if bt529.2 = 0 then (if bt531.2.2 = 0 then (if bt527.1 = (x : Int) then (if bt531.1 = (x : Int) then (tipstafflaw33_WordBack.j0 k (m : Int) (x : Int) (y : Int) (bt531.2.1 != (m : Int))) else (tipstafflaw33_WordBack.j0 k (m : Int) (x : Int) (y : Int) true)) else (tipstafflaw33_WordBack.j0 k (m : Int) (x : Int) (y : Int) true)) else (tipstafflaw33_WordBack.j0 k (m : Int) (x : Int) (y : Int) true)) else (tipstafflaw33_WordBack.j0 k (m : Int) (x : Int) (y : Int) true)) else (tipstafflaw33_WordBack.j0 k (m : Int) (x : Int) (y : Int) true)) else (tipstafflaw33_WordBack.j0 k (m : Int) (x : Int) (y : Int) true)))))) ?_
  refine kk.bind (f := fun bt527 k => ((word_Text.f k (x : Int) (m : Int)).bind fun bt529 => ((word_Parse.f bt529.1).bind fun bt531 => (if (0 : Int) = 0 then (if bt527.2 = 0 then (if bt529.2 = 0 then (if bt531.2.2 = 0 then (if bt527.1 = (x : Int) then (if bt531.1 = (x : Int) then (tipstafflaw33_WordBack.j0 k (m : Int) (x : Int) (y : Int) (bt531.2.1 != (m : Int))) else (tipstafflaw33_WordBack.j0 k (m : Int) (x : Int) (y : Int) true)) else (tipstafflaw33_WordBack.j0 k (m : Int) (x : Int) (y : Int) true)) else (tipstafflaw33_WordBack.j0 k (m : Int) (x : Int) (y : Int) true)) else (tipstafflaw33_WordBack.j0 k (m : Int) (x : Int) (y : Int) true)) else (tipstafflaw33_WordBack.j0 k (m : Int) (x : Int) (y : Int) true)) else (tipstafflaw33_WordBack.j0 k (m : Int) (x : Int) (y : Int) true))))) ?_
  refine kt.bind (f := fun bt529 k => ((word_Parse.f bt529.1).bind fun bt531 => (if (0 : Int) = 0 then (if (0 : Int) = 0 then (if bt529.2 = 0 then (if bt531.2.2 = 0 then (if (x : Int) = (x : Int) then (if bt531.1 = (x : Int) then (tipstafflaw33_WordBack.j0 k (m : Int) (x : Int) (y : Int) (bt531.2.1 != (m : Int))) else (tipstafflaw33_WordBack.j0 k (m : Int) (x : Int) (y : Int) true)) else (tipstafflaw33_WordBack.j0 k (m : Int) (x : Int) (y : Int) true)) else (tipstafflaw33_WordBack.j0 k (m : Int) (x : Int) (y : Int) true)) else (tipstafflaw33_WordBack.j0 k (m : Int) (x : Int) (y : Int) true)) else (tipstafflaw33_WordBack.j0 k (m : Int) (x : Int) (y : Int) true)) else (tipstafflaw33_WordBack.j0 k (m : Int) (x : Int) (y : Int) true)))) ?_
  exact rest.congr (fun k => by rw [kp, Option.bind_some]; simp only [if_true, bne_self_eq_false])

end Go.Proofs.YtbcmlgbhejcjbaaDoor.Pure
