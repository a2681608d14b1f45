/- The reference's Hex, walked: the same text. -/
import Derived.Outline
import Derived.Deep.QuietTactic
import Derived.BigQuiet
import Derived.Test.YtghcckbdfmpgjaaDoorHhex
namespace Go.Proofs.YtghcckbdfmpgjaaDoor.S
open Go.RowKit Go.Proofs.YtghcckbdfmpgjaaDoorW.PrintWords Go.Proofs.YtghcckbdfmpgjaaDoorW.PrintLast Go.Proofs.YtghcckbdfmpgjaaDoorW.PrintMore
set_option linter.unusedVariables false
set_option linter.unusedSimpArgs false

def tipstaffref04_Hex.f (_k : Nat) (a0 : ByteArray) : Option ByteArray := crc_Hex.f a0
theorem tipstaffref04_Hex.mono : ∀ a0 k, LeO (tipstaffref04_Hex.f k a0) (tipstaffref04_Hex.f (k + 1) a0) := fun _ _ => LeO.refl _

theorem strOfNums_append (xs ys : List Int) : strOfNums xs ++ strOfNums ys = strOfNums (xs ++ ys) := by
  unfold strOfNums
  apply ByteArray.ext
  simp
theorem size_str (xs : List Int) : (strOfNums xs).size = xs.length := by simp [strOfNums, ByteArray.size]
theorem hexL_len : ∀ (f : Bool) (l : List Int), (hexL f l).length ≤ 3 * l.length
  | _, [] => by simp [hexL]
  | f, b :: bs => by
    have := hexL_len false bs
    rw [hexL]
    cases f <;> simp <;> omega
theorem cut_fin : ∀ v : Fin 16, (ByteArray.extract { data := #[48, 49, 50, 51, 52, 53, 54, 55, 56, 57, 97, 98, 99, 100, 101, 102] } v.val (v.val + 1)) = strOfNums [dig (v.val : Int)] := by decide +kernel

theorem cut_dig {v : Int} (h : 0 ≤ v) (h' : v ≤ 15) (w : World) : (Instr.slice 9 (.string { data := #[48, 49, 50, 51, 52, 53, 54, 55, 56, 57, 97, 98, 99, 100, 101, 102] }) (some (.int .u8 v)) (some (.int .u8 (v + 1))) none).run Tryd.prog w = .ok (.string (strOfNums [dig v])) w := by
  obtain ⟨n, rfl⟩ := Int.eq_ofNat_of_zero_le h
  have hc := cut_fin ⟨n, by omega⟩
  have hu := Tryd.underlying9
  have p1 : (n : Int) + 1 ≤ 16 := by omega
  have p2 : (0 : Int) ≤ (n : Int) + 1 := by omega
  have p3 : (n : Int) ≤ (n : Int) + 1 := by omega
  have p4 : ((n : Int) + 1).toNat = n + 1 := by omega
  simp only at hc
  go_simp

set_option maxHeartbeats 2000000 in
set_option maxRecDepth 100000 in
theorem tipstaffref04_Hex.calls (k : Nat) (a0 : ByteArray) (r : ByteArray) (w : World) (h : tipstaffref04_Hex.f k a0 = some r) :
    Calls Tryd.prog 26 #[.string a0] w fun e w' => e = .returned (.string r) ∧ Below w.heap.size w w' := by
  unfold tipstaffref04_Hex.f crc_Hex.f at h
  by_cases hs : a0.size ≤ 1000000
  · rw [if_pos hs] at h
    have HR0 := Aside0.mk (Option.some.inj h)
    clear h
    go_enter Tryd.func26, Tryd.ntmps26
    go_wp2
    go_loopw [3, 4] (fun v3 v4 wr => ∃ (k : Nat) (acc : List Int), v4 = .int .i64 k ∧ v3 = .string (strOfNums acc) ∧ k ≤ a0.size ∧ Aside0 (acc.length ≤ 3 * k) ∧ Aside0 (acc ++ hexL (decide (k = 0)) ((bytesOf a0).drop k) = hexL true (bytesOf a0)) ∧ Drawn0 w wr) (fun _ v4 _ => a0.size - (intOf v4).toNat)
    case atStart => exact ⟨0, [], rfl, rfl, by omega, ⟨by simp⟩, ⟨rfl⟩, Drawn0.refl _⟩
    case round =>
      obtain ⟨k, acc, rfl, rfl, hk, hl, hS, ⟨m, rfl⟩⟩ := hrel
      by_cases hlt : k < a0.size
      · have hbr := bt_range a0 (k : Int)
        obtain ⟨b, hb⟩ : ∃ b, bt a0 (k : Int) = b := ⟨_, rfl⟩
        have hlt2 : (k : Int) < (a0.size : Int) := by omega
        have hidx : ∀ W, (Instr.index 9 (.string a0) (.int .i64 (k : Int))).run Tryd.prog W = .ok (.int .u8 b) W := by
          intro W
          have e := bt_at a0 (k : Int) (by simpa using hlt)
          rw [hb] at e
          simp only [Int.toNat_natCast] at e
          go_simp
        have hd : (bytesOf a0).drop k = b :: (bytesOf a0).drop (k + 1) := by
          rw [← hb, ← rd_bytesOf]; exact Pure.drop_rd _ _ (by rw [bytesOf_length]; exact hlt)
        rw [hb] at hbr
        obtain ⟨b0, b1⟩ := hbr
        have HD := Aside0.mk hd
        have hs1 := fun W => cut_dig (v := b / 16) (by omega) (by omega) W
        have hs2 := fun W => cut_dig (v := b % 16) (by omega) (by omega) W
        have e1 : IntKind.u8.wrap (b.tdiv 16) = b / 16 := by rw [IntKind.wrap_u8, Int.tdiv_eq_ediv_of_nonneg b0]; omega
        have e2 : IntKind.u8.wrap (b / 16 + 1) = b / 16 + 1 := by rw [IntKind.wrap_u8]; omega
        have e3 : b.tmod 16 = b % 16 := Int.tmod_eq_emod_of_nonneg b0
        have e4 : IntKind.u8.wrap (b % 16 + 1) = b % 16 + 1 := by rw [IntKind.wrap_u8]; omega
        have e5 : IntKind.u8.wrap (b % 16) = b % 16 := by rw [IntKind.wrap_u8]; omega
        clear hd hb
        by_cases h0 : k = 0
        · have h0' : decide (0 < k) = false := decide_eq_false (by omega)
          have H0 := Aside0.mk h0
          clear h0
          go_wp2_with fail
          have eA : strOfNums acc ++ strOfNums [dig (b / 16)] = strOfNums (acc ++ [dig (b / 16)]) := strOfNums_append _ _
          have eB : strOfNums (acc ++ [dig (b / 16)]) ++ strOfNums [dig (b % 16)] = strOfNums (acc ++ [dig (b / 16)] ++ [dig (b % 16)]) := strOfNums_append _ _
          have z1 : (9223372036854775807 < (strOfNums acc).size + (strOfNums [dig (b / 16)]).size) = False := eq_false (by rw [size_str, size_str]; have := hl.out; simp; omega)
          have z2 : (9223372036854775807 < (strOfNums (acc ++ [dig (b / 16)])).size + (strOfNums [dig (b % 16)]).size) = False := eq_false (by rw [size_str, size_str]; have := hl.out; simp; omega)
          go_quiet (fail)
          clear eA eB z1 z2
          go_wp2
          go_roundw
          case rel =>
            refine ⟨k + 1, _, by go_num, rfl, by omega, ⟨by have := hl.out; simp; omega⟩, ⟨by have := hS.out; rw [HD.out, hexL] at this; rw [if_pos (decide_eq_true H0.out)] at this; rw [decide_eq_false (show ¬ k + 1 = 0 by omega)]; simpa using this⟩, ?_⟩
            repeat (first | exact Drawn0.refl _ | apply Drawn0.step)
          case measure => simp [intOf]; omega
        · have h0' : decide (0 < k) = true := decide_eq_true (by omega)
          have H0 := Aside0.mk h0
          clear h0
          obtain ⟨acc2, hac⟩ : ∃ l, acc ++ [32] = l := ⟨_, rfl⟩
          have hl2 : acc2.length ≤ 3 * k + 1 := by rw [← hac]; have := hl.out; simp; omega
          have q1 : (9223372036854775807 < (strOfNums acc).size + 1) = False := eq_false (by rw [size_str]; have := hl.out; omega)
          have q2 : (9223372036854775807 < (strOfNums acc).size + ({ data := #[32] } : ByteArray).size) = False := q1
          have q3 : strOfNums acc ++ { data := #[32] } = strOfNums acc2 := by rw [← hac, ← strOfNums_append]; rfl
          have HAC := Aside0.mk hac
          have hl := Aside0.mk hl2
          clear hac hl2
          go_wp2_with fail
          clear q1 q2 q3
          have eA : strOfNums acc2 ++ strOfNums [dig (b / 16)] = strOfNums (acc2 ++ [dig (b / 16)]) := strOfNums_append _ _
          have eB : strOfNums (acc2 ++ [dig (b / 16)]) ++ strOfNums [dig (b % 16)] = strOfNums (acc2 ++ [dig (b / 16)] ++ [dig (b % 16)]) := strOfNums_append _ _
          have z1 : (9223372036854775807 < (strOfNums acc2).size + (strOfNums [dig (b / 16)]).size) = False := eq_false (by rw [size_str, size_str]; have := hl.out; simp; omega)
          have z2 : (9223372036854775807 < (strOfNums (acc2 ++ [dig (b / 16)])).size + (strOfNums [dig (b % 16)]).size) = False := eq_false (by rw [size_str, size_str]; have := hl.out; simp; omega)
          go_quiet (fail)
          clear eA eB z1 z2
          go_wp2
          go_roundw
          case rel =>
            refine ⟨k + 1, _, by go_num, rfl, by omega, ⟨by have := hl.out; simp; omega⟩, ⟨by have := hS.out; rw [HD.out, hexL] at this; rw [if_neg (by simp [H0.out])] at this; rw [decide_eq_false (show ¬ k + 1 = 0 by omega)]; rw [← HAC.out]; simpa using this⟩, ?_⟩
            repeat (first | exact Drawn0.refl _ | apply Drawn0.step)
          case measure => simp [intOf]; omega
      · have e : acc = hexL true (bytesOf a0) := by
          have := hS.out
          rw [List.drop_eq_nil_of_le (by rw [bytesOf_length]; omega)] at this
          simpa [hexL] using this
        have E := Aside0.mk e
        clear e
        go_wp2
        go_ret
        exact ⟨by rw [← HR0.out, ← E.out]; rfl, pw_below_drewN (Below.refl _ _) m⟩
  · rw [if_neg hs] at h; cases h

end Go.Proofs.YtghcckbdfmpgjaaDoor.S
