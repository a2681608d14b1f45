/- crc.Sum, walked: the bytes of a text, each taken in. -/
import Derived.Outline
import Derived.Test.YtghcckbdfmpgjaaDoorHturn
import Derived.Test.YtghcckbdfmpgjaaDoorNums
namespace Go.Proofs.YtghcckbdfmpgjaaDoor.S
open Go.RowKit Go.Proofs.YtghcckbdfmpgjaaDoorW.PrintWords Go.Proofs.YtghcckbdfmpgjaaDoorW.PrintLast Go.Proofs.YtghcckbdfmpgjaaDoorW.PrintMore
set_option linter.unusedVariables false
set_option linter.unusedSimpArgs false

def turn2 (x : Int) : Int := turn1 (turn1 x)
theorem turn2_range {x : Int} (h : 0 ≤ x) (h' : x ≤ 255) : 0 ≤ turn2 x ∧ turn2 x ≤ 255 := turn1_range (turn1_range h h').1 (turn1_range h h').2
theorem turn_f {x : Int} (h : 0 ≤ x) (h' : x ≤ 255) : crc_turn.f x = some (turn2 x) := by unfold crc_turn.f; rw [if_pos ⟨h, h'⟩]; rfl
theorem xor_nat (a b : Nat) (ha : a < 256) (hb : b < 256) : Go.bits .xor .u8 (a : Int) (b : Int) = ((a ^^^ b : Nat) : Int) := by
  have ha' : a % 2 ^ 8 = a := Nat.mod_eq_of_lt ha
  have hb' : b % 2 ^ 8 = b := Nat.mod_eq_of_lt hb
  have hx : a ^^^ b < 2 ^ 8 := Nat.xor_lt_two_pow ha hb
  have e8 : IntKind.u8.bits = 8 := rfl
  simp only [Go.bits, BitVec.ofInt_natCast, BitVec.toNat_xor, BitVec.toNat_ofNat, e8, ha', hb']
  exact wraps_u8 _ (Int.natCast_nonneg _) (by exact_mod_cast hx)
theorem xor_range {a b : Int} (ha : 0 ≤ a) (ha' : a ≤ 255) (hb : 0 ≤ b) (hb' : b ≤ 255) : 0 ≤ Go.bits .xor .u8 a b ∧ Go.bits .xor .u8 a b ≤ 255 := by
  obtain ⟨m, rfl⟩ := Int.eq_ofNat_of_zero_le ha
  obtain ⟨n, rfl⟩ := Int.eq_ofNat_of_zero_le hb
  rw [xor_nat m n (by omega) (by omega)]
  have hx : m ^^^ n < 2 ^ 8 := Nat.xor_lt_two_pow (by omega) (by omega)
  omega
def sumL : List Int → Int → Int
  | [], c => c
  | b :: bs, c => sumL bs (turn2 (Go.bits .xor .u8 c b))
def crc_Sum.f (a0 : ByteArray) : Option Int := if a0.size ≤ 9223372036854775807 then some (sumL (bytesOf a0) 0) else none
theorem turn_any (x : Int) (w : World) (HL : LaidAt w) (h : 0 ≤ x) (h' : x ≤ 255) : Calls Tryd.prog 28 #[.int .u8 x] w fun e w' => e = .returned (.int .u8 (turn2 x)) ∧ Drawn0 w w' := crc_turn.calls x _ w HL (turn_f h h')

set_option maxHeartbeats 1000000 in
set_option maxRecDepth 100000 in
theorem crc_Sum.calls (a0 : ByteArray) (r : Int) (w : World) (HL_ : LaidAt w) (h : crc_Sum.f a0 = some r) :
    Calls Tryd.prog 12 #[.string a0] w fun e w' => e = .returned (.int .u8 r) ∧ Below w.heap.size w w' := by
  unfold crc_Sum.f at h
  by_cases hs : a0.size ≤ 9223372036854775807
  · rw [if_pos hs] at h
    obtain rfl := Option.some.inj h
    clear h
    have kb := fun W => print_bytes (P := Tryd.prog) 9 23 5 Tryd.underlying9 Tryd.underlying23 Tryd.underlying5 a0 W
    go_enter Tryd.func12, Tryd.ntmps12
    go_wp2
    obtain ⟨cap, hcap⟩ : ∃ cap, grownCap w a0.size 0 5 = cap := ⟨_, rfl⟩
    try rw [hcap]
    obtain ⟨wb, hwb⟩ : ∃ wb, Lib.bytesWorld w 5 a0 = wb := ⟨_, rfl⟩
    rw [hwb]
    have hr : ReadsInt wb .u8 (some ⟨w.heap.size, 0, none⟩) a0.size (bytesOf a0) := by rw [← hwb]; exact bytes_reads w 5 a0 hs
    have hB : Below w.heap.size w wb := by rw [← hwb]; exact bytes_below (Below.refl _ _) (Nat.le_refl _) 5 a0
    have HR := Aside0.mk hr
    have HB := Aside0.mk hB
    have HLb := HL_.below hB
    clear hwb hcap kb hr hB
    go_loopw [3, 5, 9] (fun v3 v5 v9 wr => ∃ (k : Nat) (c : Int), v3 = .int .u8 c ∧ v9 = .int .i64 k ∧ k ≤ a0.size ∧ 0 ≤ c ∧ c ≤ 255 ∧ Aside0 (sumL ((bytesOf a0).drop k) c = sumL (bytesOf a0) 0) ∧ Drawn0 wb wr) (fun _ _ v9 _ => a0.size - (intOf v9).toNat)
    case atStart => exact ⟨0, 0, rfl, rfl, by omega, by omega, by omega, ⟨rfl⟩, Drawn0.refl _⟩
    case round =>
      obtain ⟨k, c, rfl, rfl, hk, hc0, hc1, hS, ⟨m, rfl⟩⟩ := hrel
      by_cases hlt : k < a0.size
      · have hr := HR.out
        obtain ⟨ad, e1, hc⟩ := hr.at_ (k : Int) (by omega) (by exact_mod_cast hlt)
        cases e1
        rw [Int.toNat_natCast, add_plain] at hc
        have hcell : (wb.drewN m).cell? ⟨w.heap.size, k, none⟩ = some (.int .u8 (rd (bytesOf a0) (k : Int))) := hc
        have hbr := bt_range a0 (k : Int)
        rw [← rd_bytesOf] at hbr
        have hx := xor_range hc0 hc1 hbr.1 hbr.2
        have hl : (bytesOf a0).length = a0.size := bytesOf_length a0
        have hd : (bytesOf a0).drop k = rd (bytesOf a0) (k : Int) :: (bytesOf a0).drop (k + 1) := Pure.drop_rd _ _ (by omega)
        have ht := turn2_range hx.1 hx.2
        have HX := Aside0.mk hx
        have HD := Aside0.mk hd
        have HT := Aside0.mk ht
        have HL2 := HLb.drewN m
        clear hbr hr hc hl hd hx ht
        go_wp2_with fail
        refine (turn_any _ _ HL2 HX.out.1 HX.out.2).mono ?_
        rintro e w' ⟨rfl, m2, rfl⟩
        go_wp2
        go_roundw
        case rel => exact ⟨k + 1, _, rfl, by go_num, by omega, HT.out.1, HT.out.2, ⟨by have := hS.out; rw [HD.out] at this; exact this⟩, by repeat (first | exact Drawn0.refl _ | apply Drawn0.step)⟩
        case measure => simp [intOf]; omega
      · have e : sumL (bytesOf a0) 0 = c := by
          have := hS.out
          rw [List.drop_eq_nil_of_le (by rw [bytesOf_length]; omega)] at this
          exact this.symm
        have E := Aside0.mk e
        clear hS e
        go_wp2
        go_ret
        exact ⟨by rw [E.out]; rfl, pw_below_drewN HB.out m⟩
  · rw [if_neg hs] at h; cases h

end Go.Proofs.YtghcckbdfmpgjaaDoor.S
