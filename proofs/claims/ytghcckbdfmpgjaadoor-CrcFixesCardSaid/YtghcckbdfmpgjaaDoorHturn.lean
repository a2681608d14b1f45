/- crc.turn, walked: eight doublings, by the table of halves. -/
import Derived.Outline
import Derived.Test.YtghcckbdfmpgjaaDoorLay
namespace Go.Proofs.YtghcckbdfmpgjaaDoor.S
open Go.RowKit Go.Proofs.YtghcckbdfmpgjaaDoorW.PrintWords Go.Proofs.YtghcckbdfmpgjaaDoorW.PrintLast Go.Proofs.YtghcckbdfmpgjaaDoorW.PrintMore
set_option linter.unusedVariables false
set_option linter.unusedSimpArgs false

/-- Four doublings. -/
def turn1 (x : Int) : Int := Go.bits .xor .u8 ((x * 16) % 256) (halvesL.getD (x / 16).toNat 0)
def crc_turn.f (a0 : Int) : Option Int := if 0 ≤ a0 ∧ a0 ≤ 255 then some (turn1 (turn1 a0)) else none
theorem turn1_fin : ∀ x : Fin 256, 0 ≤ turn1 (x.val : Int) ∧ turn1 (x.val : Int) ≤ 255 := by decide +kernel
theorem turn1_range {x : Int} (h : 0 ≤ x) (h' : x ≤ 255) : 0 ≤ turn1 x ∧ turn1 x ≤ 255 := by
  have := turn1_fin ⟨x.toNat, by omega⟩
  simpa [Int.toNat_of_nonneg h] using this

set_option maxHeartbeats 1000000 in
theorem crc_turn.calls (a0 : Int) (r : Int) (w : World) (HL_ : LaidAt w) (h : crc_turn.f a0 = some r) :
    Calls Tryd.prog 28 #[.int .u8 a0] w fun e w' => e = .returned (.int .u8 r) ∧ Drawn0 w w' := by
  unfold crc_turn.f at h
  by_cases hr : 0 ≤ a0 ∧ a0 ≤ 255
  · rw [if_pos hr] at h
    have HR := Aside0.mk (Option.some.inj h)
    obtain ⟨h0, h1⟩ := hr
    clear h
    go_enter Tryd.func28, Tryd.ntmps28
    go_wp2
    go_loop [0, 3] (fun v0 v3 => ∃ (k : Nat) (x : Int), v3 = .int .i64 k ∧ v0 = .int .u8 x ∧ k ≤ 2 ∧ 0 ≤ x ∧ x ≤ 255 ∧ Aside0 ((if k = 0 then turn1 (turn1 x) else if k = 1 then turn1 x else x) = r)) (fun _ v3 => 2 - (intOf v3).toNat)
    case atStart => exact ⟨0, a0, rfl, rfl, by omega, h0, h1, HR⟩
    case round =>
      obtain ⟨k, x, rfl, rfl, hk, hx0, hx1, hR⟩ := hrel
      by_cases hlt : k < 2
      · have hc := HL_.out (x / 16).toNat (by omega)
        have hi : (x / 16).toNat < 16 := by omega
        have h16 : 0 ≤ x / 16 := by omega
        have ht := turn1_range hx0 hx1
        have HT := Aside0.mk ht
        clear ht
        go_wp2
        go_round
        case rel =>
          refine ⟨k + 1, turn1 x, by go_num, by simp [turn1], by omega, HT.out.1, HT.out.2, ⟨?_⟩⟩
          rw [← hR.out]
          rcases (show k = 0 ∨ k = 1 by omega) with rfl | rfl <;> rfl
        case measure => simp [intOf]; omega
      · have e : x = r := by
          have := hR.out
          rw [if_neg (by omega), if_neg (by omega)] at this
          exact this
        subst e
        clear hR HR
        go_wp2
        go_ret
        exact ⟨rfl, Drawn0.refl _⟩
  · rw [if_neg hr] at h; cases h

end Go.Proofs.YtghcckbdfmpgjaaDoor.S
