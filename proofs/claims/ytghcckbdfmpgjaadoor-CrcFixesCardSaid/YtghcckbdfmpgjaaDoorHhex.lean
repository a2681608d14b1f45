/- crc.Hex, walked: two digits a byte, a blank ahead of all but the first. -/
import Derived.Outline
import Derived.Deep.RegionHeld3
import Derived.Test.YtghcckbdfmpgjaaDoorLits
import Derived.Test.YtghcckbdfmpgjaaDoorHsum
namespace Go.Proofs.YtghcckbdfmpgjaaDoor.S
open Go.RowKit Go.Proofs.YtghcckbdfmpgjaaDoorW.PrintWords Go.Proofs.YtghcckbdfmpgjaaDoorW.PrintLast Go.Proofs.YtghcckbdfmpgjaaDoorW.PrintMore
set_option linter.unusedVariables false
set_option linter.unusedSimpArgs false

/-- A digit. -/
def dig (v : Int) : Int := if v ≤ 9 then 48 + v else 87 + v
def hexL : Bool → List Int → List Int
  | _, [] => []
  | first, b :: bs => (if first = true then [] else [32]) ++ ([dig (b / 16), dig (b % 16)] ++ hexL false bs)
def crc_Hex.f (a0 : ByteArray) : Option ByteArray := if a0.size ≤ 1000000 then some (strOfNums (hexL true (bytesOf a0))) else none
theorem dig_fin : ∀ v : Fin 16, (bt ⟨#[48, 49, 50, 51, 52, 53, 54, 55, 56, 57, 97, 98, 99, 100, 101, 102]⟩ (v.val : Int)) = dig (v.val : Int) := by decide +kernel
theorem dig_bt {v : Int} (h : 0 ≤ v) (h' : v ≤ 15) : bt ⟨#[48, 49, 50, 51, 52, 53, 54, 55, 56, 57, 97, 98, 99, 100, 101, 102]⟩ v = dig v := by
  have := dig_fin ⟨v.toNat, by omega⟩
  simpa [Int.toNat_of_nonneg h] using this

theorem idx_dig {v : Int} (h : 0 ≤ v) (h' : v ≤ 15) (w : World) : (Instr.index 9 (.string { data := #[48, 49, 50, 51, 52, 53, 54, 55, 56, 57, 97, 98, 99, 100, 101, 102] }) (.int .u8 v)).run Tryd.prog w = .ok (.int .u8 (dig v)) w := by
  have p1 : (0 ≤ v) = True := eq_true h
  have p2 : v.toNat < (⟨#[48, 49, 50, 51, 52, 53, 54, 55, 56, 57, 97, 98, 99, 100, 101, 102]⟩ : ByteArray).size := by show v.toNat < 16; omega
  have p3 : v < ((⟨#[48, 49, 50, 51, 52, 53, 54, 55, 56, 57, 97, 98, 99, 100, 101, 102]⟩ : ByteArray).size : Int) := by show v < 16; omega
  have e := bt_at ⟨#[48, 49, 50, 51, 52, 53, 54, 55, 56, 57, 97, 98, 99, 100, 101, 102]⟩ v p2
  go_simp
  rw [if_pos (by omega), dig_bt h h']

set_option maxHeartbeats 2000000 in
set_option maxRecDepth 100000 in
theorem crc_Hex.calls (a0 : ByteArray) (r : ByteArray) (w : World) (h : crc_Hex.f a0 = some r) :
    Calls Tryd.prog 25 #[.string a0] w fun e w' => e = .returned (.string r) ∧ Below w.heap.size w w' := by
  unfold crc_Hex.f at h
  by_cases hs : a0.size ≤ 1000000
  · rw [if_pos hs] at h
    have HR0 := Aside0.mk (Option.some.inj h)
    clear h
    have kb := fun W => print_bytes (P := Tryd.prog) 9 23 5 Tryd.underlying9 Tryd.underlying23 Tryd.underlying5 a0 W
    go_enter Tryd.func25, Tryd.ntmps25
    go_wp2
    obtain ⟨cap, hcap⟩ : ∃ cap, grownCap w a0.size 0 5 = cap := ⟨_, rfl⟩
    try rw [hcap]
    obtain ⟨wb, hwb⟩ : ∃ wb, Lib.bytesWorld w 5 a0 = wb := ⟨_, rfl⟩
    rw [hwb]
    have hr : ReadsInt wb .u8 (some ⟨w.heap.size, 0, none⟩) a0.size (bytesOf a0) := by rw [← hwb]; exact bytes_reads w 5 a0 (by omega)
    have hB : Below w.heap.size w wb := by rw [← hwb]; exact bytes_below (Below.refl _ _) (Nat.le_refl _) 5 a0
    have hz : w.heap.size < wb.heap.size := by rw [← hwb, Lib.bytesWorld_size]; omega
    have HR := Aside0.mk hr
    have HB := Aside0.mk hB
    have HZ := Aside0.mk hz
    clear hwb hcap kb hr hB hz
    go_loopw [3, 4, 5, 9] (fun v3 v4 v5 v9 wr => ∃ (k : Nat) (acc : List Int), v9 = .int .i64 k ∧ k ≤ a0.size ∧ Aside0 (acc.length ≤ 3 * k) ∧ Aside0 (acc ++ hexL (decide (k = 0)) ((bytesOf a0).drop k) = hexL true (bytesOf a0)) ∧ Aside0 ((Kd.int .u8).R 5 wr wb.heap.size (fun _ => True) v3 acc) ∧ Aside0 (Below wb.heap.size wb wr)) (fun _ _ _ v9 _ => a0.size - (intOf v9).toNat)
    case atStart => exact ⟨0, [], rfl, by omega, ⟨by simp⟩, ⟨rfl⟩, ⟨Kd.R_nil _ _ _ _ _⟩, ⟨Below.refl _ _⟩⟩
    case round =>
      obtain ⟨k, acc, rfl, hk, hl, hS, hR, hB⟩ := hrel
      by_cases hlt : k < a0.size
      · have hr := HR.out
        obtain ⟨ad, e1, hc⟩ := hr.at_ (k : Int) (by omega) (by exact_mod_cast hlt)
        cases e1
        rw [Int.toNat_natCast, add_plain] at hc
        have hcell : wr.cell? ⟨w.heap.size, k, none⟩ = some (.int .u8 (rd (bytesOf a0) (k : Int))) := (hB.out.cell (p := ⟨w.heap.size, k, none⟩) HZ.out).trans hc
        have hbr := bt_range a0 (k : Int)
        rw [← rd_bytesOf] at hbr
        obtain ⟨b, hb⟩ : ∃ b, rd (bytesOf a0) (k : Int) = b := ⟨_, rfl⟩
        rw [hb] at hcell hbr
        have hll : (bytesOf a0).length = a0.size := bytesOf_length a0
        have hd : (bytesOf a0).drop k = b :: (bytesOf a0).drop (k + 1) := by rw [← hb]; exact Pure.drop_rd _ _ (by omega)
        have HD := Aside0.mk hd
        obtain ⟨b0, b1⟩ := hbr
        have hi1 := fun W => idx_dig (v := b / 16) (by omega) (by omega) W
        have hi2 := fun W => idx_dig (v := b % 16) (by omega) (by omega) W
        have ha := u8_and15 b b0 (show b < 256 by omega)
        clear hr hc hll hd hb
        by_cases h0 : k = 0
        · have h0' : decide (0 < k) = false := decide_eq_false (by omega)
          have H0 := Aside0.mk h0
          clear h0
          go_wp2_with fail
          have HR2 := hR
          have HB2 := hB
          have hl2 := hl.out
          go_region_held3 (fun _ => True) (exact trivial) ((refine Kd.R_append_rows_step (Kd.int .u8) (w0 := wb) wb.heap.size (by rfl) (.tmp 19) (.tmp 26) 23 5 (.int .u8 0) 1 (by rfl) Tryd.underlying23 info5 rfl (by decide) (by omega) u3 acc [dig (b / 16), dig (b % 16)] _ _ _ (fun _ => True) (fun _ => False) (by rfl) (by rfl) (by (with_reducible repeat (first | apply Kd.R_alloc | apply Kd.R_drewN | apply Kd.R_drew)); exact HR2.out) (C_lit2 _ _ _ _ _) (fun _ _ h => h) (fun _ hk => hk.elim) (fun _ _ => trivial) (by repeat (first | exact HB2.out | apply below_alloc | apply below_drew1)) (below_size (by repeat (first | exact HB2.out | apply below_alloc | apply below_drew1))) (by first | omega | (simp; omega)) ?_; intro v1 w1 ho hb hg hat; have HO := Aside0.mk ho; have HBB := Aside0.mk hb; clear ho hb hg hat))
          all_goals
            go_wp2
            go_roundw
            case rel => exact ⟨k + 1, _, by go_num, by omega, ⟨by simp; omega⟩, ⟨by have := hS.out; rw [HD.out, hexL] at this; rw [if_pos (decide_eq_true H0.out)] at this; rw [decide_eq_false (show ¬ k + 1 = 0 by omega)]; simpa using this⟩, ⟨HO.out⟩, ⟨HBB.out⟩⟩
            case measure => simp [intOf]; omega
        · have h0' : decide (0 < k) = true := decide_eq_true (by omega)
          have H0 := Aside0.mk h0
          clear h0
          go_wp2_with (at_builtin; refine Kd.R_append (Kd.int .u8) (w0 := wb) wb.heap.size rfl (.tmp 16) (.tmp 17) 23 5 (.int .u8 0) 1 rfl Tryd.underlying23 info5 rfl (by decide) (by omega) u3 acc 32 [.int .u8 32] (fun _ => True) (fun _ => False) rfl rfl rfl (fun _ hk => hk.elim) (fun _ _ => trivial) hR.out hB.out (below_size hB.out) (by have := hl.out; omega) ?_; intro v2 w2 ho hb hg hat; have HR2 := Aside0.mk ho; have HB2 := Aside0.mk hb; clear ho hb hg hat)
          have hl2 := hl.out
          go_region_held3 (fun _ => True) (exact trivial) ((refine Kd.R_append_rows_step (Kd.int .u8) (w0 := wb) wb.heap.size (by rfl) (.tmp 19) (.tmp 26) 23 5 (.int .u8 0) 1 (by rfl) Tryd.underlying23 info5 rfl (by decide) (by omega) v2 (acc ++ [32]) [dig (b / 16), dig (b % 16)] _ _ _ (fun _ => True) (fun _ => False) (by rfl) (by rfl) (by (with_reducible repeat (first | apply Kd.R_alloc | apply Kd.R_drewN | apply Kd.R_drew)); exact HR2.out) (C_lit2 _ _ _ _ _) (fun _ _ h => h) (fun _ hk => hk.elim) (fun _ _ => trivial) (by repeat (first | exact HB2.out | apply below_alloc | apply below_drew1)) (below_size (by repeat (first | exact HB2.out | apply below_alloc | apply below_drew1))) (by first | omega | (simp; omega)) ?_; intro v1 w1 ho hb hg hat; have HO := Aside0.mk ho; have HBB := Aside0.mk hb; clear ho hb hg hat))
          all_goals
            go_wp2
            go_roundw
            case rel => exact ⟨k + 1, _, by go_num, by omega, ⟨by simp; omega⟩, ⟨by have := hS.out; rw [HD.out, hexL] at this; rw [if_neg (by simp [H0.out])] at this; rw [decide_eq_false (show ¬ k + 1 = 0 by omega)]; simpa using this⟩, ⟨HO.out⟩, ⟨HBB.out⟩⟩
            case measure => simp [intOf]; omega
      · have e : acc = hexL true (bytesOf a0) := by
          have := hS.out
          rw [List.drop_eq_nil_of_le (by rw [bytesOf_length]; omega)] at this
          simpa [hexL] using this
        have hcv := own_string (P := Tryd.prog) Tryd.underlying23 Tryd.underlying5 Tryd.underlying9 (Kd.own_of_R hR.out)
        have E := Aside0.mk e
        clear e
        go_wp2
        go_ret
        exact ⟨by rw [← HR0.out, ← E.out]; rfl, HB.out.trans (hB.out.mono (by have := HZ.out; omega))⟩
  · rw [if_neg hs] at h; cases h

end Go.Proofs.YtghcckbdfmpgjaaDoor.S
