/- tipstafflaw04.CrcTells, walked: texts that differ in one byte, or in two neighbouring bits, have other checksums. -/
import Derived.Outline
import Derived.Deep.RegionLaw
import Derived.Test.YtghcckbdfmpgjaaDoorCrcTwo
import Derived.Test.YtghcckbdfmpgjaaDoorKitMod
namespace Go.Proofs.YtghcckbdfmpgjaaDoor.S
open Go.RowKit Go.Proofs.YtghcckbdfmpgjaaDoorW.PrintWords Go.Proofs.YtghcckbdfmpgjaaDoorW.PrintLast Go.Proofs.YtghcckbdfmpgjaaDoorW.PrintMore
set_option linter.unusedVariables false
set_option linter.unusedSimpArgs false
open Go.Proofs.YtghcckbdfmpgjaaDoor.Pure (I64 U8 xr bytes_of)

def tipstafflaw04_CrcTells.f (a0 : ByteArray) (a1 a2 : Int) : Option Bool := if a0.size ≤ 140737488351232 ∧ (-9223372036854775808 ≤ a1 ∧ a1 ≤ 9223372036854775807) ∧ (-9223372036854775808 ≤ a2 ∧ a2 ≤ 9223372036854775807) then some true else none

theorem awake_any (w : World) (HL : LaidAt w) : Calls Tryd.prog 10 #[] w fun e w' => e = .returned (.bool true) ∧ Below w.heap.size w w' := tipstafflaw04_awake.calls 100 true w HL (Pure.awake_val (by omega))
theorem mod_any (a b : Int) (ha : I64 a) (hb : 1 ≤ b) (hb' : b ≤ 1000000) (w : World) : Calls Tryd.prog 11 #[.int .i64 a, .int .i64 b] w fun e w' => e = .returned (.int .i64 (a % b)) ∧ Drawn0 w w' := tipstaffkit_Mod.calls a b _ w (Pure.mod_val a b ha hb (by omega))

set_option maxHeartbeats 4000000 in
set_option maxRecDepth 100000 in
theorem tipstafflaw04_CrcTells.calls (a0 : ByteArray) (a1 a2 : Int) (r : Bool) (w : World) (HL_ : LaidAt w) (h : tipstafflaw04_CrcTells.f a0 a1 a2 = some r) :
    Calls Tryd.prog 3 #[.string a0, .int .i64 a1, .int .i64 a2] w fun e w' => e = .returned (.bool r) ∧ Below w.heap.size w w' := by
  unfold tipstafflaw04_CrcTells.f at h
  by_cases hc : a0.size ≤ 140737488351232 ∧ (-9223372036854775808 ≤ a1 ∧ a1 ≤ 9223372036854775807) ∧ (-9223372036854775808 ≤ a2 ∧ a2 ≤ 9223372036854775807)
  · rw [if_pos hc] at h
    obtain rfl := Option.some.inj h
    obtain ⟨hs, h1, h2⟩ := hc
    have H1 : Aside0 (I64 a1) := ⟨h1⟩
    have H2 : Aside0 (I64 a2) := ⟨h2⟩
    clear h h1 h2
    by_cases hz : a0.size = 0
    · have z1 : ((a0.size : Int) == 0) = true := by rw [hz]; rfl
      have HZ := Aside0.mk hz
      clear hz
      go_enter Tryd.func3, Tryd.ntmps3
      go_wp2_with fail
      refine (awake_any _ HL_).mono ?_
      rintro e w' ⟨rfl, hb⟩
      go_wp2
      go_ret
      exact ⟨rfl, hb⟩
    · have z1 : ((a0.size : Int) == 0) = false := by rw [beq_eq_false_iff_ne]; omega
      have HZ := Aside0.mk hz
      clear hz
      by_cases hg : 300 < a0.size
      · have z2 : decide (300 < (a0.size : Int)) = true := decide_eq_true (by omega)
        go_enter Tryd.func3, Tryd.ntmps3
        go_wp2_with fail
        refine (awake_any _ HL_).mono ?_
        rintro e w' ⟨rfl, hb⟩
        go_wp2
        go_ret
        exact ⟨rfl, hb⟩
      · obtain ⟨i, hi⟩ := Int.eq_ofNat_of_zero_le (Int.emod_nonneg a1 (show (a0.size : Int) ≠ 0 by have := HZ.out; omega))
        have hilt : i < a0.size := by have := Int.emod_lt_of_pos a1 (show (0 : Int) < a0.size by have := HZ.out; omega); omega
        have HI := Aside0.mk hi
        have z2 : decide (300 < (a0.size : Int)) = false := decide_eq_false (by omega)
        clear hi
        have kb := fun W => print_bytes (P := Tryd.prog) 9 23 5 Tryd.underlying9 Tryd.underlying23 Tryd.underlying5 a0 W
        go_enter Tryd.func3, Tryd.ntmps3
        go_wp2_with fail
        obtain ⟨cap, hcap⟩ : ∃ cap, grownCap w a0.size 0 5 = cap := ⟨_, rfl⟩
        try rw [hcap]
        obtain ⟨wb, hwb⟩ : ∃ wb, Lib.bytesWorld w 5 a0 = wb := ⟨_, rfl⟩
        rw [hwb]
        have hbb : BB wb w.heap.size (bytesOf a0) := by rw [← hwb]; exact BB.made w a0
        have hB : Below w.heap.size w wb := by rw [← hwb]; exact bytes_below (Below.refl _ _) (Nat.le_refl _) 5 a0
        have HBB := Aside0.mk hbb
        have HB := Aside0.mk hB
        clear hwb hcap hbb hB
        refine (mod_any a1 (a0.size : Int) H1.out (by have := HZ.out; omega) (by omega) _).mono ?_
        rintro e w' ⟨rfl, m, rfl⟩
        rw [HI.out]
        obtain ⟨x, hx, hxlt⟩ := Pure.u8_nat (bytes_of a0 ((bytesOf a0)[i]'(by rw [bytesOf_length]; exact hilt)) (List.getElem_mem _))
        have hcell : ∀ q, (wb.drewN q).cell? ⟨w.heap.size, i, none⟩ = some (.int .u8 (x : Int)) := by
          intro q
          have := HBB.out.cell i (by rw [bytesOf_length]; exact hilt)
          rw [List.getD_eq_getElem?_getD, List.getElem?_eq_getElem (by rw [bytesOf_length]; exact hilt), Option.getD_some, hx] at this
          exact this
        have hfr : ∀ q, (wb.drewN q).frozen? ⟨w.heap.size, i, none⟩ = false := fun q => HBB.out.frozen i (by rw [bytesOf_length]; exact hilt)
        have HX := Aside0.mk hx
        clear hx
        obtain ⟨dl, hdl⟩ : ∃ dl, a2 % 255 = dl := ⟨_, rfl⟩
        have hd0 : 0 ≤ dl ∧ dl ≤ 254 := by omega
        obtain ⟨hd0, hd1⟩ := hd0
        have e1 : IntKind.i64.wrap (1 + dl) = 1 + dl := by rw [IntKind.wrap_i64]; omega
        have e2 : IntKind.u8.wrap (1 + dl) = 1 + dl := by rw [IntKind.wrap_u8]; omega
        have hmod : ∀ W, Calls Tryd.prog 11 #[.int .i64 a2, .int .i64 255] W fun e w' => e = .returned (.int .i64 dl) ∧ Drawn0 W w' := fun W => by
          have := mod_any a2 255 H2.out (by omega) (by omega) W
          rw [hdl] at this
          exact this
        have HMOD := Aside0.mk hmod
        have HDL := Aside0.mk hdl
        clear hdl hmod
        obtain ⟨y, hy⟩ : ∃ y, Go.bits .xor .u8 (x : Int) (1 + dl) = y := ⟨_, rfl⟩
        go_wp2_with fail
        go_region_law ((go_simp; go_at_call 11; refine (HMOD.out _).mono ?_; rintro e w' ⟨rfl, m2, rfl⟩))
        all_goals
          clear hcell hfr e1 e2
          have hxl : x < 256 := hxlt
          have hbl : (bytesOf a0).length = a0.size := bytesOf_length a0
          have ux : U8 (x : Int) := ⟨by omega, by omega⟩
          have uy : U8 y := by rw [← hy]; exact Pure.xr_u8 ux ⟨by omega, by omega⟩
          have hne : sumL ((bytesOf a0).set i y) 0 ≠ sumL (bytesOf a0) 0 := by
            intro e
            have hself : (bytesOf a0).set i (x : Int) = bytesOf a0 := by rw [← HX.out]; exact List.set_getElem_self (by omega)
            have e3 : sumL ((bytesOf a0).set i y) 0 = sumL ((bytesOf a0).set i (x : Int)) 0 := by rw [e, hself]
            have e4 := Pure.set_inj (bytes_of a0) i (by omega) uy ux e3
            have e5 : xr (x : Int) (1 + dl) = xr (x : Int) 0 := (show xr (x : Int) (1 + dl) = y from hy).trans <| e4.trans (Pure.xr_zero ux).symm
            have := Pure.xr_inj' (show U8 (1 + dl) from ⟨by omega, by omega⟩) Pure.u8_0 ux e5
            omega
          have hq : (sumL ((bytesOf a0).set i y) 0 == sumL (bytesOf a0) 0) = false := beq_eq_false_iff_ne.2 hne
          have hlen : ((bytesOf a0).set i y).length = a0.size := by rw [List.length_set, hbl]
          have hB2 := fun q => (show BB (wb.drewN q) w.heap.size (bytesOf a0) from HBB.out).set i y
          have hcv := fun q => string_of_reads (P := Tryd.prog) Tryd.underlying23 Tryd.underlying5 Tryd.underlying9 (c := cap) ((hB2 q).reads (by rw [hlen]; omega))
          rw [hlen] at hcv
          have hBel := fun q => (pw_below_drewN HB.out q).setCell (p := ⟨w.heap.size, i, none⟩) (Nat.le_refl _) (.int .u8 y)
          have hss : (strOfNums ((bytesOf a0).set i y)).size ≤ 9223372036854775807 := by rw [size_str, hlen]; omega
          have hsum : sumL (bytesOf (strOfNums ((bytesOf a0).set i y))) 0 = sumL ((bytesOf a0).set i y) 0 := by rw [Pure.bytes_str ((bytes_of a0).set i uy)]
          have HBEL := Aside0.mk hBel
          have HSS := Aside0.mk hss
          have HSUM := Aside0.mk hsum
          have HQ := Aside0.mk hq
          clear hy hxl hbl ux uy hne hq hlen hB2 hBel hss hsum
          go_wp2_with fail
          refine (sum_any _ HSS.out _ (HL_.below (HBEL.out _))).mono ?_
          rintro e w2 ⟨rfl, hb2⟩
          rw [HSUM.out]
          have hw2 := (HBEL.out _).trans (hb2.mono (HBEL.out _).size)
          have HW2 := Aside0.mk hw2
          clear hb2 hw2 hcv
          go_wp2_with fail
          refine (sum_any a0 (by omega) _ (HL_.below HW2.out)).mono ?_
          rintro e w3 ⟨rfl, hb3⟩
          have hq := HQ.out
          have HW3 := Aside0.mk (HW2.out.trans (hb3.mono HW2.out.size))
          clear hb3 HW2 HBEL HBB HB HDL
          go_wp2_with fail
          obtain ⟨cap2, hcap⟩ : ∃ cap2, grownCap w3 a0.size 0 5 = cap2 := ⟨_, rfl⟩
          try rw [hcap]
          obtain ⟨w4, hw4⟩ : ∃ w4, Lib.bytesWorld w3 5 a0 = w4 := ⟨_, rfl⟩
          rw [hw4]
          obtain ⟨B, hBB⟩ : ∃ B, w3.heap.size = B := ⟨_, rfl⟩
          rw [hBB]
          have hbb : BB w4 B (bytesOf a0) := by rw [← hw4, ← hBB]; exact BB.made w3 a0
          have hB : Below w.heap.size w w4 := by rw [← hw4]; exact bytes_below HW3.out HW3.out.size 5 a0
          have hle : w.heap.size ≤ B := by rw [← hBB]; exact HW3.out.size
          have HBB := Aside0.mk hbb
          have HB := Aside0.mk hB
          have HLE := Aside0.mk hle
          clear hw4 hcap hbb hB HW3 hq HSUM HSS hBB hle kb
          obtain ⟨t, ht⟩ := Int.eq_ofNat_of_zero_le (Int.emod_nonneg a2 (show (8 * (a0.size : Int) - 1) ≠ 0 by omega))
          have htlt : t < 8 * a0.size - 1 := by have := Int.emod_lt_of_pos a2 (show (0 : Int) < 8 * (a0.size : Int) - 1 by have := HZ.out; omega); omega
          refine (mod_any a2 (8 * (a0.size : Int) - 1) H2.out (by have := HZ.out; omega) (by omega) _).mono ?_
          rintro e w' ⟨rfl, m5, rfl⟩
          rw [ht]
          have hbl : (bytesOf a0).length = a0.size := bytesOf_length a0
          have hc1 : ∀ q, (w4.drewN q).cell? ⟨B, t / 8, none⟩ = some (.int .u8 ((bytesOf a0).getD (t / 8) 0)) := fun q => HBB.out.cell (t / 8) (by omega)
          have hf1 : ∀ q, (w4.drewN q).frozen? ⟨B, t / 8, none⟩ = false := fun q => HBB.out.frozen (t / 8) (by omega)
          obtain ⟨x1, hx1⟩ : ∃ x1, (bytesOf a0).getD (t / 8) 0 = x1 := ⟨_, rfl⟩
          rw [hx1] at hc1
          obtain ⟨y1, hy1⟩ : ∃ y1, Go.bits .xor .u8 x1 (128 / 2 ^ (t % 8)) = y1 := ⟨_, rfl⟩
          have hb1 := fun q => (show BB (w4.drewN q) B (bytesOf a0) from HBB.out).set (t / 8) y1
          have hl1 : ((bytesOf a0).set (t / 8) y1).length = a0.size := by rw [List.length_set, hbl]
          have hc2 := fun q => (hb1 q).cell ((t + 1) / 8) (by omega)
          have hf2 := fun q => (hb1 q).frozen ((t + 1) / 8) (by omega)
          obtain ⟨x2, hx2⟩ : ∃ x2, ((bytesOf a0).set (t / 8) y1).getD ((t + 1) / 8) 0 = x2 := ⟨_, rfl⟩
          rw [hx2] at hc2
          obtain ⟨y2, hy2⟩ : ∃ y2, Go.bits .xor .u8 x2 (128 / 2 ^ ((t + 1) % 8)) = y2 := ⟨_, rfl⟩
          have q1 : y1 = xr ((bytesOf a0).getD (t / 8) 0) (128 / 2 ^ (t % 8)) := by rw [hx1]; exact hy1.symm
          have q2 : y2 = xr (((bytesOf a0).set (t / 8) y1).getD ((t + 1) / 8) 0) (128 / 2 ^ ((t + 1) % 8)) := by rw [hx2]; exact hy2.symm
          have hub := Pure.two_bytes (bytes_of a0) t (by omega) q1 q2
          have hne := Pure.two_bits (bytes_of a0) t (by omega) q1 q2
          have hb2 := fun q => (hb1 q).set ((t + 1) / 8) y2
          obtain ⟨l2, hl2⟩ : ∃ l2, ((bytesOf a0).set (t / 8) y1).set ((t + 1) / 8) y2 = l2 := ⟨_, rfl⟩
          have hll : l2.length = a0.size := by rw [← hl2, List.length_set, hl1]
          rw [hl2] at hub hne hb2
          have hcv := fun q => string_of_reads (P := Tryd.prog) Tryd.underlying23 Tryd.underlying5 Tryd.underlying9 (c := cap2) ((hb2 q).reads (by rw [hll]; omega))
          rw [hll] at hcv
          have hq : (sumL l2 0 != sumL (bytesOf a0) 0) = true := bne_iff_ne.2 hne
          have hBel := fun q => ((pw_below_drewN HB.out q).setCell (p := ⟨B, t / 8, none⟩) HLE.out (.int .u8 y1)).setCell (p := ⟨B, (t + 1) / 8, none⟩) HLE.out (.int .u8 y2)
          have hss : (strOfNums l2).size ≤ 9223372036854775807 := by rw [size_str, hll]; omega
          have hsum : sumL (bytesOf (strOfNums l2)) 0 = sumL l2 0 := by rw [Pure.bytes_str hub]
          have HBEL := Aside0.mk hBel
          have HSS := Aside0.mk hss
          have HSUM := Aside0.mk hsum
          have HQ := Aside0.mk hq
          have r1 : t / 8 < a0.size := by omega
          have r2 : (t + 1) / 8 < a0.size := by omega
          clear ht hx1 hbl hb1 hl1 hx2 q1 q2 hub hne hb2 hl2 hll hq hBel hss hsum
          go_wp2_with fail
          refine (sum_any _ HSS.out _ (HL_.below (HBEL.out _))).mono ?_
          rintro e w6 ⟨rfl, hb6⟩
          rw [HSUM.out]
          have HW6 := Aside0.mk ((HBEL.out _).trans (hb6.mono (HBEL.out _).size))
          clear hb6 hcv hc1 hf1 hc2 hf2 hy1 hy2
          go_wp2_with fail
          refine (sum_any a0 (by omega) _ (HL_.below HW6.out)).mono ?_
          rintro e w7 ⟨rfl, hb7⟩
          have hq := HQ.out
          have HW7 := Aside0.mk (HW6.out.trans (hb7.mono HW6.out.size))
          clear hb7
          go_wp2_with fail
          refine (awake_any _ (HL_.below HW7.out)).mono ?_
          rintro e w8 ⟨rfl, hb8⟩
          have HW8 := Aside0.mk (HW7.out.trans (hb8.mono HW7.out.size))
          clear hb8
          go_wp2
          go_ret
          exact ⟨rfl, HW8.out⟩
  · rw [if_neg hc] at h; cases h

end Go.Proofs.YtghcckbdfmpgjaaDoor.S
