/- crc.Fix, walked: all bytes are tried at a place, until the text has the wanted checksum. -/
import Derived.Outline
import Derived.Test.YtghcckbdfmpgjaaDoorHsum
namespace Go.Proofs.YtghcckbdfmpgjaaDoor.S
open Go.RowKit Go.Proofs.YtghcckbdfmpgjaaDoorW.PrintWords Go.Proofs.YtghcckbdfmpgjaaDoorW.PrintLast Go.Proofs.YtghcckbdfmpgjaaDoorW.PrintMore
set_option linter.unusedVariables false
set_option linter.unusedSimpArgs false

/-- From the byte b on, so many; what stands there now. -/
def fixGo (xs : List Int) (i : Nat) (want : Int) : Nat → Nat → List Int → List Int
  | 0, _, cur => cur
  | d + 1, b, _ => if sumL (bytesOf (strOfNums (xs.set i b))) 0 = want then xs.set i b else fixGo xs i want d (b + 1) (xs.set i b)
def crc_Fix.f (a0 : ByteArray) (a1 : Int) (a2 : Int) : Option (ByteArray × Int) :=
  if a1 < 0 ∨ a1 ≥ a0.size then some (⟨#[]⟩, 2)
  else if a0.size ≤ 1000000 then some (strOfNums (fixGo (bytesOf a0) a1.toNat a2 256 0 (bytesOf a0)), 0) else none

/-- A block of bytes that a conversion made. -/
def BB (w : World) (B : Nat) (xs : List Int) : Prop := ∃ cs fr, w.heap[B]? = some (.cells cs 5 fr) ∧ xs.length ≤ fr.1 ∧ ∀ j, j < xs.length → cs[j]? = some (.int .u8 (xs.getD j 0))
theorem BB.cell {w : World} {B : Nat} {xs : List Int} (h : BB w B xs) (j : Nat) (hj : j < xs.length) : w.cell? ⟨B, j, none⟩ = some (.int .u8 (xs.getD j 0)) := by
  obtain ⟨cs, fr, h1, _, h3⟩ := h
  exact (cell_of_row w B j cs 5 fr h1).trans (h3 j hj)
theorem BB.frozen {w : World} {B : Nat} {xs : List Int} (h : BB w B xs) (j : Nat) (hj : j < xs.length) : w.frozen? ⟨B, j, none⟩ = false := by
  obtain ⟨cs, ⟨lo, hi⟩, h1, h2, _⟩ := h
  simp only at h2
  simp [World.frozen?, h1]; omega
theorem BB.lt {w : World} {B : Nat} {xs : List Int} (h : BB w B xs) : B < w.heap.size := by
  obtain ⟨cs, fr, h1, _⟩ := h
  exact (Array.getElem?_eq_some_iff.1 h1).1
theorem BB.below {w w' : World} {B : Nat} {xs : List Int} (h : BB w B xs) (hb : Below w.heap.size w w') : BB w' B xs := by
  obtain ⟨cs, fr, h1, h2, h3⟩ := h
  exact ⟨cs, fr, (hb.block B (Array.getElem?_eq_some_iff.1 h1).1).trans h1, h2, h3⟩
theorem BB.set {w : World} {B : Nat} {xs : List Int} (h : BB w B xs) (i : Nat) (v : Int) : BB (w.setCell ⟨B, i, none⟩ (.int .u8 v)) B (xs.set i v) := by
  obtain ⟨cs, fr, h1, h2, h3⟩ := h
  refine ⟨cs.setIfInBounds i (.int .u8 v), fr, ?_, by simpa using h2, fun j hj => ?_⟩
  · obtain ⟨hl, he⟩ := Array.getElem?_eq_some_iff.1 h1
    simp [World.setCell, hl, Array.getElem_modify, he]
  · rw [List.length_set] at hj
    have hj' : j < cs.size := (Array.getElem?_eq_some_iff.1 (h3 j hj)).1
    by_cases e : i = j
    · subst e
      simp [hj, hj']
    · rw [Array.getElem?_setIfInBounds_ne e, h3 j hj]
      simp [List.getElem?_set_ne e]
theorem BB.reads {w : World} {B : Nat} {xs : List Int} (h : BB w B xs) (hm : xs.length ≤ 9223372036854775807) : ReadsInt w .u8 (some ⟨B, 0, none⟩) xs.length xs :=
  ⟨rfl, hm, fun _ => ⟨_, rfl, fun j hj => by rw [add_plain]; exact h.cell j hj⟩⟩
theorem BB.made (W : World) (s : ByteArray) : BB (Lib.bytesWorld W 5 s) W.heap.size (bytesOf s) := by
  have h := Lib.bytesWorld_at_new W 5 s
  have hs : s.size ≤ (Lib.bytesCells W 5 s).size := by simp [Lib.bytesCells]
  refine ⟨_, _, h, by rw [bytesOf_length]; exact hs, fun j hj => ?_⟩
  rw [bytesOf_length] at hj
  have hc := Lib.bytesWorld_cell W 5 s j hj
  rw [cell_of_row _ _ j _ 5 _ h] at hc
  rw [hc]
  have h' : j < s.data.toList.length := by rw [data_length]; exact hj
  simp [bytesOf, List.getD_eq_getElem?_getD, List.getElem?_eq_getElem h']

theorem fix_len (xs : List Int) (i : Nat) (want : Int) : ∀ d b cur, cur.length = xs.length → (fixGo xs i want d b cur).length = xs.length
  | 0, _, _, h => h
  | d + 1, b, _, _ => by
    rw [fixGo]
    split
    · simp
    · exact fix_len xs i want d (b + 1) _ (by simp)

theorem size_strOfNums (xs : List Int) : (strOfNums xs).size = xs.length := by simp [strOfNums, ByteArray.size]
theorem sum_any (s : ByteArray) (hs : s.size ≤ 9223372036854775807) (w : World) (HL : LaidAt w) : Calls Tryd.prog 12 #[.string s] w fun e w' => e = .returned (.int .u8 (sumL (bytesOf s) 0)) ∧ Below w.heap.size w w' :=
  crc_Sum.calls s _ w HL (by unfold crc_Sum.f; rw [if_pos hs])

set_option maxHeartbeats 2000000 in
set_option maxRecDepth 100000 in
theorem crc_Fix.calls (a0 : ByteArray) (a1 : Int) (a2 : Int) (r1 : ByteArray) (r2 : Int) (w : World) (HL_ : LaidAt w) (h : crc_Fix.f a0 a1 a2 = some (r1, r2)) :
    Calls Tryd.prog 21 #[.string a0, .int .i64 a1, .int .u8 a2] w fun e w' => e = .returned (.tuple #[.string r1, .int .i64 r2]) ∧ Below w.heap.size w w' := by
  unfold crc_Fix.f at h
  by_cases h1 : a1 < 0
  · rw [if_pos (.inl h1)] at h
    simp only [Option.some.injEq, Prod.mk.injEq] at h
    obtain ⟨rfl, rfl⟩ := h
    go_enter Tryd.func21, Tryd.ntmps21
    go_wp2
    go_ret2
    exact ⟨rfl, Below.refl _ _⟩
  · by_cases h2 : a1 ≥ a0.size
    · rw [if_pos (.inr h2)] at h
      simp only [Option.some.injEq, Prod.mk.injEq] at h
      obtain ⟨rfl, rfl⟩ := h
      have d1 : decide (a1 < 0) = false := decide_eq_false h1
      go_enter Tryd.func21, Tryd.ntmps21
      go_wp2
      go_ret2
      exact ⟨rfl, Below.refl _ _⟩
    · rw [if_neg (by omega)] at h
      by_cases hs : a0.size ≤ 1000000
      · rw [if_pos hs] at h
        simp only [Option.some.injEq, Prod.mk.injEq] at h
        obtain ⟨hr1, rfl⟩ := h
        have HR1 := Aside0.mk hr1
        clear hr1
        obtain ⟨i, rfl⟩ := Int.eq_ofNat_of_zero_le (show 0 ≤ a1 by omega)
        rw [Int.toNat_natCast] at HR1
        have d1 : decide ((i : Int) < 0) = false := decide_eq_false h1
        have hi : i < a0.size := by omega
        have kb := fun W => print_bytes (P := Tryd.prog) 9 23 5 Tryd.underlying9 Tryd.underlying23 Tryd.underlying5 a0 W
        go_enter Tryd.func21, Tryd.ntmps21
        go_wp2
        obtain ⟨cap, hcap⟩ : ∃ cap, grownCap w a0.size 0 5 = cap := ⟨_, rfl⟩
        try rw [hcap]
        obtain ⟨wb, hwb⟩ : ∃ wb, Lib.bytesWorld w 5 a0 = wb := ⟨_, rfl⟩
        rw [hwb]
        have hbb : BB wb w.heap.size (bytesOf a0) := by rw [← hwb]; exact BB.made w a0
        have hB : Below w.heap.size w wb := by rw [← hwb]; exact bytes_below (Below.refl _ _) (Nat.le_refl _) 5 a0
        have HBB := Aside0.mk hbb
        have HB := Aside0.mk hB
        clear hwb hcap kb hbb hB
        go_loopw [9, 20] (fun v9 v20 wr => ∃ (b : Nat) (cur : List Int), v20 = .int .i64 b ∧ b ≤ 256 ∧ Aside0 (cur.length = a0.size ∧ cur.set i 0 = (bytesOf a0).set i 0) ∧ Aside0 (fixGo (bytesOf a0) i a2 (256 - b) b cur = fixGo (bytesOf a0) i a2 256 0 (bytesOf a0)) ∧ Aside0 (BB wr w.heap.size cur) ∧ Aside0 (Below w.heap.size w wr)) (fun _ v20 _ => 256 - (intOf v20).toNat)
        case atStart => exact ⟨0, bytesOf a0, rfl, by omega, ⟨bytesOf_length a0, rfl⟩, ⟨rfl⟩, HBB, HB⟩
        case round =>
          obtain ⟨b, cur, rfl, hb, hC, hS, hBB, hB⟩ := hrel
          by_cases hlt : b < 256
          · have hset : cur.set i (b : Int) = (bytesOf a0).set i (b : Int) := by
              have := congrArg (fun l => l.set i (b : Int)) hC.out.2
              simpa using this
            have hlen : (cur.set i (b : Int)).length = a0.size := by rw [List.length_set]; exact hC.out.1
            have hcell := hBB.out.cell i (by rw [hC.out.1]; exact hi)
            have hfr := hBB.out.frozen i (by rw [hC.out.1]; exact hi)
            have hb2 := hBB.out.set i (b : Int)
            have hcv := string_of_reads (P := Tryd.prog) Tryd.underlying23 Tryd.underlying5 Tryd.underlying9 (c := cap) (hb2.reads (by rw [hlen]; omega))
            rw [hlen] at hcv
            have hBs : Below w.heap.size w (wr.setCell ⟨w.heap.size, i, none⟩ (.int .u8 (b : Int))) := hB.out.setCell (p := ⟨w.heap.size, i, none⟩) (Nat.le_refl _) _
            have HLs := HL_.below hBs
            have hss : (strOfNums (cur.set i (b : Int))).size ≤ 9223372036854775807 := by rw [size_strOfNums, hlen]; omega
            have HSET := Aside0.mk hset
            have HLEN := Aside0.mk hlen
            have HB2 := Aside0.mk hb2
            have HBS := Aside0.mk hBs
            have HSS := Aside0.mk hss
            clear hset hlen hb2 hBs hss
            have hconv : IntKind.u8.wrap (b : Int) = (b : Int) := by rw [IntKind.wrap_u8]; omega
            go_wp2_with fail
            refine (sum_any _ HSS.out _ HLs).mono ?_
            rintro e w' ⟨rfl, hbw⟩
            have HB3 := Aside0.mk (HB2.out.below hbw)
            have HBW := Aside0.mk (HBS.out.trans (hbw.mono HBS.out.size))
            have hcv2 := string_of_reads (P := Tryd.prog) Tryd.underlying23 Tryd.underlying5 Tryd.underlying9 (c := cap) (HB3.out.reads (by rw [HLEN.out]; omega))
            rw [HLEN.out] at hcv2
            clear hbw hcell hfr hcv
            by_cases hq : sumL (bytesOf (strOfNums (cur.set i (b : Int)))) 0 = a2
            · have q1 : (sumL (bytesOf (strOfNums (cur.set i (b : Int)))) 0 == a2) = true := beq_iff_eq.2 hq
              have HQ := Aside0.mk hq
              clear hq
              go_wp2
              go_ret2
              refine ⟨?_, HBW.out⟩
              have := hS.out
              rw [show 256 - b = (256 - (b + 1)) + 1 by omega, fixGo, ← HSET.out, if_pos HQ.out] at this
              rw [← HR1.out, ← this]; rfl
            · have q1 : (sumL (bytesOf (strOfNums (cur.set i (b : Int)))) 0 == a2) = false := beq_eq_false_iff_ne.2 hq
              have HQ := Aside0.mk hq
              clear hq
              go_wp2
              go_roundw
              case rel =>
                refine ⟨b + 1, cur.set i (b : Int), by go_num, by omega, ⟨HLEN.out, by rw [HSET.out]; simp⟩, ⟨?_⟩, HB3, HBW⟩
                have := hS.out
                rw [show 256 - b = (256 - (b + 1)) + 1 by omega, fixGo, ← HSET.out, if_neg HQ.out] at this
                exact this
              case measure => simp [intOf]; omega
          · have e : b = 256 := by omega
            subst e
            have hcv := string_of_reads (P := Tryd.prog) Tryd.underlying23 Tryd.underlying5 Tryd.underlying9 (c := cap) (hBB.out.reads (by rw [hC.out.1]; omega))
            rw [hC.out.1] at hcv
            go_wp2
            go_ret2
            refine ⟨?_, hB.out⟩
            have := hS.out
            rw [show fixGo (bytesOf a0) i a2 (256 - 256) 256 cur = cur from rfl] at this
            rw [← HR1.out, ← this]; rfl
      · rw [if_neg hs] at h; cases h

end Go.Proofs.YtghcckbdfmpgjaaDoor.S
