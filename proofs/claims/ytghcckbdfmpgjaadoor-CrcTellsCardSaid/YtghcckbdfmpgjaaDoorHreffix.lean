/- The reference's Fix, walked: all bytes are tried. -/
import Derived.Outline
import Derived.Deep.RegionHeld3
import Derived.Test.YtghcckbdfmpgjaaDoorHrefhex
import Derived.Test.YtghcckbdfmpgjaaDoorHfix
import Derived.Test.YtghcckbdfmpgjaaDoorS5
namespace Go.Proofs.YtghcckbdfmpgjaaDoor.S
open Go.RowKit Go.Proofs.YtghcckbdfmpgjaaDoorW.PrintWords Go.Proofs.YtghcckbdfmpgjaaDoorW.PrintLast Go.Proofs.YtghcckbdfmpgjaaDoorW.PrintMore
set_option linter.unusedVariables false
set_option linter.unusedSimpArgs false

/-- From the byte b on, so many. -/
def rfixGo (k : Nat) (xs : List Int) (i : Nat) (want : Int) : Nat → Nat → Option (ByteArray × Int)
  | 0, _ => some (⟨#[]⟩, 2)
  | d + 1, b => (tipstaffref04_Sum.f k (strOfNums (xs.set i b))).bind fun t => if t = want then some (strOfNums (xs.set i b), 0) else rfixGo k xs i want d (b + 1)
def tipstaffref04_Fix.f (k : Nat) (a0 : ByteArray) (a1 : Int) (a2 : Int) : Option (ByteArray × Int) :=
  if a1 < 0 ∨ a1 ≥ a0.size then some (⟨#[]⟩, 2)
  else if a0.size ≤ 1000000 then rfixGo k (bytesOf a0) a1.toNat a2 256 0 else none
theorem rfix_mono (k : Nat) (xs : List Int) (i : Nat) (want : Int) : ∀ d b, LeO (rfixGo k xs i want d b) (rfixGo (k + 1) xs i want d b)
  | 0, _ => LeO.refl _
  | d + 1, b => by
    rw [rfixGo, rfixGo]
    exact LeO.bind (tipstaffref04_Sum.mono _ _) (fun _ => LeO.ite (LeO.refl _) (rfix_mono k xs i want d (b + 1)))
theorem tipstaffref04_Fix.mono : ∀ a0 a1 a2 k, LeO (tipstaffref04_Fix.f k a0 a1 a2) (tipstaffref04_Fix.f (k + 1) a0 a1 a2) := fun a0 a1 a2 k =>
  LeO.ite (LeO.refl _) (LeO.ite (rfix_mono k _ _ _ _ _) (LeO.refl _))

theorem byte_back : ((fun n : Int => UInt8.ofNat n.toNat) ∘ fun b : UInt8 => (b.toNat : Int)) = id := by funext b; simp
theorem str_bytes (s : ByteArray) : strOfNums (bytesOf s) = s := by
  apply ByteArray.ext
  apply Array.ext'
  unfold strOfNums bytesOf
  simp [byte_back]
theorem str_take (s : ByteArray) (i : Nat) (hi : i ≤ s.size) : s.extract 0 i = strOfNums ((bytesOf s).take i) := by
  apply ByteArray.ext
  apply Array.ext'
  unfold strOfNums bytesOf
  simp [byte_back]
theorem str_drop (s : ByteArray) (i : Nat) (hi : i ≤ s.size) : s.extract i s.size = strOfNums ((bytesOf s).drop i) := by
  apply ByteArray.ext
  apply Array.ext'
  unfold strOfNums bytesOf
  simp only [ByteArray.data_extract, Array.toList_extract, List.map_drop, List.map_map, byte_back, List.map_id]
  rw [List.extract_eq_take_drop, List.take_of_length_le (by rw [List.length_drop, data_length]; omega)]
theorem conv_one (b : Int) (W : World) : (convert 23 9 (.slice (some ⟨W.heap.size, 0, none⟩) 1 1)).run Tryd.prog (W.alloc (.cells #[.int .u8 b] 5)).drew = .ok (.string (strOfNums [b])) (W.alloc (.cells #[.int .u8 b] 5)).drew :=
  string_of_reads Tryd.underlying23 Tryd.underlying5 Tryd.underlying9 ⟨rfl, by decide, fun _ => ⟨_, rfl, fun j hj => by
    obtain rfl : j = 0 := by omega
    rw [add_plain]
    exact (blk_cell (heap_alloc_new W _) 0).trans rfl⟩⟩
theorem conv_one' (b : Int) (W : World) : (convert 23 9 (.slice (some ⟨W.heap.size, 0, none⟩) 1 1)).run Tryd.prog (W.alloc (.cells #[.int .u8 b] 5)) = .ok (.string (strOfNums [b])) (W.alloc (.cells #[.int .u8 b] 5)) :=
  string_of_reads Tryd.underlying23 Tryd.underlying5 Tryd.underlying9 ⟨rfl, by decide, fun _ => ⟨_, rfl, fun j hj => by
    obtain rfl : j = 0 := by omega
    rw [add_plain]
    exact (blk_cell (heap_alloc_new W _) 0).trans rfl⟩⟩
theorem conv_cells (W : World) (g : Nat) (b : Int) (h : W.heap[g]? = some (.cells #[.int .u8 b] 5 (0, 0))) : (convert 23 9 (.slice (some ⟨g, 0, none⟩) 1 1)).run Tryd.prog W = .ok (.string (strOfNums [b])) W :=
  string_of_reads Tryd.underlying23 Tryd.underlying5 Tryd.underlying9 ⟨rfl, by decide, fun _ => ⟨_, rfl, fun j hj => by
    obtain rfl : j = 0 := by omega
    rw [add_plain]
    exact (blk_cell h 0).trans rfl⟩⟩
theorem cut_low (s : ByteArray) (i : Nat) (hi : i ≤ s.size) (W : World) : (Instr.slice 9 (.string s) none (some (.int .i64 (i : Int))) none).run Tryd.prog W = .ok (.string (strOfNums ((bytesOf s).take i))) W := by
  have hu := Tryd.underlying9
  have p1 : (i : Int) ≤ (s.size : Int) := by omega
  have p0 : (0 : Int) ≤ (i : Int) := by omega
  rw [← str_take s i hi]
  go_simp
theorem cut_high (s : ByteArray) (i : Nat) (hi : i + 1 ≤ s.size) (W : World) : (Instr.slice 9 (.string s) (some (.int .i64 ((i : Int) + 1))) none none).run Tryd.prog W = .ok (.string (strOfNums ((bytesOf s).drop (i + 1)))) W := by
  have hu := Tryd.underlying9
  have p1 : (i : Int) + 1 ≤ (s.size : Int) := by omega
  have p0 : (0 : Int) ≤ (i : Int) + 1 := by omega
  have p2 : ((i : Int) + 1).toNat = i + 1 := by omega
  rw [← str_drop s (i + 1) hi]
  go_simp

set_option maxHeartbeats 4000000 in
set_option maxRecDepth 100000 in
theorem tipstaffref04_Fix.calls (k : Nat) (a0 : ByteArray) (a1 : Int) (a2 : Int) (r1 : ByteArray) (r2 : Int) (w : World) (h : tipstaffref04_Fix.f k a0 a1 a2 = some (r1, r2)) :
    Calls Tryd.prog 22 #[.string a0, .int .i64 a1, .int .u8 a2] w fun e w' => e = .returned (.tuple #[.string r1, .int .i64 r2]) ∧ Below w.heap.size w w' := by
  unfold tipstaffref04_Fix.f at h
  by_cases h1 : a1 < 0
  · rw [if_pos (.inl h1)] at h
    simp only [Option.some.injEq, Prod.mk.injEq] at h
    obtain ⟨rfl, rfl⟩ := h
    go_enter Tryd.func22, Tryd.ntmps22
    go_wp2
    go_ret2
    exact ⟨rfl, Below.refl _ _⟩
  · by_cases h2 : a1 ≥ a0.size
    · rw [if_pos (.inr h2)] at h
      simp only [Option.some.injEq, Prod.mk.injEq] at h
      obtain ⟨rfl, rfl⟩ := h
      have d1 : decide (a1 < 0) = false := decide_eq_false h1
      go_enter Tryd.func22, Tryd.ntmps22
      go_wp2
      go_ret2
      exact ⟨rfl, Below.refl _ _⟩
    · rw [if_neg (by omega)] at h
      by_cases hs : a0.size ≤ 1000000
      · rw [if_pos hs] at h
        obtain ⟨i, rfl⟩ := Int.eq_ofNat_of_zero_le (show 0 ≤ a1 by omega)
        rw [Int.toNat_natCast] at h
        have H := Aside0.mk h
        clear h
        have d1 : decide ((i : Int) < 0) = false := decide_eq_false h1
        have hi : i < a0.size := by omega
        go_enter Tryd.func22, Tryd.ntmps22
        go_wp2
        go_loopw [8] (fun v8 wr => ∃ (b : Nat), v8 = .int .i64 b ∧ b ≤ 256 ∧ Aside0 (rfixGo k (bytesOf a0) i a2 (256 - b) b = some (r1, r2)) ∧ Aside0 (Below w.heap.size w wr)) (fun v8 _ => 256 - (intOf v8).toNat)
        case atStart => exact ⟨0, rfl, by omega, H, ⟨Below.refl _ _⟩⟩
        case round =>
          obtain ⟨b, rfl, hb, hS, hB⟩ := hrel
          by_cases hlt : b < 256
          · have hS2 := hS.out
            rw [show 256 - b = (256 - (b + 1)) + 1 by omega, rfixGo] at hS2
            obtain ⟨t, ht, hS2⟩ := Option.bind_eq_some_iff.1 hS2
            have HT := Aside0.mk ht
            have HS2 := Aside0.mk hS2
            have hconv : IntKind.u8.wrap (b : Int) = (b : Int) := by rw [IntKind.wrap_u8]; omega
            have hsum : IntKind.i64.wrap ((i : Int) + 1) = (i : Int) + 1 := by rw [IntKind.wrap_i64]; omega
            clear ht hS2 hS
            go_wp2_with fail
            have hlen : (bytesOf a0).length = a0.size := bytesOf_length a0
            have k1 := fun W => cut_low a0 i (by omega) W
            have k2 := fun W => cut_high a0 i (by omega) W
            have k3 := fun W => conv_one (b : Int) W
            obtain ⟨x1, hx1⟩ : ∃ l, (bytesOf a0).take i = l := ⟨_, rfl⟩
            obtain ⟨x3, hx3⟩ : ∃ l, (bytesOf a0).drop (i + 1) = l := ⟨_, rfl⟩
            obtain ⟨x2, hx2⟩ : ∃ l : List Int, [(b : Int)] = l := ⟨_, rfl⟩
            obtain ⟨x4, hx4⟩ : ∃ l, x1 ++ x2 = l := ⟨_, rfl⟩
            have hset : (bytesOf a0).set i (b : Int) = x4 ++ x3 := by
              rw [← hx4, ← hx1, ← hx2, ← hx3, List.set_eq_take_append_cons_drop, if_pos (by omega)]; simp
            have l1 : x1.length ≤ 1000000 := by rw [← hx1]; simp; omega
            have l3 : x3.length ≤ 1000000 := by rw [← hx3]; simp; omega
            have l2 : x2.length = 1 := by rw [← hx2]; rfl
            have l4 : x4.length ≤ 1000001 := by rw [← hx4]; simp; omega
            rw [hx1] at k1
            rw [hx3] at k2
            rw [hx2] at k3
            have eA : strOfNums x1 ++ strOfNums x2 = strOfNums x4 := by rw [← hx4]; exact strOfNums_append _ _
            have eB : strOfNums x4 ++ strOfNums x3 = strOfNums (x4 ++ x3) := strOfNums_append _ _
            have z1 : (9223372036854775807 < (strOfNums x1).size + (strOfNums x2).size) = False := eq_false (by rw [size_str, size_str]; omega)
            have z2 : (9223372036854775807 < (strOfNums x4).size + (strOfNums x3).size) = False := eq_false (by rw [size_str, size_str]; omega)
            have HSET := Aside0.mk hset
            clear hlen hx1 hx2 hx3 hx4 hset l1 l2 l3 l4
            go_region
            clear eA eB z1 z2 k1 k2 k3
            rw [← HSET.out]
            have hBw := (hB.out.alloc hB.out.size (.cells #[.int .u8 (b : Int)] 5)).drew
            obtain ⟨w3, hw3⟩ : ∃ w3, (wr.alloc (.cells #[.int .u8 (b : Int)] 5)).drew = w3 := ⟨_, rfl⟩
            rw [hw3] at hBw ⊢
            have HBW := Aside0.mk hBw
            clear hBw hw3
            go_wp2_with fail
            refine (tipstaffref04_Sum.calls k _ t _ HT.out).mono ?_
            rintro e w' ⟨rfl, m, rfl⟩
            by_cases hq : t = a2
            · have q1 : (t == a2) = true := beq_iff_eq.2 hq
              have h2 := HS2.out
              rw [if_pos hq] at h2
              simp only [Option.some.injEq, Prod.mk.injEq] at h2
              obtain ⟨rfl, rfl⟩ := h2
              have HQ := Aside0.mk hq
              clear hq
              go_wp2
              go_ret2
              exact ⟨rfl, pw_below_drewN HBW.out m⟩
            · have q1 : (t == a2) = false := beq_eq_false_iff_ne.2 hq
              have h2 := HS2.out
              rw [if_neg hq] at h2
              have H2 := Aside0.mk h2
              clear hq h2
              go_wp2
              go_roundw
              case rel => exact ⟨b + 1, by go_num, by omega, H2, ⟨pw_below_drewN HBW.out m⟩⟩
              case measure => simp [intOf]; omega
          · obtain rfl : b = 256 := by omega
            have := hS.out
            rw [show 256 - 256 = 0 from rfl, rfixGo] at this
            simp only [Option.some.injEq, Prod.mk.injEq] at this
            obtain ⟨rfl, rfl⟩ := this
            go_wp2
            go_ret2
            exact ⟨rfl, hB.out⟩
      · rw [if_neg hs] at h; cases h

end Go.Proofs.YtghcckbdfmpgjaaDoor.S
