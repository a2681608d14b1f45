/- A sealed text is good, and a good one sealed; Fix can be undone; the text of bytes is read back. -/
import Derived.Test.YtghcckbdfmpgjaaDoorCrcFix
import Derived.Test.YtghcckbdfmpgjaaDoorKitMod
import Derived.Test.YtghcckbdfmpgjaaDoorS12
namespace Go.Proofs.YtghcckbdfmpgjaaDoor.Pure
open Go.RowKit Go.Proofs.YtghcckbdfmpgjaaDoor.S Go.Proofs.YtghcckbdfmpgjaaDoorW.PrintWords Go.Proofs.YtghcckbdfmpgjaaDoorW.PrintLast
set_option linter.unusedVariables false
set_option linter.unusedSimpArgs false

theorem parse_two (n i : Nat) (hn : n < 256) (hi : i % 3 = 0) (rest : List Int) (out : List Int) (half : Int) :
    parseL ([dig ((n : Int) / 16), dig ((n : Int) % 16)] ++ rest) i out half = parseL rest (i + 2) (out ++ [(n : Int)]) ((n : Int) % 16) := by
  have e1 : (n : Int) / 16 = ((n / 16 : Nat) : Int) := by omega
  have e2 : (n : Int) % 16 = ((n % 16 : Nat) : Int) := by omega
  rw [e1, e2]
  show parseL (_ :: _ :: rest) i out half = _
  rw [parseL, if_neg (by omega), hexVal_dig _ (by omega)]
  simp only
  rw [if_neg (by omega), parseL, if_neg (by omega), hexVal_dig _ (by omega)]
  simp only
  rw [if_pos (by omega)]
  congr 3
  omega
theorem parse_more : ∀ (l : List Int), Bytes l → ∀ (i : Nat) (out : List Int) (half : Int), i % 3 = 2 → parseL (hexL false l) i out half = (out ++ l, 0, 0)
  | [], _, i, out, half, hi => by
    rw [hexL, parseL, if_neg (by omega), List.append_nil]
  | b :: bs, h, i, out, half, hi => by
    obtain ⟨n, rfl, hn⟩ := u8_nat h.cons.1
    rw [hexL, if_neg (by decide)]
    show parseL (32 :: ([dig ((n : Int) / 16), dig ((n : Int) % 16)] ++ hexL false bs)) i out half = _
    rw [parseL, if_pos hi, if_pos rfl, parse_two n (i + 1) hn (by omega), parse_more bs h.cons.2 (i + 1 + 2) _ _ (by omega)]
    simp
theorem parse_hex (l : List Int) (h : Bytes l) : parseL (hexL true l) 0 [] 0 = (l, 0, 0) := by
  cases l with
  | nil => rw [hexL, parseL, if_neg (by omega)]
  | cons b bs =>
    obtain ⟨n, rfl, hn⟩ := u8_nat h.cons.1
    rw [hexL, if_pos rfl, List.nil_append, parse_two n 0 hn (by omega), parse_more bs h.cons.2 _ _ _ (by omega)]
    rfl
theorem dig_u8 {v : Int} (h : 0 ≤ v) (h' : v ≤ 15) : U8 (dig v) := by unfold dig U8; split <;> omega
theorem hex_bytes : ∀ (f : Bool) (l : List Int), Bytes l → Bytes (hexL f l)
  | _, [], _ => fun x hx => by simp [hexL] at hx
  | f, b :: bs, h => by
    intro x hx
    have hb := h.cons.1
    unfold U8 at hb
    rw [hexL] at hx
    rcases List.mem_append.1 hx with h1 | h1
    · cases f <;> simp at h1
      rw [h1]; exact ⟨by decide, by decide⟩
    · rcases List.mem_append.1 h1 with h2 | h2
      · simp at h2
        rcases h2 with rfl | rfl
        · exact dig_u8 (by omega) (by omega)
        · exact dig_u8 (by omega) (by omega)
      · exact hex_bytes false bs h.cons.2 x h2
theorem str_inj {a b : List Int} (ha : Bytes a) (hb : Bytes b) (h : strOfNums a = strOfNums b) : a = b := by rw [← bytes_str ha, h, bytes_str hb]
theorem toList_inj {a b : ByteArray} (h : a.toList = b.toList) : a = b := by
  rw [ByteArray.toList_eq, ByteArray.toList_eq] at h
  exact ByteArray.ext (Array.ext' h)

theorem CrcSeals : tipstafflaw04_CrcSeals.Pure := by
  intro s at_ want hs ha hw
  obtain ⟨K, hK⟩ : ∃ K : Nat, K = 1000 := ⟨_, rfl⟩
  refine ⟨K + 1 + 1, ?_⟩
  have haw := awake_val (k := K) (by omega)
  have haw2 := awake_val (k := K + 1) (by omega)
  have uw := u8_of hw
  unfold tipstafflaw04_CrcSeals.f
  by_cases h1 : (s.size : Int) = 0
  · rw [if_pos h1, tipstafflaw04_CrcSeals.j0, if_pos rfl, haw2]; rfl
  · rw [if_neg h1]
    by_cases h2 : (s.size : Int) > 60
    · rw [decide_eq_true h2, tipstafflaw04_CrcSeals.j0, if_pos rfl, haw2]; rfl
    · rw [decide_eq_false h2, tipstafflaw04_CrcSeals.j0, if_neg (by decide)]
      have hl := bytesOf_length s
      have hb := bytes_of s
      obtain ⟨l, hls⟩ : ∃ l, bytesOf s = l := ⟨_, rfl⟩
      rw [hls] at hl hb
      have hsl : s = strOfNums l := by rw [← hls, str_bytes]
      have uS := sumL_u8 hb u8_0
      have seal_val : ∀ t : ByteArray, t.size ≤ 100 → crc_Seal.f t = some (t ++ strOfNums [sumL (bytesOf t) 0]) := fun t ht => by
        unfold crc_Seal.f
        rw [sum_val t (by omega), Option.bind_some, Option.bind_some, if_pos (by rw [size_str]; simp; omega)]
      have good_val : ∀ t : ByteArray, t.size ≤ 100 → crc_Good.f t = some (sumL (bytesOf t) 0 == 0) := fun t ht => by
        unfold crc_Good.f
        rw [sum_val t (by omega)]; rfl
      have u1 : Bytes [sumL l 0] := fun x hx => by rw [List.mem_singleton.1 hx]; exact uS
      have e1 : s ++ strOfNums [sumL l 0] = strOfNums (l ++ [sumL l 0]) := by rw [hsl, strOfNums_append]
      have ub1 : Bytes (l ++ [sumL l 0]) := fun x hx => by
        rcases List.mem_append.1 hx with h | h
        · exact hb x h
        · exact u1 x h
      have z1 : (strOfNums (l ++ [sumL l 0])).size = s.size + 1 := by rw [size_str, List.length_append, hl]; rfl
      rw [seal_val s (by omega), Option.bind_some, hls, e1, good_val _ (by omega), Option.bind_some, bytes_str ub1, sumL_append]
      have e2 : sumL [sumL l 0] (sumL l 0) = 0 := by
        show turn2 (xr (sumL l 0) (sumL l 0)) = 0
        rw [xr_self uS]; decide
      rw [e2, if_pos (by decide), z1, if_pos (by unfold wrap64; omega), good_val s (by omega), Option.bind_some, hls]
      have e3 : wrap64 ((s.size : Int) - 1) = ((s.size - 1 : Nat) : Int) := by unfold wrap64; omega
      rw [e3, if_pos (by omega), if_pos (by omega), Int.toNat_natCast, str_take s (s.size - 1) (by omega), hls]
      have zt : (strOfNums (l.take (s.size - 1))).size = s.size - 1 := by rw [size_str, List.length_take]; omega
      rw [seal_val _ (by omega), Option.bind_some, bytes_str (hb.take _), strOfNums_append]
      have uT := sumL_u8 (hb.take (s.size - 1)) u8_0
      obtain ⟨b, hlb⟩ : ∃ b, l = l.take (s.size - 1) ++ [b] := by
        refine ⟨l[s.size - 1]'(by omega), ?_⟩
        rw [← List.take_succ_eq_append_getElem, List.take_of_length_le (by omega)]
      have ub : U8 b := hb b (by rw [hlb]; simp)
      have eS : sumL l 0 = turn2 (xr (sumL (l.take (s.size - 1)) 0) b) := by
        conv => lhs; rw [hlb, sumL_append]
        rfl
      have key : ((sumL l 0 == 0) != ((strOfNums (l.take (s.size - 1) ++ [sumL (l.take (s.size - 1)) 0])).toList == s.toList)) = false := by
        by_cases q : sumL (l.take (s.size - 1)) 0 = b
        · have k1 : (sumL l 0 == 0) = true := by rw [eS, q, xr_self ub]; decide
          have k2 : ((strOfNums (l.take (s.size - 1) ++ [sumL (l.take (s.size - 1)) 0])).toList == s.toList) = true := by
            rw [q, ← hlb, ← hsl]; simp
          rw [k1, k2]; rfl
        · have k1 : (sumL l 0 == 0) = false := by
            rw [beq_eq_false_iff_ne, eS]
            intro e
            exact q (xr_eq_zero uT ub (turn2_inj (xr_u8 uT ub) u8_0 (by rw [e]; decide)))
          have k2 : ((strOfNums (l.take (s.size - 1) ++ [sumL (l.take (s.size - 1)) 0])).toList == s.toList) = false := by
            rw [beq_eq_false_iff_ne]
            intro e
            have e4 := toList_inj e
            rw [hsl] at e4
            have hbt : Bytes (l.take (s.size - 1) ++ [sumL (l.take (s.size - 1)) 0]) := fun x hx => by
              rcases List.mem_append.1 hx with h | h
              · exact hb.take _ x h
              · rw [List.mem_singleton.1 h]; exact uT
            rw [← hsl] at e4
            have e5 : strOfNums (l.take (s.size - 1) ++ [sumL (l.take (s.size - 1)) 0]) = strOfNums l := by rw [e4, hsl]
            have e6 := str_inj hbt hb e5
            have e7 : l.take (s.size - 1) ++ [sumL (l.take (s.size - 1)) 0] = l.take (s.size - 1) ++ [b] := e6.trans hlb
            exact q (by simpa using List.append_cancel_left e7)
          rw [k1, k2]; rfl
      rw [key, tipstafflaw04_CrcSeals.j1, if_neg (by decide)]
      have hm := mod_val at_ (s.size : Int) (i64_of ha) (by omega) (by omega)
      obtain ⟨i, hi⟩ := Int.eq_ofNat_of_zero_le (Int.emod_nonneg at_ (show (s.size : Int) ≠ 0 by omega))
      have hilt : i < s.size := by have := Int.emod_lt_of_pos at_ (show (0 : Int) < s.size by omega); omega
      rw [hm, Option.bind_some, hi, sum_val s (by omega), Option.bind_some, hls]
      obtain ⟨x, hx, hxlt⟩ := u8_nat (hb (l[i]'(by omega)) (List.getElem_mem _))
      have hset : l.set i (x : Int) = l := by rw [← hx]; exact List.set_getElem_self (by omega)
      have f1 : crc_Fix.f s (i : Int) (sumL l 0) = some (s, 0) := by
        have := fix_val s (by omega) i hilt hxlt
        rw [hls, hset] at this
        rw [this, ← hsl]
      obtain ⟨v, hv, hvw⟩ := set_surj hb i (by omega) uw
      have f2 : crc_Fix.f s (i : Int) want = some (strOfNums (l.set i (v : Int)), 0) := by
        have := fix_val s (by omega) i hilt hv
        rw [hls, hvw] at this
        exact this
      have hbv := hb.set i (nat_u8 hv)
      have f3 : crc_Fix.f (strOfNums (l.set i (v : Int))) (i : Int) (sumL l 0) = some (s, 0) := by
        have hz : (strOfNums (l.set i (v : Int))).size = s.size := by rw [size_str, List.length_set, hl]
        have := fix_val (strOfNums (l.set i (v : Int))) (by omega) i (by omega) hxlt
        rw [bytes_str hbv, List.set_set, hset] at this
        rw [this, ← hsl]
      have f4 : crc_Hex.f s = some (strOfNums (hexL true l)) := by unfold crc_Hex.f; rw [if_pos (by omega), hls]
      have hhx := hexL_len true l
      have f5 : crc_Parse.f (strOfNums (hexL true l)) = some (s, 0, 0) := by
        unfold crc_Parse.f
        rw [if_neg (by rw [size_str]; omega), bytes_str (hex_bytes true l hb), parse_hex l hb, ← hsl]
      have hzv : (strOfNums (l.set i (v : Int))).size = s.size := by rw [size_str, List.length_set, hl]
      rw [f1, Option.bind_some, f2, Option.bind_some, Option.bind_some, f3, Option.bind_some, f4, Option.bind_some, f5, Option.bind_some,
        if_pos rfl, if_pos rfl, if_pos rfl, if_pos (by rfl), if_pos rfl, sum_val (strOfNums (l.set i (v : Int))) (by omega), Option.bind_some, bytes_str hbv, if_pos hvw, if_pos rfl, if_pos rfl, haw]; rfl

end Go.Proofs.YtghcckbdfmpgjaaDoor.Pure
