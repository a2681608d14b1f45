/- The byte that gives a wanted checksum: there is one and no other. -/
import Derived.Test.YtghcckbdfmpgjaaDoorCrcMath
import Derived.Test.YtghcckbdfmpgjaaDoorHreffix
namespace Go.Proofs.YtghcckbdfmpgjaaDoor.Pure
open Go.RowKit Go.Proofs.YtghcckbdfmpgjaaDoor.S Go.Proofs.YtghcckbdfmpgjaaDoorW.PrintWords Go.Proofs.YtghcckbdfmpgjaaDoorW.PrintLast
set_option linter.unusedVariables false
set_option linter.unusedSimpArgs false

theorem Bytes.set {l : List Int} (h : Bytes l) (i : Nat) {v : Int} (hv : U8 v) : Bytes (l.set i v) := by
  intro x hx
  rcases List.mem_or_eq_of_mem_set hx with h1 | h1
  · exact h x h1
  · rw [h1]; exact hv
theorem Bytes.take {l : List Int} (h : Bytes l) (i : Nat) : Bytes (l.take i) := fun x hx => h x (List.mem_of_mem_take hx)
theorem Bytes.drop {l : List Int} (h : Bytes l) (i : Nat) : Bytes (l.drop i) := fun x hx => h x (List.mem_of_mem_drop hx)
theorem sum_set {l : List Int} (i : Nat) (hi : i < l.length) (v : Int) : sumL (l.set i v) 0 = sumL (l.drop (i + 1)) (turn2 (xr (sumL (l.take i) 0) v)) := by
  rw [List.set_eq_take_append_cons_drop, if_pos hi, sumL_append, sumL_cons]
theorem set_inj {l : List Int} (h : Bytes l) (i : Nat) (hi : i < l.length) {a b : Int} (ha : U8 a) (hb : U8 b) (e : sumL (l.set i a) 0 = sumL (l.set i b) 0) : a = b := by
  rw [sum_set i hi, sum_set i hi] at e
  have u := sumL_u8 (h.take i) u8_0
  exact xr_inj' ha hb u (turn2_inj (xr_u8 u ha) (xr_u8 u hb) (sumL_inj (h.drop _) (turn2_u8 (xr_u8 u ha)) (turn2_u8 (xr_u8 u hb)) e))
theorem set_surj {l : List Int} (h : Bytes l) (i : Nat) (hi : i < l.length) {t : Int} (ht : U8 t) : ∃ v : Nat, v < 256 ∧ sumL (l.set i (v : Int)) 0 = t := by
  have u := sumL_u8 (h.take i) u8_0
  obtain ⟨z, hz, e⟩ := sumL_surj (h.drop (i + 1)) ht
  have hx := xr_u8 u (un_facts hz).2.2
  obtain ⟨v, hv, hlt⟩ := u8_nat hx
  refine ⟨v, hlt, ?_⟩
  rw [sum_set i hi, ← hv, ← xr_assoc u u (un_facts hz).2.2, xr_self u, zero_xr (un_facts hz).2.2, (un_facts hz).1, e]
theorem nat_u8 {v : Nat} (h : v < 256) : U8 (v : Int) := ⟨by omega, by omega⟩
theorem fix_find {l : List Int} (h : Bytes l) (i : Nat) (hi : i < l.length) {v : Nat} (hv : v < 256) : ∀ d b cur, b + d = 256 → b ≤ v →
    fixGo l i (sumL (l.set i (v : Int)) 0) d b cur = l.set i (v : Int) := by
  intro d
  induction d with
  | zero => intro b cur hb hle; omega
  | succ d ih =>
    intro b cur hb hle
    rw [fixGo, bytes_str (h.set i (nat_u8 (by omega)))]
    by_cases e : sumL (l.set i (b : Int)) 0 = sumL (l.set i (v : Int)) 0
    · rw [if_pos e, set_inj h i hi (nat_u8 (by omega)) (nat_u8 hv) e]
    · rw [if_neg e]
      have : b ≠ v := fun e2 => e (by rw [e2])
      exact ih (b + 1) _ (by omega) (by omega)
theorem rfix_find {l : List Int} (h : Bytes l) (hl : l.length ≤ 1000000) (i : Nat) (hi : i < l.length) {v : Nat} (hv : v < 256) {k : Nat} (hk : l.length + 10 ≤ k) : ∀ d b, b + d = 256 → b ≤ v →
    rfixGo k l i (sumL (l.set i (v : Int)) 0) d b = some (strOfNums (l.set i (v : Int)), 0) := by
  intro d
  induction d with
  | zero => intro b hb hle; omega
  | succ d ih =>
    intro b hb hle
    have hz : (strOfNums (l.set i (b : Int))).size = l.length := by rw [size_str, List.length_set]
    rw [rfixGo, sumR_val _ (by omega) (by omega), Option.bind_some, bytes_str (h.set i (nat_u8 (by omega)))]
    by_cases e : sumL (l.set i (b : Int)) 0 = sumL (l.set i (v : Int)) 0
    · rw [if_pos e, set_inj h i hi (nat_u8 (by omega)) (nat_u8 hv) e]
    · rw [if_neg e]
      have : b ≠ v := fun e2 => e (by rw [e2])
      exact ih (b + 1) (by omega) (by omega)
/-- What Fix comes to. -/
theorem fix_val (s : ByteArray) (hs : s.size ≤ 1000000) (i : Nat) (hi : i < s.size) {v : Nat} (hv : v < 256) :
    crc_Fix.f s (i : Int) (sumL ((bytesOf s).set i (v : Int)) 0) = some (strOfNums ((bytesOf s).set i (v : Int)), 0) := by
  unfold crc_Fix.f
  rw [if_neg (by omega), if_pos hs, Int.toNat_natCast, fix_find (bytes_of s) i (by rw [bytesOf_length]; exact hi) hv 256 0 _ (by omega) (by omega)]
theorem rfix_val (s : ByteArray) (hs : s.size ≤ 1000000) (i : Nat) (hi : i < s.size) {v : Nat} (hv : v < 256) {k : Nat} (hk : s.size + 10 ≤ k) :
    tipstaffref04_Fix.f k s (i : Int) (sumL ((bytesOf s).set i (v : Int)) 0) = some (strOfNums ((bytesOf s).set i (v : Int)), 0) := by
  unfold tipstaffref04_Fix.f
  have hl := bytesOf_length s
  rw [if_neg (by omega), if_pos hs, Int.toNat_natCast, rfix_find (bytes_of s) (by omega) i (by omega) hv (by omega) 256 0 (by omega) (by omega)]

end Go.Proofs.YtghcckbdfmpgjaaDoor.Pure
