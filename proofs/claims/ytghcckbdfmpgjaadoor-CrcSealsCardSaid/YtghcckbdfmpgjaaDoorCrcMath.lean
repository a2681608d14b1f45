/- Checksums as numbers: the step is linear and can be undone. -/
import Derived.Test.YtghcckbdfmpgjaaDoorHparse
import Derived.Test.YtghcckbdfmpgjaaDoorHrefhex
import Derived.Test.YtghcckbdfmpgjaaDoorS5
import Derived.Test.YtghcckbdfmpgjaaDoorS3
namespace Go.Proofs.YtghcckbdfmpgjaaDoor.Pure
open Go.RowKit Go.Proofs.YtghcckbdfmpgjaaDoor.S Go.Proofs.YtghcckbdfmpgjaaDoorW.PrintWords Go.Proofs.YtghcckbdfmpgjaaDoorW.PrintLast
set_option linter.unusedVariables false
set_option linter.unusedSimpArgs false

def U8 (x : Int) : Prop := 0 ≤ x ∧ x ≤ 255
theorem u8_of {n : Int} (h : (Lit.int .u8 n).wf = true) : U8 n := by
  simp only [Lit.wf, IntKind.min, IntKind.max, IntKind.signed, IntKind.bits, Bool.and_eq_true, decide_eq_true_eq] at h
  unfold U8
  simp at h
  omega
theorem u8_nat {x : Int} (h : U8 x) : ∃ n : Nat, x = (n : Int) ∧ n < 256 := ⟨x.toNat, by unfold U8 at h; omega, by unfold U8 at h; omega⟩
def xr (a b : Int) : Int := Go.bits .xor .u8 a b
theorem xr_nat {a b : Nat} (ha : a < 256) (hb : b < 256) : xr (a : Int) (b : Int) = ((a ^^^ b : Nat) : Int) := xor_nat a b ha hb
theorem xr_u8 {a b : Int} (ha : U8 a) (hb : U8 b) : U8 (xr a b) := xor_range ha.1 ha.2 hb.1 hb.2
theorem nx {a b : Nat} (ha : a < 256) (hb : b < 256) : a ^^^ b < 256 := Nat.xor_lt_two_pow (n := 8) ha hb
theorem xr_comm {a b : Int} (ha : U8 a) (hb : U8 b) : xr a b = xr b a := by
  obtain ⟨a, rfl, na⟩ := u8_nat ha
  obtain ⟨b, rfl, nb⟩ := u8_nat hb
  rw [xr_nat na nb, xr_nat nb na, Nat.xor_comm]
theorem xr_assoc {a b c : Int} (ha : U8 a) (hb : U8 b) (hc : U8 c) : xr (xr a b) c = xr a (xr b c) := by
  obtain ⟨a, rfl, na⟩ := u8_nat ha
  obtain ⟨b, rfl, nb⟩ := u8_nat hb
  obtain ⟨c, rfl, nc⟩ := u8_nat hc
  rw [xr_nat na nb, xr_nat nb nc, xr_nat (nx na nb) nc, xr_nat na (nx nb nc), Nat.xor_assoc]
theorem xr_self {a : Int} (ha : U8 a) : xr a a = 0 := by
  obtain ⟨a, rfl, na⟩ := u8_nat ha
  rw [xr_nat na na, Nat.xor_self]; rfl
theorem xr_zero {a : Int} (ha : U8 a) : xr a 0 = a := by
  obtain ⟨a, rfl, na⟩ := u8_nat ha
  rw [show (0 : Int) = ((0 : Nat) : Int) from rfl, xr_nat na (by decide), Nat.xor_zero]
theorem u8_0 : U8 0 := ⟨by decide, by decide⟩
theorem zero_xr {a : Int} (ha : U8 a) : xr 0 a = a := by rw [xr_comm u8_0 ha, xr_zero ha]
theorem xr_cancel {a b : Int} (ha : U8 a) (hb : U8 b) : xr (xr a b) b = a := by rw [xr_assoc ha hb hb, xr_self hb, xr_zero ha]
theorem xr_inj {a b c : Int} (ha : U8 a) (hb : U8 b) (hc : U8 c) (h : xr a c = xr b c) : a = b := by rw [← xr_cancel ha hc, h, xr_cancel hb hc]
theorem xr_inj' {a b c : Int} (ha : U8 a) (hb : U8 b) (hc : U8 c) (h : xr c a = xr c b) : a = b := xr_inj ha hb hc (by rw [xr_comm ha hc, h, xr_comm hc hb])
theorem xr_eq_zero {a b : Int} (ha : U8 a) (hb : U8 b) (h : xr a b = 0) : a = b := xr_inj ha hb hb (by rw [h, xr_self hb])

/-! the step -/
theorem half_fin : ∀ i j : Fin 16, halvesL.getD (i.val ^^^ j.val) 0 = Go.bits .xor .u8 (halvesL.getD i.val 0) (halvesL.getD j.val 0) := by decide +kernel
theorem half_u8 : ∀ i : Fin 16, 0 ≤ halvesL.getD i.val 0 ∧ halvesL.getD i.val 0 ≤ 255 := by decide +kernel
theorem turn1_lin {a b : Int} (ha : U8 a) (hb : U8 b) : turn1 (xr a b) = xr (turn1 a) (turn1 b) := by
  obtain ⟨a, rfl, na⟩ := u8_nat ha
  obtain ⟨b, rfl, nb⟩ := u8_nat hb
  rw [xr_nat na nb]
  have e1 : ∀ n : Nat, turn1 (n : Int) = xr (((n * 16) % 256 : Nat) : Int) (halvesL.getD (n / 16) 0) := fun n => by
    unfold turn1 xr
    rw [show ((n : Int) / 16).toNat = n / 16 by omega]
    congr 1
  rw [e1, e1, e1]
  have h1 : (a ^^^ b) * 16 % 256 = (a * 16 % 256) ^^^ (b * 16 % 256) := by
    have s : ∀ n : Nat, n * 16 = n <<< 4 := fun n => by rw [Nat.shiftLeft_eq]
    rw [s, s, s, Nat.shiftLeft_xor_distrib, show 256 = 2 ^ 8 from rfl, Nat.xor_mod_two_pow]
  have h2 : (a ^^^ b) / 16 = (a / 16) ^^^ (b / 16) := by
    have s : ∀ n : Nat, n / 16 = n >>> 4 := fun n => by rw [Nat.shiftRight_eq_div_pow]
    rw [s, s, s, Nat.shiftRight_xor_distrib]
  have h3 := half_fin ⟨a / 16, by omega⟩ ⟨b / 16, by omega⟩
  simp only at h3
  have ua := half_u8 ⟨a / 16, by omega⟩
  have ub := half_u8 ⟨b / 16, by omega⟩
  rw [h1, h2, h3, ← xr_nat (by omega) (by omega)]
  have ux : U8 (((a * 16 % 256 : Nat)) : Int) := ⟨by omega, by omega⟩
  have uy : U8 (((b * 16 % 256 : Nat)) : Int) := ⟨by omega, by omega⟩
  have uh : U8 (halvesL.getD (a / 16) 0) := ua
  have ug : U8 (halvesL.getD (b / 16) 0) := ub
  show xr (xr _ _) (xr _ _) = _
  rw [xr_assoc ux uy (xr_u8 uh ug), ← xr_assoc uy uh ug, xr_comm uy uh, xr_assoc uh uy ug, ← xr_assoc ux uh (xr_u8 uy ug)]
theorem turn1_u8 {a : Int} (h : U8 a) : U8 (turn1 a) := turn1_range h.1 h.2
theorem turn2_u8 {a : Int} (h : U8 a) : U8 (turn2 a) := turn2_range h.1 h.2
theorem turn2_lin {a b : Int} (ha : U8 a) (hb : U8 b) : turn2 (xr a b) = xr (turn2 a) (turn2 b) := by
  unfold turn2
  rw [turn1_lin ha hb, turn1_lin (turn1_u8 ha) (turn1_u8 hb)]
def invL : List Int := [0, 217, 181, 108, 109, 180, 216, 1, 218, 3, 111, 182, 183, 110, 2, 219, 179, 106, 6, 223, 222, 7, 107, 178, 105, 176, 220, 5, 4, 221, 177, 104, 97, 184, 212, 13, 12, 213, 185, 96, 187, 98, 14, 215, 214, 15, 99, 186, 210, 11, 103, 190, 191, 102, 10, 211, 8, 209, 189, 100, 101, 188, 208, 9, 194, 27, 119, 174, 175, 118, 26, 195, 24, 193, 173, 116, 117, 172, 192, 25, 113, 168, 196, 29, 28, 197, 169, 112, 171, 114, 30, 199, 198, 31, 115, 170, 163, 122, 22, 207, 206, 23, 123, 162, 121, 160, 204, 21, 20, 205, 161, 120, 16, 201, 165, 124, 125, 164, 200, 17, 202, 19, 127, 166, 167, 126, 18, 203, 131, 90, 54, 239, 238, 55, 91, 130, 89, 128, 236, 53, 52, 237, 129, 88, 48, 233, 133, 92, 93, 132, 232, 49, 234, 51, 95, 134, 135, 94, 50, 235, 226, 59, 87, 142, 143, 86, 58, 227, 56, 225, 141, 84, 85, 140, 224, 57, 81, 136, 228, 61, 60, 229, 137, 80, 139, 82, 62, 231, 230, 63, 83, 138, 65, 152, 244, 45, 44, 245, 153, 64, 155, 66, 46, 247, 246, 47, 67, 154, 242, 43, 71, 158, 159, 70, 42, 243, 40, 241, 157, 68, 69, 156, 240, 41, 32, 249, 149, 76, 77, 148, 248, 33, 250, 35, 79, 150, 151, 78, 34, 251, 147, 74, 38, 255, 254, 39, 75, 146, 73, 144, 252, 37, 36, 253, 145, 72]
def unturn (x : Int) : Int := invL.getD x.toNat 0
theorem un_fin : ∀ x : Fin 256, turn2 (unturn (x.val : Int)) = (x.val : Int) ∧ unturn (turn2 (x.val : Int)) = (x.val : Int) ∧ 0 ≤ unturn (x.val : Int) ∧ unturn (x.val : Int) ≤ 255 := by decide +kernel
theorem un_facts {x : Int} (h : U8 x) : turn2 (unturn x) = x ∧ unturn (turn2 x) = x ∧ U8 (unturn x) := by
  obtain ⟨n, rfl, hn⟩ := u8_nat h
  have := un_fin ⟨n, hn⟩
  exact ⟨this.1, this.2.1, this.2.2⟩
theorem turn2_inj {a b : Int} (ha : U8 a) (hb : U8 b) (h : turn2 a = turn2 b) : a = b := by rw [← (un_facts ha).2.1, h, (un_facts hb).2.1]

/-! sums -/
def Bytes (l : List Int) : Prop := ∀ x ∈ l, U8 x
theorem bytes_of (s : ByteArray) : Bytes (bytesOf s) := by
  intro x hx
  obtain ⟨b, _, rfl⟩ := List.mem_map.1 hx
  have := b.toNat_lt
  exact ⟨by omega, by omega⟩
theorem Bytes.cons {x : Int} {l : List Int} (h : Bytes (x :: l)) : U8 x ∧ Bytes l := ⟨h x (List.mem_cons_self ..), fun y hy => h y (List.mem_cons_of_mem _ hy)⟩
theorem sumL_cons (b : Int) (bs : List Int) (c : Int) : sumL (b :: bs) c = sumL bs (turn2 (xr c b)) := rfl
theorem sumL_append (xs ys : List Int) : ∀ c, sumL (xs ++ ys) c = sumL ys (sumL xs c) := by
  induction xs with
  | nil => intro c; rfl
  | cons x xs ih => intro c; exact ih _
theorem sumL_u8 : ∀ {l : List Int}, Bytes l → ∀ {c}, U8 c → U8 (sumL l c)
  | [], _, _, hc => hc
  | _ :: _, h, _, hc => sumL_u8 h.cons.2 (turn2_u8 (xr_u8 hc h.cons.1))
def pow2 : Nat → Int → Int
  | 0, c => c
  | n + 1, c => pow2 n (turn2 c)
theorem pow2_u8 : ∀ n {c}, U8 c → U8 (pow2 n c)
  | 0, _, h => h
  | n + 1, _, h => pow2_u8 n (turn2_u8 h)
theorem pow2_lin : ∀ n {a b}, U8 a → U8 b → pow2 n (xr a b) = xr (pow2 n a) (pow2 n b)
  | 0, _, _, _, _ => rfl
  | n + 1, _, _, ha, hb => by
    rw [pow2, turn2_lin ha hb, pow2_lin n (turn2_u8 ha) (turn2_u8 hb)]; rfl
theorem sumL_lin : ∀ {l : List Int}, Bytes l → ∀ {c}, U8 c → sumL l c = xr (pow2 l.length c) (sumL l 0)
  | [], _, c, hc => (xr_zero hc).symm
  | y :: ys, h, c, hc => by
    obtain ⟨hy, hs⟩ := h.cons
    rw [sumL_cons, sumL_cons, sumL_lin hs (turn2_u8 (xr_u8 hc hy)), sumL_lin hs (turn2_u8 (xr_u8 u8_0 hy)), zero_xr hy, turn2_lin hc hy, pow2_lin _ (turn2_u8 hc) (turn2_u8 hy)]
    rw [xr_assoc (pow2_u8 _ (turn2_u8 hc)) (pow2_u8 _ (turn2_u8 hy)) (sumL_u8 hs u8_0)]
    rfl
theorem sumL_inj : ∀ {l : List Int}, Bytes l → ∀ {a b}, U8 a → U8 b → sumL l a = sumL l b → a = b
  | [], _, _, _, _, _, h => h
  | _ :: _, hl, _, _, ha, hb, h => by
    obtain ⟨hy, hs⟩ := hl.cons
    exact xr_inj ha hb hy (turn2_inj (xr_u8 ha hy) (xr_u8 hb hy) (sumL_inj hs (turn2_u8 (xr_u8 ha hy)) (turn2_u8 (xr_u8 hb hy)) h))
theorem sumL_surj : ∀ {l : List Int}, Bytes l → ∀ {t}, U8 t → ∃ a, U8 a ∧ sumL l a = t
  | [], _, t, ht => ⟨t, ht, rfl⟩
  | y :: _, hl, t, ht => by
    obtain ⟨hy, hs⟩ := hl.cons
    obtain ⟨z, hz, e⟩ := sumL_surj hs ht
    refine ⟨xr (unturn z) y, xr_u8 (un_facts hz).2.2 hy, ?_⟩
    rw [sumL_cons, xr_cancel (un_facts hz).2.2 hy, (un_facts hz).1, e]

/-! the printed functions -/
theorem sum_val (s : ByteArray) (h : s.size ≤ 9223372036854775807) : crc_Sum.f s = some (sumL (bytesOf s) 0) := by unfold crc_Sum.f; rw [if_pos h]
theorem step_val {c b : Int} (hc : U8 c) (hb : U8 b) : crc_Step.f c b = some (turn2 (xr c b)) := by
  unfold crc_Step.f
  have := xr_u8 hc hb
  rw [show Go.bits .xor .u8 c b = xr c b from rfl, turn_f this.1 this.2]; rfl
theorem stepR_fin : ∀ x : Fin 256, tipstaffref04_Step.l0 9 (x.val : Int) 0 = some (turn2 (x.val : Int)) := by decide +kernel
theorem stepR_val {k : Nat} (hk : 9 ≤ k) {c b : Int} (hc : U8 c) (hb : U8 b) : tipstaffref04_Step.f k c b = some (turn2 (xr c b)) := by
  unfold tipstaffref04_Step.f
  have hx := xr_u8 hc hb
  obtain ⟨n, hn, hlt⟩ := u8_nat hx
  rw [show Go.bits .xor .u8 c b = (n : Int) from hn, hn]
  exact at_rounds (g := fun k => tipstaffref04_Step.l0 k (n : Int) 0) (fun k => tipstaffref04_Step.mono_l k _ _) hk (stepR_fin ⟨n, hlt⟩)
theorem sumR_loop (s : ByteArray) (hs : s.size ≤ 140737488351232) : ∀ (d k i : Nat) (c : Int), i + d = s.size → d + 10 ≤ k → U8 c →
    tipstaffref04_Sum.l0 k s c (i : Int) = some (sumL ((bytesOf s).drop i) c) := by
  intro d
  induction d with
  | zero =>
    intro k i c hi hk hc
    obtain ⟨k, rfl, hk⟩ := succ_of (show 9 < k by omega)
    rw [tipstaffref04_Sum.l0, if_neg (by omega), List.drop_eq_nil_of_le (by rw [bytesOf_length]; omega)]; rfl
  | succ d ih =>
    intro k i c hi hk hc
    obtain ⟨k, rfl, hk⟩ := succ_of (show d + 10 < k by omega)
    have hb : U8 (bt s (i : Int)) := bt_range s _
    rw [tipstaffref04_Sum.l0, if_pos (by omega), if_pos (by omega), stepR_val (by omega) hc hb, Option.bind_some, wrap_succ i (by omega), ih k (i + 1) _ (by omega) (by omega) (turn2_u8 (xr_u8 hc hb))]
    have hl : (bytesOf s).length = s.size := bytesOf_length s
    rw [drop_rd (bytesOf s) i (by omega), rd_bytesOf]; rfl
theorem sumR_val {k : Nat} (s : ByteArray) (hs : s.size ≤ 140737488351232) (hk : s.size + 10 ≤ k) : tipstaffref04_Sum.f k s = some (sumL (bytesOf s) 0) := by
  unfold tipstaffref04_Sum.f
  exact sumR_loop s hs s.size k 0 0 (by omega) hk u8_0
theorem awake_val {k : Nat} (hk : 100 ≤ k) : tipstafflaw04_awake.f k = some true :=
  at_rounds (g := fun k => tipstafflaw04_awake.f k) (fun k => tipstafflaw04_awake.mono k) hk (by decide +kernel)
theorem join_loop (b : Int) (n : Nat) (hn : n ≤ 20000) : ∀ (d k i : Nat) (a : Int), i + d = n → d < k → U8 a →
    crc_Join.l0 k a b (n : Int) (i : Int) = some (xr (pow2 d a) b, 0) := by
  intro d
  induction d with
  | zero =>
    intro k i a hi hk ha
    obtain ⟨k, rfl, hk⟩ := succ_of hk
    rw [crc_Join.l0, if_neg (by omega)]; rfl
  | succ d ih =>
    intro k i a hi hk ha
    obtain ⟨k, rfl, hk⟩ := succ_of hk
    rw [crc_Join.l0, if_pos (by omega), turn_f ha.1 ha.2, Option.bind_some, wrap_succ i (by omega), ih k (i + 1) _ (by omega) (by omega) (turn2_u8 ha)]; rfl
theorem join_val {k : Nat} {a b : Int} (n : Nat) (hn : n ≤ 20000) (hk : n + 1 < k) (ha : U8 a) : crc_Join.f k a b (n : Int) = some (xr (pow2 n a) b, 0) := by
  obtain ⟨k, rfl, hk⟩ := succ_of hk
  unfold crc_Join.f
  rw [if_neg (by omega), decide_eq_false (show ¬ (n : Int) > 20000 by omega), crc_Join.j0, if_neg (by decide)]
  exact join_loop b n hn n k 0 a (by omega) (by omega) ha
theorem bytes_append (s t : ByteArray) : bytesOf (s ++ t) = bytesOf s ++ bytesOf t := by
  unfold bytesOf
  simp
theorem bytes_str {l : List Int} (h : Bytes l) : bytesOf (strOfNums l) = l := by
  unfold bytesOf strOfNums
  simp only [List.map_map]
  conv => rhs; rw [← List.map_id l]
  refine List.map_congr_left fun x hx => ?_
  obtain ⟨n, rfl, hn⟩ := u8_nat (h x hx)
  simp
  omega

end Go.Proofs.YtghcckbdfmpgjaaDoor.Pure
