/- How many bits are set: the sums over pairs, nibbles and bytes of math/bits, and the lights of a run. -/
import Derived.Test.YtenlokaaloenmaaDoorM4
import Derived.Test.YtenlokaaloenmaaDoorM5
import Derived.Laws.Bits64b
import Derived.Test.YtenlokaaloenmaaDoorM3
set_option linter.unusedVariables false
namespace Go.Proofs.YtenlokaaloenmaaDoor.Pure
open Go.RowKit Go.Proofs.YtenlokaaloenmaaDoor.S Go.Proofs.YtenlokaaloenmaaDoorW.PrintWords Go.Proofs.YtenlokaaloenmaaDoorW.PrintLast Go.Proofs.YtenlokaaloenmaaDoorW.PrintMore
set_option linter.unusedVariables false
set_option linter.unusedSimpArgs false

/-- A number out of its bytes. -/
def ofB : List Nat → Nat
  | [] => 0
  | b :: t => b + 256 * ofB t
def mkM (c : Nat) : List Nat → Nat
  | [] => 0
  | _ :: t => c + 256 * mkM c t
def B8 (P : Nat → Prop) (l : List Nat) : Prop := ∀ b ∈ l, P b
theorem and8 (b h c m : Nat) (hb : b < 256) (hc : c < 256) : (b + 256 * h) &&& (c + 256 * m) = (b &&& c) + 256 * (h &&& m) := by
  have hbc : b &&& c < 2 ^ 8 := Nat.lt_of_le_of_lt Nat.and_le_left hb
  rw [Nat.add_comm b, Nat.add_comm c, Nat.add_comm (b &&& c)]
  apply Nat.eq_of_testBit_eq
  intro j
  have e1 := Nat.testBit_two_pow_mul_add h (b := b) (i := 8) hb j
  have e2 := Nat.testBit_two_pow_mul_add m (b := c) (i := 8) hc j
  have e3 := Nat.testBit_two_pow_mul_add (h &&& m) (b := b &&& c) (i := 8) hbc j
  rw [Nat.testBit_and, show 256 * h + b = 2 ^ 8 * h + b from rfl, show 256 * m + c = 2 ^ 8 * m + c from rfl, show 256 * (h &&& m) + (b &&& c) = 2 ^ 8 * (h &&& m) + (b &&& c) from rfl, e1, e2, e3]
  by_cases hj : j < 8
  · rw [if_pos hj, if_pos hj, if_pos hj, Nat.testBit_and]
  · rw [if_neg hj, if_neg hj, if_neg hj, Nat.testBit_and]
def s1 (b : Nat) : Nat := (b / 2 &&& 85) + (b &&& 85)
def s2 (b : Nat) : Nat := (b / 4 &&& 51) + (b &&& 51)
def s3 (b : Nat) : Nat := (b / 16 + b) &&& 15
theorem hi1 : ∀ x : Fin 128, ∀ h : Fin 2, ((x.val + 128 * h.val) &&& 85) = (x.val &&& 85) := by decide +kernel
theorem hi2 : ∀ x : Fin 64, ∀ h : Fin 4, ((x.val + 64 * h.val) &&& 51) = (x.val &&& 51) := by decide +kernel
theorem hi3 : ∀ x : Fin 256, ∀ h : Fin 16, (((x.val + 16 * h.val) % 256) &&& 15) = (x.val % 256 &&& 15) := by decide +kernel
theorem s1_all : ∀ b : Fin 256, s1 b.val < 256 := by decide +kernel
theorem s2_all : ∀ b : Fin 256, s2 (s1 b.val) < 256 ∧ s2 (s1 b.val) % 16 ≤ 4 ∧ s2 (s1 b.val) ≤ 68 := by decide +kernel

theorem ofB_lt : ∀ l : List Nat, B8 (· < 256) l → ofB l < 256 ^ l.length
  | [], _ => by decide
  | b :: t, h => by
    have h1 := ofB_lt t (fun x hx => h x (List.mem_cons_of_mem _ hx))
    have h2 : b < 256 := h b (List.mem_cons_self ..)
    rw [ofB, List.length_cons, Nat.pow_succ]
    omega
theorem step1 : ∀ l : List Nat, B8 (· < 256) l → (ofB l / 2 &&& mkM 85 l) = ofB (l.map fun b => b / 2 &&& 85) ∧ (ofB l &&& mkM 85 l) = ofB (l.map fun b => b &&& 85)
  | [], _ => by decide
  | b :: t, h => by
    have hb : b < 256 := h b (List.mem_cons_self ..)
    obtain ⟨h1, h2⟩ := step1 t (fun x hx => h x (List.mem_cons_of_mem _ hx))
    simp only [ofB, mkM, List.map_cons]
    constructor
    · have e : (b + 256 * ofB t) / 2 = (b / 2 + 128 * (ofB t % 2)) + 256 * (ofB t / 2) := by omega
      have hh := hi1 ⟨b / 2, by omega⟩ ⟨ofB t % 2, by omega⟩
      simp only at hh
      rw [e, and8 _ _ _ _ (by omega) (by decide), h1, hh]
    · rw [and8 _ _ _ _ hb (by decide), h2]
theorem step2 : ∀ l : List Nat, B8 (· < 256) l → (ofB l / 4 &&& mkM 51 l) = ofB (l.map fun b => b / 4 &&& 51) ∧ (ofB l &&& mkM 51 l) = ofB (l.map fun b => b &&& 51)
  | [], _ => by decide
  | b :: t, h => by
    have hb : b < 256 := h b (List.mem_cons_self ..)
    obtain ⟨h1, h2⟩ := step2 t (fun x hx => h x (List.mem_cons_of_mem _ hx))
    simp only [ofB, mkM, List.map_cons]
    constructor
    · have e : (b + 256 * ofB t) / 4 = (b / 4 + 64 * (ofB t % 4)) + 256 * (ofB t / 4) := by omega
      have hh := hi2 ⟨b / 4, by omega⟩ ⟨ofB t % 4, by omega⟩
      simp only at hh
      rw [e, and8 _ _ _ _ (by omega) (by decide), h1, hh]
    · rw [and8 _ _ _ _ hb (by decide), h2]
theorem ofB_low : ∀ l : List Nat, B8 (fun b => b % 16 ≤ 4 ∧ b ≤ 68) l → ofB l % 16 ≤ 4
  | [], _ => by decide
  | b :: t, h => by
    have hb := h b (List.mem_cons_self ..)
    rw [ofB]; omega
theorem step3 : ∀ l : List Nat, B8 (fun b => b % 16 ≤ 4 ∧ b ≤ 68) l → ((ofB l / 16 + ofB l) &&& mkM 15 l) = ofB (l.map s3)
  | [], _ => by decide
  | b :: t, h => by
    have hb := h b (List.mem_cons_self ..)
    have ht : B8 (fun b => b % 16 ≤ 4 ∧ b ≤ 68) t := fun x hx => h x (List.mem_cons_of_mem _ hx)
    have h1 := step3 t ht
    have hl := ofB_low t ht
    simp only [ofB, mkM, List.map_cons]
    have e : (b + 256 * ofB t) / 16 + (b + 256 * ofB t) = ((b / 16 + b) + 16 * (ofB t % 16)) + 256 * (ofB t / 16 + ofB t) := by omega
    have hh := hi3 ⟨b / 16 + b, by omega⟩ ⟨ofB t % 16, by omega⟩
    simp only at hh
    rw [Nat.mod_eq_of_lt (show b / 16 + b + 16 * (ofB t % 16) < 256 by omega), Nat.mod_eq_of_lt (show b / 16 + b < 256 by omega)] at hh
    rw [e, and8 _ _ _ _ (by omega) (by decide), h1, hh]
    rfl
theorem ofB_add : ∀ (l : List Nat) (f g : Nat → Nat), ofB (l.map f) + ofB (l.map g) = ofB (l.map fun b => f b + g b)
  | [], _, _ => rfl
  | b :: t, f, g => by
    have := ofB_add t f g
    simp only [ofB, List.map_cons]
    omega

/-- How many of the bits from a place on are set. -/
def popN (x : Nat) : Nat → Nat → Nat
  | 0, _ => 0
  | n + 1, c => (if x.testBit c = true then 1 else 0) + popN x n (c + 1)
theorem popN_le (x : Nat) : ∀ n c, popN x n c ≤ n
  | 0, _ => Nat.le_refl _
  | n + 1, c => by
    have := popN_le x n (c + 1)
    rw [popN]
    by_cases h : x.testBit c = true
    · rw [if_pos h]; omega
    · rw [if_neg h]; omega
theorem popN_add (x : Nat) : ∀ n m c, popN x (n + m) c = popN x n c + popN x m (c + n)
  | 0, m, c => by simp [popN]
  | n + 1, m, c => by
    rw [show n + 1 + m = (n + m) + 1 by omega, popN, popN, popN_add x n m (c + 1), show c + 1 + n = c + (n + 1) by omega, Nat.add_assoc]
theorem popN_congr (x y : Nat) : ∀ n c d, (∀ j, j < n → x.testBit (c + j) = y.testBit (d + j)) → popN x n c = popN y n d
  | 0, _, _, _ => rfl
  | n + 1, c, d, h => by
    rw [popN, popN, popN_congr x y n (c + 1) (d + 1) (fun j hj => by have := h (j + 1) (by omega); rw [show c + 1 + j = c + (j + 1) by omega, show d + 1 + j = d + (j + 1) by omega]; exact this)]
    have := h 0 (by omega)
    rw [Nat.add_zero, Nat.add_zero] at this
    rw [this]
theorem pop_byte : ∀ b : Fin 256, s3 (s2 (s1 b.val)) = popN b.val 8 0 := by decide +kernel
def sumN : List Nat → Nat
  | [] => 0
  | b :: t => b + sumN t
theorem pop_ofB : ∀ l : List Nat, B8 (· < 256) l → popN (ofB l) (8 * l.length) 0 = sumN (l.map fun b => popN b 8 0)
  | [], _ => rfl
  | b :: t, h => by
    have hb : b < 256 := h b (List.mem_cons_self ..)
    have h1 := pop_ofB t (fun x hx => h x (List.mem_cons_of_mem _ hx))
    have tb := fun j => Nat.testBit_two_pow_mul_add (ofB t) (b := b) (i := 8) hb j
    have e : ofB (b :: t) = 2 ^ 8 * ofB t + b := by rw [ofB]; omega
    rw [List.length_cons, show 8 * (t.length + 1) = 8 + 8 * t.length by omega, popN_add, List.map_cons, sumN, ← h1]
    congr 1
    · refine popN_congr _ _ 8 0 0 (fun j hj => ?_)
      rw [e, tb, if_pos (by omega)]
    · refine popN_congr _ _ _ _ 0 (fun j hj => ?_)
      rw [e, tb, if_neg (by omega)]
      congr 1
      omega

def oc1 (x : Int) : Int := IntKind.u64.wrap ((Go.bits .and .u64 (x / 2) 6148914691236517205) + (Go.bits .and .u64 x 6148914691236517205))
def oc2 (x : Int) : Int := IntKind.u64.wrap ((Go.bits .and .u64 (x / 4) 3689348814741910323) + (Go.bits .and .u64 x 3689348814741910323))
def oc3 (x : Int) : Int := Go.bits .and .u64 (IntKind.u64.wrap ((x / 16) + x)) 1085102592571150095
def oc4 (x d : Int) : Int := IntKind.u64.wrap (x + x / d)
theorem oc_val (x : Int) : bits_OnesCount64.f x = some (Go.bits .and .i64 (wrap64 (oc4 (oc4 (oc4 (oc3 (oc2 (oc1 x))) 256) 65536) 4294967296)) 127) := rfl

theorem and_c (x c : Nat) (hx : x < 18446744073709551616) (hc : c < 18446744073709551616) : Go.bits .and .u64 (x : Int) (c : Int) = ((x &&& c : Nat) : Int) := bits_and_u64_nat x c hx hc
theorem u64_id (x : Nat) (hx : x < 18446744073709551616) : IntKind.u64.wrap (x : Int) = (x : Int) := by rw [IntKind.wrap_u64]; omega

theorem and_i64_nat (a b : Nat) (ha : a < 9223372036854775808) (hb : b < 9223372036854775808) : Go.bits .and .i64 (a : Int) (b : Int) = ((a &&& b : Nat) : Int) := by
  have hx : a &&& b < 2 ^ 63 := Nat.and_lt_two_pow _ (by omega)
  have h1 : (BitVec.ofInt 64 (a : Int)).toNat = a := by
    rw [BitVec.ofInt_natCast, BitVec.toNat_ofNat]; exact Nat.mod_eq_of_lt (by omega)
  have h2 : (BitVec.ofInt 64 (b : Int)).toNat = b := by
    rw [BitVec.ofInt_natCast, BitVec.toNat_ofNat]; exact Nat.mod_eq_of_lt (by omega)
  show IntKind.i64.wrap ((BitVec.ofInt 64 (a : Int) &&& BitVec.ofInt 64 (b : Int)).toNat : Int) = _
  rw [BitVec.toNat_and, h1, h2]
  rw [IntKind.wrap_i64]
  omega
theorem oc4_nat (y a m r t : Nat) (e : y = a + m * r) (ha : a < m) (ht : t = y + r) (h : t < 18446744073709551616) : oc4 (y : Int) (m : Int) = (t : Int) := by
  have hd : y / m = r := by rw [e, Nat.add_mul_div_left _ _ (by omega), Nat.div_eq_of_lt ha, Nat.zero_add]
  have hd' : (y : Int) / (m : Int) = (r : Int) := by rw [← hd]; rfl
  unfold oc4
  rw [hd', ht, ← Int.natCast_add, IntKind.wrap_u64]
  omega
/-- Eight counts added up, 127 being the mask. -/
theorem fin8 (b0 b1 b2 b3 b4 b5 b6 b7 : Nat) (h0 : b0 ≤ 8) (h1 : b1 ≤ 8) (h2 : b2 ≤ 8) (h3 : b3 ≤ 8) (h4 : b4 ≤ 8) (h5 : b5 ≤ 8) (h6 : b6 ≤ 8) (h7 : b7 ≤ 8) :
    Go.bits .and .i64 (wrap64 (oc4 (oc4 (oc4 ((ofB [b0, b1, b2, b3, b4, b5, b6, b7] : Nat) : Int) 256) 65536) 4294967296)) 127 = ((sumN [b0, b1, b2, b3, b4, b5, b6, b7] : Nat) : Int) := by
  simp only [ofB, sumN]
  obtain ⟨y2, e2⟩ : ∃ y, y = (b0 + b1) + 256 * ((b1 + b2) + 256 * ((b2 + b3) + 256 * ((b3 + b4) + 256 * ((b4 + b5) + 256 * ((b5 + b6) + 256 * ((b6 + b7) + 256 * ((b7)))))))) := ⟨_, rfl⟩
  have g1 : oc4 ((b0 + 256 * (b1 + 256 * (b2 + 256 * (b3 + 256 * (b4 + 256 * (b5 + 256 * (b6 + 256 * (b7 + 256 * 0))))))) : Nat) : Int) 256 = (y2 : Int) := oc4_nat _ b0 256 (b1 + 256 * (b2 + 256 * (b3 + 256 * (b4 + 256 * (b5 + 256 * (b6 + 256 * (b7 + 256 * 0))))))) _ rfl (by omega) (by omega) (by omega)
  rw [g1]
  clear g1
  obtain ⟨y3, e3⟩ : ∃ y, y = ((b0 + b1) + (b2 + b3)) + 256 * (((b1 + b2) + (b3 + b4)) + 256 * (((b2 + b3) + (b4 + b5)) + 256 * (((b3 + b4) + (b5 + b6)) + 256 * (((b4 + b5) + (b6 + b7)) + 256 * (((b5 + b6) + (b7)) + 256 * (((b6 + b7)) + 256 * (((b7))))))))) := ⟨_, rfl⟩
  have g2 : oc4 (y2 : Int) 65536 = (y3 : Int) := oc4_nat _ ((b0 + b1) + 256 * ((b1 + b2))) 65536 ((b2 + b3) + 256 * ((b3 + b4) + 256 * ((b4 + b5) + 256 * ((b5 + b6) + 256 * ((b6 + b7) + 256 * ((b7))))))) _ (by omega) (by omega) (by omega) (by omega)
  rw [g2]
  clear g2 e2
  obtain ⟨r, er⟩ : ∃ r, r = (((b1 + b2) + (b3 + b4)) + ((b5 + b6) + (b7))) + 256 * ((((b2 + b3) + (b4 + b5)) + ((b6 + b7))) + 256 * ((((b3 + b4) + (b5 + b6)) + ((b7))) + 256 * ((((b4 + b5) + (b6 + b7))) + 256 * ((((b5 + b6) + (b7))) + 256 * ((((b6 + b7))) + 256 * ((((b7))))))))) := ⟨_, rfl⟩
  have g3 : oc4 (y3 : Int) 4294967296 = (((b0 + b1 + b2 + b3 + b4 + b5 + b6 + b7) + 256 * r : Nat) : Int) := oc4_nat _ (((b0 + b1) + (b2 + b3)) + 256 * (((b1 + b2) + (b3 + b4)) + 256 * (((b2 + b3) + (b4 + b5)) + 256 * (((b3 + b4) + (b5 + b6)))))) 4294967296 (((b4 + b5) + (b6 + b7)) + 256 * (((b5 + b6) + (b7)) + 256 * (((b6 + b7)) + 256 * (((b7)))))) _ (by omega) (by omega) (by omega) (by omega)
  rw [g3]
  clear g3 e3
  have hr : r < 18014398509481984 := by omega
  clear er
  obtain ⟨t, ht⟩ : ∃ t, b0 + b1 + b2 + b3 + b4 + b5 + b6 + b7 = t := ⟨_, rfl⟩
  have ht64 : t ≤ 64 := by omega
  have hs : b0 + (b1 + (b2 + (b3 + (b4 + (b5 + (b6 + (b7 + 0))))))) = t := by omega
  have h8 := and8 t r 127 0 (by omega) (by decide)
  have h127 : t &&& 127 = t % 2 ^ 7 := Nat.and_two_pow_sub_one_eq_mod t 7
  have ht7 : t % 2 ^ 7 = t := Nat.mod_eq_of_lt (by omega)
  rw [Nat.mul_zero, Nat.add_zero, Nat.and_zero, Nat.mul_zero, Nat.add_zero, h127, ht7] at h8
  have hi := and_i64_nat (t + 256 * r) 127 (by omega) (by decide)
  rw [h8] at hi
  have hwr : wrap64 ((t + 256 * r : Nat) : Int) = ((t + 256 * r : Nat) : Int) := wrap_id _ (by omega) (by omega)
  rw [ht, hs, hwr]
  exact hi

set_option maxHeartbeats 1000000 in
theorem pop_val (x : Int) (h0 : 0 ≤ x) (h1 : x < 18446744073709551616) : bits_OnesCount64.f x = some ((popN x.toNat 64 0 : Nat) : Int) := by
  obtain ⟨n, rfl⟩ : ∃ n : Nat, x = n := ⟨x.toNat, by omega⟩
  have hn : n < 18446744073709551616 := by omega
  obtain ⟨l, hl, hb, hlen⟩ : ∃ l, n = ofB l ∧ B8 (· < 256) l ∧ l.length = 8 := by
    refine ⟨[n % 256, n / 256 % 256, n / 65536 % 256, n / 16777216 % 256, n / 4294967296 % 256, n / 1099511627776 % 256, n / 281474976710656 % 256, n / 72057594037927936 % 256], ?_, ?_, rfl⟩
    · simp only [ofB]; omega
    · intro b hb
      simp only [List.mem_cons, List.not_mem_nil, or_false] at hb
      omega
  have lt8 : ∀ m : List Nat, B8 (· < 256) m → m.length = 8 → ofB m < 18446744073709551616 := fun m hm h => by
    have := ofB_lt m hm
    rw [h] at this
    exact this
  have mk8 : ∀ (c : Nat) (m : List Nat), m.length = 8 → mkM c m = c * 72340172838076673 := by
    intro c m hm
    match m, hm with
    | [_, _, _, _, _, _, _, _], _ => simp only [mkM]; omega
  -- pairs
  have p1 : oc1 ((ofB l : Nat) : Int) = ((ofB (l.map s1) : Nat) : Int) := by
    obtain ⟨e1, e2⟩ := step1 l hb
    rw [mk8 85 l hlen] at e1 e2
    have hl8 := lt8 l hb hlen
    unfold oc1
    rw [show ((ofB l : Nat) : Int) / 2 = ((ofB l / 2 : Nat) : Int) by omega, show (6148914691236517205 : Int) = ((6148914691236517205 : Nat) : Int) from rfl, and_c _ _ (by omega) (by decide), and_c _ _ hl8 (by decide), e1, e2, ← Int.natCast_add, ofB_add]
    refine u64_id _ (lt8 (l.map s1) ?_ (by rw [List.length_map, hlen]))
    intro b hb'
    obtain ⟨a, ha, rfl⟩ := List.mem_map.1 hb'
    exact s1_all ⟨a, hb a ha⟩
  have hb1 : B8 (· < 256) (l.map s1) := by
    intro b hb'
    obtain ⟨a, ha, rfl⟩ := List.mem_map.1 hb'
    exact s1_all ⟨a, hb a ha⟩
  have p2 : oc2 ((ofB (l.map s1) : Nat) : Int) = ((ofB ((l.map s1).map s2) : Nat) : Int) := by
    obtain ⟨e1, e2⟩ := step2 (l.map s1) hb1
    rw [mk8 51 _ (by rw [List.length_map, hlen])] at e1 e2
    have hl8 := lt8 (l.map s1) hb1 (by rw [List.length_map, hlen])
    unfold oc2
    rw [show ((ofB (l.map s1) : Nat) : Int) / 4 = ((ofB (l.map s1) / 4 : Nat) : Int) by omega, show (3689348814741910323 : Int) = ((3689348814741910323 : Nat) : Int) from rfl, and_c _ _ (by omega) (by decide), and_c _ _ hl8 (by decide), e1, e2, ← Int.natCast_add, ofB_add]
    refine u64_id _ (lt8 ((l.map s1).map s2) ?_ (by rw [List.length_map, List.length_map, hlen]))
    intro b hb'
    obtain ⟨a, ha, rfl⟩ := List.mem_map.1 hb'
    obtain ⟨a', ha', rfl⟩ := List.mem_map.1 ha
    exact (s2_all ⟨a', hb a' ha'⟩).1
  have hb2 : B8 (fun b => b % 16 ≤ 4 ∧ b ≤ 68) ((l.map s1).map s2) := by
    intro b hb'
    obtain ⟨a, ha, rfl⟩ := List.mem_map.1 hb'
    obtain ⟨a', ha', rfl⟩ := List.mem_map.1 ha
    exact (s2_all ⟨a', hb a' ha'⟩).2
  have hb2' : B8 (· < 256) ((l.map s1).map s2) := fun b hb' => by have := (hb2 b hb').2; show b < 256; omega
  have p3 : oc3 ((ofB ((l.map s1).map s2) : Nat) : Int) = ((ofB (((l.map s1).map s2).map s3) : Nat) : Int) := by
    have e1 := step3 _ hb2
    have l8 : ((l.map s1).map s2).length = 8 := by rw [List.length_map, List.length_map, hlen]
    rw [mk8 15 _ l8] at e1
    obtain ⟨m, hm⟩ : ∃ m, (l.map s1).map s2 = m := ⟨_, rfl⟩
    rw [hm] at e1 l8 hb2 ⊢
    have hl7 : ofB m < 72057594037927936 * 69 := by
      match m, l8 with
      | [b0, b1, b2, b3, b4, b5, b6, b7], _ =>
        have h0 := (hb2 b0 (by simp)).2
        have h1 := (hb2 b1 (by simp)).2
        have h2 := (hb2 b2 (by simp)).2
        have h3 := (hb2 b3 (by simp)).2
        have h4 := (hb2 b4 (by simp)).2
        have h5 := (hb2 b5 (by simp)).2
        have h6 := (hb2 b6 (by simp)).2
        have h7 := (hb2 b7 (by simp)).2
        simp only [ofB]
        omega
    unfold oc3
    rw [show ((ofB m : Nat) : Int) / 16 + ((ofB m : Nat) : Int) = ((ofB m / 16 + ofB m : Nat) : Int) by omega, u64_id _ (by omega), show (1085102592571150095 : Int) = ((1085102592571150095 : Nat) : Int) from rfl, and_c _ _ (by omega) (by decide), e1]
  have hp : ((l.map s1).map s2).map s3 = l.map fun b => popN b 8 0 := by
    rw [List.map_map, List.map_map]
    refine List.map_congr_left (fun a ha => ?_)
    exact pop_byte ⟨a, hb a ha⟩
  have htot := pop_ofB l hb
  rw [hlen, ← hl] at htot
  rw [hl, oc_val, p1, p2, p3, hp, ← hl, Int.toNat_natCast, show 64 = 8 * 8 from rfl, htot]
  obtain ⟨q, hq⟩ : ∃ q, (l.map fun b => popN b 8 0) = q := ⟨_, rfl⟩
  have hq8 : ∀ b ∈ q, b ≤ 8 := by
    rw [← hq]
    intro b hb'
    obtain ⟨a, _, rfl⟩ := List.mem_map.1 hb'
    exact popN_le a 8 0
  have hql : q.length = 8 := by rw [← hq, List.length_map, hlen]
  rw [hq]
  clear htot hp p3 p2 p1 hb2 hb2' hb1
  match q, hql, hq8 with
  | [b0, b1, b2, b3, b4, b5, b6, b7], _, hq8 =>
    exact congrArg some (fin8 b0 b1 b2 b3 b4 b5 b6 b7 (hq8 b0 (by simp)) (hq8 b1 (by simp)) (hq8 b2 (by simp)) (hq8 b3 (by simp)) (hq8 b4 (by simp)) (hq8 b5 (by simp)) (hq8 b6 (by simp)) (hq8 b7 (by simp)))

end Go.Proofs.YtenlokaaloenmaaDoor.Pure
