/- The lights that are on anywhere: all floors, both sets. -/
import Derived.Test.YtenlokaaloenmaaDoorM5
import Derived.Test.YtenlokaaloenmaaDoorM6
import Derived.Laws.Bits64b
set_option linter.unusedVariables false
namespace Go.Proofs.YtenlokaaloenmaaDoor.Pure
open Go.RowKit Go.Proofs.YtenlokaaloenmaaDoor.S Go.Proofs.YtenlokaaloenmaaDoorW.PrintWords Go.Proofs.YtenlokaaloenmaaDoorW.PrintLast Go.Proofs.YtenlokaaloenmaaDoorW.PrintMore
set_option linter.unusedVariables false
set_option linter.unusedSimpArgs false

theorem onV_nat (f : Nat) (up : Bool) (u d : Nat) (hu : u < 18446744073709551616) (hd : d < 18446744073709551616) : onV (f : Int) up (u : Int) (d : Int) = (if up = true then u else d).testBit f := by
  have key : ∀ x : Nat, x < 18446744073709551616 → ((Go.bits .and .u64 ((x : Int) / 2 ^ (f : Int).toNat) 1) == 1) = x.testBit f := by
    intro x hx
    have e : ((x : Int) / 2 ^ (f : Int).toNat) = ((x / 2 ^ f : Nat) : Int) := by rw [Int.toNat_natCast]; push_cast; rfl
    have h1 : x / 2 ^ f < 18446744073709551616 := Nat.lt_of_le_of_lt (Nat.div_le_self _ _) hx
    rw [e, show (1 : Int) = ((1 : Nat) : Int) from rfl, bits_and_u64_nat _ _ h1 (by decide), Nat.and_one_is_mod, Nat.testBit_eq_decide_div_mod_eq]
    by_cases h : x / 2 ^ f % 2 = 1
    · rw [h]; rfl
    · rw [decide_eq_false h, beq_eq_false_iff_ne]; omega
  unfold onV
  cases up with
  | true => rw [if_pos rfl, if_pos rfl]; exact key u hu
  | false => rw [if_neg (by decide), if_neg (by decide)]; exact key d hd

/-- Bits of an or over the views. -/
theorem or_bit (g : S41 → Int) : ∀ (l : List S41) (a : Nat), (∀ v ∈ l, 0 ≤ g v ∧ g v < 18446744073709551616) → a < 18446744073709551616 →
    ∃ r : Nat, l.foldl (fun a v => Go.bits .or .u64 a (g v)) (a : Int) = (r : Int) ∧ r < 18446744073709551616 ∧ ∀ f, r.testBit f = (a.testBit f || l.any (fun v => (g v).toNat.testBit f))
  | [], a, _, ha => ⟨a, rfl, ha, fun f => by simp⟩
  | v :: l, a, h, ha => by
    have hv := h v (List.mem_cons_self ..)
    obtain ⟨n, hn⟩ : ∃ n : Nat, g v = n := ⟨(g v).toNat, by omega⟩
    have hn64 : n < 18446744073709551616 := by omega
    have h64 : a ||| n < 18446744073709551616 := Nat.or_lt_two_pow (n := 64) ha hn64
    obtain ⟨r, h1, h2, h3⟩ := or_bit g l (a ||| n) (fun x hx => h x (List.mem_cons_of_mem _ hx)) h64
    refine ⟨r, ?_, h2, fun f => ?_⟩
    · rw [List.foldl_cons, hn, bits_or_u64_nat _ _ ha hn64, h1]
    · rw [h3 f, Nat.testBit_or, List.any_cons, hn, Int.toNat_natCast, Bool.or_assoc]

/-- Clearing the lowest bit. -/
theorem low_clear (z q : Nat) : (2 ^ z * (2 * q + 1)) &&& (2 ^ z * (2 * q + 1) - 1) = 2 ^ z * (2 * q) := by
  have hp : 0 < 2 ^ z := Nat.two_pow_pos z
  have e1 : 2 ^ z * (2 * q + 1) - 1 = 2 ^ z * (2 * q) + (2 ^ z - 1) := by rw [Nat.mul_add, Nat.mul_one]; omega
  rw [e1]
  apply Nat.eq_of_testBit_eq
  intro j
  have a1 := Nat.testBit_two_pow_mul_add (2 * q + 1) (b := 0) (i := z) hp j
  have a2 := Nat.testBit_two_pow_mul_add (2 * q) (b := 0) (i := z) hp j
  rw [Nat.add_zero] at a1 a2
  rw [Nat.testBit_and, Nat.testBit_two_pow_mul_add (2 * q) (by omega) j, a1, a2]
  by_cases hj : j < z
  · simp [hj]
  · rw [if_neg hj, if_neg hj, if_neg hj]
    cases h : j - z with
    | zero => simp
    | succ t => rw [Nat.testBit_succ, Nat.testBit_succ, show (2 * q + 1) / 2 = q by omega, show 2 * q / 2 = q by omega, Bool.and_self]
theorem low_bit (z q : Nat) (j : Nat) : (2 ^ z * (2 * q + 1)).testBit j = if j < z then false else (2 * q + 1).testBit (j - z) := by
  have a1 := Nat.testBit_two_pow_mul_add (2 * q + 1) (b := 0) (i := z) (Nat.two_pow_pos z) j
  rw [Nat.add_zero] at a1
  rw [a1]
  simp

/-- The lights of two sets, from a floor on. -/
def pairs (u d : Int) (f : Fin 64) : List (Fin 64 × Bool) := (if onV (f.val : Int) true u d = true then [(f, true)] else []) ++ (if onV (f.val : Int) false u d = true then [(f, false)] else [])
def flo (c : Nat) : Fin 64 := ⟨c % 64, Nat.mod_lt _ (by decide)⟩
def gl (u d : Int) : Nat → Nat → List (Fin 64 × Bool)
  | 0, _ => []
  | n + 1, c => pairs u d (flo c) ++ gl u d n (c + 1)
theorem allF_ev (u d : Nat) (hu : u < 18446744073709551616) (hd : d < 18446744073709551616) : ∀ (n c m : Nat), n = 64 - c → c ≤ 64 → m < 18446744073709551616 → (∀ f, f < c → m.testBit f = false) → (∀ f, c ≤ f → m.testBit f = (u.testBit f || d.testBit f)) →
    Ev (fun k => allF k m (u : Int) (d : Int)) (gl u d n c) := by
  intro n
  induction n with
  | zero =>
    intro c m hn hc hm h0 h1
    have m0 : m = 0 := by
      apply Nat.eq_of_testBit_eq
      intro j
      rw [Nat.zero_testBit]
      by_cases hj : j < c
      · exact h0 j hj
      · exact Nat.testBit_lt_two_pow (Nat.lt_of_lt_of_le hm (by have : 2 ^ 64 ≤ 2 ^ j := Nat.pow_le_pow_right (by decide) (by omega); exact this))
    exact Ev.step (Ev.const []) (fun k => by rw [allF, if_pos m0])
  | succ n IH =>
    intro c m hn hc hm h0 h1
    have hc64 : c < 64 := by omega
    have hfl : (flo c).val = c := Nat.mod_eq_of_lt hc64
    rw [gl]
    have on1 : ∀ up, onV ((flo c).val : Int) up (u : Int) (d : Int) = (if up = true then u else d).testBit c := fun up => by rw [hfl]; exact onV_nat c up u d hu hd
    cases hb : m.testBit c with
    | false =>
      have hb2 := h1 c (Nat.le_refl _)
      rw [hb] at hb2
      have hu0 : u.testBit c = false := by cases h : u.testBit c with | false => rfl | true => rw [h] at hb2; simp at hb2
      have hd0 : d.testBit c = false := by cases h : d.testBit c with | false => rfl | true => rw [h] at hb2; simp at hb2
      have hp : pairs u d (flo c) = [] := by
        unfold pairs
        rw [on1 true, on1 false, if_pos rfl, if_neg (show ¬ (false = true) by decide), hu0, hd0]
        rfl
      rw [hp, List.nil_append]
      refine IH (c + 1) m (by omega) (by omega) hm (fun f hf => ?_) (fun f hf => h1 f (by omega))
      by_cases hfc : f = c
      · rw [hfc]; exact hb
      · exact h0 f (by omega)
    | true =>
      have m0 : m ≠ 0 := by intro h; rw [h, Nat.zero_testBit] at hb; cases hb
      obtain ⟨q, hq, hz⟩ := Lib.ctzFrom_spec 64 m (by omega) hm
      have ez : Lib.ctz 64 m = Lib.ctzFrom 64 m := by simp [Lib.ctz, m0]
      obtain ⟨z, hzz⟩ : ∃ z, Lib.ctzFrom 64 m = z := ⟨_, rfl⟩
      rw [hzz] at hq hz ez
      have zc : z = c := by
        have b1 := low_bit z q z
        rw [← hq, if_neg (by omega), Nat.sub_self, Nat.testBit_zero] at b1
        have b1' : m.testBit z = true := by rw [b1]; simp
        by_cases hlt : z < c
        · rw [h0 z hlt] at b1'; cases b1'
        · by_cases hgt : c < z
          · have b2 := low_bit z q c
            rw [← hq, if_pos hgt, hb] at b2; cases b2
          · omega
      subst zc
      have hl : lgt m = flo z := Fin.ext (by show Lib.ctz 64 m % 64 = z % 64; rw [ez])
      have hcl : m &&& (m - 1) = 2 ^ z * (2 * q) := by rw [hq]; exact low_clear z q
      have hbit : ∀ f, (2 ^ z * (2 * q)).testBit f = if f < z + 1 then false else m.testBit f := by
        intro f
        have a2 := Nat.testBit_two_pow_mul_add (2 * q) (b := 0) (i := z) (Nat.two_pow_pos z) f
        rw [Nat.add_zero] at a2
        rw [a2]
        by_cases hf : f < z
        · rw [if_pos hf, if_pos (by omega), Nat.zero_testBit]
        · rw [if_neg hf]
          cases h : f - z with
          | zero => rw [if_pos (by omega)]; simp
          | succ t =>
            rw [if_neg (by omega), hq, low_bit, if_neg hf, h, Nat.testBit_succ, Nat.testBit_succ, show (2 * q + 1) / 2 = q by omega, show 2 * q / 2 = q by omega]
      have ih := IH (z + 1) (m &&& (m - 1)) (by omega) (by omega) (Nat.lt_of_le_of_lt Nat.and_le_left hm) (fun f hf => by rw [hcl, hbit, if_pos hf]) (fun f hf => by rw [hcl, hbit, if_neg (by omega)]; exact h1 f (by omega))
      refine Ev.step (g' := fun k => (allF k (m &&& (m - 1)) u d).map fun t => (if onV ((flo z).val : Int) true u d = true then [(flo z, true)] else []) ++ ((if onV ((flo z).val : Int) false u d = true then [(flo z, false)] else []) ++ t)) ?_ (fun k => by rw [allF, if_neg m0, hl])
      obtain ⟨K, hK⟩ := ih
      refine ⟨K, fun k hk => ?_⟩
      have e := hK k hk
      show (allF k (m &&& (m - 1)) u d).map _ = _
      have e' : allF k (m &&& (m - 1)) (u : Int) (d : Int) = some (gl u d n (z + 1)) := e
      rw [e', Option.map_some, pairs, List.append_assoc]

/-- All lights, from a floor on. -/
def fl : Nat → Nat → List (Fin 64 × Bool)
  | 0, _ => []
  | n + 1, c => (flo c, true) :: (flo c, false) :: fl n (c + 1)
/-- A fold that heeds only the lights that are on. -/
theorem fold_gl {β : Type} (u d : Int) (F : β → Fin 64 × Bool → β) (hF : ∀ b f up, onV ((f : Fin 64).val : Int) up u d = false → F b (f, up) = b) : ∀ (n c : Nat) (b : β), (gl u d n c).foldl F b = (fl n c).foldl F b
  | 0, _, _ => rfl
  | n + 1, c, b => by
    rw [gl, fl, List.foldl_append, fold_gl u d F hF n (c + 1), List.foldl_cons, List.foldl_cons]
    congr 1
    unfold pairs
    cases h1 : onV ((flo c).val : Int) true u d with
    | true =>
      cases h2 : onV ((flo c).val : Int) false u d with
      | true => rfl
      | false => rw [hF (F b (flo c, true)) (flo c) false h2]; rfl
    | false =>
      rw [hF b (flo c) true h1]
      cases h2 : onV ((flo c).val : Int) false u d with
      | true => rfl
      | false => rw [hF b (flo c) false h2]; rfl

theorem spF_off (l : List S41) (f : Int) (up : Bool) (h : ∀ i : Nat, i < l.length → onV f up (rd_T41 l (i : Int)).f3 (rd_T41 l (i : Int)).f4 = false) : ∀ (d i : Nat), d = l.length - i → i ≤ l.length → spF l f up d i (-1) = []
  | 0, i, _, _ => by rw [spF, if_neg (by decide)]
  | d + 1, i, hd, hi => by rw [spF, h i (by omega), if_neg (by decide), if_neg (by decide)]; exact spF_off l f up h d (i + 1) (by omega) (by omega)

/-- What the program's sets tell. -/
theorem all_ev (l : List S41) (hw : ∀ v ∈ l, WV v) : ∃ xs, Ev (fun k => allF k ((orU l).toNat ||| (orD l).toNat) (orU l) (orD l)) xs ∧
    ∀ {β : Type} (F : β → Fin 64 × Bool → β) (b : β), (∀ b (f : Fin 64) up, spl l (f.val : Int) up = [] → F b (f, up) = b) → xs.foldl F b = (fl 64 0).foldl F b := by
  obtain ⟨u, hu, hu64, hub⟩ := or_bit (fun v => v.f3) l 0 (fun v hv => (hw v hv).2.2.2.1) (by decide)
  obtain ⟨d, hd, hd64, hdb⟩ := or_bit (fun v => v.f4) l 0 (fun v hv => (hw v hv).2.2.2.2) (by decide)
  have eu : orU l = (u : Int) := hu
  have ed : orD l = (d : Int) := hd
  have h64 : u ||| d < 18446744073709551616 := Nat.or_lt_two_pow (n := 64) hu64 hd64
  refine ⟨gl u d 64 0, ?_, fun F b hF => fold_gl u d F (fun b f up hon => hF b f up ?_) 64 0 b⟩
  · rw [eu, ed]
    exact allF_ev u d hu64 hd64 64 0 (u ||| d) rfl (by decide) h64 (fun f hf => absurd hf (by omega)) (fun f _ => Nat.testBit_or ..)
  · rw [onV_nat f.val up u d hu64 hd64] at hon
    refine spF_off l f.val up (fun i hi => ?_) l.length 0 rfl (Nat.zero_le _)
    have hm := memV l i hi
    have hwv := hw _ hm
    obtain ⟨a, ha⟩ : ∃ a : Nat, (rd_T41 l (i : Int)).f3 = a := ⟨(rd_T41 l (i : Int)).f3.toNat, by have := hwv.2.2.2.1; omega⟩
    obtain ⟨b', hb'⟩ : ∃ b : Nat, (rd_T41 l (i : Int)).f4 = b := ⟨(rd_T41 l (i : Int)).f4.toNat, by have := hwv.2.2.2.2; omega⟩
    have ha64 : a < 18446744073709551616 := by have := hwv.2.2.2.1; omega
    have hb64 : b' < 18446744073709551616 := by have := hwv.2.2.2.2; omega
    rw [ha, hb', onV_nat f.val up a b' ha64 hb64]
    cases up with
    | true =>
      rw [if_pos rfl] at hon ⊢
      rw [hub, Nat.zero_testBit, Bool.false_or, List.any_eq_false] at hon
      have := hon _ hm
      rw [ha, Int.toNat_natCast] at this
      exact Bool.eq_false_iff.2 this
    | false =>
      rw [if_neg (by decide)] at hon ⊢
      rw [hdb, Nat.zero_testBit, Bool.false_or, List.any_eq_false] at hon
      have := hon _ hm
      rw [hb', Int.toNat_natCast] at this
      exact Bool.eq_false_iff.2 this

end Go.Proofs.YtenlokaaloenmaaDoor.Pure
