/- A run made of numbers: what is known of it. -/
import Derived.Test.YtenlokaaloenmaaDoorM4
import Derived.Test.YtenlokaaloenmaaDoorS2
namespace Go.Proofs.YtenlokaaloenmaaDoor.Pure
open Go.RowKit Go.Proofs.YtenlokaaloenmaaDoor.S Go.Proofs.YtenlokaaloenmaaDoorW.PrintWords Go.Proofs.YtenlokaaloenmaaDoorW.PrintLast Go.Proofs.YtenlokaaloenmaaDoorW.PrintMore
set_option linter.unusedVariables false
set_option linter.unusedSimpArgs false
set_option linter.unusedVariables false

theorem mod_val (a m : Int) (ha : I64 a) (h1 : 1 ≤ m) (h2 : m ≤ 4611686018427387904) : ∃ v, tipstaffkit_Mod.f a m = some v ∧ 0 ≤ v ∧ v < m := by
  unfold tipstaffkit_Mod.f
  rw [if_neg (by omega), if_neg (by omega)]
  by_cases h0 : 0 ≤ a
  · have e : Int.tmod a m = a % m := Int.tmod_eq_emod_of_nonneg h0
    have b1 : 0 ≤ a % m := Int.emod_nonneg _ (by omega)
    have b2 : a % m < m := Int.emod_lt_of_pos _ (by omega)
    rw [e, if_neg (by omega)]
    exact ⟨_, rfl, b1, b2⟩
  · have b1 : -m < Int.tmod a m := by
      have h := Int.tmod_eq_emod_of_nonneg (a := -a) (b := m) (by omega)
      rw [Int.neg_tmod] at h
      have := Int.emod_lt_of_pos (-a) (b := m) (by omega)
      omega
    have b2 : Int.tmod a m ≤ 0 := by
      have h := Int.tmod_eq_emod_of_nonneg (a := -a) (b := m) (by omega)
      rw [Int.neg_tmod] at h
      have := Int.emod_nonneg (-a) (b := m) (by omega)
      omega
    by_cases h3 : Int.tmod a m < 0
    · rw [if_pos h3, wrap_id _ (by omega) (by omega)]
      exact ⟨_, rfl, by omega, by omega⟩
    · rw [if_neg h3]
      exact ⟨_, rfl, by omega, by omega⟩

/-- A view of a run that is made. -/
structure MdV (v : S41) (cars : Nat) : Prop where
  r : v.f1.length ≤ 2
  rr : ∀ r ∈ v.f1, (0 ≤ r.f0 ∧ r.f0 ≤ 1) ∧ 1 ≤ r.f1 ∧ r.f1 ≤ 6
  n : v.f2.length = cars
  s : ∀ s ∈ v.f2, -1 ≤ s.f0 ∧ s.f0 ≤ 2 ∧ 0 ≤ s.f1 ∧ s.f1 ≤ 2 ∧ (s.f2 = true → s.f0 = -1)
  u : 0 ≤ v.f3 ∧ v.f3 < 32
  d : 0 ≤ v.f4 ∧ v.f4 < 32
  w : v.f5 = -1
/-- A run that is made. -/
structure Md (l : List S41) (cars : Nat) (t0 : Int) : Prop where
  c1 : 1 ≤ cars
  c3 : cars ≤ 3
  t1 : 0 ≤ t0
  t2 : t0 + l.length < 2000
  len : l.length ≤ 40
  t : ∀ j : Nat, j < l.length → (rd_T41 l (j : Int)).f0 = t0 + j
  v : ∀ v ∈ l, MdV v cars

theorem xor_lt (x : Int) (h0 : 0 ≤ x) (h1 : x < 32) (s : Int) (hs0 : 0 ≤ s) (hs1 : s < 5) : 0 ≤ Go.bits .xor .u64 x (shl .u64 1 (IntKind.u64.wrap s)) ∧ Go.bits .xor .u64 x (shl .u64 1 (IntKind.u64.wrap s)) < 32 := by
  have key : ∀ (a : Fin 32) (b : Fin 5), 0 ≤ Go.bits .xor .u64 ((a.val : Nat) : Int) (shl .u64 1 (IntKind.u64.wrap ((b.val : Nat) : Int))) ∧ Go.bits .xor .u64 ((a.val : Nat) : Int) (shl .u64 1 (IntKind.u64.wrap ((b.val : Nat) : Int))) < 32 := by decide +kernel
  have h := key ⟨x.toNat, by omega⟩ ⟨s.toNat, by omega⟩
  simp only [Int.toNat_of_nonneg h0, Int.toNat_of_nonneg hs0] at h
  exact h

theorem made_l2 (x0 x1 : Int) (x2 : List Int) (x7 : List S41) (x8 x9 x10 x11 f0 : Int) (f1 : List S66) (f3 f4 f5 : Int) (c : Nat) (hc : x0 = c) (hc3 : c ≤ 3) (hn0 : 0 ≤ x11) (hn1 : x11 < 1099511627776) (h7 : x7.length ≤ 40) (h10 : 0 ≤ x10 ∧ x10 < 1000) :
    ∀ (d j : Nat) (acc : List S43), d = c - j → j ≤ c → acc.length = j → (∀ s ∈ acc, -1 ≤ s.f0 ∧ s.f0 ≤ 2 ∧ 0 ≤ s.f1 ∧ s.f1 ≤ 2 ∧ (s.f2 = true → s.f0 = -1)) →
    ∃ f2 : List S43, f2.length = c ∧ (∀ s ∈ f2, -1 ≤ s.f0 ∧ s.f0 ≤ 2 ∧ 0 ≤ s.f1 ∧ s.f1 ≤ 2 ∧ (s.f2 = true → s.f0 = -1)) ∧
      ∀ u, Ev (fun k => tipstafflaw43_made.l0 k x0 x1 x2 (x7 ++ [⟨f0, f1, f2, f3, f4, f5⟩]) x8 x9 (x10 + 1)) u → Ev (fun k => tipstafflaw43_made.l2 k x0 x1 x2 x7 x8 x9 x10 x11 (j : Int) f0 f1 acc f3 f4 f5) u := by
  intro d
  induction d with
  | zero =>
    intro j acc hd hj ha hs
    have hjc : j = c := by omega
    have hx : wrap64 (x10 + 1) = x10 + 1 := wrap_id _ (by omega) (by omega)
    refine ⟨acc, by omega, hs, fun u h => h.step (fun k => ?_)⟩
    rw [tipstafflaw43_made.l2, if_neg (by omega), if_pos (by omega), hx]
  | succ d IH =>
    intro j acc hd hj ha hs
    have hq : 0 ≤ x11 / 270 ∧ x11 / 270 ≤ x11 := ⟨Int.ediv_nonneg hn0 (by decide), Int.ediv_le_self _ hn0⟩
    have hd' : d = c - (j + 1) := by omega
    have hj' : j + 1 ≤ c := by omega
    have hjx : (j : Int) < x0 := by omega
    have hal : acc.length < 5864062014805 := by omega
    obtain ⟨m, hm⟩ : ∃ m, x11 / 270 + 7 * (j : Int) = m := ⟨_, rfl⟩
    have e2 : wrap64 (x11 / 270) = x11 / 270 := wrap_id _ (by omega) (by omega)
    have e3 : wrap64 (7 * (j : Int)) = 7 * (j : Int) := wrap_id _ (by omega) (by omega)
    have e4 : wrap64 (x11 / 270 + 7 * (j : Int)) = m := by rw [wrap_id _ (by omega) (by omega), hm]
    have hm0 : 0 ≤ m := by omega
    have hm1 : m < 1099511627776 := by
      have : x11 / 270 ≤ 4072265288 := by omega
      omega
    clear hm hq
    have m1 : -1 ≤ m % 4 - 1 := by omega
    have m2 : m % 4 - 1 ≤ 2 := by omega
    have m3 : 0 ≤ m / 4 % 3 := by omega
    have m4 : m / 4 % 3 ≤ 2 := by omega
    have e7 : wrap64 (m / 4) = m / 4 := wrap_id _ (by omega) (by omega)
    have e9 : wrap64 (m % 4 - 1) = m % 4 - 1 := wrap_id _ (by omega) (by omega)
    have e10 : wrap64 ((j : Int) + 1) = ((j + 1 : Nat) : Int) := wrap_succ j (by omega)
    have hz : m % 4 = 0 → m % 4 - 1 = -1 := by omega
    have e8 : Int.tmod (m / 4) 3 = m / 4 % 3 := Int.tmod_eq_emod_of_nonneg (by omega)
    have e1 : Int.tdiv x11 270 = x11 / 270 := Int.tdiv_eq_ediv_of_nonneg hn0
    have e5 : Int.tmod m 4 = m % 4 := Int.tmod_eq_emod_of_nonneg hm0
    have e6 : Int.tdiv m 4 = m / 4 := Int.tdiv_eq_ediv_of_nonneg hm0
    by_cases h4 : m % 4 = 0
    · obtain ⟨f2, hl, hf, hstep⟩ := IH (j + 1) (acc ++ [⟨m % 4 - 1, m / 4 % 3, (Int.tmod (wrap64 (Int.tdiv m 12)) 2) == 0⟩]) hd' hj' (by rw [List.length_append, ha]; rfl) (by
        intro s hsm
        rcases List.mem_append.1 hsm with h | h
        · exact hs s h
        · obtain rfl := List.mem_singleton.1 h
          exact ⟨m1, m2, m3, m4, fun _ => hz h4⟩)
      refine ⟨f2, hl, hf, fun u h => (hstep u h).step (fun k => ?_)⟩
      rw [tipstafflaw43_made.l2, if_pos hjx, e1, e2, e3, e4, e5, if_pos h4, if_pos hal, e6, e7, e8, e9, e10]
    · obtain ⟨f2, hl, hf, hstep⟩ := IH (j + 1) (acc ++ [⟨m % 4 - 1, m / 4 % 3, false⟩]) hd' hj' (by rw [List.length_append, ha]; rfl) (by
        intro s hsm
        rcases List.mem_append.1 hsm with h | h
        · exact hs s h
        · obtain rfl := List.mem_singleton.1 h
          exact ⟨m1, m2, m3, m4, fun h => by cases h⟩)
      refine ⟨f2, hl, hf, fun u h => (hstep u h).step (fun k => ?_)⟩
      rw [tipstafflaw43_made.l2, if_pos hjx, e1, e2, e3, e4, e5, if_neg h4, if_pos hal, e6, e7, e8, e9, e10]

theorem made_l1 (x0 x1 : Int) (x2 : List Int) (x7 : List S41) (x8 x9 x10 x11 f0 : Int) (f3 f4 f5 : Int) (c : Nat) (hc : x0 = c) (hc3 : c ≤ 3) (hn0 : 0 ≤ x11) (hn1 : x11 < 1099511627776) (h7 : x7.length ≤ 40) (h10 : 0 ≤ x10 ∧ x10 < 1000) :
    ∀ (d j : Nat) (acc : List S66), d = (x11 / 15 % 3).toNat - j → (j : Int) ≤ x11 / 15 % 3 → acc.length = j → (∀ r ∈ acc, (0 ≤ r.f0 ∧ r.f0 ≤ 1) ∧ 1 ≤ r.f1 ∧ r.f1 ≤ 6) →
    ∃ (f1 : List S66) (f2 : List S43), f1.length ≤ 2 ∧ (∀ r ∈ f1, (0 ≤ r.f0 ∧ r.f0 ≤ 1) ∧ 1 ≤ r.f1 ∧ r.f1 ≤ 6) ∧ f2.length = c ∧ (∀ s ∈ f2, -1 ≤ s.f0 ∧ s.f0 ≤ 2 ∧ 0 ≤ s.f1 ∧ s.f1 ≤ 2 ∧ (s.f2 = true → s.f0 = -1)) ∧
      ∀ u, Ev (fun k => tipstafflaw43_made.l0 k x0 x1 x2 (x7 ++ [⟨f0, f1, f2, f3, f4, f5⟩]) x8 x9 (x10 + 1)) u → Ev (fun k => tipstafflaw43_made.l1 k x0 x1 x2 x7 x8 x9 x10 x11 (j : Int) f0 acc f3 f4 f5) u := by
  have hq : 0 ≤ x11 / 15 ∧ x11 / 15 ≤ x11 := ⟨Int.ediv_nonneg hn0 (by decide), Int.ediv_le_self _ hn0⟩
  have e1 : Int.tdiv x11 15 = x11 / 15 := Int.tdiv_eq_ediv_of_nonneg hn0
  have e2 : wrap64 (x11 / 15) = x11 / 15 := wrap_id _ (by omega) (by omega)
  have e3 : Int.tmod (x11 / 15) 3 = x11 / 15 % 3 := Int.tmod_eq_emod_of_nonneg hq.1
  have hq3 : 0 ≤ x11 / 15 % 3 ∧ x11 / 15 % 3 ≤ 2 := by omega
  have hp : 0 ≤ x11 / 45 ∧ x11 / 45 ≤ x11 := ⟨Int.ediv_nonneg hn0 (by decide), Int.ediv_le_self _ hn0⟩
  have p1 : Int.tdiv x11 45 = x11 / 45 := Int.tdiv_eq_ediv_of_nonneg hn0
  have p2 : wrap64 (x11 / 45) = x11 / 45 := wrap_id _ (by omega) (by omega)
  obtain ⟨q, hqq⟩ : ∃ q, x11 / 15 % 3 = q := ⟨_, rfl⟩
  obtain ⟨p, hpp⟩ : ∃ p, x11 / 45 = p := ⟨_, rfl⟩
  have hpb : p < 1099511627776 := by omega
  have hp0 : 0 ≤ p := by omega
  rw [hqq] at hq3 e3 ⊢
  rw [hpp] at p1 p2
  clear hqq hpp hp
  have k1 : ∀ _ : Unit, Int.tdiv x11 15 = x11 / 15 := fun _ => e1
  have k3 : ∀ _ : Unit, Int.tmod (x11 / 15) 3 = q := fun _ => e3
  have g1 : ∀ _ : Unit, Int.tdiv x11 45 = p := fun _ => p1
  have k2 : ∀ _ : Unit, wrap64 (x11 / 15) = x11 / 15 := fun _ => e2
  have g2 : ∀ _ : Unit, wrap64 p = p := fun _ => p2
  clear e1 e3 p1 e2 p2
  intro d
  induction d with
  | zero =>
    intro j acc hd hj ha hs
    have hjq : ¬ ((j : Int) < q) := by omega
    obtain ⟨f2, h1, h2, h3⟩ := made_l2 x0 x1 x2 x7 x8 x9 x10 x11 f0 acc f3 f4 f5 c hc hc3 hn0 hn1 h7 h10 c 0 [] rfl (Nat.zero_le _) rfl (fun s h => by cases h)
    refine ⟨acc, f2, by omega, hs, h1, h2, fun u h => (h3 u h).step (fun k => ?_)⟩
    rw [tipstafflaw43_made.l1, k1 (), k2 (), k3 (), if_neg hjq]
    rfl
  | succ d IH =>
    intro j acc hd hj ha hs
    have hjq : (j : Int) < q := by omega
    have hd' : d = q.toNat - (j + 1) := by omega
    have hj' : ((j + 1 : Nat) : Int) ≤ q := by omega
    have hal : acc.length < 8796093022208 := by omega
    have b1 : (j : Int) ≤ 1 := by omega
    have b0 : 0 ≤ (j : Int) := by omega
    have b2 : 1 ≤ 1 + (p + (j : Int)) % 6 := by omega
    have c0 : 0 ≤ p + (j : Int) := by omega
    have c1 : p + (j : Int) < 4611686018427387904 := by omega
    have b3 : 1 + (p + (j : Int)) % 6 ≤ 6 := by omega
    have p4 : Int.tmod (p + (j : Int)) 6 = (p + (j : Int)) % 6 := Int.tmod_eq_emod_of_nonneg c0
    have p3 : wrap64 (p + (j : Int)) = p + (j : Int) := wrap_id _ (by clear p4; omega) (by clear p4; omega)
    have p5 : wrap64 (1 + (p + (j : Int)) % 6) = 1 + (p + (j : Int)) % 6 := wrap_id _ (by clear p3 p4; omega) (by clear p3 p4; omega)
    have p6 : wrap64 ((j : Int) + 1) = ((j + 1 : Nat) : Int) := wrap_succ j (by clear p3 p4 p5; omega)
    obtain ⟨f1', f2, h0, h1, h2, h3, h4⟩ := IH (j + 1) (acc ++ [⟨(j : Int), 1 + (p + (j : Int)) % 6⟩]) hd' hj' (by rw [List.length_append, ha]; rfl) (by
      intro r hr
      rcases List.mem_append.1 hr with h | h
      · exact hs r h
      · obtain rfl := List.mem_singleton.1 h
        exact ⟨⟨b0, b1⟩, b2, b3⟩)
    refine ⟨f1', f2, h0, h1, h2, h3, fun u h => (h4 u h).step (fun k => ?_)⟩
    rw [tipstafflaw43_made.l1, k1 (), k2 (), k3 (), if_pos hjq, if_pos hal, g1 (), g2 (), p3, p4, p5, p6]

def MdG (l : List S41) (c : Nat) (t0 : Int) (n : Nat) : Prop := l.length = n ∧ (∀ j : Nat, j < l.length → (rd_T41 l (j : Int)).f0 = t0 + j) ∧ ∀ v ∈ l, MdV v c
theorem MdG.snoc {l : List S41} {c : Nat} {t0 : Int} {n : Nat} (h : MdG l c t0 n) (v : S41) (hv : MdV v c) (ht : v.f0 = t0 + n) : MdG (l ++ [v]) c t0 (n + 1) := by
  obtain ⟨h1, h2, h3⟩ := h
  refine ⟨by rw [List.length_append, h1]; rfl, fun j hj => ?_, fun x hx => ?_⟩
  · rw [List.length_append] at hj
    have hj1 : j < l.length + 1 := hj
    by_cases hjl : j < l.length
    · have e : rd_T41 (l ++ [v]) (j : Int) = rd_T41 l (j : Int) := by
        unfold rd_T41
        simp [hjl, List.getElem?_append_left hjl]
      rw [e, h2 j hjl]
    · have hjn : j = l.length := by omega
      have e : rd_T41 (l ++ [v]) (j : Int) = v := by
        unfold rd_T41
        simp [hjn]
      rw [e, ht, hjn, h1]
  · rcases List.mem_append.1 hx with h | h
    · exact h3 x h
    · obtain rfl := List.mem_singleton.1 h
      exact hv

theorem made_view (x0 x1 : Int) (x2 : List Int) (x7 : List S41) (x8 x9 x11 : Int) (c n : Nat) (hc : x0 = c) (hc3 : c ≤ 3) (hn0 : 0 ≤ x11) (hn1 : x11 < 1099511627776) (h1 : 0 ≤ x1 ∧ x1 < 1000) (hn : n < 40) (h7 : MdG x7 c x1 n) (h8 : 0 ≤ x8 ∧ x8 < 32) (h9 : 0 ≤ x9 ∧ x9 < 32) :
    ∃ l, MdG l c x1 (n + 1) ∧ ∀ u, Ev (fun k => tipstafflaw43_made.l0 k x0 x1 x2 l x8 x9 ((n : Int) + 1)) u → Ev (fun k => tipstafflaw43_made.j2 k x0 x1 x2 x7 x8 x9 (n : Int) x11) u := by
  have hq : 0 ≤ x11 / 15 % 3 := by omega
  have hl7 : x7.length ≤ 40 := by have := h7.1; omega
  obtain ⟨f1, f2, g1, g2, g3, g4, g5⟩ := made_l1 x0 x1 x2 x7 x8 x9 (n : Int) x11 (x1 + n) x8 x9 (-1) c hc hc3 hn0 hn1 hl7 ⟨Int.natCast_nonneg n, by omega⟩ (x11 / 15 % 3).toNat 0 [] rfl hq rfl (fun r h => by cases h)
  refine ⟨x7 ++ [⟨x1 + n, f1, f2, x8, x9, -1⟩], h7.snoc _ ⟨g1, g2, g3, g4, h8, h9, rfl⟩ rfl, fun u h => (g5 u h).step (fun k => ?_)⟩
  have e : wrap64 (x1 + (n : Int)) = x1 + n := wrap_id _ (by omega) (by omega)
  rw [tipstafflaw43_made.j2, e]
  rfl

theorem made_l0 (x0 x1 : Int) (x2 : List Int) (c : Nat) (hc : x0 = c) (hc3 : c ≤ 3) (h1 : 0 ≤ x1 ∧ x1 < 1000) (h2 : ∀ z ∈ x2, I64 z) :
    ∀ (d n : Nat) (x7 : List S41) (x8 x9 : Int), d = 40 - n → n ≤ 40 → MdG x7 c x1 n → (0 ≤ x8 ∧ x8 < 32) → (0 ≤ x9 ∧ x9 < 32) →
    ∃ l m, m ≤ 40 ∧ MdG l c x1 m ∧ Ev (fun k => tipstafflaw43_made.l0 k x0 x1 x2 x7 x8 x9 (n : Int)) l := by
  intro d
  induction d with
  | zero =>
    intro n x7 x8 x9 hd hn h7 h8 h9
    have fin : Ev (fun k => tipstafflaw43_made.j1 k x0 x1 x2 x7 x8 x9 (n : Int) false) x7 := Ev.step (Ev.const x7) (fun k => by rw [tipstafflaw43_made.j1, if_neg (show ¬ (false = true) by decide)])
    refine ⟨x7, n, hn, h7, fin.step (fun k => ?_)⟩
    have e : decide ((n : Int) < 40) = false := decide_eq_false (by omega)
    rw [tipstafflaw43_made.l0, e]
    by_cases hx : (n : Int) < (x2.length : Int)
    · rw [if_pos hx]
    · rw [if_neg hx]
  | succ d IH =>
    intro n x7 x8 x9 hd hn h7 h8 h9
    by_cases hx : (n : Int) < (x2.length : Int)
    · have hn40 : n < 40 := by omega
      have hd1 : d = 40 - (n + 1) := by omega
      obtain ⟨v, hv, hv0, hv1⟩ := mod_val (rd x2 (n : Int)) 1099511627776 (h2 _ (by unfold rd; simp [show n < x2.length by omega])) (by decide) (by decide)
      have hdv : 0 ≤ v / 3 ∧ v / 3 ≤ v := ⟨Int.ediv_nonneg hv0 (by decide), Int.ediv_le_self _ hv0⟩
      obtain ⟨q, hq⟩ : ∃ q, v / 3 = q := ⟨_, rfl⟩
      rw [hq] at hdv
      have b1 : wrap64 q = q := wrap_id _ (by omega) (by omega)
      have b2 : 0 ≤ q % 5 := by omega
      have b3 : q % 5 < 5 := by omega
      have b4 : IntKind.u64.wrap (q % 5) = q % 5 := by
        show (q % 5) % 18446744073709551616 = q % 5
        omega
      have b5 : 0 ≤ IntKind.u64.wrap (q % 5) := by rw [b4]; exact b2
      have a1 : Int.tdiv v 3 = q := by rw [Int.tdiv_eq_ediv_of_nonneg hv0, hq]
      have a2 : Int.tmod q 5 = q % 5 := Int.tmod_eq_emod_of_nonneg hdv.1
      have s1 := xor_lt x8 h8.1 h8.2 (q % 5) b2 b3
      have s2 := xor_lt x9 h9.1 h9.2 (q % 5) b2 b3
      have next : ∀ y8 y9 : Int, (0 ≤ y8 ∧ y8 < 32) → (0 ≤ y9 ∧ y9 < 32) → ∃ l m, m ≤ 40 ∧ MdG l c x1 m ∧ Ev (fun k => tipstafflaw43_made.j2 k x0 x1 x2 x7 y8 y9 (n : Int) v) l := by
        intro y8 y9 g8 g9
        obtain ⟨l', hl', hs⟩ := made_view x0 x1 x2 x7 y8 y9 v c n hc hc3 hv0 hv1 h1 hn40 h7 g8 g9
        obtain ⟨l, m, hm, hl, he⟩ := IH (n + 1) l' y8 y9 hd1 hn40 hl' g8 g9
        exact ⟨l, m, hm, hl, hs _ he⟩
      have e : decide ((n : Int) < 40) = true := decide_eq_true (by omega)
      have hp : (0 : Int) ≤ (n : Int) := Int.natCast_nonneg n
      by_cases c0 : Int.tmod v 3 = 0
      · obtain ⟨l, m, hm, hl, he⟩ := next _ x9 s1 h9
        refine ⟨l, m, hm, hl, (he.step (g := fun k => tipstafflaw43_made.j1 k x0 x1 x2 x7 x8 x9 (n : Int) true) (fun k => ?_)).step (fun k => by rw [tipstafflaw43_made.l0, e, if_pos hx])⟩
        rw [tipstafflaw43_made.j1, if_pos rfl, if_pos hp, if_pos hx, hv, Option.bind_some, a1, b1, a2, if_pos c0, if_pos b5]
      · by_cases c1 : Int.tmod v 3 = 1
        · obtain ⟨l, m, hm, hl, he⟩ := next x8 _ h8 s2
          refine ⟨l, m, hm, hl, (he.step (g := fun k => tipstafflaw43_made.j1 k x0 x1 x2 x7 x8 x9 (n : Int) true) (fun k => ?_)).step (fun k => by rw [tipstafflaw43_made.l0, e, if_pos hx])⟩
          rw [tipstafflaw43_made.j1, if_pos rfl, if_pos hp, if_pos hx, hv, Option.bind_some, a1, b1, a2, if_neg c0, if_pos c1, if_pos b5]
        · obtain ⟨l, m, hm, hl, he⟩ := next x8 x9 h8 h9
          refine ⟨l, m, hm, hl, (he.step (g := fun k => tipstafflaw43_made.j1 k x0 x1 x2 x7 x8 x9 (n : Int) true) (fun k => ?_)).step (fun k => by rw [tipstafflaw43_made.l0, e, if_pos hx])⟩
          rw [tipstafflaw43_made.j1, if_pos rfl, if_pos hp, if_pos hx, hv, Option.bind_some, a1, b1, a2, if_neg c0, if_neg c1]
    · have fin : Ev (fun k => tipstafflaw43_made.j1 k x0 x1 x2 x7 x8 x9 (n : Int) false) x7 := Ev.step (Ev.const x7) (fun k => by rw [tipstafflaw43_made.j1, if_neg (show ¬ (false = true) by decide)])
      exact ⟨x7, n, hn, h7, fin.step (fun k => by rw [tipstafflaw43_made.l0, if_neg hx])⟩

theorem made_ev (a0 a1 : Int) (l2 : List Int) (h0 : I64 a0) (h1 : I64 a1) (h2 : ∀ z ∈ l2, I64 z) : ∃ l c t0, Md l c t0 ∧ Ev (fun k => tipstafflaw43_made.f k a0 a1 l2) l := by
  obtain ⟨u, hu, u0, u1⟩ := mod_val a0 3 h0 (by decide) (by decide)
  obtain ⟨t, ht, t0, t1⟩ := mod_val a1 1000 h1 (by decide) (by decide)
  obtain ⟨l, m, hm, ⟨hl1, hl2, hl3⟩, he⟩ := made_l0 (1 + u) t l2 (1 + u).toNat (by omega) (by omega) ⟨t0, t1⟩ h2 40 0 [] 0 0 rfl (by decide) (show MdG [] (1 + u).toNat t 0 from ⟨rfl, fun j hj => absurd hj (Nat.not_lt_zero _), fun v hv => absurd hv List.not_mem_nil⟩) (by decide) (by decide)
  have hw : wrap64 (1 + u) = 1 + u := wrap_id _ (by omega) (by omega)
  refine ⟨l, (1 + u).toNat, t, ⟨by omega, by omega, t0, by omega, by omega, hl2, hl3⟩, Ev.congr he (fun k => ?_)⟩
  rw [tipstafflaw43_made.f, hu, Option.bind_some, ht, Option.bind_some, hw]
  rfl

theorem Md.wv {l : List S41} {c : Nat} {t0 : Int} (h : Md l c t0) : ∀ v ∈ l, WV v := by
  intro v hv
  have m := h.v v hv
  have h3 := h.c3
  have ht1 := h.t1
  have ht2 := h.t2
  have hlen := h.len
  obtain ⟨j, hj, rfl⟩ := List.getElem_of_mem hv
  have e : rd_T41 l (j : Int) = l[j] := by unfold rd_T41; simp [hj]
  have ht := h.t j hj
  rw [e] at ht
  have r := m.r
  have n := m.n
  have u := m.u
  have d := m.d
  exact ⟨by unfold I64; omega, by omega, by omega, by omega, by omega⟩

theorem repE_md : ∀ (l : List S66), (∀ r ∈ l, (0 ≤ r.f0 ∧ r.f0 ≤ 1) ∧ 1 ≤ r.f1 ∧ r.f1 ≤ 6) → repE l = 0
  | [], _ => rfl
  | x :: l, h => by
    have hx := h x (List.mem_cons_self ..)
    rw [repE, if_neg (by omega), if_neg (by omega)]
    exact repE_md l fun r hr => h r (List.mem_cons_of_mem _ hr)
theorem sgA_md : ∀ (l : List S43), (∀ s ∈ l, -1 ≤ s.f0 ∧ s.f0 ≤ 2 ∧ 0 ≤ s.f1 ∧ s.f1 ≤ 2 ∧ (s.f2 = true → s.f0 = -1)) → sgA l = true
  | [], _ => rfl
  | x :: l, h => by
    have hx := h x (List.mem_cons_self ..)
    have hb : sgB x = true := decide_eq_true ⟨by omega, by omega, by omega, by omega⟩
    rw [sgA, if_pos hb]
    exact sgA_md l fun r hr => h r (List.mem_cons_of_mem _ hr)
theorem Md.chkL {l : List S41} {c : Nat} {t0 : Int} (h : Md l c t0) : ∀ (d i : Nat), d = l.length - i → i ≤ l.length → chkL l d i = (0, 0) := by
  intro d
  induction d with
  | zero => intro i hd hi; rfl
  | succ d IH =>
    intro i hd hi
    have hil : i < l.length := by omega
    have h3 := h.c3
    have ht1 := h.t1
    have ht2 := h.t2
    have hlen := h.len
    have m := h.v _ (memV l i hil)
    have m0 := (h.v _ (memV l 0 (by omega))).n
    have hv : viewE (rd_T41 l (i : Int)) (rd_T41 l 0).f2.length = 0 := by
      have q : (rd_T41 l 0).f2.length = c := m0
      have w := m.w
      rw [viewE, q, if_pos ⟨m.n, by omega⟩, repE_md _ m.rr, if_pos rfl, if_pos ⟨sgA_md _ m.s, by omega, by omega⟩]
    have ht : tickE l i = 0 := by
      have ti := h.t i hil
      have z : (rd_T41 l 0).f0 = t0 + (0 : Nat) := h.t 0 (by omega)
      rw [tickE]
      by_cases hi0 : i = 0
      · rw [if_pos hi0, z, if_pos (by omega)]
      · have p := h.t (i - 1) (by omega)
        have e : (((i - 1 : Nat) : Nat) : Int) = (i : Int) - 1 := by omega
        rw [e] at p
        have hw : wrap64 (t0 + ((i : Int) - 1) + 1) = t0 + i := by rw [wrap_id _ (by omega) (by omega)]; omega
        rw [if_neg hi0, ti, p, hw, if_pos rfl]
    rw [Pure.chkL, if_pos ht, if_pos hv]
    exact IH (i + 1) (by omega) (by omega)
theorem Md.chk {l : List S41} {c : Nat} {t0 : Int} (h : Md l c t0) : chk l = (0, 0) := by
  have hlen := h.len
  rw [Pure.chk, if_neg (by omega)]
  exact h.chkL l.length 0 rfl (Nat.zero_le _)
theorem Md.ok {l : List S41} {c : Nat} {t0 : Int} (h : Md l c t0) : OkL l := chk_ok h.chk

end Go.Proofs.YtenlokaaloenmaaDoor.Pure
