/- What the program comes to over a rota (written by gen_rotap.py out of Rota, Rota2, Rota3). -/
import Derived.Test.YthcgcfjcjikjmaaS1
import Derived.Test.YthcgcfjcjikjmaaS2
import Derived.Test.YthcgcfjcjikjmaaS4
import Derived.Test.YthcgcfjcjikjmaaHcars
import Derived.Test.YthcgcfjcjikjmaaHshare
import Derived.Test.YthcgcfjcjikjmaaNums
namespace Go.Proofs.Ythcgcfjcjikjmaa.Pure
open Go.RowKit Go.Proofs.Ythcgcfjcjikjmaa.S Go.Proofs.YthcgcfjcjikjmaaW.PrintWords Go.Proofs.YthcgcfjcjikjmaaW.PrintLast
set_option linter.unusedVariables false
set_option linter.unusedSimpArgs false

/-- From some round on, the answer is v. -/
def Ev {α : Type} (g : Nat → Option α) (v : α) : Prop := ∃ K, ∀ k, K ≤ k → g k = some v
theorem Ev.step {α : Type} {g : Nat → Option α} {v : α} {g' : Nat → Option α} (h : Ev g' v) (e : ∀ k, g (k + 1) = g' k) : Ev g v := by
  obtain ⟨K, h⟩ := h
  exact ⟨K + 1, fun k hk => by obtain ⟨m, rfl, hm⟩ := succ_of (show K < k by omega); rw [e, h m hm]⟩
theorem Ev.const {α : Type} (v : α) : Ev (fun _ => some v) v := ⟨0, fun _ _ => rfl⟩
theorem Ev.congr {α : Type} {g g' : Nat → Option α} {v : α} (h : Ev g' v) (e : ∀ k, g k = g' k) : Ev g v := by
  obtain ⟨K, h⟩ := h; exact ⟨K, fun k hk => by rw [e, h k hk]⟩
theorem Ev.bind {α β : Type} {g : Nat → Option α} {v : α} {f : α → Nat → Option β} {u : β} (h : Ev g v) (h' : Ev (f v) u) : Ev (fun k => (g k).bind fun x => f x k) u := by
  obtain ⟨K, h⟩ := h; obtain ⟨K', h'⟩ := h'
  exact ⟨K + K', fun k hk => by show (g k).bind _ = _; rw [h k (by omega), Option.bind_some, h' k (by omega)]⟩

theorem rdL_nat (l : List (List Int)) (i : Nat) (h : i < l.length) : rd_L1 l (i : Int) = l[i] := by
  unfold rd_L1; simp [h]

/-- A domain's number is none. -/
def bad (d : Int) : Bool := decide (d < 0) || decide (d > 3)
def checkG (n : Nat) : List (List Int) → Int → Int × Int
  | [], _ => (0, 0)
  | l :: ls, i => if l.length = n then (if l.any bad then (2, i + 1) else checkG n ls (i + 1)) else (3, i + 1)
def checkF (R : List (List Int)) : Int × Int :=
  if R.length < 1 ∨ R.length > 8 ∨ (rd_L1 R 0).length < 1 ∨ (rd_L1 R 0).length > 24 then (2, 0) else checkG (rd_L1 R 0).length R 0

theorem domain_bad (d : Int) : slice_domain.f d = some (!bad d) := by
  unfold slice_domain.f bad
  by_cases h : d ≥ 0
  · rw [if_pos h]; congr 1; by_cases h3 : d ≤ 3 <;> simp [h3, show ¬ d < 0 by omega] <;> omega
  · rw [if_neg h]; congr 1; simp [show d < 0 by omega]

theorem chk_loop (R : List (List Int)) (hR : R.length ≤ 8) (h0 : 0 < R.length) (hn : (rd_L1 R 0).length ≤ 24) : ∀ (d i : Nat), i + d = R.length →
    Ev (fun k => slice_Check.l0 k R R (R.length : Int) (i : Int)) (checkG (rd_L1 R 0).length (R.drop i) i) := by
  intro d
  induction d with
  | zero =>
    intro i hi
    refine (Ev.const _).step (fun k => ?_)
    rw [slice_Check.l0, if_neg (by omega), List.drop_eq_nil_of_le (by omega)]; rfl
  | succ d ih =>
    intro i hi
    have hd : R.drop i = rd_L1 R (i : Int) :: R.drop (i + 1) := rd_L1_drop R i (by omega)
    rw [hd, checkG]
    by_cases hl : (rd_L1 R (i : Int)).length = (rd_L1 R 0).length
    · rw [if_pos hl]
      have rows : ∀ (e j : Nat), j + e = (rd_L1 R (i : Int)).length → Ev (fun k => slice_Check.l1 k R (i : Int) R (R.length : Int) (i : Int) (rd_L1 R (i : Int)) ((rd_L1 R (i : Int)).length : Int) (j : Int))
          (if ((rd_L1 R (i : Int)).drop j).any bad then (2, (i : Int) + 1) else checkG (rd_L1 R 0).length (R.drop (i + 1)) ((i : Int) + 1)) := by
        intro e
        induction e with
        | zero =>
          intro j hj
          rw [List.drop_eq_nil_of_le (show (rd_L1 R (i : Int)).length ≤ j by omega), List.any_nil, if_neg (by decide)]
          refine Ev.step (v := checkG (rd_L1 R 0).length (R.drop (i + 1)) ((i : Int) + 1)) (ih (i + 1) (by omega)) (fun k => ?_)
          rw [slice_Check.l1, if_neg (by omega), wrap_succ i (by omega)]
        | succ e ihe =>
          intro j hj
          rw [drop_rd _ j (by omega), List.any_cons]
          by_cases hb : bad (rd (rd_L1 R (i : Int)) (j : Int)) = true
          · rw [hb, Bool.true_or, if_pos rfl]
            refine (Ev.const _).step (fun k => ?_)
            rw [slice_Check.l1, if_pos (by omega), if_pos (by omega), if_pos (by omega), domain_bad, Option.bind_some, hb, if_neg (by decide), wrap_id _ (by omega) (by omega)]
          · have hb' : bad (rd (rd_L1 R (i : Int)) (j : Int)) = false := by simpa using hb
            rw [hb', Bool.false_or]
            refine (ihe (j + 1) (by omega)).step (fun k => ?_)
            rw [slice_Check.l1, if_pos (by omega), if_pos (by omega), if_pos (by omega), domain_bad, Option.bind_some, hb', if_pos (by decide), wrap_succ j (by omega)]
      refine ((rows _ 0 (Nat.zero_add _))).step (fun k => ?_)
      rw [slice_Check.l0, if_pos (by omega), if_pos (by omega), if_pos (by omega), if_pos (by omega), if_pos (by rw [hl])]; rfl
    · rw [if_neg hl]
      refine (Ev.const _).step (fun k => ?_)
      rw [slice_Check.l0, if_pos (by omega), if_pos (by omega), if_pos (by omega), if_pos (by omega), if_neg (by omega), wrap_id _ (by omega) (by omega)]

theorem chk_val (R : List (List Int)) : Ev (fun k => slice_Check.f k R) (checkF R) := by
  have big : Ev (fun k => slice_Check.j0 k R true) (2, 0) := (Ev.const _).step (fun k => by rw [slice_Check.j0, if_pos rfl])
  unfold checkF
  by_cases h1 : R.length < 1
  · rw [if_pos (Or.inl h1)]; refine big.congr (fun k => ?_); rw [slice_Check.f, if_pos (by omega)]
  by_cases h2 : R.length > 8
  · rw [if_pos (Or.inr (Or.inl h2))]; refine big.congr (fun k => ?_); rw [slice_Check.f, if_neg (by omega), if_pos (by omega)]
  by_cases h3 : (rd_L1 R 0).length < 1
  · rw [if_pos (Or.inr (Or.inr (Or.inl h3)))]; refine big.congr (fun k => ?_); rw [slice_Check.f, if_neg (by omega), if_neg (by omega), if_pos (by omega), if_pos (by omega)]
  by_cases h4 : (rd_L1 R 0).length > 24
  · rw [if_pos (Or.inr (Or.inr (Or.inr h4)))]; refine big.congr (fun k => ?_); rw [slice_Check.f, if_neg (by omega), if_neg (by omega), if_pos (by omega), if_neg (by omega), decide_eq_true (by omega)]
  rw [if_neg (by omega)]
  refine Ev.congr (g' := fun k => slice_Check.j0 k R false) ?_ (fun k => by rw [slice_Check.f, if_neg (by omega), if_neg (by omega), if_pos (by omega), if_neg (by omega), decide_eq_false (by omega)])
  refine (chk_loop R (by omega) (by omega) (by omega) _ 0 (Nat.zero_add _)).step (fun k => ?_)
  rw [slice_Check.j0, if_neg (by decide)]; rfl

/-- A valid rota: what it has. -/
def OkR (R : List (List Int)) : Prop := 1 ≤ R.length ∧ R.length ≤ 8 ∧ 1 ≤ (rd_L1 R 0).length ∧ (rd_L1 R 0).length ≤ 24 ∧
  ∀ i : Int, 0 ≤ i → i < R.length → (rd_L1 R i).length = (rd_L1 R 0).length ∧ ∀ j : Int, 0 ≤ j → j < (rd_L1 R 0).length → 0 ≤ rd (rd_L1 R i) j ∧ rd (rd_L1 R i) j ≤ 3

theorem checkG_pos (n : Nat) : ∀ (L : List (List Int)) (i : Int), (checkG n L i).1 = 0 ∨ (checkG n L i).1 = 2 ∨ (checkG n L i).1 = 3
  | [], i => Or.inl rfl
  | l :: ls, i => by
    rw [checkG]
    split
    · split
      · exact Or.inr (Or.inl rfl)
      · exact checkG_pos n ls (i + 1)
    · exact Or.inr (Or.inr rfl)

theorem checkG_all (n : Nat) : ∀ (L : List (List Int)) (i : Int), (checkG n L i).1 = 0 → ∀ l ∈ L, l.length = n ∧ l.any bad = false
  | [], _, _, l, hl => by simp at hl
  | l :: ls, i, h, m, hm => by
    rw [checkG] at h
    by_cases h1 : l.length = n
    · rw [if_pos h1] at h
      by_cases h2 : l.any bad = true
      · rw [if_pos h2] at h; simp at h
      · rw [if_neg h2] at h
        rcases List.mem_cons.1 hm with rfl | hm
        · exact ⟨h1, by simpa using h2⟩
        · exact checkG_all n ls (i + 1) h m hm
    · rw [if_neg h1] at h; simp at h

theorem checkG_zero (n : Nat) : ∀ (L : List (List Int)) (i : Int), (∀ l ∈ L, l.length = n ∧ l.any bad = false) → checkG n L i = (0, 0)
  | [], _, _ => rfl
  | l :: ls, i, h => by
    rw [checkG, if_pos (h l (by simp)).1, if_neg (by rw [(h l (by simp)).2]; decide)]
    exact checkG_zero n ls (i + 1) (fun m hm => h m (by simp [hm]))

theorem okR_of (R : List (List Int)) (h : (checkF R).1 = 0) : OkR R := by
  unfold checkF at h
  by_cases hb : R.length < 1 ∨ R.length > 8 ∨ (rd_L1 R 0).length < 1 ∨ (rd_L1 R 0).length > 24
  · rw [if_pos hb] at h; simp at h
  rw [if_neg hb] at h
  refine ⟨by omega, by omega, by omega, by omega, fun i h0 h1 => ?_⟩
  obtain ⟨i, rfl⟩ : ∃ m : Nat, i = m := ⟨i.toNat, by omega⟩
  have hm : rd_L1 R (i : Int) ∈ R := by rw [rdL_nat R i (by omega)]; exact List.getElem_mem _
  obtain ⟨ha, hb'⟩ := checkG_all _ R 0 h _ hm
  refine ⟨ha, fun j j0 j1 => ?_⟩
  obtain ⟨j, rfl⟩ : ∃ m : Nat, j = m := ⟨j.toNat, by omega⟩
  have hx : rd (rd_L1 R (i : Int)) (j : Int) ∈ rd_L1 R (i : Int) := by rw [rd_nat _ j (by omega)]; exact List.getElem_mem _
  have := List.any_eq_false.1 hb' _ hx
  unfold bad at this
  simp at this
  omega

/-- What an asked rota has for an error. -/
def askF (R : List (List Int)) (b : Bool) : Int := if (checkF R).1 = 0 then (if b then 0 else 2) else (checkF R).1

theorem valid_loop (R : List (List Int)) (B : List Bool) (hB : B.length ≤ 100) : ∀ (d i : Nat), i + d = B.length → Ev (fun k => slice_valid.l0 k B (B.length : Int) (i : Int)) (if (B.drop i).all id then 0 else 2) := by
  intro d
  induction d with
  | zero =>
    intro i hi
    refine (Ev.const _).step (fun k => ?_)
    rw [slice_valid.l0, if_neg (by omega), List.drop_eq_nil_of_le (by omega)]; rfl
  | succ d ih =>
    intro i hi
    have hr : rdOf false B (i : Int) = B[i] := by unfold rdOf; simp [show i < B.length by omega]
    have hd : B.drop i = rdOf false B (i : Int) :: B.drop (i + 1) := by rw [hr]; exact List.drop_eq_getElem_cons (by omega)
    rw [hd, List.all_cons]
    by_cases hb : rdOf false B (i : Int) = true
    · rw [show (id (rdOf false B (i : Int)) && (B.drop (i + 1)).all id) = (B.drop (i + 1)).all id by rw [id, hb, Bool.true_and]]
      refine (ih (i + 1) (by omega)).step (fun k => ?_)
      rw [slice_valid.l0, if_pos (by omega), if_pos (by omega), if_pos (by omega), if_pos hb, wrap_succ i (by omega)]
    · rw [show (id (rdOf false B (i : Int)) && (B.drop (i + 1)).all id) = false by rw [id]; simp [hb], if_neg (by decide)]
      refine (Ev.const _).step (fun k => ?_)
      rw [slice_valid.l0, if_pos (by omega), if_pos (by omega), if_pos (by omega), if_neg hb]

theorem valid_val (R : List (List Int)) (B : List Bool) (hB : B.length ≤ 100) : Ev (fun k => slice_valid.f k R B) (askF R (B.all id)) := by
  unfold askF
  obtain ⟨K, h⟩ := chk_val R
  obtain ⟨K', h'⟩ := valid_loop R B hB _ 0 (Nat.zero_add _)
  dsimp only at h h'
  refine ⟨K + K', fun k hk => ?_⟩
  show slice_valid.f k R B = _
  rw [slice_valid.f, h k (by omega), Option.bind_some]
  by_cases h0 : (checkF R).1 = 0
  · rw [if_pos h0, if_pos h0]; exact h' k (by omega)
  · rw [if_neg h0, if_neg h0]

theorem tick_val (a : Int) : slice_tick.f a = some (decide (0 ≤ a ∧ a ≤ 1099511627776)) := by
  unfold slice_tick.f
  by_cases h : a ≥ 0
  · rw [if_pos h]; congr 1; by_cases h2 : a ≤ 1099511627776 <;> simp [h2] <;> omega
  · rw [if_neg h]; congr 1; simp; omega
theorem long_val (a : Int) : slice_long.f a = some (decide (1 ≤ a ∧ a ≤ 2000000)) := by
  unfold slice_long.f
  by_cases h : a ≥ 1
  · rw [if_pos h]; congr 1; by_cases h2 : a ≤ 2000000 <;> simp [h2] <;> omega
  · rw [if_neg h]; congr 1; simp; omega
theorem car_val (R : List (List Int)) (a : Int) : slice_car.f R a = some (decide (1 ≤ a ∧ a ≤ R.length)) := by
  unfold slice_car.f
  by_cases h : a ≥ 1
  · rw [if_pos h]; congr 1; by_cases h2 : a ≤ (R.length : Int) <;> simp [h2] <;> omega
  · rw [if_neg h]; congr 1; simp; omega
theorem dom_val (a : Int) : slice_domain.f a = some (decide (0 ≤ a ∧ a ≤ 3)) := by
  unfold slice_domain.f
  by_cases h : a ≥ 0
  · rw [if_pos h]; congr 1; by_cases h2 : a ≤ 3 <;> simp [h2] <;> omega
  · rw [if_neg h]; congr 1; simp; omega

/-- The domain of the i-th car in a slot. -/
def at_ (R : List (List Int)) (s i : Int) : Int := rd (rd_L1 R i) (s % (rd_L1 R 0).length)

theorem askF_ok {R : List (List Int)} {b : Bool} (h : askF R b = 0) : OkR R ∧ b = true := by
  unfold askF at h
  by_cases h0 : (checkF R).1 = 0
  · rw [if_pos h0] at h
    refine ⟨okR_of R h0, ?_⟩
    cases b with
    | true => rfl
    | false => simp at h
  · rw [if_neg h0] at h; exact absurd h h0


def okL (l : Int) : Bool := decide (1 ≤ l ∧ l ≤ 2000000)
def okC (R : List (List Int)) (c : Int) : Bool := decide (1 ≤ c ∧ c ≤ R.length)
def okT (t : Int) : Bool := decide (0 ≤ t ∧ t ≤ 1099511627776)
def okD (d : Int) : Bool := decide (0 ≤ d ∧ d ≤ 3)
theorem okL_iff {l : Int} : okL l = true ↔ 1 ≤ l ∧ l ≤ 2000000 := by unfold okL; simp
theorem okC_iff {R : List (List Int)} {c : Int} : okC R c = true ↔ 1 ≤ c ∧ c ≤ R.length := by unfold okC; simp
theorem okT_iff {t : Int} : okT t = true ↔ 0 ≤ t ∧ t ≤ 1099511627776 := by unfold okT; simp
theorem okD_iff {d : Int} : okD d = true ↔ 0 ≤ d ∧ d ≤ 3 := by unfold okD; simp

/-! ### Domain -/
def domF (R : List (List Int)) (l c t : Int) : Int × Int := if askF R (okL l && okC R c && okT t) = 0 then (at_ R (t / l) (c - 1), 0) else (0, askF R (okL l && okC R c && okT t))

theorem dom_facts {R : List (List Int)} {l c t : Int} (h : askF R (okL l && okC R c && okT t) = 0) : OkR R ∧ (1 ≤ l ∧ l ≤ 2000000) ∧ (1 ≤ c ∧ c ≤ R.length) ∧ (0 ≤ t ∧ t ≤ 1099511627776) ∧ 0 ≤ t / l ∧ t / l ≤ 1099511627776 := by
  obtain ⟨hR, hb⟩ := askF_ok h
  simp only [Bool.and_eq_true, okL_iff, okC_iff, okT_iff] at hb
  have h1 : 0 ≤ t / l := Int.ediv_nonneg (by omega) (by omega)
  have h2 : t / l ≤ t := Int.ediv_le_self l (by omega)
  exact ⟨hR, hb.1.1, hb.1.2, hb.2, h1, by omega⟩

theorem domain_val (R : List (List Int)) (l c t : Int) : Ev (fun k => slice_Domain.f k R l c t) (domF R l c t) := by
  obtain ⟨K, h⟩ := valid_val R [okL l, okC R c, okT t] (by simp)
  dsimp only at h
  refine ⟨K, fun k hk => ?_⟩
  dsimp only
  have hb : ([okL l, okC R c, okT t].all id) = (okL l && okC R c && okT t) := by simp [Bool.and_assoc]
  rw [slice_Domain.f, long_val, Option.bind_some, car_val, Option.bind_some, tick_val, Option.bind_some]
  show (slice_valid.f k R [okL l, okC R c, okT t]).bind _ = _
  rw [h k hk, Option.bind_some, hb]
  unfold domF
  by_cases h0 : askF R (okL l && okC R c && okT t) = 0
  · rw [if_pos h0, if_pos h0]
    obtain ⟨⟨h1, h2, h3, h4, h5⟩, b1, b2, b3, q1, q2⟩ := dom_facts h0
    have hl := (h5 (c - 1) (by omega) (by omega)).1
    have e1 := Int.emod_nonneg (t / l) (show ((rd_L1 R 0).length : Int) ≠ 0 by omega)
    have e2 := Int.emod_lt_of_pos (t / l) (show 0 < ((rd_L1 R 0).length : Int) by omega)
    rw [wrap_id (c - 1) (by omega) (by omega), if_pos (by omega), if_pos (by omega), if_neg (by omega), hl, if_neg (by omega), Int.tdiv_eq_ediv_of_nonneg b3.1, wrap_id (t / l) (by omega) (by omega), Int.tmod_eq_emod_of_nonneg q1, if_pos (by omega), if_pos (by omega)]
    rfl
  · rw [if_neg h0, if_neg h0]

/-! ### Share -/
theorem at_small (R : List (List Int)) (j i : Int) (h0 : 0 ≤ j) (h1 : j < (rd_L1 R 0).length) : at_ R j i = rd (rd_L1 R i) j := by
  unfold at_; rw [Int.emod_eq_of_lt h0 h1]

theorem askF_true (R : List (List Int)) : askF R true = (checkF R).1 := by
  unfold askF
  by_cases h : (checkF R).1 = 0
  · rw [if_pos h, h]; rfl
  · rw [if_neg h]

/-! ### picks -/
def pickL (p : Int → Bool) (plus : Int) : Nat → Int → List Int
  | 0, _ => []
  | d + 1, i => if p i then (i + plus) :: pickL p plus d (i + 1) else pickL p plus d (i + 1)

theorem pickL_len (p : Int → Bool) (plus : Int) : ∀ d i, (pickL p plus d i).length ≤ d
  | 0, _ => by simp [pickL]
  | d + 1, i => by
    have := pickL_len p plus d (i + 1)
    rw [pickL]; split <;> simp <;> omega

theorem mem_pickL (p : Int → Bool) (plus : Int) : ∀ d i x, x ∈ pickL p plus d i ↔ (i ≤ x - plus ∧ x - plus < i + d ∧ p (x - plus) = true)
  | 0, i, x => by simp [pickL]; omega
  | d + 1, i, x => by
    have := mem_pickL p plus d (i + 1) x
    rw [pickL]
    by_cases hp : p i = true
    · rw [if_pos hp, List.mem_cons, this]
      constructor
      · rintro (rfl | h)
        · rw [show i + plus - plus = i by omega]; exact ⟨by omega, by omega, hp⟩
        · exact ⟨by omega, by omega, h.2.2⟩
      · rintro ⟨a, b, c⟩
        by_cases hx : x = i + plus
        · exact Or.inl hx
        · exact Or.inr ⟨by omega, by omega, c⟩
    · rw [if_neg hp, this]
      constructor
      · rintro ⟨a, b, c⟩; exact ⟨by omega, by omega, c⟩
      · rintro ⟨a, b, c⟩
        by_cases hx : x - plus = i
        · rw [hx] at c; exact absurd c hp
        · exact ⟨by omega, by omega, c⟩

theorem where_pick (q : Int → Option Bool) (p : Int → Bool) (plus : Int) (hp : 0 ≤ plus ∧ plus ≤ 1) : ∀ (d : Nat) (i : Int), 0 ≤ i → i + d ≤ 1000000 → (∀ j, i ≤ j → j < i + d → q j = some (p j)) → whereF q plus d i = some (pickL p plus d i)
  | 0, _, _, _, _ => rfl
  | d + 1, i, h0, h1, h => by
    rw [whereF, h i (by omega) (by omega), Option.bind_some, where_pick q p plus hp d (i + 1) (by omega) (by omega) (fun j h2 h3 => h j (by omega) (by omega)), pickL, wrap_id _ (by omega) (by omega)]
    rfl

/-! ### Cars -/
def carsF (R : List (List Int)) (s d : Int) : List Int × Int := if askF R (okT s && okD d) = 0 then (pickL (fun i => at_ R s i == d) 1 R.length 0, 0) else ([], askF R (okT s && okD d))

theorem cars_val (R : List (List Int)) (s d : Int) : Ev (fun k => slice_Cars.f k R s d) (carsF R s d) := by
  obtain ⟨K, h⟩ := valid_val R [okT s, okD d] (by simp)
  refine ⟨K, fun k hk => ?_⟩
  dsimp only at h ⊢
  rw [slice_Cars.f, tick_val, Option.bind_some, dom_val, Option.bind_some]
  show (slice_valid.f k R [okT s, okD d]).bind _ = _
  rw [h k hk, Option.bind_some, show ([okT s, okD d].all id) = (okT s && okD d) by simp]
  unfold carsF
  by_cases h0 : askF R (okT s && okD d) = 0
  · rw [if_pos h0, if_pos h0]
    obtain ⟨⟨h1, h2, h3, h4, h5⟩, hb⟩ := askF_ok h0
    simp only [Bool.and_eq_true, okT_iff, okD_iff] at hb
    rw [if_pos (by omega), where_pick _ (fun i => at_ R s i == d) 1 (by omega) R.length 0 (by omega) (by omega) (fun j j0 j1 => ?_)]
    · rfl
    · have hl := (h5 j (by omega) (by omega)).1
      unfold inD
      rw [if_pos ⟨j0, by omega, by omega, by omega, by omega⟩, hl]; rfl
  · rw [if_neg h0, if_neg h0]


/-- The slots of a cycle in which a car belongs to a domain. -/
def slotsL (R : List (List Int)) (c d : Int) : List Int := pickL (fun j => at_ R j (c - 1) == d) 0 (rd_L1 R 0).length 0
def slotsF (R : List (List Int)) (c d : Int) : List Int × Int := if askF R (okC R c && okD d) = 0 then (slotsL R c d, 0) else ([], askF R (okC R c && okD d))

theorem slotsL_len (R : List (List Int)) (c d : Int) : (slotsL R c d).length ≤ (rd_L1 R 0).length := pickL_len _ _ _ _
theorem mem_slotsL (R : List (List Int)) (c d x : Int) : x ∈ slotsL R c d ↔ (0 ≤ x ∧ x < (rd_L1 R 0).length ∧ at_ R x (c - 1) = d) := by
  unfold slotsL
  rw [mem_pickL]; simp

theorem slots_val0 (R : List (List Int)) (hR : OkR R) (c d : Int) (hc : 1 ≤ c) (hc' : c ≤ R.length) : slice_slots.f R c d = some (slotsL R c d) := by
  obtain ⟨h1, h2, h3, h4, h5⟩ := hR
  have hl := (h5 (c - 1) (by omega) (by omega)).1
  unfold slice_slots.f slotsL
  rw [if_pos ⟨hc, hc'⟩, if_pos (by omega), hl, where_pick _ (fun j => at_ R j (c - 1) == d) 0 (by omega) _ 0 (by omega) (by omega) (fun j j0 j1 => ?_)]
  unfold isD
  rw [if_pos ⟨j0, by omega⟩, at_small R _ _ j0 (by omega)]

theorem slots_val (R : List (List Int)) (c d : Int) : Ev (fun k => slice_Slots.f k R c d) (slotsF R c d) := by
  obtain ⟨K, h⟩ := valid_val R [okC R c, okD d] (by simp)
  refine ⟨K, fun k hk => ?_⟩
  dsimp only at h ⊢
  rw [slice_Slots.f, car_val, Option.bind_some, dom_val, Option.bind_some]
  show (slice_valid.f k R [okC R c, okD d]).bind _ = _
  rw [h k hk, Option.bind_some, show ([okC R c, okD d].all id) = (okC R c && okD d) by simp]
  unfold slotsF
  by_cases h0 : askF R (okC R c && okD d) = 0
  · rw [if_pos h0, if_pos h0]
    obtain ⟨hR, hb⟩ := askF_ok h0
    simp only [Bool.and_eq_true, okC_iff] at hb
    rw [slots_val0 R hR c d hb.1.1 hb.1.2]; rfl
  · rw [if_neg h0, if_neg h0]

/-! ### Next -/
def seekL (p : Int → Bool) : Nat → Int → Option Int
  | 0, _ => none
  | d + 1, s => if p s then some s else seekL p d (s + 1)
def mine (R : List (List Int)) (c d : Int) : Int → Bool := fun s => at_ R s (c - 1) == d
theorem seek_some (p : Int → Bool) : ∀ d s r, seekL p d s = some r → s ≤ r ∧ r < s + d ∧ p r = true ∧ ∀ x, s ≤ x → x < r → p x = false
  | 0, s, r, h => by simp [seekL] at h
  | d + 1, s, r, h => by
    rw [seekL] at h
    by_cases hp : p s = true
    · rw [if_pos hp] at h
      have : s = r := by simpa using h
      subst this
      exact ⟨by omega, by omega, hp, fun x h1 h2 => by omega⟩
    · rw [if_neg hp] at h
      obtain ⟨a, b, c, e⟩ := seek_some p d (s + 1) r h
      refine ⟨by omega, by omega, c, fun x h1 h2 => ?_⟩
      by_cases hx : x = s
      · rw [hx]; simpa using hp
      · exact e x (by omega) h2
theorem seek_none (p : Int → Bool) : ∀ d s, seekL p d s = none → ∀ x, s ≤ x → x < s + d → p x = false
  | 0, s, _, x, h1, h2 => by omega
  | d + 1, s, h, x, h1, h2 => by
    rw [seekL] at h
    by_cases hp : p s = true
    · rw [if_pos hp] at h; simp at h
    · rw [if_neg hp] at h
      by_cases hx : x = s
      · rw [hx]; simpa using hp
      · exact seek_none p d (s + 1) h x (by omega) (by omega)
theorem seek_is (p : Int → Bool) (d : Nat) (s : Int) (x : Int) (h1 : s ≤ x) (h2 : x < s + d) (hp : p x = true) : ∃ r, seekL p d s = some r := by
  cases h : seekL p d s with
  | some r => exact ⟨r, rfl⟩
  | none => rw [seek_none p d s h x h1 h2] at hp; simp at hp

theorem at_mod (R : List (List Int)) (hR : OkR R) (s i : Int) : at_ R (s % (rd_L1 R 0).length) i = at_ R s i := by
  unfold at_; rw [Int.emod_emod_of_dvd _ (Int.dvd_refl _)]

theorem mem_slots_mod (R : List (List Int)) (hR : OkR R) (c d s : Int) : s % ((rd_L1 R 0).length : Int) ∈ slotsL R c d ↔ mine R c d s = true := by
  have h3 := hR.2.2.1
  have e1 := Int.emod_nonneg s (show ((rd_L1 R 0).length : Int) ≠ 0 by omega)
  have e2 := Int.emod_lt_of_pos s (show 0 < ((rd_L1 R 0).length : Int) by omega)
  rw [mem_slotsL, at_mod R hR]; unfold mine; simp [e1, e2]

/-- The first slot at or behind a tick. -/
theorem seek_full (R : List (List Int)) (hR : OkR R) (c d f x : Int) (hx : x ∈ slotsL R c d) : ∃ r, seekL (mine R c d) (rd_L1 R 0).length f = some r := by
  have h3 := hR.2.2.1
  have e1 := Int.emod_nonneg (x - f) (show ((rd_L1 R 0).length : Int) ≠ 0 by omega)
  have e2 := Int.emod_lt_of_pos (x - f) (show 0 < ((rd_L1 R 0).length : Int) by omega)
  refine seek_is _ _ f (f + (x - f) % ((rd_L1 R 0).length : Int)) (by omega) (by omega) ?_
  rw [← mem_slots_mod R hR]
  have : (f + (x - f) % ((rd_L1 R 0).length : Int)) % ((rd_L1 R 0).length : Int) = x := by
    rw [Int.add_emod_emod, show f + (x - f) = x by omega]
    have := (mem_slotsL R c d x).1 hx
    exact Int.emod_eq_of_lt this.1 this.2.1
  rw [this]; exact hx

/-! ### Wait -/

theorem share_ok (R : List (List Int)) (hck : (checkF R).1 = 0) (r : List Int) (h : shareL R [0, 0, 0, 0] = some r) : Ev (fun k => slice_Share.f k R) (r, 0) := by
  obtain ⟨K, hv⟩ := valid_val R [] (by simp)
  refine ⟨K, fun k hk => ?_⟩
  dsimp only at hv ⊢
  rw [slice_Share.f, hv k hk, Option.bind_some, show askF R (([] : List Bool).all id) = 0 by unfold askF; rw [if_pos hck]; rfl, if_pos rfl, h]; rfl

end Go.Proofs.Ythcgcfjcjikjmaa.Pure
