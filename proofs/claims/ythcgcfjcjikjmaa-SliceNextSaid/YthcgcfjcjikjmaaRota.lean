/- What the program and the reference come to over a rota. -/
import Derived.Test.YthcgcfjcjikjmaaS1
import Derived.Test.YthcgcfjcjikjmaaS2
import Derived.Test.YthcgcfjcjikjmaaS3
import Derived.Test.YthcgcfjcjikjmaaS8
import Derived.Test.YthcgcfjcjikjmaaS9
import Derived.Test.YthcgcfjcjikjmaaS6
import Derived.Test.YthcgcfjcjikjmaaS7
import Derived.Test.YthcgcfjcjikjmaaHcars
import Derived.Test.YthcgcfjcjikjmaaHnext
import Derived.Test.YthcgcfjcjikjmaaHshare
import Derived.Test.YthcgcfjcjikjmaaNums
namespace Go.Proofs.Ythcgcfjcjikjmaa.Pure
open Go.RowKit Go.Proofs.Ythcgcfjcjikjmaa.S Go.Proofs.YthcgcfjcjikjmaaW.PrintWords Go.Proofs.YthcgcfjcjikjmaaW.PrintLast
set_option linter.unusedVariables false
set_option linter.unusedSimpArgs false

/-- From some round on, the answer is v. -/
def Ev {α : Type} (g : Nat → Option α) (v : α) : Prop := ∃ K, ∀ k, K ≤ k → g k = some v
theorem Ev.step {α : Type} {g : Nat → Option α} {v : α} {g' : Nat → Option α} (h : Ev g' v) (e : ∀ k, g (k + 1) = g' k) : Ev g v := by
  obtain ⟨K, h⟩ := h
  exact ⟨K + 1, fun k hk => by obtain ⟨m, rfl, hm⟩ := succ_of (show K < k by omega); rw [e, h m hm]⟩
theorem Ev.const {α : Type} (v : α) : Ev (fun _ => some v) v := ⟨0, fun _ _ => rfl⟩
theorem Ev.congr {α : Type} {g g' : Nat → Option α} {v : α} (h : Ev g' v) (e : ∀ k, g k = g' k) : Ev g v := by
  obtain ⟨K, h⟩ := h; exact ⟨K, fun k hk => by rw [e, h k hk]⟩
theorem Ev.bind {α β : Type} {g : Nat → Option α} {v : α} {f : α → Nat → Option β} {u : β} (h : Ev g v) (h' : Ev (f v) u) : Ev (fun k => (g k).bind fun x => f x k) u := by
  obtain ⟨K, h⟩ := h; obtain ⟨K', h'⟩ := h'
  exact ⟨K + K', fun k hk => by show (g k).bind _ = _; rw [h k (by omega), Option.bind_some, h' k (by omega)]⟩

theorem rdL_nat (l : List (List Int)) (i : Nat) (h : i < l.length) : rd_L1 l (i : Int) = l[i] := by
  unfold rd_L1; simp [h]

/-- A domain's number is none. -/
def bad (d : Int) : Bool := decide (d < 0) || decide (d > 3)
def checkG (n : Nat) : List (List Int) → Int → Int × Int
  | [], _ => (0, 0)
  | l :: ls, i => if l.length = n then (if l.any bad then (2, i + 1) else checkG n ls (i + 1)) else (3, i + 1)
def checkF (R : List (List Int)) : Int × Int :=
  if R.length < 1 ∨ R.length > 8 ∨ (rd_L1 R 0).length < 1 ∨ (rd_L1 R 0).length > 24 then (2, 0) else checkG (rd_L1 R 0).length R 0

theorem domain_bad (d : Int) : slice_domain.f d = some (!bad d) := by
  unfold slice_domain.f bad
  by_cases h : d ≥ 0
  · rw [if_pos h]; congr 1; by_cases h3 : d ≤ 3 <;> simp [h3, show ¬ d < 0 by omega] <;> omega
  · rw [if_neg h]; congr 1; simp [show d < 0 by omega]

theorem chk_loop (R : List (List Int)) (hR : R.length ≤ 8) (h0 : 0 < R.length) (hn : (rd_L1 R 0).length ≤ 24) : ∀ (d i : Nat), i + d = R.length →
    Ev (fun k => slice_Check.l0 k R R (R.length : Int) (i : Int)) (checkG (rd_L1 R 0).length (R.drop i) i) := by
  intro d
  induction d with
  | zero =>
    intro i hi
    refine (Ev.const _).step (fun k => ?_)
    rw [slice_Check.l0, if_neg (by omega), List.drop_eq_nil_of_le (by omega)]; rfl
  | succ d ih =>
    intro i hi
    have hd : R.drop i = rd_L1 R (i : Int) :: R.drop (i + 1) := rd_L1_drop R i (by omega)
    rw [hd, checkG]
    by_cases hl : (rd_L1 R (i : Int)).length = (rd_L1 R 0).length
    · rw [if_pos hl]
      have rows : ∀ (e j : Nat), j + e = (rd_L1 R (i : Int)).length → Ev (fun k => slice_Check.l1 k R (i : Int) R (R.length : Int) (i : Int) (rd_L1 R (i : Int)) ((rd_L1 R (i : Int)).length : Int) (j : Int))
          (if ((rd_L1 R (i : Int)).drop j).any bad then (2, (i : Int) + 1) else checkG (rd_L1 R 0).length (R.drop (i + 1)) ((i : Int) + 1)) := by
        intro e
        induction e with
        | zero =>
          intro j hj
          rw [List.drop_eq_nil_of_le (show (rd_L1 R (i : Int)).length ≤ j by omega), List.any_nil, if_neg (by decide)]
          refine Ev.step (v := checkG (rd_L1 R 0).length (R.drop (i + 1)) ((i : Int) + 1)) (ih (i + 1) (by omega)) (fun k => ?_)
          rw [slice_Check.l1, if_neg (by omega), wrap_succ i (by omega)]
        | succ e ihe =>
          intro j hj
          rw [drop_rd _ j (by omega), List.any_cons]
          by_cases hb : bad (rd (rd_L1 R (i : Int)) (j : Int)) = true
          · rw [hb, Bool.true_or, if_pos rfl]
            refine (Ev.const _).step (fun k => ?_)
            rw [slice_Check.l1, if_pos (by omega), if_pos (by omega), if_pos (by omega), domain_bad, Option.bind_some, hb, if_neg (by decide), wrap_id _ (by omega) (by omega)]
          · have hb' : bad (rd (rd_L1 R (i : Int)) (j : Int)) = false := by simpa using hb
            rw [hb', Bool.false_or]
            refine (ihe (j + 1) (by omega)).step (fun k => ?_)
            rw [slice_Check.l1, if_pos (by omega), if_pos (by omega), if_pos (by omega), domain_bad, Option.bind_some, hb', if_pos (by decide), wrap_succ j (by omega)]
      refine ((rows _ 0 (Nat.zero_add _))).step (fun k => ?_)
      rw [slice_Check.l0, if_pos (by omega), if_pos (by omega), if_pos (by omega), if_pos (by omega), if_pos (by rw [hl])]; rfl
    · rw [if_neg hl]
      refine (Ev.const _).step (fun k => ?_)
      rw [slice_Check.l0, if_pos (by omega), if_pos (by omega), if_pos (by omega), if_pos (by omega), if_neg (by omega), wrap_id _ (by omega) (by omega)]

theorem chk_val (R : List (List Int)) : Ev (fun k => slice_Check.f k R) (checkF R) := by
  have big : Ev (fun k => slice_Check.j0 k R true) (2, 0) := (Ev.const _).step (fun k => by rw [slice_Check.j0, if_pos rfl])
  unfold checkF
  by_cases h1 : R.length < 1
  · rw [if_pos (Or.inl h1)]; refine big.congr (fun k => ?_); rw [slice_Check.f, if_pos (by omega)]
  by_cases h2 : R.length > 8
  · rw [if_pos (Or.inr (Or.inl h2))]; refine big.congr (fun k => ?_); rw [slice_Check.f, if_neg (by omega), if_pos (by omega)]
  by_cases h3 : (rd_L1 R 0).length < 1
  · rw [if_pos (Or.inr (Or.inr (Or.inl h3)))]; refine big.congr (fun k => ?_); rw [slice_Check.f, if_neg (by omega), if_neg (by omega), if_pos (by omega), if_pos (by omega)]
  by_cases h4 : (rd_L1 R 0).length > 24
  · rw [if_pos (Or.inr (Or.inr (Or.inr h4)))]; refine big.congr (fun k => ?_); rw [slice_Check.f, if_neg (by omega), if_neg (by omega), if_pos (by omega), if_neg (by omega), decide_eq_true (by omega)]
  rw [if_neg (by omega)]
  refine Ev.congr (g' := fun k => slice_Check.j0 k R false) ?_ (fun k => by rw [slice_Check.f, if_neg (by omega), if_neg (by omega), if_pos (by omega), if_neg (by omega), decide_eq_false (by omega)])
  refine (chk_loop R (by omega) (by omega) (by omega) _ 0 (Nat.zero_add _)).step (fun k => ?_)
  rw [slice_Check.j0, if_neg (by decide)]; rfl

theorem rchk_loop (R : List (List Int)) (hR : R.length ≤ 8) (h0 : 0 < R.length) (hn : (rd_L1 R 0).length ≤ 24) : ∀ (d i : Nat), i + d = R.length →
    Ev (fun k => tipstaffref25_Check.l0 k R (i : Int)) (checkG (rd_L1 R 0).length (R.drop i) i) := by
  intro d
  induction d with
  | zero =>
    intro i hi
    refine (Ev.const _).step (fun k => ?_)
    rw [tipstaffref25_Check.l0, if_neg (by omega), List.drop_eq_nil_of_le (by omega)]; rfl
  | succ d ih =>
    intro i hi
    have hd : R.drop i = rd_L1 R (i : Int) :: R.drop (i + 1) := rd_L1_drop R i (by omega)
    rw [hd, checkG]
    by_cases hl : (rd_L1 R (i : Int)).length = (rd_L1 R 0).length
    · rw [if_pos hl]
      have rows : ∀ (e j : Nat), j + e = (rd_L1 R (i : Int)).length → Ev (fun k => tipstaffref25_Check.l1 k R (i : Int) (j : Int))
          (if ((rd_L1 R (i : Int)).drop j).any bad then (2, (i : Int) + 1) else checkG (rd_L1 R 0).length (R.drop (i + 1)) ((i : Int) + 1)) := by
        intro e
        induction e with
        | zero =>
          intro j hj
          rw [List.drop_eq_nil_of_le (show (rd_L1 R (i : Int)).length ≤ j by omega), List.any_nil, if_neg (by decide)]
          refine Ev.step (v := checkG (rd_L1 R 0).length (R.drop (i + 1)) ((i : Int) + 1)) (ih (i + 1) (by omega)) (fun k => ?_)
          rw [tipstaffref25_Check.l1, if_pos (by omega), if_pos (by omega), if_neg (by omega), wrap_succ i (by omega)]
        | succ e ihe =>
          intro j hj
          rw [drop_rd _ j (by omega), List.any_cons]
          by_cases hb : bad (rd (rd_L1 R (i : Int)) (j : Int)) = true
          · rw [hb, Bool.true_or, if_pos rfl]
            refine (Ev.const _).step (fun k => ?_)
            rw [tipstaffref25_Check.l1, if_pos (by omega), if_pos (by omega), if_pos (by omega), if_pos (by omega)]
            unfold bad at hb
            by_cases hneg : rd (rd_L1 R (i : Int)) (j : Int) < 0
            · rw [if_pos hneg, wrap_id _ (by omega) (by omega)]
            · rw [if_neg hneg, if_pos (by simp [hneg] at hb; omega), wrap_id _ (by omega) (by omega)]
          · have hb' : bad (rd (rd_L1 R (i : Int)) (j : Int)) = false := by simpa using hb
            rw [hb', Bool.false_or]
            refine (ihe (j + 1) (by omega)).step (fun k => ?_)
            unfold bad at hb'
            simp only [Bool.or_eq_false_iff, decide_eq_false_iff_not] at hb'
            rw [tipstaffref25_Check.l1, if_pos (by omega), if_pos (by omega), if_pos (by omega), if_pos (by omega), if_neg hb'.1, if_neg hb'.2, wrap_succ j (by omega)]
      refine ((rows _ 0 (Nat.zero_add _))).step (fun k => ?_)
      rw [tipstaffref25_Check.l0, if_pos (by omega), if_pos (by omega), if_pos (by omega), if_pos (by rw [hl])]; rfl
    · rw [if_neg hl]
      refine (Ev.const _).step (fun k => ?_)
      rw [tipstaffref25_Check.l0, if_pos (by omega), if_pos (by omega), if_pos (by omega), if_neg (by omega), wrap_id _ (by omega) (by omega)]

theorem rchk_val (R : List (List Int)) : Ev (fun k => tipstaffref25_Check.f k R) (checkF R) := by
  have big : Ev (fun k => tipstaffref25_Check.j0 k R true) (2, 0) := (Ev.const _).step (fun k => by rw [tipstaffref25_Check.j0, if_pos rfl])
  unfold checkF
  by_cases h1 : R.length < 1
  · rw [if_pos (Or.inl h1)]; refine big.congr (fun k => ?_); rw [tipstaffref25_Check.f, if_pos (by omega)]
  by_cases h2 : R.length > 8
  · rw [if_pos (Or.inr (Or.inl h2))]; refine big.congr (fun k => ?_); rw [tipstaffref25_Check.f, if_neg (by omega), if_pos (by omega)]
  by_cases h3 : (rd_L1 R 0).length < 1
  · rw [if_pos (Or.inr (Or.inr (Or.inl h3)))]; refine big.congr (fun k => ?_); rw [tipstaffref25_Check.f, if_neg (by omega), if_neg (by omega), if_pos (by omega), if_pos (by omega)]
  by_cases h4 : (rd_L1 R 0).length > 24
  · rw [if_pos (Or.inr (Or.inr (Or.inr h4)))]; refine big.congr (fun k => ?_); rw [tipstaffref25_Check.f, if_neg (by omega), if_neg (by omega), if_pos (by omega), if_neg (by omega), decide_eq_true (by omega)]
  rw [if_neg (by omega)]
  refine Ev.congr (g' := fun k => tipstaffref25_Check.j0 k R false) ?_ (fun k => by rw [tipstaffref25_Check.f, if_neg (by omega), if_neg (by omega), if_pos (by omega), if_neg (by omega), decide_eq_false (by omega)])
  refine (rchk_loop R (by omega) (by omega) (by omega) _ 0 (Nat.zero_add _)).step (fun k => ?_)
  rw [tipstaffref25_Check.j0, if_neg (by decide)]; rfl

/-- A valid rota: what it has. -/
def OkR (R : List (List Int)) : Prop := 1 ≤ R.length ∧ R.length ≤ 8 ∧ 1 ≤ (rd_L1 R 0).length ∧ (rd_L1 R 0).length ≤ 24 ∧
  ∀ i : Int, 0 ≤ i → i < R.length → (rd_L1 R i).length = (rd_L1 R 0).length ∧ ∀ j : Int, 0 ≤ j → j < (rd_L1 R 0).length → 0 ≤ rd (rd_L1 R i) j ∧ rd (rd_L1 R i) j ≤ 3

theorem checkG_pos (n : Nat) : ∀ (L : List (List Int)) (i : Int), (checkG n L i).1 = 0 ∨ (checkG n L i).1 = 2 ∨ (checkG n L i).1 = 3
  | [], i => Or.inl rfl
  | l :: ls, i => by
    rw [checkG]
    split
    · split
      · exact Or.inr (Or.inl rfl)
      · exact checkG_pos n ls (i + 1)
    · exact Or.inr (Or.inr rfl)

theorem checkG_all (n : Nat) : ∀ (L : List (List Int)) (i : Int), (checkG n L i).1 = 0 → ∀ l ∈ L, l.length = n ∧ l.any bad = false
  | [], _, _, l, hl => by simp at hl
  | l :: ls, i, h, m, hm => by
    rw [checkG] at h
    by_cases h1 : l.length = n
    · rw [if_pos h1] at h
      by_cases h2 : l.any bad = true
      · rw [if_pos h2] at h; simp at h
      · rw [if_neg h2] at h
        rcases List.mem_cons.1 hm with rfl | hm
        · exact ⟨h1, by simpa using h2⟩
        · exact checkG_all n ls (i + 1) h m hm
    · rw [if_neg h1] at h; simp at h

theorem checkG_zero (n : Nat) : ∀ (L : List (List Int)) (i : Int), (∀ l ∈ L, l.length = n ∧ l.any bad = false) → checkG n L i = (0, 0)
  | [], _, _ => rfl
  | l :: ls, i, h => by
    rw [checkG, if_pos (h l (by simp)).1, if_neg (by rw [(h l (by simp)).2]; decide)]
    exact checkG_zero n ls (i + 1) (fun m hm => h m (by simp [hm]))

theorem okR_of (R : List (List Int)) (h : (checkF R).1 = 0) : OkR R := by
  unfold checkF at h
  by_cases hb : R.length < 1 ∨ R.length > 8 ∨ (rd_L1 R 0).length < 1 ∨ (rd_L1 R 0).length > 24
  · rw [if_pos hb] at h; simp at h
  rw [if_neg hb] at h
  refine ⟨by omega, by omega, by omega, by omega, fun i h0 h1 => ?_⟩
  obtain ⟨i, rfl⟩ : ∃ m : Nat, i = m := ⟨i.toNat, by omega⟩
  have hm : rd_L1 R (i : Int) ∈ R := by rw [rdL_nat R i (by omega)]; exact List.getElem_mem _
  obtain ⟨ha, hb'⟩ := checkG_all _ R 0 h _ hm
  refine ⟨ha, fun j j0 j1 => ?_⟩
  obtain ⟨j, rfl⟩ : ∃ m : Nat, j = m := ⟨j.toNat, by omega⟩
  have hx : rd (rd_L1 R (i : Int)) (j : Int) ∈ rd_L1 R (i : Int) := by rw [rd_nat _ j (by omega)]; exact List.getElem_mem _
  have := List.any_eq_false.1 hb' _ hx
  unfold bad at this
  simp at this
  omega

/-- What an asked rota has for an error. -/
def askF (R : List (List Int)) (b : Bool) : Int := if (checkF R).1 = 0 then (if b then 0 else 2) else (checkF R).1

theorem valid_loop (R : List (List Int)) (B : List Bool) (hB : B.length ≤ 100) : ∀ (d i : Nat), i + d = B.length → Ev (fun k => slice_valid.l0 k B (B.length : Int) (i : Int)) (if (B.drop i).all id then 0 else 2) := by
  intro d
  induction d with
  | zero =>
    intro i hi
    refine (Ev.const _).step (fun k => ?_)
    rw [slice_valid.l0, if_neg (by omega), List.drop_eq_nil_of_le (by omega)]; rfl
  | succ d ih =>
    intro i hi
    have hr : rdOf false B (i : Int) = B[i] := by unfold rdOf; simp [show i < B.length by omega]
    have hd : B.drop i = rdOf false B (i : Int) :: B.drop (i + 1) := by rw [hr]; exact List.drop_eq_getElem_cons (by omega)
    rw [hd, List.all_cons]
    by_cases hb : rdOf false B (i : Int) = true
    · rw [show (id (rdOf false B (i : Int)) && (B.drop (i + 1)).all id) = (B.drop (i + 1)).all id by rw [id, hb, Bool.true_and]]
      refine (ih (i + 1) (by omega)).step (fun k => ?_)
      rw [slice_valid.l0, if_pos (by omega), if_pos (by omega), if_pos (by omega), if_pos hb, wrap_succ i (by omega)]
    · rw [show (id (rdOf false B (i : Int)) && (B.drop (i + 1)).all id) = false by rw [id]; simp [hb], if_neg (by decide)]
      refine (Ev.const _).step (fun k => ?_)
      rw [slice_valid.l0, if_pos (by omega), if_pos (by omega), if_pos (by omega), if_neg hb]

theorem valid_val (R : List (List Int)) (B : List Bool) (hB : B.length ≤ 100) : Ev (fun k => slice_valid.f k R B) (askF R (B.all id)) := by
  unfold askF
  obtain ⟨K, h⟩ := chk_val R
  obtain ⟨K', h'⟩ := valid_loop R B hB _ 0 (Nat.zero_add _)
  dsimp only at h h'
  refine ⟨K + K', fun k hk => ?_⟩
  show slice_valid.f k R B = _
  rw [slice_valid.f, h k (by omega), Option.bind_some]
  by_cases h0 : (checkF R).1 = 0
  · rw [if_pos h0, if_pos h0]; exact h' k (by omega)
  · rw [if_neg h0, if_neg h0]

theorem tick_val (a : Int) : slice_tick.f a = some (decide (0 ≤ a ∧ a ≤ 1099511627776)) := by
  unfold slice_tick.f
  by_cases h : a ≥ 0
  · rw [if_pos h]; congr 1; by_cases h2 : a ≤ 1099511627776 <;> simp [h2] <;> omega
  · rw [if_neg h]; congr 1; simp; omega
theorem long_val (a : Int) : slice_long.f a = some (decide (1 ≤ a ∧ a ≤ 2000000)) := by
  unfold slice_long.f
  by_cases h : a ≥ 1
  · rw [if_pos h]; congr 1; by_cases h2 : a ≤ 2000000 <;> simp [h2] <;> omega
  · rw [if_neg h]; congr 1; simp; omega
theorem car_val (R : List (List Int)) (a : Int) : slice_car.f R a = some (decide (1 ≤ a ∧ a ≤ R.length)) := by
  unfold slice_car.f
  by_cases h : a ≥ 1
  · rw [if_pos h]; congr 1; by_cases h2 : a ≤ (R.length : Int) <;> simp [h2] <;> omega
  · rw [if_neg h]; congr 1; simp; omega
theorem dom_val (a : Int) : slice_domain.f a = some (decide (0 ≤ a ∧ a ≤ 3)) := by
  unfold slice_domain.f
  by_cases h : a ≥ 0
  · rw [if_pos h]; congr 1; by_cases h2 : a ≤ 3 <;> simp [h2] <;> omega
  · rw [if_neg h]; congr 1; simp; omega

theorem asked_val (R : List (List Int)) (l c t d : Int) : Ev (fun k => tipstaffref25_asked.f k R l c t d)
    (askF R (decide (1 ≤ l ∧ l ≤ 2000000) && decide (1 ≤ c ∧ c ≤ R.length) && decide (0 ≤ t ∧ t ≤ 1099511627776) && decide (0 ≤ d ∧ d ≤ 3))) := by
  obtain ⟨K, h⟩ := rchk_val R
  dsimp only at h
  refine ⟨K, fun k hk => ?_⟩
  show tipstaffref25_asked.f k R l c t d = _
  rw [tipstaffref25_asked.f, h k hk, Option.bind_some]
  unfold askF
  by_cases h0 : (checkF R).1 = 0
  · rw [if_pos h0, if_pos h0, h0]
    by_cases a1 : l < 1
    · rw [if_pos a1]; simp [show ¬ 1 ≤ l by omega]
    rw [if_neg a1]
    by_cases a2 : l > 2000000
    · rw [if_pos a2]; simp [show ¬ l ≤ 2000000 by omega]
    rw [if_neg a2]
    by_cases a3 : c < 1
    · rw [if_pos a3]; simp [show ¬ 1 ≤ c by omega]
    rw [if_neg a3]
    by_cases a4 : c > (R.length : Int)
    · rw [if_pos a4]; simp [show ¬ c ≤ (R.length : Int) by omega]
    rw [if_neg a4]
    by_cases a5 : t < 0
    · rw [if_pos a5]; simp [show ¬ 0 ≤ t by omega]
    rw [if_neg a5]
    by_cases a6 : t > 1099511627776
    · rw [if_pos a6]; simp [show ¬ t ≤ 1099511627776 by omega]
    rw [if_neg a6]
    by_cases a7 : d < 0
    · rw [if_pos a7]; simp [show ¬ 0 ≤ d by omega]
    rw [if_neg a7]
    by_cases a8 : d > 3
    · rw [if_pos a8]; simp [show ¬ d ≤ 3 by omega]
    rw [if_neg a8]
    simp [show 1 ≤ l by omega, show l ≤ 2000000 by omega, show 1 ≤ c by omega, show c ≤ (R.length : Int) by omega, show 0 ≤ t by omega, show t ≤ 1099511627776 by omega, show 0 ≤ d by omega, show d ≤ 3 by omega]
  · rw [if_neg h0, if_neg h0]

/-- The domain of the i-th car in a slot. -/
def at_ (R : List (List Int)) (s i : Int) : Int := rd (rd_L1 R i) (s % (rd_L1 R 0).length)

theorem of_val (R : List (List Int)) (h : OkR R) (s c : Int) (hs : 0 ≤ s) (hc : 1 ≤ c) (hc' : c ≤ R.length) : tipstaffref25_of.f R s c = some (at_ R s (c - 1)) := by
  obtain ⟨h1, h2, h3, h4, h5⟩ := h
  have hl := (h5 (c - 1) (by omega) (by omega)).1
  have e1 := Int.emod_nonneg s (show ((rd_L1 R 0).length : Int) ≠ 0 by omega)
  have e2 := Int.emod_lt_of_pos s (show 0 < ((rd_L1 R 0).length : Int) by omega)
  unfold tipstaffref25_of.f at_
  rw [wrap_id (c - 1) (by omega) (by omega), if_pos (by omega), if_pos (by omega), hl, if_neg (by omega), Int.tmod_eq_emod_of_nonneg hs, if_pos (by omega), if_pos (by omega)]

theorem askF_ok {R : List (List Int)} {b : Bool} (h : askF R b = 0) : OkR R ∧ b = true := by
  unfold askF at h
  by_cases h0 : (checkF R).1 = 0
  · rw [if_pos h0] at h
    refine ⟨okR_of R h0, ?_⟩
    cases b with
    | true => rfl
    | false => simp at h
  · rw [if_neg h0] at h; exact absurd h h0

end Go.Proofs.Ythcgcfjcjikjmaa.Pure
