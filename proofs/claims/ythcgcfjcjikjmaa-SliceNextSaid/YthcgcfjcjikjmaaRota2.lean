/- Domain, Share, Cars, Slots, Next, Wait: the program's are the reference's. -/
import Derived.Test.YthcgcfjcjikjmaaRota
namespace Go.Proofs.Ythcgcfjcjikjmaa.Pure
open Go.RowKit Go.Proofs.Ythcgcfjcjikjmaa.S Go.Proofs.YthcgcfjcjikjmaaW.PrintWords Go.Proofs.YthcgcfjcjikjmaaW.PrintLast
set_option linter.unusedVariables false
set_option linter.unusedSimpArgs false

def okL (l : Int) : Bool := decide (1 ≤ l ∧ l ≤ 2000000)
def okC (R : List (List Int)) (c : Int) : Bool := decide (1 ≤ c ∧ c ≤ R.length)
def okT (t : Int) : Bool := decide (0 ≤ t ∧ t ≤ 1099511627776)
def okD (d : Int) : Bool := decide (0 ≤ d ∧ d ≤ 3)
theorem okL_iff {l : Int} : okL l = true ↔ 1 ≤ l ∧ l ≤ 2000000 := by unfold okL; simp
theorem okC_iff {R : List (List Int)} {c : Int} : okC R c = true ↔ 1 ≤ c ∧ c ≤ R.length := by unfold okC; simp
theorem okT_iff {t : Int} : okT t = true ↔ 0 ≤ t ∧ t ≤ 1099511627776 := by unfold okT; simp
theorem okD_iff {d : Int} : okD d = true ↔ 0 ≤ d ∧ d ≤ 3 := by unfold okD; simp

theorem ask_val (R : List (List Int)) (l c t d : Int) : Ev (fun k => tipstaffref25_asked.f k R l c t d) (askF R (okL l && okC R c && okT t && okD d)) := asked_val R l c t d

/-! ### Domain -/
def domF (R : List (List Int)) (l c t : Int) : Int × Int := if askF R (okL l && okC R c && okT t) = 0 then (at_ R (t / l) (c - 1), 0) else (0, askF R (okL l && okC R c && okT t))

theorem dom_facts {R : List (List Int)} {l c t : Int} (h : askF R (okL l && okC R c && okT t) = 0) : OkR R ∧ (1 ≤ l ∧ l ≤ 2000000) ∧ (1 ≤ c ∧ c ≤ R.length) ∧ (0 ≤ t ∧ t ≤ 1099511627776) ∧ 0 ≤ t / l ∧ t / l ≤ 1099511627776 := by
  obtain ⟨hR, hb⟩ := askF_ok h
  simp only [Bool.and_eq_true, okL_iff, okC_iff, okT_iff] at hb
  have h1 : 0 ≤ t / l := Int.ediv_nonneg (by omega) (by omega)
  have h2 : t / l ≤ t := Int.ediv_le_self l (by omega)
  exact ⟨hR, hb.1.1, hb.1.2, hb.2, h1, by omega⟩

theorem domain_val (R : List (List Int)) (l c t : Int) : Ev (fun k => slice_Domain.f k R l c t) (domF R l c t) := by
  obtain ⟨K, h⟩ := valid_val R [okL l, okC R c, okT t] (by simp)
  dsimp only at h
  refine ⟨K, fun k hk => ?_⟩
  dsimp only
  have hb : ([okL l, okC R c, okT t].all id) = (okL l && okC R c && okT t) := by simp [Bool.and_assoc]
  rw [slice_Domain.f, long_val, Option.bind_some, car_val, Option.bind_some, tick_val, Option.bind_some]
  show (slice_valid.f k R [okL l, okC R c, okT t]).bind _ = _
  rw [h k hk, Option.bind_some, hb]
  unfold domF
  by_cases h0 : askF R (okL l && okC R c && okT t) = 0
  · rw [if_pos h0, if_pos h0]
    obtain ⟨⟨h1, h2, h3, h4, h5⟩, b1, b2, b3, q1, q2⟩ := dom_facts h0
    have hl := (h5 (c - 1) (by omega) (by omega)).1
    have e1 := Int.emod_nonneg (t / l) (show ((rd_L1 R 0).length : Int) ≠ 0 by omega)
    have e2 := Int.emod_lt_of_pos (t / l) (show 0 < ((rd_L1 R 0).length : Int) by omega)
    rw [wrap_id (c - 1) (by omega) (by omega), if_pos (by omega), if_pos (by omega), if_neg (by omega), hl, if_neg (by omega), Int.tdiv_eq_ediv_of_nonneg b3.1, wrap_id (t / l) (by omega) (by omega), Int.tmod_eq_emod_of_nonneg q1, if_pos (by omega), if_pos (by omega)]
    rfl
  · rw [if_neg h0, if_neg h0]

theorem domain_ref (R : List (List Int)) (l c t : Int) : Ev (fun k => tipstaffref25_Domain.f k R l c t) (domF R l c t) := by
  obtain ⟨K, h⟩ := ask_val R l c t 0
  dsimp only at h
  refine ⟨K, fun k hk => ?_⟩
  dsimp only
  have hb : (okL l && okC R c && okT t && okD 0) = (okL l && okC R c && okT t) := by rw [show okD 0 = true from rfl, Bool.and_true]
  rw [tipstaffref25_Domain.f, h k hk, Option.bind_some, hb]
  unfold domF
  by_cases h0 : askF R (okL l && okC R c && okT t) = 0
  · rw [if_pos h0, if_pos h0]
    obtain ⟨hR, b1, b2, b3, q1, q2⟩ := dom_facts h0
    rw [if_neg (by omega), Int.tdiv_eq_ediv_of_nonneg b3.1, wrap_id (t / l) (by omega) (by omega), of_val R hR _ _ q1 b2.1 b2.2]; rfl
  · rw [if_neg h0, if_neg h0]

/-! ### Share -/
theorem at_small (R : List (List Int)) (j i : Int) (h0 : 0 ≤ j) (h1 : j < (rd_L1 R 0).length) : at_ R j i = rd (rd_L1 R i) j := by
  unfold at_; rw [Int.emod_eq_of_lt h0 h1]

theorem share_loop (R : List (List Int)) (hR : OkR R) : ∀ (d i : Nat), i + d = R.length → ∀ acc : List Int, acc.length = 4 →
    ∃ r, shareL (R.drop i) acc = some r ∧ r.length = 4 ∧ Ev (fun k => tipstaffref25_Share.l0 k R acc ((i + 1 : Nat) : Int)) (r, 0) := by
  have hR' := hR
  obtain ⟨h1, h2, h3, h4, h5⟩ := hR'
  intro d
  induction d with
  | zero =>
    intro i hi acc ha
    refine ⟨acc, by rw [List.drop_eq_nil_of_le (by omega)]; rfl, ha, (Ev.const _).step (fun k => ?_)⟩
    rw [tipstaffref25_Share.l0, if_neg (by omega)]
  | succ d ih =>
    intro i hi acc ha
    rw [rd_L1_drop R i (by omega), shareL]
    have hl := (h5 i (by omega) (by omega)).1
    have hv := (h5 i (by omega) (by omega)).2
    have rows : ∀ (e j : Nat), j + e = (rd_L1 R 0).length → ∀ acc : List Int, acc.length = 4 → ∃ acc', tallyL ((rd_L1 R (i : Int)).drop j) acc = some acc' ∧ acc'.length = 4 ∧
        ∀ v, Ev (fun k => tipstaffref25_Share.l0 k R acc' ((i + 1 + 1 : Nat) : Int)) v → Ev (fun k => tipstaffref25_Share.l1 k R acc ((i + 1 : Nat) : Int) (j : Int)) v := by
      intro e
      induction e with
      | zero =>
        intro j hj acc ha
        refine ⟨acc, by rw [List.drop_eq_nil_of_le (by omega)]; rfl, ha, fun v hv => hv.step (fun k => ?_)⟩
        rw [tipstaffref25_Share.l1, if_pos (by omega), if_neg (by omega), wrap_succ (i + 1) (by omega)]
      | succ e ihe =>
        intro j hj acc ha
        have hx := hv j (by omega) (by omega)
        obtain ⟨acc', t1, t2, t3⟩ := ihe (j + 1) (by omega) (acc.set (rd (rd_L1 R (i : Int)) (j : Int)).toNat (wrap64 (rd acc (rd (rd_L1 R (i : Int)) (j : Int)) + 1))) (by simp [ha])
        refine ⟨acc', ?_, t2, fun v hv' => (t3 v hv').step (fun k => ?_)⟩
        · rw [drop_rd _ j (by omega), tallyL, if_pos hx]; exact t1
        · rw [tipstaffref25_Share.l1, if_pos (by omega), if_pos (by omega), of_val R hR _ _ (by omega) (by omega) (by omega), Option.bind_some, show (((i + 1 : Nat) : Int) - 1) = (i : Int) by omega, at_small R _ _ (by omega) (by omega), if_pos (by omega), if_pos (by omega), wrap_succ j (by omega)]
    obtain ⟨acc', t1, t2, t3⟩ := rows _ 0 (Nat.zero_add _) acc ha
    obtain ⟨r, s1, s2, s3⟩ := ih (i + 1) (by omega) acc' t2
    refine ⟨r, ?_, s2, (t3 _ s3).step (fun k => ?_)⟩
    · have t1' : tallyL (rd_L1 R (i : Int)) acc = some acc' := t1
      rw [t1', Option.bind_some]; exact s1
    · rw [tipstaffref25_Share.l0, if_pos (by omega)]; rfl

def shareF (R : List (List Int)) : List Int × Int := if (checkF R).1 = 0 then ((shareL R [0, 0, 0, 0]).getD [], 0) else ([], (checkF R).1)

theorem askF_true (R : List (List Int)) : askF R true = (checkF R).1 := by
  unfold askF
  by_cases h : (checkF R).1 = 0
  · rw [if_pos h, h]; rfl
  · rw [if_neg h]

theorem share_val (R : List (List Int)) : Ev (fun k => slice_Share.f k R) (shareF R) := by
  obtain ⟨K, h⟩ := valid_val R [] (by simp)
  refine ⟨K, fun k hk => ?_⟩
  dsimp only at h ⊢
  rw [slice_Share.f, h k hk, Option.bind_some, show ([] : List Bool).all id = true from rfl, askF_true]
  unfold shareF
  by_cases h0 : (checkF R).1 = 0
  · rw [if_pos h0, if_pos h0]
    obtain ⟨r, s1, _, _⟩ := share_loop R (okR_of R h0) _ 0 (Nat.zero_add _) [0, 0, 0, 0] rfl
    have s1' : shareL R [0, 0, 0, 0] = some r := s1
    rw [s1']; rfl
  · rw [if_neg h0, if_neg h0]

theorem share_ref (R : List (List Int)) : Ev (fun k => tipstaffref25_Share.f k R) (shareF R) := by
  obtain ⟨K, h⟩ := rchk_val R
  dsimp only at h
  unfold shareF
  by_cases h0 : (checkF R).1 = 0
  · obtain ⟨r, s1, _, K', s3⟩ := share_loop R (okR_of R h0) _ 0 (Nat.zero_add _) [0, 0, 0, 0] rfl
    have s1' : shareL R [0, 0, 0, 0] = some r := s1
    dsimp only at s3
    refine ⟨K + K', fun k hk => ?_⟩
    dsimp only
    rw [if_pos h0, s1', tipstaffref25_Share.f, h k (by omega), Option.bind_some, if_pos h0]
    exact s3 k (by omega)
  · refine ⟨K, fun k hk => ?_⟩
    dsimp only
    rw [tipstaffref25_Share.f, h k hk, Option.bind_some, if_neg h0, if_neg h0]

/-! ### picks -/
def pickL (p : Int → Bool) (plus : Int) : Nat → Int → List Int
  | 0, _ => []
  | d + 1, i => if p i then (i + plus) :: pickL p plus d (i + 1) else pickL p plus d (i + 1)

theorem pickL_len (p : Int → Bool) (plus : Int) : ∀ d i, (pickL p plus d i).length ≤ d
  | 0, _ => by simp [pickL]
  | d + 1, i => by
    have := pickL_len p plus d (i + 1)
    rw [pickL]; split <;> simp <;> omega

theorem mem_pickL (p : Int → Bool) (plus : Int) : ∀ d i x, x ∈ pickL p plus d i ↔ (i ≤ x - plus ∧ x - plus < i + d ∧ p (x - plus) = true)
  | 0, i, x => by simp [pickL]; omega
  | d + 1, i, x => by
    have := mem_pickL p plus d (i + 1) x
    rw [pickL]
    by_cases hp : p i = true
    · rw [if_pos hp, List.mem_cons, this]
      constructor
      · rintro (rfl | h)
        · rw [show i + plus - plus = i by omega]; exact ⟨by omega, by omega, hp⟩
        · exact ⟨by omega, by omega, h.2.2⟩
      · rintro ⟨a, b, c⟩
        by_cases hx : x = i + plus
        · exact Or.inl hx
        · exact Or.inr ⟨by omega, by omega, c⟩
    · rw [if_neg hp, this]
      constructor
      · rintro ⟨a, b, c⟩; exact ⟨by omega, by omega, c⟩
      · rintro ⟨a, b, c⟩
        by_cases hx : x - plus = i
        · rw [hx] at c; exact absurd c hp
        · exact ⟨by omega, by omega, c⟩

theorem where_pick (q : Int → Option Bool) (p : Int → Bool) (plus : Int) (hp : 0 ≤ plus ∧ plus ≤ 1) : ∀ (d : Nat) (i : Int), 0 ≤ i → i + d ≤ 1000000 → (∀ j, i ≤ j → j < i + d → q j = some (p j)) → whereF q plus d i = some (pickL p plus d i)
  | 0, _, _, _, _ => rfl
  | d + 1, i, h0, h1, h => by
    rw [whereF, h i (by omega) (by omega), Option.bind_some, where_pick q p plus hp d (i + 1) (by omega) (by omega) (fun j h2 h3 => h j (by omega) (by omega)), pickL, wrap_id _ (by omega) (by omega)]
    rfl

/-! ### Cars -/
def carsF (R : List (List Int)) (s d : Int) : List Int × Int := if askF R (okT s && okD d) = 0 then (pickL (fun i => at_ R s i == d) 1 R.length 0, 0) else ([], askF R (okT s && okD d))

theorem cars_val (R : List (List Int)) (s d : Int) : Ev (fun k => slice_Cars.f k R s d) (carsF R s d) := by
  obtain ⟨K, h⟩ := valid_val R [okT s, okD d] (by simp)
  refine ⟨K, fun k hk => ?_⟩
  dsimp only at h ⊢
  rw [slice_Cars.f, tick_val, Option.bind_some, dom_val, Option.bind_some]
  show (slice_valid.f k R [okT s, okD d]).bind _ = _
  rw [h k hk, Option.bind_some, show ([okT s, okD d].all id) = (okT s && okD d) by simp]
  unfold carsF
  by_cases h0 : askF R (okT s && okD d) = 0
  · rw [if_pos h0, if_pos h0]
    obtain ⟨⟨h1, h2, h3, h4, h5⟩, hb⟩ := askF_ok h0
    simp only [Bool.and_eq_true, okT_iff, okD_iff] at hb
    rw [if_pos (by omega), where_pick _ (fun i => at_ R s i == d) 1 (by omega) R.length 0 (by omega) (by omega) (fun j j0 j1 => ?_)]
    · rfl
    · have hl := (h5 j (by omega) (by omega)).1
      unfold inD
      rw [if_pos ⟨j0, by omega, by omega, by omega, by omega⟩, hl]; rfl
  · rw [if_neg h0, if_neg h0]

theorem cars_ref_loop (R : List (List Int)) (hR : OkR R) (s d : Int) (hs : 0 ≤ s) : ∀ (e i : Nat), i + e = R.length → ∀ acc : List Int, acc.length ≤ i →
    Ev (fun k => tipstaffref25_Cars.l0 k R s d acc ((i + 1 : Nat) : Int)) (acc ++ pickL (fun i => at_ R s i == d) 1 e i, 0) := by
  have hR' := hR
  obtain ⟨h1, h2, h3, h4, h5⟩ := hR'
  intro e
  induction e with
  | zero =>
    intro i hi acc ha
    refine (Ev.const _).step (fun k => ?_)
    rw [tipstaffref25_Cars.l0, if_neg (by omega), pickL, List.append_nil]
  | succ e ih =>
    intro i hi acc ha
    rw [pickL]
    by_cases hp : at_ R s i = d
    · rw [if_pos (by simpa using hp), show acc ++ ((i : Int) + 1) :: pickL (fun i => at_ R s i == d) 1 e ((i : Int) + 1) = (acc ++ [((i + 1 : Nat) : Int)]) ++ pickL (fun i => at_ R s i == d) 1 e ((i + 1 : Nat) : Int) by simp]
      refine (ih (i + 1) (by omega) (acc ++ [((i + 1 : Nat) : Int)]) (by simp; omega)).step (fun k => ?_)
      rw [tipstaffref25_Cars.l0, if_pos (by omega), of_val R hR _ _ hs (by omega) (by omega), Option.bind_some, show (((i + 1 : Nat) : Int) - 1) = (i : Int) by omega, if_pos hp, if_pos (by omega), wrap_succ (i + 1) (by omega)]
    · rw [if_neg (by simpa using hp)]
      refine (ih (i + 1) (by omega) acc (by omega)).step (fun k => ?_)
      rw [tipstaffref25_Cars.l0, if_pos (by omega), of_val R hR _ _ hs (by omega) (by omega), Option.bind_some, show (((i + 1 : Nat) : Int) - 1) = (i : Int) by omega, if_neg hp, wrap_succ (i + 1) (by omega)]

theorem cars_ref (R : List (List Int)) (s d : Int) : Ev (fun k => tipstaffref25_Cars.f k R s d) (carsF R s d) := by
  obtain ⟨K, h⟩ := ask_val R 1 1 s d
  dsimp only at h
  by_cases hc : (checkF R).1 = 0
  · have hb : (okL 1 && okC R 1 && okT s && okD d) = (okT s && okD d) := by
      have := okR_of R hc
      rw [show okL 1 = true from rfl, show okC R 1 = true from okC_iff.2 ⟨by omega, by have := this.1; omega⟩]; rfl
    rw [hb] at h
    unfold carsF
    by_cases h0 : askF R (okT s && okD d) = 0
    · obtain ⟨hR, hb⟩ := askF_ok h0
      simp only [Bool.and_eq_true, okT_iff, okD_iff] at hb
      obtain ⟨K', h'⟩ := cars_ref_loop R hR s d hb.1.1 _ 0 (Nat.zero_add _) [] (by simp)
      refine ⟨K + K', fun k hk => ?_⟩
      dsimp only at h' ⊢
      rw [tipstaffref25_Cars.f, h k (by omega), Option.bind_some, if_pos h0, if_pos h0]
      exact h' k (by omega)
    · refine ⟨K, fun k hk => ?_⟩
      dsimp only
      rw [tipstaffref25_Cars.f, h k (by omega), Option.bind_some, if_neg h0, if_neg h0]
  · have e : ∀ b, askF R b = (checkF R).1 := fun b => by unfold askF; rw [if_neg hc]
    refine ⟨K, fun k hk => ?_⟩
    dsimp only
    rw [tipstaffref25_Cars.f, h k (by omega), Option.bind_some, e, if_neg hc]
    unfold carsF
    rw [e, if_neg hc]

end Go.Proofs.Ythcgcfjcjikjmaa.Pure
