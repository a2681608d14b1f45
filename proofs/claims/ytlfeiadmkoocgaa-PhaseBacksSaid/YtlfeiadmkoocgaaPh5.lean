/- What Tick comes to. -/
import Derived.Test.YtlfeiadmkoocgaaS3
import Derived.Test.YtlfeiadmkoocgaaPh4
namespace Go.Proofs.Ytlfeiadmkoocgaa.Pure
open Go.RowKit Go.Proofs.Ytlfeiadmkoocgaa.S Go.Proofs.YtlfeiadmkoocgaaW.PrintWords Go.Proofs.YtlfeiadmkoocgaaW.PrintLast
set_option linter.unusedVariables false
set_option linter.unusedSimpArgs false

/-- What the pieces of a slot are, by place. -/
theorem piece_at {m d : Int} {n : Nat} {l : List S57} (U : Upto m d n (n + 1) l) (j : Nat) (h : j < l.length) :
    (j = 0 ∧ rd_T57 l (j : Int) = ⟨1, 0, 0, m⟩) ∨ (∃ i, i < n ∧ j = 2 * i + 1 ∧ rd_T57 l (j : Int) = ⟨2, i, m + i * (m + d), m⟩) ∨ (∃ i, i < n ∧ j = 2 * i + 2 ∧ rd_T57 l (j : Int) = ⟨3, i, m + i * (m + d) + m, d⟩) ∨
    (j = 2 * n + 1 ∧ rd_T57 l (j : Int) = ⟨4, 0, m + n * (m + d), m⟩) ∨ (j = 2 * n + 2 ∧ rd_T57 l (j : Int) = ⟨5, 0, m + n * (m + d) + m, d⟩) := by
  have hl := U.len
  by_cases h0 : j = 0
  · subst h0; exact Or.inl ⟨rfl, U.head⟩
  by_cases h1 : j % 2 = 1
  · obtain ⟨i, rfl⟩ : ∃ i, j = 2 * i + 1 := ⟨(j - 1) / 2, by omega⟩
    have e := U.odd i (by omega)
    unfold oddP at e
    by_cases hn : i = n
    · subst hn; rw [if_pos rfl] at e; exact Or.inr (Or.inr (Or.inr (Or.inl ⟨rfl, e⟩)))
    · rw [if_neg hn] at e; exact Or.inr (Or.inl ⟨i, by omega, rfl, e⟩)
  · obtain ⟨i, rfl⟩ : ∃ i, j = 2 * i + 2 := ⟨(j - 2) / 2, by omega⟩
    have e := U.even i (by omega)
    unfold evenP at e
    by_cases hn : i = n
    · subst hn; rw [if_pos rfl] at e; exact Or.inr (Or.inr (Or.inr (Or.inr ⟨rfl, e⟩)))
    · rw [if_neg hn] at e; exact Or.inr (Or.inr (Or.inl ⟨i, by omega, rfl, e⟩))

/-- The tick of a place in a piece. -/
def tickR (sl slot at_ : Int) (b len : Int) : Int × Int := if at_ < 0 ∨ at_ ≥ len ∨ at_ > 1099511627776 - (slot * sl + b) then (0, 2) else (slot * sl + b + at_, 0)

theorem slot_bd {sl slot : Int} (hs : 3 ≤ sl ∧ sl ≤ 7000000) (h0 : 0 ≤ slot) (h1 : slot ≤ 1099511627776 / sl) : 0 ≤ slot * sl ∧ slot * sl ≤ 1099511627776 := by
  have := Int.mul_le_mul_of_nonneg_right h1 (show 0 ≤ sl by omega)
  have := Int.ediv_mul_le 1099511627776 (show sl ≠ 0 by omega)
  exact ⟨Int.mul_nonneg h0 (by omega), by omega⟩

theorem tick_j3 (l : List S57) (i m d tr sl cy slot part trip at_ : Int) (x : S57) (hs : 3 ≤ sl ∧ sl ≤ 7000000) (h0 : 0 ≤ slot * sl ∧ slot * sl ≤ 1099511627776) (hx : 0 ≤ x.f2 ∧ x.f2 ≤ 7000000) (hl : x.f3 ≤ 200000) (k : Nat) (y0 y1 : Int) :
    phase_Tick.j3 (k + 1) l (l.length : Int) i false m d tr sl cy slot part trip at_ y0 y1 x.f2 x.f3 = some (tickR sl slot at_ x.f2 x.f3) := by
  rw [phase_Tick.j3, if_neg (by decide)]
  unfold tickR
  by_cases h1 : at_ < 0
  · rw [if_pos h1, if_pos (Or.inl h1)]
  rw [if_neg h1]
  by_cases h2 : at_ ≥ x.f3
  · rw [if_pos h2, if_pos (Or.inr (Or.inl h2))]
  rw [if_neg h2, wrap_id (slot * sl) (by omega) (by omega), wrap_id (slot * sl + x.f2) (by omega) (by omega), wrap_id (1099511627776 - _) (by omega) (by omega)]
  by_cases h3 : at_ > 1099511627776 - (slot * sl + x.f2)
  · rw [if_pos h3, if_pos (Or.inr (Or.inr h3))]
  · rw [if_neg h3, if_neg (by omega), wrap_id _ (by omega) (by omega)]

theorem tick_skip (l : List S57) (i : Nat) (m d tr sl cy slot part trip at_ : Int) (hl : l.length ≤ 1000000) (h : i < l.length) (hn : ¬ ((rd_T57 l (i : Int)).f0 = part ∧ (rd_T57 l (i : Int)).f1 = trip)) (k : Nat) :
    phase_Tick.l0 (k + 2) l (l.length : Int) (i : Int) m d tr sl cy slot part trip at_ = phase_Tick.l0 k l (l.length : Int) ((i + 1 : Nat) : Int) m d tr sl cy slot part trip at_ := by
  rw [phase_Tick.l0, if_pos (by omega), if_pos (by omega), if_pos (by omega)]
  by_cases h1 : (rd_T57 l (i : Int)).f0 = part
  · rw [if_pos h1, show ((rd_T57 l (i : Int)).f1 != trip) = true by rw [bne_iff_ne]; exact fun e => hn ⟨h1, e⟩, phase_Tick.j3, if_pos rfl, wrap_succ i (by omega)]
  · rw [if_neg h1, phase_Tick.j3, if_pos rfl, wrap_succ i (by omega)]

theorem tick_none (l : List S57) (m d tr sl cy slot part trip at_ : Int) (hl : l.length ≤ 1000000) : ∀ (e i : Nat), i + e = l.length → (∀ j : Nat, i ≤ j → j < l.length → ¬ ((rd_T57 l (j : Int)).f0 = part ∧ (rd_T57 l (j : Int)).f1 = trip)) → ∀ k, 2 * e + 1 ≤ k →
    phase_Tick.l0 k l (l.length : Int) (i : Int) m d tr sl cy slot part trip at_ = some (0, 2)
  | 0, i, hi, hn, k, hk => by
    obtain ⟨k, rfl⟩ : ∃ x, k = x + 1 := ⟨k - 1, by omega⟩
    rw [phase_Tick.l0, if_neg (by omega)]
  | e + 1, i, hi, hn, k, hk => by
    obtain ⟨k, rfl⟩ : ∃ x, k = x + 2 := ⟨k - 2, by omega⟩
    rw [tick_skip l i m d tr sl cy slot part trip at_ hl (by omega) (hn i (Nat.le_refl _) (by omega))]
    exact tick_none l m d tr sl cy slot part trip at_ hl e (i + 1) (by omega) (fun j a b => hn j (by omega) b) k (by omega)

theorem tick_hit (l : List S57) (m d tr sl cy slot part trip at_ : Int) (hl : l.length ≤ 1000000) (hs : 3 ≤ sl ∧ sl ≤ 7000000) (h0 : 0 ≤ slot * sl ∧ slot * sl ≤ 1099511627776) (j : Nat) (hj : j < l.length) (he : (rd_T57 l (j : Int)).f0 = part ∧ (rd_T57 l (j : Int)).f1 = trip)
    (hx : 0 ≤ (rd_T57 l (j : Int)).f2 ∧ (rd_T57 l (j : Int)).f2 ≤ 7000000) (h3 : (rd_T57 l (j : Int)).f3 ≤ 200000) : ∀ (e i : Nat), i + e = j → (∀ x : Nat, i ≤ x → x < j → ¬ ((rd_T57 l (x : Int)).f0 = part ∧ (rd_T57 l (x : Int)).f1 = trip)) → ∀ k, 2 * e + 2 ≤ k →
    phase_Tick.l0 k l (l.length : Int) (i : Int) m d tr sl cy slot part trip at_ = some (tickR sl slot at_ (rd_T57 l (j : Int)).f2 (rd_T57 l (j : Int)).f3)
  | 0, i, hi, hn, k, hk => by
    obtain ⟨k, rfl⟩ : ∃ x, k = x + 2 := ⟨k - 2, by omega⟩
    obtain rfl : i = j := by omega
    rw [phase_Tick.l0, if_pos (by omega), if_pos (by omega), if_pos (by omega), if_pos he.1, show ((rd_T57 l (i : Int)).f1 != trip) = false by rw [bne_eq_false_iff_eq]; exact he.2]
    exact tick_j3 l i m d tr sl cy slot part trip at_ _ hs h0 hx h3 k _ _
  | e + 1, i, hi, hn, k, hk => by
    obtain ⟨k, rfl⟩ : ∃ x, k = x + 2 := ⟨k - 2, by omega⟩
    rw [tick_skip l i m d tr sl cy slot part trip at_ hl (by omega) (hn i (Nat.le_refl _) (by omega))]
    exact tick_hit l m d tr sl cy slot part trip at_ hl hs h0 j hj he hx h3 e (i + 1) (by omega) (fun x a b => hn x (by omega) b) k (by omega)

/-- Is there a part of a trip? -/
def Has (n : Nat) (part trip : Int) : Prop := 0 ≤ trip ∧ (if part = 2 ∨ part = 3 then trip < n else trip = 0)
instance (n : Nat) (part trip : Int) : Decidable (Has n part trip) := by unfold Has; infer_instance
def begF (m d : Int) (n : Nat) (part trip : Int) : Int := if part = 1 then 0 else if part = 2 then m + trip * (m + d) else if part = 3 then m + trip * (m + d) + m else if part = 4 then m + n * (m + d) else m + n * (m + d) + m
def lenF (m d part : Int) : Int := if part = 3 ∨ part = 5 then d else m

/-- The piece of a part. -/
theorem piece_of {m d : Int} {n : Nat} {l : List S57} (U : Upto m d n (n + 1) l) (part trip : Int) (h1 : 1 ≤ part ∧ part ≤ 5) (h : Has n part trip) : ∃ j : Nat, j < l.length ∧ rd_T57 l (j : Int) = ⟨part, trip, begF m d n part trip, lenF m d part⟩ := by
  have hl := U.len
  obtain ⟨t0, ht⟩ := h
  unfold begF lenF
  have hc : part = 1 ∨ part = 2 ∨ part = 3 ∨ part = 4 ∨ part = 5 := by omega
  rcases hc with rfl | rfl | rfl | rfl | rfl
  · rw [if_neg (by decide)] at ht; subst ht
    exact ⟨0, by omega, U.head⟩
  · rw [if_pos (by decide)] at ht
    obtain ⟨i, rfl⟩ : ∃ i : Nat, trip = i := ⟨trip.toNat, by omega⟩
    refine ⟨2 * i + 1, by omega, ?_⟩
    rw [U.odd i (by omega), oddP, if_neg (by omega)]; rfl
  · rw [if_pos (by decide)] at ht
    obtain ⟨i, rfl⟩ : ∃ i : Nat, trip = i := ⟨trip.toNat, by omega⟩
    refine ⟨2 * i + 2, by omega, ?_⟩
    rw [U.even i (by omega), evenP, if_neg (by omega)]; rfl
  · rw [if_neg (by decide)] at ht; subst ht
    refine ⟨2 * n + 1, by omega, ?_⟩
    rw [U.odd n (by omega), oddP, if_pos rfl]; rfl
  · rw [if_neg (by decide)] at ht; subst ht
    refine ⟨2 * n + 2, by omega, ?_⟩
    rw [U.even n (by omega), evenP, if_pos rfl]; rfl

/-- Each place has its own part and trip. -/
theorem piece_key {m d : Int} {n : Nat} {l : List S57} (U : Upto m d n (n + 1) l) (i j : Nat) (hi : i < l.length) (hj : j < l.length) (h0 : (rd_T57 l (i : Int)).f0 = (rd_T57 l (j : Int)).f0) (h1 : (rd_T57 l (i : Int)).f1 = (rd_T57 l (j : Int)).f1) : i = j := by
  rcases piece_at U i hi with ⟨a, e⟩ | ⟨x, hx, a, e⟩ | ⟨x, hx, a, e⟩ | ⟨a, e⟩ | ⟨a, e⟩ <;> rcases piece_at U j hj with ⟨b, f⟩ | ⟨y, hy, b, f⟩ | ⟨y, hy, b, f⟩ | ⟨b, f⟩ | ⟨b, f⟩ <;> rw [e, f] at h0 h1 <;> simp at h0 h1 <;> omega

theorem piece_has {m d : Int} {n : Nat} {l : List S57} (U : Upto m d n (n + 1) l) (i : Nat) (hi : i < l.length) : Has n (rd_T57 l (i : Int)).f0 (rd_T57 l (i : Int)).f1 ∧ 1 ≤ (rd_T57 l (i : Int)).f0 ∧ (rd_T57 l (i : Int)).f0 ≤ 5 := by
  rcases piece_at U i hi with ⟨a, e⟩ | ⟨x, hx, a, e⟩ | ⟨x, hx, a, e⟩ | ⟨a, e⟩ | ⟨a, e⟩ <;> rw [e] <;> unfold Has <;> simp <;> omega

theorem piece_bd {m d : Int} (hm : 1 ≤ m ∧ m ≤ 200000) (hd : 1 ≤ d ∧ d ≤ 200000) {n : Nat} (hn : n ≤ 16) {l : List S57} (U : Upto m d n (n + 1) l) (i : Nat) (hi : i < l.length) :
    0 ≤ (rd_T57 l (i : Int)).f2 ∧ (rd_T57 l (i : Int)).f2 + (rd_T57 l (i : Int)).f3 ≤ m + (n + 1) * (m + d) ∧ 1 ≤ (rd_T57 l (i : Int)).f3 ∧ (rd_T57 l (i : Int)).f3 ≤ 200000 := by
  have e3 : ((n : Int) + 1) * (m + d) = (n : Int) * (m + d) + (m + d) := by rw [Int.add_mul]; simp
  have p0 : 0 ≤ (n : Int) * (m + d) := Int.mul_nonneg (by omega) (by omega)
  rcases piece_at U i hi with ⟨a, e⟩ | ⟨x, hx, a, e⟩ | ⟨x, hx, a, e⟩ | ⟨a, e⟩ | ⟨a, e⟩
  · rw [e]; dsimp only; omega
  · have q0 : 0 ≤ (x : Int) * (m + d) := Int.mul_nonneg (by omega) (by omega)
    have q1 := mul_mono (t := m + d) (show x + 1 ≤ n by omega) (by omega)
    rw [mul_succ'] at q1
    rw [e]; dsimp only; omega
  · have q0 : 0 ≤ (x : Int) * (m + d) := Int.mul_nonneg (by omega) (by omega)
    have q1 := mul_mono (t := m + d) (show x + 1 ≤ n by omega) (by omega)
    rw [mul_succ'] at q1
    rw [e]; dsimp only; omega
  · rw [e]; dsimp only; omega
  · rw [e]; dsimp only; omega

def tickV (m d : Int) (n : Nat) (sl slot part trip at_ : Int) : Int × Int :=
  if slot < 0 ∨ slot > 1099511627776 / sl then (0, 2) else if Has n part trip then tickR sl slot at_ (begF m d n part trip) (lenF m d part) else (0, 2)
def kindE (part : Int) : Int := if part < 1 ∨ part > 5 then 11 else 0
theorem kinds_val (part : Int) : phase_kinds.f part = some (kindE part) := by
  unfold phase_kinds.f kindE
  by_cases h : part < 1
  · rw [if_pos h, if_pos (Or.inl h)]
  · rw [if_neg h]
    by_cases h2 : part > 5
    · rw [if_pos h2, if_pos (Or.inr h2)]
    · rw [if_neg h2, if_neg (by omega)]
theorem kindE_ok {part : Int} (h : kindE part = 0) : 1 ≤ part ∧ part ≤ 5 := by
  unfold kindE at h
  by_cases h1 : part < 1 ∨ part > 5
  · rw [if_pos h1] at h; simp at h
  · omega

theorem Tms.slb {m d tr sl cy : Int} {n : Nat} (T : Tms m d tr sl cy n) : 3 ≤ sl ∧ sl ≤ 7000000 := T.hb

theorem Tms.tick_val {m d tr sl cy : Int} {n : Nat} (T : Tms m d tr sl cy n) (hcy : I64 cy) (slot part trip at_ : Int) (hp : kindE part = 0) (k : Nat) (hk : 100 ≤ k) : phase_Tick.f k m d tr sl cy slot part trip at_ = some (tickV m d n sl slot part trip at_) := by
  have hb := T.hb
  have hn := T.hn
  have hm := T.hm
  have hd := T.hd
  have htr := T.htr
  have hsl := T.hsl
  have U := pieces_upto hm hd (n := n) (by omega)
  obtain ⟨k, rfl⟩ : ∃ x, k = x + 2 := ⟨k - 2, by omega⟩
  rw [phase_Tick.f, chk_val m d tr sl cy (by unfold I64; omega) (by unfold I64; omega) hcy _ (by omega), T.ok, Option.bind_some, if_pos rfl, kinds_val, hp, Option.bind_some, phase_Tick.j0, if_pos rfl]
  unfold tickV
  by_cases h0 : slot < 0
  · rw [if_pos h0, if_pos (Or.inl h0), phase_Tick.j1, if_pos rfl]
  have q0 : 0 ≤ 1099511627776 / sl := Int.ediv_nonneg (by omega) (by omega)
  have q1 : 1099511627776 / sl ≤ 1099511627776 := Int.ediv_le_self sl (by omega)
  rw [if_neg h0, if_neg (show ¬ sl = 0 by omega), wrap_id (1099511627776 / sl) (by omega) (by omega)]
  by_cases h1 : slot > 1099511627776 / sl
  · rw [if_pos (Or.inr h1), decide_eq_true h1, phase_Tick.j1, if_pos rfl]
  rw [if_neg (by omega), decide_eq_false h1, phase_Tick.j1, if_neg (by decide), T.trips, Option.bind_some, phase_pieces.f, if_pos (by omega), Option.bind_some]
  have hsb := slot_bd hb (by omega) (show slot ≤ 1099511627776 / sl by omega)
  obtain ⟨l, hl⟩ : ∃ l, piecesP m d n = l := ⟨_, rfl⟩
  rw [hl] at U ⊢
  have hlen := U.len
  by_cases hh : Has n part trip
  · rw [if_pos hh]
    obtain ⟨j, hj, e⟩ := piece_of U part trip (kindE_ok hp) hh
    have hbd := piece_bd hm hd hn.2 U j hj
    have := tick_hit l m d tr sl cy slot part trip at_ (by omega) hb hsb j hj (by rw [e]; exact ⟨rfl, rfl⟩) ⟨hbd.1, by omega⟩ hbd.2.2.2 j 0 (by omega) (fun x a b hx => by
      have := piece_key U x j (by omega) hj (by rw [hx.1, e]) (by rw [hx.2, e]); omega) k (by omega)
    rw [e] at this
    exact this
  · rw [if_neg hh]
    exact tick_none l m d tr sl cy slot part trip at_ (by omega) l.length 0 (by omega) (fun j a b hj => hh (by have := (piece_has U j b).1; rwa [hj.1, hj.2] at this)) k (by omega)

end Go.Proofs.Ytlfeiadmkoocgaa.Pure
