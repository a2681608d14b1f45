/- What Next comes to: the first place behind a tick at which such a part begins. -/
import Derived.Test.YtlfeiadmkoocgaaS12
import Derived.Test.YtlfeiadmkoocgaaPh5
namespace Go.Proofs.Ytlfeiadmkoocgaa.Pure
open Go.RowKit Go.Proofs.Ytlfeiadmkoocgaa.S Go.Proofs.YtlfeiadmkoocgaaW.PrintWords Go.Proofs.YtlfeiadmkoocgaaW.PrintLast
set_option linter.unusedVariables false
set_option linter.unusedSimpArgs false

/-- At tick x such a part begins. -/
def Starts (m d : Int) (n : Nat) (sl part x : Int) : Prop := 0 ≤ x ∧ ∃ trip, Has n part trip ∧ x % sl = begF m d n part trip
structure IsNext (m d : Int) (n : Nat) (sl part t N : Int) : Prop where
  lt : t < N
  st : Starts m d n sl part N
  le : ∀ x, Starts m d n sl part x → t < x → N ≤ x
theorem IsNext.eq {m d : Int} {n : Nat} {sl part t N M : Int} (h : IsNext m d n sl part t N) (g : IsNext m d n sl part t M) : N = M := by
  have := h.le M g.st g.lt; have := g.le N h.st h.lt; omega

theorem beg_bd {m d : Int} (hm : 1 ≤ m ∧ m ≤ 200000) (hd : 1 ≤ d ∧ d ≤ 200000) {n : Nat} (hn : 1 ≤ n ∧ n ≤ 16) {part trip : Int} (h1 : 1 ≤ part ∧ part ≤ 5) (h : Has n part trip) : 0 ≤ begF m d n part trip ∧ begF m d n part trip + lenF m d part ≤ m + (n + 1) * (m + d) ∧ 1 ≤ lenF m d part ∧ lenF m d part ≤ 200000 ∧ begF m d n part 0 ≤ begF m d n part trip := by
  have U := pieces_upto hm hd (n := n) (by omega)
  have h0 : Has n part 0 := by obtain ⟨a, b⟩ := h; refine ⟨by omega, ?_⟩; split <;> omega
  obtain ⟨j, hj, e⟩ := piece_of U part trip h1 h
  have hb := piece_bd hm hd hn.2 U j hj
  rw [e] at hb
  dsimp only at hb
  refine ⟨hb.1, hb.2.1, hb.2.2.1, hb.2.2.2, ?_⟩
  obtain ⟨t0, _⟩ := h
  have p : 0 * (m + d) ≤ trip * (m + d) := Int.mul_le_mul_of_nonneg_right t0 (by omega)
  unfold begF
  split
  · omega
  · split
    · omega
    · split
      · omega
      · split <;> omega

/-- A tick's slot and place. -/
theorem split_at {sl x : Int} (hs : 1 ≤ sl) (q r : Int) (h0 : 0 ≤ r) (h1 : r < sl) (h : x = q * sl + r) : x / sl = q ∧ x % sl = r := by
  subst h
  constructor
  · rw [Int.add_comm, Int.add_mul_ediv_right _ _ (by omega), Int.ediv_eq_zero_of_lt h0 h1]; omega
  · rw [Int.add_comm, Int.add_mul_emod_self_right, Int.emod_eq_of_lt h0 h1]
theorem split_of {sl : Int} (x : Int) (hs : 1 ≤ sl) : x = x / sl * sl + x % sl := by have := Int.mul_ediv_add_emod x sl; rw [Int.mul_comm] at this; omega

/-- Does a place's piece hit? -/
def Hit (l : List S57) (base part t : Int) (j : Nat) : Prop := (rd_T57 l (j : Int)).f0 = part ∧ t < base + (rd_T57 l (j : Int)).f2
instance (l : List S57) (base part t : Int) (j : Nat) : Decidable (Hit l base part t j) := by unfold Hit; infer_instance

/-- Either none hits from i on, or a first one. -/
theorem first_hit (P : Nat → Prop) [DecidablePred P] (len : Nat) : ∀ (e i : Nat), i + e = len → (∀ j, i ≤ j → j < len → ¬ P j) ∨ ∃ j, i ≤ j ∧ j < len ∧ P j ∧ ∀ x, i ≤ x → x < j → ¬ P x
  | 0, i, h => Or.inl fun j a b => by omega
  | e + 1, i, h => by
    by_cases hp : P i
    · exact Or.inr ⟨i, Nat.le_refl _, by omega, hp, fun x a b => by omega⟩
    · rcases first_hit P len e (i + 1) (by omega) with h1 | ⟨j, a, b, c, f⟩
      · refine Or.inl fun j a b => ?_
        by_cases e : j = i
        · subst e; exact hp
        · exact h1 j (by omega) b
      · refine Or.inr ⟨j, by omega, b, c, fun x x0 x1 => ?_⟩
        by_cases e : x = i
        · subst e; exact hp
        · exact f x (by omega) x1

def nextR (N : Int) : Int × Int := if N > 1099511627776 then (0, 2) else (N, 0)

structure NB (l : List S57) (sl s : Int) : Prop where
  slb : 3 ≤ sl ∧ sl ≤ 7000000
  sb : 0 ≤ s ∧ s ≤ 1099511627777
  len : l.length ≤ 1000
  f2 : ∀ j : Nat, j < l.length → 0 ≤ (rd_T57 l (j : Int)).f2 ∧ (rd_T57 l (j : Int)).f2 < sl
theorem NB.mul {l : List S57} {sl s : Int} (h : NB l sl s) : 0 ≤ s * sl ∧ s * sl ≤ 7700000000000000000 := by
  have := h.slb; have := h.sb
  exact ⟨Int.mul_nonneg (by omega) (by omega), Int.le_trans (Int.mul_le_mul_of_nonneg_right (show s ≤ 1099511627777 by omega) (by omega)) (by omega)⟩

theorem next_step (l : List S57) (t part s m d tr sl cy : Int) (B : NB l sl s) (i : Nat) (h : i < l.length) (k : Nat) :
    phase_Next.l1 (k + 2) t part s l (l.length : Int) (i : Int) m d tr sl cy = if Hit l (s * sl) part t i then some (nextR (s * sl + (rd_T57 l (i : Int)).f2)) else phase_Next.l1 k t part s l (l.length : Int) ((i + 1 : Nat) : Int) m d tr sl cy := by
  have hm := B.mul
  have hf := B.f2 i h
  have hs := B.slb
  have hl := B.len
  rw [phase_Next.l1, if_pos (by omega), if_pos (by omega), if_pos (by omega), wrap_id (s * sl) (by omega) (by omega), wrap_id (s * sl + _) (by omega) (by omega)]
  by_cases h1 : (rd_T57 l (i : Int)).f0 = part
  · rw [if_pos h1]
    by_cases h2 : s * sl + (rd_T57 l (i : Int)).f2 ≤ t
    · rw [if_neg (show ¬ Hit l (s * sl) part t i from fun h => by have := h.2; omega), decide_eq_true h2, phase_Next.j3, if_pos rfl, wrap_succ i (by omega)]
    · rw [if_pos (show Hit l (s * sl) part t i from ⟨h1, by omega⟩), decide_eq_false h2, phase_Next.j3, if_neg (by decide)]
      unfold nextR; split <;> rfl
  · rw [if_neg h1, if_neg (show ¬ Hit l (s * sl) part t i from fun h => h1 h.1), phase_Next.j3, if_pos rfl, wrap_succ i (by omega)]

theorem next_hit (l : List S57) (t part s m d tr sl cy : Int) (B : NB l sl s) (j : Nat) (hj : j < l.length) (hh : Hit l (s * sl) part t j) : ∀ (e i : Nat), i + e = j → (∀ x, i ≤ x → x < j → ¬ Hit l (s * sl) part t x) → ∀ k, 2 * e + 2 ≤ k →
    phase_Next.l1 k t part s l (l.length : Int) (i : Int) m d tr sl cy = some (nextR (s * sl + (rd_T57 l (j : Int)).f2))
  | 0, i, hi, hn, k, hk => by
    obtain ⟨k, rfl⟩ : ∃ x, k = x + 2 := ⟨k - 2, by omega⟩
    obtain rfl : i = j := by omega
    rw [next_step l t part s m d tr sl cy B i hj, if_pos hh]
  | e + 1, i, hi, hn, k, hk => by
    obtain ⟨k, rfl⟩ : ∃ x, k = x + 2 := ⟨k - 2, by omega⟩
    rw [next_step l t part s m d tr sl cy B i (by omega), if_neg (hn i (Nat.le_refl _) (by omega))]
    exact next_hit l t part s m d tr sl cy B j hj hh e (i + 1) (by omega) (fun x a b => hn x (by omega) b) k (by omega)

theorem next_none (l : List S57) (t part s m d tr sl cy : Int) (B : NB l sl s) (r : Int × Int) (K : Nat) (hr : ∀ k, K ≤ k → phase_Next.l0 k t part (s + 1) m d tr sl cy = some r) : ∀ (e i : Nat), i + e = l.length → (∀ x, i ≤ x → x < l.length → ¬ Hit l (s * sl) part t x) → ∀ k, 2 * e + 1 + K ≤ k →
    phase_Next.l1 k t part s l (l.length : Int) (i : Int) m d tr sl cy = some r
  | 0, i, hi, hn, k, hk => by
    obtain ⟨k, rfl⟩ : ∃ x, k = x + 1 := ⟨k - 1, by omega⟩
    have := B.sb
    rw [phase_Next.l1, if_neg (by omega), wrap_id _ (by omega) (by omega)]
    exact hr k (by omega)
  | e + 1, i, hi, hn, k, hk => by
    obtain ⟨k, rfl⟩ : ∃ x, k = x + 2 := ⟨k - 2, by omega⟩
    rw [next_step l t part s m d tr sl cy B i (by omega), if_neg (hn i (Nat.le_refl _) (by omega))]
    exact next_none l t part s m d tr sl cy B r K hr e (i + 1) (by omega) (fun x a b => hn x (by omega) b) k (by omega)

theorem piece_mono {m d : Int} (hm : 1 ≤ m) (hd : 1 ≤ d) {n : Nat} {l : List S57} (U : Upto m d n (n + 1) l) (i j : Nat) (hij : i ≤ j) (hj : j < l.length) : (rd_T57 l (i : Int)).f2 ≤ (rd_T57 l (j : Int)).f2 := by
  have p0 : 0 ≤ (n : Int) * (m + d) := Int.mul_nonneg (by omega) (by omega)
  rcases piece_at U i (by omega) with ⟨a, e⟩ | ⟨x, hx, a, e⟩ | ⟨x, hx, a, e⟩ | ⟨a, e⟩ | ⟨a, e⟩ <;> rcases piece_at U j hj with ⟨b, f⟩ | ⟨y, hy, b, f⟩ | ⟨y, hy, b, f⟩ | ⟨b, f⟩ | ⟨b, f⟩ <;> rw [e, f] <;> dsimp only
  all_goals first
    | omega
    | (have q0 : 0 ≤ (y : Int) * (m + d) := Int.mul_nonneg (by omega) (by omega); omega)
    | (have q1 := mul_mono (t := m + d) (show x ≤ y by omega) (by omega); omega)
    | (have q1 := mul_mono (t := m + d) (show x + 1 ≤ y by omega) (by omega); rw [mul_succ'] at q1; omega)
    | (have q1 := mul_mono (t := m + d) (show x + 1 ≤ n by omega) (by omega); rw [mul_succ'] at q1; omega)

/-- A later slot's tick. -/
theorem slot_le {sl x q : Int} (hs : 1 ≤ sl) (h : q + 1 ≤ x / sl) : (q + 1) * sl + x % sl ≤ x := by
  have := split_of x hs
  have := Int.mul_le_mul_of_nonneg_right h (show 0 ≤ sl by omega)
  omega
theorem slot_mono {sl x y : Int} (hs : 1 ≤ sl) (h : x ≤ y) : x / sl ≤ y / sl := Int.ediv_le_ediv (by omega) h

theorem Tms.next_val {m d tr sl cy : Int} {n : Nat} (T : Tms m d tr sl cy n) (hcy : I64 cy) (t part : Int) (h0 : 0 ≤ t) (h1 : t ≤ 1099511627776) (hp : kindE part = 0) : ∃ N, IsNext m d n sl part t N ∧ ∀ k, 300 ≤ k → phase_Next.f k m d tr sl cy t part = some (nextR N) := by
  have hb := T.hb
  have hn := T.hn
  have hm := T.hm
  have hd := T.hd
  have htr := T.htr
  have hsl := T.hsl
  have hpl := T.place t
  have U := pieces_upto hm hd (n := n) (by omega)
  have hq := quot_bd h0 (show 1 ≤ sl by omega)
  have hdm := split_of t (show 1 ≤ sl by omega)
  obtain ⟨l, hl⟩ : ∃ l, piecesP m d n = l := ⟨_, rfl⟩
  rw [hl] at U
  have hlen := U.len
  have hp5 := kindE_ok hp
  have B : ∀ s, 0 ≤ s → s ≤ 1099511627777 → NB l sl s := fun s a b => ⟨hb, ⟨a, b⟩, by omega, fun j hj => by have := piece_bd hm hd hn.2 U j hj; omega⟩
  have l0e : ∀ s k, phase_Next.l0 (k + 1) t part s m d tr sl cy = phase_Next.l1 k t part s l (l.length : Int) 0 m d tr sl cy := fun s k => by
    rw [phase_Next.l0, T.trips, Option.bind_some, phase_pieces.f, if_pos (by omega), Option.bind_some, hl]
  have fe : ∀ k, phase_Next.f (k + 3) m d tr sl cy t part = phase_Next.l1 (k + 1) t part (t / sl) l (l.length : Int) 0 m d tr sl cy := fun k => by
    rw [phase_Next.f, ticks_val m d tr sl cy t (by unfold I64; omega) (by unfold I64; omega) hcy _ (by omega), T.ok, tickE_zero h0 h1, Option.bind_some, if_pos rfl, kinds_val, hp, Option.bind_some, phase_Next.j0, if_pos rfl, if_neg (show ¬ sl = 0 by omega), Int.tdiv_eq_ediv_of_nonneg h0, wrap_id _ (by omega) (by omega), l0e]
  -- the start of a piece
  have stp : ∀ (s : Int) (j : Nat), 0 ≤ s → j < l.length → (rd_T57 l (j : Int)).f0 = part → Starts m d n sl part (s * sl + (rd_T57 l (j : Int)).f2) := fun s j a b e => by
    have hbd := piece_bd hm hd hn.2 U j b
    have hh := piece_has U j b
    rw [e] at hh
    obtain ⟨j2, hj2, e2⟩ := piece_of U part (rd_T57 l (j : Int)).f1 hp5 hh.1
    have hjj := piece_key U j2 j hj2 b (by rw [e2, e]) (by rw [e2])
    subst hjj
    refine ⟨by have := Int.mul_nonneg a (show 0 ≤ sl by omega); omega, _, hh.1, ?_⟩
    rw [(split_at (show 1 ≤ sl by omega) s _ hbd.1 (by omega) rfl).2]
    conv => lhs; rw [e2]
  -- a start is that of a piece
  have pst : ∀ x, Starts m d n sl part x → ∃ j : Nat, j < l.length ∧ (rd_T57 l (j : Int)).f0 = part ∧ x % sl = (rd_T57 l (j : Int)).f2 := fun x hx => by
    obtain ⟨x0, trip, hh, e⟩ := hx
    obtain ⟨j, hj, ej⟩ := piece_of U part trip hp5 hh
    exact ⟨j, hj, by rw [ej], by rw [e, ej]⟩
  have hsq : t / sl ≤ 1099511627776 := by omega
  rcases first_hit (Hit l (t / sl * sl) part t) l.length l.length 0 (by omega) with hno | ⟨j, _, hj, hh, hf⟩
  · -- the next slot
    obtain ⟨j0, hj0, hpj, hfj⟩ : ∃ j : Nat, j < l.length ∧ (rd_T57 l (j : Int)).f0 = part ∧ ∀ x : Nat, x < j → ¬ (rd_T57 l (x : Int)).f0 = part := by
      rcases first_hit (fun j : Nat => (rd_T57 l (j : Int)).f0 = part) l.length l.length 0 (by omega) with h | ⟨j, _, hj, e, f⟩
      · obtain ⟨j, hj, ej⟩ := piece_of U part 0 hp5 (by refine ⟨by omega, ?_⟩; split <;> omega)
        exact absurd (by rw [ej]) (h j (Nat.zero_le _) hj)
      · exact ⟨j, hj, e, fun x hx => f x (Nat.zero_le _) hx⟩
    have hbd := piece_bd hm hd hn.2 U j0 hj0
    have e1 : (t / sl + 1) * sl = t / sl * sl + sl := by rw [Int.add_mul]; omega
    have hit0 : Hit l ((t / sl + 1) * sl) part t j0 := ⟨hpj, by omega⟩
    refine ⟨(t / sl + 1) * sl + (rd_T57 l (j0 : Int)).f2, ⟨hit0.2, stp _ j0 (by omega) hj0 hpj, fun x hx htx => ?_⟩, fun k hk => ?_⟩
    · obtain ⟨j, hj, ej, hxj⟩ := pst x hx
      have hdx := split_of x (show 1 ≤ sl by omega)
      have hmx := slot_mono (show 1 ≤ sl by omega) (show t ≤ x by omega)
      by_cases hs : x / sl = t / sl
      · exact absurd ⟨ej, by rw [← hxj]; rw [hs] at hdx; omega⟩ (hno j (Nat.zero_le _) hj)
      · have := slot_le (show 1 ≤ sl by omega) (show t / sl + 1 ≤ x / sl by omega)
        have hjj : j0 ≤ j := Nat.le_of_not_lt fun h => hfj j h ej
        have := piece_mono hm.1 hd.1 U j0 j hjj hj
        omega
    · obtain ⟨k, rfl⟩ : ∃ x, k = x + 3 := ⟨k - 3, by omega⟩
      rw [fe]
      refine next_none l t part (t / sl) m d tr sl cy (B _ (by omega) (by omega)) _ 100 (fun k hk => ?_) l.length 0 (by omega) (fun x _ hx => hno x (Nat.zero_le _) hx) (k + 1) (by omega)
      obtain ⟨k, rfl⟩ : ∃ x, k = x + 1 := ⟨k - 1, by omega⟩
      rw [l0e]
      exact next_hit l t part (t / sl + 1) m d tr sl cy (B _ (by omega) (by omega)) j0 hj0 hit0 j0 0 (by omega) (fun x _ hx h => hfj x hx h.1) k (by omega)
  · refine ⟨t / sl * sl + (rd_T57 l (j : Int)).f2, ⟨hh.2, stp _ j hq.1 hj hh.1, fun x hx htx => ?_⟩, fun k hk => ?_⟩
    · obtain ⟨j', hj', ej, hxj⟩ := pst x hx
      have hbd := piece_bd hm hd hn.2 U j hj
      have hdx := split_of x (show 1 ≤ sl by omega)
      have hmx := slot_mono (show 1 ≤ sl by omega) (show t ≤ x by omega)
      by_cases hs : x / sl = t / sl
      · rw [hs, hxj] at hdx
        have hjj : j ≤ j' := Nat.le_of_not_lt fun h => hf j' (Nat.zero_le _) h ⟨ej, by omega⟩
        have := piece_mono hm.1 hd.1 U j j' hjj hj'
        omega
      · have := slot_le (show 1 ≤ sl by omega) (show t / sl + 1 ≤ x / sl by omega)
        have e1 : (t / sl + 1) * sl = t / sl * sl + sl := by rw [Int.add_mul]; omega
        have hpx := T.place x
        omega
    · obtain ⟨k, rfl⟩ : ∃ x, k = x + 3 := ⟨k - 3, by omega⟩
      rw [fe]
      exact next_hit l t part (t / sl) m d tr sl cy (B _ (by omega) (by omega)) j hj hh j 0 (by omega) (fun x _ hx => hf x (Nat.zero_le _) hx) (k + 1) (by omega)

end Go.Proofs.Ytlfeiadmkoocgaa.Pure
