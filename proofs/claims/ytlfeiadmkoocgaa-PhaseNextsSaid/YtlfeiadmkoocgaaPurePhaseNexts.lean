/- A part begins where Next says, and nowhere before, and decisions are at least a trip apart. -/
import Derived.Test.YtlfeiadmkoocgaaS13
import Derived.Test.YtlfeiadmkoocgaaS10
import Derived.Test.YtlfeiadmkoocgaaPh6
import Derived.Test.YtlfeiadmkoocgaaPh7
import Derived.Test.YtlfeiadmkoocgaaPhA
namespace Go.Proofs.Ytlfeiadmkoocgaa.Pure
open Go.RowKit Go.Proofs.Ytlfeiadmkoocgaa.S Go.Proofs.YtlfeiadmkoocgaaW.PrintWords Go.Proofs.YtlfeiadmkoocgaaW.PrintLast
set_option linter.unusedVariables false
set_option linter.unusedSimpArgs false

/-- What is found at the begin of a part is that part. -/
theorem find_beg {m d : Int} (hm : 1 ≤ m) (hd : 1 ≤ d) {n : Nat} {part trip : Int} (hp : 1 ≤ part ∧ part ≤ 5) (h : Has n part trip) : (findP m d n (begF m d n part trip)).f0 = part ∧ (findP m d n (begF m d n part trip)).f2 = begF m d n part trip := by
  obtain ⟨t0, ht⟩ := h
  have hc : part = 1 ∨ part = 2 ∨ part = 3 ∨ part = 4 ∨ part = 5 := by omega
  rcases hc with rfl | rfl | rfl | rfl | rfl
  · have : begF m d n 1 trip = 0 := rfl
    rw [this]; unfold findP; rw [if_pos (by omega)]; exact ⟨rfl, rfl⟩
  · rw [if_pos (by decide)] at ht
    obtain ⟨i, rfl⟩ : ∃ i : Nat, trip = i := ⟨trip.toNat, by omega⟩
    have : begF m d n 2 i = m + i * (m + d) := rfl
    rw [this, find_at hm hd n i _ 0 (by omega) (by omega) (by omega), if_pos (by omega), oddP, if_neg (by omega)]; exact ⟨rfl, rfl⟩
  · rw [if_pos (by decide)] at ht
    obtain ⟨i, rfl⟩ : ∃ i : Nat, trip = i := ⟨trip.toNat, by omega⟩
    have : begF m d n 3 i = m + i * (m + d) + m := rfl
    rw [this, find_at hm hd n i _ m (by omega) (by omega) (by omega), if_neg (by omega), evenP, if_neg (by omega)]; exact ⟨rfl, rfl⟩
  · have : begF m d n 4 trip = m + n * (m + d) := rfl
    rw [this, find_at hm hd n n _ 0 (by omega) (by omega) (by omega), if_pos (by omega), oddP, if_pos rfl]; exact ⟨rfl, rfl⟩
  · have : begF m d n 5 trip = m + n * (m + d) + m := rfl
    rw [this, find_at hm hd n n _ m (by omega) (by omega) (by omega), if_neg (by omega), evenP, if_pos rfl]; exact ⟨rfl, rfl⟩

/-- A part begins just where it is found at its place 0. -/
theorem Tms.starts {m d tr sl cy : Int} {n : Nat} (T : Tms m d tr sl cy n) {part : Int} (hp : 1 ≤ part ∧ part ≤ 5) (x : Int) (h0 : 0 ≤ x) : Starts m d n sl part x ↔ (phF m d sl n x).2.1 = part ∧ (phF m d sl n x).2.2.2 = 0 := by
  have hpl := T.place x
  have hsl := T.hsl
  unfold phF
  dsimp only
  constructor
  · rintro ⟨_, trip, hh, e⟩
    have := find_beg T.hm.1 T.hd.1 hp hh
    rw [e]; exact ⟨this.1, by omega⟩
  · rintro ⟨e1, e2⟩
    refine ⟨h0, ?_⟩
    obtain ⟨u, hu⟩ : ∃ u, x % sl = u := ⟨_, rfl⟩
    rw [hu] at hpl e1 e2 ⊢
    have U := pieces_upto T.hm T.hd (n := n) (by have := T.hn; omega)
    have hl := U.len
    obtain ⟨j, hj, ej⟩ : ∃ j : Nat, j < (piecesP m d n).length ∧ rd_T57 (piecesP m d n) (j : Int) = findP m d n u := by
      rcases find_cases T.hm.1 T.hd.1 n u hpl.1 (by omega) with ⟨hlt, e⟩ | ⟨c, hc, v, v0, v1, hv, _, _, ⟨a, e⟩ | ⟨a, e⟩⟩
      · exact ⟨0, by omega, by rw [e]; exact U.head⟩
      · exact ⟨2 * c + 1, by omega, by rw [e, U.odd c (by omega)]⟩
      · exact ⟨2 * c + 2, by omega, by rw [e, U.even c (by omega)]⟩
    have hh := piece_has U j hj
    rw [ej, e1] at hh
    obtain ⟨j2, hj2, ee⟩ := piece_of U part _ hp hh.1
    have hjj := piece_key U j2 j hj2 hj (by rw [ee, ej, e1]) (by rw [ee, ej])
    subst hjj
    rw [ej] at ee
    exact ⟨_, hh.1, by have := congrArg S57.f2 ee; dsimp only at this; rw [← this]; omega⟩

/-- Two begins of trips are a trip apart. -/
theorem Tms.gap {m d tr sl cy : Int} {n : Nat} (T : Tms m d tr sl cy n) {x y : Int} (hx : Starts m d n sl 2 x) (hy : Starts m d n sl 2 y) (h : x < y) : x + tr ≤ y := by
  obtain ⟨x0, i, ⟨i0, hi⟩, ex⟩ := hx
  obtain ⟨y0, j, ⟨j0, hj⟩, ey⟩ := hy
  rw [if_pos (by decide)] at hi hj
  obtain ⟨i, rfl⟩ : ∃ a : Nat, i = a := ⟨i.toNat, by omega⟩
  obtain ⟨j, rfl⟩ : ∃ a : Nat, j = a := ⟨j.toNat, by omega⟩
  have hb := T.hb
  have hsl := T.hsl
  have htr := T.htr
  have hm := T.hm
  have hd := T.hd
  have dx := split_of x (show 1 ≤ sl by omega)
  have dy := split_of y (show 1 ≤ sl by omega)
  have hmn := slot_mono (show 1 ≤ sl by omega) (show x ≤ y by omega)
  have bx : begF m d n 2 i = m + i * (m + d) := rfl
  have by' : begF m d n 2 j = m + j * (m + d) := rfl
  rw [ex, bx] at dx
  rw [ey, by'] at dy
  by_cases hs : y / sl = x / sl
  · rw [hs] at dy
    have hij : i < j := Nat.lt_of_not_le fun h => by have := mul_mono (t := m + d) h (by omega); omega
    have := mul_mono (t := m + d) (show i + 1 ≤ j by omega) (by omega)
    rw [mul_succ'] at this
    omega
  · have h1 := slot_le (show 1 ≤ sl by omega) (show x / sl + 1 ≤ y / sl by omega)
    have e1 : (x / sl + 1) * sl = x / sl * sl + sl := by rw [Int.add_mul]; omega
    have e3 : ((n : Int) + 1) * (m + d) = (n : Int) * (m + d) + (m + d) := by rw [Int.add_mul]; simp
    have := mul_mono (t := m + d) (show i + 1 ≤ n by omega) (by omega)
    rw [mul_succ'] at this
    have p0 : 0 ≤ (j : Int) * (m + d) := Int.mul_nonneg (by omega) (by omega)
    rw [ey, by'] at h1
    omega

/-- Next is at most a slot away. -/
theorem Tms.near {m d tr sl cy : Int} {n : Nat} (T : Tms m d tr sl cy n) {part t N : Int} (hp : 1 ≤ part ∧ part ≤ 5) (h0 : 0 ≤ t) (h : IsNext m d n sl part t N) : N ≤ t + sl := by
  have hb := T.hb
  have hsl := T.hsl
  have hh : Has n part 0 := ⟨by omega, by have := T.hn; split <;> omega⟩
  have hbb := beg_bd T.hm T.hd T.hn hp hh
  have dt := split_of t (show 1 ≤ sl by omega)
  have hpl := T.place t
  have hq := quot_bd h0 (show 1 ≤ sl by omega)
  have st : ∀ s, 0 ≤ s → Starts m d n sl part (s * sl + begF m d n part 0) := fun s hs =>
    ⟨by have := Int.mul_nonneg hs (show 0 ≤ sl by omega); omega, 0, hh, (split_at (show 1 ≤ sl by omega) s _ hbb.1 (by omega) rfl).2⟩
  have e1 : (t / sl + 1) * sl = t / sl * sl + sl := by rw [Int.add_mul]; omega
  by_cases hc : t < t / sl * sl + begF m d n part 0
  · have := h.le _ (st _ hq.1) hc; omega
  · have := h.le _ (st (t / sl + 1) (by omega)) (by omega); omega

theorem Tms.dec {m d tr sl cy : Int} {n : Nat} (T : Tms m d tr sl cy n) (hcy : I64 cy) (t : Int) (h0 : 0 ≤ t) (h1 : t ≤ 1099511627776) (k : Nat) (hk : 2 ≤ k) : phase_Decision.f k m d tr sl cy t = some ((phF m d sl n t).2.1 == 2 && (phF m d sl n t).2.2.2 == 0, 0) := by
  rw [phase_Decision.f, T.of_val hcy t h0 h1 k hk, Option.bind_some]
  dsimp only
  rw [if_pos rfl]

theorem nexts_loop {m d tr sl cy : Int} {n : Nat} (T : Tms m d tr sl cy n) (hcy : I64 cy) {part t N : Int} (hp : 1 ≤ part ∧ part ≤ 5) (h : IsNext m d n sl part t N) (ht : 0 ≤ t) (hN : N ≤ 100000) (K : Nat) (hK : 400 ≤ K)
    (hend : tipstafflaw26_PhaseNexts.l0 (K + 1) part N (N + 1) m d tr sl cy = some true) : ∀ (e : Nat) (x : Int), t < x → x + e = N + 1 → tipstafflaw26_PhaseNexts.l0 (K + 1 + e) part N x m d tr sl cy = some true
  | 0, x, hx, he => by rw [show x = N + 1 by omega]; exact hend
  | e + 1, x, hx, he => by
    have ih := nexts_loop T hcy hp h ht hN K hK hend e (x + 1) (by omega) (by omega)
    rw [show K + 1 + (e + 1) = (K + 1 + e) + 1 by omega, tipstafflaw26_PhaseNexts.l0, if_pos (by omega), T.of_val hcy x (by omega) (by omega) _ (by omega), Option.bind_some, T.dec hcy x (by omega) (by omega) _ (by omega), Option.bind_some]
    dsimp only
    have st := T.starts hp x (by omega)
    have iff1 : ((phF m d sl n x).2.1 = part ∧ (phF m d sl n x).2.2.2 = 0) ↔ x = N := by
      rw [← st]
      constructor
      · intro hs; have := h.le x hs hx; omega
      · rintro rfl; exact h.st
    rw [if_pos rfl, if_pos rfl, wrap_id (x + 1) (by omega) (by omega), ih]
    obtain ⟨P, hP⟩ : ∃ P, (phF m d sl n x).2.1 = P := ⟨_, rfl⟩
    obtain ⟨Q, hQ⟩ : ∃ Q, (phF m d sl n x).2.2.2 = Q := ⟨_, rfl⟩
    rw [hP, hQ] at iff1 ⊢
    by_cases h1 : P = part
    · rw [if_pos h1]
      have e1 : ((Q == 0) != (x == N)) = false := by
        by_cases hq : Q = 0
        · have := iff1.1 ⟨h1, hq⟩; simp [hq, this]
        · have : ¬ x = N := fun e => hq (iff1.2 e).2
          have q1 : (Q == 0) = false := by rw [beq_eq_false_iff_ne]; exact hq
          have q2 : (x == N) = false := by rw [beq_eq_false_iff_ne]; exact this
          rw [q1, q2]; rfl
      rw [e1, if_neg (by decide)]
      by_cases h2 : P = 2
      · rw [if_pos h2, if_neg (by simp [h2])]
      · rw [if_neg h2, if_neg (by simp [h2])]
    · rw [if_neg h1]
      have e1 : (false != (x == N)) = false := by
        have : ¬ x = N := fun e => h1 (iff1.2 e).1
        simp [this]
      rw [e1, if_neg (by decide)]
      by_cases h2 : P = 2
      · rw [if_pos h2, if_neg (by simp [h2])]
      · rw [if_neg h2, if_neg (by simp [h2])]

theorem PhaseNexts : tipstafflaw26_PhaseNexts.Pure := by
  intro a0 a1 a2 h0 h1 h2
  obtain ⟨m, d, n, s, S, hmade⟩ := made_val a0 (i64_of h0)
  have T := S.tms
  have hb := S.bds
  have := S.m; have := S.d; have hn := S.n; have hs := S.s
  obtain ⟨sl, hsl⟩ : ∃ sl, m + ((n : Int) + 1) * (m + d) = sl := ⟨_, rfl⟩
  rw [hsl] at T hb hmade
  obtain ⟨cy, hcy⟩ : ∃ cy, (s : Int) * sl = cy := ⟨_, rfl⟩
  rw [hcy] at T hb hmade
  have hcI : I64 cy := by unfold I64; omega
  obtain ⟨t, ht⟩ : ∃ t, a1 % (2 * cy) = t := ⟨_, rfl⟩
  have t0 := Int.emod_nonneg a1 (show 2 * cy ≠ 0 by omega)
  have t1 := Int.emod_lt_of_pos a1 (show 0 < 2 * cy by omega)
  obtain ⟨y, hy⟩ : ∃ y, a2 % 5 = y := ⟨_, rfl⟩
  have y0 := Int.emod_nonneg a2 (show (5 : Int) ≠ 0 by omega)
  have y1 := Int.emod_lt_of_pos a2 (show (0 : Int) < 5 by omega)
  rw [ht] at t0 t1
  rw [hy] at y0 y1
  have hke : kindE (1 + y) = 0 := by unfold kindE; rw [if_neg (by omega)]
  obtain ⟨N, hN, fN⟩ := T.next_val hcI t (1 + y) t0 (by omega) hke
  have hnr := T.near (kindE_ok hke) t0 hN
  have hlt := hN.lt
  obtain ⟨K, hK⟩ : ∃ K : Nat, K = 400 := ⟨_, rfl⟩
  have rN : nextR N = (N, 0) := by unfold nextR; rw [if_neg (by omega)]
  have hend : tipstafflaw26_PhaseNexts.l0 (K + 1) (1 + y) N (N + 1) m d (m + d) sl cy = some true := by
    rw [tipstafflaw26_PhaseNexts.l0, if_neg (by omega)]
    by_cases hp2 : 1 + y = 2
    · obtain ⟨M, hM, fM⟩ := T.next_val hcI N (1 + y) (by omega) (by omega) hke
      have hM2 := T.near (kindE_ok hke) (by omega) hM
      have hMl := hM.lt
      have g := T.gap (by have := hN.st; rwa [hp2] at this) (by have := hM.st; rwa [hp2] at this) hMl
      have rM : nextR M = (M, 0) := by unfold nextR; rw [if_neg (by omega)]
      rw [if_pos hp2, fM K (by omega), rM, Option.bind_some]
      dsimp only
      rw [if_pos rfl, wrap_id (M - N) (by omega) (by omega), if_pos (by omega), awake_at K (by omega), Option.bind_some]
    · rw [if_neg hp2, awake_at K (by omega), Option.bind_some]
  obtain ⟨e, he⟩ : ∃ e : Nat, t + 1 + e = N + 1 := ⟨(N - t).toNat, by omega⟩
  have lp := nexts_loop T hcI (kindE_ok hke) hN t0 (by omega) K (by omega) hend e (t + 1) (by omega) he
  refine ⟨K + 1 + e + 1, ?_⟩
  rw [tipstafflaw26_PhaseNexts.f, hmade, Option.bind_some]
  dsimp only
  rw [wrap_id (2 * cy) (by omega) (by omega), mod_val a1 _ (i64_of h1) (by omega) (by omega), ht, Option.bind_some, mod_val a2 _ (i64_of h2) (by omega) (by omega), hy, Option.bind_some, wrap_id (1 + y) (by omega) (by omega), fN _ (by omega), rN, Option.bind_some]
  dsimp only
  rw [if_pos rfl, if_neg (by omega), wrap_id (t + sl) (by omega) (by omega), decide_eq_false (by omega), tipstafflaw26_PhaseNexts.j0, if_neg (by decide), wrap_id (t + 1) (by omega) (by omega)]
  exact lp

end Go.Proofs.Ytlfeiadmkoocgaa.Pure
