/- From some round on, the answer is known. The plain law of motions: what a tick does to a valid motion. The plain law of motions: runs, paths, and the specification's functions. What the program's functions on valid motions come to, and the motions made of numbers. -/
import Derived.Test.YtocbjclflabmcaaNums
import Derived.Test.YtocbjclflabmcaaHleft
import Derived.Test.YtocbjclflabmcaaS2
import Derived.Test.YtocbjclflabmcaaHpath
import Derived.Test.YtocbjclflabmcaaHturn
set_option linter.unusedVariables false
set_option linter.unusedSimpArgs false
namespace Go.Proofs.Ytocbjclflabmcaa.Pure
open Go.RowKit Go.Proofs.YtocbjclflabmcaaW.PrintWords Go.Proofs.YtocbjclflabmcaaW.PrintLast
set_option linter.unusedVariables false
set_option linter.unusedSimpArgs false

/-- From some round on, the answer is v. -/
def Ev {α : Type} (g : Nat → Option α) (v : α) : Prop := ∃ K, ∀ k, K ≤ k → g k = some v
theorem Ev.step {α : Type} {g : Nat → Option α} {v : α} {g' : Nat → Option α} (h : Ev g' v) (e : ∀ k, g (k + 1) = g' k) : Ev g v := by
  obtain ⟨K, h⟩ := h
  exact ⟨K + 1, fun k hk => by obtain ⟨m, rfl, hm⟩ := succ_of (show K < k by omega); rw [e, h m hm]⟩
theorem Ev.const {α : Type} (v : α) : Ev (fun _ => some v) v := ⟨0, fun _ _ => rfl⟩
theorem Ev.of_eq {α : Type} {x : Option α} {v : α} (h : x = some v) : Ev (fun _ => x) v := ⟨0, fun _ _ => h⟩
theorem Ev.congr {α : Type} {g g' : Nat → Option α} {v : α} (h : Ev g' v) (e : ∀ k, g k = g' k) : Ev g v := by
  obtain ⟨K, h⟩ := h; exact ⟨K, fun k hk => by rw [e, h k hk]⟩
theorem Ev.val {α : Type} {g : Nat → Option α} {v u : α} (h : Ev g v) (e : v = u) : Ev g u := e ▸ h
theorem Ev.bind {α β : Type} {g : Nat → Option α} {v : α} {f : α → Nat → Option β} {u : β} (h : Ev g v) (h' : Ev (f v) u) : Ev (fun k => (g k).bind fun x => f x k) u := by
  obtain ⟨K, h⟩ := h; obtain ⟨K', h'⟩ := h'
  exact ⟨K + K', fun k hk => by show (g k).bind _ = _; rw [h k (by omega), Option.bind_some, h' k (by omega)]⟩
theorem Ev.get {α : Type} {g : Nat → Option α} {v : α} (h : Ev g v) : ∃ k, g k = some v := by
  obtain ⟨K, h⟩ := h; exact ⟨K, h K (Nat.le_refl _)⟩
theorem Ev.mono_at {α : Type} {g : Nat → Option α} {v : α} (k0 : Nat) (h : g k0 = some v) (hm : ∀ k, LeO (g k) (g (k + 1))) : Ev g v := by
  refine ⟨k0, fun k hk => ?_⟩
  obtain ⟨d, rfl⟩ : ∃ d, k = k0 + d := ⟨k - k0, by omega⟩
  clear hk
  induction d with
  | zero => exact h
  | succ d ih => exact hm _ _ ih
theorem Ev.shift {α : Type} {g : Nat → Option α} {v : α} (h : Ev g v) : Ev (fun k => g (k + 1)) v := by
  obtain ⟨K, h⟩ := h; exact ⟨K, fun k hk => h _ (by omega)⟩

end Go.Proofs.Ytocbjclflabmcaa.Pure

namespace Go.Proofs.Ytocbjclflabmcaa.Pure
open Go.RowKit Go.Proofs.Ytocbjclflabmcaa.S Go.Proofs.YtocbjclflabmcaaW.PrintWords Go.Proofs.YtocbjclflabmcaaW.PrintLast

def triT : Nat → Nat
  | 0 => 0
  | n + 1 => triT n + (n + 1)
theorem triT_two (n : Nat) : 2 * triT n = n * (n + 1) := by
  induction n with
  | zero => rfl
  | succ n ih => rw [triT, Nat.mul_add, ih, Nat.add_mul n 1 (n + 1 + 1), Nat.mul_add n (n + 1) 1]; omega
theorem triT_le {a b : Nat} (h : a ≤ b) : triT a ≤ triT b := by
  induction h with
  | refl => exact Nat.le_refl _
  | step _ ih => rw [triT]; omega
theorem triT_21 {n : Nat} (h : n ≤ 21) : triT n ≤ 231 := Nat.le_trans (triT_le h) (by decide)
theorem tri_eq (n : Nat) (h : n ≤ 21) : triV (n : Int) = triT n := by
  have h2 := triT_two n
  have h3 := triT_21 h
  unfold triV
  rw [wrap_id ((n : Int) + 1) (by omega) (by omega)]
  have e : (n : Int) * ((n : Int) + 1) = ((2 * triT n : Nat) : Int) := by rw [h2]; simp
  rw [e, wrap_id ((2 * triT n : Nat) : Int) (by omega) (by omega), Int.tdiv_eq_ediv_of_nonneg (by omega), wrap_id _ (by omega) (by omega)]
  omega

/-- The triangular number of an int. -/
def tT (v : Int) : Int := (triT v.toNat : Int)
theorem tT_nonneg (v : Int) : 0 ≤ tT v := by unfold tT; omega
theorem tT_step (v : Int) (h : 1 ≤ v) : tT v = tT (v - 1) + v := by
  unfold tT
  obtain ⟨n, rfl⟩ : ∃ n : Nat, v = (n : Int) + 1 := ⟨(v - 1).toNat, by omega⟩
  rw [show ((n : Int) + 1).toNat = n + 1 by omega, show ((n : Int) + 1 - 1).toNat = n by omega, triT]
  omega
theorem tT_zero : tT 0 = 0 := rfl
theorem tT_le {a b : Int} (h : a ≤ b) : tT a ≤ tT b := by
  have := triT_le (show a.toNat ≤ b.toNat by omega)
  unfold tT; omega
theorem tT_val (v : Int) (h : 0 ≤ v) (h2 : v ≤ 21) : triV v = tT v := by
  obtain ⟨n, rfl⟩ := Int.eq_ofNat_of_zero_le h
  rw [tri_eq n (by omega)]; rfl

/-- The distance of two places. -/
def dist (p g : Int) : Int := if g < p then p - g else g - p
theorem dist_nonneg (p g : Int) : 0 ≤ dist p g := by unfold dist; split <;> omega
theorem dist_zero {p g : Int} : dist p g = 0 ↔ p = g := by unfold dist; split <;> omega
theorem rest_val {p g : Int} (h1 : 0 ≤ p) (h2 : p ≤ 63000) (h3 : 0 ≤ g) (h4 : g ≤ 63000) : restV p g = dist p g := by
  unfold restV mx mn dist
  rw [wrap_id _ (by (repeat' split) <;> omega) (by (repeat' split) <;> omega)]
  (repeat' split) <;> omega

/-- A valid motion. -/
structure Ok (p g s m : Int) : Prop where
  p0 : 0 ≤ p
  p1 : p ≤ 63000
  g0 : 0 ≤ g
  g1 : g ≤ 63000
  m0 : 1 ≤ m
  m1 : m ≤ 20
  s0 : 0 ≤ s
  s1 : s ≤ m
  st : 0 < s → ¬ p = g ∧ tT (s - 1) ≤ dist p g

theorem Ok.rest {p g s m : Int} (h : Ok p g s m) : restV p g = dist p g := rest_val h.p0 h.p1 h.g0 h.g1

def chk (p g s m : Int) : Int :=
  if 0 ≤ p ∧ p ≤ 63000 ∧ 0 ≤ g ∧ g ≤ 63000 ∧ 1 ≤ m ∧ m ≤ 20 ∧ 0 ≤ s ∧ s ≤ m then (if 0 < s ∧ (p = g ∨ dist p g < tT (s - 1)) then 3 else 0) else 2
theorem chk_ok {p g s m : Int} : chk p g s m = 0 ↔ Ok p g s m := by
  unfold chk
  constructor
  · intro h
    split at h
    · rename_i h1
      split at h
      · exact absurd h (by decide)
      · rename_i h2
        exact ⟨h1.1, h1.2.1, h1.2.2.1, h1.2.2.2.1, h1.2.2.2.2.1, h1.2.2.2.2.2.1, h1.2.2.2.2.2.2.1, h1.2.2.2.2.2.2.2, fun hs => ⟨fun e => h2 ⟨hs, .inl e⟩, by
          rcases Int.lt_or_le (dist p g) (tT (s - 1)) with h3 | h3
          · exact absurd ⟨hs, .inr h3⟩ h2
          · exact h3⟩⟩
    · exact absurd h (by decide)
  · intro h
    rw [if_pos ⟨h.p0, h.p1, h.g0, h.g1, h.m0, h.m1, h.s0, h.s1⟩, if_neg]
    rintro ⟨hs, h3 | h3⟩
    · exact (h.st hs).1 h3
    · have := (h.st hs).2; omega

def stt (a b c : Int) : Int × Int × Int × Int × Int := if 0 ≤ a ∧ a ≤ 63000 ∧ 0 ≤ b ∧ b ≤ 63000 ∧ 1 ≤ c ∧ c ≤ 20 then (a, b, 0, c, 0) else (0, 0, 0, 0, 2)
theorem start_val (a b c : Int) : motion_Start.f a b c = some (stt a b c) := by
  unfold motion_Start.f motion_place.f stt
  by_cases h1 : a ≥ 0
  · rw [if_pos h1, Option.bind_some]
    by_cases h2 : a ≤ 63000
    · rw [decide_eq_true h2, if_pos rfl]
      by_cases h3 : b ≥ 0
      · rw [if_pos h3, Option.bind_some]
        by_cases h4 : b ≤ 63000
        · rw [decide_eq_true h4, if_pos rfl]
          (repeat' split) <;> first | rfl | omega
        · rw [decide_eq_false h4, if_neg (by decide), if_neg (by omega)]
      · rw [if_neg h3, Option.bind_some, if_neg (by decide), if_neg (by omega)]
    · rw [decide_eq_false h2, if_neg (by decide), if_neg (by omega)]
  · rw [if_neg h1, Option.bind_some, if_neg (by decide), if_neg (by omega)]
theorem check_val (p g s m : Int) : motion_Check.f p g s m = some (chk p g s m) := by
  unfold motion_Check.f
  rw [start_val, Option.bind_some]
  unfold stt
  by_cases h : 0 ≤ p ∧ p ≤ 63000 ∧ 0 ≤ g ∧ g ≤ 63000 ∧ 1 ≤ m ∧ m ≤ 20
  · rw [if_pos h, if_pos rfl]
    congr 1
    unfold chk
    by_cases h1 : s < 0
    · rw [if_pos h1, if_neg (by omega)]
    · rw [if_neg h1]
      by_cases h2 : m < s
      · rw [if_pos h2, if_neg (by omega)]
      · rw [if_neg h2, if_pos (show 0 ≤ p ∧ p ≤ 63000 ∧ 0 ≤ g ∧ g ≤ 63000 ∧ 1 ≤ m ∧ m ≤ 20 ∧ 0 ≤ s ∧ s ≤ m by omega), rest_val (by omega) (by omega) (by omega) (by omega)]
        by_cases h3 : 0 < s
        · rw [if_pos h3, wrap_id _ (by omega) (by omega), tT_val _ (by omega) (by omega)]
          by_cases h4 : p = g
          · rw [if_pos (dist_zero.2 h4), if_pos ⟨h3, .inl h4⟩]
          · rw [if_neg (fun e => h4 (dist_zero.1 e))]
            by_cases h5 : dist p g < tT (s - 1)
            · rw [if_pos h5, if_pos ⟨h3, .inr h5⟩]
            · rw [if_neg h5, if_neg (fun e => e.2.elim h4 h5)]
        · rw [if_neg h3, if_neg (fun e => h3 e.1)]
  · rw [if_neg h, if_neg (by decide)]
    congr 1
    unfold chk
    rw [if_neg (by omega)]

/-- The next speed. -/
def nx (s d m : Int) : Int := if s + 1 ≤ m ∧ tT (s + 1) ≤ d then s + 1 else if tT s ≤ d then s else s - 1

theorem fits_val (m d v : Int) (h : -1 ≤ v) (h2 : v ≤ 21) : fits m d v = decide (0 ≤ v ∧ v ≤ m ∧ tT v ≤ d) := by
  unfold fits
  by_cases h0 : v < 0
  · simp [h0]; omega
  · rw [tT_val v (by omega) h2]
    by_cases h1 : m < v
    · simp [h0, h1]; omega
    · by_cases h3 : d < tT v
      · simp [h0, h1, h3]
      · simp [h0, h1, h3]; omega

/-- What a tick does. -/
structure Tk (p g s m p' s' v : Int) : Prop where
  ev : tickV p g s m = (p', s')
  hp : p' = p + wayV p g * v
  hs : s' = if p' = g then 0 else v
  v1 : 1 ≤ v
  vm : v ≤ m
  hd : dist p' g = dist p g - v
  vd : v ≤ dist p g
  near : s - 1 ≤ v ∧ v ≤ s + 1
  ok : Ok p' g s' m
  way : ¬ p' = g → wayV p' g = wayV p g
  nx : v = nx s (dist p g) m
  tri : tT v ≤ dist p g

theorem nx_spec {p g s m : Int} (h : Ok p g s m) (hne : ¬ p = g) : 1 ≤ nx s (dist p g) m ∧ nx s (dist p g) m ≤ m ∧ tT (nx s (dist p g) m) ≤ dist p g ∧ s - 1 ≤ nx s (dist p g) m ∧ nx s (dist p g) m ≤ s + 1 := by
  have hd := dist_nonneg p g
  have hd0 : ¬ dist p g = 0 := fun e => hne (dist_zero.1 e)
  have hs0 := h.s0
  have hs1 := h.s1
  have hm0 := h.m0
  have t1 : tT 1 = 1 := rfl
  unfold nx
  by_cases h1 : s + 1 ≤ m ∧ tT (s + 1) ≤ dist p g
  · rw [if_pos h1]; omega
  · rw [if_neg h1]
    by_cases h2 : tT s ≤ dist p g
    · rw [if_pos h2]
      by_cases hz : s = 0
      · exfalso; subst hz; exact h1 ⟨by omega, by simp only [Int.zero_add, t1]; omega⟩
      · omega
    · rw [if_neg h2]
      by_cases hz : s = 0
      · subst hz; exact absurd (by rw [tT_zero]; exact hd) h2
      · have := (h.st (by omega)).2
        by_cases hz1 : s = 1
        · subst hz1; exact absurd (by rw [t1]; omega) h2
        · omega

theorem tick_find {p g s m : Int} (h : Ok p g s m) (hne : ¬ p = g) : ∃ i : Int, (candV s).find? (fun x => fits m (dist p g) x.2) = some (i, nx s (dist p g) m) := by
  have hs0 := h.s0
  have hs1 := h.s1
  have hm1 := h.m1
  have sp := nx_spec h hne
  unfold candV
  rw [wrap_id _ (by omega) (by omega), wrap_id _ (by omega) (by omega)]
  simp only [List.find?_cons]
  rw [fits_val _ _ (s + 1) (by omega) (by omega), fits_val _ _ s (by omega) (by omega), fits_val _ _ (s - 1) (by omega) (by omega)]
  unfold nx at sp ⊢
  by_cases h1 : s + 1 ≤ m ∧ tT (s + 1) ≤ dist p g
  · rw [decide_eq_true (show 0 ≤ s + 1 ∧ s + 1 ≤ m ∧ tT (s + 1) ≤ dist p g by exact ⟨by omega, h1⟩), if_pos h1]; exact ⟨_, rfl⟩
  · rw [decide_eq_false (show ¬ (0 ≤ s + 1 ∧ s + 1 ≤ m ∧ tT (s + 1) ≤ dist p g) from fun e => h1 e.2), if_neg h1]
    rw [if_neg h1] at sp
    by_cases h2 : tT s ≤ dist p g
    · rw [decide_eq_true (show 0 ≤ s ∧ s ≤ m ∧ tT s ≤ dist p g by exact ⟨hs0, hs1, h2⟩), if_pos h2]; exact ⟨_, rfl⟩
    · rw [decide_eq_false (show ¬ (0 ≤ s ∧ s ≤ m ∧ tT s ≤ dist p g) from fun e => h2 e.2.2), if_neg h2]
      rw [if_neg h2] at sp
      rw [decide_eq_true (show 0 ≤ s - 1 ∧ s - 1 ≤ m ∧ tT (s - 1) ≤ dist p g by exact ⟨by omega, by omega, sp.2.2.1⟩)]; exact ⟨_, rfl⟩

theorem way_cases (p g : Int) : (g < p ∧ wayV p g = -1) ∨ (¬ g < p ∧ wayV p g = 1) := by
  unfold wayV; split
  · exact .inl ⟨by assumption, rfl⟩
  · exact .inr ⟨by assumption, rfl⟩

theorem tick_main {p g s m : Int} (h : Ok p g s m) (hne : ¬ p = g) : ∃ p' s' v, Tk p g s m p' s' v := by
  obtain ⟨i, hf⟩ := tick_find h hne
  have sp := nx_spec h hne
  obtain ⟨v, hv⟩ : ∃ v, nx s (dist p g) m = v := ⟨_, rfl⟩
  rw [hv] at hf sp
  have hp0 := h.p0
  have hp1 := h.p1
  have hg0 := h.g0
  have hg1 := h.g1
  have hm1 := h.m1
  have htv := tT_step v sp.1
  have htn := tT_nonneg (v - 1)
  have hvd : v ≤ dist p g := by omega
  have hw : wrap64 (p + wrap64 (wayV p g * v)) = p + wayV p g * v := by
    rcases way_cases p g with ⟨_, e⟩ | ⟨_, e⟩ <;> rw [e]
    · rw [wrap_id (-1 * v) (by omega) (by omega), wrap_id _ (by omega) (by omega)]
    · rw [wrap_id (1 * v) (by omega) (by omega), wrap_id _ (by omega) (by omega)]
  have hb : 0 ≤ p + wayV p g * v ∧ p + wayV p g * v ≤ 63000 ∧ dist (p + wayV p g * v) g = dist p g - v ∧ (¬ p + wayV p g * v = g → wayV (p + wayV p g * v) g = wayV p g) := by
    rcases way_cases p g with ⟨e0, e⟩ | ⟨e0, e⟩ <;> rw [e] <;> unfold dist at * <;> unfold wayV <;> (repeat' split) <;> (repeat' split at hvd) <;> omega
  obtain ⟨p', hp'⟩ : ∃ p', p + wayV p g * v = p' := ⟨_, rfl⟩
  rw [hp'] at hw hb
  have hd0 : dist p' g = 0 ↔ p' = g := dist_zero
  refine ⟨p', if p' = g then 0 else v, v, ?_, hp'.symm, rfl, sp.1, sp.2.1, hb.2.2.1, hvd, ⟨sp.2.2.2.1, sp.2.2.2.2⟩, ⟨hb.1, hb.2.1, hg0, hg1, h.m0, hm1, by split <;> omega, by split <;> omega, ?_⟩, hb.2.2.2, hv.symm, sp.2.2.1⟩
  · unfold tickV
    rw [h.rest, if_neg (fun e => hne (dist_zero.1 e)), hf]
    simp only
    rw [hw, rest_val hb.1 hb.2.1 hg0 hg1]
    by_cases e : p' = g
    · rw [if_pos (dist_zero.2 e), if_pos e]
    · rw [if_neg (fun x => e (dist_zero.1 x)), if_neg e]
  · intro hs
    by_cases e : p' = g
    · rw [if_pos e] at hs; omega
    · rw [if_neg e]
      exact ⟨e, by have := hb.2.2.1; omega⟩

theorem tick_still {p g s m : Int} (h : Ok p g s m) (he : p = g) : tickV p g s m = (p, s) := by
  unfold tickV
  rw [h.rest, if_pos (dist_zero.2 he)]

end Go.Proofs.Ytocbjclflabmcaa.Pure

namespace Go.Proofs.Ytocbjclflabmcaa.Pure
open Go.RowKit Go.Proofs.Ytocbjclflabmcaa.S Go.Proofs.YtocbjclflabmcaaW.PrintWords Go.Proofs.YtocbjclflabmcaaW.PrintLast

theorem tick_ok {p g s m : Int} (h : Ok p g s m) : Ok (tickV p g s m).1 g (tickV p g s m).2 m := by
  by_cases hne : p = g
  · rw [tick_still h hne]; exact h
  · obtain ⟨p', s', v, t⟩ := tick_main h hne
    rw [t.ev]; exact t.ok

/-! ### Runs -/
theorem runN_ok : ∀ (n : Nat) {p g s m : Int}, Ok p g s m → Ok (S.runN n p g s m).1 g (S.runN n p g s m).2 m
  | 0, _, _, _, _, h => h
  | n + 1, p, g, s, m, h => by
    rw [S.runN]
    split
    · exact runN_ok n (tick_ok h)
    · exact h
theorem runN_still (n : Nat) {p g s m : Int} (h : Ok p g s m) (he : p = g) : S.runN n p g s m = (p, s) := by
  cases n with
  | zero => rfl
  | succ n => rw [S.runN, h.rest, if_neg (by rw [dist_zero.2 he]; omega)]
theorem runN_step (n : Nat) {p g s m p' s' v : Int} (h : Ok p g s m) (hne : ¬ p = g) (t : Tk p g s m p' s' v) : S.runN (n + 1) p g s m = S.runN n p' g s' m := by
  have h0 := dist_nonneg p g
  have h1 : ¬ dist p g = 0 := fun e => hne (dist_zero.1 e)
  rw [S.runN, h.rest, if_pos (by omega), t.ev]
theorem runN_add : ∀ (x y : Nat) {p g s m : Int}, Ok p g s m → S.runN (x + y) p g s m = S.runN y (S.runN x p g s m).1 g (S.runN x p g s m).2 m
  | 0, y, p, g, s, m, h => by rw [Nat.zero_add]; rfl
  | x + 1, y, p, g, s, m, h => by
    by_cases hne : p = g
    · rw [runN_still _ h hne, runN_still (x + 1) h hne]; exact (runN_still y h hne).symm
    · obtain ⟨p', s', v, t⟩ := tick_main h hne
      rw [show x + 1 + y = (x + y) + 1 by omega, runN_step _ h hne t, runN_step _ h hne t, runN_add x y t.ok]

/-! ### Paths -/
theorem pos_main {g m : Int} : ∀ (N : Nat) (p s : Int), Ok p g s m → dist p g ≤ N → ∃ xs, (∀ k, N < k → posL k p g s m = some xs) ∧ xs.length ≤ N
  | 0, p, s, h, hd => by
    have h0 := dist_nonneg p g
    refine ⟨[], fun k hk => ?_, Nat.le_refl _⟩
    obtain ⟨k, rfl⟩ : ∃ j, k = j + 1 := ⟨k - 1, by omega⟩
    rw [posL, h.rest, if_neg (by omega)]
  | N + 1, p, s, h, hd => by
    by_cases hne : p = g
    · refine ⟨[], fun k hk => ?_, by simp⟩
      obtain ⟨k, rfl⟩ : ∃ j, k = j + 1 := ⟨k - 1, by omega⟩
      rw [posL, h.rest, if_neg (by rw [dist_zero.2 hne]; omega)]
    · obtain ⟨p', s', v, t⟩ := tick_main h hne
      have h1 := t.hd
      have h2 := t.v1
      obtain ⟨xs, hx, hl⟩ := pos_main N p' s' t.ok (by omega)
      refine ⟨p' :: xs, fun k hk => ?_, by simp; omega⟩
      obtain ⟨k, rfl⟩ : ∃ j, k = j + 1 := ⟨k - 1, by omega⟩
      have h3 := t.vd
      rw [posL, h.rest, if_pos (by omega), t.ev]
      simp only
      rw [hx k (by omega)]; rfl

/-- The places of a motion till it is at its goal. -/
def posX (p g s m : Int) : List Int := (posL 63001 p g s m).getD []
theorem dist_le {p g s m : Int} (h : Ok p g s m) : dist p g ≤ 63000 := by
  have := h.p0; have := h.p1; have := h.g0; have := h.g1
  unfold dist; split <;> omega
theorem posX_spec {p g s m : Int} (h : Ok p g s m) : (∀ k, 63000 < k → posL k p g s m = some (posX p g s m)) ∧ (posX p g s m).length ≤ 63000 := by
  obtain ⟨xs, hx, hl⟩ := pos_main 63000 p s h (dist_le h)
  have e : posX p g s m = xs := by
    unfold posX
    rw [hx 63001 (by omega)]; rfl
  rw [e]
  exact ⟨hx, hl⟩
theorem posX_nil {p g s m : Int} (h : Ok p g s m) (he : p = g) : posX p g s m = [] := by
  have e := (posX_spec h).1 63001 (by omega)
  rw [posL, h.rest, if_neg (by rw [dist_zero.2 he]; omega)] at e
  exact (Option.some.inj e).symm
theorem posX_cons {p g s m p' s' v : Int} (h : Ok p g s m) (hne : ¬ p = g) (t : Tk p g s m p' s' v) : posX p g s m = p' :: posX p' g s' m := by
  have h0 := dist_nonneg p g
  have h1 : ¬ dist p g = 0 := fun e => hne (dist_zero.1 e)
  have e := (posX_spec h).1 63002 (by omega)
  rw [posL, h.rest, if_pos (by omega), t.ev] at e
  simp only at e
  rw [(posX_spec t.ok).1 63001 (by omega)] at e
  exact (Option.some.inj e).symm
theorem ticksOf_len (xs : List Int) (h : xs.length ≤ 63000) : ticksOf xs = xs.length := by
  have : ∀ (l : List Int) (t : Int), 0 ≤ t → t + l.length ≤ 100000 → l.foldl (fun t _ => wrap64 (t + 1)) t = t + l.length := by
    intro l
    induction l with
    | nil => intro t _ _; simp
    | cons a l ih =>
      intro t h0 h1
      simp only [List.length_cons] at h1
      rw [List.foldl_cons, wrap_id _ (by omega) (by omega), ih _ (by omega) (by omega)]
      simp only [List.length_cons]; omega
  have := this xs 0 (by omega) (by omega)
  unfold ticksOf
  rw [this]; omega

/-- Induction along a motion. -/
theorem along {g m : Int} {C : Int → Int → Prop} (h0 : ∀ p s, Ok p g s m → p = g → C p s) (h1 : ∀ p s p' s' v, Ok p g s m → ¬ p = g → Tk p g s m p' s' v → C p' s' → C p s) : ∀ p s, Ok p g s m → C p s := by
  have key : ∀ (N : Nat) (p s : Int), Ok p g s m → dist p g ≤ N → C p s := by
    intro N
    induction N with
    | zero => intro p s h hd; exact h0 p s h (dist_zero.1 (by have := dist_nonneg p g; omega))
    | succ N ih =>
      intro p s h hd
      by_cases hne : p = g
      · exact h0 p s h hne
      · obtain ⟨p', s', v, t⟩ := tick_main h hne
        exact h1 p s p' s' v h hne t (ih p' s' t.ok (by have := t.hd; have := t.v1; omega))
  exact fun p s h => key (dist p g).toNat p s h (by have := dist_nonneg p g; omega)

/-- The place after so many ticks. -/
theorem pos_run {g m : Int} : ∀ p s, Ok p g s m → ∀ (n : Nat), n < (posX p g s m).length → rd (posX p g s m) (n : Int) = (S.runN (n + 1) p g s m).1 := by
  refine along ?_ ?_
  · intro p s h he n hn
    rw [posX_nil h he] at hn; simp at hn
  · intro p s p' s' v h hne t ih n hn
    rw [posX_cons h hne t] at hn ⊢
    rw [runN_step _ h hne t]
    cases n with
    | zero => simp [rd, S.runN]
    | succ n =>
      rw [← ih n (by simpa using hn)]
      rw [rd_nat _ _ (by simpa using hn), rd_nat _ _ (by simpa using hn)]
      rfl
theorem run_end {g m : Int} : ∀ p s, Ok p g s m → ∀ (n : Nat), (posX p g s m).length ≤ n → (S.runN n p g s m).1 = g ∧ (¬ p = g → (S.runN n p g s m).2 = 0) := by
  refine along ?_ ?_
  · intro p s h he n hn
    rw [runN_still n h he]; exact ⟨he, fun e => absurd he e⟩
  · intro p s p' s' v h hne t ih n hn
    rw [posX_cons h hne t, List.length_cons] at hn
    obtain ⟨n, rfl⟩ : ∃ j, n = j + 1 := ⟨n - 1, by omega⟩
    rw [runN_step _ h hne t]
    have := ih n (by omega)
    refine ⟨this.1, fun _ => ?_⟩
    by_cases e : p' = g
    · rw [runN_still _ t.ok e, t.hs, if_pos e]
    · exact this.2 e

end Go.Proofs.Ytocbjclflabmcaa.Pure

namespace Go.Proofs.Ytocbjclflabmcaa.Pure
open Go.RowKit Go.Proofs.Ytocbjclflabmcaa.S Go.Proofs.YtocbjclflabmcaaW.PrintWords Go.Proofs.YtocbjclflabmcaaW.PrintLast

theorem ok_chk {p g s m : Int} (h : Ok p g s m) : chk p g s m = 0 := chk_ok.2 h
theorem left_val {p g s m : Int} (h : Ok p g s m) (k : Nat) (hk : 63000 < k) : motion_Left.f k p g s m = some (((posX p g s m).length : Int), 0) := by
  unfold motion_Left.f
  rw [check_val, Option.bind_some, if_pos (ok_chk h), (posX_spec h).1 k hk, Option.map_some, ticksOf_len _ (posX_spec h).2]
theorem step_val {p g s m : Int} (h : Ok p g s m) : motion_Step.f p g s m = some ((tickV p g s m).1, g, (tickV p g s m).2, m, 0) := by
  unfold motion_Step.f
  rw [check_val, Option.map_some, if_pos (ok_chk h)]
theorem stop_val {p g s m : Int} (h : Ok p g s m) : motion_Stop.f p g s m = some (p, p, 0, m, 0) := by
  unfold motion_Stop.f
  rw [check_val, Option.map_some, if_pos (ok_chk h)]
theorem run_val {p g s m : Int} (h : Ok p g s m) (n : Int) (h0 : 0 ≤ n) (h1 : n ≤ 100000) : motion_Run.f p g s m n = some ((S.runN n.toNat p g s m).1, g, (S.runN n.toNat p g s m).2, m, 0) := by
  unfold motion_Run.f
  rw [check_val, Option.map_some, if_pos (ok_chk h), if_neg (by omega)]
theorem path_val {p g s m : Int} (h : Ok p g s m) (n : Nat) (h1 : n ≤ 1000) (k : Nat) (hk : 63000 < k) : motion_Path.f k p g s m (n : Int) = some ((posX p g s m).take n, 0) := by
  unfold motion_Path.f
  rw [check_val, Option.bind_some, if_pos (ok_chk h), if_neg (by omega)]
  by_cases c : (n : Int) = 0
  · rw [if_pos c, show n = 0 by omega]; rfl
  · rw [if_neg c, (posX_spec h).1 k hk, Option.map_some, Int.toNat_natCast]

/-- The place nearest to a motion at which it can stop. -/
def nearV (p g s : Int) : Int := if s = 0 then p else p + wayV p g * tT (s - 1)
theorem nearest_val {p g s m : Int} (h : Ok p g s m) : motion_Nearest.f p g s m = some (nearV p g s, 0) := by
  unfold motion_Nearest.f nearV
  rw [check_val, Option.bind_some, if_pos (ok_chk h)]
  have := h.s0; have := h.s1; have := h.m1; have := h.p0; have := h.p1
  by_cases c : s = 0
  · rw [if_pos c, if_pos c]
  · rw [if_neg c, if_neg c, wrap_id (s - 1) (by omega) (by omega), tT_val _ (by omega) (by omega)]
    have h1 := (h.st (by omega)).2
    have h2 := dist_le h
    have h3 := tT_nonneg (s - 1)
    rcases way_cases p g with ⟨_, e⟩ | ⟨_, e⟩ <;> rw [e]
    · rw [wrap_id (-1 * tT (s - 1)) (by omega) (by omega), wrap_id _ (by omega) (by omega)]
    · rw [wrap_id (1 * tT (s - 1)) (by omega) (by omega), wrap_id _ (by omega) (by omega)]


end Go.Proofs.Ytocbjclflabmcaa.Pure
