/- What the specification's functions on valid motions come to. -/
import Derived.Test.YtocbjclflabmcaaMo
import Derived.Test.YtocbjclflabmcaaS4
import Derived.Test.YtocbjclflabmcaaS3
import Derived.Test.YtocbjclflabmcaaS2
import Derived.Test.YtocbjclflabmcaaS5
import Derived.Test.YtocbjclflabmcaaS6
import Derived.Test.YtocbjclflabmcaaS10
import Derived.Test.YtocbjclflabmcaaS7
namespace Go.Proofs.Ytocbjclflabmcaa.Pure
open Go.RowKit Go.Proofs.Ytocbjclflabmcaa.S Go.Proofs.YtocbjclflabmcaaW.PrintWords Go.Proofs.YtocbjclflabmcaaW.PrintLast
set_option linter.unusedVariables false
set_option linter.unusedSimpArgs false

theorem rstart_val (a b c : Int) : tipstaffref09_Start.f a b c = some (stt a b c) := by
  unfold tipstaffref09_Start.f stt
  (repeat' split) <;> first | rfl | omega

theorem rrest_val {p g : Int} (s m : Int) (h1 : 0 ≤ p) (h2 : p ≤ 63000) (h3 : 0 ≤ g) (h4 : g ≤ 63000) : tipstaffref09_rest.f p g s m = some (dist p g) := by
  unfold tipstaffref09_rest.f mx dist
  rw [wrap_id _ (by omega) (by omega), wrap_id _ (by omega) (by omega)]
  congr 1
  (repeat' split) <;> omega
theorem rtri_val (v : Int) : tipstaffref09_tri.f v = some (triV v) := rfl

theorem rcheck_val (p g s m : Int) (k : Nat) : tipstaffref09_Check.f (k + 1) p g s m = some (chk p g s m) := by
  unfold tipstaffref09_Check.f
  rw [rstart_val, Option.bind_some]
  unfold stt
  by_cases h : 0 ≤ p ∧ p ≤ 63000 ∧ 0 ≤ g ∧ g ≤ 63000 ∧ 1 ≤ m ∧ m ≤ 20
  · rw [if_pos h, if_pos rfl]
    unfold chk
    by_cases h1 : s < 0
    · rw [if_pos h1, if_neg (by omega), tipstaffref09_Check.j0, if_pos rfl]
    · rw [if_neg h1, tipstaffref09_Check.j0]
      by_cases h2 : s > m
      · rw [decide_eq_true h2, if_pos rfl, if_neg (by omega)]
      · rw [decide_eq_false h2, if_neg (by decide), rrest_val _ _ (by omega) (by omega) (by omega) (by omega), if_pos (show 0 ≤ p ∧ p ≤ 63000 ∧ 0 ≤ g ∧ g ≤ 63000 ∧ 1 ≤ m ∧ m ≤ 20 ∧ 0 ≤ s ∧ s ≤ m by omega)]
        by_cases h3 : s > 0
        · rw [if_pos h3, Option.bind_some, rtri_val, wrap_id _ (by omega) (by omega), tT_val _ (by omega) (by omega), Option.bind_some, Option.bind_some]
          by_cases h4 : p = g
          · rw [if_pos (dist_zero.2 h4), if_pos ⟨h3, .inl h4⟩]
          · rw [if_neg (fun e => h4 (dist_zero.1 e))]
            by_cases h5 : dist p g < tT (s - 1)
            · rw [if_pos h5, if_pos ⟨h3, .inr h5⟩]
            · rw [if_neg h5, if_neg (fun e => e.2.elim h4 h5)]
        · rw [if_neg h3, if_neg (fun e => h3 e.1)]
  · rw [if_neg h, if_neg (by decide), tipstaffref09_Check.j0, if_pos rfl]
    unfold chk
    rw [if_neg (by omega)]

/-! ### The specification's tick -/
theorem rway_val (p g s m : Int) : tipstaffref09_way.f p g s m = some (wayV p g) := by
  unfold tipstaffref09_way.f wayV; split <;> rfl
def outV (p g d m v : Int) : Int × Int × Int × Int := (wrap64 (p + wrap64 (v * wayV p g)), g, if d = v then 0 else v, m)
theorem tl_at (k : Nat) (p g s m d v : Int) (h1 : 1 ≤ v) (h2 : v ≤ 21) (ht : tT v ≤ d) : tipstaffref09_tick.l0 (k + 1) d v p g s m = some (outV p g d m v) := by
  rw [tipstaffref09_tick.l0, if_pos (by omega), rtri_val, Option.bind_some, tT_val v (by omega) h2, if_neg (by omega), rway_val, Option.bind_some]
  unfold outV
  split <;> rfl
theorem tl_down (k : Nat) (p g s m d v : Int) (h1 : 1 ≤ v) (h2 : v ≤ 21) (ht : ¬ tT v ≤ d) : tipstaffref09_tick.l0 (k + 1) d v p g s m = tipstaffref09_tick.l0 k d (v - 1) p g s m := by
  rw [tipstaffref09_tick.l0, if_pos (by omega), rtri_val, Option.bind_some, tT_val v (by omega) h2, if_pos (by omega), wrap_id _ (by omega) (by omega)]

theorem out_tk {p g s m p' s' v : Int} (h : Ok p g s m) (t : Tk p g s m p' s' v) : outV p g (dist p g) m v = (p', g, s', m) := by
  have hp0 := h.p0
  have hp1 := h.p1
  have hm1 := h.m1
  have v1 := t.v1
  have vm := t.vm
  have o0 := t.ok.p0
  have o1 := t.ok.p1
  have e : wrap64 (p + wrap64 (v * wayV p g)) = p' := by
    rw [t.hp, Int.mul_comm v]
    have hp := t.hp
    rcases way_cases p g with ⟨_, e⟩ | ⟨_, e⟩ <;> rw [e] at hp ⊢
    · rw [wrap_id (-1 * v) (by omega) (by omega), wrap_id _ (by omega) (by omega)]
    · rw [wrap_id (1 * v) (by omega) (by omega), wrap_id _ (by omega) (by omega)]
  unfold outV
  rw [e, t.hs]
  have hd := t.hd
  have hz : dist p' g = 0 ↔ p' = g := dist_zero
  by_cases c : p' = g
  · rw [if_pos c, if_pos (by have := hz.2 c; omega)]
  · rw [if_neg c, if_neg (fun e => c (hz.1 (by omega)))]

theorem rtick_val {p g s m : Int} (h : Ok p g s m) (k : Nat) (hk : 5 ≤ k) : tipstaffref09_tick.f k p g s m = some ((tickV p g s m).1, g, (tickV p g s m).2, m) := by
  obtain ⟨k, rfl⟩ : ∃ j, k = j + 1 + 1 + 1 := ⟨k - 3, by omega⟩
  unfold tipstaffref09_tick.f
  rw [rrest_val _ _ h.p0 h.p1 h.g0 h.g1, Option.bind_some]
  by_cases hne : p = g
  · rw [if_pos (dist_zero.2 hne), tick_still h hne]
  · rw [if_neg (fun e => hne (dist_zero.1 e))]
    obtain ⟨p', s', v, t⟩ := tick_main h hne
    have hs0 := h.s0
    have hs1 := h.s1
    have hm1 := h.m1
    have hm0 := h.m0
    rw [t.ev, ← out_tk h t]
    have hv := t.nx
    have v1 := t.v1
    have tri := t.tri
    unfold nx at hv
    have e0 : wrap64 (s + 1) = s + 1 := wrap_id _ (by omega) (by omega)
    rw [e0]
    by_cases c0 : s + 1 ≤ m
    · rw [show mn (s + 1) m = s + 1 by unfold mn; split <;> omega]
      by_cases c1 : tT (s + 1) ≤ dist p g
      · rw [if_pos ⟨c0, c1⟩] at hv
        rw [tl_at _ _ _ _ _ _ _ (by omega) (by omega) c1, hv]
      · rw [if_neg (fun e => c1 e.2)] at hv
        rw [tl_down _ _ _ _ _ _ _ (by omega) (by omega) c1, show s + 1 - 1 = s by omega]
        by_cases c2 : tT s ≤ dist p g
        · rw [if_pos c2] at hv
          rw [tl_at _ _ _ _ _ _ _ (by omega) (by omega) c2, hv]
        · rw [if_neg c2] at hv
          rw [tl_down _ _ _ _ _ _ _ (by omega) (by omega) c2, tl_at _ _ _ _ _ _ _ (by omega) (by omega) (by rw [← hv]; exact tri), hv]
    · rw [show mn (s + 1) m = s by unfold mn; split <;> omega]
      rw [if_neg (fun e => c0 e.1)] at hv
      by_cases c2 : tT s ≤ dist p g
      · rw [if_pos c2] at hv
        rw [tl_at _ _ _ _ _ _ _ (by omega) (by omega) c2, hv]
      · rw [if_neg c2] at hv
        rw [tl_down _ _ _ _ _ _ _ (by omega) (by omega) c2, tl_at _ _ _ _ _ _ _ (by omega) (by omega) (by rw [← hv]; exact tri), hv]

theorem rrun_loop (n : Nat) (hn : n ≤ 100000) : ∀ (d i k : Nat) {p g s m : Int}, i + d = n → d + 6 ≤ k → Ok p g s m → tipstaffref09_Run.l0 k (n : Int) (i : Int) p g s m = some ((S.runN d p g s m).1, g, (S.runN d p g s m).2, m, 0)
  | 0, i, k, p, g, s, m, hi, hk, h => by
    obtain ⟨k, rfl⟩ : ∃ j, k = j + 1 := ⟨k - 1, by omega⟩
    rw [tipstaffref09_Run.l0, if_neg (by omega)]; rfl
  | d + 1, i, k, p, g, s, m, hi, hk, h => by
    obtain ⟨k, rfl⟩ : ∃ j, k = j + 1 := ⟨k - 1, by omega⟩
    rw [tipstaffref09_Run.l0, if_pos (by omega), rrest_val _ _ h.p0 h.p1 h.g0 h.g1, Option.bind_some, S.runN, h.rest]
    by_cases c : dist p g > 0
    · rw [if_pos c, if_pos c, rtick_val h k (by omega), Option.bind_some, wrap_succ i (by omega)]
      exact rrun_loop n hn d (i + 1) k (by omega) (by omega) (tick_ok h)
    · rw [if_neg c, if_neg c]

theorem rleft_loop {g m : Int} : ∀ p s, Ok p g s m → ∀ (k : Nat) (c : Int), (posX p g s m).length + 6 ≤ k → 0 ≤ c → c + (posX p g s m).length ≤ 200000 → tipstaffref09_Left.l0 k c p g s m = some (c + (posX p g s m).length, 0) := by
  refine along ?_ ?_
  · intro p s h he k c hk hc hb
    rw [posX_nil h he] at hk ⊢
    obtain ⟨k, rfl⟩ : ∃ j, k = j + 1 := ⟨k - 1, by omega⟩
    rw [tipstaffref09_Left.l0, rrest_val _ _ h.p0 h.p1 h.g0 h.g1, Option.bind_some, if_neg (by rw [dist_zero.2 he]; omega)]
    simp
  · intro p s p' s' v h hne t ih k c hk hc hb
    rw [posX_cons h hne t, List.length_cons] at hk hb ⊢
    obtain ⟨k, rfl⟩ : ∃ j, k = j + 1 := ⟨k - 1, by omega⟩
    have h0 := dist_nonneg p g
    have h1 : ¬ dist p g = 0 := fun e => hne (dist_zero.1 e)
    rw [tipstaffref09_Left.l0, rrest_val _ _ h.p0 h.p1 h.g0 h.g1, Option.bind_some, if_pos (by omega), rtick_val h k (by omega), Option.bind_some, t.ev, wrap_id _ (by omega) (by omega)]
    simp only
    rw [ih k (c + 1) (by omega) (by omega) (by omega)]
    congr 2; omega

theorem rpath_loop {g m : Int} (n : Nat) (hn : n ≤ 1000) : ∀ p s, Ok p g s m → ∀ (k i : Nat) (acc : List Int), (posX p g s m).length + 6 ≤ k → i ≤ n → acc.length = i → tipstaffref09_Path.l0 k (n : Int) acc (i : Int) p g s m = some (acc ++ (posX p g s m).take (n - i), 0) := by
  refine along ?_ ?_
  · intro p s h he k i acc hk hi ha
    rw [posX_nil h he]
    obtain ⟨k, rfl⟩ : ∃ j, k = j + 1 := ⟨k - 1, by omega⟩
    rw [tipstaffref09_Path.l0, rrest_val _ _ h.p0 h.p1 h.g0 h.g1, Option.bind_some, if_neg (show ¬ dist p g > 0 by rw [dist_zero.2 he]; omega)]
    split <;> simp
  · intro p s p' s' v h hne t ih k i acc hk hi ha
    rw [posX_cons h hne t] at hk ⊢
    rw [List.length_cons] at hk
    obtain ⟨k, rfl⟩ : ∃ j, k = j + 1 := ⟨k - 1, by omega⟩
    have h0 := dist_nonneg p g
    have h1 : ¬ dist p g = 0 := fun e => hne (dist_zero.1 e)
    rw [tipstaffref09_Path.l0]
    by_cases c : (i : Int) < (n : Int)
    · rw [if_pos c, rrest_val _ _ h.p0 h.p1 h.g0 h.g1, Option.bind_some, if_pos (show dist p g > 0 by omega), rtick_val h k (by omega), Option.bind_some, t.ev, if_pos (show acc.length < 17592186044416 by omega), wrap_succ i (by omega)]
      simp only
      rw [ih k (i + 1) (acc ++ [p']) (by omega) (by omega) (by simp; omega), List.append_assoc, show n - i = (n - (i + 1)) + 1 by omega, List.take_succ_cons]
      rfl
    · rw [if_neg c, show n - i = 0 by omega]; simp


end Go.Proofs.Ytocbjclflabmcaa.Pure
