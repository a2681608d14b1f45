/- The beginning of a list trips as the list, and jumps and stops are those of its pairs. -/
import Derived.Test.YtlpdoieokgeikaaS19
import Derived.Test.YtlpdoieokgeikaaS15
import Derived.Test.YtlpdoieokgeikaaLim4
import Derived.Test.YtlpdoieokgeikaaLim3
namespace Go.Proofs.Ytlpdoieokgeikaa.Pure
open Go.RowKit Go.Proofs.Ytlpdoieokgeikaa.S Go.Proofs.YtlpdoieokgeikaaW.PrintWords Go.Proofs.YtlpdoieokgeikaaW.PrintLast
set_option linter.unusedVariables false
set_option linter.unusedSimpArgs false

theorem known_ev : Ev (fun k => tipstafflaw14_LimitKnown.f k) true := Ev.mono_at 100 (by decide +kernel) (fun k => tipstafflaw14_LimitKnown.mono k)
theorem watch_ge (h s : Int) : ∀ (l : List S38) (i : Int), 0 < (watchG h s l i).1 → i ≤ (watchG h s l i).2
  | [], i, hp => by rw [watchG] at hp; exact absurd hp (by decide)
  | m :: ms, i, hp => by
    rw [watchG] at hp ⊢
    by_cases c : 0 < (causV m h s).length
    · rw [if_pos c]; exact Int.le_refl i
    · rw [if_neg c] at hp ⊢
      have := watch_ge h s ms (i + 1) hp; omega
theorem watch_neg (h s : Int) : ∀ (l : List S38) (i : Int), 0 ≤ (watchG h s l i).1
  | [], i => by rw [watchG]; decide
  | m :: ms, i => by
    rw [watchG]
    by_cases c : 0 < (causV m h s).length
    · rw [if_pos c]
      have := causV_mem (m := m) (h := h) (s := s) (rd (causV m h s) ((0 : Nat) : Int)) (by rw [rd_nat _ 0 c]; exact List.getElem_mem _)
      exact Int.le_trans (by decide) this.1
    · rw [if_neg c]; exact watch_neg h s ms (i + 1)
theorem watch_take (h s : Int) : ∀ (l : List S38) (c : Nat) (i : Int), watchG h s (l.take c) i = if 0 < (watchG h s l i).1 ∧ (watchG h s l i).2 < i + c then watchG h s l i else (0, 0)
  | [], c, i => by
    rw [List.take_nil, watchG, if_neg (fun h => absurd h.1 (by decide))]
  | m :: ms, 0, i => by
    rw [List.take_zero, if_neg]
    · rfl
    · rintro ⟨h1, h2⟩
      have := watch_ge h s (m :: ms) i h1; omega
  | m :: ms, c + 1, i => by
    rw [List.take_succ_cons, watchG, watchG]
    by_cases q : 0 < (causV m h s).length
    · rw [if_pos q, if_pos q, if_pos]
      have := causV_mem (m := m) (h := h) (s := s) (rd (causV m h s) ((0 : Nat) : Int)) (by rw [rd_nat _ 0 q]; exact List.getElem_mem _)
      exact ⟨Int.lt_of_lt_of_le Int.zero_lt_one this.1, show i < i + ((c + 1 : Nat) : Int) by omega⟩
    · rw [if_neg q, if_neg q, watch_take h s ms c (i + 1)]
      rw [show i + 1 + (c : Int) = i + ((c + 1 : Nat) : Int) by omega]

theorem seg_val (l : List S38) (j : Nat) (h : j + 1 < l.length) : (l.take (j + 2)).drop j = [rd_T38 l (j : Int), rd_T38 l ((j + 1 : Nat) : Int)] := by
  rw [List.drop_take, rd38_drop l j (by omega), rd38_drop l (j + 1) h, show j + 2 - j = 2 by omega]; rfl
theorem pair_two (q : S38 → S38 → Bool) (a b : S38) (ha : chkV a = 0) (hb : chkV b = 0) : pairV q [a, b] = (if q a b = true then [1] else [], 0) := by
  unfold pairV
  have e : seenV [a, b] = 0 := by
    unfold seenV
    rw [if_neg (show ¬ ((([a, b] : List S38).length : Int) > 10000) from (by decide : ¬ ((2 : Int) > 10000))), seenG_of [a, b] (fun m hm => by
      rcases List.mem_cons.1 hm with rfl | hm
      · exact ha
      · rw [List.mem_singleton.1 hm]; exact hb)]
  rw [if_pos e]
  show (pairG q [a, b] 1 1 [], (0 : Int)) = _
  rw [pairG, pairG]
  rfl
theorem parts_loop (l : List S38) (hl : l.length ≤ 30) (hm : ∀ m ∈ l, chkV m = 0) (js ss : List Int) : ∀ (d i : Nat) (xs ys : List Int), l.length - i = d → 1 ≤ i → i ≤ 31 → xs.length ≤ i → ys.length ≤ i → pairG jumpB l d i xs = js → pairG stopB l d i ys = ss →
    Ev (fun k => tipstafflaw14_LimitParts.l0 k true l js ss xs ys (i : Int)) true := by
  intro d
  induction d with
  | zero =>
    intro i xs ys hd h1 h31 hx hy ex ey
    rw [pairG] at ex ey
    subst ex ey
    refine Ev.step (g' := fun k => (tipstaffkit_SameInts.f k xs xs).bind fun t575 => (if t575 = true then ((tipstaffkit_SameInts.f k ys ys).bind fun t576 => (some t576)) else (none))) ?_ (fun k => by rw [tipstafflaw14_LimitParts.l0, if_neg (by omega), if_pos rfl])
    refine (ints_self xs (by omega)).bind (f := fun t575 k => (if t575 = true then ((tipstaffkit_SameInts.f k ys ys).bind fun t576 => (some t576)) else (none))) ?_
    refine Ev.congr (g' := fun k => (tipstaffkit_SameInts.f k ys ys).bind fun t576 => (some t576)) ?_ (fun k => by rw [if_pos rfl])
    exact (ints_self ys (by omega)).bind (f := fun t576 _ => some t576) (Ev.const _)
  | succ d ih =>
    intro i xs ys hd h1 h31 hx hy ex ey
    obtain ⟨j, rfl⟩ : ∃ j, i = j + 1 := ⟨i - 1, by omega⟩
    have e1 : (((j + 1 : Nat) : Int) - 1) = (j : Int) := by omega
    have w1 : wrap64 (((j + 1 : Nat) : Int) - 1) = (j : Int) := by rw [e1]; exact wrap_id _ (by omega) (by omega)
    have w2 : wrap64 (((j + 1 : Nat) : Int) + 1) = ((j + 2 : Nat) : Int) := wrap_succ (j + 1) (by omega)
    rw [pairG, e1] at ex ey
    have hseg := seg_val l j (by omega)
    obtain ⟨a, ha⟩ : ∃ a, rd_T38 l (j : Int) = a := ⟨_, rfl⟩
    obtain ⟨b, hb⟩ : ∃ b, rd_T38 l ((j + 1 : Nat) : Int) = b := ⟨_, rfl⟩
    have ca : chkV a = 0 := by rw [← ha]; exact hm _ (rd38_mem l j (by omega))
    have cb : chkV b = 0 := by rw [← hb]; exact hm _ (rd38_mem l (j + 1) (by omega))
    rw [ha, hb] at ex ey hseg
    have hJ := jump_val [a, b]
    have hS := stop_val [a, b]
    rw [pair_two jumpB a b ca cb] at hJ
    rw [pair_two stopB a b ca cb] at hS
    obtain ⟨jx, hjx⟩ : ∃ x : List Int, (if jumpB a b = true then [1] else []) = x := ⟨_, rfl⟩
    obtain ⟨sx, hsx⟩ : ∃ x : List Int, (if stopB a b = true then [1] else []) = x := ⟨_, rfl⟩
    rw [hjx] at hJ
    rw [hsx] at hS
    have ljx : jx.length = if jumpB a b = true then 1 else 0 := by rw [← hjx]; split <;> rfl
    have lsx : sx.length = if stopB a b = true then 1 else 0 := by rw [← hsx]; split <;> rfl
    have l1 : jx.length ≤ 1 := by rw [ljx]; split <;> omega
    have l2 : sx.length ≤ 1 := by rw [lsx]; split <;> omega
    refine Ev.step (g' := fun k => (limit_Jumps.f k [a, b]).bind fun bt581 => ((limit_Stops.f k [a, b]).bind fun bt589 => (if bt581.2 = 0 then (if bt589.2 = 0 then (if (bt581.1.length : Int) > 1 then (tipstafflaw14_LimitParts.j3 k true l js ss xs ys ((j + 1 : Nat) : Int) bt581.1 bt589.1 true) else (tipstafflaw14_LimitParts.j3 k true l js ss xs ys ((j + 1 : Nat) : Int) bt581.1 bt589.1 (decide ((bt589.1.length : Int) > 1)))) else (tipstafflaw14_LimitParts.j3 k true l js ss xs ys ((j + 1 : Nat) : Int) bt581.1 bt589.1 true)) else (tipstafflaw14_LimitParts.j3 k true l js ss xs ys ((j + 1 : Nat) : Int) bt581.1 bt589.1 true)))) ?_ (fun k => by
      rw [tipstafflaw14_LimitParts.l0, if_pos (by omega), w1, w2, if_pos (by omega), if_pos (by omega), if_pos (by omega), Int.toNat_natCast, Int.toNat_natCast, hseg])
    refine hJ.bind (f := fun bt581 k => ((limit_Stops.f k [a, b]).bind fun bt589 => (if bt581.2 = 0 then (if bt589.2 = 0 then (if (bt581.1.length : Int) > 1 then (tipstafflaw14_LimitParts.j3 k true l js ss xs ys ((j + 1 : Nat) : Int) bt581.1 bt589.1 true) else (tipstafflaw14_LimitParts.j3 k true l js ss xs ys ((j + 1 : Nat) : Int) bt581.1 bt589.1 (decide ((bt589.1.length : Int) > 1)))) else (tipstafflaw14_LimitParts.j3 k true l js ss xs ys ((j + 1 : Nat) : Int) bt581.1 bt589.1 true)) else (tipstafflaw14_LimitParts.j3 k true l js ss xs ys ((j + 1 : Nat) : Int) bt581.1 bt589.1 true)))) ?_
    refine hS.bind (f := fun bt589 k => (if (0 : Int) = 0 then (if bt589.2 = 0 then (if (jx.length : Int) > 1 then (tipstafflaw14_LimitParts.j3 k true l js ss xs ys ((j + 1 : Nat) : Int) jx bt589.1 true) else (tipstafflaw14_LimitParts.j3 k true l js ss xs ys ((j + 1 : Nat) : Int) jx bt589.1 (decide ((bt589.1.length : Int) > 1)))) else (tipstafflaw14_LimitParts.j3 k true l js ss xs ys ((j + 1 : Nat) : Int) jx bt589.1 true)) else (tipstafflaw14_LimitParts.j3 k true l js ss xs ys ((j + 1 : Nat) : Int) jx bt589.1 true))) ?_
    refine Ev.congr (g' := fun k => tipstafflaw14_LimitParts.j3 k true l js ss xs ys ((j + 1 : Nat) : Int) jx sx false) ?_ (fun k => by
      rw [if_pos rfl, if_pos rfl, if_neg (show ¬ ((jx.length : Int) > 1) by omega), decide_eq_false (show ¬ ((sx.length : Int) > 1) by omega)])
    have hrec := ih (j + 2) (if jumpB a b = true then xs ++ [((j + 1 : Nat) : Int)] else xs) (if stopB a b = true then ys ++ [((j + 1 : Nat) : Int)] else ys) (by omega) (by omega) (by omega) (by split <;> (try simp) <;> omega) (by split <;> (try simp) <;> omega) ex ey
    by_cases bj : jumpB a b = true
    · rw [if_pos bj] at hrec ljx
      by_cases bs : stopB a b = true
      · rw [if_pos bs] at hrec lsx
        refine hrec.step (fun k => ?_)
        rw [tipstafflaw14_LimitParts.j3, if_neg (by decide), if_pos (show (jx.length : Int) = 1 by omega), if_pos (by omega), Option.bind_some, if_pos (show (sx.length : Int) = 1 by omega), if_pos (by omega), w2]
      · rw [if_neg bs] at hrec lsx
        refine hrec.step (fun k => ?_)
        rw [tipstafflaw14_LimitParts.j3, if_neg (by decide), if_pos (show (jx.length : Int) = 1 by omega), if_pos (by omega), Option.bind_some, if_neg (show ¬ (sx.length : Int) = 1 by omega), w2]
    · rw [if_neg bj] at hrec ljx
      by_cases bs : stopB a b = true
      · rw [if_pos bs] at hrec lsx
        refine hrec.step (fun k => ?_)
        rw [tipstafflaw14_LimitParts.j3, if_neg (by decide), if_neg (show ¬ (jx.length : Int) = 1 by omega), if_pos (show (sx.length : Int) = 1 by omega), if_pos (by omega), w2]
      · rw [if_neg bs] at hrec lsx
        refine hrec.step (fun k => ?_)
        rw [tipstafflaw14_LimitParts.j3, if_neg (by decide), if_neg (show ¬ (jx.length : Int) = 1 by omega), if_neg (show ¬ (sx.length : Int) = 1 by omega), w2]

theorem LimitParts : tipstafflaw14_LimitParts.Pure := by
  intro x n _ _ hw i1
  refine Ev.get (g := fun k => tipstafflaw14_LimitParts.f k x n) ?_
  obtain ⟨l, hl, h1, h2⟩ := made_val x hw
  obtain ⟨c, hc⟩ : ∃ c : Nat, n % ((l.length : Int) + 1) = c := ⟨(n % ((l.length : Int) + 1)).toNat, by have := Int.emod_nonneg n (show (l.length : Int) + 1 ≠ 0 by omega); omega⟩
  have hcl : c ≤ l.length := by have := Int.emod_lt_of_pos n (show 0 < (l.length : Int) + 1 by omega); omega
  have hmod := mod_val n ((l.length : Int) + 1) (i64_of i1) (by omega) (by omega)
  rw [hc] at hmod
  have hwr : wrap64 ((l.length : Int) + 1) = (l.length : Int) + 1 := wrap_id _ (by omega) (by omega)
  have h1' : (l.take c).length ≤ 30 := by rw [List.length_take]; omega
  have h2' : ∀ m ∈ l.take c, chkV m = 0 := fun m hm => h2 m (List.mem_of_mem_take hm)
  have ew : watchV l 20 3 = ((watchG 20 3 l 0).1, (watchG 20 3 l 0).2, 0) := by unfold watchV; rw [if_pos (by rw [ask_made h1 h2]; decide)]
  have ew' : watchV (l.take c) 20 3 = ((watchG 20 3 (l.take c) 0).1, (watchG 20 3 (l.take c) 0).2, 0) := by unfold watchV; rw [if_pos (by rw [ask_made h1' h2']; decide)]
  have hW := watch_val l 20 3
  have hW' := watch_val (l.take c) 20 3
  have hseen : seenV l = 0 := by unfold seenV; rw [if_neg (by omega), seenG_of l h2]
  have hJ := jump_val l
  have hS := stop_val l
  rw [show pairV jumpB l = (pairG jumpB l (l.length - 1) 1 [], 0) by unfold pairV; rw [if_pos hseen]] at hJ
  rw [show pairV stopB l = (pairG stopB l (l.length - 1) 1 [], 0) by unfold pairV; rw [if_pos hseen]] at hS
  rw [ew] at hW
  rw [ew'] at hW'
  have ht := watch_take 20 3 l c 0
  have hg := watch_neg 20 3 l 0
  obtain ⟨t0, et0⟩ : ∃ t, (watchG 20 3 l 0).1 = t := ⟨_, rfl⟩
  obtain ⟨t1, et1⟩ : ∃ t, (watchG 20 3 l 0).2 = t := ⟨_, rfl⟩
  obtain ⟨u0, eu0⟩ : ∃ t, (watchG 20 3 (l.take c) 0).1 = t := ⟨_, rfl⟩
  obtain ⟨u1, eu1⟩ : ∃ t, (watchG 20 3 (l.take c) 0).2 = t := ⟨_, rfl⟩
  rw [et0, et1] at hW ht
  rw [et0] at hg
  rw [eu0, eu1] at hW'
  have rest : Ev (fun k => tipstafflaw14_LimitParts.j0 k true l false) true := by
    obtain ⟨js, ejs⟩ : ∃ js, pairG jumpB l (l.length - 1) 1 [] = js := ⟨_, rfl⟩
    obtain ⟨ss, ess⟩ : ∃ ss, pairG stopB l (l.length - 1) 1 [] = ss := ⟨_, rfl⟩
    rw [ejs] at hJ
    rw [ess] at hS
    refine Ev.step (g' := fun k => (limit_Jumps.f k l).bind fun bt567 => ((limit_Stops.f k l).bind fun bt571 => (if bt567.2 = 0 then (tipstafflaw14_LimitParts.j1 k true l bt567.1 bt571.1 (bt571.2 != 0)) else (tipstafflaw14_LimitParts.j1 k true l bt567.1 bt571.1 true)))) ?_ (fun k => by rw [tipstafflaw14_LimitParts.j0, if_neg (by decide)])
    refine hJ.bind (f := fun bt567 k => ((limit_Stops.f k l).bind fun bt571 => (if bt567.2 = 0 then (tipstafflaw14_LimitParts.j1 k true l bt567.1 bt571.1 (bt571.2 != 0)) else (tipstafflaw14_LimitParts.j1 k true l bt567.1 bt571.1 true)))) ?_
    refine hS.bind (f := fun bt571 k => (if (0 : Int) = 0 then (tipstafflaw14_LimitParts.j1 k true l js bt571.1 (bt571.2 != 0)) else (tipstafflaw14_LimitParts.j1 k true l js bt571.1 true))) ?_
    refine Ev.congr (g' := fun k => tipstafflaw14_LimitParts.j1 k true l js ss false) ?_ (fun k => by rw [if_pos rfl]; rfl)
    refine (parts_loop l h1 h2 js ss (l.length - 1) 1 [] [] rfl (by omega) (by omega) (by simp) (by simp) ejs ess).step (fun k => ?_)
    rw [tipstafflaw14_LimitParts.j1, if_neg (by decide)]; rfl
  refine Ev.congr (g' := fun k => (tipstafflaw14_LimitKnown.f k).bind fun t550 => ((tipstafflaw14_made.f k x).bind fun t551 => ((tipstaffkit_Mod.f n (wrap64 ((t551.length : Int) + 1))).bind fun t554 => ((limit_Watch.f k t551 20 3).bind fun bt555 => (if 0 ≤ t554 then (if t554 ≤ (t551.length : Int) then ((limit_Watch.f k (t551.take (t554 : Int).toNat) 20 3).bind fun bt563 => (if bt555.2.2 = 0 then (if bt563.2.2 = 0 then (if bt555.1 > 0 then (if bt555.2.1 < t554 then (if (!(bt563.1 == bt555.1) || (!(bt563.2.1 == bt555.2.1))) = true then (tipstafflaw14_LimitParts.j0 k t550 t551 true) else (if bt555.1 = 0 then (tipstafflaw14_LimitParts.j0 k t550 t551 (!(bt563.1 == 0) || (!(bt563.2.1 == 0)))) else (if bt555.2.1 ≥ t554 then (tipstafflaw14_LimitParts.j0 k t550 t551 (!(bt563.1 == 0) || (!(bt563.2.1 == 0)))) else (tipstafflaw14_LimitParts.j0 k t550 t551 false)))) else (if bt555.1 = 0 then (tipstafflaw14_LimitParts.j0 k t550 t551 (!(bt563.1 == 0) || (!(bt563.2.1 == 0)))) else (if bt555.2.1 ≥ t554 then (tipstafflaw14_LimitParts.j0 k t550 t551 (!(bt563.1 == 0) || (!(bt563.2.1 == 0)))) else (tipstafflaw14_LimitParts.j0 k t550 t551 false)))) else (if bt555.1 = 0 then (tipstafflaw14_LimitParts.j0 k t550 t551 (!(bt563.1 == 0) || (!(bt563.2.1 == 0)))) else (if bt555.2.1 ≥ t554 then (tipstafflaw14_LimitParts.j0 k t550 t551 (!(bt563.1 == 0) || (!(bt563.2.1 == 0)))) else (tipstafflaw14_LimitParts.j0 k t550 t551 false)))) else (tipstafflaw14_LimitParts.j0 k t550 t551 true)) else (tipstafflaw14_LimitParts.j0 k t550 t551 true))) else (none)) else (none)))))) ?_ (fun k => by rw [tipstafflaw14_LimitParts.f])
  obtain ⟨K1, g1⟩ := known_ev
  obtain ⟨K2, g2⟩ := hl
  obtain ⟨K3, g3⟩ := hW
  obtain ⟨K4, g4⟩ := hW'
  obtain ⟨K5, g5⟩ := rest
  refine ⟨K1 + K2 + K3 + K4 + K5, fun k hk => ?_⟩
  show (tipstafflaw14_LimitKnown.f k).bind _ = _
  have g1 := g1 k (by omega)
  have g2 := g2 k (by omega)
  have g3 := g3 k (by omega)
  have g4 := g4 k (by omega)
  have g5 := g5 k (by omega)
  dsimp only at g1 g2 g3 g4 g5
  rw [g1, Option.bind_some, g2, Option.bind_some, hwr, hmod, Option.bind_some, g3, Option.bind_some, if_pos (by omega), if_pos (by omega), Int.toNat_natCast, g4, Option.bind_some]
  dsimp only
  rw [if_pos rfl, if_pos rfl]
  have none0 : ¬ (0 < t0 ∧ t1 < 0 + (c : Int)) → (!(u0 == 0) || (!(u1 == 0))) = false := fun hn => by
    rw [if_neg hn] at ht
    rw [← eu0, ← eu1, ht]; rfl
  by_cases c0 : t0 > 0
  · rw [if_pos c0]
    by_cases c1 : t1 < (c : Int)
    · rw [if_pos c1]
      rw [if_pos ⟨c0, by omega⟩] at ht
      have e0 : u0 = t0 := by rw [← eu0, ht]; exact et0
      have e1 : u1 = t1 := by rw [← eu1, ht]; exact et1
      rw [e0, e1, if_neg (by simp), if_neg (show ¬ t0 = 0 by omega), if_neg (show ¬ t1 ≥ (c : Int) by omega)]
      exact g5
    · rw [if_neg c1, none0 (by omega)]
      by_cases c2 : t0 = 0
      · rw [if_pos c2]; exact g5
      · rw [if_neg c2]
        by_cases c3 : t1 ≥ (c : Int)
        · rw [if_pos c3]; exact g5
        · rw [if_neg c3]; exact g5
  · rw [if_neg c0, none0 (by omega)]
    by_cases c2 : t0 = 0
    · rw [if_pos c2]; exact g5
    · rw [if_neg c2]
      by_cases c3 : t1 ≥ (c : Int)
      · rw [if_pos c3]; exact g5
      · rw [if_neg c3]; exact g5

end Go.Proofs.Ytlpdoieokgeikaa.Pure
