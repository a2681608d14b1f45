/- From rest the ticks left are those of profile, running in two parts is running at once, and a path says where Run is: for motions made of any numbers. -/
import Derived.Test.YtocbjclflabmcaaS19
import Derived.Test.YtocbjclflabmcaaMo4
import Derived.Test.YtocbjclflabmcaaMoM
import Derived.Test.YtocbjclflabmcaaMoK
namespace Go.Proofs.Ytocbjclflabmcaa.Pure
open Go.RowKit Go.Proofs.Ytocbjclflabmcaa.S Go.Proofs.YtocbjclflabmcaaW.PrintWords Go.Proofs.YtocbjclflabmcaaW.PrintLast
set_option linter.unusedVariables false
set_option linter.unusedSimpArgs false

theorem rd_take (l : List Int) (n i : Nat) (h : i < n) (hl : i < l.length) : rd (l.take n) (i : Int) = rd l (i : Int) := by
  rw [rd_nat _ _ (by simp; omega), rd_nat _ _ hl]
  simp

theorem MotionTravels : tipstafflaw09_MotionTravels.Pure := by
  intro a0 a1 a2 a3 a4 w0 w1 w2 w3 w4
  obtain ⟨K, hK⟩ := known_ev
  obtain ⟨ho, hm⟩ := made_val a0 a1 a2 0 (i64_of w0) (i64_of w1) (i64_of w2) (by unfold I64; omega)
  rw [show ((0 : Int) % 60).toNat = 0 from rfl, S.runN] at hm
  simp only at hm
  obtain ⟨L, hL⟩ : ∃ L : Nat, L = K + 63010 := ⟨_, rfl⟩
  obtain ⟨p, hp⟩ : ∃ p, a0 % 300 = p := ⟨_, rfl⟩
  obtain ⟨g, hg⟩ : ∃ g, a1 % 300 = g := ⟨_, rfl⟩
  obtain ⟨m, hmm⟩ : ∃ m, 1 + a2 % 20 = m := ⟨_, rfl⟩
  rw [hp, hg, hmm] at hm ho
  obtain ⟨x, hx⟩ : ∃ x : Nat, a3 % 40 = (x : Int) := ⟨(a3 % 40).toNat, by omega⟩
  obtain ⟨y, hy⟩ : ∃ y : Nat, a4 % 40 = (y : Int) := ⟨(a4 % 40).toNat, by omega⟩
  have hx40 : x < 40 := by omega
  have hy40 : y < 40 := by omega
  refine ⟨L, ?_⟩
  unfold tipstafflaw09_MotionTravels.f
  rw [hK _ (by omega), Option.bind_some, hm, Option.bind_some]
  simp only
  rw [mod_val a3 40 (i64_of w3) (by decide) (by decide), Option.bind_some, mod_val a4 40 (i64_of w4) (by decide) (by decide), Option.bind_some, hx, hy, left_val ho L (by omega), Option.bind_some,
    far_val p g ho.p0 ho.p1 ho.g0 ho.g1, Option.bind_some, travel_val ho L (by omega), Option.bind_some, run_val ho _ (by omega) (by omega), Option.bind_some]
  simp only [Int.toNat_natCast]
  have hxy : wrap64 ((x : Int) + (y : Int)) = ((x + y : Nat) : Int) := by rw [wrap_id _ (by omega) (by omega)]; omega
  rw [hxy]
  clear hxy
  have oka := runN_ok x ho
  have hA := runN_add x y ho
  obtain ⟨ap, hap⟩ : ∃ v, (S.runN x p g 0 m).1 = v := ⟨_, rfl⟩
  obtain ⟨sa, has⟩ : ∃ v, (S.runN x p g 0 m).2 = v := ⟨_, rfl⟩
  rw [hap, has] at oka hA ⊢
  have e1 := run_val oka (y : Int) (by omega) (by omega)
  have e2 := run_val ho ((x + y : Nat) : Int) (by omega) (by omega)
  have e3 := path_val ho (x + y) (by omega) L (by omega)
  rw [Int.toNat_natCast] at e1 e2
  rw [hA] at e2
  rw [e1, Option.bind_some, e2, Option.bind_some, e3, Option.bind_some]
  simp only [if_true]
  have hlen := (posX_spec ho).2
  have hpr := pos_run (m := m) p 0 ho
  have hre := run_end (m := m) p 0 ho
  obtain ⟨xs, hxs⟩ : ∃ xs, posX p g 0 m = xs := ⟨_, rfl⟩
  rw [hxs] at hlen hpr hre ⊢
  have hadd : ∀ n, n = x + y → (S.runN n p g 0 m).1 = (S.runN y ap g sa m).1 := fun n hn => by rw [hn, hA]
  rw [if_neg (by simp)]
  have hl : (xs.take (x + y)).length = min (x + y) xs.length := List.length_take
  have hl1 : (((xs.take (x + y)).length : Nat) : Int) = mn ((x + y : Nat) : Int) (xs.length : Int) := by rw [hl]; unfold mn; split <;> omega
  rw [if_pos hl1]
  have tailA : ((if (x : Int) = 0 then some true else if (x : Int) > (((xs.take (x + y)).length : Nat) : Int) then some true else if 0 ≤ wrap64 ((x : Int) - 1) then if wrap64 ((x : Int) - 1) < (((xs.take (x + y)).length : Nat) : Int) then some (rd (xs.take (x + y)) (wrap64 ((x : Int) - 1)) == ap) else none else none) : Option Bool) = some true := by
    by_cases c1 : (x : Int) = 0
    · rw [if_pos c1]
    · rw [if_neg c1]
      by_cases c2 : (x : Int) > (((xs.take (x + y)).length : Nat) : Int)
      · rw [if_pos c2]
      · rw [if_neg c2, wrap_id _ (by omega) (by omega), if_pos (by omega), if_pos (by omega)]
        obtain ⟨j, rfl⟩ : ∃ j, x = j + 1 := ⟨x - 1, by omega⟩
        rw [show ((j + 1 : Nat) : Int) - 1 = (j : Int) by omega, rd_take xs _ j (by omega) (by omega), hpr j (by omega), hap]
        simp
  by_cases c0 : (((xs.take (x + y)).length : Nat) : Int) = 0
  · rw [if_pos c0]; exact tailA
  · rw [if_neg c0, wrap_id _ (by omega) (by omega), if_pos (by omega), if_pos (by omega)]
    have hlast : rd (xs.take (x + y)) ((((xs.take (x + y)).length : Nat) : Int) - 1) = (S.runN y ap g sa m).1 := by
      rw [← hadd (x + y) rfl]
      by_cases c1 : x + y ≤ xs.length
      · obtain ⟨j, hj⟩ : ∃ j, x + y = j + 1 := ⟨x + y - 1, by omega⟩
        rw [show (((xs.take (x + y)).length : Nat) : Int) - 1 = (j : Int) by omega, rd_take xs _ j (by omega) (by omega), hpr j (by omega), hj]
      · obtain ⟨j, hj⟩ : ∃ j, xs.length = j + 1 := ⟨xs.length - 1, by omega⟩
        rw [show (((xs.take (x + y)).length : Nat) : Int) - 1 = (j : Int) by omega, rd_take xs _ j (by omega) (by omega), hpr j (by omega), (hre (x + y) (by omega)).1, (hre (j + 1) (by omega)).1]
    rw [if_pos hlast]; exact tailA

end Go.Proofs.Ytocbjclflabmcaa.Pure
