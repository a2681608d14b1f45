/- The iterator of profile.ride: it yields the speeds of a ride, one by one. -/
import Derived.RangeFuncNested
import Derived.RangeFuncBound
import Derived.RangeFuncCalls
import Derived.RangeFuncLeaves
import Derived.RangeFuncFrom
import Derived.RangeFuncBox
import Derived.OwnWalkIn
import Derived.TacticsInMore
import Derived.LoopNIn
import Derived.LoopIn
import Derived.Outline
import Derived.Test.YtgjcpocncpeibaaHnext
namespace Go.Proofs.Ytgjcpocncpeibaa.S
open Go.RowKit Go.Proofs.YtgjcpocncpeibaaW.PrintWords Go.Proofs.YtgjcpocncpeibaaW.PrintLast Go.Proofs.YtgjcpocncpeibaaW.PrintMore
set_option linter.unusedVariables false
set_option linter.unusedSimpArgs false
attribute [local go_sem] Oper.semAt_some

/-- The speeds of a ride, from a speed and a distance on. -/
def rideL : Nat → Int → Int → Int → Option (List Int)
  | 0, _, _, _ => none
  | k + 1, v, left, lim => if left > 0 then (rideL k (profile_next.v v left lim).1 (wrap64 (left - (profile_next.v v left lim).1)) lim).map ((profile_next.v v left lim).1 :: ·) else some []

theorem rideL_mono : ∀ k v left lim, LeO (rideL k v left lim) (rideL (k + 1) v left lim)
  | 0, _, _, _ => LeO.none _
  | k + 1, v, left, lim => by
    rw [rideL, rideL]
    refine LeO.ite ?_ (LeO.refl _)
    intro r h
    obtain ⟨t, ht, hr⟩ := Option.map_eq_some_iff.1 h
    exact Option.map_eq_some_iff.2 ⟨t, rideL_mono k _ _ _ t ht, hr⟩

theorem rideL_one {k k' : Nat} {v left lim : Int} {r r' : List Int} (h : rideL k v left lim = some r) (h' : rideL k' v left lim = some r') : r = r' := by
  have a := at_rounds (fun k => rideL_mono k v left lim) (Nat.le_max_left k k') h
  have b := at_rounds (fun k => rideL_mono k v left lim) (Nat.le_max_right k k') h'
  rw [a] at b
  exact Option.some.inj b

open Classical in
/-- How many speeds are still to come. -/
noncomputable def rideLen (v left lim : Int) : Nat := if h : ∃ n k r, rideL k v left lim = some r ∧ r.length = n then Classical.choose h else 0
theorem rideLen_eq {k : Nat} {v left lim : Int} {r : List Int} (h : rideL k v left lim = some r) : rideLen v left lim = r.length := by
  have h1 : ∃ n k r, rideL k v left lim = some r ∧ r.length = n := ⟨_, k, r, h, rfl⟩
  unfold rideLen
  rw [dif_pos h1]
  obtain ⟨k', r', h2, h3⟩ := Classical.choose_spec h1
  rw [← h3, rideL_one h2 h]

theorem rideL_pos {k : Nat} {v left lim : Int} {r : List Int} (h : rideL k v left lim = some r) (hl : 0 < left) :
    ∃ k' t, r = (profile_next.v v left lim).1 :: t ∧ rideL k' (profile_next.v v left lim).1 (wrap64 (left - (profile_next.v v left lim).1)) lim = some t := by
  cases k with
  | zero => cases h
  | succ k =>
    rw [rideL, if_pos hl] at h
    obtain ⟨t, ht, hr⟩ := Option.map_eq_some_iff.1 h
    exact ⟨k, t, hr.symm, ht⟩
theorem rideL_nil {k : Nat} {v left lim : Int} {r : List Int} (h : rideL k v left lim = some r) (hl : ¬ 0 < left) : r = [] := by
  cases k with
  | zero => cases h
  | succ k =>
    rw [rideL, if_neg hl] at h
    exact (Option.some.inj h).symm

theorem grown_drewN (w : World) (n : Nat) (row : Option Nat) : w.grownBy (w.drewN n) row := ⟨rfl, rfl, rfl, Nat.le_refl _, fun _ _ _ => rfl⟩

/-- What a round must keep: the two variables that the iterator reads. -/
def Keep2 (b1 b2 : Nat) (W W' : World) : Prop := W'.heap[b1]? = W.heap[b1]? ∧ W'.heap[b2]? = W.heap[b2]?

set_option maxHeartbeats 1000000 in
set_option maxRecDepth 100000 in
theorem ride_stops (n : Nat) (hn : 2 ≤ n) (Bn Bl : Nat) (a0 a1 : Int) (k : Nat) (xs : List Int) (hx : rideL k 0 a0 a1 = some xs) (w : World) (hBn : Boxed w Bn 3 (.int .i64 a0)) (hBl : Boxed w Bl 3 (.int .i64 a1)) :
    SeqStopsK Fence.wide n Try.prog 41 #[.pointer (some ⟨Bn, 0, none⟩), .pointer (some ⟨Bl, 0, none⟩)] (fun x : Int => #[.int .i64 x]) (Keep2 Bn Bl) (fun ys => ys = xs) (fun pre => pre <+: xs) xs.length w := by
  intro l J Jx W hW hJ hJx hY h0
  have cBn : W.cell? ⟨Bn, 0, none⟩ = some (.int .i64 a0) := hW.cell (p := ⟨Bn, 0, none⟩) hBn.lt |>.trans hBn.cell
  have bBl : Boxed W Bl 3 (.int .i64 a1) := (hW.block Bl hBl.lt).trans hBl
  refine callsIn_of_wp Try.func41 rfl trivial ?_ rfl
  simp only [Try.ntmps41, List.size_toArray, List.length_cons, List.length_nil, Nat.reduceAdd, Nat.reduceSub, Array.replicate_succ, Array.replicate_zero, List.push_toArray, List.append_toArray, List.nil_append, List.cons_append]
  gi_wp2
  gi_loopw [4, 5] (fun v4 v5 wr => ∃ (k' : Nat) (x y : Int) (pre rest : List Int), v4 = .int .i64 x ∧ v5 = .int .i64 y ∧ Aside0 (xs = pre ++ rest) ∧ Aside0 (rideL k' x y a1 = some rest) ∧ J pre wr ∧ Aside0 (Boxed wr Bl 3 (.int .i64 a1)))
    (fun v4 v5 _ => rideLen (intOf v4) (intOf v5) a1)
  case atStart => exact ⟨k, 0, a0, [], xs, rfl, rfl, ⟨rfl⟩, ⟨hx⟩, h0, ⟨bBl⟩⟩
  case round =>
    obtain ⟨k', x, y, pre, rest, rfl, rfl, hp, hr, hj, hb⟩ := hrel
    by_cases hy0 : 0 < y
    · obtain ⟨k2, t, h1, h2⟩ := rideL_pos hr.out hy0
      have H1 := Aside0.mk h1
      have H2 := Aside0.mk h2
      have hlen : pre.length < xs.length := by rw [hp.out, h1]; simp
      clear h1 h2
      have cBl := hb.out.cell
      gi_wp2_with fail
      refine ⟨trivial, fun _ => by omega, ?_⟩
      refine (callsIn_wide.2 (next_any _ _ _ _)).mono ?_
      rintro e w' ⟨rfl, m, rfl⟩
      obtain ⟨fn, tmps, assign, body, hyy, hR⟩ := hY pre (profile_next.v x y a1).1 (wr.drewN m) (hJ pre wr _ none hj (grown_drewN wr m none) (by simp)) hlen
      gi_wp2
      refine ⟨fun _ => by omega, hR.mono ?_⟩
      rintro e W3 (⟨rfl, hJ3, hk3⟩ | ⟨rfl, hJx3⟩)
      · have hb3 : Boxed W3 Bl 3 (.int .i64 a1) := hk3.2.trans hb.out
        gi_wp2
        go_roundw
        case rel =>
          have h1 := H1.out
          exact ⟨k2, _, _, pre ++ [(profile_next.v x y a1).1], t, rfl, rfl, ⟨by rw [hp.out, h1]; simp⟩, H2, hJ3, ⟨hb3⟩⟩
        case measure =>
          have e1 := rideLen_eq hr.out
          have e2 := rideLen_eq H2.out
          have h1 := H1.out
          simp only [intOf]
          rw [e1, e2, h1]; simp
      · gi_wp2
        refine bodyPost_ret (results_none rfl _ _ _) rfl ?_
        have h1 := H1.out
        exact ⟨⟨_, rfl⟩, .inr ⟨pre ++ [(profile_next.v x y a1).1], ⟨t, by rw [hp.out, h1]; simp⟩, hJx3⟩⟩
    · gi_wp2
      go_end0
      have e : xs = pre := by rw [hp.out, rideL_nil hr.out (by omega), List.append_nil]
      exact ⟨⟨_, rfl⟩, .inl (by rw [← e] at hj; first | exact ⟨xs, rfl, hj⟩ | exact hj)⟩

end Go.Proofs.Ytgjcpocncpeibaa.S
