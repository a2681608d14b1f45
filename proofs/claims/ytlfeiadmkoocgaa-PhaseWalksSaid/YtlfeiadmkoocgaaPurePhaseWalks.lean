/- Ticks and phases belong together, the next tick goes on in the part or begins another one, and a cycle later only the slot differs. -/
import Derived.Test.YtlfeiadmkoocgaaS7
import Derived.Test.YtlfeiadmkoocgaaPh5
import Derived.Test.YtlfeiadmkoocgaaPh7
import Derived.Test.YtlfeiadmkoocgaaPhA
namespace Go.Proofs.Ytlfeiadmkoocgaa.Pure
open Go.RowKit Go.Proofs.Ytlfeiadmkoocgaa.S Go.Proofs.YtlfeiadmkoocgaaW.PrintWords Go.Proofs.YtlfeiadmkoocgaaW.PrintLast
set_option linter.unusedVariables false
set_option linter.unusedSimpArgs false

/-- What is found is a piece. -/
theorem find_piece {m d : Int} (hm : 1 ≤ m ∧ m ≤ 200000) (hd : 1 ≤ d ∧ d ≤ 200000) {n : Nat} (hn : n ≤ 16) {l : List S57} (U : Upto m d n (n + 1) l) (u : Int) (h0 : 0 ≤ u) (h1 : u < m + (n + 1) * (m + d)) : ∃ j : Nat, j < l.length ∧ rd_T57 l (j : Int) = findP m d n u := by
  have hl := U.len
  rcases find_cases hm.1 hd.1 n u h0 h1 with ⟨hlt, e⟩ | ⟨c, hc, v, v0, v1, hv, _, _, ⟨a, e⟩ | ⟨a, e⟩⟩
  · exact ⟨0, by omega, by rw [e]; exact U.head⟩
  · exact ⟨2 * c + 1, by omega, by rw [e, U.odd c (by omega)]⟩
  · exact ⟨2 * c + 2, by omega, by rw [e, U.even c (by omega)]⟩

/-- Tick of Of is the tick. -/
theorem Tms.tick_of {m d tr sl cy : Int} {n : Nat} (T : Tms m d tr sl cy n) (hcy : I64 cy) (t : Int) (h0 : 0 ≤ t) (h1 : t ≤ 1099511627776) (k : Nat) (hk : 100 ≤ k) :
    phase_Tick.f k m d tr sl cy (phF m d sl n t).1 (phF m d sl n t).2.1 (phF m d sl n t).2.2.1 (phF m d sl n t).2.2.2 = some (t, 0) := by
  have hb := T.hb
  have hn := T.hn
  have hp := T.place t
  have hsl := T.hsl
  have U := pieces_upto T.hm T.hd (n := n) (by omega)
  obtain ⟨j, hj, e⟩ := find_piece T.hm T.hd hn.2 U (t % sl) hp.1 (by omega)
  have hf := find_from T.hm.1 T.hd.1 n (t % sl) hp.1 (by omega)
  have hh := piece_has U j hj
  have hbd := piece_bd T.hm T.hd hn.2 U j hj
  have hdm := Int.mul_ediv_add_emod t sl
  rw [Int.mul_comm] at hdm
  unfold phF
  rw [e] at hh hbd
  obtain ⟨j2, hj2, e2⟩ := piece_of U _ _ hh.2 hh.1
  have hjj := piece_key U j2 j hj2 hj (by rw [e2, e]) (by rw [e2, e])
  subst hjj
  rw [e] at e2
  have b2 : begF m d n (findP m d n (t % sl)).f0 (findP m d n (t % sl)).f1 = (findP m d n (t % sl)).f2 := (congrArg S57.f2 e2).symm
  have b3 : lenF m d (findP m d n (t % sl)).f0 = (findP m d n (t % sl)).f3 := (congrArg S57.f3 e2).symm
  have hke : kindE (findP m d n (t % sl)).f0 = 0 := by unfold kindE; rw [if_neg (by omega)]
  rw [T.tick_val hcy _ _ _ _ hke k hk]
  unfold tickV
  have q1 : t / sl ≤ 1099511627776 / sl := Int.ediv_le_ediv (by omega) h1
  have hq := quot_bd h0 (show 1 ≤ sl by omega)
  dsimp only
  rw [if_neg (by omega), if_pos hh.1, b2, b3]
  unfold tickR
  rw [if_neg (by omega)]
  congr 2; omega

theorem PhaseWalks : tipstafflaw26_PhaseWalks.Pure := by
  intro a0 a1 h0 h1
  obtain ⟨m, d, n, s, S, hmade⟩ := made_val a0 (i64_of h0)
  have T := S.tms
  have hb := S.bds
  have := S.m; have := S.d; have hn := S.n; have hs := S.s
  obtain ⟨sl, hsl⟩ : ∃ sl, m + ((n : Int) + 1) * (m + d) = sl := ⟨_, rfl⟩
  rw [hsl] at T hb hmade
  obtain ⟨cy, hcy⟩ : ∃ cy, (s : Int) * sl = cy := ⟨_, rfl⟩
  rw [hcy] at T hb hmade
  obtain ⟨K, hK⟩ : ∃ K : Nat, K = 200 := ⟨_, rfl⟩
  refine ⟨K + 1, ?_⟩
  have hcI : I64 cy := by unfold I64; omega
  rw [tipstafflaw26_PhaseWalks.f, hmade, Option.bind_some]
  dsimp only
  rw [wrap_id (5 * cy) (by omega) (by omega), mod_val a1 _ (i64_of h1) (by omega) (by omega), Option.bind_some]
  obtain ⟨t, ht⟩ : ∃ t, a1 % (5 * cy) = t := ⟨_, rfl⟩
  have t0 := Int.emod_nonneg a1 (show 5 * cy ≠ 0 by omega)
  have t1 := Int.emod_lt_of_pos a1 (show 0 < 5 * cy by omega)
  rw [ht] at t0 t1 ⊢
  have hp := T.place t
  have hq := quot_bd t0 (show 1 ≤ sl by omega)
  have hdm := Int.mul_ediv_add_emod t sl
  rw [Int.mul_comm] at hdm
  have e2 : (t + cy) / sl = t / sl + s := by rw [← hcy, Int.add_mul_ediv_right _ _ (show sl ≠ 0 by omega)]
  have e3 : (t + cy) % sl = t % sl := by rw [← hcy, Int.add_mul_emod_self_right]
  rw [T.of_val hcI t t0 (by omega) _ (by omega), Option.bind_some]
  dsimp only
  rw [T.tick_of hcI t t0 (by omega) _ (by omega), Option.bind_some, wrap_id (t + 1) (by omega) (by omega), T.of_val hcI (t + 1) (by omega) (by omega) _ (by omega), Option.bind_some, wrap_id (t + cy) (by omega) (by omega), T.of_val hcI (t + cy) (by omega) (by omega) _ (by omega), Option.bind_some]
  dsimp only
  rw [if_pos rfl, if_pos rfl, if_pos rfl, if_pos rfl, if_pos rfl]
  have r0 : (phF m d sl n (t + cy)).1 = wrap64 ((phF m d sl n t).1 + s) := by unfold phF; dsimp only; rw [e2, wrap_id _ (by omega) (by omega)]
  have r1 : (phF m d sl n (t + cy)).2 = (phF m d sl n t).2 := by unfold phF; dsimp only; rw [e3]
  rw [r0, r1]
  have hno : (!((wrap64 ((phF m d sl n t).1 + s)) == (wrap64 ((phF m d sl n t).1 + s))) || (!((phF m d sl n t).2.1 == (phF m d sl n t).2.1) || (!((phF m d sl n t).2.2.1 == (phF m d sl n t).2.2.1) || (!((phF m d sl n t).2.2.2 == (phF m d sl n t).2.2.2))))) = false := by simp
  rw [hno, tipstafflaw26_PhaseWalks.j0, if_neg (by decide), phase_Trips.f, phase_Slots.f, chk_val m d _ sl cy (by unfold I64; omega) (by unfold I64; omega) hcI K (by omega), T.ok, Option.bind_some, if_pos rfl, T.trips, Option.bind_some, Option.bind_some, Option.bind_some, if_pos rfl, if_neg (show ¬ sl = 0 by omega), Option.bind_some]
  dsimp only
  have es : wrap64 (cy.tdiv sl) = s := by rw [Int.tdiv_eq_ediv_of_nonneg (show 0 ≤ cy by omega), ← hcy, Int.mul_ediv_cancel _ (by omega), wrap_id _ (by omega) (by omega)]
  rw [if_pos rfl, if_pos es, if_pos rfl, if_pos rfl]
  have aw := awake_at K (by omega)
  rw [aw]
  simp only [Option.bind_some]
  -- the next tick
  by_cases hg : ((phF m d sl n (t + 1)).1 == (phF m d sl n t).1 && ((phF m d sl n (t + 1)).2.1 == (phF m d sl n t).2.1 && ((phF m d sl n (t + 1)).2.2.1 == (phF m d sl n t).2.2.1 && ((phF m d sl n (t + 1)).2.2.2 == (wrap64 ((phF m d sl n t).2.2.2 + 1)))))) = true
  · rw [if_pos hg]
  · rw [if_neg hg]
    have key : (phF m d sl n (t + 1)).2.2.2 = 0 ∧ ((phF m d sl n (t + 1)).2.1 ≠ (phF m d sl n t).2.1 ∨ (phF m d sl n (t + 1)).1 ≠ (phF m d sl n t).1) := by
      have hf := find_from (show 1 ≤ m by omega) (show 1 ≤ d by omega) n (t % sl) hp.1 (by omega)
      rcases find_next (show 1 ≤ m by omega) (show 1 ≤ d by omega) n (by omega) (t % sl) hp.1 (by omega) with h | ⟨h, hh⟩
      · -- the next slot
        obtain ⟨x0, x1⟩ : (t + 1) / sl = t / sl + 1 ∧ (t + 1) % sl = 0 := by
          have e : t + 1 = 0 + (t / sl + 1) * sl := by rw [Int.add_mul]; omega
          constructor
          · rw [e, Int.add_mul_ediv_right _ _ (show sl ≠ 0 by omega)]; simp
          · rw [e, Int.add_mul_emod_self_right]; simp
        unfold phF
        dsimp only
        rw [x0, x1]
        have ef : findP m d n 0 = ⟨1, 0, 0, m⟩ := by unfold findP; rw [if_pos (by omega)]
        rw [ef]
        exact ⟨rfl, Or.inr (by omega)⟩
      · obtain ⟨x0, x1⟩ : (t + 1) / sl = t / sl ∧ (t + 1) % sl = t % sl + 1 := by
          have e : t + 1 = (t % sl + 1) + t / sl * sl := by omega
          constructor
          · rw [e, Int.add_mul_ediv_right _ _ (show sl ≠ 0 by omega), Int.ediv_eq_zero_of_lt (by omega) (by omega)]; simp
          · rw [e, Int.add_mul_emod_self_right, Int.emod_eq_of_lt (by omega) (by omega)]
        rcases hh with hh | ⟨g1, g2⟩
        · exfalso
          refine hg ?_
          unfold phF
          dsimp only
          rw [x0, x1, hh, wrap_id _ (by omega) (by omega)]
          simp; omega
        · unfold phF
          dsimp only
          rw [x0, x1]
          exact ⟨by omega, Or.inl g2⟩
    rw [if_pos key.1]
    rcases key.2 with h | h
    · rw [if_neg h]
    · rw [if_neg h]; split
      · split <;> rfl
      · rfl

end Go.Proofs.Ytlfeiadmkoocgaa.Pure
