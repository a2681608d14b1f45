/- How many ticks of a part there are: what Count comes to. -/
import Derived.Test.YtlfeiadmkoocgaaS2
import Derived.Test.YtlfeiadmkoocgaaPh3
import Derived.Test.YtlfeiadmkoocgaaPh5
import Derived.Test.YtlfeiadmkoocgaaHcount
namespace Go.Proofs.Ytlfeiadmkoocgaa.Pure
open Go.RowKit Go.Proofs.Ytlfeiadmkoocgaa.S Go.Proofs.YtlfeiadmkoocgaaW.PrintWords Go.Proofs.YtlfeiadmkoocgaaW.PrintLast
set_option linter.unusedVariables false
set_option linter.unusedSimpArgs false

/-- How many ticks ahead of one are in a part. -/
def befV (m d sl : Int) (n : Nat) (part t : Int) : Int := t / sl * wholeF m d n part + someF m d n part (t % sl)

theorem whole_bd {m d : Int} (hm : 1 ≤ m ∧ m ≤ 200000) (hd : 1 ≤ d ∧ d ≤ 200000) {n : Nat} (hn : n ≤ 16) (part : Int) : 0 ≤ wholeF m d n part ∧ wholeF m d n part ≤ 3200000 := by
  have c1 : (n : Int) * m ≤ 16 * m := Int.mul_le_mul_of_nonneg_right (by omega) (by omega)
  have c2 : (n : Int) * d ≤ 16 * d := Int.mul_le_mul_of_nonneg_right (by omega) (by omega)
  have c3 : 0 ≤ (n : Int) * m := Int.mul_nonneg (by omega) (by omega)
  have c4 : 0 ≤ (n : Int) * d := Int.mul_nonneg (by omega) (by omega)
  unfold wholeF
  repeat' split
  all_goals omega
theorem some_bd {m d : Int} (hm : 1 ≤ m ∧ m ≤ 200000) (hd : 1 ≤ d ∧ d ≤ 200000) (n : Nat) (part u : Int) : 0 ≤ someF m d n part u ∧ someF m d n part u ≤ wholeF m d n part := by
  have p1 := pre_bd u 0 m (by omega)
  have p2 := preSum_bd m d u 0 m (by omega) n 0
  have p3 := preSum_bd m d u m d (by omega) n 0
  have p4 := pre_bd u (m + n * (m + d)) m (by omega)
  have p5 := pre_bd u (m + n * (m + d) + m) d (by omega)
  unfold wholeF someF
  repeat' split
  all_goals omega

theorem befV_bd {m d sl : Int} (hm : 1 ≤ m ∧ m ≤ 200000) (hd : 1 ≤ d ∧ d ≤ 200000) {n : Nat} (hn : n ≤ 16) (hs : 3 ≤ sl) (part t : Int) (h0 : 0 ≤ t) (h1 : t ≤ 1099511627776) :
    0 ≤ t / sl * wholeF m d n part ∧ t / sl * wholeF m d n part ≤ 4000000000000000000 ∧ 0 ≤ befV m d sl n part t ∧ befV m d sl n part t ≤ 4000000000003200000 := by
  have w := whole_bd hm hd hn part
  have s := some_bd hm hd n part (t % sl)
  have q := quot_bd h0 (show 1 ≤ sl by omega)
  have m1 : 0 ≤ t / sl * wholeF m d n part := Int.mul_nonneg q.1 w.1
  have m2 : t / sl * wholeF m d n part ≤ 1099511627776 * wholeF m d n part := Int.mul_le_mul_of_nonneg_right (by omega) w.1
  unfold befV
  omega

theorem Tms.before_val {m d tr sl cy : Int} {n : Nat} (T : Tms m d tr sl cy n) (part t : Int) (h0 : 0 ≤ t) (h1 : t ≤ 1099511627776) : beforeF (piecesP m d n) sl part t = some (befV m d sl n part t) := by
  have hb := T.hb
  have hn := T.hn
  have hpl := T.place t
  have U := pieces_upto T.hm T.hd (n := n) (by omega)
  have hl := U.len
  have b := befV_bd T.hm T.hd hn.2 hb.1 part t h0 h1
  have s := some_bd T.hm T.hd n part (t % sl)
  have q := quot_bd h0 (show 1 ≤ sl by omega)
  unfold beforeF
  rw [if_pos ⟨by omega, h0, h1, by omega⟩, bef_val T.hm T.hd (by omega) part (t % sl) ⟨hpl.1, by omega⟩]
  dsimp only
  rw [wrap_id (t / sl) (by omega) (by omega), wrap_id (t / sl * _) (by omega) (by omega)]
  congr 1
  unfold befV at b ⊢
  rw [wrap_id _ (by omega) (by omega)]

theorem Tms.count_val {m d tr sl cy : Int} {n : Nat} (T : Tms m d tr sl cy n) (hcy : I64 cy) (a b part : Int) (h0 : 0 ≤ a) (hab : a ≤ b) (h1 : b ≤ 1099511627776) (hp : kindE part = 0) (k : Nat) (hk : 2 ≤ k) :
    phase_Count.f k m d tr sl cy a b part = some (befV m d sl n part b - befV m d sl n part a, 0) := by
  have hb := T.hb
  have hn := T.hn
  have htr := T.htr
  have hm := T.hm
  have hd := T.hd
  have U := pieces_upto T.hm T.hd (n := n) (by omega)
  have hl := U.len
  have b1 := befV_bd T.hm T.hd hn.2 hb.1 part a h0 (by omega)
  have b2 := befV_bd T.hm T.hd hn.2 hb.1 part b (by omega) h1
  rw [phase_Count.f, chk_val m d tr sl cy (by unfold I64; omega) (by unfold I64; omega) hcy k hk, T.ok, Option.bind_some, if_pos rfl, kinds_val, hp, Option.bind_some, if_pos rfl, if_neg (by omega), T.trips, Option.bind_some, phase_pieces.f, if_pos (by omega), Option.bind_some, T.before_val part b (by omega) h1, Option.bind_some, T.before_val part a h0 (by omega), Option.bind_some, if_pos (by omega), wrap_id _ (by omega) (by omega)]

end Go.Proofs.Ytlfeiadmkoocgaa.Pure
