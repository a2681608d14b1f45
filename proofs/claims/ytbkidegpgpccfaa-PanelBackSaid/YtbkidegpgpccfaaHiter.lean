/- The iterator of panel.swing: it yields a panel and what it became, order by order; the panel is its own variable. -/
import Derived.OwnWalkIn
import Derived.TacticsInMore
import Derived.LoopNIn
import Derived.LoopIn
import Derived.Outline
import Derived.Test.YtbkidegpgpccfaaHtold
import Derived.Test.YtbkidegpgpccfaaNums
namespace Go.Proofs.Ytbkidegpgpccfaa.S
open Go.RowKit Go.Proofs.YtbkidegpgpccfaaW.PrintWords Go.Proofs.YtbkidegpgpccfaaW.PrintLast Go.Proofs.YtbkidegpgpccfaaW.PrintMore
set_option linter.unusedVariables false
set_option linter.unusedSimpArgs false
attribute [local go_sem] Oper.semAt_some

abbrev Pan := Int × Int × Int
/-- The panels and what they became, order by order. -/
def swingL : List Int → Pan → Option (List (Int × Int × Int × Int))
  | [], _ => some []
  | o :: os, p => (panel_told.f p.1 p.2.1 p.2.2 o).bind fun q => (panel_moved.f q.1 q.2.1 q.2.2).bind fun r => (swingL os (r.1, r.2.1, r.2.2.1)).map (r :: ·)

theorem told_any (a b c o : Int) (q : Pan) (h : panel_told.f a b c o = some q) (w : World) : Calls Try.prog 41 #[.agg #[.int .i64 a, .int .i64 b, .int .i64 c], .int .i64 o] w fun e w' => e = .returned (.agg #[.int .i64 q.1, .int .i64 q.2.1, .int .i64 q.2.2]) ∧ Below w.heap.size w w' := panel_told.calls a b c o q.1 q.2.1 q.2.2 w h
theorem moved_any (a b c : Int) (q : Int × Int × Int × Int) (h : panel_moved.f a b c = some q) (w : World) : Calls Try.prog 43 #[.agg #[.int .i64 a, .int .i64 b, .int .i64 c]] w fun e w' => e = .returned (.tuple #[.agg #[.int .i64 q.1, .int .i64 q.2.1, .int .i64 q.2.2.1], .int .i64 q.2.2.2]) ∧ Below w.heap.size w w' := panel_moved.calls a b c q.1 q.2.1 q.2.2.1 q.2.2.2 w h

/-- What a round must keep: the two variables of the iterator, and whatever lay when the caller began. -/
def Keep3 (n0 b1 b2 : Nat) (W W' : World) : Prop := W'.heap[b1]? = W.heap[b1]? ∧ W'.heap[b2]? = W.heap[b2]? ∧ Below n0 W W'

def encP (x : Int × Int × Int × Int) : Array Value := #[.agg #[.int .i64 x.1, .int .i64 x.2.1, .int .i64 x.2.2.1], .int .i64 x.2.2.2]

theorem grown_below {w w' : World} {n : Nat} (h : Below n w w') (hn : w.heap.size ≤ n) (row : Option Nat) : w.grownBy w' row := ⟨h.os, h.tape, h.output, h.size, fun k hk _ => h.block k (by omega)⟩
theorem grown_set (w : World) (B o : Nat) (v : Value) : w.grownBy (w.setCell ⟨B, o, none⟩ v) (some B) :=
  ⟨rfl, rfl, rfl, by simp, fun k _ hne => Below.heap_setCell w ⟨B, o, none⟩ v k (fun e => hne (by simpa using e))⟩

set_option maxHeartbeats 2000000 in
set_option maxRecDepth 100000 in
theorem swing_stops (n : Nat) (hn : 2 ≤ n) (n0 Bl Bp : Nat) (hl : n0 ≤ Bl) (hp : n0 ≤ Bp) (hne : Bl ≠ Bp) (A1 : Option Addr) (c1 : Nat) (l : List Int) (hc1 : l.length ≤ c1) (w00 : World) (h00 : w00.heap.size = n0) (hC : (Kd.int .i64).C w00 A1 l.length l)
    (p0 : Pan) (xs : List (Int × Int × Int × Int)) (hx : swingL l p0 = some xs) (w : World) (hBl : Boxed w Bl 24 (.slice A1 l.length c1)) (hBp : Blk3 w Bp 23 (.int .i64 p0.1) (.int .i64 p0.2.1) (.int .i64 p0.2.2)) (hw : Below n0 w00 w) :
    IterStops Fence.wide n Try.prog 45 #[.pointer (some ⟨Bl, 0, none⟩), .pointer (some ⟨Bp, 0, none⟩)] encP (fun A B => A.grownBy B (some Bp)) (Keep3 n0 Bl Bp) (fun ys => ys = xs) (fun _ => True) xs.length w := by
  intro lp J Jx W hW hJ hJx hY h0
  have hu := Try.underlying23
  have bBl : Boxed W Bl 24 (.slice A1 l.length c1) := (hW.block Bl hBl.lt).trans hBl
  have bBp : Blk3 W Bp 23 (.int .i64 p0.1) (.int .i64 p0.2.1) (.int .i64 p0.2.2) := (hW.block Bp hBp.lt).trans hBp
  have bW : Below n0 w00 W := hw.trans (hW.mono (by have := hw.size; omega))
  have cBl := bBl.cell
  refine callsIn_of_wp Try.func45 rfl trivial ?_ rfl
  simp only [Try.ntmps45, List.size_toArray, List.length_cons, List.length_nil, Nat.reduceAdd, Nat.reduceSub, Array.replicate_succ, Array.replicate_zero, List.push_toArray, List.append_toArray, List.nil_append, List.cons_append]
  gi_wp2
  gi_loopw [9] (fun v9 wr => ∃ (i : Nat) (p : Pan) (pre rest : List (Int × Int × Int × Int)), v9 = .int .i64 i ∧ Aside0 (i ≤ l.length) ∧ Aside0 (xs = pre ++ rest) ∧ Aside0 (swingL (l.drop i) p = some rest) ∧ J pre wr ∧ Aside0 (Boxed wr Bl 24 (.slice A1 l.length c1)) ∧ Aside0 (Blk3 wr Bp 23 (.int .i64 p.1) (.int .i64 p.2.1) (.int .i64 p.2.2)) ∧ Aside0 (Below n0 w00 wr))
    (fun v9 _ => l.length - (intOf v9).toNat)
  case atStart => exact ⟨0, p0, [], xs, rfl, ⟨by omega⟩, ⟨rfl⟩, ⟨hx⟩, h0, ⟨bBl⟩, ⟨bBp⟩, ⟨bW⟩⟩
  case round =>
    obtain ⟨i, p, pre, rest, rfl, hi, hp1, hr, hj, hb1, hb2, hbw⟩ := hrel
    by_cases hlt : i < l.length
    · obtain ⟨o, q, r, t, ho, hq, hm, ht, rfl⟩ : ∃ o q r t, o = rd l (i : Int) ∧ panel_told.f p.1 p.2.1 p.2.2 o = some q ∧ panel_moved.f q.1 q.2.1 q.2.2 = some r ∧ swingL (l.drop (i + 1)) (r.1, r.2.1, r.2.2.1) = some t ∧ rest = r :: t := by
        have h := hr.out
        rw [Pure.drop_rd l i hlt, swingL] at h
        obtain ⟨q, hq, h⟩ := Option.bind_eq_some_iff.1 h
        obtain ⟨r, hm, h⟩ := Option.bind_eq_some_iff.1 h
        obtain ⟨t, ht, h⟩ := Option.map_eq_some_iff.1 h
        exact ⟨_, q, r, t, rfl, hq, hm, ht, h.symm⟩
      have HQ := Aside0.mk hq
      have HM := Aside0.mk hm
      have HT := Aside0.mk ht
      have hlen : pre.length < xs.length := by rw [hp1.out]; simp
      clear hq hm ht hr
      have hCr := Kd.C_below hC (by rw [h00]; exact hbw.out)
      have hi1 : (i : Int) < (l.length : Int) := by omega
      obtain ⟨ad, e1, hx0⟩ := Kd.at_int hCr (i : Int) (by omega) hi1
      cases e1
      rw [Int.toNat_natCast, ← ho] at hx0
      have d0 := hb2.out.c0
      have d1 := hb2.out.c1
      have d2 := hb2.out.c2
      clear ho hCr
      gi_wp2_with fail
      refine ⟨trivial, fun _ => by omega, ?_⟩
      refine (callsIn_wide.2 (told_any _ _ _ _ _ HQ.out _)).mono ?_
      rintro e w1 ⟨rfl, hw1⟩
      have hj1 := hJ pre wr w1 hj (grown_below hw1 (Nat.le_refl _) _)
      have b11 := Aside0.mk ((hw1.block Bl (Boxed.lt hb1.out)).trans hb1.out : Boxed w1 Bl 24 (.slice _ l.length c1))
      have b21 := Aside0.mk (hb2.out.below hw1 hb2.out.lt)
      have bw1 := Aside0.mk (hbw.out.trans (hw1.mono (by have := hbw.out.size; omega)))
      clear d0 d1 d2 hx0 hw1 hj
      gi_wp2_with fail
      refine ⟨trivial, fun _ => by omega, ?_⟩
      refine (callsIn_wide.2 (moved_any _ _ _ _ HM.out _)).mono ?_
      rintro e w2 ⟨rfl, hw2⟩
      have hj2 := hJ pre w1 w2 hj1 (grown_below hw2 (Nat.le_refl _) _)
      have b12 := Aside0.mk ((hw2.block Bl (Boxed.lt b11.out)).trans b11.out : Boxed w2 Bl 24 (.slice _ l.length c1))
      have b22 := b21.out.below hw2 b21.out.lt
      have bw2 := Aside0.mk (bw1.out.trans (hw2.mono (by have := bw1.out.size; omega)))
      clear b11 b21 bw1 hw2 hj1
      have d0 := b22.c0
      have d1 := b22.c1
      have d2 := b22.c2
      have f0 := b22.fr 0
      have f1 := b22.fr 1
      have f2 := b22.fr 2
      have B22 := Aside0.mk b22
      clear b22
      gi_wp2_with fail
      obtain ⟨w3, hw3⟩ : ∃ w3, ((w2.setCell ⟨Bp, 0, none⟩ (.int .i64 r.1)).setCell ⟨Bp, 1, none⟩ (.int .i64 r.2.1)).setCell ⟨Bp, 2, none⟩ (.int .i64 r.2.2.1) = w3 := ⟨_, rfl⟩
      have hj3 : J pre w3 := by rw [← hw3]; exact hJ _ _ _ (hJ _ _ _ (hJ _ _ _ hj2 (grown_set _ _ _ _)) (grown_set _ _ _ _)) (grown_set _ _ _ _)
      have b13 := Aside0.mk (show Boxed w3 Bl 24 (.slice (some ad) l.length c1) by rw [← hw3]; exact (Below.heap_setCell _ _ _ _ hne).trans ((Below.heap_setCell _ _ _ _ hne).trans ((Below.heap_setCell _ _ _ _ hne).trans b12.out)))
      have b23 := Aside0.mk (show Blk3 w3 Bp 23 (.int .i64 r.1) (.int .i64 r.2.1) (.int .i64 r.2.2.1) by rw [← hw3]; exact ((B22.out.set0 _).set1 _).set2 _)
      have bw3 := Aside0.mk (show Below n0 w00 w3 by rw [← hw3]; exact ((bw2.out.setCell (p := ⟨Bp, 0, none⟩) hp _).setCell (p := ⟨Bp, 1, none⟩) hp _).setCell (p := ⟨Bp, 2, none⟩) hp _)
      rw [hw3]
      clear hw3 d0 d1 d2 f0 f1 f2 B22 hj2 b12 bw2
      obtain ⟨fn, tmps, assign, body, hyy, hR⟩ := hY pre r w3 hj3 hlen
      have hyy2 : (Instr.yield lp #[.agg #[.int .i64 r.1, .int .i64 r.2.1, .int .i64 r.2.2.1], .int .i64 r.2.2.2]).run Try.prog w3 = .ok (.round lp fn tmps assign body) w3 := hyy
      rw [hyy2]
      gi_wp2
      refine ⟨fun _ => by omega, hR.mono ?_⟩
      rintro e W3 (⟨rfl, hJ3, hk3⟩ | ⟨rfl, hJx3⟩)
      · gi_wp2
        go_roundw
        case rel =>
          exact ⟨i + 1, _, pre ++ [r], t, by rw [Pure.wrap_succ i (by have := Kd.C_max hC; omega)], ⟨by omega⟩, ⟨by rw [hp1.out]; simp⟩, HT, hJ3, ⟨hk3.1.trans b13.out⟩, ⟨hk3.2.1.trans b23.out⟩, ⟨bw3.out.trans (hk3.2.2.mono (by omega))⟩⟩
        case measure =>
          rw [Pure.wrap_succ i (by have := Kd.C_max hC; omega)]
          simp [intOf]; omega
      · gi_wp2
        refine bodyPost_ret (results_none rfl _ _ _) rfl ?_
        exact ⟨⟨_, rfl⟩, .inr ⟨pre ++ [r], trivial, hJx3⟩⟩
    · gi_wp2
      go_end0
      have e : rest = [] := by
        have h := hr.out
        rw [List.drop_eq_nil_of_le (by omega)] at h
        exact (Option.some.inj h).symm
      have e2 : xs = pre := by rw [hp1.out, e, List.append_nil]
      exact ⟨⟨_, rfl⟩, .inl ⟨xs, rfl, by rw [e2]; exact hj⟩⟩

end Go.Proofs.Ytbkidegpgpccfaa.S
