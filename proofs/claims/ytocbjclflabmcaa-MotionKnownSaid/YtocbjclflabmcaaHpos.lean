/- The iterator of motion.positions: the places of a car, tick by tick, till it is at its goal. -/
import Derived.Sort.LoopGhostIn
import Derived.Test.YtocbjclflabmcaaIter
import Derived.Test.YtocbjclflabmcaaHdo
namespace Go.Proofs.Ytocbjclflabmcaa.S
open Go.RowKit Go.Proofs.YtocbjclflabmcaaW.PrintWords Go.Proofs.YtocbjclflabmcaaW.PrintLast Go.Proofs.YtocbjclflabmcaaW.PrintMore
set_option linter.unusedVariables false
set_option linter.unusedSimpArgs false
attribute [local go_sem] Oper.semAt_some wide_fn wideR_fn
attribute [local simp] wide_fn wideR_fn

/-- The places of a car, tick by tick. -/
def posL : Nat → Int → Int → Int → Int → Option (List Int)
  | 0, _, _, _, _ => none
  | k + 1, p, g, s, m => if restV p g > 0 then (posL k (tickV p g s m).1 g (tickV p g s m).2 m).map ((tickV p g s m).1 :: ·) else some []

theorem posL_mono : ∀ k p g s m, LeO (posL k p g s m) (posL (k + 1) p g s m)
  | 0, _, _, _, _ => LeO.none _
  | k + 1, p, g, s, m => by
    rw [posL, posL]
    refine LeO.ite ?_ (LeO.refl _)
    intro r h
    obtain ⟨t, ht, hr⟩ := Option.map_eq_some_iff.1 h
    exact Option.map_eq_some_iff.2 ⟨t, posL_mono k _ _ _ _ t ht, hr⟩

theorem keep2_set {b1 b2 : Nat} {A W : World} (h : Keep2 b1 b2 A W) (p : Addr) (v : Value) (h1 : b1 ≠ p.block) (h2 : b2 ≠ p.block) : Keep2 b1 b2 A (W.setCell p v) :=
  ⟨(Below.heap_setCell W p v b1 h1).trans h.1, (Below.heap_setCell W p v b2 h2).trans h.2⟩

/-- A tick's step for whoever ranges. -/
def TickT (Bc : Nat) (g m : Int) (A B : World) : Prop := A.grownBy B (some Bc) ∧ ((∃ p s, Car A Bc p g s m) → ∃ p s, Car B Bc p g s m)
theorem TickT.of {Bc : Nat} {g m p s : Int} {A B : World} (h : A.grownBy B (some Bc)) (hc : Car B Bc p g s m) : TickT Bc g m A B := ⟨h, fun _ => ⟨p, s, hc⟩⟩

theorem positions_any (B : Nat) (w : World) : Calls Try.prog 46 #[.pointer (some ⟨B, 0, none⟩)] w fun e w' =>
    e = .returned (.func (.func 53) #[] #[.pointer (some ⟨w.heap.size, 0, none⟩)]) ∧ w' = w.alloc (.cells #[.pointer (some ⟨B, 0, none⟩)] 54) := by
  have hmf : ∀ (fn : Fn) (first cap : Array Value) (w : World), (Instr.makeFunc fn first cap).run Try.prog w = .ok (.func fn first cap) w := fun _ _ _ _ => rfl
  go_enter Try.func46, Try.ntmps46
  go_wp2
  go_ret
  exact ⟨rfl, rfl⟩

set_option maxHeartbeats 2000000 in
set_option maxRecDepth 100000 in
theorem pos_stops (n : Nat) (hn : 2 ≤ n) (Bx Bc : Nat) (hne : ¬ Bx = Bc) (k : Nat) (p g s m : Int) (xs : List Int) (hx : posL k p g s m = some xs) (w : World) (hBx : Boxed w Bx 54 (.pointer (some ⟨Bc, 0, none⟩))) (hBc : Car w Bc p g s m) :
    IterStops Fence.wide n Try.prog 53 #[.pointer (some ⟨Bx, 0, none⟩)] (fun x : Int => #[.int .i64 x]) (TickT Bc g m) (Keep2 Bx Bc) (fun ys => ys = xs) (fun pre => pre <+: xs) xs.length w := by
  intro lp J Jx W hW hJ hJx hY h0
  have hu := Try.underlying48
  have hmf : ∀ (fn : Fn) (first cap : Array Value) (w : World), (Instr.makeFunc fn first cap).run Try.prog w = .ok (.func fn first cap) w := fun _ _ _ _ => rfl
  have bBx : Boxed W Bx 54 (.pointer (some ⟨Bc, 0, none⟩)) := (hW.block Bx hBx.lt).trans hBx
  have bBc : Car W Bc p g s m := (hW.block Bc hBc.lt).trans hBc
  have cBx := bBx.cell
  refine callsIn_of_wp Try.func53 rfl trivial ?_ rfl
  simp only [Try.ntmps53, List.size_toArray, List.length_cons, List.length_nil, Nat.reduceAdd, Nat.reduceSub, Array.replicate_succ, Array.replicate_zero, List.push_toArray, List.append_toArray, List.nil_append, List.cons_append]
  gi_wp2
  clear cBx
  gi_loopg [] k (fun kx wr => ∃ (p s : Int) (pre rest : List Int), Aside0 (xs = pre ++ rest) ∧ Aside0 (posL kx p g s m = some rest) ∧ J pre wr ∧ Aside0 (Boxed wr Bx 54 (.pointer (some ⟨Bc, 0, none⟩))) ∧ Aside0 (Car wr Bc p g s m))
  case atStart => exact ⟨p, s, [], xs, ⟨rfl⟩, ⟨hx⟩, h0, ⟨bBx⟩, ⟨bBc⟩⟩
  case round =>
    obtain ⟨p, s, pre, rest, hp1, hr, hj, hb1, hb2⟩ := hrel
    cases gk with
    | zero => exact absurd hr.out (by simp [posL])
    | succ kx =>
    have cx := hb1.out.cell
    by_cases hpos : restV p g > 0
    · obtain ⟨t, ht, rfl⟩ : ∃ t, posL kx (tickV p g s m).1 g (tickV p g s m).2 m = some t ∧ rest = (tickV p g s m).1 :: t := by
        have h := hr.out
        rw [posL, if_pos hpos] at h
        obtain ⟨t, ht, h⟩ := Option.map_eq_some_iff.1 h
        exact ⟨t, ht, h.symm⟩
      have HT := Aside0.mk ht
      have hlen : pre.length < xs.length := by rw [hp1.out]; simp
      clear ht hr
      gi_wp2_with fail
      refine ⟨fun _ => by omega, ?_⟩
      refine (callsIn_wide.2 (rest_any Bc p g s m _ hb2.out)).mono ?_
      rintro e w1 ⟨rfl, ⟨nd, rfl⟩⟩
      have hj1 := hJ _ _ _ hj (TickT.of (grown_drewN wr nd (some Bc)) (hb2.out.drewN nd))
      have b11 := Aside0.mk (w9_boxed hb1.out nd)
      have b21 := Aside0.mk (hb2.out.drewN nd)
      have cx1 := b11.out.cell
      obtain ⟨w1, hw1⟩ : ∃ x, wr.drewN nd = x := ⟨_, rfl⟩
      rw [hw1] at hj1 b11 b21 cx1 ⊢
      clear hw1 cx hj
      gi_wp2_with fail
      refine ⟨fun _ => by omega, ?_⟩
      refine (callsIn_wide.2 (step_any Bc p g s m _ b21.out)).mono ?_
      rintro e w2 ⟨rfl, hc2, hg2⟩
      have hj2 := hJ _ _ _ hj1 (TickT.of hg2 hc2)
      have b12 := Aside0.mk (show Boxed w2 Bx 54 (.pointer (some ⟨Bc, 0, none⟩)) from (hg2.block Bx b11.out.lt (fun e => hne (Option.some.inj e))).trans b11.out)
      have b22 := Aside0.mk hc2
      have cx2 := b12.out.cell
      have k0 := hc2.c0
      clear hc2 hg2 hj1 b11 b21 cx1
      obtain ⟨fn, tmps, assign, body, hyy, hR⟩ := hY pre (tickV p g s m).1 w2 hj2 hlen
      gi_wp2
      refine ⟨fun _ => by omega, hR.mono ?_⟩
      rintro e W3 (⟨rfl, hJ3, hk3⟩ | ⟨rfl, hJx3⟩)
      · gi_wp2
        gi_roundg kx
        case rel => exact ⟨_, _, pre ++ [(tickV p g s m).1], t, ⟨by rw [hp1.out]; simp⟩, HT, hJ3, ⟨hk3.1.trans b12.out⟩, ⟨hk3.2.trans b22.out⟩⟩
        case measure => omega
      · gi_wp2
        refine bodyPost_ret (results_none rfl _ _ _) rfl ?_
        exact ⟨⟨_, rfl⟩, .inr ⟨pre ++ [(tickV p g s m).1], ⟨t, by rw [hp1.out]; simp⟩, hJx3⟩⟩
    · gi_wp2_with fail
      refine ⟨fun _ => by omega, ?_⟩
      refine (callsIn_wide.2 (rest_any Bc p g s m _ hb2.out)).mono ?_
      rintro e w1 ⟨rfl, ⟨nd, rfl⟩⟩
      have hj1 := hJ _ _ _ hj (TickT.of (grown_drewN wr nd (some Bc)) (hb2.out.drewN nd))
      gi_wp2_with fail
      go_end0
      have e : rest = [] := by
        have h := hr.out
        rw [posL, if_neg (show ¬ restV p g > 0 by omega)] at h
        exact (Option.some.inj h).symm
      have e2 : xs = pre := by rw [hp1.out, e, List.append_nil]
      exact ⟨⟨_, rfl⟩, .inl ⟨xs, rfl, by rw [e2]; exact hj1⟩⟩

end Go.Proofs.Ytocbjclflabmcaa.S
