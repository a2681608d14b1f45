/- slices.Backward over a list of three numbers: the iterator yields them from the last to the first. -/
import Derived.RangeFuncNested
import Derived.RangeFuncBound
import Derived.RangeFuncCalls
import Derived.RangeFuncLeaves
import Derived.RangeFuncFrom
import Derived.RangeFuncBox
import Derived.OwnWalkIn
import Derived.TacticsInMore
import Derived.LoopNIn
import Derived.LoopIn
import Derived.Outline
import Derived.Test.YtocbjclflabmcaaHcheck
namespace Go.Proofs.Ytocbjclflabmcaa.S
open Go.RowKit Go.Proofs.YtocbjclflabmcaaW.PrintWords Go.Proofs.YtocbjclflabmcaaW.PrintLast Go.Proofs.YtocbjclflabmcaaW.PrintMore
set_option linter.unusedVariables false
set_option linter.unusedSimpArgs false
attribute [local go_sem] Oper.semAt_some

/-- A block of three cells. -/
def Blk3 (w : World) (B : Nat) (t : TypeId) (x y z : Value) : Prop := w.heap[B]? = some (.cells #[x, y, z] t (0, 0))
theorem Blk3.c0 {w : World} {B : Nat} {t : TypeId} {x y z : Value} (h : Blk3 w B t x y z) : w.cell? ⟨B, 0, none⟩ = some x := by unfold Blk3 at h; simp [World.cell?, h]
theorem Blk3.c1 {w : World} {B : Nat} {t : TypeId} {x y z : Value} (h : Blk3 w B t x y z) : w.cell? ⟨B, 1, none⟩ = some y := by unfold Blk3 at h; simp [World.cell?, h]
theorem Blk3.c2 {w : World} {B : Nat} {t : TypeId} {x y z : Value} (h : Blk3 w B t x y z) : w.cell? ⟨B, 2, none⟩ = some z := by unfold Blk3 at h; simp [World.cell?, h]
theorem Blk3.lt {w : World} {B : Nat} {t : TypeId} {x y z : Value} (h : Blk3 w B t x y z) : B < w.heap.size := (Array.getElem?_eq_some_iff.1 h).1
theorem Blk3.alloc {w : World} {B : Nat} {t : TypeId} {x y z : Value} (h : Blk3 w B t x y z) (o : Obj) : Blk3 (w.alloc o) B t x y z := (Below.heap_alloc w o B h.lt).trans h
theorem Blk3.new (w : World) (t : TypeId) (x y z : Value) : Blk3 (w.alloc (.cells #[x, y, z] t)) w.heap.size t x y z := World.alloc_heap_new w _

theorem grown_drewN (w : World) (n : Nat) (row : Option Nat) : w.grownBy (w.drewN n) row := ⟨rfl, rfl, rfl, Nat.le_refl _, fun _ _ _ => rfl⟩

/-- What a round must keep: the two variables that the iterator reads. -/
def Keep2 (b1 b2 : Nat) (W W' : World) : Prop := W'.heap[b1]? = W.heap[b1]? ∧ W'.heap[b2]? = W.heap[b2]?
theorem keep2_b {b1 b2 : Nat} {w : World} (h1 : b1 < w.heap.size) (h2 : b2 < w.heap.size) (W : World) (l : Nat) (o o' : Obj) (hl : w.heap.size ≤ l) : Keep2 b1 b2 W (W.putObj l o') :=
  ⟨World.putObj_heap_other (by omega), World.putObj_heap_other (by omega)⟩
theorem keep2_t {b1 b2 : Nat} {A B C : World} (h : Keep2 b1 b2 A B) (k : Keep2 b1 b2 B C) : Keep2 b1 b2 A C := ⟨k.1.trans h.1, k.2.trans h.2⟩
theorem keep2_drewN {b1 b2 : Nat} (W : World) (n : Nat) : Keep2 b1 b2 W (W.drewN n) := ⟨rfl, rfl⟩

theorem back_any (A : Option Addr) (n c : Nat) (w : World) : Calls Try.prog 52 #[.slice A n c] w fun e w' =>
    e = .returned (.func (.func 55) #[] #[.pointer (some ⟨w.heap.size, 0, none⟩)]) ∧ w' = w.alloc (.cells #[.slice A n c] 34) := by
  have hmf : ∀ (fn : Fn) (first cap : Array Value) (w : World), (Instr.makeFunc fn first cap).run Try.prog w = .ok (.func fn first cap) w := fun _ _ _ _ => rfl
  go_enter Try.func52, Try.ntmps52
  go_wp2
  go_ret
  exact ⟨rfl, rfl⟩

def encB (x : Int × Int) : Array Value := #[.int .i64 x.1, .int .i64 x.2]

set_option maxHeartbeats 1000000 in
set_option maxRecDepth 100000 in
theorem back_stops (n : Nat) (hn : 2 ≤ n) (Bs Ba : Nat) (x y z : Int) (w : World) (hBs : Boxed w Bs 34 (.slice (some ⟨Ba, 0, none⟩) 3 3)) (hBa : Blk3 w Ba 62 (.int .i64 x) (.int .i64 y) (.int .i64 z)) :
    SeqStopsK Fence.wide n Try.prog 55 #[.pointer (some ⟨Bs, 0, none⟩)] encB (Keep2 Bs Ba) (fun ys => ys = [((2 : Int), z), (1, y), (0, x)]) (fun pre => pre <+: [((2 : Int), z), (1, y), (0, x)]) 3 w := by
  intro l J Jx W hW hJ hJx hY h0
  have bBs : Boxed W Bs 34 (.slice (some ⟨Ba, 0, none⟩) 3 3) := (hW.block Bs hBs.lt).trans hBs
  have bBa : Blk3 W Ba 62 (.int .i64 x) (.int .i64 y) (.int .i64 z) := (hW.block Ba hBa.lt).trans hBa
  have cBs := bBs.cell
  refine callsIn_of_wp Try.func55 rfl trivial ?_ rfl
  simp only [Try.ntmps55, List.size_toArray, List.length_cons, List.length_nil, Nat.reduceAdd, Nat.reduceSub, Array.replicate_succ, Array.replicate_zero, List.push_toArray, List.append_toArray, List.nil_append, List.cons_append]
  gi_wp2
  clear cBs
  gi_loopw [3] (fun v3 wr => ∃ (i : Int) (pre : List (Int × Int)), v3 = .int .i64 i ∧ ((i = 2 ∧ pre = []) ∨ (i = 1 ∧ pre = [((2 : Int), z)]) ∨ (i = 0 ∧ pre = [((2 : Int), z), (1, y)]) ∨ (i = -1 ∧ pre = [((2 : Int), z), (1, y), (0, x)])) ∧ J pre wr ∧ Aside0 (Boxed wr Bs 34 (.slice (some ⟨Ba, 0, none⟩) 3 3)) ∧ Aside0 (Blk3 wr Ba 62 (.int .i64 x) (.int .i64 y) (.int .i64 z)))
    (fun v3 _ => (intOf v3 + 1).toNat)
  case atStart => exact ⟨2, [], rfl, .inl ⟨rfl, rfl⟩, h0, ⟨bBs⟩, ⟨bBa⟩⟩
  case round =>
    obtain ⟨i, pre, rfl, hc, hj, hb1, hb2⟩ := hrel
    have c1 := hb1.out.cell
    have d0 := hb2.out.c0
    have d1 := hb2.out.c1
    have d2 := hb2.out.c2
    have key : ∀ (i : Int) (pre : List (Int × Int)) (v : Int), pre.length < 3 → J pre wr → YieldAt Fence.wide (n - 1) Try.prog l (encB (i, v)) wr fun e W' => (e = .returned (.bool true) ∧ J (pre ++ [(i, v)]) W' ∧ Keep2 Bs Ba wr W') ∨ (e = .returned (.bool false) ∧ Jx (pre ++ [(i, v)]) W') := fun i pre v hl hj => hY pre (i, v) wr hj hl
    have KEY := Aside0.mk key
    clear key
    rcases hc with ⟨rfl, rfl⟩ | ⟨rfl, rfl⟩ | ⟨rfl, rfl⟩ | ⟨rfl, rfl⟩
    · obtain ⟨fn, tmps, assign, body, hyy, hR⟩ := KEY.out 2 [] z (by simp) hj
      simp only [encB] at hyy
      gi_wp2
      refine ⟨fun _ => by omega, hR.mono ?_⟩
      rintro e W3 (⟨rfl, hJ3, hk3⟩ | ⟨rfl, hJx3⟩)
      · gi_wp2
        go_roundw
        case rel => exact ⟨1, _, rfl, .inr (.inl ⟨rfl, rfl⟩), hJ3, ⟨hk3.1.trans hb1.out⟩, ⟨hk3.2.trans hb2.out⟩⟩
        case measure => simp [intOf]
      · gi_wp2
        refine bodyPost_ret (results_none rfl _ _ _) rfl ?_
        exact ⟨⟨_, rfl⟩, .inr ⟨_, ⟨_, rfl⟩, hJx3⟩⟩
    · obtain ⟨fn, tmps, assign, body, hyy, hR⟩ := KEY.out 1 _ y (by simp) hj
      simp only [encB] at hyy
      gi_wp2
      refine ⟨fun _ => by omega, hR.mono ?_⟩
      rintro e W3 (⟨rfl, hJ3, hk3⟩ | ⟨rfl, hJx3⟩)
      · gi_wp2
        go_roundw
        case rel => exact ⟨0, _, rfl, .inr (.inr (.inl ⟨rfl, rfl⟩)), hJ3, ⟨hk3.1.trans hb1.out⟩, ⟨hk3.2.trans hb2.out⟩⟩
        case measure => simp [intOf]
      · gi_wp2
        refine bodyPost_ret (results_none rfl _ _ _) rfl ?_
        exact ⟨⟨_, rfl⟩, .inr ⟨_, ⟨_, rfl⟩, hJx3⟩⟩
    · obtain ⟨fn, tmps, assign, body, hyy, hR⟩ := KEY.out 0 _ x (by simp) hj
      simp only [encB] at hyy
      gi_wp2
      refine ⟨fun _ => by omega, hR.mono ?_⟩
      rintro e W3 (⟨rfl, hJ3, hk3⟩ | ⟨rfl, hJx3⟩)
      · gi_wp2
        go_roundw
        case rel => exact ⟨-1, _, rfl, .inr (.inr (.inr ⟨rfl, rfl⟩)), hJ3, ⟨hk3.1.trans hb1.out⟩, ⟨hk3.2.trans hb2.out⟩⟩
        case measure => simp [intOf]
      · gi_wp2
        refine bodyPost_ret (results_none rfl _ _ _) rfl ?_
        exact ⟨⟨_, rfl⟩, .inr ⟨_, ⟨_, rfl⟩, hJx3⟩⟩
    · gi_wp2
      go_end0
      exact ⟨⟨_, rfl⟩, .inl ⟨_, rfl, hj⟩⟩

end Go.Proofs.Ytocbjclflabmcaa.S
