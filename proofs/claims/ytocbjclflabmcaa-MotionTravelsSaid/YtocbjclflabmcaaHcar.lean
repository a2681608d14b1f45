/- The car of motion in memory: what is left of its way, and which way it goes. -/
import Derived.Outline
import Derived.Defers
import Derived.Recover
import Derived.StillTailTactics
import Derived.Test.YtocbjclflabmcaaS0
import Derived.Test.YtocbjclflabmcaaNums
namespace Go.Proofs.Ytocbjclflabmcaa.S
open Go.RowKit Go.Proofs.YtocbjclflabmcaaW.PrintWords Go.Proofs.YtocbjclflabmcaaW.PrintLast Go.Proofs.YtocbjclflabmcaaW.PrintMore
set_option linter.unusedVariables false
set_option linter.unusedSimpArgs false

/-- A car in memory: place, goal, speed, greatest speed. -/
def Car (w : World) (B : Nat) (p g s m : Int) : Prop := w.heap[B]? = some (.cells #[.int .i64 p, .int .i64 g, .int .i64 s, .int .i64 m] 48 (0, 0))
theorem Car.c0 {w : World} {B : Nat} {p g s m : Int} (h : Car w B p g s m) : w.cell? ⟨B, 0, none⟩ = some (.int .i64 p) := by unfold Car at h; simp [World.cell?, h]
theorem Car.c1 {w : World} {B : Nat} {p g s m : Int} (h : Car w B p g s m) : w.cell? ⟨B, 1, none⟩ = some (.int .i64 g) := by unfold Car at h; simp [World.cell?, h]
theorem Car.c2 {w : World} {B : Nat} {p g s m : Int} (h : Car w B p g s m) : w.cell? ⟨B, 2, none⟩ = some (.int .i64 s) := by unfold Car at h; simp [World.cell?, h]
theorem Car.c3 {w : World} {B : Nat} {p g s m : Int} (h : Car w B p g s m) : w.cell? ⟨B, 3, none⟩ = some (.int .i64 m) := by unfold Car at h; simp [World.cell?, h]
theorem Car.fr {w : World} {B : Nat} {p g s m : Int} (h : Car w B p g s m) (o : Nat) : w.frozen? ⟨B, o, none⟩ = false := by unfold Car at h; simp [World.frozen?, h]
theorem Car.lt {w : World} {B : Nat} {p g s m : Int} (h : Car w B p g s m) : B < w.heap.size := (Array.getElem?_eq_some_iff.1 h).1
theorem Car.below {w w' : World} {B n : Nat} {p g s m : Int} (h : Car w B p g s m) (hb : Below n w w') (hn : B < n) : Car w' B p g s m := (hb.block B hn).trans h
theorem Car.alloc {w : World} {B : Nat} {p g s m : Int} (h : Car w B p g s m) (o : Obj) : Car (w.alloc o) B p g s m := (Below.heap_alloc w o B h.lt).trans h
theorem Car.new (w : World) (p g s m : Int) : Car (w.alloc (.cells #[.int .i64 p, .int .i64 g, .int .i64 s, .int .i64 m] 48)) w.heap.size p g s m := heap_alloc_new w _
theorem Car.far {w : World} {B : Nat} {p g s m : Int} (h : Car w B p g s m) (a : Addr) (u : Value) (hne : B ≠ a.block) : Car (w.setCell a u) B p g s m := (Below.heap_setCell w a u B hne).trans h
theorem Car.setPos {w : World} {B : Nat} {p g s m : Int} (h : Car w B p g s m) (u : Int) : Car (w.setCell ⟨B, 0, none⟩ (.int .i64 u)) B u g s m := by
  unfold Car at h ⊢
  obtain ⟨hl, he⟩ := Array.getElem?_eq_some_iff.1 h
  simp [World.setCell, hl, Array.getElem_modify, he]
theorem Car.setGoal {w : World} {B : Nat} {p g s m : Int} (h : Car w B p g s m) (u : Int) : Car (w.setCell ⟨B, 1, none⟩ (.int .i64 u)) B p u s m := by
  unfold Car at h ⊢
  obtain ⟨hl, he⟩ := Array.getElem?_eq_some_iff.1 h
  simp [World.setCell, hl, Array.getElem_modify, he]
theorem Car.setSpeed {w : World} {B : Nat} {p g s m : Int} (h : Car w B p g s m) (u : Int) : Car (w.setCell ⟨B, 2, none⟩ (.int .i64 u)) B p g u m := by
  unfold Car at h ⊢
  obtain ⟨hl, he⟩ := Array.getElem?_eq_some_iff.1 h
  simp [World.setCell, hl, Array.getElem_modify, he]

def restV (p g : Int) : Int := wrap64 ((mx p g) - (mn p g))
def wayV (p g : Int) : Int := if g < p then -1 else 1

set_option maxHeartbeats 1000000 in
set_option maxRecDepth 100000 in
theorem way_any (B : Nat) (p g s m : Int) (w : World) (h : Car w B p g s m) : Calls Try.prog 47 #[.pointer (some ⟨B, 0, none⟩)] w fun e w' => e = .returned (.int .i64 (wayV p g)) ∧ Drawn0 w w' := by
  have hu := Try.underlying48
  have c0 := h.c0
  have c1 := h.c1
  go_enter Try.func47, Try.ntmps47
  go_wp2_with fail
  cases hd : decide (g < p) with
  | true =>
    have E := Aside0.mk (show wayV p g = -1 from if_pos (of_decide_eq_true hd))
    go_quiet (fail)
    go_wp2_with fail
    go_ret
    exact ⟨by rw [E.out]; rfl, ⟨⟨_, rfl⟩⟩⟩
  | false =>
    have E := Aside0.mk (show wayV p g = 1 from if_neg (of_decide_eq_false hd))
    go_quiet (fail)
    go_wp2_with fail
    go_ret
    exact ⟨by rw [E.out]; rfl, ⟨⟨_, rfl⟩⟩⟩

set_option maxHeartbeats 1000000 in
set_option maxRecDepth 100000 in
theorem rest_any (B : Nat) (p g s m : Int) (w : World) (h : Car w B p g s m) : Calls Try.prog 37 #[.pointer (some ⟨B, 0, none⟩)] w fun e w' => e = .returned (.int .i64 (restV p g)) ∧ Drawn0 w w' := by
  have hu := Try.underlying48
  have c0 := h.c0
  have c1 := h.c1
  unfold restV
  go_enter Try.func37, Try.ntmps37
  go_wp2_with fail
  go_quiet (fail)
  obtain ⟨V, hV⟩ : ∃ V, wrap64 ((if p < g then g else p) - if g < p then g else p) = V := ⟨_, rfl⟩
  rw [hV]
  have HV := Aside0.mk hV
  clear hV
  go_wp2_with fail
  all_goals go_ret
  all_goals exact ⟨by rw [← HV.out]; rfl, ⟨⟨_, rfl⟩⟩⟩

theorem Car.drewN {w : World} {B : Nat} {p g s m : Int} (h : Car w B p g s m) (n : Nat) : Car (w.drewN n) B p g s m := h
theorem way_q (B : Nat) (p g s m : Int) (w : World) (n : Nat) (h : Car w B p g s m) : Calls Try.prog 47 #[.pointer (some ⟨B, 0, none⟩)] (w.drewN n) fun e w'' => e = .returned (.int .i64 (wayV p g)) ∧ ∃ k, w'' = w.drewN k :=
  Calls.quiet_of ((way_any B p g s m _ (h.drewN n)).mono fun _ _ ⟨he, hd⟩ => ⟨he, hd.out⟩)
theorem rest_q (B : Nat) (p g s m : Int) (w : World) (n : Nat) (h : Car w B p g s m) : Calls Try.prog 37 #[.pointer (some ⟨B, 0, none⟩)] (w.drewN n) fun e w'' => e = .returned (.int .i64 (restV p g)) ∧ ∃ k, w'' = w.drewN k :=
  Calls.quiet_of ((rest_any B p g s m _ (h.drewN n)).mono fun _ _ ⟨he, hd⟩ => ⟨he, hd.out⟩)

end Go.Proofs.Ytocbjclflabmcaa.S
