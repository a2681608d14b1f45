/- The pure statement of MotionSteps. -/
import Derived.Test.YtocbjclflabmcaaS9
import Derived.Test.YtocbjclflabmcaaOpens
namespace Go.Proofs.Ytocbjclflabmcaa.Pure
open Go.RowKit Go.Proofs.Ytocbjclflabmcaa.S Go.Proofs.YtocbjclflabmcaaW.PrintWords Go.Proofs.YtocbjclflabmcaaW.PrintLast
set_option linter.unusedVariables false

def wf23 (x : (Int) × (Int) × (Int) × (Int)) : Prop := (Lit.int .i64 x.1).wf = true ∧ (Lit.int .i64 x.2.1).wf = true ∧ (Lit.int .i64 x.2.2.1).wf = true ∧ (Lit.int .i64 x.2.2.2).wf = true

theorem opens23 : Opens Try.prog 23 (Kd.pair (Kd.int .i64) (Kd.pair (Kd.int .i64) (Kd.pair (Kd.int .i64) (Kd.int .i64)))) wf23 := by
  intro H enc w base spare held fuel cs x h
  obtain ⟨xs, n, _, _, hcl, hl, hg⟩ := DataW.trod_struct Try.underlying23 h
  have hl' : xs.length = 4 := hl
  have cT : Try.prog.cellsOf 23 = 4 := by kernel_rfl
  rw [cT] at hcl
  obtain ⟨y0, e0⟩ : ∃ y, xs[0]? = some y := ⟨_, List.getElem?_eq_getElem (by omega)⟩
  have g0 := (hg 0 _ rfl).trans e0
  obtain ⟨a0, q0, w0⟩ := (Opens.int Try.underlying3) g0
  have c0 : Try.prog.cellsOf 3 = 1 := by kernel_rfl
  have r0 : (Kd.int .i64).K w a0 ((cs.drop 0).take (Try.prog.cellsOf 3)) := q0
  rw [c0] at r0
  obtain ⟨y1, e1⟩ : ∃ y, xs[1]? = some y := ⟨_, List.getElem?_eq_getElem (by omega)⟩
  have g1 := (hg 1 _ rfl).trans e1
  obtain ⟨a1, q1, w1⟩ := (Opens.int Try.underlying3) g1
  have c1 : Try.prog.cellsOf 3 = 1 := by kernel_rfl
  have r1 : (Kd.int .i64).K w a1 ((cs.drop 1).take (Try.prog.cellsOf 3)) := q1
  rw [c1] at r1
  obtain ⟨y2, e2⟩ : ∃ y, xs[2]? = some y := ⟨_, List.getElem?_eq_getElem (by omega)⟩
  have g2 := (hg 2 _ rfl).trans e2
  obtain ⟨a2, q2, w2⟩ := (Opens.int Try.underlying3) g2
  have c2 : Try.prog.cellsOf 3 = 1 := by kernel_rfl
  have r2 : (Kd.int .i64).K w a2 ((cs.drop 2).take (Try.prog.cellsOf 3)) := q2
  rw [c2] at r2
  obtain ⟨y3, e3⟩ : ∃ y, xs[3]? = some y := ⟨_, List.getElem?_eq_getElem (by omega)⟩
  have g3 := (hg 3 _ rfl).trans e3
  obtain ⟨a3, q3, w3⟩ := (Opens.int Try.underlying3) g3
  have c3 : Try.prog.cellsOf 3 = 1 := by kernel_rfl
  have r3 : (Kd.int .i64).K w a3 ((cs.drop 3).take (Try.prog.cellsOf 3)) := q3
  rw [c3] at r3
  have R : (Kd.pair (Kd.int .i64) (Kd.pair (Kd.int .i64) (Kd.pair (Kd.int .i64) (Kd.int .i64)))).K w (a0, (a1, (a2, a3))) ((cs.drop 0).take 4) := (pair_at (o := 0) (s0 := 1) (s1 := 3) r0 (pair_at (o := 1) (s0 := 1) (s1 := 2) r1 (pair_at (o := 2) (s0 := 1) (s1 := 1) r2 r3)))
  rw [all_at hcl] at R
  exact ⟨(a0, (a1, (a2, a3))), R, ⟨w0, w1, w2, w3⟩⟩

def MotionSteps.Stmt : Prop := ∀ (a0_0 : Int) (a0_1 : Int) (a0_2 : Int) (a0_3 : Int) (a1 : Int) (a2 : Int), (Lit.int .i64 a0_0).wf = true → (Lit.int .i64 a0_1).wf = true → (Lit.int .i64 a0_2).wf = true → (Lit.int .i64 a0_3).wf = true → (Lit.int .i64 a1).wf = true → (Lit.int .i64 a2).wf = true → ∃ k, tipstafflaw09_MotionSteps.f k a0_0 a0_1 a0_2 a0_3 a1 a2 = some true

end Go.Proofs.Ytocbjclflabmcaa.Pure
