/- The pure statement of PanelSwings. -/
import Derived.Test.YtbkidegpgpccfaaS16
import Derived.Test.YtbkidegpgpccfaaOpens
namespace Go.Proofs.Ytbkidegpgpccfaa.Pure
open Go.RowKit Go.Proofs.Ytbkidegpgpccfaa.S Go.Proofs.YtbkidegpgpccfaaW.PrintWords Go.Proofs.YtbkidegpgpccfaaW.PrintLast
set_option linter.unusedVariables false

def wf23 (x : (Int) × (Int) × (Int)) : Prop := (Lit.int .i64 x.1).wf = true ∧ (Lit.int .i64 x.2.1).wf = true ∧ (Lit.int .i64 x.2.2).wf = true

theorem opens23 : Opens Try.prog 23 (Kd.pair (Kd.int .i64) (Kd.pair (Kd.int .i64) (Kd.int .i64))) wf23 := by
  intro H enc w base spare held fuel cs x h
  obtain ⟨xs, n, _, _, hcl, hl, hg⟩ := DataW.trod_struct Try.underlying23 h
  have hl' : xs.length = 3 := hl
  have cT : Try.prog.cellsOf 23 = 3 := by kernel_rfl
  rw [cT] at hcl
  obtain ⟨y0, e0⟩ : ∃ y, xs[0]? = some y := ⟨_, List.getElem?_eq_getElem (by omega)⟩
  have g0 := (hg 0 _ rfl).trans e0
  obtain ⟨a0, q0, w0⟩ := (Opens.int Try.underlying3) g0
  have c0 : Try.prog.cellsOf 3 = 1 := by kernel_rfl
  have r0 : (Kd.int .i64).K w a0 ((cs.drop 0).take (Try.prog.cellsOf 3)) := q0
  rw [c0] at r0
  obtain ⟨y1, e1⟩ : ∃ y, xs[1]? = some y := ⟨_, List.getElem?_eq_getElem (by omega)⟩
  have g1 := (hg 1 _ rfl).trans e1
  obtain ⟨a1, q1, w1⟩ := (Opens.int Try.underlying3) g1
  have c1 : Try.prog.cellsOf 3 = 1 := by kernel_rfl
  have r1 : (Kd.int .i64).K w a1 ((cs.drop 1).take (Try.prog.cellsOf 3)) := q1
  rw [c1] at r1
  obtain ⟨y2, e2⟩ : ∃ y, xs[2]? = some y := ⟨_, List.getElem?_eq_getElem (by omega)⟩
  have g2 := (hg 2 _ rfl).trans e2
  obtain ⟨a2, q2, w2⟩ := (Opens.int Try.underlying3) g2
  have c2 : Try.prog.cellsOf 3 = 1 := by kernel_rfl
  have r2 : (Kd.int .i64).K w a2 ((cs.drop 2).take (Try.prog.cellsOf 3)) := q2
  rw [c2] at r2
  have R : (Kd.pair (Kd.int .i64) (Kd.pair (Kd.int .i64) (Kd.int .i64))).K w (a0, (a1, a2)) ((cs.drop 0).take 3) := (pair_at (o := 0) (s0 := 1) (s1 := 2) r0 (pair_at (o := 1) (s0 := 1) (s1 := 1) r1 r2))
  rw [all_at hcl] at R
  exact ⟨(a0, (a1, a2)), R, ⟨w0, w1, w2⟩⟩

def PanelSwings.Stmt : Prop := ∀ (a0_0 : Int) (a0_1 : Int) (a0_2 : Int) (l1 : List (Int)) (a2 : Int) (a3 : Int), (Lit.int .i64 a0_0).wf = true → (Lit.int .i64 a0_1).wf = true → (Lit.int .i64 a0_2).wf = true → (l1.length ≤ maxLen ∧ ∀ y ∈ l1, (Lit.int .i64 y).wf = true) → l1.length * 8 ≤ 140737488351232 → (Lit.int .i64 a2).wf = true → (Lit.int .i64 a3).wf = true → ∃ k, tipstafflaw16_PanelSwings.f k a0_0 a0_1 a0_2 l1 a2 a3 = some true

end Go.Proofs.Ytbkidegpgpccfaa.Pure
