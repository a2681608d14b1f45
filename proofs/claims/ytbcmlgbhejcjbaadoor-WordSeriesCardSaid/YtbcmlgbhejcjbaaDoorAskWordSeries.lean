/- The pure statement of WordSeries. -/
import Derived.Test.YtbcmlgbhejcjbaaDoorS13
import Derived.Test.YtbcmlgbhejcjbaaDoorOpens
namespace Go.Proofs.YtbcmlgbhejcjbaaDoor.Pure
open Go.RowKit Go.Proofs.YtbcmlgbhejcjbaaDoor.S Go.Proofs.YtbcmlgbhejcjbaaDoorW.PrintWords Go.Proofs.YtbcmlgbhejcjbaaDoorW.PrintLast
set_option linter.unusedVariables false

def wf38 (x : S38) : Prop := (Lit.int .i64 x.f0).wf = true ∧ (Lit.int .i64 x.f1).wf = true ∧ (Lit.int .i64 x.f2).wf = true ∧ x.f3.size ≤ maxLen ∧ (Lit.int .i64 x.f4).wf = true ∧ (Lit.int .i64 x.f5).wf = true ∧ (Lit.int .i64 x.f6).wf = true

theorem opens38 : Opens Tryd.prog 38 k38 wf38 := by
  intro H enc w base spare held fuel cs x h
  obtain ⟨xs, n, _, _, hcl, hl, hg⟩ := DataW.trod_struct Tryd.underlying38 h
  have hl' : xs.length = 7 := hl
  have cT : Tryd.prog.cellsOf 38 = 7 := by kernel_rfl
  rw [cT] at hcl
  obtain ⟨y0, e0⟩ : ∃ y, xs[0]? = some y := ⟨_, List.getElem?_eq_getElem (by omega)⟩
  have g0 := (hg 0 _ rfl).trans e0
  obtain ⟨a0, q0, w0⟩ := (Opens.int Tryd.underlying3) g0
  have c0 : Tryd.prog.cellsOf 3 = 1 := by kernel_rfl
  have r0 : (Kd.int .i64).K w a0 ((cs.drop 0).take (Tryd.prog.cellsOf 3)) := q0
  rw [c0] at r0
  obtain ⟨y1, e1⟩ : ∃ y, xs[1]? = some y := ⟨_, List.getElem?_eq_getElem (by omega)⟩
  have g1 := (hg 1 _ rfl).trans e1
  obtain ⟨a1, q1, w1⟩ := (Opens.int Tryd.underlying3) g1
  have c1 : Tryd.prog.cellsOf 3 = 1 := by kernel_rfl
  have r1 : (Kd.int .i64).K w a1 ((cs.drop 1).take (Tryd.prog.cellsOf 3)) := q1
  rw [c1] at r1
  obtain ⟨y2, e2⟩ : ∃ y, xs[2]? = some y := ⟨_, List.getElem?_eq_getElem (by omega)⟩
  have g2 := (hg 2 _ rfl).trans e2
  obtain ⟨a2, q2, w2⟩ := (Opens.int Tryd.underlying3) g2
  have c2 : Tryd.prog.cellsOf 3 = 1 := by kernel_rfl
  have r2 : (Kd.int .i64).K w a2 ((cs.drop 2).take (Tryd.prog.cellsOf 3)) := q2
  rw [c2] at r2
  obtain ⟨y3, e3⟩ : ∃ y, xs[3]? = some y := ⟨_, List.getElem?_eq_getElem (by omega)⟩
  have g3 := (hg 3 _ rfl).trans e3
  obtain ⟨a3, q3, w3⟩ := (Opens.string Tryd.underlying9) g3
  have c3 : Tryd.prog.cellsOf 9 = 1 := by kernel_rfl
  have r3 : Kd.string.K w a3 ((cs.drop 3).take (Tryd.prog.cellsOf 9)) := q3
  rw [c3] at r3
  obtain ⟨y4, e4⟩ : ∃ y, xs[4]? = some y := ⟨_, List.getElem?_eq_getElem (by omega)⟩
  have g4 := (hg 4 _ rfl).trans e4
  obtain ⟨a4, q4, w4⟩ := (Opens.int Tryd.underlying3) g4
  have c4 : Tryd.prog.cellsOf 3 = 1 := by kernel_rfl
  have r4 : (Kd.int .i64).K w a4 ((cs.drop 4).take (Tryd.prog.cellsOf 3)) := q4
  rw [c4] at r4
  obtain ⟨y5, e5⟩ : ∃ y, xs[5]? = some y := ⟨_, List.getElem?_eq_getElem (by omega)⟩
  have g5 := (hg 5 _ rfl).trans e5
  obtain ⟨a5, q5, w5⟩ := (Opens.int Tryd.underlying3) g5
  have c5 : Tryd.prog.cellsOf 3 = 1 := by kernel_rfl
  have r5 : (Kd.int .i64).K w a5 ((cs.drop 5).take (Tryd.prog.cellsOf 3)) := q5
  rw [c5] at r5
  obtain ⟨y6, e6⟩ : ∃ y, xs[6]? = some y := ⟨_, List.getElem?_eq_getElem (by omega)⟩
  have g6 := (hg 6 _ rfl).trans e6
  obtain ⟨a6, q6, w6⟩ := (Opens.int Tryd.underlying3) g6
  have c6 : Tryd.prog.cellsOf 3 = 1 := by kernel_rfl
  have r6 : (Kd.int .i64).K w a6 ((cs.drop 6).take (Tryd.prog.cellsOf 3)) := q6
  rw [c6] at r6
  have R : (Kd.pair (Kd.int .i64) (Kd.pair (Kd.int .i64) (Kd.pair (Kd.int .i64) (Kd.pair Kd.string (Kd.pair (Kd.int .i64) (Kd.pair (Kd.int .i64) (Kd.int .i64))))))).K w (a0, (a1, (a2, (a3, (a4, (a5, a6)))))) ((cs.drop 0).take 7) := (pair_at (o := 0) (s0 := 1) (s1 := 6) r0 (pair_at (o := 1) (s0 := 1) (s1 := 5) r1 (pair_at (o := 2) (s0 := 1) (s1 := 4) r2 (pair_at (o := 3) (s0 := 1) (s1 := 3) r3 (pair_at (o := 4) (s0 := 1) (s1 := 2) r4 (pair_at (o := 5) (s0 := 1) (s1 := 1) r5 r6))))))
  rw [all_at hcl] at R
  exact ⟨⟨a0, a1, a2, a3, a4, a5, a6⟩, R, ⟨w0, w1, w2, w3, w4, w5, w6⟩⟩

def wf44 (x : (Int) × (Int) × (Int)) : Prop := (Lit.int .i64 x.1).wf = true ∧ (Lit.int .i64 x.2.1).wf = true ∧ (Lit.int .i64 x.2.2).wf = true

theorem opens44 : Opens Tryd.prog 44 (Kd.pair (Kd.int .i64) (Kd.pair (Kd.int .i64) (Kd.int .i64))) wf44 := by
  intro H enc w base spare held fuel cs x h
  obtain ⟨xs, n, _, _, hcl, hl, hg⟩ := DataW.trod_struct Tryd.underlying44 h
  have hl' : xs.length = 3 := hl
  have cT : Tryd.prog.cellsOf 44 = 3 := by kernel_rfl
  rw [cT] at hcl
  obtain ⟨y0, e0⟩ : ∃ y, xs[0]? = some y := ⟨_, List.getElem?_eq_getElem (by omega)⟩
  have g0 := (hg 0 _ rfl).trans e0
  obtain ⟨a0, q0, w0⟩ := (Opens.int Tryd.underlying3) g0
  have c0 : Tryd.prog.cellsOf 3 = 1 := by kernel_rfl
  have r0 : (Kd.int .i64).K w a0 ((cs.drop 0).take (Tryd.prog.cellsOf 3)) := q0
  rw [c0] at r0
  obtain ⟨y1, e1⟩ : ∃ y, xs[1]? = some y := ⟨_, List.getElem?_eq_getElem (by omega)⟩
  have g1 := (hg 1 _ rfl).trans e1
  obtain ⟨a1, q1, w1⟩ := (Opens.int Tryd.underlying3) g1
  have c1 : Tryd.prog.cellsOf 3 = 1 := by kernel_rfl
  have r1 : (Kd.int .i64).K w a1 ((cs.drop 1).take (Tryd.prog.cellsOf 3)) := q1
  rw [c1] at r1
  obtain ⟨y2, e2⟩ : ∃ y, xs[2]? = some y := ⟨_, List.getElem?_eq_getElem (by omega)⟩
  have g2 := (hg 2 _ rfl).trans e2
  obtain ⟨a2, q2, w2⟩ := (Opens.int Tryd.underlying3) g2
  have c2 : Tryd.prog.cellsOf 3 = 1 := by kernel_rfl
  have r2 : (Kd.int .i64).K w a2 ((cs.drop 2).take (Tryd.prog.cellsOf 3)) := q2
  rw [c2] at r2
  have R : (Kd.pair (Kd.int .i64) (Kd.pair (Kd.int .i64) (Kd.int .i64))).K w (a0, (a1, a2)) ((cs.drop 0).take 3) := (pair_at (o := 0) (s0 := 1) (s1 := 2) r0 (pair_at (o := 1) (s0 := 1) (s1 := 1) r1 r2))
  rw [all_at hcl] at R
  exact ⟨(a0, (a1, a2)), R, ⟨w0, w1, w2⟩⟩

def WordSeries.Stmt : Prop := ∀ (l0 : List (Int)) (l1 : List (S38)) (a2_0 : Int) (a2_1 : Int) (a2_2 : Int), (l0.length ≤ maxLen ∧ ∀ y ∈ l0, (Lit.int .i64 y).wf = true) → l0.length * 8 ≤ 140737488351232 → (l1.length ≤ maxLen ∧ ∀ y ∈ l1, wf38 y) → (Lit.int .i64 a2_0).wf = true → (Lit.int .i64 a2_1).wf = true → (Lit.int .i64 a2_2).wf = true → ∃ k, tipstafflaw33_WordSeries.f k l0 l1 a2_0 a2_1 a2_2 = some true

end Go.Proofs.YtbcmlgbhejcjbaaDoor.Pure
