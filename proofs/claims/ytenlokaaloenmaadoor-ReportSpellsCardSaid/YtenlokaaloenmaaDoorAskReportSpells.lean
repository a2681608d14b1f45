/- The pure statement of ReportSpells. -/
import Derived.Test.YtenlokaaloenmaaDoorS18
import Derived.Test.YtenlokaaloenmaaDoorOpens
namespace Go.Proofs.YtenlokaaloenmaaDoor.Pure
open Go.RowKit Go.Proofs.YtenlokaaloenmaaDoor.S Go.Proofs.YtenlokaaloenmaaDoorW.PrintWords Go.Proofs.YtenlokaaloenmaaDoorW.PrintLast
set_option linter.unusedVariables false

def wf66 (x : S66) : Prop := (Lit.int .i64 x.f0).wf = true ∧ (Lit.int .i64 x.f1).wf = true

theorem opens66 : Opens Tryd.prog 66 k66 wf66 := by
  intro H enc w base spare held fuel cs x h
  obtain ⟨xs, n, _, _, hcl, hl, hg⟩ := DataW.trod_struct Tryd.underlying66 h
  have hl' : xs.length = 2 := hl
  have cT : Tryd.prog.cellsOf 66 = 2 := by kernel_rfl
  rw [cT] at hcl
  obtain ⟨y0, e0⟩ : ∃ y, xs[0]? = some y := ⟨_, List.getElem?_eq_getElem (by omega)⟩
  have g0 := (hg 0 _ rfl).trans e0
  obtain ⟨a0, q0, w0⟩ := (Opens.int Tryd.underlying3) g0
  have c0 : Tryd.prog.cellsOf 3 = 1 := by kernel_rfl
  have r0 : (Kd.int .i64).K w a0 ((cs.drop 0).take (Tryd.prog.cellsOf 3)) := q0
  rw [c0] at r0
  obtain ⟨y1, e1⟩ : ∃ y, xs[1]? = some y := ⟨_, List.getElem?_eq_getElem (by omega)⟩
  have g1 := (hg 1 _ rfl).trans e1
  obtain ⟨a1, q1, w1⟩ := (Opens.int Tryd.underlying3) g1
  have c1 : Tryd.prog.cellsOf 3 = 1 := by kernel_rfl
  have r1 : (Kd.int .i64).K w a1 ((cs.drop 1).take (Tryd.prog.cellsOf 3)) := q1
  rw [c1] at r1
  have R : (Kd.pair (Kd.int .i64) (Kd.int .i64)).K w (a0, a1) ((cs.drop 0).take 2) := (pair_at (o := 0) (s0 := 1) (s1 := 1) r0 r1)
  rw [all_at hcl] at R
  exact ⟨⟨a0, a1⟩, R, ⟨w0, w1⟩⟩

def wf43 (x : S43) : Prop := (Lit.int .i64 x.f0).wf = true ∧ (Lit.int .i64 x.f1).wf = true ∧ True

theorem opens43 : Opens Tryd.prog 43 k43 wf43 := by
  intro H enc w base spare held fuel cs x h
  obtain ⟨xs, n, _, _, hcl, hl, hg⟩ := DataW.trod_struct Tryd.underlying43 h
  have hl' : xs.length = 3 := hl
  have cT : Tryd.prog.cellsOf 43 = 3 := by kernel_rfl
  rw [cT] at hcl
  obtain ⟨y0, e0⟩ : ∃ y, xs[0]? = some y := ⟨_, List.getElem?_eq_getElem (by omega)⟩
  have g0 := (hg 0 _ rfl).trans e0
  obtain ⟨a0, q0, w0⟩ := (Opens.int Tryd.underlying3) g0
  have c0 : Tryd.prog.cellsOf 3 = 1 := by kernel_rfl
  have r0 : (Kd.int .i64).K w a0 ((cs.drop 0).take (Tryd.prog.cellsOf 3)) := q0
  rw [c0] at r0
  obtain ⟨y1, e1⟩ : ∃ y, xs[1]? = some y := ⟨_, List.getElem?_eq_getElem (by omega)⟩
  have g1 := (hg 1 _ rfl).trans e1
  obtain ⟨a1, q1, w1⟩ := (Opens.int Tryd.underlying3) g1
  have c1 : Tryd.prog.cellsOf 3 = 1 := by kernel_rfl
  have r1 : (Kd.int .i64).K w a1 ((cs.drop 1).take (Tryd.prog.cellsOf 3)) := q1
  rw [c1] at r1
  obtain ⟨y2, e2⟩ : ∃ y, xs[2]? = some y := ⟨_, List.getElem?_eq_getElem (by omega)⟩
  have g2 := (hg 2 _ rfl).trans e2
  obtain ⟨a2, q2, w2⟩ := (Opens.bool Tryd.underlying4) g2
  have c2 : Tryd.prog.cellsOf 4 = 1 := by kernel_rfl
  have r2 : Kd.bool.K w a2 ((cs.drop 2).take (Tryd.prog.cellsOf 4)) := q2
  rw [c2] at r2
  have R : (Kd.pair (Kd.int .i64) (Kd.pair (Kd.int .i64) Kd.bool)).K w (a0, (a1, a2)) ((cs.drop 0).take 3) := (pair_at (o := 0) (s0 := 1) (s1 := 2) r0 (pair_at (o := 1) (s0 := 1) (s1 := 1) r1 r2))
  rw [all_at hcl] at R
  exact ⟨⟨a0, a1, a2⟩, R, ⟨w0, w1, w2⟩⟩

def wf41 (x : S41) : Prop := (Lit.int .i64 x.f0).wf = true ∧ (x.f1.length ≤ maxLen ∧ ∀ y ∈ x.f1, wf66 y) ∧ (x.f2.length ≤ maxLen ∧ ∀ y ∈ x.f2, wf43 y) ∧ (Lit.int .u64 x.f3).wf = true ∧ (Lit.int .u64 x.f4).wf = true ∧ (Lit.int .i64 x.f5).wf = true

theorem opens41 : Opens Tryd.prog 41 k41 wf41 := by
  intro H enc w base spare held fuel cs x h
  obtain ⟨xs, n, _, _, hcl, hl, hg⟩ := DataW.trod_struct Tryd.underlying41 h
  have hl' : xs.length = 6 := hl
  have cT : Tryd.prog.cellsOf 41 = 6 := by kernel_rfl
  rw [cT] at hcl
  obtain ⟨y0, e0⟩ : ∃ y, xs[0]? = some y := ⟨_, List.getElem?_eq_getElem (by omega)⟩
  have g0 := (hg 0 _ rfl).trans e0
  obtain ⟨a0, q0, w0⟩ := (Opens.int Tryd.underlying3) g0
  have c0 : Tryd.prog.cellsOf 3 = 1 := by kernel_rfl
  have r0 : (Kd.int .i64).K w a0 ((cs.drop 0).take (Tryd.prog.cellsOf 3)) := q0
  rw [c0] at r0
  obtain ⟨y1, e1⟩ : ∃ y, xs[1]? = some y := ⟨_, List.getElem?_eq_getElem (by omega)⟩
  have g1 := (hg 1 _ rfl).trans e1
  obtain ⟨a1, q1, w1⟩ := (Opens.slice Tryd.underlying37 (by kernel_rfl) opens66) g1
  have c1 : Tryd.prog.cellsOf 37 = 1 := by kernel_rfl
  have r1 : (Kd.slice 66 k66).K w a1 ((cs.drop 1).take (Tryd.prog.cellsOf 37)) := q1
  rw [c1] at r1
  obtain ⟨y2, e2⟩ : ∃ y, xs[2]? = some y := ⟨_, List.getElem?_eq_getElem (by omega)⟩
  have g2 := (hg 2 _ rfl).trans e2
  obtain ⟨a2, q2, w2⟩ := (Opens.slice Tryd.underlying38 (by kernel_rfl) opens43) g2
  have c2 : Tryd.prog.cellsOf 38 = 1 := by kernel_rfl
  have r2 : (Kd.slice 43 k43).K w a2 ((cs.drop 2).take (Tryd.prog.cellsOf 38)) := q2
  rw [c2] at r2
  obtain ⟨y3, e3⟩ : ∃ y, xs[3]? = some y := ⟨_, List.getElem?_eq_getElem (by omega)⟩
  have g3 := (hg 3 _ rfl).trans e3
  obtain ⟨a3, q3, w3⟩ := (Opens.int Tryd.underlying39) g3
  have c3 : Tryd.prog.cellsOf 39 = 1 := by kernel_rfl
  have r3 : (Kd.int .u64).K w a3 ((cs.drop 3).take (Tryd.prog.cellsOf 39)) := q3
  rw [c3] at r3
  obtain ⟨y4, e4⟩ : ∃ y, xs[4]? = some y := ⟨_, List.getElem?_eq_getElem (by omega)⟩
  have g4 := (hg 4 _ rfl).trans e4
  obtain ⟨a4, q4, w4⟩ := (Opens.int Tryd.underlying39) g4
  have c4 : Tryd.prog.cellsOf 39 = 1 := by kernel_rfl
  have r4 : (Kd.int .u64).K w a4 ((cs.drop 4).take (Tryd.prog.cellsOf 39)) := q4
  rw [c4] at r4
  obtain ⟨y5, e5⟩ : ∃ y, xs[5]? = some y := ⟨_, List.getElem?_eq_getElem (by omega)⟩
  have g5 := (hg 5 _ rfl).trans e5
  obtain ⟨a5, q5, w5⟩ := (Opens.int Tryd.underlying3) g5
  have c5 : Tryd.prog.cellsOf 3 = 1 := by kernel_rfl
  have r5 : (Kd.int .i64).K w a5 ((cs.drop 5).take (Tryd.prog.cellsOf 3)) := q5
  rw [c5] at r5
  have R : (Kd.pair (Kd.int .i64) (Kd.pair (Kd.slice 66 k66) (Kd.pair (Kd.slice 43 k43) (Kd.pair (Kd.int .u64) (Kd.pair (Kd.int .u64) (Kd.int .i64)))))).K w (a0, (a1, (a2, (a3, (a4, a5))))) ((cs.drop 0).take 6) := (pair_at (o := 0) (s0 := 1) (s1 := 5) r0 (pair_at (o := 1) (s0 := 1) (s1 := 4) r1 (pair_at (o := 2) (s0 := 1) (s1 := 3) r2 (pair_at (o := 3) (s0 := 1) (s1 := 2) r3 (pair_at (o := 4) (s0 := 1) (s1 := 1) r4 r5)))))
  rw [all_at hcl] at R
  exact ⟨⟨a0, a1, a2, a3, a4, a5⟩, R, ⟨w0, w1, w2, w3, w4, w5⟩⟩

def ReportSpells.Stmt : Prop := ∀ (l0 : List (S41)) (a1 : Int) (a2 : Int) (a3 : Int) (a4 : Bool), (l0.length ≤ maxLen ∧ ∀ y ∈ l0, wf41 y) → (Lit.int .i64 a1).wf = true → (Lit.int .i64 a2).wf = true → (Lit.int .i64 a3).wf = true → ∃ k, tipstafflaw43_ReportSpells.f k l0 a1 a2 a3 a4 = some true

end Go.Proofs.YtenlokaaloenmaaDoor.Pure
