/- The numbers of two parts of a run add up, but for lights. -/
import Derived.Test.YtenlokaaloenmaaDoorRp12
import Derived.Test.YtenlokaaloenmaaDoorAskReportParts
set_option linter.unusedVariables false
namespace Go.Proofs.YtenlokaaloenmaaDoor.Pure
open Go.RowKit Go.Proofs.YtenlokaaloenmaaDoor.S Go.Proofs.YtenlokaaloenmaaDoorW.PrintWords Go.Proofs.YtenlokaaloenmaaDoorW.PrintLast Go.Proofs.YtenlokaaloenmaaDoorW.PrintMore
set_option linter.unusedVariables false
set_option linter.unusedSimpArgs false

theorem Md.coV {l : List S41} {c : Nat} {t0 : Int} (h : Md l c t0) : coV l 2 = (coN l 2 (pcX l), 0) := by
  unfold Pure.coV
  rw [h.chk, if_pos rfl, if_neg (by decide)]
open Classical in
theorem parts_rest {l : List S41} {c : Nat} {t0 : Int} (h : Md l c t0) (m : Int) (h0 : 0 ≤ m) (h1 : m ≤ l.length) : Ev (fun k => (report_Count.f k (l.take m.toNat) 2).bind fun x => (report_Count.f k (l.drop m.toNat) 2).bind fun y => (report_Count.f k l 2).bind fun z =>
    if (0 ≤ m ∧ m ≤ (l.length : Int)) ∧ l.length ≤ 40 ∧ (∀ v ∈ l, Pure.WV v) ∧ (Num8 x.1 ∧ Num8 y.1 ∧ Num8 z.1) ∧ (x.2 = 0 ∧ y.2 = 0 ∧ z.2 = 0) ∧ PartsOk x.1 y.1 z.1 l.length then some true else none) true := by
  have hm : m.toNat ≤ l.length := by omega
  have hx := h.take m.toNat
  have hy := h.drop m.toNat hm
  refine Ev.bind (f := fun x k => (report_Count.f k (l.drop m.toNat) 2).bind fun y => (report_Count.f k l 2).bind fun z => if (0 ≤ m ∧ m ≤ (l.length : Int)) ∧ l.length ≤ 40 ∧ (∀ v ∈ l, Pure.WV v) ∧ (Num8 x.1 ∧ Num8 y.1 ∧ Num8 z.1) ∧ (x.2 = 0 ∧ y.2 = 0 ∧ z.2 = 0) ∧ PartsOk x.1 y.1 z.1 l.length then some true else none) (count_ev _ hx.wv 2) ?_
  refine Ev.bind (f := fun y k => (report_Count.f k l 2).bind fun z => if (0 ≤ m ∧ m ≤ (l.length : Int)) ∧ l.length ≤ 40 ∧ (∀ v ∈ l, Pure.WV v) ∧ (Num8 (Pure.coV (l.take m.toNat) 2).1 ∧ Num8 y.1 ∧ Num8 z.1) ∧ ((Pure.coV (l.take m.toNat) 2).2 = 0 ∧ y.2 = 0 ∧ z.2 = 0) ∧ PartsOk (Pure.coV (l.take m.toNat) 2).1 y.1 z.1 l.length then some true else none) (count_ev _ hy.wv 2) ?_
  refine Ev.bind (f := fun z (_ : Nat) => if (0 ≤ m ∧ m ≤ (l.length : Int)) ∧ l.length ≤ 40 ∧ (∀ v ∈ l, Pure.WV v) ∧ (Num8 (Pure.coV (l.take m.toNat) 2).1 ∧ Num8 (Pure.coV (l.drop m.toNat) 2).1 ∧ Num8 z.1) ∧ ((Pure.coV (l.take m.toNat) 2).2 = 0 ∧ (Pure.coV (l.drop m.toNat) 2).2 = 0 ∧ z.2 = 0) ∧ PartsOk (Pure.coV (l.take m.toNat) 2).1 (Pure.coV (l.drop m.toNat) 2).1 z.1 l.length then some true else none) (count_ev _ h.wv 2) (Ev.of_eq ?_)
  have ok := parts_ok h m.toNat hm
  have c1 := coV_8 (l.take m.toNat) 2
  have c2 := coV_8 (l.drop m.toNat) 2
  have c3 := coV_8 l 2
  rw [hx.coV] at c1 ⊢
  rw [hy.coV] at c2 ⊢
  rw [h.coV] at c3 ⊢
  rw [if_pos ⟨⟨h0, h1⟩, h.len, h.wv, ⟨c1, c2, c3⟩, ⟨rfl, rfl, rfl⟩, ok⟩]

open Classical in
theorem ReportParts : ReportParts.Stmt := by
  intro a0 a1 l2 a3 w0 w1 w2 _ w3
  obtain ⟨l, c, t0, h, he⟩ := made_ev a0 a1 l2 (i64_of w0) (i64_of w1) (fun z hz => i64_of (w2.2 z hz))
  have hl := h.len
  obtain ⟨m, hm, m0, m1⟩ := mod_val a3 ((l.length : Int) + 1) (i64_of w3) (by omega) (by omega)
  have g := Ev.bind (f := fun l k => (tipstaffkit_Mod.f a3 ((l.length : Int) + 1)).bind fun m => (report_Count.f k (l.take m.toNat) 2).bind fun x => (report_Count.f k (l.drop m.toNat) 2).bind fun y => (report_Count.f k l 2).bind fun z =>
    if (0 ≤ m ∧ m ≤ (l.length : Int)) ∧ l.length ≤ 40 ∧ (∀ v ∈ l, Pure.WV v) ∧ (Num8 x.1 ∧ Num8 y.1 ∧ Num8 z.1) ∧ (x.2 = 0 ∧ y.2 = 0 ∧ z.2 = 0) ∧ PartsOk x.1 y.1 z.1 l.length then some true else none) he (u := true) ((parts_rest h m m0 (by omega)).congr (fun k => by rw [hm, Option.bind_some]))
  exact g.get

end Go.Proofs.YtenlokaaloenmaaDoor.Pure
