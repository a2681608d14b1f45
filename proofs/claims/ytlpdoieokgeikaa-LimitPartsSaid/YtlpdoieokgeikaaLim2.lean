/- What Watch, Counts, Jumps and Stops come to, of the program and of the reference. -/
import Derived.Test.YtlpdoieokgeikaaS5
import Derived.Test.YtlpdoieokgeikaaS7
import Derived.Test.YtlpdoieokgeikaaLim1
namespace Go.Proofs.Ytlpdoieokgeikaa.Pure
open Go.RowKit Go.Proofs.Ytlpdoieokgeikaa.S Go.Proofs.YtlpdoieokgeikaaW.PrintWords Go.Proofs.YtlpdoieokgeikaaW.PrintLast
set_option linter.unusedVariables false
set_option linter.unusedSimpArgs false

/-- The first tick with a cause, and its first cause. -/
def watchG (h s : Int) : List S38 → Int → Int × Int
  | [], _ => (0, 0)
  | m :: ms, i => if 0 < (causV m h s).length then (rd (causV m h s) 0, i) else watchG h s ms (i + 1)
def watchV (l : List S38) (h s : Int) : Int × Int × Int := if askV l h s = 0 then ((watchG h s l 0).1, (watchG h s l 0).2, 0) else (0, 0, askV l h s)

theorem watch_loop (l : List S38) (h s : Int) (hl : l.length ≤ 10000) : ∀ (d i : Nat), i + d = l.length → Ev (fun k => limit_Watch.l0 k h s l (l.length : Int) (i : Int)) ((watchG h s (l.drop i) i).1, (watchG h s (l.drop i) i).2, 0) := by
  intro d
  induction d with
  | zero =>
    intro i hi
    refine (Ev.const _).step (fun k => ?_)
    rw [limit_Watch.l0, if_neg (by omega), List.drop_eq_nil_of_le (by omega)]; rfl
  | succ d ih =>
    intro i hi
    rw [rd38_drop l i (by omega), watchG]
    have hc : limit_causes.f (rd_T38 l (i : Int)).f0 (rd_T38 l (i : Int)).f1 (rd_T38 l (i : Int)).f2 (rd_T38 l (i : Int)).f3 (rd_T38 l (i : Int)).f4 h s = some (causV (rd_T38 l (i : Int)) h s) := rfl
    by_cases hp : 0 < (causV (rd_T38 l (i : Int)) h s).length
    · rw [if_pos hp]
      refine (Ev.const _).step (fun k => ?_)
      rw [limit_Watch.l0, if_pos (by omega), if_pos (by omega), if_pos (by omega), hc, Option.bind_some, if_pos (by omega), if_pos (by omega)]
    · rw [if_neg hp]
      refine (ih (i + 1) (by omega)).step (fun k => ?_)
      rw [limit_Watch.l0, if_pos (by omega), if_pos (by omega), if_pos (by omega), hc, Option.bind_some, if_neg (by omega), wrap_succ i (by omega)]
theorem watch_val (l : List S38) (h s : Int) : Ev (fun k => limit_Watch.f k l h s) (watchV l h s) := by
  refine Ev.congr (g' := fun k => (limit_checked.f k l h s).bind fun t => if t = 0 then limit_Watch.l0 k h s l (l.length : Int) 0 else some (0, 0, t)) ?_ (fun k => by rw [limit_Watch.f])
  refine (checked_val l h s).bind (f := fun t k => if t = 0 then limit_Watch.l0 k h s l (l.length : Int) 0 else some (0, 0, t)) ?_
  unfold watchV
  by_cases e : askV l h s = 0
  · rw [if_pos e]
    refine (watch_loop l h s (askV_ok e).1 _ 0 (Nat.zero_add _)).congr (fun k => ?_)
    rw [if_pos e]; rfl
  · rw [if_neg e]
    exact (Ev.const _).congr (fun k => by rw [if_neg e])

theorem rcauses_ev (m : S38) (h s : Int) : Ev (fun k => tipstaffref14_causes.f k m.f0 m.f1 m.f2 m.f3 m.f4 h s) (causV m h s) := ⟨8, fun k hk => rcauses_val m h s k hk⟩

theorem rwatch_loop (l : List S38) (h s : Int) (hl : l.length ≤ 10000) : ∀ (d i : Nat), i + d = l.length → Ev (fun k => tipstaffref14_Watch.l0 k l h s (i : Int)) ((watchG h s (l.drop i) i).1, (watchG h s (l.drop i) i).2, 0) := by
  intro d
  induction d with
  | zero =>
    intro i hi
    refine (Ev.const _).step (fun k => ?_)
    rw [tipstaffref14_Watch.l0, if_neg (by omega), List.drop_eq_nil_of_le (by omega)]; rfl
  | succ d ih =>
    intro i hi
    rw [rd38_drop l i (by omega), watchG]
    refine Ev.step (g' := fun k => (tipstaffref14_causes.f k (rd_T38 l (i : Int)).f0 (rd_T38 l (i : Int)).f1 (rd_T38 l (i : Int)).f2 (rd_T38 l (i : Int)).f3 (rd_T38 l (i : Int)).f4 h s).bind fun t => if (t.length : Int) > 0 then (if 0 < (t.length : Int) then some (rd t 0, (i : Int), (0 : Int)) else none) else tipstaffref14_Watch.l0 k l h s (wrap64 ((i : Int) + 1))) ?_ (fun k => by rw [tipstaffref14_Watch.l0, if_pos (by omega), if_pos (by omega)])
    refine (rcauses_ev (rd_T38 l (i : Int)) h s).bind (f := fun t k => if (t.length : Int) > 0 then (if 0 < (t.length : Int) then some (rd t 0, (i : Int), (0 : Int)) else none) else tipstaffref14_Watch.l0 k l h s (wrap64 ((i : Int) + 1))) ?_
    by_cases hp : 0 < (causV (rd_T38 l (i : Int)) h s).length
    · rw [if_pos hp]
      exact (Ev.const _).congr (fun k => by rw [if_pos (by omega), if_pos (by omega)])
    · rw [if_neg hp]
      exact (ih (i + 1) (by omega)).congr (fun k => by rw [if_neg (by omega), wrap_succ i (by omega)])
theorem rwatch_val (l : List S38) (h s : Int) : Ev (fun k => tipstaffref14_Watch.f k l h s) (watchV l h s) := by
  refine Ev.congr (g' := fun k => (tipstaffref14_asked.f k l h s).bind fun t => if t = 0 then tipstaffref14_Watch.l0 k l h s 0 else some (0, 0, t)) ?_ (fun k => by rw [tipstaffref14_Watch.f])
  refine (asked_val l h s).bind (f := fun t k => if t = 0 then tipstaffref14_Watch.l0 k l h s 0 else some (0, 0, t)) ?_
  unfold watchV
  by_cases e : askV l h s = 0
  · rw [if_pos e]
    refine (rwatch_loop l h s (askV_ok e).1 _ 0 (Nat.zero_add _)).congr (fun k => ?_)
    rw [if_pos e]; rfl
  · rw [if_neg e]
    exact (Ev.const _).congr (fun k => by rw [if_neg e])

/-- How many ticks have each cause. -/
def countV (l : List S38) (h s : Int) : List Int × Int := if askV l h s = 0 then (outL (cntsF h s l (fun _ => 0)) 5, 0) else ([], askV l h s)
theorem count_val (l : List S38) (h s : Int) : Ev (fun k => limit_Counts.f k l h s) (countV l h s) := by
  refine (checked_val l h s).bind (f := fun e _ => if e = 0 then (if l.length ≤ 1000000 then some (outL (cntsF h s l (fun _ => 0)) 5, 0) else none) else some ([], e)) (Ev.of_eq ?_)
  unfold countV
  by_cases e : askV l h s = 0
  · rw [if_pos e, if_pos e, if_pos (by have := (askV_ok e).1; omega)]
  · rw [if_neg e, if_neg e]

theorem outL_five (F : Int → Int) : outL F 5 = [F 1, F 2, F 3, F 4, F 5] := rfl
theorem outL_inc (F : Int → Int) (c : Int) (h : 1 ≤ c ∧ c ≤ 5) : (outL F 5).set (c - 1).toNat (wrap64 (rd (outL F 5) (c - 1) + 1)) = outL (incF F c) 5 := by
  have hc : c = 1 ∨ c = 2 ∨ c = 3 ∨ c = 4 ∨ c = 5 := by omega
  rcases hc with rfl | rfl | rfl | rfl | rfl <;> rfl
theorem causV_mem {m : S38} {h s : Int} : ∀ c ∈ causV m h s, 1 ≤ c ∧ c ≤ 5 := fun c hc => by have := causes_mem m.f0 m.f1 m.f2 m.f3 m.f4 h s 5 c hc; omega
theorem causV_len (m : S38) (h s : Int) : (causV m h s).length ≤ 5 := causesL_len m.f0 m.f1 m.f2 m.f3 m.f4 h s 5

theorem rcount_loop (l : List S38) (h s : Int) (hl : l.length ≤ 10000) : ∀ (d i : Nat) (F : Int → Int), i + d = l.length → Ev (fun k => tipstaffref14_Counts.l0 k l h s (outL F 5) (i : Int)) (outL (cntsF h s (l.drop i) F) 5, 0) := by
  intro d
  induction d with
  | zero =>
    intro i F hi
    refine (Ev.const _).step (fun k => ?_)
    rw [tipstaffref14_Counts.l0, if_neg (by omega), List.drop_eq_nil_of_le (by omega)]; rfl
  | succ d ih =>
    intro i F hi
    rw [rd38_drop l i (by omega), cntsF]
    refine Ev.step (g' := fun k => (tipstaffref14_causes.f k (rd_T38 l (i : Int)).f0 (rd_T38 l (i : Int)).f1 (rd_T38 l (i : Int)).f2 (rd_T38 l (i : Int)).f3 (rd_T38 l (i : Int)).f4 h s).bind fun t => tipstaffref14_Counts.l1 k l h s (outL F 5) (i : Int) t 0) ?_ (fun k => by rw [tipstaffref14_Counts.l0, if_pos (by omega), if_pos (by omega)])
    refine (rcauses_ev (rd_T38 l (i : Int)) h s).bind (f := fun t k => tipstaffref14_Counts.l1 k l h s (outL F 5) (i : Int) t 0) ?_
    obtain ⟨cs, hcs⟩ : ∃ cs, causV (rd_T38 l (i : Int)) h s = cs := ⟨_, rfl⟩
    have hm := causV_mem (m := rd_T38 l (i : Int)) (h := h) (s := s)
    have hn := causV_len (rd_T38 l (i : Int)) h s
    rw [hcs] at hm hn ⊢
    have e0 : causesL (rd_T38 l (i : Int)).f0 (rd_T38 l (i : Int)).f1 (rd_T38 l (i : Int)).f2 (rd_T38 l (i : Int)).f3 (rd_T38 l (i : Int)).f4 h s 5 = cs := hcs
    rw [e0]
    have inner : ∀ (e j : Nat) (G : Int → Int), j + e = cs.length → Ev (fun k => tipstaffref14_Counts.l1 k l h s (outL G 5) (i : Int) cs (j : Int)) (outL (cntsF h s (l.drop (i + 1)) (addsF (cs.drop j) G)) 5, 0) := by
      intro e
      induction e with
      | zero =>
        intro j G hj
        rw [List.drop_eq_nil_of_le (show cs.length ≤ j by omega), addsF]
        refine (ih (i + 1) G (by omega)).step (fun k => ?_)
        rw [tipstaffref14_Counts.l1, if_neg (by omega), wrap_succ i (by omega)]
      | succ e ihe =>
        intro j G hj
        rw [drop_rd cs j (by omega), addsF]
        have hc : 1 ≤ rd cs (j : Int) ∧ rd cs (j : Int) ≤ 5 := hm _ (by rw [rd_nat cs j (by omega)]; exact List.getElem_mem _)
        have hL : ((outL G 5).length : Int) = 5 := rfl
        refine (ihe (j + 1) (incF G (rd cs (j : Int))) (by omega)).step (fun k => ?_)
        rw [tipstaffref14_Counts.l1, if_pos (by omega), if_pos (by omega), wrap_id (rd cs (j : Int) - 1) (by omega) (by omega), if_pos (by omega), if_pos (by omega), outL_inc G _ hc, wrap_succ j (by omega)]
    exact inner _ 0 F (Nat.zero_add _)
theorem rcount_val (l : List S38) (h s : Int) : Ev (fun k => tipstaffref14_Counts.f k l h s) (countV l h s) := by
  refine Ev.congr (g' := fun k => (tipstaffref14_asked.f k l h s).bind fun t => if t = 0 then tipstaffref14_Counts.l0 k l h s (List.replicate 5 0) 0 else some ([], t)) ?_ (fun k => by rw [tipstaffref14_Counts.f])
  refine (asked_val l h s).bind (f := fun t k => if t = 0 then tipstaffref14_Counts.l0 k l h s (List.replicate 5 0) 0 else some ([], t)) ?_
  unfold countV
  by_cases e : askV l h s = 0
  · rw [if_pos e]
    refine (rcount_loop l h s (askV_ok e).1 _ 0 (fun _ => 0) (Nat.zero_add _)).congr (fun k => ?_)
    rw [if_pos e]; rfl
  · rw [if_neg e]
    exact (Ev.const _).congr (fun k => by rw [if_neg e])

end Go.Proofs.Ytlpdoieokgeikaa.Pure
