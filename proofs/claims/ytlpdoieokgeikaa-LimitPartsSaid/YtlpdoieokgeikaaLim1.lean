/- What the program and the reference of limit come to. -/
import Derived.Test.YtlpdoieokgeikaaS3
import Derived.Test.YtlpdoieokgeikaaS4
import Derived.Test.YtlpdoieokgeikaaS5
import Derived.Test.YtlpdoieokgeikaaS6
import Derived.Test.YtlpdoieokgeikaaEv
import Derived.Test.YtlpdoieokgeikaaHcounts
import Derived.Test.YtlpdoieokgeikaaHpairs
namespace Go.Proofs.Ytlpdoieokgeikaa.Pure
open Go.RowKit Go.Proofs.Ytlpdoieokgeikaa.S Go.Proofs.YtlpdoieokgeikaaW.PrintWords Go.Proofs.YtlpdoieokgeikaaW.PrintLast
set_option linter.unusedVariables false
set_option linter.unusedSimpArgs false

theorem rd38_drop (l : List S38) (i : Nat) (h : i < l.length) : l.drop i = rd_T38 l (i : Int) :: l.drop (i + 1) := by
  unfold rd_T38; simp [h]

def chkV (m : S38) : Int := if m.f1 < 0 ∨ m.f1 > 1000 ∨ m.f4 < 0 ∨ m.f4 > 20 then 2 else 0
theorem chk_val (m : S38) : limit_Check.f m.f0 m.f1 m.f2 m.f3 m.f4 = some (chkV m) := by
  unfold limit_Check.f chkV
  by_cases h1 : m.f1 < 0
  · rw [if_pos h1, if_pos (Or.inl h1)]
  rw [if_neg h1]
  by_cases h2 : m.f1 > 1000
  · rw [if_pos h2, if_pos (by omega)]
  rw [if_neg h2]
  by_cases h3 : m.f4 < 0
  · rw [if_pos h3, if_pos (by omega)]
  rw [if_neg h3]
  by_cases h4 : m.f4 > 20
  · rw [if_pos h4, if_pos (by omega)]
  rw [if_neg h4, if_neg (by omega)]
theorem rchk_val (m : S38) : tipstaffref14_Check.f m.f0 m.f1 m.f2 m.f3 m.f4 = some (chkV m) := chk_val m
def seenG : List S38 → Int
  | [] => 0
  | m :: ms => if chkV m = 0 then seenG ms else chkV m
def seenV (l : List S38) : Int := if (l.length : Int) > 10000 then 4 else seenG l
def limE (h s : Int) : Int := if h < 0 ∨ h > 63000 ∨ s < 1 ∨ s > 20 then 2 else 0
def askV (l : List S38) (h s : Int) : Int := if seenV l = 0 then limE h s else seenV l

theorem seen_loop (l : List S38) (hl : l.length ≤ 10000) : ∀ (d i : Nat), i + d = l.length → Ev (fun k => limit_seen.l0 k l (l.length : Int) (i : Int)) (seenG (l.drop i)) := by
  intro d
  induction d with
  | zero =>
    intro i hi
    refine (Ev.const _).step (fun k => ?_)
    rw [limit_seen.l0, if_neg (by omega), List.drop_eq_nil_of_le (by omega)]; rfl
  | succ d ih =>
    intro i hi
    rw [rd38_drop l i (by omega), seenG]
    by_cases h : chkV (rd_T38 l (i : Int)) = 0
    · rw [if_pos h]
      refine (ih (i + 1) (by omega)).step (fun k => ?_)
      rw [limit_seen.l0, if_pos (by omega), if_pos (by omega), if_pos (by omega), chk_val, Option.bind_some, if_pos h, wrap_succ i (by omega)]
    · rw [if_neg h]
      refine (Ev.const _).step (fun k => ?_)
      rw [limit_seen.l0, if_pos (by omega), if_pos (by omega), if_pos (by omega), chk_val, Option.bind_some, if_neg h]
theorem seen_val (l : List S38) : Ev (fun k => limit_seen.f k l) (seenV l) := by
  unfold seenV
  by_cases h : (l.length : Int) > 10000
  · rw [if_pos h]; refine (Ev.const _).congr (fun k => ?_); rw [limit_seen.f, if_pos h]
  · rw [if_neg h]
    refine (seen_loop l (by omega) _ 0 (Nat.zero_add _)).congr (fun k => ?_)
    rw [limit_seen.f, if_neg h]; rfl
theorem limE_val (h s : Int) : (if h < 0 then (some 2 : Option Int) else (if h > 63000 then (some 2) else (if s < 1 then (some 2) else (if s > 20 then (some 2) else (some 0))))) = some (limE h s) := by
  unfold limE
  by_cases h1 : h < 0
  · rw [if_pos h1, if_pos (Or.inl h1)]
  rw [if_neg h1]
  by_cases h2 : h > 63000
  · rw [if_pos h2, if_pos (by omega)]
  rw [if_neg h2]
  by_cases h3 : s < 1
  · rw [if_pos h3, if_pos (by omega)]
  rw [if_neg h3]
  by_cases h4 : s > 20
  · rw [if_pos h4, if_pos (by omega)]
  rw [if_neg h4, if_neg (by omega)]
theorem checked_val (l : List S38) (h s : Int) : Ev (fun k => limit_checked.f k l h s) (askV l h s) := by
  refine Ev.congr (g' := fun k => (limit_seen.f k l).bind fun t => if t = 0 then some (limE h s) else some t) ?_ (fun k => by rw [limit_checked.f, limE_val])
  refine (seen_val l).bind (f := fun t _ => if t = 0 then some (limE h s) else some t) (Ev.of_eq ?_)
  unfold askV; split <;> rfl
theorem asked_loop (l : List S38) (h s : Int) (hl : l.length ≤ 10000) : ∀ (d i : Nat), i + d = l.length → Ev (fun k => tipstaffref14_asked.l0 k l h s (i : Int)) (if seenG (l.drop i) = 0 then limE h s else seenG (l.drop i)) := by
  intro d
  induction d with
  | zero =>
    intro i hi
    refine (Ev.const _).step (fun k => ?_)
    rw [tipstaffref14_asked.l0, if_neg (by omega), List.drop_eq_nil_of_le (by omega), limE_val]; rfl
  | succ d ih =>
    intro i hi
    rw [rd38_drop l i (by omega), seenG]
    by_cases h : chkV (rd_T38 l (i : Int)) = 0
    · rw [if_pos h]
      refine (ih (i + 1) (by omega)).step (fun k => ?_)
      rw [tipstaffref14_asked.l0, if_pos (by omega), if_pos (by omega), rchk_val, Option.bind_some, if_pos h, wrap_succ i (by omega)]
    · rw [if_neg h, if_neg h]
      refine (Ev.const _).step (fun k => ?_)
      rw [tipstaffref14_asked.l0, if_pos (by omega), if_pos (by omega), rchk_val, Option.bind_some, if_neg h]
theorem asked_val (l : List S38) (h s : Int) : Ev (fun k => tipstaffref14_asked.f k l h s) (askV l h s) := by
  unfold askV seenV
  by_cases hl : (l.length : Int) > 10000
  · rw [if_pos hl, if_neg (by decide)]; refine (Ev.const _).congr (fun k => ?_); rw [tipstaffref14_asked.f, if_pos hl]
  · rw [if_neg hl]
    refine (asked_loop l h s (by omega) _ 0 (Nat.zero_add _)).congr (fun k => ?_)
    rw [tipstaffref14_asked.f, if_neg hl]; rfl
theorem askV_ok {l : List S38} {h s : Int} (e : askV l h s = 0) : l.length ≤ 10000 ∧ seenG l = 0 := by
  unfold askV seenV at e
  by_cases hl : (l.length : Int) > 10000
  · rw [if_pos hl, if_neg (by decide)] at e; simp at e
  · rw [if_neg hl] at e
    refine ⟨by omega, ?_⟩
    by_cases h0 : seenG l = 0
    · exact h0
    · rw [if_neg h0] at e; exact absurd e h0
theorem seenG_all : ∀ (l : List S38), seenG l = 0 → ∀ m ∈ l, chkV m = 0
  | [], _, m, hm => by simp at hm
  | x :: xs, h, m, hm => by
    rw [seenG] at h
    by_cases hx : chkV x = 0
    · rw [if_pos hx] at h
      rcases List.mem_cons.1 hm with rfl | hm
      · exact hx
      · exact seenG_all xs h m hm
    · rw [if_neg hx] at h; exact absurd h hx
theorem seenG_of : ∀ (l : List S38), (∀ m ∈ l, chkV m = 0) → seenG l = 0
  | [], _ => rfl
  | x :: xs, h => by rw [seenG, if_pos (h x (by simp))]; exact seenG_of xs (fun m hm => h m (by simp [hm]))

/-- The causes of a tick. -/
def causV (m : S38) (h s : Int) : List Int := causesL m.f0 m.f1 m.f2 m.f3 m.f4 h s 5
def isC (m : S38) (h s : Int) (i : Nat) : Bool := causeB m.f0 m.f1 m.f2 m.f3 m.f4 h s i
theorem causV_eq (m : S38) (h s : Int) : causV m h s = (if isC m h s 0 = true then [1] else []) ++ (if isC m h s 1 = true then [2] else []) ++ (if isC m h s 2 = true then [3] else []) ++ (if isC m h s 3 = true then [4] else []) ++ (if isC m h s 4 = true then [5] else []) := by
  unfold causV isC
  simp [causesL]

theorem rcauses_val (m : S38) (h s : Int) (k : Nat) (hk : 8 ≤ k) : tipstaffref14_causes.f k m.f0 m.f1 m.f2 m.f3 m.f4 h s = some (causV m h s) := by
  obtain ⟨k, rfl⟩ : ∃ x, k = x + 6 := ⟨k - 6, by omega⟩
  have j5 : ∀ (k : Nat) (acc : List Int) (b : Bool), acc.length ≤ 10 → tipstaffref14_causes.j5 (k + 1) acc b m.f0 m.f1 m.f2 m.f3 m.f4 = some ((acc ++ (if b = true then [4] else [])) ++ (if isC m h s 4 = true then [5] else [])) := by
    intro k acc b ha
    have i4 : isC m h s 4 = (m.f2 && decide (0 < m.f4)) := rfl
    rw [tipstaffref14_causes.j5, i4]
    cases b with
    | true =>
      rw [if_pos rfl, if_pos (by omega), Option.bind_some, if_pos rfl]
      cases hm : m.f2 with
      | true =>
        rw [if_pos rfl]
        by_cases h4 : m.f4 > 0
        · rw [if_pos h4, if_pos (by simp; omega), decide_eq_true h4]; simp
        · rw [if_neg h4, decide_eq_false h4]; simp
      | false => rw [if_neg (show ¬ (false = true) by decide)]; simp
    | false =>
      rw [if_neg (show ¬ (false = true) by decide), if_neg (show ¬ (false = true) by decide), List.append_nil]
      cases hm : m.f2 with
      | true =>
        rw [if_pos rfl]
        by_cases h4 : m.f4 > 0
        · rw [if_pos h4, if_pos (by omega), decide_eq_true h4]; simp
        · rw [if_neg h4, decide_eq_false h4]; simp
      | false => rw [if_neg (show ¬ (false = true) by decide)]; simp
  have j4 : ∀ (k : Nat) (acc : List Int), acc.length ≤ 10 → tipstaffref14_causes.j4 (k + 2) acc m.f0 m.f1 m.f2 m.f3 m.f4 = some ((acc ++ (if isC m h s 3 = true then [4] else [])) ++ (if isC m h s 4 = true then [5] else [])) := by
    intro k acc ha
    have i3 : isC m h s 3 = (decide (0 < m.f1) && !m.f2) := rfl
    rw [tipstaffref14_causes.j4, i3]
    by_cases h1 : m.f1 > 0
    · rw [if_pos h1, j5 k acc _ ha, decide_eq_true h1, Bool.true_and]
    · rw [if_neg h1, j5 k acc _ ha, decide_eq_false h1, Bool.false_and]
  have j2 : ∀ (k : Nat) (acc : List Int), acc.length ≤ 5 → tipstaffref14_causes.j2 (k + 4) acc m.f0 m.f1 m.f2 m.f3 m.f4 = some (((acc ++ (if isC m h s 2 = true then [3] else [])) ++ (if isC m h s 3 = true then [4] else [])) ++ (if isC m h s 4 = true then [5] else [])) := by
    intro k acc ha
    have i2 : isC m h s 2 = (decide (0 < m.f1) && m.f3) := rfl
    have j3 : ∀ b : Bool, tipstaffref14_causes.j3 (k + 3) acc b m.f0 m.f1 m.f2 m.f3 m.f4 = some (((acc ++ (if b = true then [3] else [])) ++ (if isC m h s 3 = true then [4] else [])) ++ (if isC m h s 4 = true then [5] else [])) := by
      intro b
      rw [tipstaffref14_causes.j3]
      cases b with
      | true => rw [if_pos rfl, if_pos (by omega), j4 k _ (by simp; omega), if_pos rfl]
      | false => rw [if_neg (show ¬ (false = true) by decide), j4 k _ (by omega), if_neg (show ¬ (false = true) by decide), List.append_nil]
    rw [tipstaffref14_causes.j2, i2]
    by_cases h1 : m.f1 > 0
    · rw [if_pos h1, j3, decide_eq_true h1, Bool.true_and]
    · rw [if_neg h1, j3, decide_eq_false h1, Bool.false_and]
  have j0 : ∀ (k : Nat) (acc : List Int), acc.length ≤ 1 → tipstaffref14_causes.j0 (k + 6) h acc m.f0 m.f1 m.f2 m.f3 m.f4 = some ((((acc ++ (if isC m h s 1 = true then [2] else [])) ++ (if isC m h s 2 = true then [3] else [])) ++ (if isC m h s 3 = true then [4] else [])) ++ (if isC m h s 4 = true then [5] else [])) := by
    intro k acc ha
    have i1 : isC m h s 1 = (decide (m.f0 < 0) || decide (h < m.f0)) := rfl
    have j1 : ∀ b : Bool, tipstaffref14_causes.j1 (k + 5) acc b m.f0 m.f1 m.f2 m.f3 m.f4 = some ((((acc ++ (if b = true then [2] else [])) ++ (if isC m h s 2 = true then [3] else [])) ++ (if isC m h s 3 = true then [4] else [])) ++ (if isC m h s 4 = true then [5] else [])) := by
      intro b
      rw [tipstaffref14_causes.j1]
      cases b with
      | true => rw [if_pos rfl, if_pos (by omega), j2 k _ (by simp; omega), if_pos rfl]
      | false => rw [if_neg (show ¬ (false = true) by decide), j2 k _ (by omega), if_neg (show ¬ (false = true) by decide), List.append_nil]
    rw [tipstaffref14_causes.j0, i1]
    by_cases h1 : m.f0 < 0
    · rw [if_pos h1, j1, decide_eq_true h1, Bool.true_or]
    · rw [if_neg h1, j1, decide_eq_false h1, Bool.false_or]
  have i0 : isC m h s 0 = decide (s < m.f1) := rfl
  rw [causV_eq, tipstaffref14_causes.f, i0]
  by_cases h1 : m.f1 > s
  · rw [if_pos h1, if_pos (by simp), j0 k _ (by simp), decide_eq_true h1, if_pos rfl]; rfl
  · rw [if_neg h1, j0 k _ (by simp), decide_eq_false h1, if_neg (show ¬ (false = true) by decide)]

end Go.Proofs.Ytlpdoieokgeikaa.Pure
