/- What Jumps and Stops come to, of the program and of the reference. -/
import Derived.Test.YtlpdoieokgeikaaS11
import Derived.Test.YtlpdoieokgeikaaS12
import Derived.Test.YtlpdoieokgeikaaLim1
namespace Go.Proofs.Ytlpdoieokgeikaa.Pure
open Go.RowKit Go.Proofs.Ytlpdoieokgeikaa.S Go.Proofs.YtlpdoieokgeikaaW.PrintWords Go.Proofs.YtlpdoieokgeikaaW.PrintLast
set_option linter.unusedVariables false
set_option linter.unusedSimpArgs false

def pairG (q : S38 → S38 → Bool) (l : List S38) : Nat → Nat → List Int → List Int
  | 0, _, acc => acc
  | d + 1, i, acc => pairG q l d (i + 1) (if q (rd_T38 l ((i : Int) - 1)) (rd_T38 l (i : Int)) = true then acc ++ [(i : Int)] else acc)
def pairV (q : S38 → S38 → Bool) (l : List S38) : List Int × Int := if seenV l = 0 then (pairG q l (l.length - 1) 1 [], 0) else ([], seenV l)

theorem pair_loop (q : S38 → S38 → Option Bool) (b : S38 → S38 → Bool) (l : List S38) (hq : ∀ x y, q x y = some (b x y)) : ∀ (d i : Nat) (acc : List Int), l.length - i = d → ∀ k, d + 1 ≤ k → pairL q l k i acc = some (pairG b l d i acc)
  | 0, i, acc, hi, k, hk => by
    obtain ⟨k, rfl⟩ : ∃ x, k = x + 1 := ⟨k - 1, by omega⟩
    rw [pairL, if_neg (by omega)]; rfl
  | d + 1, i, acc, hi, k, hk => by
    obtain ⟨k, rfl⟩ : ∃ x, k = x + 1 := ⟨k - 1, by omega⟩
    rw [pairL, if_pos (by omega), hq, Option.bind_some, pairG]
    exact pair_loop q b l hq d (i + 1) _ (by omega) k (by omega)
theorem seenV_ok {l : List S38} (e : seenV l = 0) : l.length ≤ 10000 ∧ seenG l = 0 := by
  unfold seenV at e
  by_cases hl : (l.length : Int) > 10000
  · rw [if_pos hl] at e; simp at e
  · rw [if_neg hl] at e; exact ⟨by omega, e⟩
theorem pairs_val (q : S38 → S38 → Option Bool) (b : S38 → S38 → Bool) (l : List S38) (hq : ∀ x y, q x y = some (b x y)) : Ev (fun k => pairsF q k l) (pairV b l) := by
  refine (seen_val l).bind (f := fun e k => if e = 0 then (if l.length ≤ 1000000 then (pairL q l k 1 []).bind fun xs => some (xs, 0) else none) else some ([], e)) ?_
  unfold pairV
  by_cases e : seenV l = 0
  · rw [if_pos e]
    refine ⟨l.length + 2, fun k hk => ?_⟩
    dsimp only
    rw [if_pos e, if_pos (by have := (seenV_ok e).1; omega), pair_loop q b l hq (l.length - 1) 1 [] rfl k (by omega), Option.bind_some]
  · rw [if_neg e]
    exact (Ev.const _).congr (fun k => by rw [if_neg e])

def apartB (a b s : Int) : Bool := (IntKind.u64.wrap ((IntKind.u64.wrap (mx a b)) - (IntKind.u64.wrap (mn a b)))) == (IntKind.u64.wrap s)
def jumpB (a b : S38) : Bool := !apartB a.f0 b.f0 b.f1 || (decide (1 < mx (wrap64 (a.f1 - b.f1)) (wrap64 (b.f1 - a.f1))) && (b.f1 != 0))
def stopB (a b : S38) : Bool := decide (0 < a.f1) && (b.f1 == 0)
theorem jump_val (l : List S38) : Ev (fun k => limit_Jumps.f k l) (pairV jumpB l) := pairs_val jumpQ jumpB l (fun _ _ => rfl)
theorem stop_val (l : List S38) : Ev (fun k => limit_Stops.f k l) (pairV stopB l) := pairs_val stopQ stopB l (fun _ _ => rfl)

theorem chk_speed {m : S38} (h : chkV m = 0) : 0 ≤ m.f1 ∧ m.f1 ≤ 1000 ∧ 0 ≤ m.f4 ∧ m.f4 ≤ 20 := by
  unfold chkV at h
  by_cases hc : m.f1 < 0 ∨ m.f1 > 1000 ∨ m.f4 < 0 ∨ m.f4 > 20
  · rw [if_pos hc] at h; simp at h
  · omega
theorem rd38_mem (l : List S38) (i : Nat) (h : i < l.length) : rd_T38 l (i : Int) ∈ l := by
  have : rd_T38 l (i : Int) = l[i] := by unfold rd_T38; simp [h]
  rw [this]; exact List.getElem_mem _

theorem rjump_val (a b : S38) (ha : chkV a = 0) (hb : chkV b = 0) : tipstaffref14_jump.f a.f0 a.f1 a.f2 a.f3 a.f4 b.f0 b.f1 b.f2 b.f3 b.f4 = some (jumpB a b) := by
  have h1 := chk_speed ha
  have h2 := chk_speed hb
  unfold jumpB
  have ea : ∀ {α : Type} (x y : α), (if (IntKind.u64.wrap ((IntKind.u64.wrap (mx a.f0 b.f0)) - (IntKind.u64.wrap (mn a.f0 b.f0)))) = (IntKind.u64.wrap b.f1) then x else y) = if apartB a.f0 b.f0 b.f1 = true then x else y := fun x y => by
    unfold apartB
    by_cases h : (IntKind.u64.wrap ((IntKind.u64.wrap (mx a.f0 b.f0)) - (IntKind.u64.wrap (mn a.f0 b.f0)))) = (IntKind.u64.wrap b.f1)
    · rw [if_pos h, if_pos (by rw [beq_iff_eq]; exact h)]
    · rw [if_neg h, if_neg (by rw [beq_iff_eq]; exact h)]
  obtain ⟨ap, hap⟩ : ∃ ap, apartB a.f0 b.f0 b.f1 = ap := ⟨_, rfl⟩
  rw [tipstaffref14_jump.f, ea, ea, ea, hap, wrap_id (a.f1 + 1) (by omega) (by omega), wrap_id (a.f1 - 1) (by omega) (by omega), wrap_id (a.f1 - b.f1) (by omega) (by omega), wrap_id (b.f1 - a.f1) (by omega) (by omega)]
  have hm : ∀ x y : Int, mx x y = if x < y then y else x := fun x y => rfl
  by_cases c1 : b.f1 > a.f1 + 1
  · rw [if_pos c1, decide_eq_true (by rw [hm]; split <;> omega), show (b.f1 != 0) = true by rw [bne_iff_ne]; omega]
    cases ap <;> rfl
  rw [if_neg c1]
  by_cases c2 : b.f1 < a.f1 - 1
  · rw [if_pos c2, decide_eq_true (by rw [hm]; split <;> omega)]
    cases ap <;> rfl
  · rw [if_neg c2, decide_eq_false (by rw [hm]; split <;> omega)]
    cases ap <;> rfl

theorem rjump_loop (l : List S38) (hl : l.length ≤ 10000) (hv : ∀ m ∈ l, chkV m = 0) : ∀ (d i : Nat) (acc : List Int), 1 ≤ i → l.length - i = d → acc.length ≤ i → Ev (fun k => tipstaffref14_Jumps.l0 k l acc (i : Int)) (pairG jumpB l d i acc, 0) := by
  intro d
  induction d with
  | zero =>
    intro i acc h1 hi ha
    refine (Ev.const _).step (fun k => ?_)
    rw [tipstaffref14_Jumps.l0, if_neg (by omega)]; rfl
  | succ d ih =>
    intro i acc h1 hi ha
    obtain ⟨j, rfl⟩ : ∃ j, i = j + 1 := ⟨i - 1, by omega⟩
    have e1 : (((j + 1 : Nat) : Int) - 1) = (j : Int) := by omega
    have rj := rjump_val (rd_T38 l (j : Int)) (rd_T38 l ((j + 1 : Nat) : Int)) (hv _ (rd38_mem l j (by omega))) (hv _ (rd38_mem l (j + 1) (by omega)))
    have st : ∀ k, tipstaffref14_Jumps.l0 (k + 1) l acc ((j + 1 : Nat) : Int) = tipstaffref14_Jumps.l0 k l (if jumpB (rd_T38 l (((j + 1 : Nat) : Int) - 1)) (rd_T38 l ((j + 1 : Nat) : Int)) = true then acc ++ [((j + 1 : Nat) : Int)] else acc) ((j + 1 + 1 : Nat) : Int) := fun k => by
      rw [tipstaffref14_Jumps.l0, if_pos (by omega), e1, wrap_id (j : Int) (by omega) (by omega), if_pos (by omega), if_pos (by omega), if_pos (by omega), rj, Option.bind_some, wrap_succ (j + 1) (by omega)]
      by_cases hb : jumpB (rd_T38 l (j : Int)) (rd_T38 l ((j + 1 : Nat) : Int)) = true
      · rw [if_pos hb, if_pos (by omega), if_pos hb]
      · rw [if_neg hb, if_neg hb]
    rw [pairG]
    exact (ih (j + 1 + 1) _ (by omega) (by omega) (by split <;> (try simp) <;> omega)).step st
theorem rjumps_val (l : List S38) : Ev (fun k => tipstaffref14_Jumps.f k l) (pairV jumpB l) := by
  refine Ev.congr (g' := fun k => (tipstaffref14_asked.f k l 0 1).bind fun t => if t = 0 then tipstaffref14_Jumps.l0 k l [] 1 else some ([], t)) ?_ (fun k => by rw [tipstaffref14_Jumps.f])
  refine (asked_val l 0 1).bind (f := fun t k => if t = 0 then tipstaffref14_Jumps.l0 k l [] 1 else some ([], t)) ?_
  have ea : askV l 0 1 = seenV l := by
    unfold askV
    by_cases h : seenV l = 0
    · rw [if_pos h, h]; rfl
    · rw [if_neg h]
  rw [ea]
  unfold pairV
  by_cases e : seenV l = 0
  · rw [if_pos e]
    refine (rjump_loop l (seenV_ok e).1 (seenG_all l (seenV_ok e).2) _ 1 [] (by omega) rfl (by simp)).congr (fun k => ?_)
    rw [if_pos e]; rfl
  · rw [if_neg e]
    exact (Ev.const _).congr (fun k => by rw [if_neg e])

theorem rstop_loop (l : List S38) (hl : l.length ≤ 10000) : ∀ (d i : Nat) (acc : List Int), 1 ≤ i → l.length - i = d → acc.length ≤ i → Ev (fun k => tipstaffref14_Stops.l0 k l acc (i : Int)) (pairG stopB l d i acc, 0) := by
  intro d
  induction d with
  | zero =>
    intro i acc h1 hi ha
    refine (Ev.const _).step (fun k => ?_)
    rw [tipstaffref14_Stops.l0, if_neg (by omega)]; rfl
  | succ d ih =>
    intro i acc h1 hi ha
    obtain ⟨j, rfl⟩ : ∃ j, i = j + 1 := ⟨i - 1, by omega⟩
    have e1 : (((j + 1 : Nat) : Int) - 1) = (j : Int) := by omega
    have st : ∀ k, tipstaffref14_Stops.l0 (k + 1) l acc ((j + 1 : Nat) : Int) = tipstaffref14_Stops.l0 k l (if stopB (rd_T38 l (((j + 1 : Nat) : Int) - 1)) (rd_T38 l ((j + 1 : Nat) : Int)) = true then acc ++ [((j + 1 : Nat) : Int)] else acc) ((j + 1 + 1 : Nat) : Int) := fun k => by
      rw [tipstaffref14_Stops.l0, if_pos (by omega), e1, wrap_id (j : Int) (by omega) (by omega), if_pos (by omega), if_pos (by omega), wrap_succ (j + 1) (by omega)]
      unfold stopB
      by_cases h1 : (rd_T38 l (j : Int)).f1 > 0
      · rw [if_pos h1, if_pos (by omega), decide_eq_true h1, Bool.true_and]
        by_cases h2 : (rd_T38 l ((j + 1 : Nat) : Int)).f1 = 0
        · rw [if_pos h2, if_pos (by omega), if_pos (by rw [beq_iff_eq]; exact h2)]
        · rw [if_neg h2, if_neg (by rw [beq_iff_eq]; exact h2)]
      · rw [if_neg h1, decide_eq_false h1, Bool.false_and, if_neg (show ¬ (false = true) by decide)]
    rw [pairG]
    exact (ih (j + 1 + 1) _ (by omega) (by omega) (by split <;> (try simp) <;> omega)).step st
theorem rstops_val (l : List S38) : Ev (fun k => tipstaffref14_Stops.f k l) (pairV stopB l) := by
  refine Ev.congr (g' := fun k => (tipstaffref14_asked.f k l 0 1).bind fun t => if t = 0 then tipstaffref14_Stops.l0 k l [] 1 else some ([], t)) ?_ (fun k => by rw [tipstaffref14_Stops.f])
  refine (asked_val l 0 1).bind (f := fun t k => if t = 0 then tipstaffref14_Stops.l0 k l [] 1 else some ([], t)) ?_
  have ea : askV l 0 1 = seenV l := by
    unfold askV
    by_cases h : seenV l = 0
    · rw [if_pos h, h]; rfl
    · rw [if_neg h]
  rw [ea]
  unfold pairV
  by_cases e : seenV l = 0
  · rw [if_pos e]
    refine (rstop_loop l (seenV_ok e).1 _ 1 [] (by omega) rfl (by simp)).congr (fun k => ?_)
    rw [if_pos e]; rfl
  · rw [if_neg e]
    exact (Ev.const _).congr (fun k => by rw [if_neg e])

end Go.Proofs.Ytlpdoieokgeikaa.Pure
