/- Made lists of ticks, and their counts of causes as plain numbers. -/
import Derived.Test.YtlpdoieokgeikaaS16
import Derived.Test.YtlpdoieokgeikaaS5
import Derived.Test.YtlpdoieokgeikaaLim2
import Derived.Test.YtlpdoieokgeikaaLimA
import Derived.Test.YtlpdoieokgeikaaKitMod
namespace Go.Proofs.Ytlpdoieokgeikaa.Pure
open Go.RowKit Go.Proofs.Ytlpdoieokgeikaa.S Go.Proofs.YtlpdoieokgeikaaW.PrintWords Go.Proofs.YtlpdoieokgeikaaW.PrintLast
set_option linter.unusedVariables false
set_option linter.unusedSimpArgs false

theorem part_ok (t c n : Int) (h0 : 0 ≤ t) (h1 : t < 1048576) (hc : 0 < c) (hn : 0 < n) : 0 ≤ Int.tmod (wrap64 (Int.tdiv t c)) n ∧ Int.tmod (wrap64 (Int.tdiv t c)) n < n := by
  have e : Int.tdiv t c = t / c := Int.tdiv_eq_ediv_of_nonneg h0
  have h2 : 0 ≤ t / c := Int.ediv_nonneg h0 (by omega)
  have h3 : t / c ≤ t := Int.ediv_le_self c h0
  rw [e, wrap_id _ (by omega) (by omega)]
  exact ⟨Int.tmod_nonneg _ h2, Int.tmod_lt_of_pos _ hn⟩
theorem chk_made (m : S38) (h1 : 0 ≤ m.f1 ∧ m.f1 < 6) (h2 : 0 ≤ m.f4 ∧ m.f4 < 3) : chkV m = 0 := by
  unfold chkV
  rw [if_neg]
  omega

theorem made_loop (x : List Int) (hw : ∀ y ∈ x, (Lit.int .i64 y).wf = true) : ∀ (d i : Nat) (acc : List S38), d + i = min 30 x.length → acc.length = i → (∀ m ∈ acc, chkV m = 0) → ∃ v, Ev (fun k => tipstafflaw14_made.l0 k x acc (i : Int)) v ∧ v.length ≤ 30 ∧ ∀ m ∈ v, chkV m = 0 := by
  intro d
  induction d with
  | zero =>
    intro i acc hd ha hm
    refine ⟨acc, ?_, by omega, hm⟩
    refine Ev.step (g' := fun k => tipstafflaw14_made.j1 k x acc (i : Int) false) (Ev.step (Ev.const _) (fun k => ?_)) (fun k => ?_)
    · rw [tipstafflaw14_made.j1, if_neg (by decide)]
    · rw [tipstafflaw14_made.l0]
      by_cases h : (i : Int) < (x.length : Int)
      · rw [if_pos h, decide_eq_false (by omega)]
      · rw [if_neg h]
  | succ d ih =>
    intro i acc hd ha hm
    have hI : I64 (rd x (i : Int)) := i64_of (hw _ (by rw [rd_nat x i (by omega)]; exact List.getElem_mem _))
    obtain ⟨t, ht⟩ : ∃ t, rd x (i : Int) % 1048576 = t := ⟨_, rfl⟩
    have t0 : 0 ≤ t := by omega
    have t1 : t < 1048576 := by omega
    have hmod : tipstaffkit_Mod.f (rd x (i : Int)) 1048576 = some t := by rw [mod_val _ _ hI (by omega) (by omega), ht]
    have hok : ∀ (m : S38), chkV m = 0 → ∀ y ∈ acc ++ [m], chkV y = 0 := by
      intro m h y hy
      rcases List.mem_append.1 hy with hy | hy
      · exact hm y hy
      · rw [List.mem_singleton.1 hy]; exact h
    have p1 := part_ok t 25 6 t0 t1 (by omega) (by omega)
    have p2 := part_ok t 4800 3 t0 t1 (by omega) (by omega)
    have hl0 : ∀ k, tipstafflaw14_made.l0 (k + 1) x acc (i : Int) = tipstafflaw14_made.j1 k x acc (i : Int) true := fun k => by
      rw [tipstafflaw14_made.l0, if_pos (by omega), decide_eq_true (by omega)]
    by_cases hc : (Int.tmod (wrap64 (Int.tdiv t 1200)) 4) = 0
    · obtain ⟨v, hv, h1, h2⟩ := ih (i + 1) (acc ++ [⟨wrap64 ((Int.tmod t 25) - 2), Int.tmod (wrap64 (Int.tdiv t 25)) 6, ((Int.tmod (wrap64 (Int.tdiv t 150)) 2) == 0), ((Int.tmod (wrap64 (Int.tdiv t 300)) 4) == 0), Int.tmod (wrap64 (Int.tdiv t 4800)) 3⟩]) (by omega) (by simp [ha]) (hok _ (chk_made _ p1 p2))
      refine ⟨v, Ev.step (g' := fun k => tipstafflaw14_made.j1 k x acc (i : Int) true) (hv.step (fun k => ?_)) hl0, h1, h2⟩
      rw [tipstafflaw14_made.j1, if_pos rfl, if_pos (by omega), if_pos (by omega), hmod, Option.bind_some, if_pos hc, if_pos (by omega), wrap_succ i (by omega)]
    · obtain ⟨v, hv, h1, h2⟩ := ih (i + 1) (acc ++ [⟨wrap64 ((Int.tmod t 25) - 2), Int.tmod (wrap64 (Int.tdiv t 25)) 6, ((Int.tmod (wrap64 (Int.tdiv t 150)) 2) == 0), ((Int.tmod (wrap64 (Int.tdiv t 300)) 4) == 0), 0⟩]) (by omega) (by simp [ha]) (hok _ (chk_made _ p1 ⟨Int.le_refl 0, show (0 : Int) < 3 by decide⟩))
      refine ⟨v, Ev.step (g' := fun k => tipstafflaw14_made.j1 k x acc (i : Int) true) (hv.step (fun k => ?_)) hl0, h1, h2⟩
      rw [tipstafflaw14_made.j1, if_pos rfl, if_pos (by omega), if_pos (by omega), hmod, Option.bind_some, if_neg hc, if_pos (by omega), wrap_succ i (by omega)]
theorem made_val (x : List Int) (hw : ∀ y ∈ x, (Lit.int .i64 y).wf = true) : ∃ v, Ev (fun k => tipstafflaw14_made.f k x) v ∧ v.length ≤ 30 ∧ ∀ m ∈ v, chkV m = 0 := by
  obtain ⟨v, h, h'⟩ := made_loop x hw (min 30 x.length) 0 [] (by omega) rfl (by simp)
  exact ⟨v, h.congr (fun k => by rw [tipstafflaw14_made.f]; rfl), h'⟩
theorem ask_made {l : List S38} (h1 : l.length ≤ 30) (h2 : ∀ m ∈ l, chkV m = 0) (h s : Int) : askV l h s = limE h s := by
  have e : seenV l = 0 := by unfold seenV; rw [if_neg (by omega), seenG_of l h2]
  unfold askV
  rw [if_pos e]
theorem ask_one {m : S38} (h2 : chkV m = 0) (h s : Int) : askV [m] h s = limE h s :=
  ask_made (by simp) (fun y hy => by rw [List.mem_singleton.1 hy]; exact h2) h s
theorem causes_one {m : S38} (h2 : chkV m = 0) (h s : Int) (hs : limE h s = 0) : Ev (fun k => limit_Causes.f k m.f0 m.f1 m.f2 m.f3 m.f4 h s) (causV m h s, 0) := by
  refine Ev.congr (g' := fun k => (limit_checked.f k [m] h s).bind fun t113 => (if t113 = 0 then ((limit_causes.f m.f0 m.f1 m.f2 m.f3 m.f4 h s).bind fun t114 => (some (t114, (0 : Int)))) else (some (([] : List Int), t113)))) ?_ (fun k => by rw [limit_Causes.f])
  refine (checked_val [m] h s).bind (f := fun t113 _ => (if t113 = 0 then ((limit_causes.f m.f0 m.f1 m.f2 m.f3 m.f4 h s).bind fun t114 => (some (t114, (0 : Int)))) else (some (([] : List Int), t113)))) ?_
  refine Ev.of_eq ?_
  rw [ask_one h2, if_pos hs]; rfl

/-- How many ticks have cause j + 1. -/
def numC (h s : Int) (j : Nat) : List S38 → Nat
  | [] => 0
  | m :: ms => (if isC m h s j = true then 1 else 0) + numC h s j ms
theorem numC_le (h s : Int) (j : Nat) : ∀ l, numC h s j l ≤ l.length
  | [] => Nat.le_refl _
  | m :: ms => by have := numC_le h s j ms; rw [numC, List.length_cons]; split <;> omega
theorem adds_val (m : S38) (h s : Int) (F : Int → Int) (j : Nat) (hj : j < 5) : addsF (causV m h s) F ((j : Int) + 1) = if isC m h s j = true then wrap64 (F ((j : Int) + 1) + 1) else F ((j : Int) + 1) := by
  rw [causV_eq]
  obtain ⟨a, ea⟩ : ∃ a, isC m h s 0 = a := ⟨_, rfl⟩
  obtain ⟨b, eb⟩ : ∃ a, isC m h s 1 = a := ⟨_, rfl⟩
  obtain ⟨c, ec⟩ : ∃ a, isC m h s 2 = a := ⟨_, rfl⟩
  obtain ⟨d, ed⟩ : ∃ a, isC m h s 3 = a := ⟨_, rfl⟩
  obtain ⟨e, ee⟩ : ∃ a, isC m h s 4 = a := ⟨_, rfl⟩
  have hj' : j = 0 ∨ j = 1 ∨ j = 2 ∨ j = 3 ∨ j = 4 := by omega
  rcases hj' with rfl | rfl | rfl | rfl | rfl
  · rw [ea, eb, ec, ed, ee]; cases a <;> cases b <;> cases c <;> cases d <;> cases e <;> rfl
  · rw [ea, eb, ec, ed, ee]; cases a <;> cases b <;> cases c <;> cases d <;> cases e <;> rfl
  · rw [ea, eb, ec, ed, ee]; cases a <;> cases b <;> cases c <;> cases d <;> cases e <;> rfl
  · rw [ea, eb, ec, ed, ee]; cases a <;> cases b <;> cases c <;> cases d <;> cases e <;> rfl
  · rw [ea, eb, ec, ed, ee]; cases a <;> cases b <;> cases c <;> cases d <;> cases e <;> rfl
theorem cnts_val (h s : Int) (j : Nat) (hj : j < 5) : ∀ (l : List S38) (F : Int → Int), 0 ≤ F ((j : Int) + 1) → F ((j : Int) + 1) + l.length ≤ 1000000 → cntsF h s l F ((j : Int) + 1) = F ((j : Int) + 1) + numC h s j l
  | [], F, h0, h1 => by rw [cntsF, numC]; omega
  | m :: ms, F, h0, h1 => by
    rw [List.length_cons] at h1
    have ha := adds_val m h s F j hj
    rw [cntsF, numC]
    have e0 : causesL m.f0 m.f1 m.f2 m.f3 m.f4 h s 5 = causV m h s := rfl
    rw [e0]
    by_cases hc : isC m h s j = true
    · rw [if_pos hc, wrap_id _ (by omega) (by omega)] at ha
      rw [cnts_val h s j hj ms _ (by omega) (by omega), ha, if_pos hc]; omega
    · rw [if_neg hc] at ha
      rw [cnts_val h s j hj ms _ (by omega) (by omega), ha, if_neg hc]; omega
theorem out_rd (F : Int → Int) (j : Nat) (hj : j < 5) : rd (outL F 5) (j : Int) = F ((j : Int) + 1) := by
  have hj' : j = 0 ∨ j = 1 ∨ j = 2 ∨ j = 3 ∨ j = 4 := by omega
  rcases hj' with rfl | rfl | rfl | rfl | rfl <;> rfl
/-- What Counts answers to a made list. -/
def tellC (h s : Int) (l : List S38) : List Int := outL (cntsF h s l (fun _ => 0)) 5
theorem tell_rd (h s : Int) (l : List S38) (hl : l.length ≤ 30) (j : Nat) (hj : j < 5) : rd (tellC h s l) (j : Int) = numC h s j l := by
  unfold tellC
  rw [out_rd _ j hj, cnts_val h s j hj l _ (by omega) (by omega)]; omega
theorem caus_len (m : S38) (h s : Int) : (causV m h s).length = (if isC m h s 0 = true then 1 else 0) + (if isC m h s 1 = true then 1 else 0) + (if isC m h s 2 = true then 1 else 0) + (if isC m h s 3 = true then 1 else 0) + (if isC m h s 4 = true then 1 else 0) := by
  rw [causV_eq]
  simp only [List.length_append]
  congr 1
  · congr 1
    · congr 1
      · congr 1
        · split <;> rfl
        · split <;> rfl
      · split <;> rfl
    · split <;> rfl
  · split <;> rfl
/-- All causes of all ticks. -/
def sumC (h s : Int) : List S38 → Nat
  | [] => 0
  | m :: ms => (causV m h s).length + sumC h s ms
theorem sum_num (h s : Int) : ∀ l, sumC h s l = numC h s 0 l + numC h s 1 l + numC h s 2 l + numC h s 3 l + numC h s 4 l
  | [] => rfl
  | m :: ms => by
    rw [sumC, caus_len, sum_num h s ms]
    simp only [numC]
    omega
theorem sum_le (h s : Int) : ∀ l, sumC h s l ≤ 5 * l.length
  | [] => Nat.le_refl _
  | m :: ms => by have := sum_le h s ms; have := causV_len m h s; rw [sumC, List.length_cons]; omega

end Go.Proofs.Ytlpdoieokgeikaa.Pure
