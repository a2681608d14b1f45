/- Entries of one car change no bit but its own, obstructions do not matter, and a fault sets the bit. -/
import Derived.Test.YtbcmlgbhejcjbaaDoorAskWordAlone
import Derived.Test.YtbcmlgbhejcjbaaDoorWm
import Derived.Test.YtbcmlgbhejcjbaaDoorWdA
namespace Go.Proofs.YtbcmlgbhejcjbaaDoor.Pure
open Go.RowKit Go.Proofs.YtbcmlgbhejcjbaaDoor.S Go.Proofs.YtbcmlgbhejcjbaaDoorW.PrintWords Go.Proofs.YtbcmlgbhejcjbaaDoorW.PrintLast
set_option linter.unusedVariables false
set_option linter.unusedSimpArgs false

def pick3 (a b c : Bool) (i : Nat) : Bool := if i = 0 then a else if i = 1 then b else c
theorem and3 : ∀ i : Fin 3, ∀ a b c : Bool, Go.bits .and .i64 (w3 a b c : Int) (shl .i64 1 (IntKind.u64.wrap (i.val : Int))) = if pick3 a b c i.val then ((2 ^ i.val : Nat) : Int) else 0 := by decide +kernel
theorem uwrap3 : ∀ i : Fin 3, 0 ≤ IntKind.u64.wrap (i.val : Int) := by decide +kernel
theorem pow3 : ∀ i : Fin 3, (((2 ^ i.val : Nat) : Int) != 0) = true := by decide +kernel
theorem pick_at (g : Nat → Bool) (i : Nat) (h : i < 3) : pick3 (g 0) (g 1) (g 2) i = g i := by
  have h' : i = 0 ∨ i = 1 ∨ i = 2 := by omega
  rcases h' with rfl | rfl | rfl <;> rfl
theorem rd3 (g : Nat → Int) (i : Nat) (h : i < 3) : rd [g 0, g 1, g 2] (i : Int) = g i := by
  have h' : i = 0 ∨ i = 1 ∨ i = 2 := by omega
  rcases h' with rfl | rfl | rfl <;> rfl
abbrev ownF (c : Int) (l : List S38) : List S38 := l.filter fun e => decide (e.f4 = c)
abbrev movF (l : List S38) : List S38 := l.filter fun e => decide (e.f5 ≠ 2)
theorem own_snoc (c : Int) (A : List S38) (e : S38) : ownF c (A ++ [e]) = ownF c A ++ (if e.f4 = c then [e] else []) := by
  unfold ownF; rw [List.filter_append]; congr 1
  by_cases h : e.f4 = c
  · rw [if_pos h, List.filter_cons_of_pos (by simpa using h)]; rfl
  · rw [if_neg h, List.filter_cons_of_neg (by simpa using h)]; rfl
theorem mov_snoc (A : List S38) (e : S38) : movF (A ++ [e]) = movF A ++ (if e.f5 = 2 then [] else [e]) := by
  unfold movF; rw [List.filter_append]; congr 1
  by_cases h : e.f5 = 2
  · rw [if_pos h, List.filter_cons_of_neg (by simpa using h)]; rfl
  · rw [if_neg h, List.filter_cons_of_pos (by simpa using h)]; rfl
theorem fault_snoc (c : Int) (A : List S38) (e : S38) : faultB c (A ++ [e]) = (faultB c A || (decide (e.f4 = c) && decide (e.f5 ≥ 3))) := by
  unfold faultB; rw [List.any_append]; simp

theorem alone_loop (ld : List Int) (l : List S38) (c : Int) (hl : l.length ≤ 30) (v : Bool) (hend : Ev (fun k => tipstafflaw33_WordAlone.l0 k ld l c (ownF c l) (movF l) (faultB c l) (l.length : Int)) v) :
    ∀ C A, l = A ++ C → Ev (fun k => tipstafflaw33_WordAlone.l0 k ld l c (ownF c A) (movF A) (faultB c A) (A.length : Int)) v := by
  intro C
  induction C with
  | nil =>
    intro A e1
    rw [List.append_nil] at e1
    rw [← e1]; exact hend
  | cons e C ih =>
    intro A e1
    have hrd : rd_T38 l (A.length : Int) = e := by rw [e1]; unfold rd_T38; simp
    have hlt : A.length < l.length := by rw [e1]; simp
    have ho : (ownF c A).length ≤ A.length := List.length_filter_le _ _
    have hm : (movF A).length ≤ A.length := List.length_filter_le _ _
    have ih := ih (A ++ [e]) (by rw [e1]; simp)
    have hl1 : (((A ++ [e]).length : Nat) : Int) = wrap64 ((A.length : Int) + 1) := by rw [wrap_succ _ (by omega)]; simp
    rw [hl1, own_snoc, mov_snoc, fault_snoc] at ih
    by_cases h4 : e.f4 = c
    · rw [if_pos h4, decide_eq_true h4, Bool.true_and] at ih
      by_cases h5 : e.f5 = 2
      · rw [if_pos h5, List.append_nil, decide_eq_false (show ¬ e.f5 ≥ 3 by omega), Bool.or_false] at ih
        refine ih.step (fun k => ?_)
        rw [tipstafflaw33_WordAlone.l0, if_pos (by omega), if_pos (by omega), hrd, if_pos h4, if_pos (by omega), Option.bind_some]
        cases hf : faultB c A with
        | true => rw [if_pos rfl, if_pos h5]
        | false => rw [if_neg (by decide), if_pos h5, decide_eq_false (show ¬ e.f5 ≥ 3 by omega)]
      · rw [if_neg h5] at ih
        refine ih.step (fun k => ?_)
        rw [tipstafflaw33_WordAlone.l0, if_pos (by omega), if_pos (by omega), hrd, if_pos h4, if_pos (by omega), Option.bind_some]
        cases hf : faultB c A with
        | true => rw [if_pos rfl, if_neg h5, if_pos (by omega), Bool.true_or]
        | false => rw [if_neg (by decide), if_neg h5, if_pos (by omega), Bool.false_or]
    · rw [if_neg h4, decide_eq_false h4, Bool.false_and, Bool.or_false, List.append_nil] at ih
      by_cases h5 : e.f5 = 2
      · rw [if_pos h5, List.append_nil] at ih
        refine ih.step (fun k => ?_)
        rw [tipstafflaw33_WordAlone.l0, if_pos (by omega), if_pos (by omega), hrd, if_neg h4, if_pos h5]
      · rw [if_neg h5] at ih
        refine ih.step (fun k => ?_)
        rw [tipstafflaw33_WordAlone.l0, if_pos (by omega), if_pos (by omega), hrd, if_neg h4, if_neg h5, if_pos (by omega)]

theorem WordAlone : WordAlone.Stmt := by
  intro x n ⟨_, hw⟩ _ i1
  refine Ev.get (g := fun k => tipstafflaw33_WordAlone.f k x n) ?_
  have aw : Ev (fun k => (tipstafflaw33_awake.f k).bind fun t => some t) true := awake_ev.bind (f := fun t _ => some t) (Ev.const _)
  obtain ⟨p, q, l, hp, hq, hmade, hl⟩ := made_val x hw
  have hlen := hl.len
  have hmod := mod_val n 3 (i64_of i1) (by omega) (by omega)
  obtain ⟨i, hi⟩ : ∃ i : Nat, n % 3 = i := ⟨(n % 3).toNat, by omega⟩
  have hi3 : i < 3 := by omega
  rw [hi] at hmod
  obtain ⟨c, hc⟩ : ∃ c : Int, c = (i : Int) + 1 := ⟨_, rfl⟩
  have hwr : wrap64 (1 + (i : Int)) = c := by rw [hc, wrap_id _ (by omega) (by omega)]; omega
  have hwc : wrap64 (c - 1) = (i : Int) := by rw [hc, wrap_id _ (by omega) (by omega)]; omega
  have ho : MadeL (ownF c l) := hl.filter _
  have hv : MadeL (movF l) := hl.filter _
  obtain ⟨S, hS⟩ : ∃ S, startL [p, q, 0] = S := ⟨_, rfl⟩
  obtain ⟨L, hL⟩ : ∃ L, entsL l S = L := ⟨_, rfl⟩
  obtain ⟨F, hF⟩ : ∃ F, entsF l (fun _ => false) = F := ⟨_, rfl⟩
  obtain ⟨Lo, hLo⟩ : ∃ L, entsL (ownF c l) S = L := ⟨_, rfl⟩
  obtain ⟨Fo, hFo⟩ : ∃ F, entsF (ownF c l) (fun _ => false) = F := ⟨_, rfl⟩
  have eLo : Lo i = L i := by rw [← hLo, ← hL]; exact entsL_own c i hc l S hl.all
  have eFo : Fo i = F i := by rw [← hFo, ← hF]; exact entsF_own c i hc l _ hl.all
  have eFi : F i = faultB c l := by rw [← hF, entsF_fault c i hc l _ hl.all, Bool.false_or]
  have vA : ofV 50 [p, q, 0] l = ((w3 (outB 50 L F 0) (outB 50 L F 1) (outB 50 L F 2) : Int), [L 0, L 1, L 2], 0) := by
    unfold ofV; rw [if_pos (made_wrong hl 50 p q 0 (by omega) hp hq (by omega)), slot3, hS, hL, hF]
  have vB : ofV 50 [p, q, 0] (ownF c l) = ((w3 (outB 50 Lo Fo 0) (outB 50 Lo Fo 1) (outB 50 Lo Fo 2) : Int), [Lo 0, Lo 1, Lo 2], 0) := by
    unfold ofV; rw [if_pos (made_wrong ho 50 p q 0 (by omega) hp hq (by omega)), slot3, hS, hLo, hFo]
  have vC : ofV 50 [p, q, 0] (movF l) = ((w3 (outB 50 L F 0) (outB 50 L F 1) (outB 50 L F 2) : Int), [L 0, L 1, L 2], 0) := by
    unfold ofV; rw [if_pos (made_wrong hv 50 p q 0 (by omega) hp hq (by omega)), slot3, hS, entsL_moving, entsF_moving, hL, hF]
  have eout : outB 50 Lo Fo i = outB 50 L F i := by unfold outB; rw [eLo, eFo]
  have nA := and3 ⟨i, hi3⟩ (outB 50 L F 0) (outB 50 L F 1) (outB 50 L F 2)
  have nB := and3 ⟨i, hi3⟩ (outB 50 Lo Fo 0) (outB 50 Lo Fo 1) (outB 50 Lo Fo 2)
  have nA : Go.bits .and .i64 (w3 (outB 50 L F 0) (outB 50 L F 1) (outB 50 L F 2) : Int) (shl .i64 1 (IntKind.u64.wrap (i : Int))) = if outB 50 L F i then ((2 ^ i : Nat) : Int) else 0 := by
    rw [← pick_at (outB 50 L F) i hi3]; exact nA
  have nB : Go.bits .and .i64 (w3 (outB 50 Lo Fo 0) (outB 50 Lo Fo 1) (outB 50 Lo Fo 2) : Int) (shl .i64 1 (IntKind.u64.wrap (i : Int))) = if outB 50 L F i then ((2 ^ i : Nat) : Int) else 0 := by
    rw [← eout, ← pick_at (outB 50 Lo Fo) i hi3]; exact nB
  have hu : 0 ≤ IntKind.u64.wrap (i : Int) := uwrap3 ⟨i, hi3⟩
  have hp2 : (((2 ^ i : Nat) : Int) != 0) = true := pow3 ⟨i, hi3⟩
  have rA : rd [L 0, L 1, L 2] (i : Int) = L i := rd3 L i hi3
  have rB : rd [Lo 0, Lo 1, Lo 2] (i : Int) = L i := (rd3 Lo i hi3).trans eLo
  have bnz : ((if outB 50 L F i then ((2 ^ i : Nat) : Int) else 0) != 0) = outB 50 L F i := by
    cases outB 50 L F i with
    | true => rw [if_pos rfl, hp2]
    | false => rw [if_neg (by decide)]; rfl
  obtain ⟨wa, hwa⟩ : ∃ w, w3 (outB 50 L F 0) (outB 50 L F 1) (outB 50 L F 2) = w := ⟨_, rfl⟩
  obtain ⟨wb, hwb⟩ : ∃ w, w3 (outB 50 Lo Fo 0) (outB 50 Lo Fo 1) (outB 50 Lo Fo 2) = w := ⟨_, rfl⟩
  rw [hwa] at vA vC nA
  rw [hwb] at vB nB
  have len3 : ∀ a b c : Int, ((([a, b, c] : List Int).length : Nat) : Int) = 3 := fun _ _ _ => rfl
  have hend : Ev (fun k => tipstafflaw33_WordAlone.l0 k [p, q, 0] l c (ownF c l) (movF l) (faultB c l) (l.length : Int)) true := by
    refine Ev.step (g' := fun k => (tipstaffkit_SameInts.f k [L 0, L 1, L 2] [L 0, L 1, L 2]).bind fun t317 => (if t317 = true then (if faultB c l = true then (if ((outB 50 L F i) == true) = true then ((tipstafflaw33_awake.f k).bind fun t320 => (some t320)) else (none)) else (if ((outB 50 L F i) == (decide (L i > 50))) = true then ((tipstafflaw33_awake.f k).bind fun t322 => (some t322)) else (none))) else (none))) ?_ (fun k => by
      rw [tipstafflaw33_WordAlone.l0, if_neg (by omega)]
      simp only [Of_val, Option.bind_some, vA, vB, vC, if_true, len3, hwc, hu, nA, nB, rA, rB, bnz]
      rw [if_pos (show 0 ≤ (i : Int) by omega), if_pos (show (i : Int) < 3 by omega), if_pos (show (i : Int) < 3 by omega)])
    refine (ints_self [L 0, L 1, L 2] (by simp)).bind (f := fun t317 k => (if t317 = true then (if faultB c l = true then (if ((outB 50 L F i) == true) = true then ((tipstafflaw33_awake.f k).bind fun t320 => (some t320)) else (none)) else (if ((outB 50 L F i) == (decide (L i > 50))) = true then ((tipstafflaw33_awake.f k).bind fun t322 => (some t322)) else (none))) else (none))) ?_
    refine aw.congr (fun k => ?_)
    rw [if_pos rfl]
    have hob : outB 50 L F i = (faultB c l || decide (50 < L i)) := by unfold outB; rw [eFi]
    rw [hob]
    cases hf : faultB c l with
    | true => rw [if_pos rfl, Bool.true_or, if_pos (show (true == true) = true from rfl)]
    | false =>
      rw [if_neg (by decide), Bool.false_or, if_pos]
      exact beq_self_eq_true _
  have hrun := alone_loop [p, q, 0] l c hlen true hend l [] rfl
  refine Ev.congr (g' := fun k => (tipstafflaw33_made.f k x).bind fun bt274 => ((tipstaffkit_Mod.f n 3).bind fun t280 => (tipstafflaw33_WordAlone.l0 k bt274.1 bt274.2 (wrap64 (1 + t280)) ([] : List (S38)) ([] : List (S38)) false 0))) ?_ (fun k => by rw [tipstafflaw33_WordAlone.f])
  refine hmade.bind (f := fun bt274 k => ((tipstaffkit_Mod.f n 3).bind fun t280 => (tipstafflaw33_WordAlone.l0 k bt274.1 bt274.2 (wrap64 (1 + t280)) ([] : List (S38)) ([] : List (S38)) false 0))) ?_
  refine hrun.congr (fun k => ?_)
  rw [hmod, Option.bind_some, hwr]; rfl

end Go.Proofs.YtbcmlgbhejcjbaaDoor.Pure
