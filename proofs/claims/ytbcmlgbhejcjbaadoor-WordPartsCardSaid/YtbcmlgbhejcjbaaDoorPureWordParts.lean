/- A slot in two parts has the faults of both, and the loads of the second one's end. -/
import Derived.Test.YtbcmlgbhejcjbaaDoorAskWordParts
import Derived.Test.YtbcmlgbhejcjbaaDoorWm
import Derived.Test.YtbcmlgbhejcjbaaDoorWbM
import Derived.Test.YtbcmlgbhejcjbaaDoorWdA
namespace Go.Proofs.YtbcmlgbhejcjbaaDoor.Pure
open Go.RowKit Go.Proofs.YtbcmlgbhejcjbaaDoor.S Go.Proofs.YtbcmlgbhejcjbaaDoorW.PrintWords Go.Proofs.YtbcmlgbhejcjbaaDoorW.PrintLast
set_option linter.unusedVariables false
set_option linter.unusedSimpArgs false

theorem or_w3 : ∀ a b c a' b' c' : Bool, w3 (a || a') (b || b') (c || c') = w3 a b c ||| w3 a' b' c' := by decide +kernel
theorem w3_lt : ∀ a b c : Bool, w3 a b c < 8 := by decide +kernel
theorem start_at (p q r : Int) (M : Nat → Int) (h0 : p = M 0) (h1 : q = M 1) (h2 : r = M 2) : ∀ i, i < 3 → startL [p, q, r] i = M i := by
  intro i hi
  have hi' : i = 0 ∨ i = 1 ∨ i = 2 := by omega
  rcases hi' with rfl | rfl | rfl
  · exact h0
  · exact h1
  · exact h2
theorem WordParts : WordParts.Stmt := by
  intro x n ⟨_, hw⟩ _ i1
  refine Ev.get (g := fun k => tipstafflaw33_WordParts.f k x n) ?_
  have aw : Ev (fun k => (tipstafflaw33_awake.f k).bind fun t => some t) true := awake_ev.bind (f := fun t _ => some t) (Ev.const _)
  obtain ⟨p, q, l, hp, hq, hmade, hl⟩ := made_val x hw
  have hlen := hl.len
  obtain ⟨K, hK⟩ : ∃ K : Nat, n % ((l.length : Int) + 1) = K := ⟨(n % ((l.length : Int) + 1)).toNat, by have := Int.emod_nonneg n (show (l.length : Int) + 1 ≠ 0 by omega); omega⟩
  have hKl : K ≤ l.length := by have := Int.emod_lt_of_pos n (show 0 < (l.length : Int) + 1 by omega); omega
  have hmod := mod_val n ((l.length : Int) + 1) (i64_of i1) (by omega) (by omega)
  rw [hK] at hmod
  have hwr : wrap64 ((l.length : Int) + 1) = (l.length : Int) + 1 := wrap_id _ (by omega) (by omega)
  obtain ⟨l1, e1⟩ : ∃ l1, l.take K = l1 := ⟨_, rfl⟩
  obtain ⟨l2, e2⟩ : ∃ l2, l.drop K = l2 := ⟨_, rfl⟩
  have h1 : MadeL l1 := by rw [← e1]; exact hl.take K
  have h2 : MadeL l2 := by rw [← e2]; exact hl.drop K
  have hsum : l = l1 ++ l2 := by rw [← e1, ← e2]; exact (List.take_append_drop K l).symm
  obtain ⟨S, hS⟩ : ∃ S, startL [p, q, 0] = S := ⟨_, rfl⟩
  have s0 : ∀ i, i < 3 → 0 ≤ S i ∧ S i < 90 := by
    intro i hi
    have hi' : i = 0 ∨ i = 1 ∨ i = 2 := by omega
    rw [← hS]
    rcases hi' with rfl | rfl | rfl
    · exact hp
    · exact hq
    · exact ⟨Int.le_refl 0, show (0 : Int) < 90 by decide⟩
  obtain ⟨L1, hL1⟩ : ∃ L1, entsL l1 S = L1 := ⟨_, rfl⟩
  have r1 : ∀ i, i < 3 → 0 ≤ L1 i ∧ L1 i < 90 := fun i hi => by rw [← hL1]; exact entsL_range i l1 S h1.all (s0 i hi)
  obtain ⟨L, hL⟩ : ∃ L, entsL l S = L := ⟨_, rfl⟩
  obtain ⟨F, hF⟩ : ∃ F, entsF l (fun _ => false) = F := ⟨_, rfl⟩
  obtain ⟨F1, hF1⟩ : ∃ F1, entsF l1 (fun _ => false) = F1 := ⟨_, rfl⟩
  obtain ⟨F2, hF2⟩ : ∃ F2, entsF l2 (fun _ => false) = F2 := ⟨_, rfl⟩
  obtain ⟨L2, hL2⟩ : ∃ L2, entsL l2 (startL [L1 0, L1 1, L1 2]) = L2 := ⟨_, rfl⟩
  have eL : ∀ i, i < 3 → L2 i = L i := by
    intro i hi
    rw [← hL2, ← hL, hsum, entsL_app, hL1]
    exact entsL_at l2 (start_at _ _ _ L1 rfl rfl rfl i hi)
  have eF : ∀ i, i < 3 → F i = (F1 i || F2 i) := by
    intro i hi
    have hc : ((i : Int) + 1) = (i : Int) + 1 := rfl
    rw [← hF, ← hF1, ← hF2, entsF_fault _ i hc l _ hl.all, entsF_fault _ i hc l1 _ h1.all, entsF_fault _ i hc l2 _ h2.all, hsum]
    unfold faultB; rw [List.any_append]; simp
  have ob : ∀ i, i < 3 → outB 50 L F i = (outB 10000 L1 F1 i || outB 50 L2 F2 i) := by
    intro i hi
    have := r1 i hi
    unfold outB
    rw [eF i hi, eL i hi, decide_eq_false (show ¬ (10000 : Int) < L1 i by omega), Bool.or_false, Bool.or_assoc]
  have vA : ofV 50 [p, q, 0] l = ((w3 (outB 50 L F 0) (outB 50 L F 1) (outB 50 L F 2) : Int), [L 0, L 1, L 2], 0) := by
    unfold ofV; rw [if_pos (made_wrong hl 50 p q 0 (by omega) hp hq (by omega)), slot3, hS, hL, hF]
  have vB : ofV 10000 [p, q, 0] l1 = ((w3 (outB 10000 L1 F1 0) (outB 10000 L1 F1 1) (outB 10000 L1 F1 2) : Int), [L1 0, L1 1, L1 2], 0) := by
    unfold ofV; rw [if_pos (made_wrong h1 10000 p q 0 (by omega) hp hq (by omega)), slot3, hS, hL1, hF1]
  have vC : ofV 50 [L1 0, L1 1, L1 2] l2 = ((w3 (outB 50 L2 F2 0) (outB 50 L2 F2 1) (outB 50 L2 F2 2) : Int), [L 0, L 1, L 2], 0) := by
    unfold ofV; rw [if_pos (made_wrong h2 50 _ _ _ (by omega) (r1 0 (by omega)) (r1 1 (by omega)) (r1 2 (by omega))), slot3, hL2, hF2, eL 0 (by omega), eL 1 (by omega), eL 2 (by omega)]
  have hor := or_w3 (outB 10000 L1 F1 0) (outB 10000 L1 F1 1) (outB 10000 L1 F1 2) (outB 50 L2 F2 0) (outB 50 L2 F2 1) (outB 50 L2 F2 2)
  rw [← ob 0 (by omega), ← ob 1 (by omega), ← ob 2 (by omega)] at hor
  obtain ⟨wa, hwa⟩ : ∃ w, w3 (outB 50 L F 0) (outB 50 L F 1) (outB 50 L F 2) = w := ⟨_, rfl⟩
  obtain ⟨wb, hwb⟩ : ∃ w, w3 (outB 10000 L1 F1 0) (outB 10000 L1 F1 1) (outB 10000 L1 F1 2) = w := ⟨_, rfl⟩
  obtain ⟨wc, hwc⟩ : ∃ w, w3 (outB 50 L2 F2 0) (outB 50 L2 F2 1) (outB 50 L2 F2 2) = w := ⟨_, rfl⟩
  have lb : wb < 8 := by rw [← hwb]; exact w3_lt _ _ _
  have lc : wc < 8 := by rw [← hwc]; exact w3_lt _ _ _
  rw [hwa] at vA hor
  rw [hwb] at vB hor
  rw [hwc] at vC hor
  have hm := merge_val (wb : Int) (wc : Int) 3
  have ok : okW 3 [(wb : Int), (wc : Int)] = 0 := okW_of ⟨by decide, by decide⟩ (fun z hz => by
    show 0 ≤ z ∧ z < 8
    rcases List.mem_cons.1 hz with rfl | hz
    · omega
    · rw [List.mem_singleton.1 hz]; omega)
  rw [show mergeV (wb : Int) (wc : Int) 3 = ((wa : Int), 0) by unfold mergeV; rw [if_pos ok, Int.toNat_natCast, Int.toNat_natCast, ← hor]] at hm
  have rest : Ev (fun k => tipstafflaw33_WordParts.j0 k (wa : Int) (wb : Int) (wc : Int) false) true := by
    refine Ev.step (g' := fun k => (word_Merge.f k (wb : Int) (wc : Int) 3).bind fun bt361 => (if bt361.2 = 0 then (if bt361.1 = (wa : Int) then ((tipstafflaw33_awake.f k).bind fun t363 => (some t363)) else (none)) else (none))) ?_ (fun k => by rw [tipstafflaw33_WordParts.j0, if_neg (by decide)])
    refine hm.bind (f := fun bt361 k => (if bt361.2 = 0 then (if bt361.1 = (wa : Int) then ((tipstafflaw33_awake.f k).bind fun t363 => (some t363)) else (none)) else (none))) ?_
    exact aw.congr (fun k => by rw [if_pos rfl, if_pos rfl])
  refine Ev.congr (g' := fun k => (tipstafflaw33_made.f k x).bind fun bt330 => ((tipstaffkit_Mod.f n (wrap64 ((bt330.2.length : Int) + 1))).bind fun t336 => ((word_Of.f 50 bt330.1 bt330.2).bind fun bt337 => (if 0 ≤ t336 then (if t336 ≤ (bt330.2.length : Int) then ((word_Of.f 10000 bt330.1 (bt330.2.take (t336 : Int).toNat)).bind fun bt346 => ((word_Of.f 50 bt346.2.1 (bt330.2.drop (t336 : Int).toNat)).bind fun bt355 => (if bt337.2.2 = 0 then (if bt346.2.2 = 0 then (if bt355.2.2 = 0 then ((tipstaffkit_SameInts.f k bt337.2.1 bt355.2.1).bind fun t360 => (tipstafflaw33_WordParts.j0 k bt337.1 bt346.1 bt355.1 (!t360))) else (tipstafflaw33_WordParts.j0 k bt337.1 bt346.1 bt355.1 true)) else (tipstafflaw33_WordParts.j0 k bt337.1 bt346.1 bt355.1 true)) else (tipstafflaw33_WordParts.j0 k bt337.1 bt346.1 bt355.1 true)))) else (none)) else (none))))) ?_ (fun k => by rw [tipstafflaw33_WordParts.f])
  refine hmade.bind (f := fun bt330 k => ((tipstaffkit_Mod.f n (wrap64 ((bt330.2.length : Int) + 1))).bind fun t336 => ((word_Of.f 50 bt330.1 bt330.2).bind fun bt337 => (if 0 ≤ t336 then (if t336 ≤ (bt330.2.length : Int) then ((word_Of.f 10000 bt330.1 (bt330.2.take (t336 : Int).toNat)).bind fun bt346 => ((word_Of.f 50 bt346.2.1 (bt330.2.drop (t336 : Int).toNat)).bind fun bt355 => (if bt337.2.2 = 0 then (if bt346.2.2 = 0 then (if bt355.2.2 = 0 then ((tipstaffkit_SameInts.f k bt337.2.1 bt355.2.1).bind fun t360 => (tipstafflaw33_WordParts.j0 k bt337.1 bt346.1 bt355.1 (!t360))) else (tipstafflaw33_WordParts.j0 k bt337.1 bt346.1 bt355.1 true)) else (tipstafflaw33_WordParts.j0 k bt337.1 bt346.1 bt355.1 true)) else (tipstafflaw33_WordParts.j0 k bt337.1 bt346.1 bt355.1 true)))) else (none)) else (none))))) ?_
  refine Ev.congr (g' := fun k => (tipstaffkit_SameInts.f k [L 0, L 1, L 2] [L 0, L 1, L 2]).bind fun t360 => (tipstafflaw33_WordParts.j0 k (wa : Int) (wb : Int) (wc : Int) (!t360))) ?_ (fun k => by
    simp only [hwr, hmod, Of_val, Option.bind_some, vA, Int.toNat_natCast, e1, e2, vB, vC, if_true]
    rw [if_pos (by omega), if_pos (by omega)])
  refine (ints_self [L 0, L 1, L 2] (by simp)).bind (f := fun t360 k => (tipstafflaw33_WordParts.j0 k (wa : Int) (wb : Int) (wc : Int) (!t360))) ?_
  exact rest

end Go.Proofs.YtbcmlgbhejcjbaaDoor.Pure
