/- What the words of several slots come to, of the program and of the reference. -/
import Derived.Test.YtbcmlgbhejcjbaaDoorS12
import Derived.Test.YtbcmlgbhejcjbaaDoorWd2
namespace Go.Proofs.YtbcmlgbhejcjbaaDoor.Pure
open Go.RowKit Go.Proofs.YtbcmlgbhejcjbaaDoor.S Go.Proofs.YtbcmlgbhejcjbaaDoorW.PrintWords Go.Proofs.YtbcmlgbhejcjbaaDoorW.PrintLast
set_option linter.unusedVariables false
set_option linter.unusedSimpArgs false

theorem wrongG_from (n : Int) : ∀ (l : List S38) (q : Int), wrongG n l (some q) = 0 → ∀ e ∈ l, q ≤ e.f0
  | [], q, h, e, he => by simp at he
  | x :: xs, q, h, e, he => by
    rw [wrongG] at h
    by_cases hx : entE x n (some q) = 0
    · rw [if_pos hx] at h
      have h1 : q ≤ x.f0 := by
        rw [entE_one] at hx
        by_cases h0 : inB x.f0 0 1099511627776 = false
        · rw [if_pos h0] at hx; exact absurd hx (by decide)
        rw [if_neg h0] at hx
        by_cases h1 : ordB x (some q) = true
        · rw [if_pos h1] at hx; exact absurd hx (by decide)
        · have h1 : ¬ decide (x.f0 < q) = true := h1
          simp at h1; exact h1
      rcases List.mem_cons.1 he with rfl | he
      · exact h1
      · exact Int.le_trans h1 (wrongG_from n xs _ h e he)
    · rw [if_neg hx] at h; exact absurd h hx
theorem wrongG_sorted (n : Int) : ∀ (l : List S38) (p : Option Int), wrongG n l p = 0 → l.Pairwise (fun a b => a.f0 ≤ b.f0)
  | [], p, h => List.Pairwise.nil
  | x :: xs, p, h => by
    rw [wrongG] at h
    by_cases hx : entE x n p = 0
    · rw [if_pos hx] at h
      exact List.Pairwise.cons (wrongG_from n xs _ h) (wrongG_sorted n xs _ h)
    · rw [if_neg hx] at h; exact absurd h hx

/-- The words, slot by slot. -/
def serG (a0 : Int) (l2 : List S38) (slot : Int) : Nat → Nat → List Int → List Int
  | 0, _, _ => []
  | d + 1, j, now => (slotV a0 now (l2.filter (selB ((j : Int) * slot) (((j : Int) + 1) * slot)))).1 :: serG a0 l2 slot d (j + 1) (slotV a0 now (l2.filter (selB ((j : Int) * slot) (((j : Int) + 1) * slot)))).2
theorem slotV_len (a0 : Int) (now : List Int) (es : List S38) : (slotV a0 now es).2.length = now.length := afterW_len _ _
theorem rd_mid (A C : List S38) (e : S38) (i : Nat) (h : A.length = i) : rd_T38 (A ++ e :: C) (i : Int) = e := by
  unfold rd_T38
  subst h; simp

section
variable (a0 : Int) (l2 : List S38) (slot : Int) (m : Nat) (hs : 1 ≤ slot) (hs' : slot ≤ 1099511627776) (hm : m ≤ 8) (hl : l2.length ≤ 2000) (hg : ∀ e ∈ l2, entGood m e)
include hs hs' hm hl hg

theorem ser_inner (now out : List Int) (n : Int) (j : Nat) (v : List Int × Int) (A : List S38) (hj : j ≤ 1000) (hnow : now.length = m) (hout : out.length ≤ 1000)
    (next : ∀ B C, l2 = A ++ (B ++ C) → (∀ e ∈ B, selB ((j : Int) * slot) (((j : Int) + 1) * slot) e = true) → (∀ e ∈ C, ((j : Int) + 1) * slot ≤ e.f0) → Ev (fun k => word_Series.l0 k a0 (slotV a0 now B).2 l2 slot (out ++ [(slotV a0 now B).1]) ((A ++ B).length : Int) n ((j + 1 : Nat) : Int)) v) :
    ∀ C B, l2 = A ++ (B ++ C) → (∀ e ∈ B, selB ((j : Int) * slot) (((j : Int) + 1) * slot) e = true) → (∀ e ∈ C, (j : Int) * slot ≤ e.f0) → C.Pairwise (fun a b => a.f0 ≤ b.f0) →
      Ev (fun k => word_Series.l1 k a0 now l2 slot out ((A ++ B).length : Int) (j : Int) (A.length : Int) n (j : Int)) v := by
  have stop : ∀ B C, l2 = A ++ (B ++ C) → (∀ e ∈ B, selB ((j : Int) * slot) (((j : Int) + 1) * slot) e = true) → (∀ e ∈ C, ((j : Int) + 1) * slot ≤ e.f0) →
      Ev (fun k => (word_of.f a0 now ((l2.take ((A ++ B).length : Int).toNat).drop (A.length : Int).toNat)).bind fun bt372 => (if out.length < 17592186044416 then (word_Series.l0 k a0 bt372.2 l2 slot (out ++ [bt372.1]) ((A ++ B).length : Int) n (wrap64 ((j : Int) + 1))) else none)) v := by
    intro B C e1 hB hC
    have hseg : (l2.take ((A ++ B).length : Int).toNat).drop (A.length : Int).toNat = B := by
      rw [Int.toNat_natCast, Int.toNat_natCast, e1, ← List.append_assoc, List.take_left', List.drop_left']
      · rfl
      · rfl
    have hBl : B.length ≤ 2000 := by rw [e1] at hl; simp at hl; omega
    have hBg : ∀ e ∈ B, entOk e := fun e he => good_ok hm (hg e (by rw [e1]; simp [he]))
    refine (next B C e1 hB hC).congr (fun k => ?_)
    rw [hseg, of_val a0 now B (by omega) (by omega) hBg, Option.bind_some, if_pos (by omega), wrap_succ j (by omega)]
  intro C
  induction C with
  | nil =>
    intro B e1 hB _ _
    have hlen : l2.length = (A ++ B).length := by rw [e1]; simp
    have hAB : A.length ≤ (A ++ B).length := by simp
    refine (stop B [] e1 hB (by simp)).step (fun k => ?_)
    rw [word_Series.l1, if_neg (by omega), if_pos (by omega), if_pos (by omega), if_pos (by omega)]
  | cons e C ih =>
    intro B e1 hB hC hp
    have hlen : (A ++ B).length < l2.length := by rw [e1]; simp
    have hAB : A.length ≤ (A ++ B).length := by simp
    have hrd : rd_T38 l2 ((A ++ B).length : Int) = e := by rw [e1, ← List.append_assoc]; exact rd_mid (A ++ B) C e _ rfl
    have hge := (hg e (by rw [e1]; simp)).1
    have hdiv : Int.tdiv e.f0 slot = e.f0 / slot := Int.tdiv_eq_ediv_of_nonneg hge.1
    have hd0 : 0 ≤ e.f0 / slot := Int.ediv_nonneg hge.1 (by omega)
    have hd1 : e.f0 / slot ≤ e.f0 := Int.ediv_le_self _ hge.1
    have hw : wrap64 (Int.tdiv e.f0 slot) = e.f0 / slot := by rw [hdiv]; exact wrap_id _ (by omega) (by omega)
    have hd2 : e.f0 / slot * slot ≤ e.f0 := Int.ediv_mul_le _ (by omega)
    have hd3 : e.f0 < (e.f0 / slot + 1) * slot := Int.lt_ediv_add_one_mul_self _ (by omega)
    by_cases hq : e.f0 / slot = (j : Int)
    · have hsel : selB ((j : Int) * slot) (((j : Int) + 1) * slot) e = true := by
        rw [hq] at hd2 hd3
        unfold selB; rw [decide_eq_true hd2, decide_eq_true hd3]; rfl
      have hrec := ih (B ++ [e]) (by rw [e1]; simp) (by
        intro y hy
        rcases List.mem_append.1 hy with hy | hy
        · exact hB y hy
        · rw [List.mem_singleton.1 hy]; exact hsel) (fun y hy => hC y (by simp [hy])) (List.pairwise_cons.1 hp).2
      have hl2 : (((A ++ (B ++ [e])).length : Nat) : Int) = wrap64 (((A ++ B).length : Int) + 1) := by
        rw [wrap_succ _ (by omega)]; simp; omega
      rw [hl2] at hrec
      refine hrec.step (fun k => ?_)
      rw [word_Series.l1, if_pos (by omega), if_pos (by omega), if_neg (by omega), hrd, hw, if_pos hq]
    · have hj1 : (j : Int) ≤ e.f0 / slot := Int.le_ediv_of_mul_le (by omega) (hC e (by simp))
      have hj2 : ((j : Int) + 1) * slot ≤ e.f0 := Int.le_trans (Int.mul_le_mul_of_nonneg_right (show (j : Int) + 1 ≤ e.f0 / slot by omega) (by omega)) hd2
      have hC' : ∀ y ∈ e :: C, ((j : Int) + 1) * slot ≤ y.f0 := by
        intro y hy
        rcases List.mem_cons.1 hy with rfl | hy
        · exact hj2
        · exact Int.le_trans hj2 ((List.pairwise_cons.1 hp).1 y hy)
      refine (stop B (e :: C) e1 hB hC').step (fun k => ?_)
      rw [word_Series.l1, if_pos (by omega), if_pos (by omega), if_neg (by omega), hrd, hw, if_neg hq, if_pos (by omega), if_pos (by omega), if_pos (by omega)]

theorem ser_loop (n : Nat) (hn : n ≤ 1000) (hsort : l2.Pairwise (fun a b => a.f0 ≤ b.f0)) : ∀ (d j : Nat) (A C : List S38) (now out : List Int), j + d = n → l2 = A ++ C → (∀ e ∈ A, e.f0 < (j : Int) * slot) → (∀ e ∈ C, (j : Int) * slot ≤ e.f0) → now.length = m → out.length = j →
    Ev (fun k => word_Series.l0 k a0 now l2 slot out (A.length : Int) (n : Int) (j : Int)) (out ++ serG a0 l2 slot d j now, 0) := by
  intro d
  induction d with
  | zero =>
    intro j A C now out hd e1 hA hC hnow hout
    refine (Ev.const _).step (fun k => ?_)
    rw [word_Series.l0, if_neg (by omega), serG, List.append_nil]
  | succ d ih =>
    intro j A C now out hd e1 hA hC hnow hout
    have hin := ser_inner a0 l2 slot m hs hs' hm hl hg now out (n : Int) j (out ++ serG a0 l2 slot (d + 1) j now, 0) A (by omega) hnow (by omega) (by
      intro B C' e2 hB hC'
      have hfil : l2.filter (selB ((j : Int) * slot) (((j : Int) + 1) * slot)) = B := by
        rw [e2, List.filter_append, List.filter_append, List.filter_eq_nil_iff.2, List.filter_eq_self.2 hB, List.filter_eq_nil_iff.2, List.nil_append, List.append_nil]
        · intro e he h
          have := hC' e he
          unfold selB at h; simp at h; omega
        · intro e he h
          have := hA e he
          unfold selB at h; simp at h; omega
      have hrec := ih (j + 1) (A ++ B) C' (slotV a0 now B).2 (out ++ [(slotV a0 now B).1]) (by omega) (by rw [e2, List.append_assoc]) (by
        have hc : ((j + 1 : Nat) : Int) = (j : Int) + 1 := by omega
        rw [hc]
        intro e he
        rcases List.mem_append.1 he with he | he
        · have h1 := hA e he
          have h2 : (j : Int) * slot ≤ ((j : Int) + 1) * slot := Int.mul_le_mul_of_nonneg_right (by omega) (by omega)
          omega
        · have := hB e he
          unfold selB at this; simp at this; omega) (by
        have hc : ((j + 1 : Nat) : Int) = (j : Int) + 1 := by omega
        rw [hc]; exact hC') (by rw [slotV_len]; exact hnow) (by simp [hout])
      rw [serG, hfil]
      rw [List.append_assoc] at hrec
      exact hrec) C [] (by rw [e1]; rfl) (by simp) hC (by rw [e1] at hsort; exact (List.pairwise_append.1 hsort).2.1)
    rw [List.append_nil] at hin
    refine hin.step (fun k => ?_)
    rw [word_Series.l0, if_pos (by omega)]

theorem rser_loop (n : Nat) (hn : n ≤ 1000) : ∀ (d j : Nat) (now out : List Int), j + d = n → now.length = m → out.length = j →
    Ev (fun k => tipstaffref33_Series.l0 k a0 l2 slot (n : Int) out now (j : Int)) (out ++ serG a0 l2 slot d j now, 0) := by
  intro d
  induction d with
  | zero =>
    intro j now out hd hnow hout
    refine (Ev.const _).step (fun k => ?_)
    rw [tipstaffref33_Series.l0, if_neg (by omega), serG, List.append_nil]
  | succ d ih =>
    intro j now out hd hnow hout
    have p1 : (j : Int) * slot ≤ 1000 * 1099511627776 := Int.mul_le_mul (by omega) hs' (by omega) (by omega)
    have p2 : ((j : Int) + 1) * slot ≤ 1000 * 1099511627776 := Int.mul_le_mul (by omega) hs' (by omega) (by omega)
    have p3 : 0 ≤ (j : Int) * slot := Int.mul_nonneg (by omega) (by omega)
    have p4 : 0 ≤ ((j : Int) + 1) * slot := Int.mul_nonneg (by omega) (by omega)
    have hof := rof_val a0 now l2 ((j : Int) * slot) (((j : Int) + 1) * slot) (by omega) (by omega) (by rw [hnow]; exact hg)
    refine Ev.step (g' := fun k => (tipstaffref33_of.f k a0 now l2 ((j : Int) * slot) (((j : Int) + 1) * slot)).bind fun bt391 => (if out.length < 17592186044416 then (tipstaffref33_Series.l0 k a0 l2 slot (n : Int) (out ++ [bt391.1]) bt391.2 (wrap64 ((j : Int) + 1))) else (none))) ?_ (fun k => by
      rw [tipstaffref33_Series.l0, if_pos (by omega), wrap_id ((j : Int) + 1) (by omega) (by omega), wrap_id ((j : Int) * slot) (by omega) (by omega), wrap_id (((j : Int) + 1) * slot) (by omega) (by omega)])
    refine hof.bind (f := fun bt391 k => (if out.length < 17592186044416 then (tipstaffref33_Series.l0 k a0 l2 slot (n : Int) (out ++ [bt391.1]) bt391.2 (wrap64 ((j : Int) + 1))) else (none))) ?_
    have hrec := ih (j + 1) (slotV a0 now (l2.filter (selB ((j : Int) * slot) (((j : Int) + 1) * slot)))).2 (out ++ [(slotV a0 now (l2.filter (selB ((j : Int) * slot) (((j : Int) + 1) * slot)))).1]) (by omega) (by rw [slotV_len]; exact hnow) (by simp [hout])
    rw [serG]
    rw [List.append_assoc] at hrec
    exact hrec.congr (fun k => by rw [if_pos (by omega), wrap_succ j (by omega)])
end

def serV (a0 : Int) (l1 : List Int) (l2 : List S38) (slot n : Int) : List Int × Int :=
  if wrongV a0 l1 l2 = 0 then (if inB slot 1 1099511627776 = true ∧ inB n 0 1000 = true then (serG a0 l2 slot n.toNat 0 l1, 0) else ([], 2)) else ([], wrongV a0 l1 l2)
theorem ser_val (a0 : Int) (l1 : List Int) (l2 : List S38) (slot n : Int) : Ev (fun k => word_Series.f k a0 l1 l2 slot n) (serV a0 l1 l2 slot n) := by
  unfold serV
  by_cases h : wrongV a0 l1 l2 = 0
  · obtain ⟨h1, h2, h3⟩ := wrongV_ok h
    rw [if_pos h]
    have bad : Ev (fun k => word_Series.j0 k a0 l1 l2 slot n true) ([], 2) := by
      refine (Ev.const _).step (fun k => ?_)
      rw [word_Series.j0, if_pos rfl]
    by_cases c1 : inB slot 1 1099511627776 = true
    · by_cases c2 : inB n 0 1000 = true
      · rw [if_pos ⟨c1, c2⟩]
        have c1' := (inB_iff _ _ _).1 c1
        have c2' := (inB_iff _ _ _).1 c2
        have hr := ser_loop a0 l2 slot l1.length c1'.1 c1'.2 h1.2 h2 (wrongG_good _ l2 _ h3) n.toNat (by omega) (wrongG_sorted _ l2 _ h3) n.toNat 0 [] l2 l1 [] (by omega) rfl (by simp) (by
          intro e he
          have := (wrongG_good _ l2 _ h3 e he).1
          simp; omega) rfl rfl
        rw [List.nil_append, Int.toNat_of_nonneg c2'.1] at hr
        refine Ev.congr (g' := fun k => word_Series.j0 k a0 l1 l2 slot n false) ?_ (fun k => by rw [word_Series.f, wrong_val, Option.bind_some, if_pos h, in_val, Option.bind_some, if_pos c1, in_val, Option.bind_some, c2]; rfl)
        refine hr.step (fun k => ?_)
        rw [word_Series.j0, if_neg (by decide)]; rfl
      · rw [if_neg (fun h => c2 h.2)]
        exact bad.congr (fun k => by rw [word_Series.f, wrong_val, Option.bind_some, if_pos h, in_val, Option.bind_some, if_pos c1, in_val, Option.bind_some, show inB n 0 1000 = false by simpa using c2]; rfl)
    · rw [if_neg (fun h => c1 h.1)]
      exact bad.congr (fun k => by rw [word_Series.f, wrong_val, Option.bind_some, if_pos h, in_val, Option.bind_some, if_neg c1])
  · rw [if_neg h]
    exact (Ev.const _).congr (fun k => by rw [word_Series.f, wrong_val, Option.bind_some, if_neg h])
theorem rser_val (a0 : Int) (l1 : List Int) (l2 : List S38) (slot n : Int) : Ev (fun k => tipstaffref33_Series.f k a0 l1 l2 slot n) (serV a0 l1 l2 slot n) := by
  refine Ev.congr (g' := fun k => (tipstaffref33_asks.f k a0 l1 l2).bind fun t390 => (if t390 = 0 then (if slot < 1 then (tipstaffref33_Series.j0 k a0 l1 l2 slot n t390 true) else (if slot > 1099511627776 then (tipstaffref33_Series.j0 k a0 l1 l2 slot n t390 true) else (if n < 0 then (tipstaffref33_Series.j0 k a0 l1 l2 slot n t390 true) else (tipstaffref33_Series.j0 k a0 l1 l2 slot n t390 (decide (n > 1000)))))) else (tipstaffref33_Series.j0 k a0 l1 l2 slot n t390 false))) ?_ (fun k => by rw [tipstaffref33_Series.f])
  refine (asks_val a0 l1 l2).bind (f := fun t390 k => (if t390 = 0 then (if slot < 1 then (tipstaffref33_Series.j0 k a0 l1 l2 slot n t390 true) else (if slot > 1099511627776 then (tipstaffref33_Series.j0 k a0 l1 l2 slot n t390 true) else (if n < 0 then (tipstaffref33_Series.j0 k a0 l1 l2 slot n t390 true) else (tipstaffref33_Series.j0 k a0 l1 l2 slot n t390 (decide (n > 1000)))))) else (tipstaffref33_Series.j0 k a0 l1 l2 slot n t390 false))) ?_
  unfold serV
  by_cases h : wrongV a0 l1 l2 = 0
  · obtain ⟨h1, h2, h3⟩ := wrongV_ok h
    rw [if_pos h, h]
    have bad : Ev (fun k => tipstaffref33_Series.j0 k a0 l1 l2 slot n 0 true) ([], 2) := by
      refine Ev.step (g' := fun k => tipstaffref33_Series.j1 k a0 l1 l2 slot n 2) (Ev.step (Ev.const _) (fun k => ?_)) (fun k => ?_)
      · rw [tipstaffref33_Series.j1, if_neg (by decide)]
      · rw [tipstaffref33_Series.j0, if_pos rfl]
    by_cases c1 : inB slot 1 1099511627776 = true
    · have c1' := (inB_iff _ _ _).1 c1
      by_cases c2 : inB n 0 1000 = true
      · have c2' := (inB_iff _ _ _).1 c2
        rw [if_pos ⟨c1, c2⟩]
        have hr := rser_loop a0 l2 slot l1.length c1'.1 c1'.2 h1.2 h2 (wrongG_good _ l2 _ h3) n.toNat (by omega) n.toNat 0 l1 [] (by omega) rfl rfl
        rw [List.nil_append, Int.toNat_of_nonneg c2'.1] at hr
        refine Ev.congr (g' := fun k => tipstaffref33_Series.j0 k a0 l1 l2 slot n 0 false) ?_ (fun k => by rw [if_pos rfl, if_neg (by omega), if_neg (by omega), if_neg (by omega), decide_eq_false (by omega)])
        refine Ev.step (g' := fun k => tipstaffref33_Series.j1 k a0 l1 l2 slot n 0) (hr.step (fun k => ?_)) (fun k => ?_)
        · rw [tipstaffref33_Series.j1, if_pos rfl]; rfl
        · rw [tipstaffref33_Series.j0, if_neg (by decide)]
      · have c2' := (inB_not _ _ _).1 (by simpa using c2)
        rw [if_neg (fun h => c2 h.2)]
        refine bad.congr (fun k => ?_)
        rw [if_pos rfl, if_neg (by omega), if_neg (by omega)]
        by_cases hn : n < 0
        · rw [if_pos hn]
        · rw [if_neg hn, decide_eq_true (by omega)]
    · have c1' := (inB_not _ _ _).1 (by simpa using c1)
      rw [if_neg (fun h => c1 h.1)]
      refine bad.congr (fun k => ?_)
      rw [if_pos rfl]
      by_cases hn : slot < 1
      · rw [if_pos hn]
      · rw [if_neg hn, if_pos (by omega)]
  · rw [if_neg h]
    refine Ev.congr (g' := fun k => tipstaffref33_Series.j0 k a0 l1 l2 slot n (wrongV a0 l1 l2) false) ?_ (fun k => by rw [if_neg h])
    refine Ev.step (g' := fun k => tipstaffref33_Series.j1 k a0 l1 l2 slot n (wrongV a0 l1 l2)) (Ev.step (Ev.const _) (fun k => ?_)) (fun k => ?_)
    · rw [tipstaffref33_Series.j1, if_neg h]
    · rw [tipstaffref33_Series.j0, if_neg (by decide)]

end Go.Proofs.YtbcmlgbhejcjbaaDoor.Pure
