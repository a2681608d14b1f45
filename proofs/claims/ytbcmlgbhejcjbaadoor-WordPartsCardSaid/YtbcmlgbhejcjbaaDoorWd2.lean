/- What the reference's word of a slot comes to, and that the program's is the same. -/
import Derived.Test.YtbcmlgbhejcjbaaDoorWd1
namespace Go.Proofs.YtbcmlgbhejcjbaaDoor.Pure
open Go.RowKit Go.Proofs.YtbcmlgbhejcjbaaDoor.S Go.Proofs.YtbcmlgbhejcjbaaDoorW.PrintWords Go.Proofs.YtbcmlgbhejcjbaaDoorW.PrintLast
set_option linter.unusedVariables false
set_option linter.unusedSimpArgs false

def listW {α : Type} (f : Nat → α) (n : Nat) : List α := (List.range n).map f
theorem afterW_eq (L : Nat → Int) : ∀ n, afterW L n = listW L n
  | 0 => rfl
  | n + 1 => by rw [afterW, afterW_eq L n, listW, listW, List.range_succ, List.map_append]; rfl
theorem listW_len {α : Type} (f : Nat → α) (n : Nat) : (listW f n).length = n := by simp [listW]
theorem listW_get {α : Type} (f : Nat → α) (n i : Nat) (h : i < n) : (listW f n)[i]? = some (f i) := by simp [listW, h]
theorem listW_set {α : Type} (f : Nat → α) (n i : Nat) (v : α) (h : i < n) : (listW f n).set i v = listW (updF f i v) n := by
  refine List.ext_getElem? (fun j => ?_)
  by_cases hj : j < n
  · rw [listW_get _ _ _ hj, List.getElem?_set]
    by_cases e : i = j
    · subst e; rw [if_pos rfl, if_pos (by rw [listW_len]; exact h)]; unfold updF; rw [if_pos rfl]
    · rw [if_neg e, listW_get _ _ _ hj]; unfold updF; rw [if_neg (fun h => e h.symm)]
  · rw [List.getElem?_eq_none (by rw [List.length_set, listW_len]; omega), List.getElem?_eq_none (by rw [listW_len]; omega)]
theorem listW_start (l : List Int) : l = listW (startL l) l.length := by
  refine List.ext_getElem? (fun j => ?_)
  by_cases hj : j < l.length
  · rw [listW_get _ _ _ hj]; unfold startL; simp [hj]
  · rw [List.getElem?_eq_none (by omega), List.getElem?_eq_none (by rw [listW_len]; omega)]
theorem listW_false (n : Nat) : List.replicate n false = listW (fun _ => false) n := by
  refine List.ext_getElem? (fun j => ?_)
  by_cases hj : j < n
  · rw [listW_get _ _ _ hj]; simp [hj]
  · rw [List.getElem?_eq_none (by simp; omega), List.getElem?_eq_none (by rw [listW_len]; omega)]
theorem listW_rd (L : Nat → Int) (n i : Nat) (h : i < n) : rd (listW L n) (i : Int) = L i := by
  rw [rd_nat _ i (by rw [listW_len]; exact h)]
  have := listW_get L n i h
  rw [List.getElem?_eq_getElem (by rw [listW_len]; exact h)] at this
  exact Option.some.inj this
theorem listW_rdb (F : Nat → Bool) (n i : Nat) (h : i < n) : rdOf false (listW F n) (i : Int) = F i := by
  unfold rdOf
  have := listW_get F n i h
  simp [this]

theorem or_fin : ∀ i : Fin 8, ∀ w : Fin 256, w.val < 2 ^ i.val → Go.bits .or .u64 (w.val : Int) (IntKind.u64.wrap (2 ^ i.val)) = (w.val : Int) + 2 ^ i.val := by decide +kernel
theorem or_val (i : Nat) (w : Int) (hi : i < 8) (h0 : 0 ≤ w) (h1 : w < 2 ^ i) : Go.bits .or .u64 w (IntKind.u64.wrap (2 ^ i)) = w + 2 ^ i := by
  obtain ⟨n, rfl⟩ : ∃ n : Nat, w = n := ⟨w.toNat, by omega⟩
  have h2 : n < 2 ^ i := by exact_mod_cast h1
  have h3 : (2 : Nat) ^ i ≤ 2 ^ 7 := Nat.pow_le_pow_right (by decide) (by omega)
  exact or_fin ⟨i, hi⟩ ⟨n, by omega⟩ h2
theorem wordW_lt (a0 : Int) (L : Nat → Int) (F : Nat → Bool) : ∀ (d i : Nat) (w : Int), i + d ≤ 8 → 0 ≤ w → w < 2 ^ i → 0 ≤ wordW a0 L F d i w ∧ wordW a0 L F d i w < 2 ^ (i + d)
  | 0, i, w, hi, h0, h1 => ⟨h0, h1⟩
  | d + 1, i, w, hi, h0, h1 => by
    have e2 : (2 : Int) ^ (i + 1) = 2 * 2 ^ i := by rw [Int.pow_succ]; omega
    rw [wordW]
    split
    · rw [or_val i w (by omega) h0 h1]
      have := wordW_lt a0 L F d (i + 1) (w + 2 ^ i) (by omega) (by omega) (by omega)
      rw [show i + 1 + d = i + (d + 1) by omega] at this; exact this
    · have := wordW_lt a0 L F d (i + 1) w (by omega) h0 (by omega)
      rw [show i + 1 + d = i + (d + 1) by omega] at this; exact this
def slotV (a0 : Int) (l1 : List Int) (es : List S38) : Int × List Int := (wordW a0 (entsL es (startL l1)) (entsF es (fun _ => false)) l1.length 0 0, afterW (entsL es (startL l1)) l1.length)
theorem of_val (a0 : Int) (l1 : List Int) (es : List S38) (h1 : l1.length ≤ 8) (h2 : es.length ≤ 1000000) (h3 : ∀ e ∈ es, entOk e) : word_of.f a0 l1 es = some (slotV a0 l1 es) := by
  unfold word_of.f
  rw [if_pos ⟨h1, h2, h3⟩]
  have := wordW_lt a0 (entsL es (startL l1)) (entsF es (fun _ => false)) l1.length 0 0 (by omega) (by omega) (by decide)
  have h4 : (2 : Int) ^ (0 + l1.length) ≤ 2 ^ 8 := by exact_mod_cast Nat.pow_le_pow_right (by decide) (show 0 + l1.length ≤ 8 by omega)
  rw [wrap_id _ (by omega) (by omega)]; rfl

theorem rword_loop (a0 : Int) (l1 : List Int) (L : Nat → Int) (F : Nat → Bool) (hn : l1.length ≤ 8) : ∀ (d i : Nat) (w : Int), i + d = l1.length → 0 ≤ w → w < 2 ^ i →
    Ev (fun k => tipstaffref33_of.l1 k a0 l1 (listW L l1.length) (listW F l1.length) w (2 ^ i) (i : Int)) (wordW a0 L F d i w, listW L l1.length) := by
  intro d
  induction d with
  | zero =>
    intro i w hi h0 h1
    refine (Ev.const _).step (fun k => ?_)
    rw [tipstaffref33_of.l1, if_neg (by omega)]; rfl
  | succ d ih =>
    intro i w hi h0 h1
    have e2 : (2 : Int) ^ (i + 1) = 2 * 2 ^ i := by rw [Int.pow_succ]; omega
    have e3 : (2 : Int) ^ i ≤ 2 ^ 8 := by exact_mod_cast Nat.pow_le_pow_right (by decide) (show i ≤ 8 by omega)
    have e4 : wrap64 (w + 2 ^ i) = w + 2 ^ i := wrap_id _ (by omega) (by omega)
    have e5 : wrap64 (2 * 2 ^ i) = 2 ^ (i + 1) := by rw [e2]; exact wrap_id _ (by omega) (by omega)
    have l1n : (listW F l1.length).length = l1.length := listW_len _ _
    have l2n : (listW L l1.length).length = l1.length := listW_len _ _
    rw [wordW]
    by_cases hF : F i = true
    · rw [if_pos (Or.inl hF), or_val i w (by omega) h0 h1]
      refine (ih (i + 1) (w + 2 ^ i) (by omega) (by omega) (by omega)).step (fun k => ?_)
      rw [tipstaffref33_of.l1, if_pos (by omega), if_pos (by omega), if_pos (by omega), listW_rdb F _ i (by omega), if_pos hF, e4, e5, wrap_succ i (by omega)]
    · by_cases hL : a0 < L i
      · rw [if_pos (Or.inr hL), or_val i w (by omega) h0 h1]
        refine (ih (i + 1) (w + 2 ^ i) (by omega) (by omega) (by omega)).step (fun k => ?_)
        rw [tipstaffref33_of.l1, if_pos (by omega), if_pos (by omega), if_pos (by omega), listW_rdb F _ i (by omega), if_neg hF, if_pos (by omega), listW_rd L _ i (by omega), if_pos (by omega), e4, e5, wrap_succ i (by omega)]
      · rw [if_neg (by rintro (h | h); exact hF h; exact hL h)]
        refine (ih (i + 1) w (by omega) h0 (by omega)).step (fun k => ?_)
        rw [tipstaffref33_of.l1, if_pos (by omega), if_pos (by omega), if_pos (by omega), listW_rdb F _ i (by omega), if_neg hF, if_pos (by omega), listW_rd L _ i (by omega), if_neg (by omega), e5, wrap_succ i (by omega)]

/-- The entries of a slot. -/
def selB (a b : Int) (e : S38) : Bool := decide (a ≤ e.f0) && decide (e.f0 < b)
theorem rof_loop (a0 : Int) (l1 : List Int) (l2 : List S38) (a b : Int) (hn : l1.length ≤ 8) (hl : l2.length ≤ 1000000) (hg : ∀ e ∈ l2, entGood l1.length e) (v : Int × List Int) : ∀ (d i : Nat) (L : Nat → Int) (F : Nat → Bool), i + d = l2.length →
    (Ev (fun k => tipstaffref33_of.l1 k a0 l1 (listW (entsL ((l2.drop i).filter (selB a b)) L) l1.length) (listW (entsF ((l2.drop i).filter (selB a b)) F) l1.length) 0 1 0) v) →
    Ev (fun k => tipstaffref33_of.l0 k a0 l1 l2 a b (listW L l1.length) (listW F l1.length) (i : Int)) v := by
  intro d
  induction d with
  | zero =>
    intro i L F hi h
    rw [List.drop_eq_nil_of_le (by omega)] at h
    refine h.step (fun k => ?_)
    rw [tipstaffref33_of.l0, if_neg (by omega)]; rfl
  | succ d ih =>
    intro i L F hi h
    rw [rd38_drop l2 i (by omega)] at h
    have hge := hg _ (rd38_mem l2 i (by omega))
    obtain ⟨e, he⟩ : ∃ e, rd_T38 l2 (i : Int) = e := ⟨_, rfl⟩
    rw [he] at h hge
    have l1n : (listW F l1.length).length = l1.length := listW_len _ _
    have l2n : (listW L l1.length).length = l1.length := listW_len _ _
    have skip : (entL e L = L ∧ entF e F = F ∨ selB a b e = false) → Ev (fun k => tipstaffref33_of.l0 k a0 l1 l2 a b (listW L l1.length) (listW F l1.length) ((i + 1 : Nat) : Int)) v := by
      intro hs
      refine ih (i + 1) L F (by omega) ?_
      by_cases hb : selB a b e = true
      · rw [List.filter_cons_of_pos hb, entsL, entsF] at h
        rcases hs with ⟨h1, h2⟩ | h3
        · rw [h1, h2] at h; exact h
        · rw [hb] at h3; cases h3
      · rw [List.filter_cons_of_neg hb] at h; exact h
    have jskip : Ev (fun k => tipstaffref33_of.l0 k a0 l1 l2 a b (listW L l1.length) (listW F l1.length) ((i + 1 : Nat) : Int)) v → Ev (fun k => tipstaffref33_of.j1 k a0 l1 l2 a b (listW L l1.length) (listW F l1.length) (i : Int) true e.f0 e.f1 e.f2 e.f3 e.f4 e.f5 e.f6) v := by
      intro h
      refine h.step (fun k => ?_)
      rw [tipstaffref33_of.j1, if_pos rfl, wrap_succ i (by omega)]
    by_cases h2 : e.f1 = 2
    · by_cases hb : selB a b e = true
      · have hb' : a ≤ e.f0 ∧ e.f0 < b := by unfold selB at hb; simpa using hb
        obtain ⟨g1, g2, g3, g4⟩ := hge.2 h2
        refine Ev.step (g' := fun k => tipstaffref33_of.j1 k a0 l1 l2 a b (listW L l1.length) (listW F l1.length) (i : Int) false e.f0 e.f1 e.f2 e.f3 e.f4 e.f5 e.f6) ?_ (fun k => by rw [tipstaffref33_of.l0, if_pos (by omega), if_pos (by omega), he, if_pos h2, if_neg (by omega), decide_eq_false (by omega)])
        have w1 : wrap64 (e.f4 - 1) = e.f4 - 1 := wrap_id _ (by omega) (by omega)
        rw [List.filter_cons_of_pos hb, entsL, entsF] at h
        by_cases h5 : e.f5 = 1
        · rw [show entL e L = updF L (e.f4 - 1).toNat e.f6 from if_pos ⟨h2, h5⟩, show entF e F = F from if_neg (by omega)] at h
          refine (ih (i + 1) _ _ (by omega) h).step (fun k => ?_)
          rw [tipstaffref33_of.j1, if_neg (show ¬ (false = true) by decide), if_pos h5, w1, if_pos (by omega), if_pos (by omega), listW_set L _ _ _ (by omega), wrap_succ i (by omega)]
        · by_cases h3 : e.f5 ≥ 3
          · rw [show entL e L = L from if_neg (by omega), show entF e F = updF F (e.f4 - 1).toNat true from if_pos ⟨h2, h3⟩] at h
            refine (ih (i + 1) _ _ (by omega) h).step (fun k => ?_)
            rw [tipstaffref33_of.j1, if_neg (show ¬ (false = true) by decide), if_neg h5, if_pos h3, w1, if_pos (by omega), if_pos (by omega), listW_set F _ _ _ (by omega), wrap_succ i (by omega)]
          · rw [show entL e L = L from if_neg (by omega), show entF e F = F from if_neg (by omega)] at h
            refine (ih (i + 1) _ _ (by omega) h).step (fun k => ?_)
            rw [tipstaffref33_of.j1, if_neg (show ¬ (false = true) by decide), if_neg h5, if_neg h3, wrap_succ i (by omega)]
      · have hb' : ¬ (a ≤ e.f0 ∧ e.f0 < b) := by unfold selB at hb; simpa using hb
        refine (jskip (skip (Or.inr (by simpa using hb)))).step (fun k => ?_)
        rw [tipstaffref33_of.l0, if_pos (by omega), if_pos (by omega), he, if_pos h2]
        by_cases h4 : e.f0 < a
        · rw [if_pos h4]
        · rw [if_neg h4, decide_eq_true (by omega)]
    · refine (jskip (skip (Or.inl ⟨if_neg (fun h => h2 h.1), if_neg (fun h => h2 h.1)⟩))).step (fun k => ?_)
      rw [tipstaffref33_of.l0, if_pos (by omega), if_pos (by omega), he, if_neg h2]
theorem rof_val (a0 : Int) (l1 : List Int) (l2 : List S38) (a b : Int) (hn : l1.length ≤ 8) (hl : l2.length ≤ 1000000) (hg : ∀ e ∈ l2, entGood l1.length e) : Ev (fun k => tipstaffref33_of.f k a0 l1 l2 a b) (slotV a0 l1 (l2.filter (selB a b))) := by
  have h := rof_loop a0 l1 l2 a b hn hl hg (slotV a0 l1 (l2.filter (selB a b))) l2.length 0 (startL l1) (fun _ => false) (Nat.zero_add _) (by
    have := rword_loop a0 l1 (entsL (l2.filter (selB a b)) (startL l1)) (entsF (l2.filter (selB a b)) (fun _ => false)) hn l1.length 0 0 (Nat.zero_add _) (by omega) (by decide)
    unfold slotV; rw [afterW_eq]; exact this)
  refine h.congr (fun k => ?_)
  rw [tipstaffref33_of.f, Option.bind_some, if_pos (by simp; omega), if_pos (by omega), if_pos (by omega), List.nil_append, ← listW_start, Int.toNat_natCast, listW_false]; rfl

theorem good_ok {n : Nat} {e : S38} (hn : n ≤ 8) (h : entGood n e) : entOk e := fun h2 => by have := h.2 h2; omega
theorem filter_all (l2 : List S38) (n : Nat) (hg : ∀ e ∈ l2, entGood n e) : l2.filter (selB 0 1099511627777) = l2 := by
  rw [List.filter_eq_self]
  intro e he
  have := (hg e he).1
  unfold selB; simp; omega
/-- What Of answers. -/
def ofV (a0 : Int) (l1 : List Int) (l2 : List S38) : Int × List Int × Int := if wrongV a0 l1 l2 = 0 then ((slotV a0 l1 l2).1, (slotV a0 l1 l2).2, 0) else (0, [], wrongV a0 l1 l2)
theorem Of_val (a0 : Int) (l1 : List Int) (l2 : List S38) : word_Of.f a0 l1 l2 = some (ofV a0 l1 l2) := by
  rw [word_Of.f, wrong_val, Option.bind_some]
  unfold ofV
  by_cases h : wrongV a0 l1 l2 = 0
  · obtain ⟨h1, h2, h3⟩ := wrongV_ok h
    rw [if_pos h, if_pos h, of_val a0 l1 l2 h1.2 (by omega) (fun e he => good_ok h1.2 (wrongG_good _ l2 _ h3 e he))]; rfl
  · rw [if_neg h, if_neg h]
theorem rOf_val (a0 : Int) (l1 : List Int) (l2 : List S38) : Ev (fun k => tipstaffref33_Of.f k a0 l1 l2) (ofV a0 l1 l2) := by
  refine Ev.congr (g' := fun k => (tipstaffref33_asks.f k a0 l1 l2).bind fun t224 => (if t224 = 0 then ((tipstaffref33_of.f k a0 l1 l2 0 1099511627777).bind fun bt225 => (some (bt225.1, bt225.2, (0 : Int)))) else (some (0, ([] : List Int), t224)))) ?_ (fun k => by rw [tipstaffref33_Of.f])
  refine (asks_val a0 l1 l2).bind (f := fun t224 k => (if t224 = 0 then ((tipstaffref33_of.f k a0 l1 l2 0 1099511627777).bind fun bt225 => (some (bt225.1, bt225.2, (0 : Int)))) else (some (0, ([] : List Int), t224)))) ?_
  unfold ofV
  by_cases h : wrongV a0 l1 l2 = 0
  · obtain ⟨h1, h2, h3⟩ := wrongV_ok h
    have hg := wrongG_good _ l2 _ h3
    rw [if_pos h]
    refine Ev.congr (g' := fun k => (tipstaffref33_of.f k a0 l1 l2 0 1099511627777).bind fun bt225 => (some (bt225.1, bt225.2, (0 : Int)))) ?_ (fun k => by rw [if_pos h])
    have hv := rof_val a0 l1 l2 0 1099511627777 h1.2 (by omega) hg
    rw [filter_all l2 _ hg] at hv
    exact hv.bind (f := fun bt225 _ => some (bt225.1, bt225.2, (0 : Int))) (Ev.const _)
  · rw [if_neg h]
    exact (Ev.const _).congr (fun k => by rw [if_neg h])

end Go.Proofs.YtbcmlgbhejcjbaaDoor.Pure
