/- Joined: The numbers of a run: the reference's are the program's. Counts over views add up: a run's numbers are those of its parts together. -/
import Derived.Test.YtenlokaaloenmaaDoorM4
import Derived.Test.YtenlokaaloenmaaDoorRp6
import Derived.Test.YtenlokaaloenmaaDoorM5
import Derived.Test.YtenlokaaloenmaaDoorHawake
import Derived.Test.YtenlokaaloenmaaDoorRp3
import Derived.Test.YtenlokaaloenmaaDoorS2

section
set_option linter.unusedVariables false
namespace Go.Proofs.YtenlokaaloenmaaDoor.Pure
open Go.RowKit Go.Proofs.YtenlokaaloenmaaDoor.S Go.Proofs.YtenlokaaloenmaaDoorW.PrintWords Go.Proofs.YtenlokaaloenmaaDoorW.PrintLast Go.Proofs.YtenlokaaloenmaaDoorW.PrintMore
set_option linter.unusedVariables false
set_option linter.unusedSimpArgs false

theorem cnt_len (w : Int) (m : Nat) : ∀ (l : List S41) (st : List Int × R3), len3 st.2 m → len3 (cntV w l st).2 m
  | [], _, h => h
  | v :: l, st, h => cnt_len w m l (vwF w st v) (sgL_len w v.f2 0 h)

def cars (l : List S41) : Nat := if 0 < l.length then (rd_T41 l 0).f2.length else 0
def coN (l : List S41) (wd : Int) (x : X4) : Num := numOf (cntV wd l (zer6, List.replicate (cars l) 0, List.replicate (cars l) 0, List.replicate (cars l) 0)) x
theorem coN_len (l : List S41) (wd : Int) (x : X4) : (coN l wd x).a.length = cars l ∧ (coN l wd x).b.length = cars l ∧ (coN l wd x).c.length = cars l :=
  cnt_len wd (cars l) l (zer6, List.replicate (cars l) 0, List.replicate (cars l) 0, List.replicate (cars l) 0) ⟨List.length_replicate, List.length_replicate, List.length_replicate⟩
theorem cars_8 {l : List S41} (ok : OkL l) : cars l ≤ 8 := by
  unfold cars
  by_cases h : 0 < l.length
  · rw [if_pos h]; exact (ok.v _ (memV l 0 h)).m8
  · rw [if_neg h]; exact Nat.zero_le _
def pcX (l : List S41) : X4 := (fl 64 0).foldl (pcL l) (0, 0, 0, 0)
def coV (l : List S41) (wd : Int) : Num × Int := if (chk l).1 = 0 then (if wd < 1 ∨ 20 < wd then (num0, 2) else (coN l wd (pcX l), 0)) else (num0, (chk l).1)
theorem coV_8 (l : List S41) (wd : Int) : Num8 (coV l wd).1 := by
  unfold coV
  by_cases h0 : (chk l).1 = 0
  · have ok : OkL l := chk_ok (x := (chk l).2) (by rw [← h0])
    rw [if_pos h0]
    by_cases h1 : wd < 1 ∨ 20 < wd
    · rw [if_pos h1]; exact ⟨Nat.zero_le _, Nat.zero_le _, Nat.zero_le _⟩
    · rw [if_neg h1]
      obtain ⟨a, b, c⟩ := coN_len l wd (pcX l)
      have := cars_8 ok
      exact ⟨by show (coN l wd (pcX l)).a.length ≤ 8; omega, by show (coN l wd (pcX l)).b.length ≤ 8; omega, by show (coN l wd (pcX l)).c.length ≤ 8; omega⟩
  · rw [if_neg h0]; exact ⟨Nat.zero_le _, Nat.zero_le _, Nat.zero_le _⟩

theorem count_ev (l : List S41) (hw : ∀ v ∈ l, WV v) (wd : Int) : Ev (fun k => report_Count.f k l wd) (coV l wd) := by
  refine Ev.bind (f := fun e k => if e.1 = 0 then (if wd < 1 ∨ 20 < wd then some (num0, 2) else (allF k ((orU l).toNat ||| (orD l).toNat) (orU l) (orD l)).map fun xs => (coN l wd (xs.foldl (pcL l) (0, 0, 0, 0)), 0)) else some (num0, e.1)) (check_ev l hw) ?_
  unfold coV
  by_cases h0 : (chk l).1 = 0
  · rw [if_pos h0]
    by_cases h1 : wd < 1 ∨ 20 < wd
    · rw [if_pos h1]
      exact (Ev.const _).congr (fun k => by rw [if_pos h0, if_pos h1])
    · rw [if_neg h1]
      obtain ⟨xs, ⟨K, hK⟩, hx⟩ := all_ev l hw
      have e := hx (pcL l) (0, 0, 0, 0) (fun b f up hs => by show (spl l (f.val : Int) up).foldl pcS b = b; rw [hs]; rfl)
      refine ⟨K, fun k hk => ?_⟩
      have hk' : allF k ((orU l).toNat ||| (orD l).toNat) (orU l) (orD l) = some xs := hK k hk
      show (if (chk l).1 = 0 then _ else _) = _
      rw [if_pos h0, if_neg h1, hk', Option.map_some, e]
      rfl
  · rw [if_neg h0]
    exact (Ev.const _).congr (fun k => by rw [if_neg h0])

abbrev X3 := Int × Int × Int
end Go.Proofs.YtenlokaaloenmaaDoor.Pure
end

section
set_option linter.unusedVariables false
namespace Go.Proofs.YtenlokaaloenmaaDoor.Pure
open Go.RowKit Go.Proofs.YtenlokaaloenmaaDoor.S Go.Proofs.YtenlokaaloenmaaDoorW.PrintWords Go.Proofs.YtenlokaaloenmaaDoorW.PrintLast Go.Proofs.YtenlokaaloenmaaDoorW.PrintMore
set_option linter.unusedVariables false
set_option linter.unusedSimpArgs false

theorem inc_rd (a : List Int) (i k : Nat) (hi : i < a.length) : rd (incI a i) (k : Int) = if k = i then wrap64 (rd a (i : Int) + 1) else rd a (k : Int) := by
  unfold incI rd
  rw [Int.toNat_natCast, Int.toNat_natCast, List.getD_eq_getElem?_getD, List.getElem?_set]
  by_cases h : k = i
  · subst h
    rw [if_pos rfl, if_pos rfl, if_pos hi]; rfl
  · rw [if_neg (fun h' => h h'.symm), if_neg h, List.getD_eq_getElem?_getD]
/-- All between 0 and a bound. -/
def Sm (B : Nat) (a : List Int) : Prop := ∀ k : Nat, 0 ≤ rd a (k : Int) ∧ rd a (k : Int) ≤ (B : Int)
theorem Sm.inc {B : Nat} {a : List Int} (h : Sm B a) (hB : B < 1000000) (i : Nat) (hi : i < a.length) : Sm (B + 1) (incI a i) ∧ ∀ k : Nat, rd (incI a i) (k : Int) = rd a (k : Int) + (if k = i then 1 else 0) := by
  have hw : wrap64 (rd a (i : Int) + 1) = rd a (i : Int) + 1 := by have := h i; exact wrap_id _ (by omega) (by omega)
  have e : ∀ k : Nat, rd (incI a i) (k : Int) = rd a (k : Int) + (if k = i then 1 else 0) := by
    intro k
    rw [inc_rd a i k hi, hw]
    by_cases hk : k = i
    · subst hk; rw [if_pos rfl, if_pos rfl]
    · rw [if_neg hk, if_neg hk]; omega
  refine ⟨fun k => ?_, e⟩
  rw [e k]
  have := h k
  by_cases hk : k = i
  · rw [if_pos hk]; omega
  · rw [if_neg hk]; omega
theorem Sm.mono {B C : Nat} {a : List Int} (h : Sm B a) (hc : B ≤ C) : Sm C a := fun k => ⟨(h k).1, by have := (h k).2; omega⟩

/-- How many replies of a code. -/
def kR (l : List S66) (k : Nat) : Nat := l.countP (fun x => (x.f1 - 1).toNat == k)
theorem repF_rd : ∀ (l : List S66) (r : List Int) (B : Nat), r.length = 6 → (∀ x ∈ l, 1 ≤ x.f1 ∧ x.f1 ≤ 6) → Sm B r → B + l.length ≤ 1000000 → Sm (B + l.length) (repF r l) ∧ ∀ k : Nat, rd (repF r l) (k : Int) = rd r (k : Int) + (kR l k : Int)
  | [], r, B, _, _, hs, _ => ⟨hs, fun k => by show rd r k = rd r k + ((0 : Nat) : Int); omega⟩
  | x :: l, r, B, hr, hx, hs, hB => by
    have hx0 := hx x (List.mem_cons_self ..)
    rw [List.length_cons] at hB
    obtain ⟨h1, h2⟩ := hs.inc (by omega) (x.f1 - 1).toNat (by omega)
    obtain ⟨h3, h4⟩ := repF_rd l (incI r (x.f1 - 1).toNat) (B + 1) (by rw [incI_len, hr]) (fun y hy => hx y (List.mem_cons_of_mem _ hy)) h1 (by omega)
    have e : repF r (x :: l) = repF (incI r (x.f1 - 1).toNat) l := rfl
    rw [e, List.length_cons]
    refine ⟨h3.mono (by omega), fun k => ?_⟩
    rw [h4 k, h2 k]
    unfold kR
    rw [List.countP_cons]
    by_cases hk : k = (x.f1 - 1).toNat
    · rw [if_pos hk, if_pos (by rw [beq_iff_eq]; exact hk.symm)]; omega
    · rw [if_neg hk, if_neg (by rw [beq_iff_eq]; exact fun h => hk h.symm)]; omega

/-- One more for each car that does so, in a view. -/
def sg1 (p : S43 → Bool) : List S43 → Nat → List Int → List Int
  | [], _, a => a
  | s :: l, i, a => sg1 p l (i + 1) (if p s = true then incI a i else a)
def hit (p : S43 → Bool) (l : List S43) (j : Nat) : Nat := if (l[j]?).any p = true then 1 else 0
theorem sg1_len (p : S43 → Bool) : ∀ (l : List S43) (i : Nat) (a : List Int), (sg1 p l i a).length = a.length
  | [], _, _ => rfl
  | s :: l, i, a => by
    rw [sg1, sg1_len p l]
    by_cases h : p s = true
    · rw [if_pos h, incI_len]
    · rw [if_neg h]
theorem hit_le (p : S43 → Bool) (l : List S43) (j : Nat) : hit p l j ≤ 1 := by
  unfold hit
  by_cases h : (l[j]?).any p = true
  · rw [if_pos h]; exact Nat.le_refl _
  · rw [if_neg h]; exact Nat.zero_le _
theorem sg1_rd (p : S43 → Bool) : ∀ (l : List S43) (i : Nat) (a : List Int) (B : Nat), i + l.length ≤ a.length → Sm B a → B + l.length ≤ 1000000 →
    ∀ k : Nat, rd (sg1 p l i a) (k : Int) = rd a (k : Int) + (if i ≤ k then (hit p l (k - i) : Int) else 0)
  | [], i, a, B, _, _, _, k => by
    have : hit p [] (k - i) = 0 := by unfold hit; rw [if_neg (by simp)]
    rw [sg1, this]
    by_cases h : i ≤ k
    · rw [if_pos h]; omega
    · rw [if_neg h]; omega
  | s :: l, i, a, B, hi, hs, hB, k => by
    rw [List.length_cons] at hi hB
    have key : ∃ a', (if p s = true then incI a i else a) = a' ∧ a'.length = a.length ∧ Sm (B + 1) a' ∧ ∀ k : Nat, rd a' (k : Int) = rd a (k : Int) + (if k = i then (if p s = true then 1 else 0) else 0) := by
      by_cases h : p s = true
      · obtain ⟨h1, h2⟩ := hs.inc (by omega) i (by omega)
        refine ⟨incI a i, if_pos h, incI_len a i, h1, fun k => ?_⟩
        rw [h2 k, if_pos h]
      · refine ⟨a, if_neg h, rfl, hs.mono (by omega), fun k => ?_⟩
        rw [if_neg h]
        by_cases hk : k = i
        · rw [if_pos hk]; omega
        · rw [if_neg hk]; omega
    obtain ⟨a', e1, e2, e3, e4⟩ := key
    rw [sg1, e1, sg1_rd p l (i + 1) a' (B + 1) (by omega) e3 (by omega) k, e4 k]
    by_cases h1 : i ≤ k
    · rw [if_pos h1]
      by_cases h2 : k = i
      · subst h2
        rw [if_pos rfl, if_neg (show ¬ (k + 1 ≤ k) by omega), Nat.sub_self]
        unfold hit
        rw [List.getElem?_cons_zero]
        show _ = _ + (((if (some s).any p = true then 1 else 0 : Nat) : Nat) : Int)
        rw [Option.any_some]
        by_cases h : p s = true
        · rw [if_pos h, if_pos h]; omega
        · rw [if_neg h, if_neg h]; omega
      · rw [if_neg h2, if_pos (show i + 1 ≤ k by omega)]
        have : hit p (s :: l) (k - i) = hit p l (k - (i + 1)) := by
          unfold hit
          rw [show k - i = (k - (i + 1)) + 1 by omega, List.getElem?_cons_succ]
        rw [this]; omega
    · rw [if_neg h1, if_neg (show ¬ (i + 1 ≤ k) by omega), if_neg (show ¬ k = i by omega)]; omega
def p1 (s : S43) : Bool := decide (s.f0 ≥ 0)
theorem sgL_3 (w : Int) : ∀ (l : List S43) (i : Nat) (st : R3), sgL w l i st = (sg1 p1 l i st.1, sg1 (fun s => s.f2) l i st.2.1, sg1 (fun s => opn s w) l i st.2.2)
  | [], _, _ => rfl
  | s :: l, i, st => by
    rw [sgL, sgL_3 w l (i + 1)]
    unfold sgF
    simp only [sg1, p1, decide_eq_true_eq]

/-- In how many views a car does so. -/
def kS (p : S43 → Bool) (l : List S41) (k : Nat) : Nat := l.countP (fun v => (v.f2[k]?).any p)
def cn1 (p : S43 → Bool) (l : List S41) (a : List Int) : List Int := l.foldl (fun a v => sg1 p v.f2 0 a) a
theorem cntV_3 (w : Int) : ∀ (l : List S41) (st : List Int × R3), cntV w l st = (l.foldl (fun r v => repF r v.f1) st.1, cn1 p1 l st.2.1, cn1 (fun s => s.f2) l st.2.2.1, cn1 (fun s => opn s w) l st.2.2.2)
  | [], _ => rfl
  | v :: l, st => by
    have e : cntV w (v :: l) st = cntV w l (vwF w st v) := rfl
    rw [e, cntV_3 w l]
    unfold vwF
    rw [sgL_3]
    rfl
theorem cn1_rd (p : S43 → Bool) (m : Nat) (hm : m ≤ 8) : ∀ (l : List S41) (a : List Int) (B : Nat), (∀ v ∈ l, v.f2.length = m) → a.length = m → Sm B a → B + l.length ≤ 900000 → ∀ k : Nat, rd (cn1 p l a) (k : Int) = rd a (k : Int) + (kS p l k : Int)
  | [], a, B, _, _, _, _, k => by show rd a k = rd a k + ((0 : Nat) : Int); omega
  | v :: l, a, B, hv, ha, hs, hB, k => by
    have hv0 := hv v (List.mem_cons_self ..)
    rw [List.length_cons] at hB
    have e1 := sg1_rd p v.f2 0 a B (by omega) hs (by omega)
    have h1 : ∀ k : Nat, rd (sg1 p v.f2 0 a) (k : Int) = rd a (k : Int) + (hit p v.f2 k : Int) := fun k => by
      rw [e1 k, if_pos (Nat.zero_le _), Nat.sub_zero]
    have hs1 : Sm (B + 1) (sg1 p v.f2 0 a) := fun k => by
      have := hs k
      have := hit_le p v.f2 k
      rw [h1 k]; omega
    have e : cn1 p (v :: l) a = cn1 p l (sg1 p v.f2 0 a) := rfl
    rw [e, cn1_rd p m hm l (sg1 p v.f2 0 a) (B + 1) (fun x hx => hv x (List.mem_cons_of_mem _ hx)) (by rw [sg1_len, ha]) hs1 (by omega) k, h1 k]
    unfold kS hit
    rw [List.countP_cons]
    omega
theorem rp_rd : ∀ (l : List S41) (r : List Int) (B : Nat), r.length = 6 → (∀ v ∈ l, v.f1.length ≤ 2 ∧ ∀ x ∈ v.f1, 1 ≤ x.f1 ∧ x.f1 ≤ 6) → Sm B r → B + 2 * l.length ≤ 900000 → ∀ k : Nat, rd (l.foldl (fun r v => repF r v.f1) r) (k : Int) = rd r (k : Int) + (((l.map fun v => kR v.f1 k).sum : Nat) : Int)
  | [], r, B, _, _, _, _, k => by show rd r k = rd r k + ((0 : Nat) : Int); omega
  | v :: l, r, B, hr, hv, hs, hB, k => by
    obtain ⟨hv1, hv2⟩ := hv v (List.mem_cons_self ..)
    rw [List.length_cons] at hB
    obtain ⟨h1, h2⟩ := repF_rd v.f1 r B hr hv2 hs (by omega)
    rw [List.foldl_cons, rp_rd l (repF r v.f1) (B + 2) (by rw [repF_len, hr]) (fun x hx => hv x (List.mem_cons_of_mem _ hx)) (h1.mono (by omega)) (by omega) k, h2 k, List.map_cons, List.sum_cons]
    omega

theorem zer_rd (m : Nat) (k : Nat) : rd (List.replicate m 0) (k : Int) = 0 := by
  unfold rd
  rw [Int.toNat_natCast, List.getD_eq_getElem?_getD, List.getElem?_replicate]
  by_cases h : k < m
  · rw [if_pos h]; rfl
  · rw [if_neg h]; rfl
theorem zer6_rd (k : Nat) : rd zer6 (k : Int) = 0 := zer_rd 6 k

end Go.Proofs.YtenlokaaloenmaaDoor.Pure
end
