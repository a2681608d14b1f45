/- The numbers of two parts of a run that is made, and of the whole. -/
import Derived.Test.YtenlokaaloenmaaDoorRp7
import Derived.Test.YtenlokaaloenmaaDoorM7
import Derived.Test.YtenlokaaloenmaaDoorM8
set_option linter.unusedVariables false
namespace Go.Proofs.YtenlokaaloenmaaDoor.Pure
open Go.RowKit Go.Proofs.YtenlokaaloenmaaDoor.S Go.Proofs.YtenlokaaloenmaaDoorW.PrintWords Go.Proofs.YtenlokaaloenmaaDoorW.PrintLast Go.Proofs.YtenlokaaloenmaaDoorW.PrintMore
set_option linter.unusedVariables false
set_option linter.unusedSimpArgs false

/-- How often a light goes on. -/
def nsp : Bool → List Bool → Nat
  | _, [] => 0
  | p, b :: t => (if b = true ∧ p = false then 1 else 0) + nsp b t
theorem nsp_le (p : Bool) (b : List Bool) : nsp p b ≤ nsp false b := by
  cases b with
  | nil => exact Nat.le_refl _
  | cons b t => cases p <;> cases b <;> simp [nsp]
theorem nsp_append : ∀ (a : List Bool) (p : Bool) (b : List Bool), nsp p (a ++ b) ≤ nsp p a + nsp false b
  | [], p, b => by
    have := nsp_le p b
    show nsp p b ≤ 0 + nsp false b
    omega
  | x :: a, p, b => by
    have := nsp_append a x b
    rw [List.cons_append, nsp, nsp]; omega
theorem spF_nsp (l : List S41) (f : Int) (up : Bool) : ∀ (d i : Nat) (frm : Int), d = l.length - i → i ≤ l.length → (spF l f up d i frm).length = (if frm ≥ 0 then 1 else 0) + nsp (decide (frm ≥ 0)) ((l.drop i).map fun v => onV f up v.f3 v.f4)
  | 0, i, frm, hd, hi => by
    rw [List.drop_eq_nil_of_le (by omega), spF, List.map_nil, nsp]
    by_cases h : frm ≥ 0
    · rw [if_pos h, if_pos h]; rfl
    · rw [if_neg h, if_neg h]; rfl
  | d + 1, i, frm, hd, hi => by
    have ih := fun frm => spF_nsp l f up d (i + 1) frm (by omega) (by omega)
    rw [dropV l i (by omega), List.map_cons, nsp, spF]
    have n1 : ¬ ((-1 : Int) ≥ 0) := by decide
    cases hb : onV f up (rd_T41 l (i : Int)).f3 (rd_T41 l (i : Int)).f4 with
    | true =>
      rw [if_pos rfl]
      by_cases h : frm ≥ 0
      · rw [if_neg (show ¬ frm < 0 by omega), ih, if_pos h, decide_eq_true h, if_neg (show ¬ (true = true ∧ true = false) by decide)]; omega
      · have hi0 : (i : Int) ≥ 0 := by omega
        rw [if_pos (show frm < 0 by omega), ih, if_pos hi0, if_neg h, decide_eq_true hi0, decide_eq_false h, if_pos (show true = true ∧ false = false from ⟨rfl, rfl⟩)]; omega
    | false =>
      rw [if_neg (show ¬ (false = true) by decide), if_neg (show ¬ (false = true ∧ decide (frm ≥ 0) = false) from fun h => by cases h.1)]
      by_cases h : frm ≥ 0
      · rw [if_pos h, if_pos h, List.length_cons, ih, if_neg n1, decide_eq_false n1]; omega
      · rw [if_neg h, if_neg h, ih, if_neg h, decide_eq_false h]; omega
theorem spl_nsp (l : List S41) (f : Int) (up : Bool) : (spl l f up).length = nsp false (l.map fun v => onV f up v.f3 v.f4) := by
  have h := spF_nsp l f up l.length 0 (-1) rfl (Nat.zero_le _)
  have n1 : ¬ ((-1 : Int) ≥ 0) := by decide
  rw [if_neg n1, decide_eq_false n1, List.drop_zero, Nat.zero_add] at h
  exact h
theorem spl_parts (l : List S41) (m : Nat) (f : Int) (up : Bool) : (spl l f up).length ≤ (spl (l.take m) f up).length + (spl (l.drop m) f up).length := by
  have h := nsp_append ((l.take m).map fun v => onV f up v.f3 v.f4) false ((l.drop m).map fun v => onV f up v.f3 v.f4)
  rw [← List.map_append, List.take_append_drop] at h
  rw [spl_nsp, spl_nsp, spl_nsp]
  exact h

/-- How many spells all lights have. -/
def totL (l : List S41) (gs : List (Fin 64 × Bool)) : Nat := (gs.map fun g => (spl l (g.1.val : Int) g.2).length).sum
theorem pcS_fst (al : List (S57 × Bool)) : ∀ x : X4, 0 ≤ x.1 → x.1 + al.length ≤ 1000000000 → (al.foldl pcS x).1 = x.1 + al.length := by
  induction al with
  | nil => intro x _ _; show x.1 = x.1 + ((0 : Nat) : Int); omega
  | cons y al ih =>
    intro x h0 h1
    rw [List.length_cons] at h1 ⊢
    have e : (pcS x y).1 = x.1 + 1 := by
      have hw : wrap64 (x.1 + 1) = x.1 + 1 := wrap_id _ (by omega) (by omega)
      unfold pcS
      by_cases h : y.2 = true
      · rw [if_pos h]; exact hw
      · rw [if_neg h]; exact hw
    rw [List.foldl_cons, ih (pcS x y) (by omega) (by omega), e]
    omega
theorem pcL_fst (l : List S41) : ∀ (gs : List (Fin 64 × Bool)) (x : X4), 0 ≤ x.1 → x.1 + gs.length * (l.length + 1) ≤ 1000000000 → (gs.foldl (pcL l) x).1 = x.1 + (totL l gs : Int) ∧ totL l gs ≤ gs.length * (l.length + 1)
  | [], x, _, _ => ⟨by show x.1 = x.1 + ((0 : Nat) : Int); omega, Nat.zero_le _⟩
  | g :: gs, x, h0, h1 => by
    have hl := spl_len l (g.1.val : Int) g.2
    have hmul : ((g :: gs).length : Int) * ((l.length : Int) + 1) = (gs.length : Int) * ((l.length : Int) + 1) + ((l.length : Int) + 1) := by
      rw [List.length_cons]; push_cast; rw [Int.add_mul, Int.one_mul]
    have hmulN : (g :: gs).length * (l.length + 1) = gs.length * (l.length + 1) + (l.length + 1) := by rw [List.length_cons, Nat.succ_mul]
    have hnn : (0 : Int) ≤ (gs.length : Int) * ((l.length : Int) + 1) := Int.mul_nonneg (by omega) (by omega)
    rw [hmul] at h1
    obtain ⟨q, hq⟩ : ∃ q, (gs.length : Int) * ((l.length : Int) + 1) = q := ⟨_, rfl⟩
    rw [hq] at h1 hnn
    have e : (pcL l x g).1 = x.1 + (spl l (g.1.val : Int) g.2).length := pcS_fst (spl l (g.1.val : Int) g.2) x h0 (by omega)
    obtain ⟨e1, e2⟩ := pcL_fst l gs (pcL l x g) (by omega) (by rw [hq]; omega)
    have et : totL l (g :: gs) = (spl l (g.1.val : Int) g.2).length + totL l gs := by unfold totL; rw [List.map_cons, List.sum_cons]
    rw [List.foldl_cons, e1, e, et, hmulN]
    exact ⟨by omega, by omega⟩
theorem fl_len : ∀ n c, (fl n c).length = 2 * n
  | 0, _ => rfl
  | n + 1, c => by rw [fl, List.length_cons, List.length_cons, fl_len n]; omega
theorem pcX_fst (l : List S41) (hl : l.length ≤ 40) : (pcX l).1 = (totL l (fl 64 0) : Int) ∧ totL l (fl 64 0) ≤ 10000 := by
  have h := pcL_fst l (fl 64 0) (0, 0, 0, 0) (Int.le_refl _) (by rw [fl_len]; show (0 : Int) + _ ≤ _; omega)
  rw [fl_len] at h
  refine ⟨?_, by omega⟩
  have h1 := h.1
  show ((fl 64 0).foldl (pcL l) (0, 0, 0, 0)).1 = _
  rw [h1]
  show (0 : Int) + _ = _
  omega
theorem tot_parts (l : List S41) (m : Nat) : ∀ gs, totL l gs ≤ totL (l.take m) gs + totL (l.drop m) gs
  | [] => Nat.le_refl _
  | g :: gs => by
    have h := spl_parts l m (g.1.val : Int) g.2
    have ih := tot_parts l m gs
    unfold totL at ih ⊢
    rw [List.map_cons, List.map_cons, List.map_cons, List.sum_cons, List.sum_cons, List.sum_cons]
    omega

theorem rd_take (l : List S41) (m j : Nat) (h : j < m) : rd_T41 (l.take m) (j : Int) = rd_T41 l (j : Int) := by
  unfold rd_T41
  simp [List.getElem?_take, h]
theorem rd_drop (l : List S41) (m j : Nat) : rd_T41 (l.drop m) (j : Int) = rd_T41 l ((m + j : Nat) : Int) := by
  unfold rd_T41
  simp only [Int.toNat_natCast, List.getD_eq_getElem?_getD, List.getElem?_drop]
theorem Md.take {l : List S41} {c : Nat} {t0 : Int} (h : Md l c t0) (m : Nat) : Md (l.take m) c t0 where
  c1 := h.c1
  c3 := h.c3
  t1 := h.t1
  t2 := by have := h.t2; have := List.length_take_le m l; have : (l.take m).length ≤ l.length := by rw [List.length_take]; omega
           omega
  len := by have := h.len; rw [List.length_take]; omega
  t := fun j hj => by
    rw [List.length_take] at hj
    rw [rd_take l m j (by omega)]
    exact h.t j (by omega)
  v := fun v hv => h.v v (List.mem_of_mem_take hv)
theorem Md.drop {l : List S41} {c : Nat} {t0 : Int} (h : Md l c t0) (m : Nat) (hm : m ≤ l.length) : Md (l.drop m) c (t0 + m) where
  c1 := h.c1
  c3 := h.c3
  t1 := by have := h.t1; omega
  t2 := by have := h.t2; rw [List.length_drop]; omega
  len := by have := h.len; rw [List.length_drop]; omega
  t := fun j hj => by
    rw [List.length_drop] at hj
    rw [rd_drop, h.t (m + j) (by omega)]
    omega
  v := fun v hv => h.v v (List.mem_of_mem_drop hv)

theorem Md.cars {l : List S41} {c : Nat} {t0 : Int} (h : Md l c t0) : ∀ v ∈ l, v.f2.length = cars l := by
  intro v hv
  have hn : 0 < l.length := List.length_pos_of_mem hv
  unfold Pure.cars
  rw [if_pos hn, (h.v v hv).n]
  exact (h.v _ (memV l 0 hn)).n.symm
theorem coN_rd {l : List S41} {c : Nat} {t0 : Int} (h : Md l c t0) (x : X4) : (∀ k : Nat, rd (coN l 2 x).a (k : Int) = (kS p1 l k : Int)) ∧ (∀ k : Nat, rd (coN l 2 x).b (k : Int) = (kS (fun s => s.f2) l k : Int)) ∧ (∀ k : Nat, rd (coN l 2 x).c (k : Int) = (kS (fun s => opn s 2) l k : Int)) ∧
    (∀ k : Nat, rd (coN l 2 x).r (k : Int) = (((l.map fun v => kR v.f1 k).sum : Nat) : Int)) := by
  have h8 := cars_8 h.ok
  have hl := h.len
  have sm : Sm 0 (List.replicate (cars l) 0) := fun k => by rw [zer_rd]; exact ⟨Int.le_refl _, Int.le_refl _⟩
  have e : ∀ p, ∀ k : Nat, rd (cn1 p l (List.replicate (cars l) 0)) (k : Int) = (kS p l k : Int) := fun p k => by
    rw [cn1_rd p (cars l) h8 l _ 0 h.cars List.length_replicate sm (by omega) k, zer_rd]; omega
  have er : ∀ k : Nat, rd (l.foldl (fun r v => repF r v.f1) zer6) (k : Int) = (((l.map fun v => kR v.f1 k).sum : Nat) : Int) := fun k => by
    rw [rp_rd l zer6 0 rfl (fun v hv => ⟨(h.v v hv).r, fun x hx => ((h.v v hv).rr x hx).2⟩) (fun k => by rw [zer6_rd]; exact ⟨Int.le_refl _, Int.le_refl _⟩) (by omega) k, zer6_rd]; omega
  unfold coN numOf
  rw [cntV_3]
  exact ⟨e _, e _, e _, er⟩

theorem at_val (l : List Int) (i : Nat) : tipstaffkit_At.f l (i : Int) = some (rd l (i : Int)) := by
  unfold tipstaffkit_At.f
  rw [if_neg (show ¬ (i : Int) < 0 by omega)]
  by_cases h : (i : Int) ≥ (l.length : Int)
  · rw [if_pos h]
    unfold rd
    rw [Int.toNat_natCast, List.getD_eq_getElem?_getD, List.getElem?_eq_none (by omega)]; rfl
  · rw [if_neg h, if_pos (show (0 : Int) ≤ (i : Int) by omega), if_pos (show (i : Int) < (l.length : Int) by omega)]
theorem two_le {α : Type} (P Q : α → Bool) : ∀ l : List α, (∀ v ∈ l, ¬ (P v = true ∧ Q v = true)) → l.countP P + l.countP Q ≤ l.length
  | [], _ => Nat.le_refl _
  | v :: l, h => by
    have hv := h v (List.mem_cons_self ..)
    have ih := two_le P Q l (fun x hx => h x (List.mem_cons_of_mem _ hx))
    rw [List.countP_cons, List.countP_cons, List.length_cons]
    cases hp : P v <;> cases hq : Q v
    all_goals first | exact absurd (And.intro hp hq) hv | (simp only [Bool.false_eq_true, if_false, if_true]; omega) | (simp only [if_true]; omega)
theorem kS_le (p : S43 → Bool) (l : List S41) (k : Nat) : kS p l k ≤ l.length := List.countP_le_length
theorem kS_parts (p : S43 → Bool) (l : List S41) (m k : Nat) : kS p (l.take m) k + kS p (l.drop m) k = kS p l k := by
  unfold kS
  rw [← List.countP_append, List.take_append_drop]
theorem kR_parts (l : List S41) (m k : Nat) : ((l.take m).map fun v => kR v.f1 k).sum + ((l.drop m).map fun v => kR v.f1 k).sum = (l.map fun v => kR v.f1 k).sum := by
  rw [← List.sum_append, ← List.map_append, List.take_append_drop]
theorem kR_le {l : List S41} (h : ∀ v ∈ l, v.f1.length ≤ 2) (k : Nat) : (l.map fun v => kR v.f1 k).sum ≤ 2 * l.length := by
  induction l with
  | nil => exact Nat.le_refl _
  | cons v l ih =>
    have h1 := h v (List.mem_cons_self ..)
    have h2 := ih (fun x hx => h x (List.mem_cons_of_mem _ hx))
    have h3 : kR v.f1 k ≤ v.f1.length := List.countP_le_length
    rw [List.map_cons, List.sum_cons, List.length_cons]
    omega

theorem parts_ok {l : List S41} {c : Nat} {t0 : Int} (h : Md l c t0) (m : Nat) (hm : m ≤ l.length) : PartsOk (coN (l.take m) 2 (pcX (l.take m))) (coN (l.drop m) 2 (pcX (l.drop m))) (coN l 2 (pcX l)) l.length := by
  have hx := h.take m
  have hy := h.drop m hm
  obtain ⟨xa, xb, xc, xr⟩ := coN_rd hx (pcX (l.take m))
  obtain ⟨ya, yb, yc, yr⟩ := coN_rd hy (pcX (l.drop m))
  obtain ⟨za, zb, zc, zr⟩ := coN_rd h (pcX l)
  obtain ⟨l1, l2, l3⟩ := coN_len l 2 (pcX l)
  have hl := h.len
  have ex := pcX_fst (l.take m) hx.len
  have ey := pcX_fst (l.drop m) hy.len
  have ez := pcX_fst l hl
  have hsum : ∀ p (k : Nat), wrap64 ((kS p (l.take m) k : Int) + (kS p (l.drop m) k : Int)) = (kS p l k : Int) := fun p k => by
    have h1 := kS_parts p l m k
    have h2 := kS_le p l k
    rw [← Int.natCast_add, h1]
    exact wrap_id _ (by omega) (by omega)
  refine ⟨?_, ?_, by rw [l2, l1], by rw [l3, l1], ?_, ?_, ?_, ?_, ?_, ?_⟩
  · show ¬ (pcX l).1 > wrap64 ((pcX (l.take m)).1 + (pcX (l.drop m)).1)
    have ht := tot_parts l m (fl 64 0)
    have e1 := ex.2
    have e2 := ey.2
    rw [ex.1, ey.1, ez.1, wrap_id _ (by omega) (by omega)]
    omega
  · intro i hi
    rw [xr, yr, zr]
    have h1 := kR_parts l m i
    have h2 := kR_le (fun v hv => (h.v v hv).r) i
    rw [← Int.natCast_add, h1]
    exact wrap_id _ (by omega) (by omega)
  · intro i hi
    exact ⟨_, _, at_val _ i, at_val _ i, by rw [xa, ya, za]; exact hsum p1 i⟩
  · intro i hi
    exact ⟨_, _, at_val _ i, at_val _ i, by rw [xb, yb, zb]; exact hsum _ i⟩
  · intro i hi
    exact ⟨_, _, at_val _ i, at_val _ i, by rw [xc, yc, zc]; exact hsum _ i⟩
  · intro i hi
    rw [zc, za]
    have : kS (fun s => opn s 2) l i ≤ kS p1 l i := by
      refine List.countP_mono_left (fun v _ hv => ?_)
      cases hs : v.f2[i]? with
      | none => rw [hs] at hv; cases hv
      | some s =>
        rw [hs] at hv
        have hv' : opn s 2 = true := hv
        show p1 s = true
        unfold opn at hv'
        by_cases h0 : s.f0 ≥ 0
        · exact decide_eq_true h0
        · rw [if_neg h0] at hv'; cases hv'
    omega
  · intro i hi
    rw [za, zb]
    have : kS p1 l i + kS (fun s => s.f2) l i ≤ l.length := by
      refine two_le _ _ l (fun v hv hh => ?_)
      cases hs : v.f2[i]? with
      | none => rw [hs] at hh; cases hh.1
      | some s =>
        rw [hs] at hh
        have h1 : p1 s = true := hh.1
        have h2 : s.f2 = true := hh.2
        have h3 := ((h.v v hv).s s (List.mem_of_getElem? hs)).2.2.2.2 h2
        have h4 : s.f0 ≥ 0 := of_decide_eq_true h1
        omega
    have b1 := kS_le p1 l i
    rw [← Int.natCast_add, wrap_id _ (by omega) (by omega)]
    omega
  · rw [l1]
    unfold Pure.cars
    by_cases h0 : 0 < l.length
    · have hc := (h.v _ (memV l 0 h0)).n
      have hc' : (rd_T41 l 0).f2.length = c := hc
      have h1 := h.c1
      rw [if_pos h0, hc', beq_eq_false_iff_ne.2 (by omega), beq_eq_false_iff_ne.2 (by omega)]
    · rw [if_neg h0, show l.length = 0 by omega]

end Go.Proofs.YtenlokaaloenmaaDoor.Pure
