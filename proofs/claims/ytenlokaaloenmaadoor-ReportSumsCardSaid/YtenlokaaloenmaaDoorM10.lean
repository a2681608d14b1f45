/- Joined: The lights of each view, and how often a car opens at a floor: the reference's answers are the program's. What the statement on sums wants of a run that is made: changes, lengths, lights. The lengths of all spells add up to the lights of all views; the numbers of the count are no greater. The statement on sums: all that the walk asks of a run that is made. -/
import Derived.Test.YtenlokaaloenmaaDoorRp8
import Derived.Test.YtenlokaaloenmaaDoorM7
import Derived.Test.YtenlokaaloenmaaDoorRp12
import Derived.Test.YtenlokaaloenmaaDoorM3
import Derived.Test.YtenlokaaloenmaaDoorM9

section
set_option linter.unusedVariables false
namespace Go.Proofs.YtenlokaaloenmaaDoor.Pure
open Go.RowKit Go.Proofs.YtenlokaaloenmaaDoor.S Go.Proofs.YtenlokaaloenmaaDoorW.PrintWords Go.Proofs.YtenlokaaloenmaaDoorW.PrintLast Go.Proofs.YtenlokaaloenmaaDoorW.PrintMore
set_option linter.unusedVariables false
set_option linter.unusedSimpArgs false

/-- How many lights are on in a view. -/
def litO (v : S41) : Nat := popN v.f3.toNat 64 0 + popN v.f4.toNat 64 0
def litV (l : List S41) : List Int × Int := if (chk l).1 = 0 then (l.map (fun v => (litO v : Int)), 0) else ([], (chk l).1)
theorem litO_le (v : S41) : litO v ≤ 128 := by
  have h1 := popN_le v.f3.toNat 64 0
  have h2 := popN_le v.f4.toNat 64 0
  unfold litO; omega
theorem lights_l0 {l : List S41} (ok : OkL l) (hw : ∀ v ∈ l, WV v) : ∀ (d i : Nat) (acc : List Int), d = l.length - i → i ≤ l.length → acc.length = i → Ev (fun k => report_Lights.l0 k acc l (l.length : Int) (i : Int)) (acc ++ (l.drop i).map (fun v => (litO v : Int)), 0) := by
  intro d
  induction d with
  | zero =>
    intro i acc hd hi ha
    obtain rfl : i = l.length := by omega
    rw [List.drop_length]
    exact Ev.step (Ev.const _) (fun k => by rw [report_Lights.l0, if_neg (by omega), List.map_nil, List.append_nil])
  | succ d IH =>
    intro i acc hd hi ha
    have hl := ok.len
    have hi1 : i < l.length := by omega
    have hw1 := wrap_succ i (by omega)
    have hm := hw _ (memV l i hi1)
    have p1 := pop_val (rd_T41 l (i : Int)).f3 hm.2.2.2.1.1 hm.2.2.2.1.2
    have p2 := pop_val (rd_T41 l (i : Int)).f4 hm.2.2.2.2.1 hm.2.2.2.2.2
    rw [dropV l i hi1, List.map_cons]
    have hle := litO_le (rd_T41 l (i : Int))
    unfold litO at hle
    have ih := IH (i + 1) (acc ++ [(litO (rd_T41 l (i : Int)) : Int)]) (by omega) (by omega) (by rw [List.length_append, ha]; rfl)
    rw [List.append_assoc] at ih
    refine ih.step (fun k => ?_)
    rw [report_Lights.l0, if_pos (by omega), if_pos (by omega), if_pos (by omega), p1, Option.bind_some, p2, Option.bind_some, if_pos (by omega), hw1, ← Int.natCast_add, wrap_id _ (by omega) (by omega)]
    rfl
theorem lights_ev (l : List S41) (hw : ∀ v ∈ l, WV v) : Ev (fun k => report_Lights.f k l) (litV l) := by
  refine Ev.bind (f := fun bt k => (if bt.1 = 0 then (report_Lights.l0 k ([] : List Int) l (l.length : Int) 0) else (some (([] : List Int), bt.1)))) (check_ev l hw) ?_
  unfold litV
  by_cases h0 : (chk l).1 = 0
  · have ok : OkL l := chk_ok (x := (chk l).2) (by rw [← h0])
    rw [if_pos h0]
    exact (lights_l0 ok hw l.length 0 [] rfl (Nat.zero_le _) rfl).congr (fun k => by rw [if_pos h0]; rfl)
  · rw [if_neg h0]
    exact (Ev.const _).congr (fun k => by rw [if_neg h0])

end Go.Proofs.YtenlokaaloenmaaDoor.Pure
end

section
set_option linter.unusedVariables false
namespace Go.Proofs.YtenlokaaloenmaaDoor.Pure
open Go.RowKit Go.Proofs.YtenlokaaloenmaaDoor.S Go.Proofs.YtenlokaaloenmaaDoorW.PrintWords Go.Proofs.YtenlokaaloenmaaDoorW.PrintLast Go.Proofs.YtenlokaaloenmaaDoorW.PrintMore
set_option linter.unusedVariables false
set_option linter.unusedSimpArgs false

/-! A view that is one of the changes. -/
theorem chgF_mem (l : List S41) : ∀ (d i : Nat) (u dd : Int) (x : Nat), d = l.length - i → i < x → x < l.length → ((rd_T41 l (x : Int)).f3 ≠ (rd_T41 l ((x - 1 : Nat) : Int)).f3 ∨ (rd_T41 l (x : Int)).f4 ≠ (rd_T41 l ((x - 1 : Nat) : Int)).f4) → (x : Int) ∈ chgF l d i u dd
  | 0, i, u, dd, x, hd, h1, h2, _ => absurd h2 (by omega)
  | d + 1, i, u, dd, x, hd, h1, h2, h => by
    rw [chgF]
    refine List.mem_append_right _ ?_
    by_cases hx : x = i + 1
    · subst hx
      match d, hd with
      | 0, hd => omega
      | d + 1, hd =>
        rw [chgF]
        refine List.mem_append_left _ ?_
        rw [Nat.add_sub_cancel] at h
        rw [if_neg (fun hh => h.elim (fun h => h hh.1) (fun h => h hh.2))]
        exact List.mem_singleton.2 rfl
    · exact chgF_mem l d (i + 1) _ _ x (by omega) (by omega) h2 h
theorem onAt_ne (l : List S41) (f : Int) (up : Bool) (i j : Nat) (h : onAt l f up i ≠ onAt l f up j) : (rd_T41 l (i : Int)).f3 ≠ (rd_T41 l (j : Int)).f3 ∨ (rd_T41 l (i : Int)).f4 ≠ (rd_T41 l (j : Int)).f4 := by
  refine Classical.byContradiction fun hn => h ?_
  have h3 : (rd_T41 l (i : Int)).f3 = (rd_T41 l (j : Int)).f3 := Classical.byContradiction fun h' => hn (.inl h')
  have h4 : (rd_T41 l (i : Int)).f4 = (rd_T41 l (j : Int)).f4 := Classical.byContradiction fun h' => hn (.inr h')
  unfold onAt
  rw [h3, h4]
theorem onV_zero (f : Int) (up : Bool) : onV f up 0 0 = false := by
  unfold onV
  have e : (if up = true then (0 : Int) else 0) = 0 := by cases up <;> rfl
  rw [e, Int.zero_ediv]; rfl
theorem chg_begin (l : List S41) (f : Int) (up : Bool) (a : Nat) (ha : a < l.length) (h1 : onAt l f up a = true) (h2 : a = 0 ∨ onAt l f up (a - 1) = false) : (a : Int) ∈ chgF l l.length 0 0 0 := by
  by_cases h0 : a = 0
  · subst h0
    obtain ⟨d, hd⟩ : ∃ d, l.length = d + 1 := ⟨l.length - 1, by omega⟩
    rw [hd, chgF]
    refine List.mem_append_left _ ?_
    rw [if_neg]
    · exact List.mem_singleton.2 rfl
    · rintro ⟨h3, h4⟩
      have h1' : onV f up (rd_T41 l ((0 : Nat) : Int)).f3 (rd_T41 l ((0 : Nat) : Int)).f4 = true := h1
      rw [show (rd_T41 l ((0 : Nat) : Int)).f3 = 0 from h3, show (rd_T41 l ((0 : Nat) : Int)).f4 = 0 from h4, onV_zero] at h1'
      cases h1'
  · have h3 := h2.resolve_left h0
    exact chgF_mem l l.length 0 0 0 a rfl (by omega) ha (onAt_ne l f up a (a - 1) (by rw [h1, h3]; decide))
theorem chg_end (l : List S41) (f : Int) (up : Bool) (b : Nat) (h0 : 0 < b) (hb : b < l.length) (h1 : onAt l f up (b - 1) = true) (h2 : onAt l f up b = false) : (b : Int) ∈ chgF l l.length 0 0 0 :=
  chgF_mem l l.length 0 0 0 b rfl h0 hb (onAt_ne l f up b (b - 1) (by rw [h1, h2]; decide))

theorem has_l0 (ch : List Int) (hl : ch.length ≤ 1000000) (x : Int) : ∀ (d j : Nat), d = ch.length - j → j ≤ ch.length → x ∈ ch.drop j → Ev (fun k => tipstaffkit_Has.l0 k ch x (j : Int)) true
  | 0, j, hd, hj, hx => by rw [List.drop_eq_nil_of_le (by omega)] at hx; cases hx
  | d + 1, j, hd, hj, hx => by
    have e : rd ch (j : Int) = ch[j]'(by omega) := by unfold rd; simp [show j < ch.length by omega]
    rw [List.drop_eq_getElem_cons (by omega)] at hx
    by_cases h : rd ch (j : Int) = x
    · exact Ev.step (Ev.const true) (fun k => by rw [tipstaffkit_Has.l0, if_pos (by omega), if_pos (by omega), if_pos h])
    · have hx' : x ∈ ch.drop (j + 1) := by
        rcases List.mem_cons.1 hx with h' | h'
        · exact absurd (e.trans h'.symm) h
        · exact h'
      exact (has_l0 ch hl x d (j + 1) (by omega) (by omega) hx').step (fun k => by rw [tipstaffkit_Has.l0, if_pos (by omega), if_pos (by omega), if_neg h, wrap_succ j (by omega)])
theorem has_ev (ch : List Int) (hl : ch.length ≤ 1000000) (x : Int) (hx : x ∈ ch) : Ev (fun k => tipstaffkit_Has.f k ch x) true :=
  Ev.congr (has_l0 ch hl x ch.length 0 rfl (Nat.zero_le _) (by rw [List.drop_zero]; exact hx)) (fun k => by rw [tipstaffkit_Has.f]; rfl)

/-! The longest spell is no shorter than any. -/
def szG (st : St) : Int := wrap64 (st.2.2 - st.2.1)
theorem lgS7_up (x : Int × Bool) (st : St) (y : S57) : szG st ≤ szG (lgS7 x st y) ∧ wrap64 (y.f1 - y.f0) ≤ szG (lgS7 x st y) := by
  by_cases h1 : wrap64 (y.f1 - y.f0) > wrap64 (st.2.2 - st.2.1)
  · have e : lgS7 x st y = (x, y.f0, y.f1) := if_pos h1
    rw [e]
    unfold szG
    exact ⟨by show wrap64 (st.2.2 - st.2.1) ≤ wrap64 (y.f1 - y.f0); omega, Int.le_refl _⟩
  · by_cases h2 : (wrap64 (y.f1 - y.f0) == wrap64 (st.2.2 - st.2.1)) = true
    · have h2' := beq_iff_eq.1 h2
      by_cases h3 : y.f0 < st.2.1
      · have e : lgS7 x st y = (x, y.f0, y.f1) := (if_neg h1).trans ((if_pos h2).trans (if_pos h3))
        rw [e]
        unfold szG
        exact ⟨by show wrap64 (st.2.2 - st.2.1) ≤ wrap64 (y.f1 - y.f0); omega, Int.le_refl _⟩
      · have e : lgS7 x st y = st := (if_neg h1).trans ((if_pos h2).trans (if_neg h3))
        rw [e]; unfold szG
        exact ⟨Int.le_refl _, by omega⟩
    · have e : lgS7 x st y = st := (if_neg h1).trans (if_neg h2)
      rw [e]; unfold szG
      exact ⟨Int.le_refl _, by omega⟩
theorem lgS7_fold (x : Int × Bool) : ∀ (L : List S57) (st : St), szG st ≤ szG (L.foldl (lgS7 x) st) ∧ ∀ y ∈ L, wrap64 (y.f1 - y.f0) ≤ szG (L.foldl (lgS7 x) st)
  | [], st => ⟨Int.le_refl _, fun y hy => by cases hy⟩
  | z :: L, st => by
    obtain ⟨h1, h2⟩ := lgS7_fold x L (lgS7 x st z)
    obtain ⟨g1, g2⟩ := lgS7_up x st z
    refine ⟨Int.le_trans g1 h1, fun y hy => ?_⟩
    rcases List.mem_cons.1 hy with rfl | hy
    · exact Int.le_trans g2 h1
    · exact h2 y hy
theorem lgL_fold (l : List S41) : ∀ (gs : List (Fin 64 × Bool)) (st : St), szG st ≤ szG (gs.foldl (lgL l) st) ∧ ∀ g ∈ gs, ∀ y ∈ (spl l (g.1.val : Int) g.2).map (·.1), wrap64 (y.f1 - y.f0) ≤ szG (gs.foldl (lgL l) st)
  | [], st => ⟨Int.le_refl _, fun g hg => by cases hg⟩
  | g :: gs, st => by
    obtain ⟨h1, h2⟩ := lgL_fold l gs (lgL l st g)
    have hm : lgL l st g = ((spl l (g.1.val : Int) g.2).map (·.1)).foldl (lgS7 ((g.1.val : Int), g.2)) st := lgL_map l st g.1 g.2
    obtain ⟨g1, g2⟩ := lgS7_fold ((g.1.val : Int), g.2) ((spl l (g.1.val : Int) g.2).map (·.1)) st
    rw [← hm] at g1 g2
    refine ⟨Int.le_trans g1 h1, fun x hx y hy => ?_⟩
    rcases List.mem_cons.1 hx with rfl | hx
    · exact Int.le_trans (g2 y hy) h1
    · exact h2 x hx y hy

end Go.Proofs.YtenlokaaloenmaaDoor.Pure
end

section
set_option linter.unusedVariables false
namespace Go.Proofs.YtenlokaaloenmaaDoor.Pure
open Go.RowKit Go.Proofs.YtenlokaaloenmaaDoor.S Go.Proofs.YtenlokaaloenmaaDoorW.PrintWords Go.Proofs.YtenlokaaloenmaaDoorW.PrintLast Go.Proofs.YtenlokaaloenmaaDoorW.PrintMore
set_option linter.unusedVariables false
set_option linter.unusedSimpArgs false

/-- The first ten lights. -/
def ten : List (Int × Bool) := [(0, true), (0, false), (1, true), (1, false), (2, true), (2, false), (3, true), (3, false), (4, true), (4, false)]
def onN (g : Int × Bool) (v : S41) : Nat := if onV g.1 g.2 v.f3 v.f4 = true then 1 else 0
theorem pop5 : ∀ a : Fin 32, popN a.val 64 0 = (if a.val.testBit 0 = true then 1 else 0) + (if a.val.testBit 1 = true then 1 else 0) + (if a.val.testBit 2 = true then 1 else 0) + (if a.val.testBit 3 = true then 1 else 0) + (if a.val.testBit 4 = true then 1 else 0) := by decide +kernel
theorem hi5 : ∀ a : Fin 32, ∀ f : Fin 64, 5 ≤ f.val → a.val.testBit f.val = false := by decide +kernel
theorem lit_ten (v : S41) (hu : 0 ≤ v.f3 ∧ v.f3 < 32) (hd : 0 ≤ v.f4 ∧ v.f4 < 32) : litO v = (ten.map fun g => onN g v).sum := by
  obtain ⟨a, ha⟩ : ∃ a : Nat, v.f3 = a := ⟨v.f3.toNat, by omega⟩
  obtain ⟨b, hb⟩ : ∃ b : Nat, v.f4 = b := ⟨v.f4.toNat, by omega⟩
  have pa := pop5 ⟨a, by omega⟩
  have pb := pop5 ⟨b, by omega⟩
  have e : ∀ (f : Nat) (up : Bool), onN ((f : Int), up) v = (if (if up = true then a else b).testBit f = true then 1 else 0) := fun f up => by
    unfold onN
    rw [ha, hb, onV_nat f up a b (by omega) (by omega)]
  have e0 := e 0 true
  have e1 := e 0 false
  have e2 := e 1 true
  have e3 := e 1 false
  have e4 := e 2 true
  have e5 := e 2 false
  have e6 := e 3 true
  have e7 := e 3 false
  have e8 := e 4 true
  have e9 := e 4 false
  simp only [if_true, Bool.false_eq_true, if_false] at e0 e1 e2 e3 e4 e5 e6 e7 e8 e9
  unfold litO ten
  rw [ha, hb, Int.toNat_natCast, Int.toNat_natCast, pa, pb]
  simp only [List.map_cons, List.map_nil, List.sum_cons, List.sum_nil]
  rw [show onN (0, true) v = _ from e0, show onN (0, false) v = _ from e1, show onN (1, true) v = _ from e2, show onN (1, false) v = _ from e3, show onN (2, true) v = _ from e4, show onN (2, false) v = _ from e5, show onN (3, true) v = _ from e6, show onN (3, false) v = _ from e7, show onN (4, true) v = _ from e8, show onN (4, false) v = _ from e9]
  omega
theorem cnO_sum (l : List S41) (g : Int × Bool) : ∀ (d i : Nat), d = l.length - i → i ≤ l.length → cnO l g.1 g.2 d i = ((l.drop i).map fun v => onN g v).sum
  | 0, i, hd, hi => by rw [List.drop_eq_nil_of_le (by omega)]; rfl
  | d + 1, i, hd, hi => by
    rw [dropV l i (by omega), List.map_cons, List.sum_cons, cnO, cnO_sum l g d (i + 1) (by omega) (by omega)]
    rfl
theorem swap_sum (gs : List (Int × Bool)) : ∀ l : List S41, (gs.map fun g => (l.map fun v => onN g v).sum).sum = (l.map fun v => (gs.map fun g => onN g v).sum).sum
  | [] => by
    induction gs with
    | nil => rfl
    | cons g gs ih => rw [List.map_cons, List.sum_cons, ih]; rfl
  | v :: l => by
    have ih := swap_sum gs l
    rw [List.map_cons, List.sum_cons, ← ih]
    clear ih
    induction gs with
    | nil => rfl
    | cons g gs ih =>
      rw [List.map_cons, List.sum_cons, List.map_cons, List.sum_cons, List.map_cons, List.sum_cons, ih, List.map_cons, List.sum_cons]
      omega

/-- The lengths of the ten lights' spells, added up. -/
theorem sz_ten {l : List S41} {c : Nat} {t0 : Int} (h : Md l c t0) : (ten.map fun g => szS ((spl l g.1 g.2).map (·.1))).sum = (((l.map fun v => litO v).sum : Nat) : Int) := by
  have e : ∀ g ∈ ten, szS ((spl l g.1 g.2).map (·.1)) = (((l.map fun v => onN g v).sum : Nat) : Int) := fun g _ => by
    rw [sz_spl h.ok, cnO_sum l g l.length 0 rfl (Nat.zero_le _), List.drop_zero]
  have e2 : (l.map fun v => litO v) = l.map fun v => (ten.map fun g => onN g v).sum := List.map_congr_left fun v hv => lit_ten v (h.v v hv).u (h.v v hv).d
  rw [e2, ← swap_sum, List.map_congr_left e]
  clear e e2
  generalize ten = gs
  induction gs with
  | nil => rfl
  | cons g gs ih => rw [List.map_cons, List.sum_cons, ih, List.map_cons, List.sum_cons]; omega

/-- No other light has a spell. -/
theorem off5 {l : List S41} {c : Nat} {t0 : Int} (h : Md l c t0) (f : Fin 64) (hf : 5 ≤ f.val) (up : Bool) : spl l (f.val : Int) up = [] := by
  refine spF_off l f.val up (fun i hi => ?_) l.length 0 rfl (Nat.zero_le _)
  have m := h.v _ (memV l i hi)
  obtain ⟨a, ha⟩ : ∃ a : Nat, (rd_T41 l (i : Int)).f3 = a := ⟨(rd_T41 l (i : Int)).f3.toNat, by have := m.u; omega⟩
  obtain ⟨b, hb⟩ : ∃ b : Nat, (rd_T41 l (i : Int)).f4 = b := ⟨(rd_T41 l (i : Int)).f4.toNat, by have := m.d; omega⟩
  have ha32 : a < 32 := by have := m.u; omega
  have hb32 : b < 32 := by have := m.d; omega
  rw [ha, hb, onV_nat f.val up a b (by omega) (by omega)]
  cases up with
  | true => rw [if_pos rfl]; exact hi5 ⟨a, ha32⟩ f hf
  | false => rw [if_neg (by decide)]; exact hi5 ⟨b, hb32⟩ f hf
theorem fl_split : fl 64 0 = fl 5 0 ++ fl 59 5 := by decide +kernel
theorem fl5 : fl 5 0 = [(0, true), (0, false), (1, true), (1, false), (2, true), (2, false), (3, true), (3, false), (4, true), (4, false)] := by decide +kernel
theorem fl59 : ∀ g ∈ fl 59 5, 5 ≤ g.1.val := by decide +kernel
theorem pcX_ten {l : List S41} {c : Nat} {t0 : Int} (h : Md l c t0) : pcX l = (ten.foldl (fun x g => (spl l g.1 g.2).foldl pcS x) (0, 0, 0, 0)) := by
  have e : ∀ (gs : List (Fin 64 × Bool)) (x : X4), (∀ g ∈ gs, 5 ≤ g.1.val) → gs.foldl (pcL l) x = x := by
    intro gs
    induction gs with
    | nil => intro x _; rfl
    | cons g gs ih =>
      intro x hg
      have h5 := off5 h g.1 (hg g (List.mem_cons_self ..)) g.2
      have e1 : pcL l x g = x := by show (spl l (g.1.val : Int) g.2).foldl pcS x = x; rw [h5]; rfl
      rw [List.foldl_cons, e1]
      exact ih x (fun y hy => hg y (List.mem_cons_of_mem _ hy))
  show (fl 64 0).foldl (pcL l) (0, 0, 0, 0) = _
  rw [fl_split, List.foldl_append, e _ _ fl59, fl5]
  rfl

/-! What the fold of the count leaves. -/
def pcI (M : Int) (n s : Int) (x : X4) : Prop := x.1 = n ∧ 0 ≤ x.2.1 ∧ x.2.1 ≤ n ∧ 0 ≤ x.2.2.1 ∧ x.2.2.1 ≤ s ∧ x.2.2.2 ≤ M
theorem pcS_I (M : Int) : ∀ (L : List (S57 × Bool)) (n s : Int) (x : X4), (∀ y ∈ L, 0 ≤ y.1.f1 - y.1.f0 ∧ y.1.f1 - y.1.f0 ≤ 100 ∧ wrap64 (y.1.f1 - y.1.f0) ≤ M) → 0 ≤ n → 0 ≤ s → n + L.length ≤ 100000 → s + 100 * L.length ≤ 100000000 → pcI M n s x → pcI M (n + L.length) (s + szS (L.map (·.1))) (L.foldl pcS x)
  | [], n, s, x, _, _, _, _, _, hI => by
    show pcI M (n + ((0 : Nat) : Int)) (s + 0) x
    rw [show n + ((0 : Nat) : Int) = n by omega, Int.add_zero]; exact hI
  | y :: L, n, s, x, h, hn, hs, hn2, hs2, hI => by
    obtain ⟨b1, b2, b3⟩ := h y (List.mem_cons_self ..)
    obtain ⟨i1, i2, i3, i4, i5, i6⟩ := hI
    rw [List.length_cons] at hn2 hs2
    have hwy : wrap64 (y.1.f1 - y.1.f0) = y.1.f1 - y.1.f0 := wrap_id _ (by omega) (by omega)
    rw [hwy] at b3
    obtain ⟨z, hz⟩ : ∃ z, y.1.f1 - y.1.f0 = z := ⟨_, rfl⟩
    rw [hz] at b1 b2 b3 hwy
    have w1 : wrap64 (x.1 + 1) = x.1 + 1 := wrap_id _ (by omega) (by omega)
    have w2 : wrap64 (x.2.1 + 1) = x.2.1 + 1 := wrap_id _ (by omega) (by omega)
    have w3 : wrap64 (x.2.2.1 + z) = x.2.2.1 + z := wrap_id _ (by omega) (by omega)
    have hI' : pcI M (n + 1) (s + z) (pcS x y) := by
      unfold pcS
      by_cases hy : y.2 = true
      · rw [if_pos hy, hz, hwy, w1, w2, w3]
        clear w1 w2 w3 hwy hz
        refine ⟨by show x.1 + 1 = _; omega, by show 0 ≤ x.2.1 + 1; omega, by show x.2.1 + 1 ≤ _; omega, by show 0 ≤ x.2.2.1 + z; omega, by show x.2.2.1 + z ≤ _; omega, ?_⟩
        show (if x.2.2.2 < z then z else x.2.2.2) ≤ M
        by_cases h1 : x.2.2.2 < z
        · rw [if_pos h1]; exact b3
        · rw [if_neg h1]; exact i6
      · rw [if_neg hy, w1]
        clear w1 w2 w3 hwy hz
        exact ⟨by show x.1 + 1 = _; omega, i2, by show x.2.1 ≤ _; omega, i4, by show x.2.2.1 ≤ _; omega, i6⟩
    clear w1 w2 w3 hwy
    have ih := pcS_I M L (n + 1) (s + z) (pcS x y) (fun w hw => h w (List.mem_cons_of_mem _ hw)) (by omega) (by omega) (by omega) (by omega) hI'
    have e1 : szS ((y :: L).map (·.1)) = z + szS (L.map (·.1)) := by rw [← hz]; rfl
    rw [List.foldl_cons, e1, List.length_cons, show n + ((L.length + 1 : Nat) : Int) = n + 1 + (L.length : Int) by omega, ← Int.add_assoc]
    exact ih

end Go.Proofs.YtenlokaaloenmaaDoor.Pure
end

section
set_option linter.unusedVariables false
namespace Go.Proofs.YtenlokaaloenmaaDoor.Pure
open Go.RowKit Go.Proofs.YtenlokaaloenmaaDoor.S Go.Proofs.YtenlokaaloenmaaDoorW.PrintWords Go.Proofs.YtenlokaaloenmaaDoorW.PrintLast Go.Proofs.YtenlokaaloenmaaDoorW.PrintMore
set_option linter.unusedVariables false
set_option linter.unusedSimpArgs false

theorem PT_val (sp : List S57) (t : Int) (ht : 0 ≤ t) (hs : ∀ j : Nat, j < sp.length → 0 ≤ (rd_T57 sp (j : Int)).f1 - (rd_T57 sp (j : Int)).f0 ∧ (rd_T57 sp (j : Int)).f1 - (rd_T57 sp (j : Int)).f0 ≤ 100) (hb : t + 100 * sp.length ≤ 100000000) : ∀ j : Nat, j ≤ sp.length → PT sp t j = t + szS (sp.take j) ∧ 0 ≤ szS (sp.take j) ∧ szS (sp.take j) ≤ 100 * j
  | 0, _ => ⟨by show t = t + 0; omega, Int.le_refl _, Int.le_refl _⟩
  | j + 1, hj => by
    obtain ⟨h1, h2, h3⟩ := PT_val sp t ht hs hb j (by omega)
    obtain ⟨b1, b2⟩ := hs j (by omega)
    have e : szS (sp.take (j + 1)) = szS (sp.take j) + ((rd_T57 sp (j : Int)).f1 - (rd_T57 sp (j : Int)).f0) := by
      rw [List.take_succ_eq_append_getElem (by omega)]
      unfold szS
      rw [List.map_append, List.sum_append]
      have : rd_T57 sp (j : Int) = sp[j]'(by omega) := by unfold rd_T57; simp [show j < sp.length by omega]
      rw [this]
      simp only [List.map_cons, List.map_nil, List.sum_cons, List.sum_nil, Int.add_zero]
    obtain ⟨z, hz⟩ : ∃ z, (rd_T57 sp (j : Int)).f1 - (rd_T57 sp (j : Int)).f0 = z := ⟨_, rfl⟩
    rw [hz] at b1 b2 e
    rw [PT, hz, h1, e, wrap_id z (by omega) (by omega), wrap_id _ (by omega) (by omega)]
    exact ⟨by omega, by omega, by omega⟩

/-- Lists of spells of a run of at most forty views. -/
def SmL (sp : List S57) : Prop := sp.length ≤ 41 ∧ ∀ y ∈ sp, 0 ≤ y.f1 - y.f0 ∧ y.f1 - y.f0 ≤ 100
theorem SmL.at {sp : List S57} (h : SmL sp) : ∀ j : Nat, j < sp.length → 0 ≤ (rd_T57 sp (j : Int)).f1 - (rd_T57 sp (j : Int)).f0 ∧ (rd_T57 sp (j : Int)).f1 - (rd_T57 sp (j : Int)).f0 ≤ 100 := fun j hj => by
  have : rd_T57 sp (j : Int) = sp[j]'hj := by unfold rd_T57; simp [hj]
  rw [this]
  exact h.2 _ (List.getElem_mem hj)
theorem TT_val (sp : Nat → List S57) (h : ∀ m, m < 10 → SmL (sp m)) : ∀ n, n ≤ 10 → TT sp n = ((List.range n).map fun m => szS (sp m)).sum ∧ 0 ≤ TT sp n ∧ TT sp n ≤ 4100 * n
  | 0, _ => ⟨rfl, Int.le_refl _, Int.le_refl _⟩
  | n + 1, hn => by
    obtain ⟨h1, h2, h3⟩ := TT_val sp h n (by omega)
    have hm := h n (by omega)
    have hl := hm.1
    obtain ⟨g1, g2, g3⟩ := PT_val (sp n) (TT sp n) h2 hm.at (by omega) (sp n).length (Nat.le_refl _)
    rw [List.take_length] at g1 g2 g3
    rw [TT, g1, List.range_succ, List.map_append, List.sum_append, ← h1]
    refine ⟨?_, by omega, by omega⟩
    simp only [List.map_cons, List.map_nil, List.sum_cons, List.sum_nil, Int.add_zero]
theorem MM_val (sp : Nat → List S57) (h : ∀ m, m < 10 → SmL (sp m)) : ∀ n, n ≤ 10 → MM sp n = ((((List.range n).map fun m => (sp m).length).sum : Nat) : Int) ∧ ((List.range n).map fun m => (sp m).length).sum ≤ 41 * n
  | 0, _ => ⟨rfl, Nat.le_refl _⟩
  | n + 1, hn => by
    obtain ⟨h1, h2⟩ := MM_val sp h n (by omega)
    have hl := (h n (by omega)).1
    have e : ((List.range (n + 1)).map fun m => (sp m).length).sum = ((List.range n).map fun m => (sp m).length).sum + (sp n).length := by
      rw [List.range_succ, List.map_append, List.sum_append]; rfl
    rw [MM, h1, e, wrap_id _ (by omega) (by omega)]
    exact ⟨by omega, by omega⟩

theorem sum_l0 (li : List Int) (hb : ∀ x ∈ li, 0 ≤ x ∧ x ≤ 128) (hl : li.length ≤ 40) : ∀ (d j : Nat) (n : Int), d = li.length - j → j ≤ li.length → 0 ≤ n → n ≤ 128 * j → Ev (fun k => tipstafflaw43_sum.l0 k li n (j : Int)) (n + (li.drop j).sum)
  | 0, j, n, hd, hj, h0, h1 => by
    rw [List.drop_eq_nil_of_le (by omega), List.sum_nil, Int.add_zero]
    exact Ev.step (Ev.const n) (fun k => by rw [tipstafflaw43_sum.l0, if_neg (by omega)])
  | d + 1, j, n, hd, hj, h0, h1 => by
    have e : rd li (j : Int) = li[j]'(by omega) := by unfold rd; simp [show j < li.length by omega]
    have b := hb (li[j]'(by omega)) (List.getElem_mem (by omega))
    rw [← e] at b
    obtain ⟨x, hx⟩ : ∃ x, rd li (j : Int) = x := ⟨_, rfl⟩
    have ih := sum_l0 li hb hl d (j + 1) (n + x) (by omega) (by omega) (by omega) (by omega)
    rw [List.drop_eq_getElem_cons (by omega), List.sum_cons, ← e, hx, ← Int.add_assoc]
    exact ih.step (fun k => by rw [tipstafflaw43_sum.l0, if_pos (by omega), if_pos (by omega), hx, wrap_id (n + x) (by omega) (by omega), wrap_succ j (by omega)])
theorem sum_ev (li : List Int) (hb : ∀ x ∈ li, 0 ≤ x ∧ x ≤ 128) (hl : li.length ≤ 40) : Ev (fun k => tipstafflaw43_sum.f k li) li.sum := by
  have h := sum_l0 li hb hl li.length 0 0 rfl (Nat.zero_le _) (Int.le_refl _) (Int.le_refl _)
  rw [List.drop_zero, Int.zero_add] at h
  exact Ev.congr h (fun k => by rw [tipstafflaw43_sum.f]; rfl)

end Go.Proofs.YtenlokaaloenmaaDoor.Pure
end
