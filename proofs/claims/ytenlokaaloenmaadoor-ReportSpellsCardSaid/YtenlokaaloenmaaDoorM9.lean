/- Joined: The longest spell, the spells, the visits, the changes: the reference's answers are the program's. The lights of each view, and how often a car opens at a floor: the reference's answers are the program's. -/
import Derived.Test.YtenlokaaloenmaaDoorM4
import Derived.Test.YtenlokaaloenmaaDoorRp2
import Derived.Test.YtenlokaaloenmaaDoorRp4
import Derived.Test.YtenlokaaloenmaaDoorRp6
import Derived.Test.YtenlokaaloenmaaDoorHlongest
import Derived.Test.YtenlokaaloenmaaDoorS14
import Derived.Test.YtenlokaaloenmaaDoorM8
import Derived.Test.YtenlokaaloenmaaDoorM3
import Derived.Test.YtenlokaaloenmaaDoorRp8

section
set_option linter.unusedVariables false
namespace Go.Proofs.YtenlokaaloenmaaDoor.Pure
open Go.RowKit Go.Proofs.YtenlokaaloenmaaDoor.S Go.Proofs.YtenlokaaloenmaaDoorW.PrintWords Go.Proofs.YtenlokaaloenmaaDoorW.PrintLast Go.Proofs.YtenlokaaloenmaaDoorW.PrintMore
set_option linter.unusedVariables false
set_option linter.unusedSimpArgs false

theorem spF_len (l : List S41) (f : Int) (up : Bool) : ∀ (d i : Nat) (frm : Int), (spF l f up d i frm).length ≤ d + 1
  | 0, i, frm => by
    rw [spF]
    by_cases h : frm ≥ 0
    · rw [if_pos h]; exact Nat.le_refl _
    · rw [if_neg h]; exact Nat.zero_le _
  | d + 1, i, frm => by
    rw [spF]
    have a1 := spF_len l f up d (i + 1) i
    have a2 := spF_len l f up d (i + 1) frm
    have a3 := spF_len l f up d (i + 1) (-1)
    by_cases h1 : onV f up (rd_T41 l i).f3 (rd_T41 l i).f4 = true
    · rw [if_pos h1]
      by_cases h2 : frm < 0
      · rw [if_pos h2]; omega
      · rw [if_neg h2]; omega
    · rw [if_neg h1]
      by_cases h2 : frm ≥ 0
      · rw [if_pos h2, List.length_cons]; omega
      · rw [if_neg h2]; omega
theorem spl_len (l : List S41) (f : Int) (up : Bool) : (spl l f up).length ≤ l.length + 1 := spF_len l f up _ _ _

/-! Spells -/
def speV (l : List S41) (f : Int) (up : Bool) : List S57 × Int := if (chk l).1 = 0 then (if f < 0 ∨ 64 ≤ f then ([], 2) else ((spl l f up).map (·.1), 0)) else ([], (chk l).1)
theorem spells_ev (l : List S41) (hw : ∀ v ∈ l, WV v) (f : Int) (up : Bool) : Ev (fun k => report_Spells.f k l f up) (speV l f up) := by
  refine Ev.bind (f := fun e _ => if e.1 = 0 then (if f < 0 ∨ 64 ≤ f then some ([], 2) else some ((spF l f up l.length 0 (-1)).map (·.1), 0)) else some ([], e.1)) (check_ev l hw) (Ev.of_eq ?_)
  unfold speV
  by_cases h0 : (chk l).1 = 0
  · rw [if_pos h0, if_pos h0]
    by_cases h1 : f < 0 ∨ 64 ≤ f
    · rw [if_pos h1, if_pos h1]
    · rw [if_neg h1, if_neg h1]; rfl
  · rw [if_neg h0, if_neg h0]
theorem rSpells_ev (l : List S41) (hw : ∀ v ∈ l, WV v) (f : Int) (up : Bool) : Ev (fun k => tipstaffref43_Spells.f k l f up) (speV l f up) := by
  refine Ev.bind (f := fun bt k => (if bt.1 = 0 then ((tipstaffref43_in.f f 0 63).bind fun t => (tipstaffref43_Spells.j0 k l f up bt.1 (!t))) else (tipstaffref43_Spells.j0 k l f up bt.1 false))) (rcheck_ev l hw) ?_
  unfold speV
  by_cases h0 : (chk l).1 = 0
  · have ok : OkL l := chk_ok (x := (chk l).2) (by rw [← h0])
    rw [if_pos h0, h0]
    by_cases h1 : f < 0 ∨ 64 ≤ f
    · rw [if_pos h1]
      refine Ev.congr (Ev.step (g := fun k => tipstaffref43_Spells.j0 k l f up 0 true) (Ev.const ([], 2)) (fun k => by rw [tipstaffref43_Spells.j0, if_pos rfl])) (fun k => ?_)
      rw [if_pos rfl, in_val, Option.bind_some, decide_eq_false (by omega)]; rfl
    · rw [if_neg h1]
      have g := Ev.bind (f := fun t _ => some (t, (0 : Int))) (rspells_ev ok f up (by omega) (by omega)) (Ev.const _)
      refine Ev.congr (g.step (g := fun k => tipstaffref43_Spells.j0 k l f up 0 false) (fun k => by rw [tipstaffref43_Spells.j0, if_neg (by decide), if_pos rfl])) (fun k => ?_)
      rw [if_pos rfl, in_val, Option.bind_some, decide_eq_true (by omega)]; rfl
  · rw [if_neg h0]
    refine Ev.congr (Ev.step (g := fun k => tipstaffref43_Spells.j0 k l f up (chk l).1 false) (Ev.const ([], (chk l).1)) (fun k => by rw [tipstaffref43_Spells.j0, if_neg (by decide), if_neg h0])) (fun k => ?_)
    rw [if_neg h0]

/-! Longest -/
abbrev St := (Int × Bool) × Int × Int
def lgS7 (x : Int × Bool) (st : St) (y : S57) : St := lgS x st (y, true)
theorem lgS7_map (x : Int × Bool) : ∀ (al : List (S57 × Bool)) (st : St), al.foldl (lgS x) st = (al.map (·.1)).foldl (lgS7 x) st
  | [], _ => rfl
  | y :: al, st => lgS7_map x al _
theorem dropP (l : List S57) (i : Nat) (h : i < l.length) : l.drop i = rd_T57 l (i : Int) :: l.drop (i + 1) := by unfold rd_T57; simp [h]
theorem rlong_l2 (l : List S41) (f x12 : Int) (al : List S57) (hal : al.length ≤ 1000000) (u : Int × Bool × Int × Int × Int) : ∀ (d j : Nat) (st : St), d = al.length - j → j ≤ al.length →
    (Ev (fun k => tipstaffref43_Longest.l1 k l ((al.drop j).foldl (lgS7 (f, x12 == 0)) st).1.1 ((al.drop j).foldl (lgS7 (f, x12 == 0)) st).1.2 f (wrap64 (x12 + 1)) ((al.drop j).foldl (lgS7 (f, x12 == 0)) st).2.1 ((al.drop j).foldl (lgS7 (f, x12 == 0)) st).2.2) u) →
    Ev (fun k => tipstaffref43_Longest.l2 k l st.1.1 st.1.2 f x12 al (j : Int) st.2.1 st.2.2) u := by
  intro d
  induction d with
  | zero =>
    intro j st hd hj h
    obtain rfl : j = al.length := by omega
    rw [List.drop_length] at h
    exact h.step (fun k => by rw [tipstaffref43_Longest.l2, if_neg (by omega)]; rfl)
  | succ d IH =>
    intro j st hd hj h
    have hjl : (j : Int) < (al.length : Int) := by omega
    have hj0 : (0 : Int) ≤ (j : Int) := by omega
    have hw := wrap_succ j (by omega)
    have hd1 : d = al.length - (j + 1) := by omega
    have hj1 : j + 1 ≤ al.length := by omega
    rw [dropP al j (by omega), List.foldl_cons] at h
    have ih := IH (j + 1) _ hd1 hj1 h
    refine ih.step (fun k => ?_)
    rw [tipstaffref43_Longest.l2, if_pos hjl, if_pos hj0, hw]
    obtain ⟨y, hy⟩ : ∃ y, rd_T57 al (j : Int) = y := ⟨_, rfl⟩
    rw [hy]
    by_cases h1 : wrap64 (y.f1 - y.f0) > wrap64 (st.2.2 - st.2.1)
    · have e : lgS7 (f, x12 == 0) st y = ((f, x12 == 0), y.f0, y.f1) := if_pos h1
      rw [if_pos h1, e]
    · rw [if_neg h1]
      by_cases h2 : wrap64 (y.f1 - y.f0) = wrap64 (st.2.2 - st.2.1)
      · have b2 : (wrap64 (y.f1 - y.f0) == wrap64 (st.2.2 - st.2.1)) = true := beq_iff_eq.2 h2
        rw [if_pos h2]
        by_cases h3 : y.f0 < st.2.1
        · have e : lgS7 (f, x12 == 0) st y = ((f, x12 == 0), y.f0, y.f1) := (if_neg h1).trans ((if_pos b2).trans (if_pos h3))
          rw [if_pos h3, e]
        · have e : lgS7 (f, x12 == 0) st y = st := (if_neg h1).trans ((if_pos b2).trans (if_neg h3))
          rw [if_neg h3, e]
      · have b2 : ¬ (wrap64 (y.f1 - y.f0) == wrap64 (st.2.2 - st.2.1)) = true := fun h => h2 (beq_iff_eq.1 h)
        have e : lgS7 (f, x12 == 0) st y = st := (if_neg h1).trans (if_neg b2)
        rw [if_neg h2, e]

theorem lgL_map (l : List S41) (st : St) (f : Fin 64) (up : Bool) : lgL l st (f, up) = ((spl l (f.val : Int) up).map (·.1)).foldl (lgS7 ((f.val : Int), up)) st := lgS7_map _ _ _
def lonF (st : St) : Int × Bool × Int × Int × Int := (st.1.1, st.1.2, st.2.1, st.2.2, 0)
theorem rlong_l0 {l : List S41} (ok : OkL l) : ∀ (n c : Nat) (st : St), n = 64 - c → c ≤ 64 → Ev (fun k => tipstaffref43_Longest.l0 k l st.1.1 st.1.2 (c : Int) st.2.1 st.2.2) (lonF ((fl n c).foldl (lgL l) st)) := by
  intro n
  induction n with
  | zero =>
    intro c st hn hc
    exact Ev.step (Ev.const _) (fun k => by rw [tipstaffref43_Longest.l0, if_neg (by omega)]; rfl)
  | succ n IH =>
    intro c st hn hc
    have hfl : (flo c).val = c := Nat.mod_eq_of_lt (by omega)
    have hlen : ∀ up, ((spl l (c : Int) up).map (·.1)).length ≤ 1000000 := fun up => by
      have := spl_len l (c : Int) up
      have := ok.len
      rw [List.length_map]; omega
    obtain ⟨st1, h1⟩ : ∃ s, lgL l st (flo c, true) = s := ⟨_, rfl⟩
    obtain ⟨st2, h2⟩ : ∃ s, lgL l st1 (flo c, false) = s := ⟨_, rfl⟩
    rw [fl, List.foldl_cons, List.foldl_cons, h1, h2]
    rw [lgL_map, hfl] at h1 h2
    have ih := IH (c + 1) st2 (by omega) (by omega)
    have hc1 := wrap_succ c (by omega)
    have w2 : wrap64 (1 + 1) = 2 := wrap_id _ (by omega) (by omega)
    have w1 : wrap64 (0 + 1) = 1 := wrap_id _ (by omega) (by omega)
    have e2 : Ev (fun k => tipstaffref43_Longest.l1 k l st2.1.1 st2.1.2 (c : Int) (wrap64 (1 + 1)) st2.2.1 st2.2.2) (lonF ((fl n (c + 1)).foldl (lgL l) st2)) :=
      ih.step (fun k => by rw [w2, tipstaffref43_Longest.l1, if_neg (by decide), hc1])
    have e1 : Ev (fun k => tipstaffref43_Longest.l1 k l st1.1.1 st1.1.2 (c : Int) (wrap64 (0 + 1)) st1.2.1 st1.2.2) (lonF ((fl n (c + 1)).foldl (lgL l) st2)) := by
      have g := rlong_l2 l (c : Int) 1 ((spl l (c : Int) false).map (·.1)) (hlen false) _ _ 0 st1 rfl (Nat.zero_le _) (by
        rw [List.drop_zero]
        have : ((1 : Int) == 0) = false := rfl
        rw [this, h2]
        exact e2)
      exact Ev.step (Ev.bind (f := fun t k => tipstaffref43_Longest.l2 k l st1.1.1 st1.1.2 (c : Int) 1 t 0 st1.2.1 st1.2.2) (rspells_ev ok (c : Int) false (by omega) (by omega)) g) (fun k => by
        rw [w1, tipstaffref43_Longest.l1, if_pos (by decide)]; rfl)
    have e0 : Ev (fun k => tipstaffref43_Longest.l1 k l st.1.1 st.1.2 (c : Int) 0 st.2.1 st.2.2) (lonF ((fl n (c + 1)).foldl (lgL l) st2)) := by
      have g := rlong_l2 l (c : Int) 0 ((spl l (c : Int) true).map (·.1)) (hlen true) _ _ 0 st rfl (Nat.zero_le _) (by
        rw [List.drop_zero]
        have : ((0 : Int) == 0) = true := rfl
        rw [this, h1]
        exact e1)
      exact Ev.step (Ev.bind (f := fun t k => tipstaffref43_Longest.l2 k l st.1.1 st.1.2 (c : Int) 0 t 0 st.2.1 st.2.2) (rspells_ev ok (c : Int) true (by omega) (by omega)) g) (fun k => by
        rw [tipstaffref43_Longest.l1, if_pos (by decide)]; rfl)
    exact e0.step (fun k => by rw [tipstaffref43_Longest.l0, if_pos (by omega)])

def lonV (l : List S41) : Int × Bool × Int × Int × Int := if (chk l).1 = 0 then lonF ((fl 64 0).foldl (lgL l) ((0, false), 0, 0)) else (0, false, 0, 0, (chk l).1)
theorem rlong_ev (l : List S41) (hw : ∀ v ∈ l, WV v) : Ev (fun k => tipstaffref43_Longest.f k l) (lonV l) := by
  refine Ev.bind (f := fun bt k => (if bt.1 = 0 then (tipstaffref43_Longest.l0 k l 0 false 0 0 0) else (some (0, false, 0, 0, bt.1)))) (rcheck_ev l hw) ?_
  unfold lonV
  by_cases h0 : (chk l).1 = 0
  · have ok : OkL l := chk_ok (x := (chk l).2) (by rw [← h0])
    rw [if_pos h0]
    exact (rlong_l0 ok 64 0 ((0, false), 0, 0) rfl (Nat.zero_le _)).congr (fun k => by rw [if_pos h0]; rfl)
  · rw [if_neg h0]
    exact (Ev.const _).congr (fun k => by rw [if_neg h0])
theorem long_ev (l : List S41) (hw : ∀ v ∈ l, WV v) : Ev (fun k => report_Longest.f k l) (lonV l) := by
  refine Ev.bind (f := fun e k => if e.1 = 0 then (allF k ((orU l).toNat ||| (orD l).toNat) (orU l) (orD l)).map (fun xs => let st := xs.foldl (lgL l) ((0, false), 0, 0); (st.1.1, st.1.2, st.2.1, st.2.2, 0)) else some (0, false, 0, 0, e.1)) (check_ev l hw) ?_
  unfold lonV
  by_cases h0 : (chk l).1 = 0
  · rw [if_pos h0]
    obtain ⟨xs, ⟨K, hK⟩, hx⟩ := all_ev l hw
    have e := hx (lgL l) ((0, false), 0, 0) (fun b f up hs => by rw [lgL_map, hs]; rfl)
    refine ⟨K, fun k hk => ?_⟩
    have hk' : allF k ((orU l).toNat ||| (orD l).toNat) (orU l) (orD l) = some xs := hK k hk
    show (if (chk l).1 = 0 then _ else _) = _
    rw [if_pos h0, hk', Option.map_some, ← e]
    rfl
  · rw [if_neg h0]
    exact (Ev.const _).congr (fun k => by rw [if_neg h0])

/-! Changes -/
def chaV (l : List S41) : List Int × Int := if (chk l).1 = 0 then (chgF l l.length 0 0 0, 0) else ([], (chk l).1)
theorem changes_ev (l : List S41) (hw : ∀ v ∈ l, WV v) : Ev (fun k => report_Changes.f k l) (chaV l) := by
  refine Ev.bind (f := fun e _ => if e.1 = 0 then some (chgF l l.length 0 0 0, 0) else some ([], e.1)) (check_ev l hw) (Ev.of_eq ?_)
  unfold chaV
  by_cases h0 : (chk l).1 = 0
  · rw [if_pos h0, if_pos h0]
  · rw [if_neg h0, if_neg h0]
theorem rcha_l0 (l : List S41) (hl : l.length ≤ 20000) : ∀ (d i : Nat) (u dd : Int) (acc : List Int), d = l.length - i → i ≤ l.length → acc.length ≤ i → Ev (fun k => tipstaffref43_Changes.l0 k l acc u dd (i : Int)) (acc ++ chgF l d i u dd, 0) := by
  intro d
  induction d with
  | zero =>
    intro i u dd acc hd hi ha
    exact Ev.step (Ev.const _) (fun k => by rw [tipstaffref43_Changes.l0, if_neg (by omega), chgF, List.append_nil])
  | succ d IH =>
    intro i u dd acc hd hi ha
    have hw := wrap_succ i (by omega)
    have h1 : (i : Int) < (l.length : Int) := by omega
    have h2 : (0 : Int) ≤ (i : Int) := by omega
    have hd1 : d = l.length - (i + 1) := by omega
    have hi1 : i + 1 ≤ l.length := by omega
    have hal : acc.length < 17592186044416 := by omega
    rw [chgF]
    by_cases h3 : (rd_T41 l (i : Int)).f3 = u ∧ (rd_T41 l (i : Int)).f4 = dd
    · rw [if_pos h3, List.nil_append]
      exact (IH (i + 1) _ _ acc hd1 hi1 (by omega)).step (fun k => by rw [tipstaffref43_Changes.l0, if_pos h1, if_pos h2, if_pos h3.1, if_pos h3.2, hw])
    · rw [if_neg h3, ← List.append_assoc]
      refine (IH (i + 1) _ _ (acc ++ [(i : Int)]) hd1 hi1 (by rw [List.length_append, List.length_singleton]; omega)).step (fun k => ?_)
      rw [tipstaffref43_Changes.l0, if_pos h1, if_pos h2, hw, if_pos hal]
      by_cases h4 : (rd_T41 l (i : Int)).f3 = u
      · rw [if_pos h4, if_neg (fun h5 => h3 ⟨h4, h5⟩)]
      · rw [if_neg h4]
theorem rchanges_ev (l : List S41) (hw : ∀ v ∈ l, WV v) : Ev (fun k => tipstaffref43_Changes.f k l) (chaV l) := by
  refine Ev.bind (f := fun bt k => (if bt.1 = 0 then (tipstaffref43_Changes.l0 k l ([] : List Int) 0 0 0) else (some (([] : List Int), bt.1)))) (rcheck_ev l hw) ?_
  unfold chaV
  by_cases h0 : (chk l).1 = 0
  · have ok : OkL l := chk_ok (x := (chk l).2) (by rw [← h0])
    rw [if_pos h0]
    exact (rcha_l0 l ok.len l.length 0 0 0 [] rfl (Nat.zero_le _) (Nat.le_refl _)).congr (fun k => by rw [if_pos h0]; rfl)
  · rw [if_neg h0]
    exact (Ev.const _).congr (fun k => by rw [if_neg h0])
theorem chgF_len (l : List S41) : ∀ (d i : Nat) (u dd : Int), (chgF l d i u dd).length ≤ d
  | 0, _, _, _ => Nat.le_refl _
  | d + 1, i, u, dd => by
    rw [chgF, List.length_append]
    have := chgF_len l d (i + 1) (rd_T41 l i).f3 (rd_T41 l i).f4
    by_cases h3 : (rd_T41 l (i : Int)).f3 = u ∧ (rd_T41 l (i : Int)).f4 = dd
    · rw [if_pos h3, List.length_nil]; omega
    · rw [if_neg h3, List.length_singleton]; omega

end Go.Proofs.YtenlokaaloenmaaDoor.Pure
end

section
set_option linter.unusedVariables false
namespace Go.Proofs.YtenlokaaloenmaaDoor.Pure
open Go.RowKit Go.Proofs.YtenlokaaloenmaaDoor.S Go.Proofs.YtenlokaaloenmaaDoorW.PrintWords Go.Proofs.YtenlokaaloenmaaDoorW.PrintLast Go.Proofs.YtenlokaaloenmaaDoorW.PrintMore
set_option linter.unusedVariables false
set_option linter.unusedSimpArgs false

/-- How many lights are on in a view. -/
def litO (v : S41) : Nat := popN v.f3.toNat 64 0 + popN v.f4.toNat 64 0
def litV (l : List S41) : List Int × Int := if (chk l).1 = 0 then (l.map (fun v => (litO v : Int)), 0) else ([], (chk l).1)
theorem litO_le (v : S41) : litO v ≤ 128 := by
  have h1 := popN_le v.f3.toNat 64 0
  have h2 := popN_le v.f4.toNat 64 0
  unfold litO; omega
theorem lights_l0 {l : List S41} (ok : OkL l) (hw : ∀ v ∈ l, WV v) : ∀ (d i : Nat) (acc : List Int), d = l.length - i → i ≤ l.length → acc.length = i → Ev (fun k => report_Lights.l0 k acc l (l.length : Int) (i : Int)) (acc ++ (l.drop i).map (fun v => (litO v : Int)), 0) := by
  intro d
  induction d with
  | zero =>
    intro i acc hd hi ha
    obtain rfl : i = l.length := by omega
    rw [List.drop_length]
    exact Ev.step (Ev.const _) (fun k => by rw [report_Lights.l0, if_neg (by omega), List.map_nil, List.append_nil])
  | succ d IH =>
    intro i acc hd hi ha
    have hl := ok.len
    have hi1 : i < l.length := by omega
    have hw1 := wrap_succ i (by omega)
    have hm := hw _ (memV l i hi1)
    have p1 := pop_val (rd_T41 l (i : Int)).f3 hm.2.2.2.1.1 hm.2.2.2.1.2
    have p2 := pop_val (rd_T41 l (i : Int)).f4 hm.2.2.2.2.1 hm.2.2.2.2.2
    rw [dropV l i hi1, List.map_cons]
    have hle := litO_le (rd_T41 l (i : Int))
    unfold litO at hle
    have ih := IH (i + 1) (acc ++ [(litO (rd_T41 l (i : Int)) : Int)]) (by omega) (by omega) (by rw [List.length_append, ha]; rfl)
    rw [List.append_assoc] at ih
    refine ih.step (fun k => ?_)
    rw [report_Lights.l0, if_pos (by omega), if_pos (by omega), if_pos (by omega), p1, Option.bind_some, p2, Option.bind_some, if_pos (by omega), hw1, ← Int.natCast_add, wrap_id _ (by omega) (by omega)]
    rfl
theorem lights_ev (l : List S41) (hw : ∀ v ∈ l, WV v) : Ev (fun k => report_Lights.f k l) (litV l) := by
  refine Ev.bind (f := fun bt k => (if bt.1 = 0 then (report_Lights.l0 k ([] : List Int) l (l.length : Int) 0) else (some (([] : List Int), bt.1)))) (check_ev l hw) ?_
  unfold litV
  by_cases h0 : (chk l).1 = 0
  · have ok : OkL l := chk_ok (x := (chk l).2) (by rw [← h0])
    rw [if_pos h0]
    exact (lights_l0 ok hw l.length 0 [] rfl (Nat.zero_le _) rfl).congr (fun k => by rw [if_pos h0]; rfl)
  · rw [if_neg h0]
    exact (Ev.const _).congr (fun k => by rw [if_neg h0])

theorem sum_11 (n x y : Nat) : n + 2 + x + y = n + (1 + x) + (1 + y) := by omega
theorem sum_10 (n x y : Nat) : n + 1 + x + y = n + (1 + x) + (0 + y) := by omega
theorem sum_01 (n x y : Nat) : n + 1 + x + y = n + (0 + x) + (1 + y) := by omega
theorem sum_00 (n x y : Nat) : n + x + y = n + (0 + x) + (0 + y) := by omega
theorem rlights_l1 {l : List S41} (hw : ∀ v ∈ l, WV v) (i : Nat) (hi : i < l.length) (hl : l.length ≤ 20000) (acc : List Int) (ha : acc.length = i) (u : List Int × Int) : ∀ (d c n : Nat), d = 64 - c → c ≤ 64 → n ≤ 2 * c →
    Ev (fun k => tipstaffref43_Lights.l0 k l (acc ++ [((n + popN (rd_T41 l (i : Int)).f3.toNat d c + popN (rd_T41 l (i : Int)).f4.toNat d c : Nat) : Int)]) ((i + 1 : Nat) : Int)) u → Ev (fun k => tipstaffref43_Lights.l1 k l acc (i : Int) (n : Int) (c : Int)) u := by
  have hw1 : ∀ _ : Unit, wrap64 ((i : Int) + 1) = ((i + 1 : Nat) : Int) := fun _ => wrap_succ i (by omega)
  have h1 : (0 : Int) ≤ (i : Int) := by omega
  have h2 : (i : Int) < (l.length : Int) := by omega
  have hm := hw _ (memV l i hi)
  obtain ⟨v, hv⟩ : ∃ v, rd_T41 l (i : Int) = v := ⟨_, rfl⟩
  rw [hv] at hm ⊢
  have hu3 := hm.2.2.2.1
  have hu4 := hm.2.2.2.2
  have o3 : ((v.f3.toNat : Nat) : Int) = v.f3 := Int.toNat_of_nonneg hu3.1
  have o4 : ((v.f4.toNat : Nat) : Int) = v.f4 := Int.toNat_of_nonneg hu4.1
  have n3 : v.f3.toNat < 18446744073709551616 := by omega
  have n4 : v.f4.toNat < 18446744073709551616 := by omega
  intro d
  induction d with
  | zero =>
    intro c n hd hc hn h
    simp only [popN, Nat.add_zero] at h
    exact h.step (fun k => by rw [tipstaffref43_Lights.l1, if_neg (by omega), if_pos (by omega), hw1 ()])
  | succ d IH =>
    intro c n hd hc hn h
    have hcl : (c : Int) < 64 := by omega
    have hd1 : d = 64 - (c + 1) := by omega
    have hcc : c + 1 ≤ 64 := by omega
    have m2 : n + 2 ≤ 2 * (c + 1) := by omega
    have m1 : n + 1 ≤ 2 * (c + 1) := by omega
    have m0 : n ≤ 2 * (c + 1) := by omega
    have ih := fun n' (hn' : n' ≤ 2 * (c + 1)) => IH (c + 1) n' hd1 hcc hn'
    have hc1 : ∀ _ : Unit, wrap64 ((c : Int) + 1) = ((c + 1 : Nat) : Int) := fun _ => wrap_succ c (by omega)
    have hn1 : ∀ _ : Unit, wrap64 ((n : Int) + 1) = ((n + 1 : Nat) : Int) := fun _ => wrap_succ n (by omega)
    have hn2 : ∀ _ : Unit, wrap64 (((n + 1 : Nat) : Int) + 1) = ((n + 2 : Nat) : Int) := fun _ => wrap_succ (n + 1) (by omega)
    have t1 := on_val v (c : Int) true (by omega) (by omega)
    have t2 := on_val v (c : Int) false (by omega) (by omega)
    have v1 := onV_nat c true v.f3.toNat v.f4.toNat n3 n4
    have v2 := onV_nat c false v.f3.toNat v.f4.toNat n3 n4
    rw [o3, o4, if_pos rfl] at v1
    rw [o3, o4, if_neg (by decide)] at v2
    rw [v1] at t1
    rw [v2] at t2
    rw [popN, popN] at h
    cases b1 : v.f3.toNat.testBit c with
    | true =>
      rw [b1] at h t1
      rw [if_pos rfl] at h
      cases b2 : v.f4.toNat.testBit c with
      | true =>
        rw [b2] at h t2
        rw [if_pos rfl] at h
        refine (ih (n + 2) m2 ?_).step (fun k => ?_)
        · rw [sum_11]; exact h
        · rw [tipstaffref43_Lights.l1, if_pos hcl, if_pos h1, if_pos h2, hv, t1, Option.bind_some, if_pos rfl, t2, Option.bind_some, if_pos rfl, hn1 (), hn2 (), hc1 ()]
      | false =>
        rw [b2] at h t2
        rw [if_neg (show ¬ (false = true) by decide)] at h
        refine (ih (n + 1) m1 ?_).step (fun k => ?_)
        · rw [sum_10]; exact h
        · rw [tipstaffref43_Lights.l1, if_pos hcl, if_pos h1, if_pos h2, hv, t1, Option.bind_some, if_pos rfl, t2, Option.bind_some, if_neg (show ¬ (false = true) by decide), hn1 (), hc1 ()]
    | false =>
      rw [b1] at h t1
      rw [if_neg (show ¬ (false = true) by decide)] at h
      cases b2 : v.f4.toNat.testBit c with
      | true =>
        rw [b2] at h t2
        rw [if_pos rfl] at h
        refine (ih (n + 1) m1 ?_).step (fun k => ?_)
        · rw [sum_01]; exact h
        · rw [tipstaffref43_Lights.l1, if_pos hcl, if_pos h1, if_pos h2, hv, t1, Option.bind_some, if_neg (show ¬ (false = true) by decide), t2, Option.bind_some, if_pos rfl, hn1 (), hc1 ()]
      | false =>
        rw [b2] at h t2
        rw [if_neg (show ¬ (false = true) by decide)] at h
        refine (ih n m0 ?_).step (fun k => ?_)
        · rw [sum_00]; exact h
        · rw [tipstaffref43_Lights.l1, if_pos hcl, if_pos h1, if_pos h2, hv, t1, Option.bind_some, if_neg (show ¬ (false = true) by decide), t2, Option.bind_some, if_neg (show ¬ (false = true) by decide), hc1 ()]
theorem rlights_l0 {l : List S41} (ok : OkL l) (hw : ∀ v ∈ l, WV v) : ∀ (d i : Nat) (acc : List Int), d = l.length - i → i ≤ l.length → acc.length = i → Ev (fun k => tipstaffref43_Lights.l0 k l acc (i : Int)) (acc ++ (l.drop i).map (fun v => (litO v : Int)), 0) := by
  intro d
  induction d with
  | zero =>
    intro i acc hd hi ha
    obtain rfl : i = l.length := by omega
    rw [List.drop_length]
    exact Ev.step (Ev.const _) (fun k => by rw [tipstaffref43_Lights.l0, if_neg (by omega), List.map_nil, List.append_nil])
  | succ d IH =>
    intro i acc hd hi ha
    have hl := ok.len
    have hi1 : i < l.length := by omega
    rw [dropV l i hi1, List.map_cons]
    have ih := IH (i + 1) (acc ++ [(litO (rd_T41 l (i : Int)) : Int)]) (by omega) (by omega) (by rw [List.length_append, ha]; rfl)
    rw [List.append_assoc] at ih
    have g := rlights_l1 hw i hi1 hl acc ha _ 64 0 0 rfl (by decide) (by decide) (by rw [Nat.zero_add]; exact ih)
    exact g.step (fun k => by rw [tipstaffref43_Lights.l0, if_pos (by omega)]; rfl)
theorem rlights_ev (l : List S41) (hw : ∀ v ∈ l, WV v) : Ev (fun k => tipstaffref43_Lights.f k l) (litV l) := by
  refine Ev.bind (f := fun bt k => (if bt.1 = 0 then (tipstaffref43_Lights.l0 k l ([] : List Int) 0) else (some (([] : List Int), bt.1)))) (rcheck_ev l hw) ?_
  unfold litV
  by_cases h0 : (chk l).1 = 0
  · have ok : OkL l := chk_ok (x := (chk l).2) (by rw [← h0])
    rw [if_pos h0]
    exact (rlights_l0 ok hw l.length 0 [] rfl (Nat.zero_le _) rfl).congr (fun k => by rw [if_pos h0]; rfl)
  · rw [if_neg h0]
    exact (Ev.const _).congr (fun k => by rw [if_neg h0])

/-! Visits -/
theorem rvisL_ev {l : List S41} (ok : OkL l) (c f w : Int) (hc : 1 ≤ c) (hc2 : c ≤ ((rd_T41 l 0).f2.length : Int)) : ∀ (d i : Nat) (was : Bool) (n : Nat), d = l.length - i → i ≤ l.length → n ≤ i →
    Ev (fun k => tipstaffref43_Visits.l0 k l c f w (n : Int) was (i : Int)) ((visF l c f w d i was n : Nat), 0) := by
  intro d
  induction d with
  | zero =>
    intro i was n hd hi hn
    rw [visF]
    exact Ev.step (Ev.const ((n : Int), 0)) (fun k => by rw [tipstaffref43_Visits.l0, if_neg (by omega)])
  | succ d IH =>
    intro i was n hd hi hn
    have hl := ok.len
    have hm := (ok.v _ (memV l i (by omega))).n
    have hw1 : wrap64 ((i : Int) + 1) = ((i + 1 : Nat) : Int) := wrap_succ i (by omega)
    have hm8 := (ok.v _ (memV l i (by omega))).m8
    have hwc : wrap64 (c - 1) = c - 1 := wrap_id _ (by omega) (by omega)
    have hwn : wrap64 ((n : Int) + 1) = ((n + 1 : Nat) : Int) := wrap_succ n (by omega)
    have hd1 : d = l.length - (i + 1) := by omega
    have hi1 : i + 1 ≤ l.length := by omega
    rw [visF]
    obtain ⟨s, hs⟩ : ∃ s, rd_T43 (rd_T41 l (i : Int)).f2 (c - 1) = s := ⟨_, rfl⟩
    have ih := IH (i + 1) (isO l c f w i) (if isO l c f w i = true ∧ was = false then n + 1 else n) hd1 hi1 (Nat.le_trans (ite_le1 _ n) (Nat.succ_le_succ hn))
    refine ih.step (fun k => ?_)
    rw [tipstaffref43_Visits.l0, if_pos (by omega), if_pos (by omega), hwc, if_pos (by omega), if_pos (by omega), hs, hw1]
    have e : isO l c f w i = (if s.f0 ≥ 0 ∧ s.f1 = w then s.f0 == f else false) := by unfold isO; rw [hs]
    unfold tipstaffref43_open.f
    by_cases h0 : s.f0 ≥ 0
    · rw [if_pos h0, Option.bind_some]
      by_cases h1 : s.f1 = w
      · rw [if_pos (show s.f0 ≥ 0 ∧ s.f1 = w from ⟨h0, h1⟩)] at e
        rw [if_pos (show (s.f1 == w) = true by simpa using h1)]
        by_cases h2 : s.f0 = f
        · have e2 : (s.f0 == f) = true := by simpa using h2
          rw [e2] at e
          rw [if_pos h2, e2, e]
          cases was with
          | true => rw [if_pos rfl, if_neg (show ¬ (true = true ∧ true = false) by decide)]
          | false => rw [if_neg (show ¬ (false = true) by decide), if_pos (show true = true ∧ false = false from ⟨rfl, rfl⟩), hwn]
        · have e2 : (s.f0 == f) = false := by simpa using h2
          rw [e2] at e
          rw [if_neg h2, e2, e, if_neg (show ¬ (false = true ∧ was = false) from fun h => by cases h.1)]
      · rw [if_neg (show ¬ (s.f0 ≥ 0 ∧ s.f1 = w) from fun h => h1 h.2)] at e
        rw [if_neg (show ¬ (s.f1 == w) = true by simpa using h1), e, if_neg (show ¬ (false = true ∧ was = false) from fun h => by cases h.1)]
    · rw [if_neg (show ¬ (s.f0 ≥ 0 ∧ s.f1 = w) from fun h => h0 h.1)] at e
      rw [if_neg h0, Option.bind_some, if_neg (show ¬ (false = true) by decide), e, if_neg (show ¬ (false = true ∧ was = false) from fun h => by cases h.1)]

theorem rvis_j0 (l : List S41) (c f w : Int) (e m : Int) (u : Int × Int) (he : e ≠ 0 → u = (0, e)) (hb : e = 0 → (c < 1 ∨ m < c ∨ f < 0 ∨ 63 < f ∨ w < 1 ∨ 20 < w) → u = (0, 2))
    (hg : e = 0 → ¬ (c < 1 ∨ m < c ∨ f < 0 ∨ 63 < f ∨ w < 1 ∨ 20 < w) → Ev (fun k => tipstaffref43_Visits.l0 k l c f w 0 false 0) u) : Ev (fun k => tipstaffref43_Visits.j0 k l c f w e m) u := by
  have two : ∀ u : Int × Int, u = (0, 2) → Ev (fun k => tipstaffref43_Visits.j1 k l c f w e true) u := fun u hu => by
    subst hu
    exact (Ev.step (g := fun k => tipstaffref43_Visits.j2 k l c f w 2) (Ev.const (0, 2)) (fun k => by rw [tipstaffref43_Visits.j2, if_neg (by decide)])).step (fun k => by rw [tipstaffref43_Visits.j1, if_pos rfl])
  by_cases h0 : e = 0
  · have good : ¬ (c < 1 ∨ m < c ∨ f < 0 ∨ 63 < f ∨ w < 1 ∨ 20 < w) → Ev (fun k => tipstaffref43_Visits.j1 k l c f w e false) u := fun hn =>
      ((hg h0 hn).step (g := fun k => tipstaffref43_Visits.j2 k l c f w e) (fun k => by rw [tipstaffref43_Visits.j2, if_pos h0])).step (fun k => by rw [tipstaffref43_Visits.j1, if_neg (by decide)])
    by_cases h1 : 1 ≤ c ∧ c ≤ m
    · by_cases h2 : 0 ≤ f ∧ f ≤ 63
      · by_cases h3 : 1 ≤ w ∧ w ≤ 20
        · exact (good (by omega)).step (fun k => by rw [tipstaffref43_Visits.j0, if_pos h0, in_val, Option.bind_some, if_pos (decide_eq_true h1), in_val, Option.bind_some, if_pos (decide_eq_true h2), in_val, Option.bind_some, decide_eq_true h3]; rfl)
        · exact (two u (hb h0 (by omega))).step (fun k => by rw [tipstaffref43_Visits.j0, if_pos h0, in_val, Option.bind_some, if_pos (decide_eq_true h1), in_val, Option.bind_some, if_pos (decide_eq_true h2), in_val, Option.bind_some, decide_eq_false h3]; rfl)
      · exact (two u (hb h0 (by omega))).step (fun k => by rw [tipstaffref43_Visits.j0, if_pos h0, in_val, Option.bind_some, if_pos (decide_eq_true h1), in_val, Option.bind_some, if_neg (by rw [decide_eq_false h2]; decide)])
    · exact (two u (hb h0 (by omega))).step (fun k => by rw [tipstaffref43_Visits.j0, if_pos h0, in_val, Option.bind_some, if_neg (by rw [decide_eq_false h1]; decide)])
  · rw [he h0]
    exact ((Ev.step (g := fun k => tipstaffref43_Visits.j2 k l c f w e) (Ev.const (0, e)) (fun k => by rw [tipstaffref43_Visits.j2, if_neg h0])).step (g := fun k => tipstaffref43_Visits.j1 k l c f w e false) (fun k => by rw [tipstaffref43_Visits.j1, if_neg (by decide)])).step (fun k => by rw [tipstaffref43_Visits.j0, if_neg h0])

theorem rvisits_ev (l : List S41) (hw : ∀ v ∈ l, WV v) (c f w : Int) : Ev (fun k => tipstaffref43_Visits.f k l c f w) (visV l c f w) := by
  refine Ev.bind (f := fun bt k => (if (l.length : Int) > 0 then (if 0 < (l.length : Int) then (tipstaffref43_Visits.j0 k l c f w bt.1 (((rd_T41 l 0).f2).length : Int)) else (none)) else (tipstaffref43_Visits.j0 k l c f w bt.1 0))) (rcheck_ev l hw) ?_
  unfold visV
  by_cases hl : (l.length : Int) > 0
  · refine Ev.congr (rvis_j0 l c f w (chk l).1 ((rd_T41 l 0).f2.length : Int) _ (fun h0 => if_neg h0) (fun h0 hb => ?_) (fun h0 hg => ?_)) (fun k => by rw [if_pos hl, if_pos hl])
    · rw [if_pos h0, if_pos (by unfold visBad; omega)]
    · have ok : OkL l := chk_ok (x := (chk l).2) (by rw [← h0])
      rw [if_pos h0, if_neg (by unfold visBad; omega)]
      exact rvisL_ev ok c f w (by omega) (by omega) l.length 0 false 0 rfl (Nat.zero_le _) (Nat.le_refl _)
  · refine Ev.congr (rvis_j0 l c f w (chk l).1 0 _ (fun h0 => if_neg h0) (fun h0 hb => ?_) (fun h0 hg => absurd hg (by omega))) (fun k => by rw [if_neg hl])
    rw [if_pos h0, if_pos (by unfold visBad; omega)]

end Go.Proofs.YtenlokaaloenmaaDoor.Pure
end
