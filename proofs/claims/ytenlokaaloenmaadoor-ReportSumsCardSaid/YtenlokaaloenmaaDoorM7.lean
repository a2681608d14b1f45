/- Joined: The longest spell, the spells, the visits, the changes: the reference's answers are the program's. The spells of a light in a valid run: where they begin and end, and what their lengths add up to. -/
import Derived.Test.YtenlokaaloenmaaDoorM4
import Derived.Test.YtenlokaaloenmaaDoorM5
import Derived.Test.YtenlokaaloenmaaDoorRp4
import Derived.Test.YtenlokaaloenmaaDoorRp6
import Derived.Test.YtenlokaaloenmaaDoorHlongest
import Derived.Test.YtenlokaaloenmaaDoorM3

section
set_option linter.unusedVariables false
namespace Go.Proofs.YtenlokaaloenmaaDoor.Pure
open Go.RowKit Go.Proofs.YtenlokaaloenmaaDoor.S Go.Proofs.YtenlokaaloenmaaDoorW.PrintWords Go.Proofs.YtenlokaaloenmaaDoorW.PrintLast Go.Proofs.YtenlokaaloenmaaDoorW.PrintMore
set_option linter.unusedVariables false
set_option linter.unusedSimpArgs false

theorem spF_len (l : List S41) (f : Int) (up : Bool) : ∀ (d i : Nat) (frm : Int), (spF l f up d i frm).length ≤ d + 1
  | 0, i, frm => by
    rw [spF]
    by_cases h : frm ≥ 0
    · rw [if_pos h]; exact Nat.le_refl _
    · rw [if_neg h]; exact Nat.zero_le _
  | d + 1, i, frm => by
    rw [spF]
    have a1 := spF_len l f up d (i + 1) i
    have a2 := spF_len l f up d (i + 1) frm
    have a3 := spF_len l f up d (i + 1) (-1)
    by_cases h1 : onV f up (rd_T41 l i).f3 (rd_T41 l i).f4 = true
    · rw [if_pos h1]
      by_cases h2 : frm < 0
      · rw [if_pos h2]; omega
      · rw [if_neg h2]; omega
    · rw [if_neg h1]
      by_cases h2 : frm ≥ 0
      · rw [if_pos h2, List.length_cons]; omega
      · rw [if_neg h2]; omega
theorem spl_len (l : List S41) (f : Int) (up : Bool) : (spl l f up).length ≤ l.length + 1 := spF_len l f up _ _ _

/-! Longest -/
abbrev St := (Int × Bool) × Int × Int
def lgS7 (x : Int × Bool) (st : St) (y : S57) : St := lgS x st (y, true)
theorem lgS7_map (x : Int × Bool) : ∀ (al : List (S57 × Bool)) (st : St), al.foldl (lgS x) st = (al.map (·.1)).foldl (lgS7 x) st
  | [], _ => rfl
  | y :: al, st => lgS7_map x al _
theorem lgL_map (l : List S41) (st : St) (f : Fin 64) (up : Bool) : lgL l st (f, up) = ((spl l (f.val : Int) up).map (·.1)).foldl (lgS7 ((f.val : Int), up)) st := lgS7_map _ _ _
def lonF (st : St) : Int × Bool × Int × Int × Int := (st.1.1, st.1.2, st.2.1, st.2.2, 0)
def lonV (l : List S41) : Int × Bool × Int × Int × Int := if (chk l).1 = 0 then lonF ((fl 64 0).foldl (lgL l) ((0, false), 0, 0)) else (0, false, 0, 0, (chk l).1)
theorem long_ev (l : List S41) (hw : ∀ v ∈ l, WV v) : Ev (fun k => report_Longest.f k l) (lonV l) := by
  refine Ev.bind (f := fun e k => if e.1 = 0 then (allF k ((orU l).toNat ||| (orD l).toNat) (orU l) (orD l)).map (fun xs => let st := xs.foldl (lgL l) ((0, false), 0, 0); (st.1.1, st.1.2, st.2.1, st.2.2, 0)) else some (0, false, 0, 0, e.1)) (check_ev l hw) ?_
  unfold lonV
  by_cases h0 : (chk l).1 = 0
  · rw [if_pos h0]
    obtain ⟨xs, ⟨K, hK⟩, hx⟩ := all_ev l hw
    have e := hx (lgL l) ((0, false), 0, 0) (fun b f up hs => by rw [lgL_map, hs]; rfl)
    refine ⟨K, fun k hk => ?_⟩
    have hk' : allF k ((orU l).toNat ||| (orD l).toNat) (orU l) (orD l) = some xs := hK k hk
    show (if (chk l).1 = 0 then _ else _) = _
    rw [if_pos h0, hk', Option.map_some, ← e]
    rfl
  · rw [if_neg h0]
    exact (Ev.const _).congr (fun k => by rw [if_neg h0])

/-! Changes -/
def chaV (l : List S41) : List Int × Int := if (chk l).1 = 0 then (chgF l l.length 0 0 0, 0) else ([], (chk l).1)
theorem changes_ev (l : List S41) (hw : ∀ v ∈ l, WV v) : Ev (fun k => report_Changes.f k l) (chaV l) := by
  refine Ev.bind (f := fun e _ => if e.1 = 0 then some (chgF l l.length 0 0 0, 0) else some ([], e.1)) (check_ev l hw) (Ev.of_eq ?_)
  unfold chaV
  by_cases h0 : (chk l).1 = 0
  · rw [if_pos h0, if_pos h0]
  · rw [if_neg h0, if_neg h0]
theorem chgF_len (l : List S41) : ∀ (d i : Nat) (u dd : Int), (chgF l d i u dd).length ≤ d
  | 0, _, _, _ => Nat.le_refl _
  | d + 1, i, u, dd => by
    rw [chgF, List.length_append]
    have := chgF_len l d (i + 1) (rd_T41 l i).f3 (rd_T41 l i).f4
    by_cases h3 : (rd_T41 l (i : Int)).f3 = u ∧ (rd_T41 l (i : Int)).f4 = dd
    · rw [if_pos h3, List.length_nil]; omega
    · rw [if_neg h3, List.length_singleton]; omega

end Go.Proofs.YtenlokaaloenmaaDoor.Pure
end

section
set_option linter.unusedVariables false
namespace Go.Proofs.YtenlokaaloenmaaDoor.Pure
open Go.RowKit Go.Proofs.YtenlokaaloenmaaDoor.S Go.Proofs.YtenlokaaloenmaaDoorW.PrintWords Go.Proofs.YtenlokaaloenmaaDoorW.PrintLast Go.Proofs.YtenlokaaloenmaaDoorW.PrintMore
set_option linter.unusedVariables false
set_option linter.unusedSimpArgs false

/-- Spells one behind the other, each from a place on, the first not before lo. -/
def Chain (l : List S41) (f : Int) (up : Bool) : Nat → List S57 → Prop
  | _, [] => True
  | lo, y :: r => ∃ a b : Nat, lo ≤ a ∧ a < b ∧ b ≤ l.length ∧ y.f0 = (rd_T41 l 0).f0 + a ∧ y.f1 = (rd_T41 l 0).f0 + b ∧ onAt l f up a = true ∧ onAt l f up (b - 1) = true ∧ (a = 0 ∨ onAt l f up (a - 1) = false) ∧ (b = l.length ∨ onAt l f up b = false) ∧ Chain l f up (b + 1) r
theorem Chain.lower {l : List S41} {f : Int} {up : Bool} {lo lo' : Nat} (h : lo' ≤ lo) : ∀ {L : List S57}, Chain l f up lo L → Chain l f up lo' L
  | [], _ => trivial
  | y :: r, ⟨a, b, h1, h2⟩ => ⟨a, b, Nat.le_trans h h1, h2⟩

theorem chain_spF {l : List S41} (ok : OkL l) (f : Int) (up : Bool) : ∀ (d i : Nat), d = l.length - i → i ≤ l.length →
    ((i = 0 ∨ onAt l f up (i - 1) = false) → Chain l f up i ((spF l f up d i (-1)).map (·.1))) ∧
    (∀ a : Nat, a < i → onAt l f up a = true → onAt l f up (i - 1) = true → (a = 0 ∨ onAt l f up (a - 1) = false) → Chain l f up a ((spF l f up d i (a : Int)).map (·.1)))
  | 0, i, hd, hi => by
    have hl := ok.len
    refine ⟨fun _ => by rw [spF, if_neg (by decide)]; trivial, fun a ha h1 h2 h3 => ?_⟩
    have hn : 0 < l.length := by omega
    have b := tick_lo ok hn
    have t := tick_at ok (l.length - 1) (by omega)
    have ta := tick_at ok a (by omega)
    rw [show ((l.length - 1 : Nat) : Int) = (l.length : Int) - 1 by omega] at t
    have hil : i = l.length := by omega
    rw [spF, if_pos (show (a : Int) ≥ 0 by omega)]
    refine ⟨a, l.length, Nat.le_refl _, by omega, Nat.le_refl _, ta, ?_, h1, by rw [← hil]; exact h2, h3, .inl rfl, trivial⟩
    show wrap64 ((rd_T41 l ((l.length : Int) - 1)).f0 + 1) = _
    rw [t, wrap_id _ (by omega) (by omega)]; omega
  | d + 1, i, hd, hi => by
    have hl := ok.len
    obtain ⟨ih1, ih2⟩ := chain_spF ok f up d (i + 1) (by omega) (by omega)
    rw [Nat.add_sub_cancel] at ih1 ih2
    have ti := tick_at ok i (by omega)
    cases hc : onAt l f up i with
    | true =>
      have hc' : onV f up (rd_T41 l (i : Int)).f3 (rd_T41 l (i : Int)).f4 = true := hc
      refine ⟨fun h => ?_, fun a ha h1 h2 h3 => ?_⟩
      · rw [spF, if_pos hc', if_pos (by decide)]
        exact ih2 i (by omega) hc hc h
      · rw [spF, if_pos hc', if_neg (show ¬ (a : Int) < 0 by omega)]
        exact ih2 a (by omega) h1 hc h3
    | false =>
      have hc' : ¬ onV f up (rd_T41 l (i : Int)).f3 (rd_T41 l (i : Int)).f4 = true := by
        have : onV f up (rd_T41 l (i : Int)).f3 (rd_T41 l (i : Int)).f4 = false := hc
        rw [this]; decide
      refine ⟨fun h => ?_, fun a ha h1 h2 h3 => ?_⟩
      · rw [spF, if_neg hc', if_neg (by decide)]
        exact (ih1 (.inr hc)).lower (by omega)
      · have ta := tick_at ok a (by omega)
        rw [spF, if_neg hc', if_pos (show (a : Int) ≥ 0 by omega), List.map_cons]
        exact ⟨a, i, Nat.le_refl _, ha, hi, ta, ti, h1, h2, h3, .inr hc, ih1 (.inr hc)⟩
theorem chain_spl {l : List S41} (ok : OkL l) (f : Int) (up : Bool) : Chain l f up 0 ((spl l f up).map (·.1)) := (chain_spF ok f up l.length 0 rfl (Nat.zero_le _)).1 (.inl rfl)

/-- One spell of a chain. -/
theorem Chain.get {l : List S41} {f : Int} {up : Bool} : ∀ {L : List S57} {lo : Nat}, Chain l f up lo L → ∀ q : Nat, q < L.length → ∃ a b : Nat, lo ≤ a ∧ a < b ∧ b ≤ l.length ∧ (rd_T57 L (q : Int)).f0 = (rd_T41 l 0).f0 + a ∧ (rd_T57 L (q : Int)).f1 = (rd_T41 l 0).f0 + b ∧ onAt l f up a = true ∧ onAt l f up (b - 1) = true ∧ (a = 0 ∨ onAt l f up (a - 1) = false) ∧ (b = l.length ∨ onAt l f up b = false) ∧
    (0 < q → (rd_T57 L ((q : Int) - 1)).f1 < (rd_T57 L (q : Int)).f0)
  | [], lo, _, q, hq => absurd hq (Nat.not_lt_zero _)
  | y :: r, lo, ⟨a, b, h1, h2, h3, h4, h5, h6, h7, h8, h9, h10⟩, q, hq => by
    match q with
    | 0 => exact ⟨a, b, h1, h2, h3, h4, h5, h6, h7, h8, h9, fun h => absurd h (Nat.lt_irrefl 0)⟩
    | q + 1 =>
      have hq' : q < r.length := by rw [List.length_cons] at hq; omega
      obtain ⟨a', b', g1, g2, g3, g4, g5, g6, g7, g8, g9, g10⟩ := Chain.get h10 q hq'
      have e : ∀ j : Nat, rd_T57 (y :: r) ((j + 1 : Nat) : Int) = rd_T57 r (j : Int) := fun j => by unfold rd_T57; rw [Int.toNat_natCast, Int.toNat_natCast, List.getD_cons_succ]
      refine ⟨a', b', by omega, g2, g3, by rw [e]; exact g4, by rw [e]; exact g5, g6, g7, g8, g9, fun _ => ?_⟩
      rw [e, show (((q + 1 : Nat) : Int) - 1) = ((q : Nat) : Int) by omega]
      match q, g10 with
      | 0, _ =>
        have e0 : rd_T57 (y :: r) ((0 : Nat) : Int) = y := rfl
        rw [e0, h5, g4]; omega
      | q + 1, g10 =>
        rw [e]
        have := g10 (by omega)
        rw [show (((q + 1 : Nat) : Int) - 1) = ((q : Nat) : Int) by omega] at this
        exact this

/-- In how many views from a place on a light is on. -/
def cnO (l : List S41) (f : Int) (up : Bool) : Nat → Nat → Nat
  | 0, _ => 0
  | d + 1, i => (if onAt l f up i = true then 1 else 0) + cnO l f up d (i + 1)
def szS (L : List S57) : Int := (L.map fun y => y.f1 - y.f0).sum
theorem sz_spF {l : List S41} (ok : OkL l) (f : Int) (up : Bool) : ∀ (d i : Nat), d = l.length - i → i ≤ l.length →
    szS ((spF l f up d i (-1)).map (·.1)) = (cnO l f up d i : Int) ∧ (∀ a : Nat, a < i → szS ((spF l f up d i (a : Int)).map (·.1)) = (i : Int) - a + (cnO l f up d i : Int))
  | 0, i, hd, hi => by
    have hl := ok.len
    refine ⟨by rw [spF, if_neg (by decide)]; rfl, fun a ha => ?_⟩
    have hn : 0 < l.length := by omega
    have b := tick_lo ok hn
    have t := tick_at ok (l.length - 1) (by omega)
    have ta := tick_at ok a (by omega)
    rw [show ((l.length - 1 : Nat) : Int) = (l.length : Int) - 1 by omega] at t
    rw [spF, if_pos (show (a : Int) ≥ 0 by omega)]
    show (wrap64 ((rd_T41 l ((l.length : Int) - 1)).f0 + 1) - (rd_T41 l (a : Int)).f0) + 0 = _
    rw [t, ta, wrap_id _ (by omega) (by omega)]
    show _ = _ + ((0 : Nat) : Int)
    omega
  | d + 1, i, hd, hi => by
    have hl := ok.len
    obtain ⟨ih1, ih2⟩ := sz_spF ok f up d (i + 1) (by omega) (by omega)
    have ti := tick_at ok i (by omega)
    cases hc : onAt l f up i with
    | true =>
      have hc' : onV f up (rd_T41 l (i : Int)).f3 (rd_T41 l (i : Int)).f4 = true := hc
      rw [cnO, if_pos hc]
      refine ⟨?_, fun a ha => ?_⟩
      · rw [spF, if_pos hc', if_pos (by decide), ih2 i (by omega)]; omega
      · rw [spF, if_pos hc', if_neg (show ¬ (a : Int) < 0 by omega), ih2 a (by omega)]; omega
    | false =>
      have hc' : ¬ onV f up (rd_T41 l (i : Int)).f3 (rd_T41 l (i : Int)).f4 = true := by
        have : onV f up (rd_T41 l (i : Int)).f3 (rd_T41 l (i : Int)).f4 = false := hc
        rw [this]; decide
      rw [cnO, if_neg (by rw [hc]; decide)]
      refine ⟨?_, fun a ha => ?_⟩
      · rw [spF, if_neg hc', if_neg (by decide), ih1]; omega
      · have ta := tick_at ok a (by omega)
        rw [spF, if_neg hc', if_pos (show (a : Int) ≥ 0 by omega), List.map_cons]
        show ((rd_T41 l (i : Int)).f0 - (rd_T41 l (a : Int)).f0) + szS ((spF l f up d (i + 1) (-1)).map (·.1)) = _
        rw [ih1, ti, ta]; omega
theorem sz_spl {l : List S41} (ok : OkL l) (f : Int) (up : Bool) : szS ((spl l f up).map (·.1)) = (cnO l f up l.length 0 : Int) := (sz_spF ok f up l.length 0 rfl (Nat.zero_le _)).1

end Go.Proofs.YtenlokaaloenmaaDoor.Pure
end
