/- The spells of a light: the reference's are the program's. -/
import Derived.Test.YtenlokaaloenmaaDoorM4
import Derived.Test.YtenlokaaloenmaaDoorM5
import Derived.Test.YtenlokaaloenmaaDoorS12
namespace Go.Proofs.YtenlokaaloenmaaDoor.Pure
open Go.RowKit Go.Proofs.YtenlokaaloenmaaDoor.S Go.Proofs.YtenlokaaloenmaaDoorW.PrintWords Go.Proofs.YtenlokaaloenmaaDoorW.PrintLast Go.Proofs.YtenlokaaloenmaaDoorW.PrintMore
set_option linter.unusedVariables false
set_option linter.unusedSimpArgs false
set_option linter.unusedVariables false

theorem tick_at {l : List S41} (ok : OkL l) : ∀ j : Nat, j < l.length → (rd_T41 l (j : Int)).f0 = (rd_T41 l 0).f0 + j
  | 0, _ => by simp
  | j + 1, h => by
    have ih := tick_at ok j (by omega)
    have h0 := ok.t 0 (by omega)
    have h1 := ok.t (j + 1) h
    have hl := ok.len
    unfold tickE at h0 h1
    rw [if_pos rfl] at h0
    rw [if_neg (by omega), show (((j + 1 : Nat) : Int) - 1) = (j : Int) by omega] at h1
    have b0 : 0 ≤ (rd_T41 l 0).f0 ∧ (rd_T41 l 0).f0 ≤ 1099511627776 := by
      refine Classical.byContradiction fun hb => ?_
      rw [if_neg hb] at h0; cases h0
    have b1 : (rd_T41 l ((j + 1 : Nat) : Int)).f0 = wrap64 ((rd_T41 l (j : Int)).f0 + 1) := by
      refine Classical.byContradiction fun hb => ?_
      rw [if_neg hb] at h1; cases h1
    rw [b1, ih, wrap_id _ (by omega) (by omega)]
    omega
theorem tick_lo {l : List S41} (ok : OkL l) (hn : 0 < l.length) : 0 ≤ (rd_T41 l 0).f0 ∧ (rd_T41 l 0).f0 ≤ 1099511627776 := by
  have h0 := ok.t 0 hn
  unfold tickE at h0
  rw [if_pos rfl] at h0
  refine Classical.byContradiction fun hb => ?_
  rw [if_neg hb] at h0; cases h0

/-- Whether a light is on in a view. -/
def onAt (l : List S41) (f : Int) (up : Bool) (i : Nat) : Bool := onV f up (rd_T41 l (i : Int)).f3 (rd_T41 l (i : Int)).f4
theorem on_val (v : S41) (f : Int) (up : Bool) (h0 : 0 ≤ f) (h1 : f ≤ 63) : tipstaffref43_on.f v.f0 v.f1 v.f2 v.f3 v.f4 v.f5 f up = some (onV f up v.f3 v.f4) := by
  have hw : IntKind.u64.wrap f = f := by rw [IntKind.wrap_u64]; omega
  have hs : ∀ x, shr .u64 x f = x / 2 ^ f.toNat := by
    intro x
    unfold shr
    rw [show min f.toNat IntKind.u64.bits = f.toNat from by have : IntKind.u64.bits = 64 := rfl; omega]
  unfold tipstaffref43_on.f onV
  cases up with
  | true => rw [if_pos rfl, hw, if_pos h0, hs, if_pos rfl]
  | false => rw [if_neg (by decide), hw, if_pos h0, hs, if_neg (by decide)]

theorem rsp_ev {l : List S41} (ok : OkL l) (f : Int) (up : Bool) (h0 : 0 ≤ f) (h1 : f ≤ 63) : ∀ (d i : Nat) (frm : Int) (base acc : List S57), d = l.length - i → i ≤ l.length → base.length ≤ i →
    ((frm = -1 ∧ (0 < i → onAt l f up (i - 1) = false) ∧ acc = base) ∨ (∃ s : Nat, frm = s ∧ s < i ∧ onAt l f up (i - 1) = true ∧ acc = base ++ [⟨(rd_T41 l (s : Int)).f0, (rd_T41 l ((i : Int) - 1)).f0 + 1⟩])) →
    Ev (fun k => tipstaffref43_spells.l0 k l f up acc (i : Int)) (base ++ (spF l f up d i frm).map (·.1))
  | 0, i, frm, base, acc, hd, hi, hb, hs => by
    obtain rfl : i = l.length := by omega
    have hl := ok.len
    have e : acc = base ++ (spF l f up 0 l.length frm).map (·.1) := by
      rcases hs with ⟨rfl, _, rfl⟩ | ⟨s, rfl, hsi, _, rfl⟩
      · rw [spF, if_neg (by decide)]; simp
      · have hn : 0 < l.length := by omega
        have b := tick_lo ok hn
        have t1 := tick_at ok (l.length - 1) (by omega)
        rw [show ((l.length - 1 : Nat) : Int) = (l.length : Int) - 1 by omega] at t1
        rw [spF, if_pos (by omega), wrap_id _ (by omega) (by omega)]
        rfl
    rw [← e]
    exact Ev.step (Ev.const acc) (fun k => by rw [tipstaffref43_spells.l0, if_neg (by omega)])
  | d + 1, i, frm, base, acc, hd, hi, hb, hs => by
    have hl := ok.len
    have hn : 0 < l.length := by omega
    have b := tick_lo ok hn
    have ti := tick_at ok i (by omega)
    have hon := on_val (rd_T41 l (i : Int)) f up h0 h1
    have hw1 : wrap64 ((i : Int) + 1) = ((i + 1 : Nat) : Int) := wrap_succ i (by omega)
    cases hc : onAt l f up i with
    | false =>
      have hc' : onV f up (rd_T41 l (i : Int)).f3 (rd_T41 l (i : Int)).f4 = false := hc
      rw [hc'] at hon
      have st : ∀ u, Ev (fun k => tipstaffref43_spells.l0 k l f up acc ((i + 1 : Nat) : Int)) u → Ev (fun k => tipstaffref43_spells.l0 k l f up acc (i : Int)) u := fun u h => h.step (fun k => by
        rw [tipstaffref43_spells.l0, if_pos (by omega), if_pos (by omega), hon, Option.bind_some, if_neg (by decide), hw1])
      rcases hs with ⟨rfl, _, rfl⟩ | ⟨s, rfl, hsi, _, rfl⟩
      · rw [spF, hc', if_neg (by decide), if_neg (by decide)]
        exact st _ (rsp_ev ok f up h0 h1 d (i + 1) (-1) acc acc (by omega) (by omega) (by omega) (.inl ⟨rfl, fun _ => by rw [Nat.add_sub_cancel]; exact hc, rfl⟩))
      · have ti1 := tick_at ok (i - 1) (by omega)
        rw [show ((i - 1 : Nat) : Int) = (i : Int) - 1 by omega] at ti1
        rw [spF, hc', if_neg (by decide), if_pos (by omega)]
        have ih := rsp_ev ok f up h0 h1 d (i + 1) (-1) (base ++ [⟨(rd_T41 l (s : Int)).f0, (rd_T41 l ((i : Int) - 1)).f0 + 1⟩]) (base ++ [⟨(rd_T41 l (s : Int)).f0, (rd_T41 l ((i : Int) - 1)).f0 + 1⟩]) (by omega) (by omega) (by simp; omega) (.inl ⟨rfl, fun _ => by rw [Nat.add_sub_cancel]; exact hc, rfl⟩)
        refine st _ (ih.val ?_)
        rw [ti1, ti, List.append_assoc, List.map_cons]
        congr 2
        simp only [List.nil_append, List.singleton_append]
        congr 2
        omega
    | true =>
      have hc' : onV f up (rd_T41 l (i : Int)).f3 (rd_T41 l (i : Int)).f4 = true := hc
      rw [hc'] at hon
      have hc2 : onAt l f up (i + 1 - 1) = true := by rw [Nat.add_sub_cancel]; exact hc
      rcases hs with ⟨rfl, hoff, rfl⟩ | ⟨s, rfl, hsi, hprev, rfl⟩
      · rw [spF, hc', if_pos rfl, if_pos (by decide)]
        have ih := rsp_ev ok f up h0 h1 d (i + 1) (i : Int) acc (acc ++ [⟨(rd_T41 l (i : Int)).f0, wrap64 ((rd_T41 l (i : Int)).f0 + 1)⟩]) (by omega) (by omega) (by omega)
          (.inr ⟨i, rfl, by omega, hc2, by rw [wrap_id _ (by omega) (by omega), show (((i + 1 : Nat) : Int) - 1) = (i : Int) by omega]⟩)
        by_cases hi0 : 0 < i
        · have hp := on_val (rd_T41 l ((i : Int) - 1)) f up h0 h1
          have hp2 := hoff hi0
          unfold onAt at hp2
          rw [show ((i - 1 : Nat) : Int) = (i : Int) - 1 by omega] at hp2
          rw [hp2] at hp
          refine ih.step (fun k => ?_)
          rw [tipstaffref43_spells.l0, if_pos (by omega), if_pos (by omega), hon, Option.bind_some, if_pos rfl, if_pos (by omega), wrap_id ((i : Int) - 1) (by omega) (by omega), if_pos (by omega), if_pos (by omega), hp, Option.bind_some, if_neg (by decide), if_pos (by omega), hw1]
        · refine ih.step (fun k => ?_)
          rw [tipstaffref43_spells.l0, if_pos (by omega), if_pos (by omega), hon, Option.bind_some, if_pos rfl, if_neg (by omega), if_pos (by omega), hw1]
      · rw [spF, hc', if_pos rfl, if_neg (by omega)]
        have ti1 := tick_at ok (i - 1) (by omega)
        rw [show ((i - 1 : Nat) : Int) = (i : Int) - 1 by omega] at ti1
        have hp := on_val (rd_T41 l ((i : Int) - 1)) f up h0 h1
        unfold onAt at hprev
        rw [show ((i - 1 : Nat) : Int) = (i : Int) - 1 by omega] at hprev
        rw [hprev] at hp
        have ih := rsp_ev ok f up h0 h1 d (i + 1) (s : Int) base (base ++ [⟨(rd_T41 l (s : Int)).f0, (rd_T41 l (i : Int)).f0 + 1⟩]) (by omega) (by omega) (by omega)
          (.inr ⟨s, rfl, by omega, hc2, by rw [show (((i + 1 : Nat) : Int) - 1) = (i : Int) by omega]⟩)
        have hlen : (base ++ [(⟨(rd_T41 l (s : Int)).f0, (rd_T41 l ((i : Int) - 1)).f0 + 1⟩ : S57)]).length = base.length + 1 := by simp
        have hlast : wrap64 (((base ++ [(⟨(rd_T41 l (s : Int)).f0, (rd_T41 l ((i : Int) - 1)).f0 + 1⟩ : S57)]).length : Int) - 1) = (base.length : Int) := by rw [hlen, wrap_id _ (by omega) (by omega)]; omega
        refine ih.step (fun k => ?_)
        rw [tipstaffref43_spells.l0, if_pos (by omega), if_pos (by omega), hon, Option.bind_some, if_pos rfl, if_pos (by omega), wrap_id ((i : Int) - 1) (by omega) (by omega), if_pos (by omega), if_pos (by omega), hp, Option.bind_some, if_pos rfl, hlast, if_pos (by omega), if_pos (by rw [hlen]; omega), hw1]
        congr 1
        have hrd : rd_T57 (base ++ [(⟨(rd_T41 l (s : Int)).f0, (rd_T41 l ((i : Int) - 1)).f0 + 1⟩ : S57)]) (base.length : Int) = ⟨(rd_T41 l (s : Int)).f0, (rd_T41 l ((i : Int) - 1)).f0 + 1⟩ := by unfold rd_T57; simp
        rw [hrd, Int.toNat_natCast, List.set_append_right _ _ (Nat.le_refl _), Nat.sub_self, List.set_cons_zero]
        dsimp only
        rw [wrap_id _ (by omega) (by omega), ti1, ti]
        congr 3
        omega

/-- The spells of a light. -/
def spl (l : List S41) (f : Int) (up : Bool) : List (S57 × Bool) := spF l f up l.length 0 (-1)
theorem rspells_ev {l : List S41} (ok : OkL l) (f : Int) (up : Bool) (h0 : 0 ≤ f) (h1 : f ≤ 63) : Ev (fun k => tipstaffref43_spells.f k l f up) ((spl l f up).map (·.1)) := by
  have h := rsp_ev ok f up h0 h1 l.length 0 (-1) [] [] (by omega) (by omega) (by simp) (.inl ⟨rfl, fun h => absurd h (by omega), rfl⟩)
  exact h

end Go.Proofs.YtenlokaaloenmaaDoor.Pure
