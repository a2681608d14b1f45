/- Visits to a floor: no more than views with open doors. -/
import Derived.Test.YtenlokaaloenmaaDoorRp3
import Derived.Test.YtenlokaaloenmaaDoorRp4
import Derived.Test.YtenlokaaloenmaaDoorS7
namespace Go.Proofs.YtenlokaaloenmaaDoor.Pure
open Go.RowKit Go.Proofs.YtenlokaaloenmaaDoor.S Go.Proofs.YtenlokaaloenmaaDoorW.PrintWords Go.Proofs.YtenlokaaloenmaaDoorW.PrintLast Go.Proofs.YtenlokaaloenmaaDoorW.PrintMore
set_option linter.unusedVariables false
set_option linter.unusedSimpArgs false
set_option linter.unusedVariables false

theorem visL_law {l : List S41} {c : Nat} {t0 : Int} (h : Md l c t0) (x f : Int) (hx1 : 1 ≤ x) (hx2 : x ≤ c) (hf : 0 ≤ f) : ∀ (d i : Nat) (was : Bool) (n o : Nat), d = l.length - i → i ≤ l.length → n ≤ o → o ≤ i → (was = true → 0 < n) → (0 < o → 0 < n) →
    Ev (fun k => tipstafflaw43_ReportVisits.l0 k x f true l (visF l x f 2 d i was n : Nat) 0 (o : Int) (i : Int)) true := by
  have hc3 := h.c3
  have hlen := h.len
  have hwc : wrap64 (x - 1) = x - 1 := wrap_id _ (by omega) (by omega)
  have hwx : ∀ _ : Unit, wrap64 (x - 1) = x - 1 := fun _ => hwc
  clear hwc
  intro d
  induction d with
  | zero =>
    intro i was n o hd hi hno hoi hwn hon
    rw [visF]
    have hil : ¬ ((i : Int) < (l.length : Int)) := by omega
    have hle : (n : Int) ≤ (o : Int) := by omega
    have hdd : ((decide ((n : Int) > 0)) == (decide ((o : Int) > 0))) = true := by
      by_cases h0 : 0 < o
      · have := hon h0
        rw [decide_eq_true (show (n : Int) > 0 by omega), decide_eq_true (show (o : Int) > 0 by omega)]; rfl
      · rw [decide_eq_false (show ¬ (n : Int) > 0 by omega), decide_eq_false (show ¬ (o : Int) > 0 by omega)]; rfl
    exact Ev.step (Ev.const true) (fun k => by rw [tipstafflaw43_ReportVisits.l0, if_neg hil, if_pos rfl, if_pos rfl, if_pos hle, hdd])
  | succ d IH =>
    intro i was n o hd hi hno hoi hwn hon
    have hil : (i : Int) < (l.length : Int) := by omega
    have hi0 : (0 : Int) ≤ (i : Int) := by omega
    have hd1 : d = l.length - (i + 1) := by omega
    have hi1 : i + 1 ≤ l.length := by omega
    have m := (h.v _ (memV l i hi1)).n
    have b0 : 0 ≤ x - 1 := by omega
    have b1 : x - 1 < (((rd_T41 l (i : Int)).f2).length : Int) := by omega
    have hw1 : ∀ _ : Unit, wrap64 ((i : Int) + 1) = ((i + 1 : Nat) : Int) := fun _ => wrap_succ i (by omega)
    have hwo : ∀ _ : Unit, wrap64 ((o : Int) + 1) = ((o + 1 : Nat) : Int) := fun _ => wrap_succ o (by omega)
    obtain ⟨s, hs⟩ : ∃ s, rd_T43 (rd_T41 l (i : Int)).f2 (x - 1) = s := ⟨_, rfl⟩
    have e : isO l x f 2 i = (if s.f0 ≥ 0 ∧ s.f1 = 2 then s.f0 == f else false) := by unfold isO; rw [hs]
    rw [visF]
    by_cases h1 : s.f0 = f ∧ s.f1 = 2
    · have e1 : isO l x f 2 i = true := by rw [e, if_pos ⟨by omega, h1.2⟩]; simpa using h1.1
      rw [e1]
      obtain ⟨n', hn'⟩ : ∃ n', (if true = true ∧ was = false then n + 1 else n) = n' := ⟨_, rfl⟩
      rw [hn']
      have hn1 : n' ≤ o + 1 ∧ 0 < n' := by
        cases was with
        | true => rw [if_neg (by decide)] at hn'; have := hwn rfl; omega
        | false => rw [if_pos (by decide)] at hn'; omega
      refine (IH (i + 1) true n' (o + 1) hd1 hi1 hn1.1 (Nat.succ_le_succ hoi) (fun _ => hn1.2) (fun _ => hn1.2)).step (fun k => ?_)
      rw [tipstafflaw43_ReportVisits.l0, if_pos hil, if_pos hi0, hwx (), if_pos b0, if_pos b1, hs, if_pos h1.1, if_pos h1.2, hw1 (), hwo ()]
    · have e1 : isO l x f 2 i = false := by
        rw [e]
        by_cases h2 : s.f0 ≥ 0 ∧ s.f1 = 2
        · rw [if_pos h2]
          have : ¬ s.f0 = f := fun h3 => h1 ⟨h3, h2.2⟩
          simpa using this
        · rw [if_neg h2]
      rw [e1, if_neg (show ¬ (false = true ∧ was = false) from fun h => by cases h.1)]
      refine (IH (i + 1) false n o hd1 hi1 hno (Nat.le_succ_of_le hoi) (fun h => by cases h) hon).step (fun k => ?_)
      rw [tipstafflaw43_ReportVisits.l0, if_pos hil, if_pos hi0, hwx (), if_pos b0, if_pos b1, hs]
      by_cases h3 : s.f0 = f
      · rw [if_pos h3, if_neg (fun h4 => h1 ⟨h3, h4⟩), hw1 ()]
      · rw [if_neg h3, hw1 ()]

def lawRest (x f : Int) (l : List S41) (b : Int × Int) (k : Nat) : Option Bool :=
  if (l.length : Int) = 0 then (tipstafflaw43_ReportVisits.j0 k x f true l b.1 b.2 true) else (if 0 < (l.length : Int) then (tipstafflaw43_ReportVisits.j0 k x f true l b.1 b.2 (decide (x > (((rd_T41 l 0).f2).length : Int)))) else (none))

theorem law_rest {l : List S41} {c : Nat} {t0 : Int} (h : Md l c t0) (x f : Int) (hx1 : 1 ≤ x) (hx2 : x ≤ 3) (hf : 0 ≤ f) (hf2 : f ≤ 2) : Ev (fun k => (report_Visits.f k l x f 2).bind fun b => lawRest x f l b k) true := by
  refine Ev.bind (f := fun b k => lawRest x f l b k) (visits_ev l h.wv x f 2) ?_
  have hc : (chk l).1 = 0 := by rw [h.chk]
  have bad : ∀ a e : Int, e = 2 → Ev (fun k => tipstafflaw43_ReportVisits.j0 k x f true l a e true) true := fun a e he => Ev.step (Ev.const true) (fun k => by rw [tipstafflaw43_ReportVisits.j0, if_pos rfl, if_pos rfl, he]; rfl)
  unfold visV
  rw [if_pos hc]
  by_cases hb : visBad l x f 2
  · rw [if_pos hb]
    refine Ev.congr (bad 0 2 rfl) (fun k => ?_)
    rw [lawRest]
    unfold visBad at hb
    by_cases h0 : (l.length : Int) = 0
    · rw [if_pos h0]
    · rw [if_neg h0, if_pos (by omega), decide_eq_true (by omega)]
  · rw [if_neg hb]
    unfold visBad at hb
    have h0 : ¬ ((l.length : Int) = 0) := by omega
    have m0 := (h.v _ (memV l 0 (by omega))).n
    have m1 : (rd_T41 l 0).f2.length = c := m0
    have hxc : x ≤ c := by omega
    have hl : 0 < (l.length : Int) := by omega
    have hd : ¬ (x > (((rd_T41 l 0).f2).length : Int)) := by omega
    have g := visL_law h x f hx1 hxc hf l.length 0 false 0 0 rfl (Nat.zero_le _) (Nat.le_refl _) (Nat.le_refl _) (fun h => by cases h) (fun h => h)
    refine Ev.congr (g.step (g := fun k => tipstafflaw43_ReportVisits.j0 k x f true l (visF l x f 2 l.length 0 false 0 : Nat) 0 false) (fun k => by rw [tipstafflaw43_ReportVisits.j0, if_neg (show ¬ (false = true) by decide)]; rfl)) (fun k => ?_)
    rw [lawRest, if_neg h0, if_pos hl, decide_eq_false hd]

theorem ReportVisits : tipstafflaw43_ReportVisits.Pure := by
  intro a0 a1 l2 a3 a4 w0 w1 _ _ w2 w3 w4
  have i3 := i64_of w3
  have i4 := i64_of w4
  obtain ⟨l, c, t0, h, he⟩ := made_ev a0 a1 l2 (i64_of w0) (i64_of w1) (fun z hz => i64_of (w2 z hz))
  obtain ⟨u, hu, u0, u1⟩ := mod_val a3 3 i3 (by decide) (by decide)
  obtain ⟨f, hf, f0, f1⟩ := mod_val a4 3 i4 (by decide) (by decide)
  have hw : ∀ _ : Unit, wrap64 (1 + u) = 1 + u := fun _ => wrap_id _ (by omega) (by omega)
  have g := Ev.bind (f := fun l k => (report_Visits.f k l (1 + u) f 2).bind fun b => lawRest (1 + u) f l b k) he (law_rest h (1 + u) f (by omega) (by omega) f0 (by omega))
  refine (Ev.congr (g := fun k => tipstafflaw43_ReportVisits.f k a0 a1 l2 a3 a4) g (fun k => ?_)).get
  rw [tipstafflaw43_ReportVisits.f, hu, hf, tipstafflaw43_ReportKnown.f]
  simp only [Option.bind_some, hw ()]
  rfl

end Go.Proofs.YtenlokaaloenmaaDoor.Pure
