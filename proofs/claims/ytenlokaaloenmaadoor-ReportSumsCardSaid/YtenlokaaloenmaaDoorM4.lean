/- Joined: From some round on, the answer is known. Valid runs: the answer of the program's Check. Valid runs: the reference's Check has the program's answer. -/
import Derived.Test.YtenlokaaloenmaaDoorM2
import Derived.Test.YtenlokaaloenmaaDoorS4
import Derived.Test.YtenlokaaloenmaaDoorM3

section
set_option linter.unusedVariables false
set_option linter.unusedSimpArgs false
namespace Go.Proofs.YtenlokaaloenmaaDoor.Pure
open Go.RowKit Go.Proofs.YtenlokaaloenmaaDoorW.PrintWords Go.Proofs.YtenlokaaloenmaaDoorW.PrintLast
set_option linter.unusedVariables false
set_option linter.unusedSimpArgs false

/-- From some round on, the answer is v. -/
def Ev {α : Type} (g : Nat → Option α) (v : α) : Prop := ∃ K, ∀ k, K ≤ k → g k = some v
theorem Ev.step {α : Type} {g : Nat → Option α} {v : α} {g' : Nat → Option α} (h : Ev g' v) (e : ∀ k, g (k + 1) = g' k) : Ev g v := by
  obtain ⟨K, h⟩ := h
  exact ⟨K + 1, fun k hk => by obtain ⟨m, rfl, hm⟩ := succ_of (show K < k by omega); rw [e, h m hm]⟩
theorem Ev.const {α : Type} (v : α) : Ev (fun _ => some v) v := ⟨0, fun _ _ => rfl⟩
theorem Ev.of_eq {α : Type} {x : Option α} {v : α} (h : x = some v) : Ev (fun _ => x) v := ⟨0, fun _ _ => h⟩
theorem Ev.congr {α : Type} {g g' : Nat → Option α} {v : α} (h : Ev g' v) (e : ∀ k, g k = g' k) : Ev g v := by
  obtain ⟨K, h⟩ := h; exact ⟨K, fun k hk => by rw [e, h k hk]⟩
theorem Ev.val {α : Type} {g : Nat → Option α} {v u : α} (h : Ev g v) (e : v = u) : Ev g u := e ▸ h
theorem Ev.bind {α β : Type} {g : Nat → Option α} {v : α} {f : α → Nat → Option β} {u : β} (h : Ev g v) (h' : Ev (f v) u) : Ev (fun k => (g k).bind fun x => f x k) u := by
  obtain ⟨K, h⟩ := h; obtain ⟨K', h'⟩ := h'
  exact ⟨K + K', fun k hk => by show (g k).bind _ = _; rw [h k (by omega), Option.bind_some, h' k (by omega)]⟩
theorem Ev.get {α : Type} {g : Nat → Option α} {v : α} (h : Ev g v) : ∃ k, g k = some v := by
  obtain ⟨K, h⟩ := h; exact ⟨K, h K (Nat.le_refl _)⟩
theorem Ev.mono_at {α : Type} {g : Nat → Option α} {v : α} (k0 : Nat) (h : g k0 = some v) (hm : ∀ k, LeO (g k) (g (k + 1))) : Ev g v := by
  refine ⟨k0, fun k hk => ?_⟩
  obtain ⟨d, rfl⟩ : ∃ d, k = k0 + d := ⟨k - k0, by omega⟩
  clear hk
  induction d with
  | zero => exact h
  | succ d ih => exact hm _ _ ih
end Go.Proofs.YtenlokaaloenmaaDoor.Pure

namespace Go.Proofs.YtenlokaaloenmaaDoor.Pure
open Go.RowKit Go.Proofs.YtenlokaaloenmaaDoor.S Go.Proofs.YtenlokaaloenmaaDoorW.PrintWords Go.Proofs.YtenlokaaloenmaaDoorW.PrintLast
set_option linter.unusedVariables false

theorem dropV (l : List S41) (i : Nat) (h : i < l.length) : l.drop i = rd_T41 l (i : Int) :: l.drop (i + 1) := by unfold rd_T41; simp [h]
theorem dropS (l : List S43) (i : Nat) (h : i < l.length) : l.drop i = rd_T43 l (i : Int) :: l.drop (i + 1) := by unfold rd_T43; simp [h]
theorem dropR (l : List S66) (i : Nat) (h : i < l.length) : l.drop i = rd_T66 l (i : Int) :: l.drop (i + 1) := by unfold rd_T66; simp [h]
theorem memR (l : List S66) (i : Nat) (h : i < l.length) : rd_T66 l (i : Int) ∈ l := by unfold rd_T66; simp [h]
theorem memV (l : List S41) (i : Nat) (h : i < l.length) : rd_T41 l (i : Int) ∈ l := by unfold rd_T41; simp [h]

/-- A view as it comes: Go's ints, lists no longer than a slice can be. -/
def WV (v : S41) : Prop := I64 v.f0 ∧ v.f1.length ≤ 9223372036854775807 ∧ v.f2.length ≤ 9223372036854775807 ∧ (0 ≤ v.f3 ∧ v.f3 < 18446744073709551616) ∧ (0 ≤ v.f4 ∧ v.f4 < 18446744073709551616)

def sgB (s : S43) : Bool := decide (-1 ≤ s.f0 ∧ s.f0 ≤ 63 ∧ 0 ≤ s.f1 ∧ s.f1 ≤ 20)
def sgA : List S43 → Bool
  | [] => true
  | s :: l => if sgB s = true then sgA l else false
def repE : List S66 → Int
  | [] => 0
  | x :: l => if x.f0 < 0 ∨ 23 < x.f0 then 2 else if x.f1 < 1 ∨ 6 < x.f1 then 11 else repE l
def viewE (v : S41) (m : Nat) : Int :=
  if v.f2.length = m ∧ m ≤ 8 then (if repE v.f1 = 0 then (if sgA v.f2 = true ∧ -1 ≤ v.f5 ∧ v.f5 ≤ 255 then 0 else 2) else repE v.f1) else 3
def tickE (l : List S41) (i : Nat) : Int :=
  if i = 0 then (if 0 ≤ (rd_T41 l 0).f0 ∧ (rd_T41 l 0).f0 ≤ 1099511627776 then 0 else 2)
  else if (rd_T41 l (i : Int)).f0 = wrap64 ((rd_T41 l ((i : Int) - 1)).f0 + 1) then 0 else 8
def chkL (l : List S41) : Nat → Nat → Int × Int
  | 0, _ => (0, 0)
  | d + 1, i => if tickE l i = 0 then (if viewE (rd_T41 l (i : Int)) (rd_T41 l 0).f2.length = 0 then chkL l d (i + 1) else (viewE (rd_T41 l (i : Int)) (rd_T41 l 0).f2.length, (i : Int))) else (tickE l i, (i : Int))
def chk (l : List S41) : Int × Int := if 20000 < l.length then (4, 0) else chkL l l.length 0

theorem sights_ev (l : List S43) (hl : l.length ≤ 9223372036854775807) : ∀ (d j : Nat), d = l.length - j → j ≤ l.length → Ev (fun k => report_sights.l0 k l (l.length : Int) (j : Int)) (sgA (l.drop j))
  | 0, j, hd, hj => by
    obtain rfl : j = l.length := by omega
    rw [List.drop_length]
    exact Ev.step (Ev.const true) (fun k => by rw [report_sights.l0, if_neg (by omega)])
  | d + 1, j, hd, hj => by
    have ih := sights_ev l hl d (j + 1) (by omega) (by omega)
    rw [dropS l j (by omega), sgA]
    cases hs : sgB (rd_T43 l (j : Int)) with
    | true =>
      have h := of_decide_eq_true hs
      rw [if_pos rfl]
      exact ih.step (fun k => by rw [report_sights.l0, if_pos (by omega), if_pos (by omega), if_pos (by omega), if_neg (by omega), if_neg (by omega), if_neg (by omega), if_neg (by omega), wrap_succ j (by omega)])
    | false =>
      have h := of_decide_eq_false hs
      rw [if_neg (by decide)]
      refine Ev.step (Ev.const false) (fun k => ?_)
      rw [report_sights.l0, if_pos (by omega), if_pos (by omega), if_pos (by omega)]
      by_cases h1 : (rd_T43 l (j : Int)).f0 < -1
      · rw [if_pos h1]
      rw [if_neg h1]
      by_cases h2 : (rd_T43 l (j : Int)).f0 ≥ 64
      · rw [if_pos h2]
      rw [if_neg h2]
      by_cases h3 : (rd_T43 l (j : Int)).f1 < 0
      · rw [if_pos h3]
      rw [if_neg h3, if_pos (by omega)]

theorem replies_ev (v : S41) (hl : v.f1.length ≤ 9223372036854775807) (hs : v.f2.length ≤ 9223372036854775807) : ∀ (d j : Nat), d = v.f1.length - j → j ≤ v.f1.length →
    Ev (fun k => report_view.l0 k v.f1 (v.f1.length : Int) (j : Int) v.f0 v.f1 v.f2 v.f3 v.f4 v.f5) (if repE (v.f1.drop j) = 0 then (if sgA v.f2 = true ∧ -1 ≤ v.f5 ∧ v.f5 ≤ 255 then 0 else 2) else repE (v.f1.drop j))
  | 0, j, hd, hj => by
    obtain rfl : j = v.f1.length := by omega
    rw [List.drop_length, repE, if_pos rfl]
    have h0 := (sights_ev v.f2 hs _ 0 rfl (by omega)).bind (f := fun t k => if t = true then (if v.f5 < (-1) then (some 2) else (if v.f5 > 255 then (some 2) else (some 0))) else (some (2 : Int))) (u := if sgA v.f2 = true ∧ -1 ≤ v.f5 ∧ v.f5 ≤ 255 then 0 else 2) (by
      rw [List.drop_zero]
      refine Ev.of_eq ?_
      by_cases h1 : sgA v.f2 = true
      · rw [if_pos h1]
        by_cases h2 : v.f5 < -1
        · rw [if_pos h2, if_neg (by omega)]
        · rw [if_neg h2]
          by_cases h3 : v.f5 > 255
          · rw [if_pos h3, if_neg (by omega)]
          · rw [if_neg h3, if_pos ⟨h1, by omega, by omega⟩]
      · rw [if_neg h1, if_neg (fun h => h1 h.1)])
    exact h0.step (fun k => by rw [report_view.l0, if_neg (by omega)]; rfl)
  | d + 1, j, hd, hj => by
    have ih := replies_ev v hl hs d (j + 1) (by omega) (by omega)
    rw [dropR v.f1 j (by omega), repE]
    obtain ⟨q, hq⟩ : ∃ q, rd_T66 v.f1 (j : Int) = q := ⟨_, rfl⟩
    rw [hq]
    have st : ∀ (b : Bool) (u : Int), Ev (fun k => report_view.j2 k v.f1 (v.f1.length : Int) (j : Int) b v.f0 v.f1 v.f2 v.f3 v.f4 v.f5 q.f0 q.f1) u → b = decide (q.f0 < 0 ∨ 23 < q.f0) → Ev (fun k => report_view.l0 k v.f1 (v.f1.length : Int) (j : Int) v.f0 v.f1 v.f2 v.f3 v.f4 v.f5) u := by
      intro b u h hb
      refine h.step (fun k => ?_)
      rw [report_view.l0, if_pos (by omega), if_pos (by omega), if_pos (by omega), hq]
      by_cases h1 : q.f0 < 0
      · rw [if_pos h1, hb, decide_eq_true (Or.inl h1)]
      · rw [if_neg h1, hb]
        congr 1
        rw [decide_eq_decide]
        omega
    by_cases h1 : q.f0 < 0 ∨ 23 < q.f0
    · rw [if_pos h1, if_neg (by decide)]
      exact st true 2 (Ev.step (Ev.const 2) (fun k => by rw [report_view.j2, if_pos rfl])) (decide_eq_true h1).symm
    · rw [if_neg h1]
      refine st false _ ?_ (decide_eq_false h1).symm
      by_cases h2 : q.f1 < 1 ∨ 6 < q.f1
      · rw [if_pos h2, if_neg (by decide)]
        refine Ev.step (Ev.const 11) (fun k => ?_)
        rw [report_view.j2, if_neg (by decide)]
        by_cases h3 : q.f1 < 1
        · rw [if_pos h3]
        · rw [if_neg h3, if_pos (by omega)]
      · rw [if_neg h2]
        exact ih.step (fun k => by rw [report_view.j2, if_neg (by decide), if_neg (by omega), if_neg (by omega), wrap_succ j (by omega)])

theorem view_ev (v : S41) (m : Nat) (hl : v.f1.length ≤ 9223372036854775807) (hs : v.f2.length ≤ 9223372036854775807) : Ev (fun k => report_view.f k v.f0 v.f1 v.f2 v.f3 v.f4 v.f5 (m : Int)) (viewE v m) := by
  have h3 : ∀ b : Bool, b = true → Ev (fun k => report_view.j0 k b v.f0 v.f1 v.f2 v.f3 v.f4 v.f5) 3 := fun b hb => Ev.step (Ev.const 3) (fun k => by rw [report_view.j0, if_pos hb])
  unfold viewE
  by_cases h1 : v.f2.length = m
  · by_cases h2 : m ≤ 8
    · rw [if_pos ⟨h1, h2⟩]
      have h := replies_ev v hl hs _ 0 rfl (by omega)
      rw [List.drop_zero] at h
      refine Ev.congr (Ev.step (g := fun k => report_view.j0 k false v.f0 v.f1 v.f2 v.f3 v.f4 v.f5) h (fun k => by rw [report_view.j0, if_neg (by decide)]; rfl)) (fun k => ?_)
      rw [report_view.f, if_pos (by omega), decide_eq_false (by omega)]
    · rw [if_neg (fun h => h2 h.2)]
      refine Ev.congr (h3 true rfl) (fun k => ?_)
      rw [report_view.f, if_pos (by omega), decide_eq_true (by omega)]
  · rw [if_neg (fun h => h1 h.1)]
    refine Ev.congr (h3 true rfl) (fun k => ?_)
    rw [report_view.f, if_neg (by omega)]

theorem checkL_ev (l : List S41) (hw : ∀ v ∈ l, WV v) (hl : l.length ≤ 20000) : ∀ (d j : Nat), d = l.length - j → j ≤ l.length → Ev (fun k => report_Check.l0 k l l (l.length : Int) (j : Int)) (chkL l d j)
  | 0, j, hd, hj => Ev.step (Ev.const (0, 0)) (fun k => by rw [report_Check.l0, if_neg (by omega)])
  | d + 1, j, hd, hj => by
    have ih := checkL_ev l hw hl d (j + 1) (by omega) (by omega)
    obtain ⟨p, hp⟩ : ∃ p, rd_T41 l (j : Int) = p := ⟨_, rfl⟩
    have hpw : WV p := by rw [← hp]; exact hw _ (memV l j (by omega))
    rw [chkL, hp]
    have hv : Ev (fun k => report_Check.j2 k l (j : Int) l (l.length : Int) (j : Int) false p.f0 p.f1 p.f2 p.f3 p.f4 p.f5) (if viewE p (rd_T41 l 0).f2.length = 0 then chkL l d (j + 1) else (viewE p (rd_T41 l 0).f2.length, (j : Int))) := by
      have h := (view_ev p (rd_T41 l 0).f2.length hpw.2.1 hpw.2.2.1).bind (f := fun t k => if t = 0 then report_Check.l0 k l l (l.length : Int) ((j + 1 : Nat) : Int) else some (t, (j : Int))) (u := if viewE p (rd_T41 l 0).f2.length = 0 then chkL l d (j + 1) else (viewE p (rd_T41 l 0).f2.length, (j : Int))) (by
        by_cases h0 : viewE p (rd_T41 l 0).f2.length = 0
        · rw [if_pos h0]; exact ih.congr (fun k => if_pos h0)
        · rw [if_neg h0]; exact (Ev.const _).congr (fun k => if_neg h0))
      exact h.step (fun k => by rw [report_Check.j2, if_neg (by decide), if_pos (by omega), wrap_succ j (by omega)])
    have hv8 : Ev (fun k => report_Check.j2 k l (j : Int) l (l.length : Int) (j : Int) true p.f0 p.f1 p.f2 p.f3 p.f4 p.f5) (8, (j : Int)) := Ev.step (Ev.const _) (fun k => by rw [report_Check.j2, if_pos rfl])
    have st : ∀ (b : Bool) u, Ev (fun k => report_Check.j1 k l (j : Int) l (l.length : Int) (j : Int) b p.f0 p.f1 p.f2 p.f3 p.f4 p.f5) u → b = (if j = 0 then !decide (0 ≤ p.f0 ∧ p.f0 ≤ 1099511627776) else false) → Ev (fun k => report_Check.l0 k l l (l.length : Int) (j : Int)) u := by
      intro b u h hb
      refine h.step (fun k => ?_)
      rw [report_Check.l0, if_pos (by omega), if_pos (by omega), if_pos (by omega), hp]
      by_cases h0 : j = 0
      · rw [if_pos (show (j : Int) = 0 by omega), hb, if_pos h0]
        by_cases h1 : p.f0 < 0
        · rw [if_pos h1, decide_eq_false (by omega)]; rfl
        · rw [if_neg h1]
          by_cases h2 : p.f0 > 1099511627776
          · rw [decide_eq_true h2, decide_eq_false (by omega)]; rfl
          · rw [decide_eq_false h2, decide_eq_true (by omega)]; rfl
      · rw [if_neg (show ¬ (j : Int) = 0 by omega), hb, if_neg h0]
    unfold tickE
    by_cases h0 : j = 0
    · subst h0
      rw [if_pos rfl, show rd_T41 l 0 = p from hp]
      by_cases h1 : 0 ≤ p.f0 ∧ p.f0 ≤ 1099511627776
      · rw [if_pos h1, if_pos rfl]
        refine st false _ ?_ (by rw [if_pos rfl, decide_eq_true h1]; rfl)
        rw [show rd_T41 l 0 = p from hp] at hv
        exact hv.step (fun k => by rw [report_Check.j1, if_neg (by decide), if_neg (by omega)])
      · rw [if_neg h1, if_neg (by decide)]
        refine st true _ ?_ (by rw [if_pos rfl, decide_eq_false h1]; rfl)
        exact Ev.step (Ev.const _) (fun k => by rw [report_Check.j1, if_pos rfl])
    · rw [if_neg h0, hp]
      refine st false _ ?_ (by rw [if_neg h0])
      have hs : wrap64 ((j : Int) - 1) = (j : Int) - 1 := wrap_id _ (by omega) (by omega)
      by_cases h1 : p.f0 = wrap64 ((rd_T41 l ((j : Int) - 1)).f0 + 1)
      · rw [if_pos h1, if_pos rfl]
        exact hv.step (fun k => by rw [report_Check.j1, if_neg (by decide), if_pos (by omega), hs, if_pos (by omega), if_pos (by omega), show (p.f0 != wrap64 ((rd_T41 l ((j : Int) - 1)).f0 + 1)) = false by rw [bne_eq_false_iff_eq]; exact h1])
      · rw [if_neg h1, if_neg (by decide)]
        exact hv8.step (fun k => by rw [report_Check.j1, if_neg (by decide), if_pos (by omega), hs, if_pos (by omega), if_pos (by omega), show (p.f0 != wrap64 ((rd_T41 l ((j : Int) - 1)).f0 + 1)) = true by rw [bne_iff_ne]; exact h1])

theorem check_ev (l : List S41) (hw : ∀ v ∈ l, WV v) : Ev (fun k => report_Check.f k l) (chk l) := by
  unfold chk
  by_cases h : 20000 < l.length
  · rw [if_pos h]; exact Ev.congr (Ev.const (4, 0)) (fun k => by rw [report_Check.f, if_pos (by omega)])
  · rw [if_neg h]; exact Ev.congr (checkL_ev l hw (by omega) _ 0 rfl (by omega)) (fun k => by rw [report_Check.f, if_neg (by omega)]; rfl)

theorem Ev.eq {α : Type} {g : Nat → Option α} {u v : α} (h : Ev g u) (h' : Ev g v) : u = v := by
  obtain ⟨K, h⟩ := h
  obtain ⟨K', h'⟩ := h'
  have a := h (K + K') (by omega)
  rw [h' (K + K') (by omega)] at a
  exact (Option.some.inj a).symm
theorem check_chk {k : Nat} {l : List S41} (hw : ∀ v ∈ l, WV v) {e : Int × Int} (h : report_Check.f k l = some e) : e = chk l := Ev.eq (Ev.mono_at k h (fun k => report_Check.mono l k)) (check_ev l hw)
theorem chkL_ok (l : List S41) (x : Int) : ∀ (d i : Nat), chkL l d i = (0, x) → ∀ j, i ≤ j → j < i + d → tickE l j = 0 ∧ viewE (rd_T41 l (j : Int)) (rd_T41 l 0).f2.length = 0
  | 0, i, _, j, h1, h2 => by omega
  | d + 1, i, h, j, h1, h2 => by
    rw [chkL] at h
    by_cases h3 : tickE l i = 0
    · rw [if_pos h3] at h
      by_cases h4 : viewE (rd_T41 l (i : Int)) (rd_T41 l 0).f2.length = 0
      · rw [if_pos h4] at h
        by_cases h5 : j = i
        · subst h5; exact ⟨h3, h4⟩
        · exact chkL_ok l x d (i + 1) h j (by omega) (by omega)
      · rw [if_neg h4] at h; exact (h4 (Prod.mk.inj h).1).elim
    · rw [if_neg h3] at h; exact (h3 (Prod.mk.inj h).1).elim
theorem repE_ok : ∀ (l : List S66), repE l = 0 → ∀ r ∈ l, (0 ≤ r.f0 ∧ r.f0 ≤ 23) ∧ 1 ≤ r.f1 ∧ r.f1 ≤ 6
  | [], _, r, hr => by cases hr
  | x :: l, h, r, hr => by
    rw [repE] at h
    by_cases h1 : x.f0 < 0 ∨ 23 < x.f0
    · rw [if_pos h1] at h; cases h
    rw [if_neg h1] at h
    by_cases h2 : x.f1 < 1 ∨ 6 < x.f1
    · rw [if_pos h2] at h; cases h
    rw [if_neg h2] at h
    rcases List.mem_cons.1 hr with rfl | hr
    · omega
    · exact repE_ok l h r hr
theorem sgA_ok : ∀ (l : List S43), sgA l = true → ∀ s ∈ l, -1 ≤ s.f0 ∧ s.f0 ≤ 63 ∧ 0 ≤ s.f1 ∧ s.f1 ≤ 20
  | [], _, s, hs => by cases hs
  | x :: l, h, s, hs => by
    rw [sgA] at h
    by_cases h1 : sgB x = true
    · rw [if_pos h1] at h
      rcases List.mem_cons.1 hs with rfl | hs
      · exact of_decide_eq_true h1
      · exact sgA_ok l h s hs
    · rw [if_neg h1] at h; cases h
/-- A valid view, of m cars. -/
structure OkV (v : S41) (m : Nat) : Prop where
  n : v.f2.length = m
  m8 : m ≤ 8
  r : ∀ r ∈ v.f1, (0 ≤ r.f0 ∧ r.f0 ≤ 23) ∧ 1 ≤ r.f1 ∧ r.f1 ≤ 6
  s : ∀ s ∈ v.f2, -1 ≤ s.f0 ∧ s.f0 ≤ 63 ∧ 0 ≤ s.f1 ∧ s.f1 ≤ 20
  w : -1 ≤ v.f5 ∧ v.f5 ≤ 255
theorem viewE_ok {v : S41} {m : Nat} (h : viewE v m = 0) : OkV v m := by
  unfold viewE at h
  by_cases h1 : v.f2.length = m ∧ m ≤ 8
  · rw [if_pos h1] at h
    by_cases h2 : repE v.f1 = 0
    · rw [if_pos h2] at h
      by_cases h3 : sgA v.f2 = true ∧ -1 ≤ v.f5 ∧ v.f5 ≤ 255
      · exact ⟨h1.1, h1.2, repE_ok _ h2, sgA_ok _ h3.1, h3.2⟩
      · rw [if_neg h3] at h; cases h
    · rw [if_neg h2] at h; exact (h2 h).elim
  · rw [if_neg h1] at h; cases h
/-- A valid run. -/
structure OkL (l : List S41) : Prop where
  len : l.length ≤ 20000
  t : ∀ j, j < l.length → tickE l j = 0
  v : ∀ v ∈ l, OkV v (rd_T41 l 0).f2.length
theorem chk_ok {l : List S41} {x : Int} (h : chk l = (0, x)) : OkL l := by
  unfold chk at h
  by_cases h1 : 20000 < l.length
  · rw [if_pos h1] at h; cases h
  · rw [if_neg h1] at h
    have h2 := chkL_ok l x _ 0 h
    refine ⟨by omega, fun j hj => (h2 j (by omega) (by omega)).1, fun v hv => ?_⟩
    obtain ⟨j, hj, rfl⟩ := List.getElem_of_mem hv
    have h3 := viewE_ok (h2 j (by omega) (by omega)).2
    rwa [show rd_T41 l (j : Int) = l[j] by unfold rd_T41; simp [hj]] at h3

end Go.Proofs.YtenlokaaloenmaaDoor.Pure
end

section
namespace Go.Proofs.YtenlokaaloenmaaDoor.Pure
open Go.RowKit Go.Proofs.YtenlokaaloenmaaDoor.S Go.Proofs.YtenlokaaloenmaaDoorW.PrintWords Go.Proofs.YtenlokaaloenmaaDoorW.PrintLast
set_option linter.unusedVariables false
set_option linter.unusedSimpArgs false
set_option linter.unusedVariables false

end Go.Proofs.YtenlokaaloenmaaDoor.Pure
end

section
namespace Go.Proofs.YtenlokaaloenmaaDoor.S
open Go.RowKit Go.Proofs.YtenlokaaloenmaaDoorW.PrintWords Go.Proofs.YtenlokaaloenmaaDoorW.PrintLast Go.Proofs.YtenlokaaloenmaaDoorW.PrintMore
attribute [local go_sem] Go.Proofs.YtenlokaaloenmaaDoorW.PrintXtra.isSome_setCell max2_int min2_int max_two min_two max_three min_three max_four min_four   -- for this text's walks alone
set_option linter.unusedVariables false
set_option linter.unusedSimpArgs false

/-! ### bits_OnesCount64: function 46 -/
def bits_OnesCount64.f (a0 : Int) : Option (Int) := some (Go.bits .and .i64 (wrap64 (IntKind.u64.wrap ((IntKind.u64.wrap ((IntKind.u64.wrap ((Go.bits .and .u64 (IntKind.u64.wrap (((IntKind.u64.wrap ((Go.bits .and .u64 ((IntKind.u64.wrap ((Go.bits .and .u64 (a0 / 2) 6148914691236517205) + (Go.bits .and .u64 a0 6148914691236517205))) / 4) 3689348814741910323) + (Go.bits .and .u64 (IntKind.u64.wrap ((Go.bits .and .u64 (a0 / 2) 6148914691236517205) + (Go.bits .and .u64 a0 6148914691236517205))) 3689348814741910323))) / 16) + (IntKind.u64.wrap ((Go.bits .and .u64 ((IntKind.u64.wrap ((Go.bits .and .u64 (a0 / 2) 6148914691236517205) + (Go.bits .and .u64 a0 6148914691236517205))) / 4) 3689348814741910323) + (Go.bits .and .u64 (IntKind.u64.wrap ((Go.bits .and .u64 (a0 / 2) 6148914691236517205) + (Go.bits .and .u64 a0 6148914691236517205))) 3689348814741910323))))) 1085102592571150095) + ((Go.bits .and .u64 (IntKind.u64.wrap (((IntKind.u64.wrap ((Go.bits .and .u64 ((IntKind.u64.wrap ((Go.bits .and .u64 (a0 / 2) 6148914691236517205) + (Go.bits .and .u64 a0 6148914691236517205))) / 4) 3689348814741910323) + (Go.bits .and .u64 (IntKind.u64.wrap ((Go.bits .and .u64 (a0 / 2) 6148914691236517205) + (Go.bits .and .u64 a0 6148914691236517205))) 3689348814741910323))) / 16) + (IntKind.u64.wrap ((Go.bits .and .u64 ((IntKind.u64.wrap ((Go.bits .and .u64 (a0 / 2) 6148914691236517205) + (Go.bits .and .u64 a0 6148914691236517205))) / 4) 3689348814741910323) + (Go.bits .and .u64 (IntKind.u64.wrap ((Go.bits .and .u64 (a0 / 2) 6148914691236517205) + (Go.bits .and .u64 a0 6148914691236517205))) 3689348814741910323))))) 1085102592571150095) / 256))) + ((IntKind.u64.wrap ((Go.bits .and .u64 (IntKind.u64.wrap (((IntKind.u64.wrap ((Go.bits .and .u64 ((IntKind.u64.wrap ((Go.bits .and .u64 (a0 / 2) 6148914691236517205) + (Go.bits .and .u64 a0 6148914691236517205))) / 4) 3689348814741910323) + (Go.bits .and .u64 (IntKind.u64.wrap ((Go.bits .and .u64 (a0 / 2) 6148914691236517205) + (Go.bits .and .u64 a0 6148914691236517205))) 3689348814741910323))) / 16) + (IntKind.u64.wrap ((Go.bits .and .u64 ((IntKind.u64.wrap ((Go.bits .and .u64 (a0 / 2) 6148914691236517205) + (Go.bits .and .u64 a0 6148914691236517205))) / 4) 3689348814741910323) + (Go.bits .and .u64 (IntKind.u64.wrap ((Go.bits .and .u64 (a0 / 2) 6148914691236517205) + (Go.bits .and .u64 a0 6148914691236517205))) 3689348814741910323))))) 1085102592571150095) + ((Go.bits .and .u64 (IntKind.u64.wrap (((IntKind.u64.wrap ((Go.bits .and .u64 ((IntKind.u64.wrap ((Go.bits .and .u64 (a0 / 2) 6148914691236517205) + (Go.bits .and .u64 a0 6148914691236517205))) / 4) 3689348814741910323) + (Go.bits .and .u64 (IntKind.u64.wrap ((Go.bits .and .u64 (a0 / 2) 6148914691236517205) + (Go.bits .and .u64 a0 6148914691236517205))) 3689348814741910323))) / 16) + (IntKind.u64.wrap ((Go.bits .and .u64 ((IntKind.u64.wrap ((Go.bits .and .u64 (a0 / 2) 6148914691236517205) + (Go.bits .and .u64 a0 6148914691236517205))) / 4) 3689348814741910323) + (Go.bits .and .u64 (IntKind.u64.wrap ((Go.bits .and .u64 (a0 / 2) 6148914691236517205) + (Go.bits .and .u64 a0 6148914691236517205))) 3689348814741910323))))) 1085102592571150095) / 256))) / 65536))) + ((IntKind.u64.wrap ((IntKind.u64.wrap ((Go.bits .and .u64 (IntKind.u64.wrap (((IntKind.u64.wrap ((Go.bits .and .u64 ((IntKind.u64.wrap ((Go.bits .and .u64 (a0 / 2) 6148914691236517205) + (Go.bits .and .u64 a0 6148914691236517205))) / 4) 3689348814741910323) + (Go.bits .and .u64 (IntKind.u64.wrap ((Go.bits .and .u64 (a0 / 2) 6148914691236517205) + (Go.bits .and .u64 a0 6148914691236517205))) 3689348814741910323))) / 16) + (IntKind.u64.wrap ((Go.bits .and .u64 ((IntKind.u64.wrap ((Go.bits .and .u64 (a0 / 2) 6148914691236517205) + (Go.bits .and .u64 a0 6148914691236517205))) / 4) 3689348814741910323) + (Go.bits .and .u64 (IntKind.u64.wrap ((Go.bits .and .u64 (a0 / 2) 6148914691236517205) + (Go.bits .and .u64 a0 6148914691236517205))) 3689348814741910323))))) 1085102592571150095) + ((Go.bits .and .u64 (IntKind.u64.wrap (((IntKind.u64.wrap ((Go.bits .and .u64 ((IntKind.u64.wrap ((Go.bits .and .u64 (a0 / 2) 6148914691236517205) + (Go.bits .and .u64 a0 6148914691236517205))) / 4) 3689348814741910323) + (Go.bits .and .u64 (IntKind.u64.wrap ((Go.bits .and .u64 (a0 / 2) 6148914691236517205) + (Go.bits .and .u64 a0 6148914691236517205))) 3689348814741910323))) / 16) + (IntKind.u64.wrap ((Go.bits .and .u64 ((IntKind.u64.wrap ((Go.bits .and .u64 (a0 / 2) 6148914691236517205) + (Go.bits .and .u64 a0 6148914691236517205))) / 4) 3689348814741910323) + (Go.bits .and .u64 (IntKind.u64.wrap ((Go.bits .and .u64 (a0 / 2) 6148914691236517205) + (Go.bits .and .u64 a0 6148914691236517205))) 3689348814741910323))))) 1085102592571150095) / 256))) + ((IntKind.u64.wrap ((Go.bits .and .u64 (IntKind.u64.wrap (((IntKind.u64.wrap ((Go.bits .and .u64 ((IntKind.u64.wrap ((Go.bits .and .u64 (a0 / 2) 6148914691236517205) + (Go.bits .and .u64 a0 6148914691236517205))) / 4) 3689348814741910323) + (Go.bits .and .u64 (IntKind.u64.wrap ((Go.bits .and .u64 (a0 / 2) 6148914691236517205) + (Go.bits .and .u64 a0 6148914691236517205))) 3689348814741910323))) / 16) + (IntKind.u64.wrap ((Go.bits .and .u64 ((IntKind.u64.wrap ((Go.bits .and .u64 (a0 / 2) 6148914691236517205) + (Go.bits .and .u64 a0 6148914691236517205))) / 4) 3689348814741910323) + (Go.bits .and .u64 (IntKind.u64.wrap ((Go.bits .and .u64 (a0 / 2) 6148914691236517205) + (Go.bits .and .u64 a0 6148914691236517205))) 3689348814741910323))))) 1085102592571150095) + ((Go.bits .and .u64 (IntKind.u64.wrap (((IntKind.u64.wrap ((Go.bits .and .u64 ((IntKind.u64.wrap ((Go.bits .and .u64 (a0 / 2) 6148914691236517205) + (Go.bits .and .u64 a0 6148914691236517205))) / 4) 3689348814741910323) + (Go.bits .and .u64 (IntKind.u64.wrap ((Go.bits .and .u64 (a0 / 2) 6148914691236517205) + (Go.bits .and .u64 a0 6148914691236517205))) 3689348814741910323))) / 16) + (IntKind.u64.wrap ((Go.bits .and .u64 ((IntKind.u64.wrap ((Go.bits .and .u64 (a0 / 2) 6148914691236517205) + (Go.bits .and .u64 a0 6148914691236517205))) / 4) 3689348814741910323) + (Go.bits .and .u64 (IntKind.u64.wrap ((Go.bits .and .u64 (a0 / 2) 6148914691236517205) + (Go.bits .and .u64 a0 6148914691236517205))) 3689348814741910323))))) 1085102592571150095) / 256))) / 65536))) / 4294967296)))) 127)
set_option maxHeartbeats 8000000 in
set_option maxRecDepth 100000 in
theorem bits_OnesCount64.calls (a0 : Int) (r : Int) (w : World) (h : bits_OnesCount64.f a0 = some r) :
    Calls Tryd.prog 46 #[.int .u64 a0] w fun e w' => e = .returned (.int .i64 r) ∧ Drawn0 w w' := by
  have H : (some (Go.bits .and .i64 (wrap64 (IntKind.u64.wrap ((IntKind.u64.wrap ((IntKind.u64.wrap ((Go.bits .and .u64 (IntKind.u64.wrap (((IntKind.u64.wrap ((Go.bits .and .u64 ((IntKind.u64.wrap ((Go.bits .and .u64 (a0 / 2) 6148914691236517205) + (Go.bits .and .u64 a0 6148914691236517205))) / 4) 3689348814741910323) + (Go.bits .and .u64 (IntKind.u64.wrap ((Go.bits .and .u64 (a0 / 2) 6148914691236517205) + (Go.bits .and .u64 a0 6148914691236517205))) 3689348814741910323))) / 16) + (IntKind.u64.wrap ((Go.bits .and .u64 ((IntKind.u64.wrap ((Go.bits .and .u64 (a0 / 2) 6148914691236517205) + (Go.bits .and .u64 a0 6148914691236517205))) / 4) 3689348814741910323) + (Go.bits .and .u64 (IntKind.u64.wrap ((Go.bits .and .u64 (a0 / 2) 6148914691236517205) + (Go.bits .and .u64 a0 6148914691236517205))) 3689348814741910323))))) 1085102592571150095) + ((Go.bits .and .u64 (IntKind.u64.wrap (((IntKind.u64.wrap ((Go.bits .and .u64 ((IntKind.u64.wrap ((Go.bits .and .u64 (a0 / 2) 6148914691236517205) + (Go.bits .and .u64 a0 6148914691236517205))) / 4) 3689348814741910323) + (Go.bits .and .u64 (IntKind.u64.wrap ((Go.bits .and .u64 (a0 / 2) 6148914691236517205) + (Go.bits .and .u64 a0 6148914691236517205))) 3689348814741910323))) / 16) + (IntKind.u64.wrap ((Go.bits .and .u64 ((IntKind.u64.wrap ((Go.bits .and .u64 (a0 / 2) 6148914691236517205) + (Go.bits .and .u64 a0 6148914691236517205))) / 4) 3689348814741910323) + (Go.bits .and .u64 (IntKind.u64.wrap ((Go.bits .and .u64 (a0 / 2) 6148914691236517205) + (Go.bits .and .u64 a0 6148914691236517205))) 3689348814741910323))))) 1085102592571150095) / 256))) + ((IntKind.u64.wrap ((Go.bits .and .u64 (IntKind.u64.wrap (((IntKind.u64.wrap ((Go.bits .and .u64 ((IntKind.u64.wrap ((Go.bits .and .u64 (a0 / 2) 6148914691236517205) + (Go.bits .and .u64 a0 6148914691236517205))) / 4) 3689348814741910323) + (Go.bits .and .u64 (IntKind.u64.wrap ((Go.bits .and .u64 (a0 / 2) 6148914691236517205) + (Go.bits .and .u64 a0 6148914691236517205))) 3689348814741910323))) / 16) + (IntKind.u64.wrap ((Go.bits .and .u64 ((IntKind.u64.wrap ((Go.bits .and .u64 (a0 / 2) 6148914691236517205) + (Go.bits .and .u64 a0 6148914691236517205))) / 4) 3689348814741910323) + (Go.bits .and .u64 (IntKind.u64.wrap ((Go.bits .and .u64 (a0 / 2) 6148914691236517205) + (Go.bits .and .u64 a0 6148914691236517205))) 3689348814741910323))))) 1085102592571150095) + ((Go.bits .and .u64 (IntKind.u64.wrap (((IntKind.u64.wrap ((Go.bits .and .u64 ((IntKind.u64.wrap ((Go.bits .and .u64 (a0 / 2) 6148914691236517205) + (Go.bits .and .u64 a0 6148914691236517205))) / 4) 3689348814741910323) + (Go.bits .and .u64 (IntKind.u64.wrap ((Go.bits .and .u64 (a0 / 2) 6148914691236517205) + (Go.bits .and .u64 a0 6148914691236517205))) 3689348814741910323))) / 16) + (IntKind.u64.wrap ((Go.bits .and .u64 ((IntKind.u64.wrap ((Go.bits .and .u64 (a0 / 2) 6148914691236517205) + (Go.bits .and .u64 a0 6148914691236517205))) / 4) 3689348814741910323) + (Go.bits .and .u64 (IntKind.u64.wrap ((Go.bits .and .u64 (a0 / 2) 6148914691236517205) + (Go.bits .and .u64 a0 6148914691236517205))) 3689348814741910323))))) 1085102592571150095) / 256))) / 65536))) + ((IntKind.u64.wrap ((IntKind.u64.wrap ((Go.bits .and .u64 (IntKind.u64.wrap (((IntKind.u64.wrap ((Go.bits .and .u64 ((IntKind.u64.wrap ((Go.bits .and .u64 (a0 / 2) 6148914691236517205) + (Go.bits .and .u64 a0 6148914691236517205))) / 4) 3689348814741910323) + (Go.bits .and .u64 (IntKind.u64.wrap ((Go.bits .and .u64 (a0 / 2) 6148914691236517205) + (Go.bits .and .u64 a0 6148914691236517205))) 3689348814741910323))) / 16) + (IntKind.u64.wrap ((Go.bits .and .u64 ((IntKind.u64.wrap ((Go.bits .and .u64 (a0 / 2) 6148914691236517205) + (Go.bits .and .u64 a0 6148914691236517205))) / 4) 3689348814741910323) + (Go.bits .and .u64 (IntKind.u64.wrap ((Go.bits .and .u64 (a0 / 2) 6148914691236517205) + (Go.bits .and .u64 a0 6148914691236517205))) 3689348814741910323))))) 1085102592571150095) + ((Go.bits .and .u64 (IntKind.u64.wrap (((IntKind.u64.wrap ((Go.bits .and .u64 ((IntKind.u64.wrap ((Go.bits .and .u64 (a0 / 2) 6148914691236517205) + (Go.bits .and .u64 a0 6148914691236517205))) / 4) 3689348814741910323) + (Go.bits .and .u64 (IntKind.u64.wrap ((Go.bits .and .u64 (a0 / 2) 6148914691236517205) + (Go.bits .and .u64 a0 6148914691236517205))) 3689348814741910323))) / 16) + (IntKind.u64.wrap ((Go.bits .and .u64 ((IntKind.u64.wrap ((Go.bits .and .u64 (a0 / 2) 6148914691236517205) + (Go.bits .and .u64 a0 6148914691236517205))) / 4) 3689348814741910323) + (Go.bits .and .u64 (IntKind.u64.wrap ((Go.bits .and .u64 (a0 / 2) 6148914691236517205) + (Go.bits .and .u64 a0 6148914691236517205))) 3689348814741910323))))) 1085102592571150095) / 256))) + ((IntKind.u64.wrap ((Go.bits .and .u64 (IntKind.u64.wrap (((IntKind.u64.wrap ((Go.bits .and .u64 ((IntKind.u64.wrap ((Go.bits .and .u64 (a0 / 2) 6148914691236517205) + (Go.bits .and .u64 a0 6148914691236517205))) / 4) 3689348814741910323) + (Go.bits .and .u64 (IntKind.u64.wrap ((Go.bits .and .u64 (a0 / 2) 6148914691236517205) + (Go.bits .and .u64 a0 6148914691236517205))) 3689348814741910323))) / 16) + (IntKind.u64.wrap ((Go.bits .and .u64 ((IntKind.u64.wrap ((Go.bits .and .u64 (a0 / 2) 6148914691236517205) + (Go.bits .and .u64 a0 6148914691236517205))) / 4) 3689348814741910323) + (Go.bits .and .u64 (IntKind.u64.wrap ((Go.bits .and .u64 (a0 / 2) 6148914691236517205) + (Go.bits .and .u64 a0 6148914691236517205))) 3689348814741910323))))) 1085102592571150095) + ((Go.bits .and .u64 (IntKind.u64.wrap (((IntKind.u64.wrap ((Go.bits .and .u64 ((IntKind.u64.wrap ((Go.bits .and .u64 (a0 / 2) 6148914691236517205) + (Go.bits .and .u64 a0 6148914691236517205))) / 4) 3689348814741910323) + (Go.bits .and .u64 (IntKind.u64.wrap ((Go.bits .and .u64 (a0 / 2) 6148914691236517205) + (Go.bits .and .u64 a0 6148914691236517205))) 3689348814741910323))) / 16) + (IntKind.u64.wrap ((Go.bits .and .u64 ((IntKind.u64.wrap ((Go.bits .and .u64 (a0 / 2) 6148914691236517205) + (Go.bits .and .u64 a0 6148914691236517205))) / 4) 3689348814741910323) + (Go.bits .and .u64 (IntKind.u64.wrap ((Go.bits .and .u64 (a0 / 2) 6148914691236517205) + (Go.bits .and .u64 a0 6148914691236517205))) 3689348814741910323))))) 1085102592571150095) / 256))) / 65536))) / 4294967296)))) 127)) = some r := h
  clear h
  obtain rfl := Option.some.inj H
  go_enter Tryd.func46, Tryd.ntmps46
  go_wp2
  go_ret
  exact ⟨by first | rfl | (simp; done) | (simp [*]; done), by repeat (first | exact Drawn0.refl _ | apply Drawn0.step)⟩

/-! ### report_Lights: function 27 -/
def report_Lights.l0 : Nat → List Int → List (S41) → Int → Int → Option (List Int × Int)
 | 0, _, _, _, _ => none
 | k + 1, x6, x17, x18, x19 => if x19 < x18 then (if 0 ≤ x19 then (if x19 < (x17.length : Int) then ((bits_OnesCount64.f ((rd_T41 x17 x19).f3)).bind fun t212 => ((bits_OnesCount64.f ((rd_T41 x17 x19).f4)).bind fun t213 => (if x6.length < 17592186044416 then (report_Lights.l0 k (x6 ++ [wrap64 (t212 + t213)]) x17 x18 (wrap64 (x19 + 1))) else (none)))) else (none)) else (none)) else (some (x6, 0))
def report_Lights.f (k : Nat) (l0 : List (S41)) : Option (List Int × Int) := (report_Check.f k l0).bind fun bt208 => (if bt208.1 = 0 then (report_Lights.l0 k ([] : List Int) l0 (l0.length : Int) 0) else (some (([] : List Int), bt208.1)))
def report_Lights.T8 : Bool × List (List Nat × List Nat) := (true, [([], []), ([], []), ([1], [1]), ([2], [2]), ([], []), ([4], [4]), ([5, 3], [5]), ([3, 6], [3, 6]), ([7], [7]), ([0, 8, 6], [0, 8]), ([9, 9, 0, 1, 2, 3, 4, 5, 6, 7, 8, 9], [0, 9])])
def report_Lights.B8 : List Nat := [0, 0, 2, 6, 0, 16, 62, 126, 254, 511, 1023]
theorem report_Lights.tab8 : rtab .any (opsOf Tryd.f27 8) = report_Lights.T8 := by kernel_rfl
theorem report_Lights.bits8 : waitsOk report_Lights.T8.2 report_Lights.B8 = true := by kernel_rfl
set_option maxHeartbeats 8000000 in
set_option maxRecDepth 100000 in
theorem report_Lights.calls (k : Nat) (A0 : Option Addr) (c0 : Nat) (l0 : List (S41)) (r1 : List Int) (r2 : Int) (w : World) (hr0 : Kd.C k41 w A0 l0.length l0) (hc0 : l0.length ≤ c0) (h : report_Lights.f k l0 = some (r1, r2)) :
  Calls Tryd.prog 27 #[.slice A0 l0.length c0] w fun e w' => ∃ v0_ : Value, e = .returned (.tuple #[v0_, .int .i64 r2]) ∧ Kd.R (Kd.int .i64) 3 w' w.heap.size (fun _ => True) v0_ r1 ∧ Below w.heap.size w w' := by
 have hu41 := Tryd.underlying41
 have HR0 := Aside0.mk hr0
 have HC0 := Aside0.mk hc0
 clear hr0 hc0
 have HB := Aside0.mk (Below.refl w.heap.size w)
 have H : ((report_Check.f k l0).bind fun bt208 => (if bt208.1 = 0 then (report_Lights.l0 k ([] : List Int) l0 (l0.length : Int) 0) else (some (([] : List Int), bt208.1)))) = some (r1, r2) := h
 clear h
 replace H := Option.bind_eq_some_iff.mp H
 obtain ⟨⟨t208, t209⟩, A20, H⟩ := H
 replace H : (if t208 = 0 then (report_Lights.l0 k ([] : List Int) l0 (l0.length : Int) 0) else (some (([] : List Int), t208))) = some (r1, r2) := H
 have A2 := Aside0.mk A20
 clear A20
 by_cases c3 : t208 = 0
 ·rw [if_pos c3] at H
  have c3b0 : (t208 == 0) = true := beq_iff_eq.mpr c3
  have c3b1 : (t208 != 0) = false := bne_eq_false_iff_eq.mpr c3
  clear c3
  have H' := Aside0.mk H
  clear H
  go_enter Tryd.func27, Tryd.ntmps27
  go_wp2_with (first | ((with_reducible refine gate_callee (f := 17) rfl ?_); refine goesL_ (some 11) rfl rfl Tryd.func17 (by kernel_rfl) rfl #[.slice A0 l0.length c0] rfl (by (try simp only [List.map_toArray, List.map_cons, List.map_nil]); first | done | rfl | (simp only [List.length_drop, List.length_take]; rfl)) ?_; (with_reducible refine (report_Check.calls k _ _ l0 t208 t209 _ ?side1 ?side2 A2.out).mono ?_); (case side1 => repeat (first | exact HR0.out | (with_reducible refine Kd.C_alloc ?_ _) | (with_reducible refine Kd.C_drewN ?_ _) | (with_reducible refine Kd.C_drew ?_))); (case side2 => exact HC0.out); rintro e w4 ⟨rfl, hb⟩; refine ⟨_, rfl, ?_⟩; have n0_ := Aside0.mk (below_step (by repeat (first | (with_reducible first | exact HB.out | apply below_alloc | apply pw_below_drewN | apply below_drew1) | exact HB.out)) hb); clear HB; have HB := n0_; clear n0_; (try clear hb); (try clear hb2); (try clear hk); (try clear hi)))
  go_loopg [6, 19] k (fun kq v6 v19 w' => ∃ (x6_1 : List Int) (x19_1 : Int), v19 = .int .i64 x19_1 ∧ Aside0 (report_Lights.l0 kq x6_1 l0 (l0.length : Int) x19_1 = some (r1, r2)) ∧ Aside0 (kq ≤ k) ∧ Aside0 (Kd.R (Kd.int .i64) 3 w' w.heap.size (fun _ => True) v6 x6_1) ∧ Aside0 (Below w.heap.size w w'))
  case atStart => exact ⟨(([] : List Int)), (0), (by first | rfl | (simp; done) | (simp [*]; done)), H', ⟨Nat.le_refl _⟩, ⟨by first | exact Kd.R_nil _ _ _ _ _ | exact Kd.N_nil _ _ _ _ _ | exact Kd.V_nil _ _ _ _ _ | exact Kd.Q_nil _ _ _ _ _ | exact Kd.S_nil _ _ _ _ _⟩, ⟨by repeat (first | (with_reducible first | exact HB.out | apply below_alloc | apply pw_below_drewN | apply below_drew1) | exact HB.out)⟩⟩
  case round =>
   clear H'
   try clear c1
   try clear c2
   try clear p2
   try clear c3
   try clear c3b0
   try clear c3b1
   obtain ⟨x6_1, x19_1, rfl, HA, HK1, HO_6, HB⟩ := hrel
   cases gk with
   | zero => exact absurd HA.out (by simp [report_Lights.l0])
   | succ k1 =>
    have H := HA.out
    clear HA
    simp only [report_Lights.l0] at H
    by_cases c5 : x19_1 < (l0.length : Int)
    ·rw [if_pos c5] at H
     have c5b0 : decide (x19_1 < (l0.length : Int)) = true := decide_eq_true c5
     clear c5
     by_cases c6 : 0 ≤ x19_1
     ·rw [if_pos c6] at H
      have c6b0 : decide (0 ≤ x19_1) = true := decide_eq_true c6
      clear c6
      by_cases c7 : x19_1 < (l0.length : Int)
      ·rw [if_pos c7] at H
       have c7b0 : decide (x19_1 < (l0.length : Int)) = true := decide_eq_true c7
       clear c7
       replace H := Option.bind_eq_some_iff.mp H
       obtain ⟨t212, A80, H⟩ := H
       replace H : ((bits_OnesCount64.f ((rd_T41 l0 x19_1).f4)).bind fun t213 => (if x6_1.length < 17592186044416 then (report_Lights.l0 k1 (x6_1 ++ [wrap64 (t212 + t213)]) l0 (l0.length : Int) (wrap64 (x19_1 + 1))) else (none))) = some (r1, r2) := H
       have A8 := Aside0.mk A80
       clear A80
       replace H := Option.bind_eq_some_iff.mp H
       obtain ⟨t213, A90, H⟩ := H
       replace H : (if x6_1.length < 17592186044416 then (report_Lights.l0 k1 (x6_1 ++ [wrap64 (t212 + t213)]) l0 (l0.length : Int) (wrap64 (x19_1 + 1))) else (none)) = some (r1, r2) := H
       have A9 := Aside0.mk A90
       clear A90
       by_cases c10 : x6_1.length < 17592186044416
       ·rw [if_pos c10] at H
        have LMc10 := Aside0.mk c10
        clear c10
        obtain ⟨y214, hy214⟩ : ∃ y_ : List Int, y_ = (x6_1 ++ [wrap64 (t212 + t213)]) := ⟨_, rfl⟩
        replace H : (report_Lights.l0 k1 y214 l0 (l0.length : Int) (wrap64 (x19_1 + 1))) = some (r1, r2) := by first | (rw [hy214]; with_reducible exact H) | (have H2_ := (Option.bind_some _ _).symm.trans H; rw [hy214]; with_reducible exact H2_) | (have H2_ := (Option.bind_some _ _).symm.trans H; with_reducible exact H2_) | with_reducible exact H | (rw [hy214]; exact H) | exact H
        have Ny214 := Aside0.mk hy214
        clear hy214
        have H' := Aside0.mk H
        clear H
        have p210 : 0 ≤ (x19_1 : Int) := of_decide_eq_true (by first | (with_reducible assumption) | assumption)
        have q210 : x19_1 < (l0.length : Int) := of_decide_eq_true (by first | (with_reducible assumption) | assumption)
        obtain ⟨ad210, A210_1, c210_1, A210_2, c210_2, e210, hx210_0, hx210_1, hx210_2, hx210_3, hx210_4, hx210_5, hl210_1, hi210_1, hl210_2, hi210_2⟩ := at_T41 HR0.out x19_1 p210 q210
        cases e210
        replace hx210_0 := (HB.out.cell (World.block_lt_of_cell? w _ hx210_0)).trans hx210_0
        replace hx210_1 := (HB.out.cell (World.block_lt_of_cell? w _ hx210_1)).trans hx210_1
        replace hx210_2 := (HB.out.cell (World.block_lt_of_cell? w _ hx210_2)).trans hx210_2
        replace hx210_3 := (HB.out.cell (World.block_lt_of_cell? w _ hx210_3)).trans hx210_3
        replace hx210_4 := (HB.out.cell (World.block_lt_of_cell? w _ hx210_4)).trans hx210_4
        replace hx210_5 := (HB.out.cell (World.block_lt_of_cell? w _ hx210_5)).trans hx210_5
        have HR210_1 := Aside0.mk hi210_1
        have HC210_1 := Aside0.mk hl210_1
        clear hi210_1 hl210_1
        have HR210_2 := Aside0.mk hi210_2
        have HC210_2 := Aside0.mk hl210_2
        clear hi210_2 hl210_2
        replace p210 := eq_true p210
        replace q210 := eq_true q210
        try go_wp2_with (first | ((with_reducible refine gate_dst (N := 8) rfl ?_); refine box_event ?hg (N := 8) ?hd (cs := #[.int .i64 0, .slice none 0 0, .slice none 0 0, .int .u64 0, .int .u64 0, .int .i64 0]) (t := 41) ?hr ?_; (case hd => rfl); (case hg => rfl); (case hr => first | (go_simp; done) | (go_simp; rfl)); intro gb211 hg w11 hbox hb; have n0_ := Aside0.mk (Kd.R_below (by (with_reducible repeat (first | apply Kd.R_alloc | apply Kd.R_drewN | apply Kd.R_drew)); exact HO_6.out) hb); have n1_ := Aside0.mk (below_step (by repeat (first | (with_reducible first | exact HB.out | apply below_alloc | apply pw_below_drewN | apply below_drew1) | exact HB.out)) hb); have n2_ := Aside0.mk (hbox); have n3_ := Aside0.mk ((by rw [hg]; exact (below_size (by repeat (first | (with_reducible first | exact HB.out | apply below_alloc | apply pw_below_drewN | apply below_drew1) | exact HB.out))) : w.heap.size ≤ gb211)); have n4_ := Aside0.mk ((by rw [hg]; exact (below_size (by repeat (first | (with_reducible first | exact HB.out | apply below_alloc | apply pw_below_drewN | apply below_drew1) | exact HB.out))) : w.heap.size ≤ gb211)); clear HO_6; clear HB; have HO_6 := n0_; have HB := n1_; have BK211 := n2_; have GW211 := n3_; have GE211 := n4_; clear n0_ n1_ n2_ n3_ n4_; clear hb hbox hg; have hcz12_0 : w11.cell? ⟨gb211, 0, none⟩ = some (.int .i64 0) := (blk_cell BK211.out 0).trans rfl; have hcz12_1 : w11.cell? ⟨gb211, 1, none⟩ = some (.slice none 0 0) := (blk_cell BK211.out 1).trans rfl; have hcz12_2 : w11.cell? ⟨gb211, 2, none⟩ = some (.slice none 0 0) := (blk_cell BK211.out 2).trans rfl; have hcz12_3 : w11.cell? ⟨gb211, 3, none⟩ = some (.int .u64 0) := (blk_cell BK211.out 3).trans rfl; have hcz12_4 : w11.cell? ⟨gb211, 4, none⟩ = some (.int .u64 0) := (blk_cell BK211.out 4).trans rfl; have hcz12_5 : w11.cell? ⟨gb211, 5, none⟩ = some (.int .i64 0) := (blk_cell BK211.out 5).trans rfl; have hfz12_0 := blk_frozen BK211.out 0; have hfz12_1 := blk_frozen BK211.out 1; have hfz12_2 := blk_frozen BK211.out 2; have hfz12_3 := blk_frozen BK211.out 3; have hfz12_4 := blk_frozen BK211.out 4; have hfz12_5 := blk_frozen BK211.out 5))
        have n0_ : Aside0 (Kd.R (Kd.int .i64) 3 ((((((w11.setCell ⟨gb211, 0, none⟩ (.int .i64 ((rd_T41 l0 x19_1).f0))).setCell ⟨gb211, 1, none⟩ (.slice A210_1 ((rd_T41 l0 x19_1).f1).length c210_1)).setCell ⟨gb211, 2, none⟩ (.slice A210_2 ((rd_T41 l0 x19_1).f2).length c210_2)).setCell ⟨gb211, 3, none⟩ (.int .u64 ((rd_T41 l0 x19_1).f3))).setCell ⟨gb211, 4, none⟩ (.int .u64 ((rd_T41 l0 x19_1).f4))).setCell ⟨gb211, 5, none⟩ (.int .i64 ((rd_T41 l0 x19_1).f5))) w.heap.size (fun _ => True) u6 x6_1) := ⟨by (with_reducible repeat (first | apply Kd.R_alloc | apply Kd.R_drewN | apply Kd.R_drew)); exact Kd.R_mono (Kd.R_far (p := ⟨gb211, 5, none⟩) (Kd.R_far (p := ⟨gb211, 4, none⟩) (Kd.R_far (p := ⟨gb211, 3, none⟩) (Kd.R_far (p := ⟨gb211, 2, none⟩) (Kd.R_far (p := ⟨gb211, 1, none⟩) (Kd.R_far (p := ⟨gb211, 0, none⟩) (Kd.R_types HO_6.out BK211.out (by decide)) (fun _ hk => hk.2) (.int .i64 ((rd_T41 l0 x19_1).f0))) (fun _ hk => hk.2) (.slice A210_1 ((rd_T41 l0 x19_1).f1).length c210_1)) (fun _ hk => hk.2) (.slice A210_2 ((rd_T41 l0 x19_1).f2).length c210_2)) (fun _ hk => hk.2) (.int .u64 ((rd_T41 l0 x19_1).f3))) (fun _ hk => hk.2) (.int .u64 ((rd_T41 l0 x19_1).f4))) (fun _ hk => hk.2) (.int .i64 ((rd_T41 l0 x19_1).f5))) (fun _ hk => trivial)⟩
        have n1_ : Aside0 (((((((w11.setCell ⟨gb211, 0, none⟩ (.int .i64 ((rd_T41 l0 x19_1).f0))).setCell ⟨gb211, 1, none⟩ (.slice A210_1 ((rd_T41 l0 x19_1).f1).length c210_1)).setCell ⟨gb211, 2, none⟩ (.slice A210_2 ((rd_T41 l0 x19_1).f2).length c210_2)).setCell ⟨gb211, 3, none⟩ (.int .u64 ((rd_T41 l0 x19_1).f3))).setCell ⟨gb211, 4, none⟩ (.int .u64 ((rd_T41 l0 x19_1).f4))).setCell ⟨gb211, 5, none⟩ (.int .i64 ((rd_T41 l0 x19_1).f5))).heap[gb211]? = some (.cells #[.int .i64 ((rd_T41 l0 x19_1).f0), .slice A210_1 ((rd_T41 l0 x19_1).f1).length c210_1, .slice A210_2 ((rd_T41 l0 x19_1).f2).length c210_2, .int .u64 ((rd_T41 l0 x19_1).f3), .int .u64 ((rd_T41 l0 x19_1).f4), .int .i64 ((rd_T41 l0 x19_1).f5)] 41 (0, 0))) := ⟨by (with_reducible repeat (first | refine blk_drewN ?_ _ | refine blk_drew ?_ | refine blk_alloc ?_ _)); refine blk_put (cs := #[.int .i64 ((rd_T41 l0 x19_1).f0), .slice A210_1 ((rd_T41 l0 x19_1).f1).length c210_1, .slice A210_2 ((rd_T41 l0 x19_1).f2).length c210_2, .int .u64 ((rd_T41 l0 x19_1).f3), .int .u64 ((rd_T41 l0 x19_1).f4), .int .i64 0]) ?_ 5 _ rfl; (with_reducible repeat (first | refine blk_drewN ?_ _ | refine blk_drew ?_ | refine blk_alloc ?_ _)); refine blk_put (cs := #[.int .i64 ((rd_T41 l0 x19_1).f0), .slice A210_1 ((rd_T41 l0 x19_1).f1).length c210_1, .slice A210_2 ((rd_T41 l0 x19_1).f2).length c210_2, .int .u64 ((rd_T41 l0 x19_1).f3), .int .u64 0, .int .i64 0]) ?_ 4 _ rfl; (with_reducible repeat (first | refine blk_drewN ?_ _ | refine blk_drew ?_ | refine blk_alloc ?_ _)); refine blk_put (cs := #[.int .i64 ((rd_T41 l0 x19_1).f0), .slice A210_1 ((rd_T41 l0 x19_1).f1).length c210_1, .slice A210_2 ((rd_T41 l0 x19_1).f2).length c210_2, .int .u64 0, .int .u64 0, .int .i64 0]) ?_ 3 _ rfl; (with_reducible repeat (first | refine blk_drewN ?_ _ | refine blk_drew ?_ | refine blk_alloc ?_ _)); refine blk_put (cs := #[.int .i64 ((rd_T41 l0 x19_1).f0), .slice A210_1 ((rd_T41 l0 x19_1).f1).length c210_1, .slice none 0 0, .int .u64 0, .int .u64 0, .int .i64 0]) ?_ 2 _ rfl; (with_reducible repeat (first | refine blk_drewN ?_ _ | refine blk_drew ?_ | refine blk_alloc ?_ _)); refine blk_put (cs := #[.int .i64 ((rd_T41 l0 x19_1).f0), .slice none 0 0, .slice none 0 0, .int .u64 0, .int .u64 0, .int .i64 0]) ?_ 1 _ rfl; (with_reducible repeat (first | refine blk_drewN ?_ _ | refine blk_drew ?_ | refine blk_alloc ?_ _)); refine blk_put (cs := #[.int .i64 0, .slice none 0 0, .slice none 0 0, .int .u64 0, .int .u64 0, .int .i64 0]) ?_ 0 _ rfl; (with_reducible repeat (first | refine blk_drewN ?_ _ | refine blk_drew ?_ | refine blk_alloc ?_ _)); exact BK211.out⟩
        have n2_ : Aside0 (Below w.heap.size w ((((((w11.setCell ⟨gb211, 0, none⟩ (.int .i64 ((rd_T41 l0 x19_1).f0))).setCell ⟨gb211, 1, none⟩ (.slice A210_1 ((rd_T41 l0 x19_1).f1).length c210_1)).setCell ⟨gb211, 2, none⟩ (.slice A210_2 ((rd_T41 l0 x19_1).f2).length c210_2)).setCell ⟨gb211, 3, none⟩ (.int .u64 ((rd_T41 l0 x19_1).f3))).setCell ⟨gb211, 4, none⟩ (.int .u64 ((rd_T41 l0 x19_1).f4))).setCell ⟨gb211, 5, none⟩ (.int .i64 ((rd_T41 l0 x19_1).f5)))) := ⟨by repeat (first | (with_reducible first | exact HB.out | apply below_alloc | apply pw_below_drewN | apply below_drew1 | refine below_set ?_ GE211.out) | exact HB.out)⟩
        (try clear HO_6)
        (try clear BK211)
        (try clear HB)
        generalize ((((((w11.setCell ⟨gb211, 0, none⟩ (.int .i64 ((rd_T41 l0 x19_1).f0))).setCell ⟨gb211, 1, none⟩ (.slice A210_1 ((rd_T41 l0 x19_1).f1).length c210_1)).setCell ⟨gb211, 2, none⟩ (.slice A210_2 ((rd_T41 l0 x19_1).f2).length c210_2)).setCell ⟨gb211, 3, none⟩ (.int .u64 ((rd_T41 l0 x19_1).f3))).setCell ⟨gb211, 4, none⟩ (.int .u64 ((rd_T41 l0 x19_1).f4))).setCell ⟨gb211, 5, none⟩ (.int .i64 ((rd_T41 l0 x19_1).f5))) = w13 at n0_ n1_ n2_ ⊢
        have HO_6 := n0_
        have BK211 := n1_
        have HB := n2_
        clear n0_ n1_ n2_
        have n0_ := Aside0.mk (Kd.R_drew HO_6.out)
        have n1_ := Aside0.mk (blk_drew BK211.out)
        have n2_ := Aside0.mk (below_drew1 HB.out)
        clear HO_6
        clear BK211
        clear HB
        have HO_6 := n0_
        have BK211 := n1_
        have HB := n2_
        clear n0_ n1_ n2_
        refine start_ (n := 11) (S := fun w' => w'.cell? ⟨gb211, 0, none⟩ = some (.int .i64 ((rd_T41 l0 x19_1).f0)) ∧ w'.cell? ⟨gb211, 1, none⟩ = some (.slice A210_1 ((rd_T41 l0 x19_1).f1).length c210_1) ∧ w'.cell? ⟨gb211, 2, none⟩ = some (.slice A210_2 ((rd_T41 l0 x19_1).f2).length c210_2) ∧ w'.cell? ⟨gb211, 3, none⟩ = some (.int .u64 ((rd_T41 l0 x19_1).f3)) ∧ w'.cell? ⟨gb211, 4, none⟩ = some (.int .u64 ((rd_T41 l0 x19_1).f4)) ∧ w'.cell? ⟨gb211, 5, none⟩ = some (.int .i64 ((rd_T41 l0 x19_1).f5))) (ds := []) #[Z,Z,Z,Z,Z,Z,Z,Z,Z,Z,Z] (by kernel_rfl) rfl rfl ⟨(blk_cell BK211.out 0).trans rfl, (blk_cell BK211.out 1).trans rfl, (blk_cell BK211.out 2).trans rfl, (blk_cell BK211.out 3).trans rfl, (blk_cell BK211.out 4).trans rfl, (blk_cell BK211.out 5).trans rfl⟩ (fun hHeld => ?_); refine with_tabW report_Lights.tab8 report_Lights.bits8 (fun HT_ HW_ => ?_)
        generalize w13.drew = w14 at HO_6 BK211 HB hHeld ⊢
        refine pure_ (i := 0) (N := some 23) (v := ?_) (a' := ?_) #[X,Z,Z,Z,Z,Z,Z,Z,Z,Z,Z] rfl rfl (any_of HT_.out (by kernel_rfl)) (fun _ _ _ h => h) (Or.inl ⟨by rfl, ?_⟩) ?_ ?_
        rotate_left
        ·intro w'
         go_simp
         with_reducible rfl
        rotate_left
        ·simp only [Act.put, sA, sB, sC, i64_w, i32_w]
         rfl
        refine pure_ (i := 1) (N := some 24) (v := ?_) (a' := ?_) #[X,X,Z,Z,Z,Z,Z,Z,Z,Z,Z] rfl rfl (any_of HT_.out (by kernel_rfl)) (fun _ _ _ h => h) (Or.inl ⟨by rfl, ?_⟩) ?_ ?_
        rotate_left
        ·intro w'
         go_simp
         with_reducible rfl
        rotate_left
        ·simp only [Act.put, sA, sB, sC, i64_w, i32_w]
         rfl
        refine pure_ (i := 4) (N := some 27) (v := ?_) (a' := ?_) #[X,X,Z,Z,X,Z,Z,Z,Z,Z,Z] rfl rfl (any_of HT_.out (by kernel_rfl)) (fun _ _ _ h => h) (Or.inl ⟨by rfl, ?_⟩) ?_ ?_
        rotate_left
        ·intro w'
         go_simp
         with_reducible rfl
        rotate_left
        ·simp only [Act.put, sA, sB, sC, i64_w, i32_w]
         rfl
        refine take_ (i := 2) (N := some 25) (v := ?_) (a' := ?_) #[X,X,X,Z,X,Z,Z,Z,Z,Z,Z] rfl rfl (take_ofW HT_.out HW_.out (by kernel_rfl)) (fun _ _ _ h => h) (Or.inl ⟨by rfl, ?_⟩) hHeld ?_ ?_
        rotate_left
        ·rintro w' ⟨s0, s1, s2, s3, s4, s5⟩
         go_simp
         with_reducible rfl
        rotate_left
        ·simp only [Act.put, sA, sB, sC, i64_w, i32_w]
         rfl
        refine take_ (i := 5) (N := some 28) (v := ?_) (a' := ?_) #[X,X,X,Z,X,X,Z,Z,Z,Z,Z] rfl rfl (take_ofW HT_.out HW_.out (by kernel_rfl)) (fun _ _ _ h => h) (Or.inl ⟨by rfl, ?_⟩) hHeld ?_ ?_
        rotate_left
        ·rintro w' ⟨s0, s1, s2, s3, s4, s5⟩
         go_simp
         with_reducible rfl
        rotate_left
        ·simp only [Act.put, sA, sB, sC, i64_w, i32_w]
         rfl
        refine one_ (i := 3) (N := some 26) #[X,X,X,X,X,X,Z,Z,Z,Z,Z] rfl rfl (one_of HT_.out (by kernel_rfl)) (by decide) (fun K hK => ?_)
        refine goes_ Tryd.func46 (by kernel_rfl) rfl #[.int .u64 ((rd_T41 l0 x19_1).f3)] (by rfl) rfl rfl (by (try simp only [List.map_toArray, List.map_cons, List.map_nil]); first | done | rfl | (simp only [List.length_drop, List.length_take]; rfl)) ?_
        with_reducible refine (bits_OnesCount64.calls ((rd_T41 l0 x19_1).f3) t212 _ A8.out).mono ?_
        rintro e w' ⟨rfl, ⟨nd, rfl⟩⟩
        refine ⟨_, rfl, ?_⟩
        refine hK.out _ _ ⟨(blk_cell BK211.out 0).trans rfl, (blk_cell BK211.out 1).trans rfl, (blk_cell BK211.out 2).trans rfl, (blk_cell BK211.out 3).trans rfl, (blk_cell BK211.out 4).trans rfl, (blk_cell BK211.out 5).trans rfl⟩ (fun hHeld => ?_)
        clear hK K
        refine norm_ (a' := ?_) ?_ ?_
        rotate_left
        ·show Act.put _ (some 26) _ = _
         simp only [Act.put, sA, sB, sC, i64_w, i32_w]
         rfl
        refine one_ (i := 6) (N := some 29) #[X,X,X,X,X,X,X,Z,Z,Z,Z] rfl rfl (one_of HT_.out (by kernel_rfl)) (by decide) (fun K hK => ?_)
        refine goes_ Tryd.func46 (by kernel_rfl) rfl #[.int .u64 ((rd_T41 l0 x19_1).f4)] (by rfl) rfl rfl (by (try simp only [List.map_toArray, List.map_cons, List.map_nil]); first | done | rfl | (simp only [List.length_drop, List.length_take]; rfl)) ?_
        with_reducible refine (bits_OnesCount64.calls ((rd_T41 l0 x19_1).f4) t213 _ A9.out).mono ?_
        rintro e w' ⟨rfl, ⟨nd, rfl⟩⟩
        refine ⟨_, rfl, ?_⟩
        refine hK.out _ _ ⟨(blk_cell BK211.out 0).trans rfl, (blk_cell BK211.out 1).trans rfl, (blk_cell BK211.out 2).trans rfl, (blk_cell BK211.out 3).trans rfl, (blk_cell BK211.out 4).trans rfl, (blk_cell BK211.out 5).trans rfl⟩ (fun hHeld => ?_)
        clear hK K
        refine norm_ (a' := ?_) ?_ ?_
        rotate_left
        ·show Act.put _ (some 29) _ = _
         simp only [Act.put, sA, sB, sC, i64_w, i32_w]
         rfl
        refine pure_ (i := 7) (N := some 30) (v := ?_) (a' := ?_) #[X,X,X,X,X,X,X,X,Z,Z,Z] rfl rfl (any_of HT_.out (by kernel_rfl)) (fun _ _ _ h => h) (Or.inl ⟨by rfl, ?_⟩) ?_ ?_
        rotate_left
        ·intro w'
         go_simp
         with_reducible rfl
        rotate_left
        ·simp only [Act.put, sA, sB, sC, i64_w, i32_w]
         rfl
        refine one_ (i := 8) (N := some 31) #[X,X,X,X,X,X,X,X,X,Z,Z] rfl rfl (one_of HT_.out (by kernel_rfl)) (by decide) (fun K hK => ?_)
        refine value_ (w1 := ?_) (v := ?_) (by rfl) rfl ?_ ?_
        rotate_left 2
        ·go_simp
         constructor
         ·rfl
         ·rfl
        refine hK.out _ _ ⟨(blk_cell (blk_alloc BK211.out _) 0).trans rfl, (blk_cell (blk_alloc BK211.out _) 1).trans rfl, (blk_cell (blk_alloc BK211.out _) 2).trans rfl, (blk_cell (blk_alloc BK211.out _) 3).trans rfl, (blk_cell (blk_alloc BK211.out _) 4).trans rfl, (blk_cell (blk_alloc BK211.out _) 5).trans rfl⟩ (fun hHeld => ?_)
        clear hK K
        refine norm_ (a' := ?_) ?_ ?_
        rotate_left
        ·show Act.put _ (some 31) _ = _
         simp only [Act.put, sA, sB, sC, i64_w, i32_w]
         rfl
        refine one_ (i := 9) (N := some 32) #[X,X,X,X,X,X,X,X,X,X,Z] rfl rfl (one_of HT_.out (by kernel_rfl)) (by decide) (fun K hK => ?_)
        refine Kd.R_append_step (Kd.int .i64) (w0 := w) w.heap.size (by rfl) (.tmp 23) (.tmp 31) 22 3 (.int .i64 0) 8 rfl Tryd.underlying22 info3 rfl (by decide) (by omega) u6 x6_1 (wrap64 (t212 + t213)) [.int .i64 (wrap64 (t212 + t213))] (fun _ => True) (fun _ => False) rfl rfl ?aP (fun _ hk => hk.elim) ?aF ?aO ?aB ?aS ?aL ?_
        (case aP => exact rfl)
        (case aB => exact (by repeat (first | (with_reducible first | exact HB.out | apply below_alloc | apply pw_below_drewN | apply below_drew1 | refine below_set ?_ GE211.out) | exact HB.out)))
        (case aF => exact (fun _ _ => trivial))
        (case aO => exact (by (with_reducible repeat (first | apply Kd.R_alloc | apply Kd.R_drewN | apply Kd.R_drew)); exact HO_6.out))
        (case aS => exact (below_size (by repeat (first | (with_reducible first | exact HB.out | apply below_alloc | apply pw_below_drewN | apply below_drew1 | refine below_set ?_ GE211.out) | exact HB.out))))
        (case aL => have := LMc10.out; omega)
        intro v215 w15 ho hb hg hat
        rw [← Ny214.out] at ho
        have n0_ := Aside0.mk (blk_grown (g := gb211) (o := .cells #[.int .i64 ((rd_T41 l0 x19_1).f0), .slice A210_1 ((rd_T41 l0 x19_1).f1).length c210_1, .slice A210_2 ((rd_T41 l0 x19_1).f2).length c210_2, .int .u64 ((rd_T41 l0 x19_1).f3), .int .u64 ((rd_T41 l0 x19_1).f4), .int .i64 ((rd_T41 l0 x19_1).f5)] 41 (0, 0)) (by (with_reducible repeat (first | refine blk_drewN ?_ _ | refine blk_drew ?_ | refine blk_alloc ?_ _)); exact BK211.out) hg (Kd.R_ne HO_6.out BK211.out (by decide)))
        have n1_ := Aside0.mk (hb)
        have n2_ := Aside0.mk (ho)
        clear BK211
        clear HB
        clear HO_6
        have BK211 := n0_
        have HB := n1_
        have HO216 := n2_
        clear n0_ n1_ n2_
        clear ho hb hg hat
        refine hK.out _ _ ⟨(blk_cell BK211.out 0).trans rfl, (blk_cell BK211.out 1).trans rfl, (blk_cell BK211.out 2).trans rfl, (blk_cell BK211.out 3).trans rfl, (blk_cell BK211.out 4).trans rfl, (blk_cell BK211.out 5).trans rfl⟩ (fun hHeld => ?_)
        clear hK K
        refine norm_ (a' := ?_) ?_ ?_
        rotate_left
        ·show Act.put _ (some 32) _ = _
         simp only [Act.put, sA, sB, sC, i64_w, i32_w]
         rfl
        refine pure_ (i := 10) (N := some 6) (v := ?_) (a' := ?_) #[X,X,X,X,X,X,X,X,X,X,X] rfl rfl (any_of HT_.out (by kernel_rfl)) (fun _ _ _ h => h) (Or.inl ⟨by rfl, ?_⟩) ?_ ?_
        rotate_left
        ·intro w'
         go_simp
         with_reducible rfl
        rotate_left
        ·simp only [Act.put, sA, sB, sC, i64_w, i32_w]
         rfl
        refine done_ (done_of HT_.out (by kernel_rfl)) ?_
        try go_wp2
        go_roundg k1
        case measure => have := HK1.out; omega
        case rel => exact ⟨(y214), (wrap64 (x19_1 + 1)), (by first | rfl | (simp; done) | (simp [*]; done)), H', ⟨by have := HK1.out; omega⟩, ⟨by (with_reducible repeat (first | apply Kd.R_alloc | apply Kd.R_drewN | apply Kd.R_drew)); exact HO216.out⟩, ⟨by repeat (first | (with_reducible first | exact HB.out | apply below_alloc | apply pw_below_drewN | apply below_drew1 | refine below_set ?_ GE211.out) | exact HB.out)⟩⟩
       ·rw [if_neg c10] at H
        exact absurd H (by simp)
      ·rw [if_neg c7] at H
       exact absurd H (by simp)
     ·rw [if_neg c6] at H
      exact absurd H (by simp)
    ·rw [if_neg c5] at H
     have c5b0 : decide (x19_1 < (l0.length : Int)) = false := decide_eq_false c5
     clear c5
     simp only [Option.some.injEq, Prod.mk.injEq] at H
     obtain ⟨rfl, rfl⟩ := H
     go_wp2
     go_ret2
     exact ⟨_, by first | rfl | (simp [errW_none, errW_some] <;> rfl) | (simp [*, errW_none, errW_some] <;> rfl) | (simp (discharger := omega) only [Int.tdiv_eq_ediv_of_nonneg, Int.tmod_eq_emod_of_nonneg] <;> rfl), by (with_reducible repeat (first | apply Kd.R_alloc | apply Kd.R_drewN | apply Kd.R_drew)); exact HO_6.out, by repeat (first | (with_reducible first | exact HB.out | apply below_alloc | apply pw_below_drewN | apply below_drew1) | exact HB.out)⟩
 ·rw [if_neg c3] at H
  have c3b0 : (t208 == 0) = false := beq_eq_false_iff_ne.mpr c3
  have c3b1 : (t208 != 0) = true := bne_iff_ne.mpr c3
  simp only [Option.some.injEq, Prod.mk.injEq] at H
  obtain ⟨rfl, rfl⟩ := H
  go_enter Tryd.func27, Tryd.ntmps27
  go_wp2_with (first | ((with_reducible refine gate_callee (f := 17) rfl ?_); refine goesL_ (some 11) rfl rfl Tryd.func17 (by kernel_rfl) rfl #[.slice A0 l0.length c0] rfl (by (try simp only [List.map_toArray, List.map_cons, List.map_nil]); first | done | rfl | (simp only [List.length_drop, List.length_take]; rfl)) ?_; (with_reducible refine (report_Check.calls k _ _ l0 t208 t209 _ ?side1 ?side2 A2.out).mono ?_); (case side1 => repeat (first | exact HR0.out | (with_reducible refine Kd.C_alloc ?_ _) | (with_reducible refine Kd.C_drewN ?_ _) | (with_reducible refine Kd.C_drew ?_))); (case side2 => exact HC0.out); rintro e w16 ⟨rfl, hb⟩; refine ⟨_, rfl, ?_⟩; have n0_ := Aside0.mk (below_step (by repeat (first | (with_reducible first | exact HB.out | apply below_alloc | apply pw_below_drewN | apply below_drew1) | exact HB.out)) hb); clear HB; have HB := n0_; clear n0_; (try clear hb); (try clear hb2); (try clear hk); (try clear hi)))
  go_ret2
  exact ⟨_, by first | rfl | (simp [errW_none, errW_some] <;> rfl) | (simp [*, errW_none, errW_some] <;> rfl) | (simp (discharger := omega) only [Int.tdiv_eq_ediv_of_nonneg, Int.tmod_eq_emod_of_nonneg] <;> rfl), by first | exact Kd.R_nil _ _ _ _ _ | exact Kd.N_nil _ _ _ _ _ | exact Kd.V_nil _ _ _ _ _ | exact Kd.Q_nil _ _ _ _ _ | exact Kd.S_nil _ _ _ _ _, by repeat (first | (with_reducible first | exact HB.out | apply below_alloc | apply pw_below_drewN | apply below_drew1) | exact HB.out)⟩

end Go.Proofs.YtenlokaaloenmaaDoor.S
end
