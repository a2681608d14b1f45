/- From some round on, the answer is known. Valid runs: the answer of the program's Check. -/
import Derived.Test.YtenlokaaloenmaaDoorNums
import Derived.Test.YtenlokaaloenmaaDoorS4
set_option linter.unusedVariables false
set_option linter.unusedSimpArgs false
namespace Go.Proofs.YtenlokaaloenmaaDoor.Pure
open Go.RowKit Go.Proofs.YtenlokaaloenmaaDoorW.PrintWords Go.Proofs.YtenlokaaloenmaaDoorW.PrintLast
set_option linter.unusedVariables false
set_option linter.unusedSimpArgs false

/-- From some round on, the answer is v. -/
def Ev {α : Type} (g : Nat → Option α) (v : α) : Prop := ∃ K, ∀ k, K ≤ k → g k = some v
theorem Ev.step {α : Type} {g : Nat → Option α} {v : α} {g' : Nat → Option α} (h : Ev g' v) (e : ∀ k, g (k + 1) = g' k) : Ev g v := by
  obtain ⟨K, h⟩ := h
  exact ⟨K + 1, fun k hk => by obtain ⟨m, rfl, hm⟩ := succ_of (show K < k by omega); rw [e, h m hm]⟩
theorem Ev.const {α : Type} (v : α) : Ev (fun _ => some v) v := ⟨0, fun _ _ => rfl⟩
theorem Ev.of_eq {α : Type} {x : Option α} {v : α} (h : x = some v) : Ev (fun _ => x) v := ⟨0, fun _ _ => h⟩
theorem Ev.congr {α : Type} {g g' : Nat → Option α} {v : α} (h : Ev g' v) (e : ∀ k, g k = g' k) : Ev g v := by
  obtain ⟨K, h⟩ := h; exact ⟨K, fun k hk => by rw [e, h k hk]⟩
theorem Ev.val {α : Type} {g : Nat → Option α} {v u : α} (h : Ev g v) (e : v = u) : Ev g u := e ▸ h
theorem Ev.bind {α β : Type} {g : Nat → Option α} {v : α} {f : α → Nat → Option β} {u : β} (h : Ev g v) (h' : Ev (f v) u) : Ev (fun k => (g k).bind fun x => f x k) u := by
  obtain ⟨K, h⟩ := h; obtain ⟨K', h'⟩ := h'
  exact ⟨K + K', fun k hk => by show (g k).bind _ = _; rw [h k (by omega), Option.bind_some, h' k (by omega)]⟩
theorem Ev.get {α : Type} {g : Nat → Option α} {v : α} (h : Ev g v) : ∃ k, g k = some v := by
  obtain ⟨K, h⟩ := h; exact ⟨K, h K (Nat.le_refl _)⟩
theorem Ev.mono_at {α : Type} {g : Nat → Option α} {v : α} (k0 : Nat) (h : g k0 = some v) (hm : ∀ k, LeO (g k) (g (k + 1))) : Ev g v := by
  refine ⟨k0, fun k hk => ?_⟩
  obtain ⟨d, rfl⟩ : ∃ d, k = k0 + d := ⟨k - k0, by omega⟩
  clear hk
  induction d with
  | zero => exact h
  | succ d ih => exact hm _ _ ih
theorem Ev.shift {α : Type} {g : Nat → Option α} {v : α} (h : Ev g v) : Ev (fun k => g (k + 1)) v := by
  obtain ⟨K, h⟩ := h; exact ⟨K, fun k hk => h _ (by omega)⟩

end Go.Proofs.YtenlokaaloenmaaDoor.Pure

namespace Go.Proofs.YtenlokaaloenmaaDoor.Pure
open Go.RowKit Go.Proofs.YtenlokaaloenmaaDoor.S Go.Proofs.YtenlokaaloenmaaDoorW.PrintWords Go.Proofs.YtenlokaaloenmaaDoorW.PrintLast
set_option linter.unusedVariables false

theorem dropV (l : List S41) (i : Nat) (h : i < l.length) : l.drop i = rd_T41 l (i : Int) :: l.drop (i + 1) := by unfold rd_T41; simp [h]
theorem dropS (l : List S43) (i : Nat) (h : i < l.length) : l.drop i = rd_T43 l (i : Int) :: l.drop (i + 1) := by unfold rd_T43; simp [h]
theorem dropR (l : List S66) (i : Nat) (h : i < l.length) : l.drop i = rd_T66 l (i : Int) :: l.drop (i + 1) := by unfold rd_T66; simp [h]
theorem memR (l : List S66) (i : Nat) (h : i < l.length) : rd_T66 l (i : Int) ∈ l := by unfold rd_T66; simp [h]
theorem memS (l : List S43) (i : Nat) (h : i < l.length) : rd_T43 l (i : Int) ∈ l := by unfold rd_T43; simp [h]
theorem memV (l : List S41) (i : Nat) (h : i < l.length) : rd_T41 l (i : Int) ∈ l := by unfold rd_T41; simp [h]

/-- A view as it comes: Go's ints, lists no longer than a slice can be. -/
def WV (v : S41) : Prop := I64 v.f0 ∧ v.f1.length ≤ 9223372036854775807 ∧ v.f2.length ≤ 9223372036854775807 ∧ (0 ≤ v.f3 ∧ v.f3 < 18446744073709551616) ∧ (0 ≤ v.f4 ∧ v.f4 < 18446744073709551616)

def sgB (s : S43) : Bool := decide (-1 ≤ s.f0 ∧ s.f0 ≤ 63 ∧ 0 ≤ s.f1 ∧ s.f1 ≤ 20)
def sgA : List S43 → Bool
  | [] => true
  | s :: l => if sgB s = true then sgA l else false
def repE : List S66 → Int
  | [] => 0
  | x :: l => if x.f0 < 0 ∨ 23 < x.f0 then 2 else if x.f1 < 1 ∨ 6 < x.f1 then 11 else repE l
def viewE (v : S41) (m : Nat) : Int :=
  if v.f2.length = m ∧ m ≤ 8 then (if repE v.f1 = 0 then (if sgA v.f2 = true ∧ -1 ≤ v.f5 ∧ v.f5 ≤ 255 then 0 else 2) else repE v.f1) else 3
def tickE (l : List S41) (i : Nat) : Int :=
  if i = 0 then (if 0 ≤ (rd_T41 l 0).f0 ∧ (rd_T41 l 0).f0 ≤ 1099511627776 then 0 else 2)
  else if (rd_T41 l (i : Int)).f0 = wrap64 ((rd_T41 l ((i : Int) - 1)).f0 + 1) then 0 else 8
def chkL (l : List S41) : Nat → Nat → Int × Int
  | 0, _ => (0, 0)
  | d + 1, i => if tickE l i = 0 then (if viewE (rd_T41 l (i : Int)) (rd_T41 l 0).f2.length = 0 then chkL l d (i + 1) else (viewE (rd_T41 l (i : Int)) (rd_T41 l 0).f2.length, (i : Int))) else (tickE l i, (i : Int))
def chk (l : List S41) : Int × Int := if 20000 < l.length then (4, 0) else chkL l l.length 0

theorem sights_ev (l : List S43) (hl : l.length ≤ 9223372036854775807) : ∀ (d j : Nat), d = l.length - j → j ≤ l.length → Ev (fun k => report_sights.l0 k l (l.length : Int) (j : Int)) (sgA (l.drop j))
  | 0, j, hd, hj => by
    obtain rfl : j = l.length := by omega
    rw [List.drop_length]
    exact Ev.step (Ev.const true) (fun k => by rw [report_sights.l0, if_neg (by omega)])
  | d + 1, j, hd, hj => by
    have ih := sights_ev l hl d (j + 1) (by omega) (by omega)
    rw [dropS l j (by omega), sgA]
    cases hs : sgB (rd_T43 l (j : Int)) with
    | true =>
      have h := of_decide_eq_true hs
      rw [if_pos rfl]
      exact ih.step (fun k => by rw [report_sights.l0, if_pos (by omega), if_pos (by omega), if_pos (by omega), if_neg (by omega), if_neg (by omega), if_neg (by omega), if_neg (by omega), wrap_succ j (by omega)])
    | false =>
      have h := of_decide_eq_false hs
      rw [if_neg (by decide)]
      refine Ev.step (Ev.const false) (fun k => ?_)
      rw [report_sights.l0, if_pos (by omega), if_pos (by omega), if_pos (by omega)]
      by_cases h1 : (rd_T43 l (j : Int)).f0 < -1
      · rw [if_pos h1]
      rw [if_neg h1]
      by_cases h2 : (rd_T43 l (j : Int)).f0 ≥ 64
      · rw [if_pos h2]
      rw [if_neg h2]
      by_cases h3 : (rd_T43 l (j : Int)).f1 < 0
      · rw [if_pos h3]
      rw [if_neg h3, if_pos (by omega)]

theorem replies_ev (v : S41) (hl : v.f1.length ≤ 9223372036854775807) (hs : v.f2.length ≤ 9223372036854775807) : ∀ (d j : Nat), d = v.f1.length - j → j ≤ v.f1.length →
    Ev (fun k => report_view.l0 k v.f1 (v.f1.length : Int) (j : Int) v.f0 v.f1 v.f2 v.f3 v.f4 v.f5) (if repE (v.f1.drop j) = 0 then (if sgA v.f2 = true ∧ -1 ≤ v.f5 ∧ v.f5 ≤ 255 then 0 else 2) else repE (v.f1.drop j))
  | 0, j, hd, hj => by
    obtain rfl : j = v.f1.length := by omega
    rw [List.drop_length, repE, if_pos rfl]
    have h0 := (sights_ev v.f2 hs _ 0 rfl (by omega)).bind (f := fun t k => if t = true then (if v.f5 < (-1) then (some 2) else (if v.f5 > 255 then (some 2) else (some 0))) else (some (2 : Int))) (u := if sgA v.f2 = true ∧ -1 ≤ v.f5 ∧ v.f5 ≤ 255 then 0 else 2) (by
      rw [List.drop_zero]
      refine Ev.of_eq ?_
      by_cases h1 : sgA v.f2 = true
      · rw [if_pos h1]
        by_cases h2 : v.f5 < -1
        · rw [if_pos h2, if_neg (by omega)]
        · rw [if_neg h2]
          by_cases h3 : v.f5 > 255
          · rw [if_pos h3, if_neg (by omega)]
          · rw [if_neg h3, if_pos ⟨h1, by omega, by omega⟩]
      · rw [if_neg h1, if_neg (fun h => h1 h.1)])
    exact h0.step (fun k => by rw [report_view.l0, if_neg (by omega)]; rfl)
  | d + 1, j, hd, hj => by
    have ih := replies_ev v hl hs d (j + 1) (by omega) (by omega)
    rw [dropR v.f1 j (by omega), repE]
    obtain ⟨q, hq⟩ : ∃ q, rd_T66 v.f1 (j : Int) = q := ⟨_, rfl⟩
    rw [hq]
    have st : ∀ (b : Bool) (u : Int), Ev (fun k => report_view.j2 k v.f1 (v.f1.length : Int) (j : Int) b v.f0 v.f1 v.f2 v.f3 v.f4 v.f5 q.f0 q.f1) u → b = decide (q.f0 < 0 ∨ 23 < q.f0) → Ev (fun k => report_view.l0 k v.f1 (v.f1.length : Int) (j : Int) v.f0 v.f1 v.f2 v.f3 v.f4 v.f5) u := by
      intro b u h hb
      refine h.step (fun k => ?_)
      rw [report_view.l0, if_pos (by omega), if_pos (by omega), if_pos (by omega), hq]
      by_cases h1 : q.f0 < 0
      · rw [if_pos h1, hb, decide_eq_true (Or.inl h1)]
      · rw [if_neg h1, hb]
        congr 1
        rw [decide_eq_decide]
        omega
    by_cases h1 : q.f0 < 0 ∨ 23 < q.f0
    · rw [if_pos h1, if_neg (by decide)]
      exact st true 2 (Ev.step (Ev.const 2) (fun k => by rw [report_view.j2, if_pos rfl])) (decide_eq_true h1).symm
    · rw [if_neg h1]
      refine st false _ ?_ (decide_eq_false h1).symm
      by_cases h2 : q.f1 < 1 ∨ 6 < q.f1
      · rw [if_pos h2, if_neg (by decide)]
        refine Ev.step (Ev.const 11) (fun k => ?_)
        rw [report_view.j2, if_neg (by decide)]
        by_cases h3 : q.f1 < 1
        · rw [if_pos h3]
        · rw [if_neg h3, if_pos (by omega)]
      · rw [if_neg h2]
        exact ih.step (fun k => by rw [report_view.j2, if_neg (by decide), if_neg (by omega), if_neg (by omega), wrap_succ j (by omega)])

theorem view_ev (v : S41) (m : Nat) (hl : v.f1.length ≤ 9223372036854775807) (hs : v.f2.length ≤ 9223372036854775807) : Ev (fun k => report_view.f k v.f0 v.f1 v.f2 v.f3 v.f4 v.f5 (m : Int)) (viewE v m) := by
  have h3 : ∀ b : Bool, b = true → Ev (fun k => report_view.j0 k b v.f0 v.f1 v.f2 v.f3 v.f4 v.f5) 3 := fun b hb => Ev.step (Ev.const 3) (fun k => by rw [report_view.j0, if_pos hb])
  unfold viewE
  by_cases h1 : v.f2.length = m
  · by_cases h2 : m ≤ 8
    · rw [if_pos ⟨h1, h2⟩]
      have h := replies_ev v hl hs _ 0 rfl (by omega)
      rw [List.drop_zero] at h
      refine Ev.congr (Ev.step (g := fun k => report_view.j0 k false v.f0 v.f1 v.f2 v.f3 v.f4 v.f5) h (fun k => by rw [report_view.j0, if_neg (by decide)]; rfl)) (fun k => ?_)
      rw [report_view.f, if_pos (by omega), decide_eq_false (by omega)]
    · rw [if_neg (fun h => h2 h.2)]
      refine Ev.congr (h3 true rfl) (fun k => ?_)
      rw [report_view.f, if_pos (by omega), decide_eq_true (by omega)]
  · rw [if_neg (fun h => h1 h.1)]
    refine Ev.congr (h3 true rfl) (fun k => ?_)
    rw [report_view.f, if_neg (by omega)]

theorem checkL_ev (l : List S41) (hw : ∀ v ∈ l, WV v) (hl : l.length ≤ 20000) : ∀ (d j : Nat), d = l.length - j → j ≤ l.length → Ev (fun k => report_Check.l0 k l l (l.length : Int) (j : Int)) (chkL l d j)
  | 0, j, hd, hj => Ev.step (Ev.const (0, 0)) (fun k => by rw [report_Check.l0, if_neg (by omega)])
  | d + 1, j, hd, hj => by
    have ih := checkL_ev l hw hl d (j + 1) (by omega) (by omega)
    obtain ⟨p, hp⟩ : ∃ p, rd_T41 l (j : Int) = p := ⟨_, rfl⟩
    have hpw : WV p := by rw [← hp]; exact hw _ (memV l j (by omega))
    rw [chkL, hp]
    have hv : Ev (fun k => report_Check.j2 k l (j : Int) l (l.length : Int) (j : Int) false p.f0 p.f1 p.f2 p.f3 p.f4 p.f5) (if viewE p (rd_T41 l 0).f2.length = 0 then chkL l d (j + 1) else (viewE p (rd_T41 l 0).f2.length, (j : Int))) := by
      have h := (view_ev p (rd_T41 l 0).f2.length hpw.2.1 hpw.2.2.1).bind (f := fun t k => if t = 0 then report_Check.l0 k l l (l.length : Int) ((j + 1 : Nat) : Int) else some (t, (j : Int))) (u := if viewE p (rd_T41 l 0).f2.length = 0 then chkL l d (j + 1) else (viewE p (rd_T41 l 0).f2.length, (j : Int))) (by
        by_cases h0 : viewE p (rd_T41 l 0).f2.length = 0
        · rw [if_pos h0]; exact ih.congr (fun k => if_pos h0)
        · rw [if_neg h0]; exact (Ev.const _).congr (fun k => if_neg h0))
      exact h.step (fun k => by rw [report_Check.j2, if_neg (by decide), if_pos (by omega), wrap_succ j (by omega)])
    have hv8 : Ev (fun k => report_Check.j2 k l (j : Int) l (l.length : Int) (j : Int) true p.f0 p.f1 p.f2 p.f3 p.f4 p.f5) (8, (j : Int)) := Ev.step (Ev.const _) (fun k => by rw [report_Check.j2, if_pos rfl])
    have st : ∀ (b : Bool) u, Ev (fun k => report_Check.j1 k l (j : Int) l (l.length : Int) (j : Int) b p.f0 p.f1 p.f2 p.f3 p.f4 p.f5) u → b = (if j = 0 then !decide (0 ≤ p.f0 ∧ p.f0 ≤ 1099511627776) else false) → Ev (fun k => report_Check.l0 k l l (l.length : Int) (j : Int)) u := by
      intro b u h hb
      refine h.step (fun k => ?_)
      rw [report_Check.l0, if_pos (by omega), if_pos (by omega), if_pos (by omega), hp]
      by_cases h0 : j = 0
      · rw [if_pos (show (j : Int) = 0 by omega), hb, if_pos h0]
        by_cases h1 : p.f0 < 0
        · rw [if_pos h1, decide_eq_false (by omega)]; rfl
        · rw [if_neg h1]
          by_cases h2 : p.f0 > 1099511627776
          · rw [decide_eq_true h2, decide_eq_false (by omega)]; rfl
          · rw [decide_eq_false h2, decide_eq_true (by omega)]; rfl
      · rw [if_neg (show ¬ (j : Int) = 0 by omega), hb, if_neg h0]
    unfold tickE
    by_cases h0 : j = 0
    · subst h0
      rw [if_pos rfl, show rd_T41 l 0 = p from hp]
      by_cases h1 : 0 ≤ p.f0 ∧ p.f0 ≤ 1099511627776
      · rw [if_pos h1, if_pos rfl]
        refine st false _ ?_ (by rw [if_pos rfl, decide_eq_true h1]; rfl)
        rw [show rd_T41 l 0 = p from hp] at hv
        exact hv.step (fun k => by rw [report_Check.j1, if_neg (by decide), if_neg (by omega)])
      · rw [if_neg h1, if_neg (by decide)]
        refine st true _ ?_ (by rw [if_pos rfl, decide_eq_false h1]; rfl)
        exact Ev.step (Ev.const _) (fun k => by rw [report_Check.j1, if_pos rfl])
    · rw [if_neg h0, hp]
      refine st false _ ?_ (by rw [if_neg h0])
      have hs : wrap64 ((j : Int) - 1) = (j : Int) - 1 := wrap_id _ (by omega) (by omega)
      by_cases h1 : p.f0 = wrap64 ((rd_T41 l ((j : Int) - 1)).f0 + 1)
      · rw [if_pos h1, if_pos rfl]
        exact hv.step (fun k => by rw [report_Check.j1, if_neg (by decide), if_pos (by omega), hs, if_pos (by omega), if_pos (by omega), show (p.f0 != wrap64 ((rd_T41 l ((j : Int) - 1)).f0 + 1)) = false by rw [bne_eq_false_iff_eq]; exact h1])
      · rw [if_neg h1, if_neg (by decide)]
        exact hv8.step (fun k => by rw [report_Check.j1, if_neg (by decide), if_pos (by omega), hs, if_pos (by omega), if_pos (by omega), show (p.f0 != wrap64 ((rd_T41 l ((j : Int) - 1)).f0 + 1)) = true by rw [bne_iff_ne]; exact h1])

theorem check_ev (l : List S41) (hw : ∀ v ∈ l, WV v) : Ev (fun k => report_Check.f k l) (chk l) := by
  unfold chk
  by_cases h : 20000 < l.length
  · rw [if_pos h]; exact Ev.congr (Ev.const (4, 0)) (fun k => by rw [report_Check.f, if_pos (by omega)])
  · rw [if_neg h]; exact Ev.congr (checkL_ev l hw (by omega) _ 0 rfl (by omega)) (fun k => by rw [report_Check.f, if_neg (by omega)]; rfl)

theorem Ev.eq {α : Type} {g : Nat → Option α} {u v : α} (h : Ev g u) (h' : Ev g v) : u = v := by
  obtain ⟨K, h⟩ := h
  obtain ⟨K', h'⟩ := h'
  have a := h (K + K') (by omega)
  rw [h' (K + K') (by omega)] at a
  exact (Option.some.inj a).symm
theorem check_chk {k : Nat} {l : List S41} (hw : ∀ v ∈ l, WV v) {e : Int × Int} (h : report_Check.f k l = some e) : e = chk l := Ev.eq (Ev.mono_at k h (fun k => report_Check.mono l k)) (check_ev l hw)
theorem chkL_ok (l : List S41) (x : Int) : ∀ (d i : Nat), chkL l d i = (0, x) → ∀ j, i ≤ j → j < i + d → tickE l j = 0 ∧ viewE (rd_T41 l (j : Int)) (rd_T41 l 0).f2.length = 0
  | 0, i, _, j, h1, h2 => by omega
  | d + 1, i, h, j, h1, h2 => by
    rw [chkL] at h
    by_cases h3 : tickE l i = 0
    · rw [if_pos h3] at h
      by_cases h4 : viewE (rd_T41 l (i : Int)) (rd_T41 l 0).f2.length = 0
      · rw [if_pos h4] at h
        by_cases h5 : j = i
        · subst h5; exact ⟨h3, h4⟩
        · exact chkL_ok l x d (i + 1) h j (by omega) (by omega)
      · rw [if_neg h4] at h; exact (h4 (Prod.mk.inj h).1).elim
    · rw [if_neg h3] at h; exact (h3 (Prod.mk.inj h).1).elim
theorem repE_ok : ∀ (l : List S66), repE l = 0 → ∀ r ∈ l, (0 ≤ r.f0 ∧ r.f0 ≤ 23) ∧ 1 ≤ r.f1 ∧ r.f1 ≤ 6
  | [], _, r, hr => by cases hr
  | x :: l, h, r, hr => by
    rw [repE] at h
    by_cases h1 : x.f0 < 0 ∨ 23 < x.f0
    · rw [if_pos h1] at h; cases h
    rw [if_neg h1] at h
    by_cases h2 : x.f1 < 1 ∨ 6 < x.f1
    · rw [if_pos h2] at h; cases h
    rw [if_neg h2] at h
    rcases List.mem_cons.1 hr with rfl | hr
    · omega
    · exact repE_ok l h r hr
theorem sgA_ok : ∀ (l : List S43), sgA l = true → ∀ s ∈ l, -1 ≤ s.f0 ∧ s.f0 ≤ 63 ∧ 0 ≤ s.f1 ∧ s.f1 ≤ 20
  | [], _, s, hs => by cases hs
  | x :: l, h, s, hs => by
    rw [sgA] at h
    by_cases h1 : sgB x = true
    · rw [if_pos h1] at h
      rcases List.mem_cons.1 hs with rfl | hs
      · exact of_decide_eq_true h1
      · exact sgA_ok l h s hs
    · rw [if_neg h1] at h; cases h
/-- A valid view, of m cars. -/
structure OkV (v : S41) (m : Nat) : Prop where
  n : v.f2.length = m
  m8 : m ≤ 8
  r : ∀ r ∈ v.f1, (0 ≤ r.f0 ∧ r.f0 ≤ 23) ∧ 1 ≤ r.f1 ∧ r.f1 ≤ 6
  s : ∀ s ∈ v.f2, -1 ≤ s.f0 ∧ s.f0 ≤ 63 ∧ 0 ≤ s.f1 ∧ s.f1 ≤ 20
  w : -1 ≤ v.f5 ∧ v.f5 ≤ 255
theorem viewE_ok {v : S41} {m : Nat} (h : viewE v m = 0) : OkV v m := by
  unfold viewE at h
  by_cases h1 : v.f2.length = m ∧ m ≤ 8
  · rw [if_pos h1] at h
    by_cases h2 : repE v.f1 = 0
    · rw [if_pos h2] at h
      by_cases h3 : sgA v.f2 = true ∧ -1 ≤ v.f5 ∧ v.f5 ≤ 255
      · exact ⟨h1.1, h1.2, repE_ok _ h2, sgA_ok _ h3.1, h3.2⟩
      · rw [if_neg h3] at h; cases h
    · rw [if_neg h2] at h; exact (h2 h).elim
  · rw [if_neg h1] at h; cases h
/-- A valid run. -/
structure OkL (l : List S41) : Prop where
  len : l.length ≤ 20000
  t : ∀ j, j < l.length → tickE l j = 0
  v : ∀ v ∈ l, OkV v (rd_T41 l 0).f2.length
theorem chk_ok {l : List S41} {x : Int} (h : chk l = (0, x)) : OkL l := by
  unfold chk at h
  by_cases h1 : 20000 < l.length
  · rw [if_pos h1] at h; cases h
  · rw [if_neg h1] at h
    have h2 := chkL_ok l x _ 0 h
    refine ⟨by omega, fun j hj => (h2 j (by omega) (by omega)).1, fun v hv => ?_⟩
    obtain ⟨j, hj, rfl⟩ := List.getElem_of_mem hv
    have h3 := viewE_ok (h2 j (by omega) (by omega)).2
    rwa [show rd_T41 l (j : Int) = l[j] by unfold rd_T41; simp [hj]] at h3

end Go.Proofs.YtenlokaaloenmaaDoor.Pure
