/- Joined: report.Spells, walked: the spells of a light. report.Changes, walked: the views in which the lights change. report.Longest, walked: the longest spell. A list is equal to itself; runs that are light. -/
import Derived.Test.YtenlokaaloenmaaDoorM5
import Derived.Test.YtenlokaaloenmaaDoorS4
import Derived.Maps.AppendAt
import Derived.WalkSmall
import Derived.Shelf.Abstract
import Derived.Test.YtenlokaaloenmaaDoorQuiet
import Derived.ChangeKeysEq
import Derived.Test.YtenlokaaloenmaaDoorM6
import Derived.Test.YtenlokaaloenmaaDoorM3
import Derived.Test.YtenlokaaloenmaaDoorS3
import Derived.Test.YtenlokaaloenmaaDoorM4

section
set_option linter.unusedVariables false
set_option linter.unusedSimpArgs false
namespace Go.Proofs.YtenlokaaloenmaaDoor.S
open Go.RowKit Go.Proofs.YtenlokaaloenmaaDoorW.PrintWords Go.Proofs.YtenlokaaloenmaaDoorW.PrintLast Go.Proofs.YtenlokaaloenmaaDoorW.PrintMore
set_option linter.unusedVariables false
set_option linter.unusedSimpArgs false
attribute [local go_sem] Oper.semAt_some wide_fn wideR_fn
attribute [local simp] wide_fn wideR_fn

theorem blk_own {β : Type} (B : Nat) (t : TypeId) (f : β → Array Value) : Own (fun s W => Blk W B (f s) t) := fun s X Y row hs hg hrow =>
  (hg.block B hs.lt (fun e' => by obtain ⟨o, ho, hc⟩ := hrow B e'.symm; rw [show X.heap[B]? = _ from hs] at ho; cases ho; cases hc)).trans hs
theorem own_size {β : Type} (n : Nat) : Own (fun (_ : β) W => n ≤ W.heap.size) := fun _ _ _ _ hs hg _ => Nat.le_trans hs hg.size

/-- The cells of a list of spells. -/
def cellsS (l : List S57) : List Value := l.flatMap fun x => [.int .i64 x.f0, .int .i64 x.f1]
theorem cellsS_at : ∀ (l : List S57) (j : Nat) (p : S57), l[j]? = some p → ((cellsS l).drop (j * 2)).take 2 = [.int .i64 p.f0, .int .i64 p.f1]
  | [], j, p, h => by simp at h
  | x :: l, 0, p, h => by
    simp at h
    subst h
    rfl
  | x :: l, j + 1, p, h => by
    have h2 := cellsS_at l j p (by simpa using h)
    rw [show (j + 1) * 2 = (j * 2) + 1 + 1 by omega]
    exact h2
theorem R57_of_own {W : World} {base : Nat} {v : Value} {l : List S57} (h : W.ownsRow base 57 2 v l.length (cellsS l)) : Kd.R k57 57 W base (fun _ => True) v l :=
  ⟨fun _ _ => trivial, cellsS l, h, ⟨h.1, fun j p hj => by
    have h2 := cellsS_at l j p hj
    show k57.M W base _ p (((cellsS l).drop (j * 2)).take 2)
    rw [h2]
    exact k57_mkM _ _ _ _⟩⟩

def report_Spells.f (k : Nat) (l : List S41) (floor : Int) (up : Bool) : Option (List S57 × Int) :=
  (report_Check.f k l).bind fun e => if e.1 = 0 then (if floor < 0 ∨ 64 ≤ floor then some ([], 2) else some ((spF l floor up l.length 0 (-1)).map (·.1), 0)) else some ([], e.1)
set_option maxHeartbeats 2000000 in
set_option maxRecDepth 100000 in
theorem Spells_no (k : Nat) (A0 : Option Addr) (c0 : Nat) (l0 : List S41) (f : Int) (up : Bool) (e i r : Int) (w : World) (hr0 : Kd.C k41 w A0 l0.length l0) (hc0 : l0.length ≤ c0) (h : report_Check.f k l0 = some (e, i)) (hr : r = (if e = 0 then 2 else e)) (hn : e = 0 → f < 0 ∨ 64 ≤ f) :
    Calls Tryd.prog 22 #[.slice A0 l0.length c0, .int .i64 f, .bool up] w fun x w' => x = .returned (.tuple #[.slice none 0 0, .int .i64 r]) ∧ Below w.heap.size w w' := by
  have H := Aside0.mk h
  have HC := Aside0.mk hr0
  have HR := Aside0.mk hr
  have HN := Aside0.mk hn
  clear h hr hn hr0
  go_enter Tryd.func22, Tryd.ntmps22
  go_wp2_with fail
  refine (report_Check.calls k A0 c0 l0 e i _ HC.out hc0 H.out).mono ?_
  rintro e0 w1 ⟨rfl, hb⟩
  have HB := Aside0.mk hb
  clear hb
  by_cases h0 : e = 0
  · subst h0
    have hr := HR.out
    have hn := HN.out rfl
    rw [if_pos rfl] at hr
    subst hr
    clear HR HN
    cases d1 : decide (f < 0) with
    | true =>
      go_wp2_with fail
      go_ret2
      exact ⟨rfl, HB.out⟩
    | false =>
      have d2 : decide (64 ≤ f) = true := by have := of_decide_eq_false d1; exact decide_eq_true (by omega)
      go_wp2_with fail
      go_ret2
      exact ⟨rfl, HB.out⟩
  · have n4 : (e != 0) = true := bne_iff_ne.mpr h0
    have hr := HR.out
    rw [if_neg h0] at hr
    subst hr
    clear HR HN h0
    go_wp2_with fail
    go_ret2
    exact ⟨rfl, HB.out⟩

theorem kept_low {W w1 : World} {tmp : Obj} {e : TypeId} {size n : Nat} {v : Value} {xs : List Value} {N0 b : Nat} (hrow : W.ownsRow N0 e size v n xs) (hg : (W.alloc tmp).grownBy w1 v.ownBlock) (hb : b < N0) (hbW : b < W.heap.size) : w1.heap[b]? = W.heap[b]? := by
  refine (hg.block b (by simp; omega) ?_).trans (Below.heap_alloc W tmp b hbW)
  rcases hrow.2 with ⟨rfl, _⟩ | ⟨g, cap, cur, rfl, hg', _⟩
  · simp [Value.ownBlock]
  · intro e'
    obtain rfl : b = g := by simpa [Value.ownBlock] using e'
    exact Nat.not_lt.2 hg' hb
theorem keep3_t {n0 b1 b2 : Nat} {A B C : World} (h : Keep3 n0 b1 b2 A B) (k : Keep3 n0 b1 b2 B C) : Keep3 n0 b1 b2 A C := ⟨k.1.trans h.1, k.2.1.trans h.2.1, h.2.2.trans k.2.2⟩
theorem keep3_b {n0 b1 b2 N : Nat} (h1 : b1 < N) (h2 : b2 < N) (hn : n0 ≤ N) (W : World) (l : Nat) (o o' : Obj) (hl : N ≤ l) (h : W.heap[l]? = some o) : Keep3 n0 b1 b2 W (W.putObj l o') :=
  ⟨World.putObj_heap_other (by omega), World.putObj_heap_other (by omega), (Below.refl n0 W).grown (grownBy_putObj' W l o') (by have := (Array.getElem?_eq_some_iff.1 h).1; omega) (fun k e => by cases e; omega)⟩
theorem keep3_alloc {n0 b1 b2 : Nat} (W : World) (o : Obj) (h1 : b1 < W.heap.size) (h2 : b2 < W.heap.size) (hn : n0 ≤ W.heap.size) : Keep3 n0 b1 b2 W (W.alloc o) :=
  ⟨Below.heap_alloc W o b1 h1, Below.heap_alloc W o b2 h2, (Below.refl n0 W).alloc hn o⟩

theorem cell_two_new (w : World) (x y : Value) (t : TypeId) : ∀ j u, [x, y][j]? = some u → (w.alloc (.cells #[x, y] t)).cell? ((⟨w.heap.size, 0, none⟩ : Addr).add j) = some u := by
  intro j u hj
  have h := Blk.new w #[x, y] t
  rw [add_plain]
  match j, hj with
  | 0, hj => cases hj; exact h.cell 0 rfl
  | 1, hj => cases hj; exact h.cell 1 rfl
  | j + 2, hj => simp at hj

def SpI (n0 bo N0 : Nat) (w : World) (pre : List (S57 × Bool)) (W : World) : Prop :=
  (∃ v, Boxed W bo 52 v ∧ W.ownsRow N0 57 2 v pre.length (cellsS (pre.map (·.1))) ∧ True) ∧ N0 ≤ W.heap.size ∧ Below n0 w W
theorem info57s : (Tryd.prog.info? 57).map (fun i => (i.zero, i.size, i.bytes)) = some (some (.agg #[.int .i64 0, .int .i64 0]), 2, 16) := by kernel_rfl

set_option maxHeartbeats 4000000 in
set_option maxRecDepth 100000 in
theorem Spells_yes (k : Nat) (A0 : Option Addr) (c0 : Nat) (l0 : List S41) (f : Int) (up : Bool) (i : Int) (w : World) (hr0 : Kd.C k41 w A0 l0.length l0) (hc0 : l0.length ≤ c0) (h : report_Check.f k l0 = some (0, i)) (h0 : 0 ≤ f) (h1 : f ≤ 63)
    (xs : List (S57 × Bool)) (hlx : xs.length ≤ 10000000) (hxs : spF l0 f up l0.length 0 (-1) = xs) :
    Calls Tryd.prog 22 #[.slice A0 l0.length c0, .int .i64 f, .bool up] w fun x w' => ∃ v0_ : Value, x = .returned (.tuple #[v0_, .int .i64 0]) ∧ w'.ownsRow w.heap.size 57 2 v0_ xs.length (cellsS (xs.map (·.1))) ∧ Below w.heap.size w w' := by
  have hu57 := Tryd.underlying57
  have hu77 := Tryd.underlying77
  obtain ⟨i0, hi, hz0, hz1, hz2⟩ := info_parts info57s
  have H := Aside0.mk h
  have HC := Aside0.mk hr0
  have HXS := Aside0.mk hxs
  have d1 : decide (f < 0) = false := decide_eq_false (by omega)
  have d2 : decide (64 ≤ f) = false := decide_eq_false (by omega)
  clear h hr0 hxs
  refine (callsIn_wide (n := 9)).1 ?_
  refine callsIn_of_wp_marks Tryd.func22 rfl trivial ?_ rfl
  simp only [Tryd.ntmps22, List.size_toArray, List.length_cons, List.length_nil, Nat.reduceAdd, Nat.reduceSub, Array.replicate_succ, Array.replicate_zero, List.push_toArray, List.append_toArray, List.nil_append, List.cons_append]
  rw [wpIn_wide]
  go_wp2_with fail
  refine (report_Check.calls k A0 c0 l0 0 i _ HC.out hc0 H.out).mono ?_
  rintro e0 w1 ⟨rfl, hb⟩
  have HB := Aside0.mk hb
  clear hb
  go_upto_region 7 with (fail)
  obtain ⟨w2, hw2⟩ : ∃ x, w1.alloc (.cells #[.slice none 0 0] 52) = x := ⟨_, rfl⟩
  obtain ⟨bo, hbo⟩ : ∃ x, w1.heap.size = x := ⟨_, rfl⟩
  have ho2 : Boxed w2 bo 52 (.slice none 0 0) := by rw [← hw2, ← hbo]; exact Boxed.new w1 52 _
  have hB2 : Below w.heap.size w w2 := by rw [← hw2]; exact HB.out.alloc HB.out.size _
  have hs2 : w2.heap.size = bo + 1 := by rw [← hw2, World.size_alloc, hbo]
  have hb0 : w.heap.size ≤ bo := by have := HB.out.size; omega
  rw [hw2, hbo]
  clear hw2 hbo HB w1
  have O2 := Aside0.mk ho2
  have B2 := Aside0.mk hB2
  have S2 := Aside0.mk hs2
  clear ho2 hB2 hs2
  go_wp2_with fail
  refine (spells_any f up A0 l0.length c0 _).mono ?_
  rintro e w' ⟨rfl, rfl⟩
  obtain ⟨w4, hw4⟩ : ∃ x, (w2.alloc (.cells #[.int .i64 f, .bool up] 77)).alloc (.cells #[.slice A0 l0.length c0] 24) = x := ⟨_, rfl⟩
  have hx4 : Blk w4 (bo + 1) #[.int .i64 f, .bool up] 77 := by rw [← hw4, ← S2.out]; exact (Blk.new w2 _ _).alloc _
  have hl4 : Boxed w4 (bo + 1 + 1) 24 (.slice A0 l0.length c0) := by
    have := Boxed.new (w2.alloc (.cells #[.int .i64 f, .bool up] 77)) 24 (.slice A0 l0.length c0)
    rw [World.size_alloc, S2.out] at this
    rw [← hw4]; exact this
  have ho4 : Boxed w4 bo 52 (.slice none 0 0) := by rw [← hw4]; exact (O2.out.alloc _).alloc _
  have hB4 : Below w.heap.size w w4 := by rw [← hw4]; exact (B2.out.alloc (by have := S2.out; omega) _).alloc (by have := S2.out; simp; omega) _
  have hs4 : w4.heap.size = bo + 1 + 1 + 1 := by rw [← hw4, World.size_alloc, World.size_alloc, S2.out]
  rw [hw4, S2.out]
  clear hw4 S2 B2 O2
  have O4 := Aside0.mk ho4
  have B4 := Aside0.mk hB4
  have S4 := Aside0.mk hs4
  clear ho4 hB4 hs4
  go_wp2_with fail
  rw [← wpIn_wide (n := 9)]
  refine wpIn_rangeH rfl (by omega) (gf := 51) (lb := #[.pointer (some ⟨bo + 1 + 1, 0, none⟩), .pointer (some ⟨bo + 1, 0, none⟩)]) rfl trivial (enters_of Tryd.func51 (by kernel_rfl) rfl)
    (spells_stops (9 - 1) (by omega) w.heap.size (bo + 1 + 1) (bo + 1) (by omega) (by omega) A0 c0 l0 hc0 f up h0 h1 w rfl HC.out xs HXS.out w4 hl4 hx4 B4.out)
    keep3_t (fun W l o o' hl h _ _ => keep3_b (by have := S4.out; omega) (by have := S4.out; omega) (by have := S4.out; omega) W l o o' hl h) (Below.refl _ _) (fun _ => rfl)
    11 (SpI w.heap.size bo (bo + 1 + 1 + 1) w) (fun _ _ _ => False) ?hI (fun _ _ _ _ _ h _ _ => h.elim) ?h0 (fun x b W => bo + 1 + 1 + 1 ≤ b ∧ Blk W b #[.int .i64 x.1.f0, .int .i64 x.1.f1] 57) ?hAx ?assign ?body ?done ?stop
  case hI => exact OwnFrom.and ((holdsRow_own _ _ _ _ _ (fun pre : List (S57 × Bool) => pre.length) (fun pre => cellsS (pre.map (·.1))) (fun _ _ => True)).from _) (OwnFrom.and ((own_size _).from _) (ownFrom_below (Nat.le_refl _) (by have := S4.out; omega)))
  case h0 => exact ⟨⟨_, O4.out, World.ownsRow_nil _ _ _ _, trivial⟩, by rw [S4.out]; omega, B4.out⟩
  case hAx => exact fun x b => OwnFrom.and (ownFrom_pure _ (fun _ => bo + 1 + 1 + 1 ≤ b)) ((blk_own b 57 (fun _ => #[.int .i64 x.1.f0, .int .i64 x.1.f1])).from _)
  case assign =>
    rintro l pre ⟨⟨s0, s1⟩, ended⟩ W K ⟨⟨v, hv, hrow, _⟩, hsz, hB⟩ hK
    have key := hK W.heap.size (W.alloc (.cells #[.int .i64 s0, .int .i64 s1] 57)) ((KeepsOthers.alloc W _).from _) (keep3_alloc W _ (by omega) (by omega) (by omega)) ⟨⟨v, hv.alloc _, hrow.alloc _, trivial⟩, by rw [World.size_alloc]; omega, hB.alloc (by omega) _⟩ ⟨hsz, Blk.new W _ _⟩
    have KEY := Aside0.mk key
    clear key hK hv hrow
    simp only [encS]
    gi_wp2
    have key := KEY.out
    simp [rAct, encS] at key
    exact key
  case body =>
    rintro l pre ⟨⟨s0, s1⟩, ended⟩ b W hl hr ⟨⟨v, hv, hrow, _⟩, hsz, hB⟩ ⟨hb, hblk⟩ hlen
    have c0 := hblk.cell 0 rfl
    have c1 := hblk.cell 1 rfl
    have cv := hv.cell
    have fv := hv.frozen
    obtain ⟨g', cap, ev⟩ : ∃ g cap, v = .slice g pre.length cap := by
      rcases hrow.2 with ⟨e1, e2⟩ | ⟨g, cap, _, e1, _⟩
      · exact ⟨none, 0, by rw [e1, e2]⟩
      · exact ⟨_, _, e1⟩
    subst ev
    clear hblk
    have hs4 := S4.out
    have hlen2 : pre.length ≤ 10000000 := by omega
    simp only [encS, rAct]
    gi_wp2_with (gi_at_builtin; refine wpListIn_append_own _ rfl _ _ 52 rfl (bo + 1 + 1 + 1) 57 i0 (.agg #[.int .i64 0, .int .i64 0]) 2 16 Tryd.underlying52 hi hz0 hz1 hz2 rfl (by decide) _ _ _ rfl (hrow.alloc _) ⟨W.heap.size, 0, none⟩ 1 1 [.int .i64 s0, .int .i64 s1] rfl rfl (cell_two_new _ _ _ _) (by simp [Value.oneCell']) (by unfold maxLen; omega) (by omega) (by simp; omega) ?_; intro v' w1 hown' hgrow _; obtain ⟨g', cap', rfl⟩ := ownsRow_succ hown'; obtain ⟨hv1, hv2, _, hk2, hb2⟩ := hv.appended (by decide) (own_weaken hrow (show w.heap.size ≤ bo + 1 + 1 + 1 by omega)) hB.size (by omega) (own_weaken hown' (show w.heap.size ≤ bo + 1 + 1 + 1 by omega)) hgrow; have hc1 := hv1.cell; have hf1 := hv1.frozen)
    have hlow : ∀ b, b < bo + 1 + 1 + 1 → b ≠ bo → (w1.setCell ⟨bo, 0, none⟩ (Value.slice (some ⟨g', 0, none⟩) (pre.length + 1) cap')).heap[b]? = W.heap[b]? := fun b hb hne =>
      (Below.heap_setCell _ ⟨bo, 0, none⟩ _ b hne).trans (kept_low hrow hgrow hb (by omega))
    have hr2 := hown'.kept (grownBy_setCell' w1 bo (Value.slice (some ⟨g', 0, none⟩) (pre.length + 1) cap')) (.inr (hv1.not_row (by decide) hown').symm)
    exact ⟨hk2.from _, ⟨hlow _ (by omega) (by omega), hlow _ (by omega) (by omega), hb2⟩, ⟨_, hv2, by simpa [cellsS] using hr2, trivial⟩, Nat.le_trans hsz hb2.size, hB.trans hb2⟩
  case done =>
    rintro D ys W hD rfl ⟨⟨v, hv, hrow, _⟩, hsz, hB⟩ hK
    have cv := hv.cell
    have HK := Aside0.mk hK
    obtain ⟨g', cap, ev⟩ : ∃ g cap, v = .slice g ys.length cap := by
      rcases hrow.2 with ⟨e1, e2⟩ | ⟨g, cap, _, e1, _⟩
      · exact ⟨none, 0, by rw [e1, e2]⟩
      · exact ⟨_, _, e1⟩
    subst ev
    clear hK
    go_wp2_with fail
    refine ⟨by simp, .inl ⟨_, _, rfl, run_takeDeferred (by exact HK.out), ?_⟩⟩
    refine ⟨.tuple #[.slice g' ys.length cap, .int .i64 0], by simp [results, Tryd.results22, go_sem], _, rfl, own_weaken (ownsRow_putObj hrow (Obj.deferred none) HK.out rfl) (by omega), ?_⟩
    exact hB.trans (belowK_b (w := w) (Nat.le_refl _) _ D _ _ (by have := S4.out; omega) HK.out rfl rfl)
  case stop => exact fun _ _ _ _ _ _ h _ => h.elim

theorem spF_len (l : List S41) (f : Int) (up : Bool) : ∀ (d i : Nat) (frm : Int), (spF l f up d i frm).length ≤ d + 1
  | 0, _, frm => by unfold spF; split <;> simp
  | d + 1, i, frm => by
    have h1 := spF_len l f up d (i + 1) i
    have h2 := spF_len l f up d (i + 1) frm
    have h3 := spF_len l f up d (i + 1) (-1)
    unfold spF
    split
    · split <;> omega
    · split
      · simp; omega
      · omega
theorem check_len {k : Nat} {l : List S41} {i : Int} (h : report_Check.f k l = some (0, i)) : l.length ≤ 20000 := by
  unfold report_Check.f at h
  by_cases hl : (l.length : Int) > 20000
  · rw [if_pos hl] at h
    simp at h
  · omega

theorem report_Spells.calls (k : Nat) (A0 : Option Addr) (c0 : Nat) (l0 : List S41) (a1 : Int) (a2 : Bool) (r1 : List S57) (r2 : Int) (w : World) (hr0 : Kd.C k41 w A0 l0.length l0) (hc0 : l0.length ≤ c0) (h : report_Spells.f k l0 a1 a2 = some (r1, r2)) :
    Calls Tryd.prog 22 #[.slice A0 l0.length c0, .int .i64 a1, .bool a2] w fun e w' => ∃ v0_ : Value, e = .returned (.tuple #[v0_, .int .i64 r2]) ∧ Kd.R k57 57 w' w.heap.size (fun _ => True) v0_ r1 ∧ Below w.heap.size w w' := by
  obtain ⟨⟨e, i⟩, he, h⟩ := Option.bind_eq_some_iff.1 h
  have no : (e = 0 → a1 < 0 ∨ 64 ≤ a1) → r1 = [] → r2 = (if e = 0 then 2 else e) → Calls Tryd.prog 22 #[.slice A0 l0.length c0, .int .i64 a1, .bool a2] w fun e w' => ∃ v0_ : Value, e = .returned (.tuple #[v0_, .int .i64 r2]) ∧ Kd.R k57 57 w' w.heap.size (fun _ => True) v0_ r1 ∧ Below w.heap.size w w' := by
    rintro hn rfl hr
    exact (Spells_no k A0 c0 l0 a1 a2 e i r2 w hr0 hc0 he hr hn).mono fun x w' ⟨hx, hB⟩ => ⟨_, hx, Kd.R_nil _ _ _ _ _, hB⟩
  by_cases h0 : e = 0
  · rw [if_pos h0] at h
    by_cases h1 : a1 < 0 ∨ 64 ≤ a1
    · rw [if_pos h1] at h
      obtain ⟨rfl, rfl⟩ := Prod.mk.inj (Option.some.inj h)
      exact no (fun _ => h1) rfl (by rw [if_pos h0])
    · rw [if_neg h1] at h
      obtain ⟨rfl, rfl⟩ := Prod.mk.inj (Option.some.inj h)
      subst h0
      have hl := check_len he
      refine (Spells_yes k A0 c0 l0 a1 a2 i w hr0 hc0 he (by omega) (by omega) _ (by have := spF_len l0 a1 a2 l0.length 0 (-1); omega) rfl).mono ?_
      rintro x w' ⟨v, rfl, hr, hB⟩
      exact ⟨_, rfl, R57_of_own (by rw [List.length_map]; exact hr), hB⟩
  · rw [if_neg h0] at h
    obtain ⟨rfl, rfl⟩ := Prod.mk.inj (Option.some.inj h)
    exact no (fun h => absurd h h0) rfl (by rw [if_neg h0])

end Go.Proofs.YtenlokaaloenmaaDoor.S

namespace Go.Proofs.YtenlokaaloenmaaDoor.S
open Go.RowKit Go.Proofs.YtenlokaaloenmaaDoorW.PrintWords Go.Proofs.YtenlokaaloenmaaDoorW.PrintLast Go.Proofs.YtenlokaaloenmaaDoorW.PrintMore
attribute [local go_sem] Oper.semAt_some wide_fn wideR_fn
attribute [local simp] wide_fn wideR_fn

theorem info39 : ∃ i, Tryd.prog.info? 39 = some i := by
  have : (Tryd.prog.info? 39).isSome = true := by kernel_rfl
  exact Option.isSome_iff_exists.1 this
theorem eqB85 (d : Nat) (w : World) (a b c e : Int) : (Op.equalIn (d + 2) 85 (.agg #[.int .u64 a, .int .u64 b]) (.agg #[.int .u64 c, .int .u64 e])).run Tryd.prog w = .ok (a == c && b == e) w := by
  obtain ⟨i, hi⟩ := info39
  have h39 := Tryd.underlying39
  have hc : Tryd.prog.cellsOf 39 = 1 := by kernel_rfl
  rw [run_equalIn_array (P := Tryd.prog) (w := w) (d + 1) _ _ Tryd.underlying85 hi, hc]
  simp [List.range, List.range.loop, Op.eqItems, part, go_sem, h39]
  by_cases h1 : a = c
  · by_cases h2 : b = e <;> simp [h1, h2]
  · simp [h1]
attribute [local go_sem high] eqB85

end Go.Proofs.YtenlokaaloenmaaDoor.S

namespace Go.Proofs.YtenlokaaloenmaaDoor.S
open Go.RowKit Go.Proofs.YtenlokaaloenmaaDoorW.PrintWords Go.Proofs.YtenlokaaloenmaaDoorW.PrintLast Go.Proofs.YtenlokaaloenmaaDoorW.PrintMore
attribute [local go_sem] Oper.semAt_some wide_fn wideR_fn
attribute [local simp] wide_fn wideR_fn

/-- The variables of Longest: its argument, and what it hands back. -/
structure LgW (b0 : Nat) (w0 : World) (A : Option Addr) (n c : Nat) (f : Int) (up : Bool) (s t : Int) (w : World) : Prop where
  l : Boxed w b0 24 (.slice A n c)
  f : Boxed w (b0 + 1) 3 (.int .i64 f)
  u : Boxed w (b0 + 1 + 1) 4 (.bool up)
  s : Blk w (b0 + 1 + 1 + 1) #[.int .i64 s, .int .i64 t] 57
  b : Below b0 w0 w
theorem LgW.new (w : World) (A : Option Addr) (n c : Nat) : LgW w.heap.size w A n c 0 false 0 0 ((((w.alloc (.cells #[.slice A n c] 24)).alloc (.cells #[.int .i64 0] 3)).alloc (.cells #[.bool false] 4)).alloc (.cells #[.int .i64 0, .int .i64 0] 57)) := by
  have h1 := Boxed.new w 24 (.slice A n c)
  have h2 := Boxed.new (w.alloc (.cells #[.slice A n c] 24)) 3 (.int .i64 0)
  have h3 := Boxed.new ((w.alloc (.cells #[.slice A n c] 24)).alloc (.cells #[.int .i64 0] 3)) 4 (.bool false)
  have h4 := Blk.new (((w.alloc (.cells #[.slice A n c] 24)).alloc (.cells #[.int .i64 0] 3)).alloc (.cells #[.bool false] 4)) #[.int .i64 0, .int .i64 0] 57
  simp only [World.size_alloc] at h2 h3 h4
  exact ⟨((h1.alloc _).alloc _).alloc _, (h2.alloc _).alloc _, h3.alloc _, h4, ((((Below.refl _ w).alloc (Nat.le_refl _) _).alloc (by simp) _).alloc (by simp; omega) _).alloc (by simp; omega) _⟩
theorem LgW.below {b0 : Nat} {w0 w w' : World} {A : Option Addr} {n c : Nat} {f : Int} {up : Bool} {s t : Int} (h : LgW b0 w0 A n c f up s t w) (hb : Below w.heap.size w w') (hn : b0 ≤ w.heap.size) : LgW b0 w0 A n c f up s t w' :=
  ⟨(hb.block _ h.l.lt).trans h.l, (hb.block _ h.f.lt).trans h.f, (hb.block _ h.u.lt).trans h.u, h.s.below hb h.s.lt, h.b.trans (hb.mono hn)⟩

theorem LgW.own {β : Type} {b0 : Nat} {w0 : World} {A : Option Addr} {n c B : Nat} (st : β → (Int × Bool) × Int × Int) (h0 : b0 ≤ w0.heap.size) (hB : b0 ≤ B) : OwnFrom B (fun s W => LgW b0 w0 A n c (st s).1.1 (st s).1.2 (st s).2.1 (st s).2.2 W) := fun s X Y row hs hg hr =>
  ⟨((boxed_own b0 24 (fun _ : Unit => .slice A n c)).from B) () X Y row hs.l hg hr, ((boxed_own (b0 + 1) 3 (fun _ : Unit => .int .i64 (st s).1.1)).from B) () X Y row hs.f hg hr, ((boxed_own (b0 + 1 + 1) 4 (fun _ : Unit => .bool (st s).1.2)).from B) () X Y row hs.u hg hr,
   ((blk_own (b0 + 1 + 1 + 1) 57 (fun _ : Unit => #[.int .i64 (st s).2.1, .int .i64 (st s).2.2])).from B) () X Y row hs.s hg hr, (ownFrom_below (β := Unit) h0 hB) () X Y row hs.b hg hr⟩
theorem LgW.alloc {b0 : Nat} {w0 w : World} {A : Option Addr} {n c : Nat} {f : Int} {up : Bool} {s t : Int} (h : LgW b0 w0 A n c f up s t w) (hn : b0 ≤ w.heap.size) (o : Obj) : LgW b0 w0 A n c f up s t (w.alloc o) :=
  ⟨h.l.alloc o, h.f.alloc o, h.u.alloc o, h.s.alloc o, h.b.alloc hn o⟩
theorem keepA_t {n0 b : Nat} {A B C : World} (h : KeepA n0 b A B) (k : KeepA n0 b B C) : KeepA n0 b A C := ⟨k.1.trans h.1, h.2.trans k.2⟩
theorem keepA_b {n0 b N : Nat} (h1 : b < N) (hn : n0 ≤ N) (W : World) (l : Nat) (o o' : Obj) (hl : N ≤ l) (h : W.heap[l]? = some o) : KeepA n0 b W (W.putObj l o') :=
  ⟨World.putObj_heap_other (by omega), (Below.refl n0 W).grown (grownBy_putObj' W l o') (by have := (Array.getElem?_eq_some_iff.1 h).1; omega) (fun k e => by cases e; omega)⟩

abbrev lgSet (b0 : Nat) (w : World) (f : Int) (up : Bool) (s t : Int) : World := (((w.setCell ⟨b0 + 1, 0, none⟩ (.int .i64 f)).setCell ⟨b0 + 1 + 1, 0, none⟩ (.bool up)).setCell ⟨b0 + 1 + 1 + 1, 0, none⟩ (.int .i64 s)).setCell ⟨b0 + 1 + 1 + 1, 1, none⟩ (.int .i64 t)
theorem boxed_far {W : World} {B : Nat} {t : TypeId} {v : Value} (h : Boxed W B t v) (a : Addr) (u : Value) (hne : ¬ B = a.block) : Boxed (W.setCell a u) B t v := (Below.heap_setCell W a u B hne).trans h
theorem LgW.set {b0 : Nat} {w0 w : World} {A : Option Addr} {n c : Nat} {f : Int} {up : Bool} {s t : Int} (h : LgW b0 w0 A n c f up s t w) (f' : Int) (up' : Bool) (s' t' : Int) : LgW b0 w0 A n c f' up' s' t' (lgSet b0 w f' up' s' t') where
  l := boxed_far (boxed_far (boxed_far (boxed_far h.l _ _ (by simp)) _ _ (by simp; omega)) _ _ (by simp; omega)) _ _ (by simp; omega)
  f := boxed_far (boxed_far (boxed_far (h.f.set _) _ _ (by simp)) _ _ (show ¬ b0 + 1 = b0 + 1 + 1 + 1 by omega)) _ _ (show ¬ b0 + 1 = b0 + 1 + 1 + 1 by omega)
  u := boxed_far (boxed_far ((boxed_far h.u _ _ (by simp)).set _) _ _ (by simp)) _ _ (by simp)
  s := (((h.s.far _ _ (by simp; omega)).far _ _ (by simp)).set 0 _).set 1 _
  b := (((h.b.setCell (p := ⟨b0 + 1, 0, none⟩) (by simp) _).setCell (p := ⟨b0 + 1 + 1, 0, none⟩) (by simp; omega) _).setCell (p := ⟨b0 + 1 + 1 + 1, 0, none⟩) (by simp; omega) _).setCell (p := ⟨b0 + 1 + 1 + 1, 1, none⟩) (by simp; omega) _
theorem or_range (a b : Int) : 0 ≤ Go.bits .or .u64 a b ∧ Go.bits .or .u64 a b < 18446744073709551616 := by
  have h : Go.bits .or .u64 a b = IntKind.u64.wrap ((BitVec.ofInt 64 a ||| BitVec.ofInt 64 b).toNat : Int) := rfl
  rw [h, IntKind.wrap_u64]
  omega
theorem or_fold (f : S41 → Int) : ∀ (l : List S41) (a : Int), 0 ≤ a → a < 18446744073709551616 → 0 ≤ l.foldl (fun a v => Go.bits .or .u64 a (f v)) a ∧ l.foldl (fun a v => Go.bits .or .u64 a (f v)) a < 18446744073709551616
  | [], _, h0, h1 => ⟨h0, h1⟩
  | v :: l, a, _, _ => or_fold f l _ (or_range a (f v)).1 (or_range a (f v)).2
theorem orU_range (l : List S41) : 0 ≤ orU l ∧ orU l < 18446744073709551616 := or_fold (fun v => v.f3) l 0 (by decide) (by decide)
theorem orD_range (l : List S41) : 0 ≤ orD l ∧ orD l < 18446744073709551616 := or_fold (fun v => v.f4) l 0 (by decide) (by decide)

end Go.Proofs.YtenlokaaloenmaaDoor.S
end

section
namespace Go.Proofs.YtenlokaaloenmaaDoor.S
open Go.RowKit Go.Proofs.YtenlokaaloenmaaDoorW.PrintWords Go.Proofs.YtenlokaaloenmaaDoorW.PrintLast Go.Proofs.YtenlokaaloenmaaDoorW.PrintMore
attribute [local go_sem] Go.Proofs.YtenlokaaloenmaaDoorW.PrintXtra.isSome_setCell max2_int min2_int max_two min_two max_three min_three max_four min_four   -- for this text's walks alone
set_option linter.unusedVariables false
set_option linter.unusedSimpArgs false

attribute [local go_sem high] eqA57
/-! ### tipstafflaw43_stretches: function 24 -/
def tipstafflaw43_stretches.l0 : Nat → List (S57) → List (S57) → Int → Option (Bool)
  | 0, _, _, _ => none
  | k + 1, x0, x1, x5 => if x5 < (x0.length : Int) then (if 0 ≤ x5 then (if x5 < (x1.length : Int) then (if (!(((rd_T57 x0 x5).f0) == ((rd_T57 x1 x5).f0)) || (!(((rd_T57 x0 x5).f1) == ((rd_T57 x1 x5).f1)))) = true then (none) else (tipstafflaw43_stretches.l0 k x0 x1 (wrap64 (x5 + 1)))) else (none)) else (none)) else (some true)
def tipstafflaw43_stretches.f (k : Nat) (l0 : List (S57)) (l1 : List (S57)) : Option (Bool) := if (l0.length : Int) = (l1.length : Int) then (tipstafflaw43_stretches.l0 k l0 l1 0) else (none)
set_option maxHeartbeats 8000000 in
set_option maxRecDepth 100000 in
theorem tipstafflaw43_stretches.calls (k : Nat) (A0 : Option Addr) (c0 : Nat) (l0 : List (S57)) (A1 : Option Addr) (c1 : Nat) (l1 : List (S57)) (r : Bool) (w : World) (hr0 : Kd.C k57 w A0 l0.length l0) (hc0 : l0.length ≤ c0) (hr1 : Kd.C k57 w A1 l1.length l1) (hc1 : l1.length ≤ c1) (h : tipstafflaw43_stretches.f k l0 l1 = some r) :
    Calls Tryd.prog 24 #[.slice A0 l0.length c0, .slice A1 l1.length c1] w fun e w' => e = .returned (.bool r) ∧ Drawn0 w w' := by
  have hu57 := Tryd.underlying57
  have HR0 := Aside0.mk hr0
  have HC0 := Aside0.mk hc0
  clear hr0 hc0
  have HR1 := Aside0.mk hr1
  have HC1 := Aside0.mk hc1
  clear hr1 hc1
  have H : (if (l0.length : Int) = (l1.length : Int) then (tipstafflaw43_stretches.l0 k l0 l1 0) else (none)) = some r := h
  clear h
  by_cases c3 : (l0.length : Int) = (l1.length : Int)
  · rw [if_pos c3] at H
    have c3b0 : ((l0.length : Int) == (l1.length : Int)) = true := beq_iff_eq.mpr c3
    have c3b1 : ((l0.length : Int) != (l1.length : Int)) = false := bne_eq_false_iff_eq.mpr c3
    have c3b2 : (l0.length == l1.length) = true := by first | simpa using c3 | (simp at c3 ⊢; omega)
    clear c3
    have H' := Aside0.mk H
    clear H
    go_enter Tryd.func24, Tryd.ntmps24
    go_wp2
    repeat (go_quiet (fail); try go_wp2)
    go_loopg [5] k (fun kq v5 w' => ∃ (x5_1 : Int), v5 = .int .i64 x5_1 ∧ Aside0 (tipstafflaw43_stretches.l0 kq l0 l1 x5_1 = some r) ∧ Aside0 (kq ≤ k) ∧ Drawn0 w w')
    case atStart => exact ⟨(0), (by first | rfl | (simp; done) | (simp [*]; done)), H', ⟨Nat.le_refl _⟩, by repeat (first | exact Drawn0.refl _ | apply Drawn0.step)⟩
    case round =>
      clear H'
      try clear c1
      try clear c2
      try clear p2
      try clear c3
      try clear c3b0
      try clear c3b1
      try clear c3b2
      obtain ⟨x5_1, rfl, HA, HK1, ⟨m1, rfl⟩⟩ := hrel
      cases gk with
      | zero => exact absurd HA.out (by simp [tipstafflaw43_stretches.l0])
      | succ k1 =>
        have H := HA.out
        clear HA
        simp only [tipstafflaw43_stretches.l0] at H
        by_cases c4 : x5_1 < (l0.length : Int)
        · rw [if_pos c4] at H
          have c4b0 : decide (x5_1 < (l0.length : Int)) = true := decide_eq_true c4
          clear c4
          by_cases c5 : 0 ≤ x5_1
          · rw [if_pos c5] at H
            have c5b0 : decide (0 ≤ x5_1) = true := decide_eq_true c5
            clear c5
            by_cases c6 : x5_1 < (l1.length : Int)
            · rw [if_pos c6] at H
              have c6b0 : decide (x5_1 < (l1.length : Int)) = true := decide_eq_true c6
              clear c6
              by_cases c7 : (!(((rd_T57 l0 x5_1).f0) == ((rd_T57 l1 x5_1).f0)) || (!(((rd_T57 l0 x5_1).f1) == ((rd_T57 l1 x5_1).f1)))) = true
              · rw [if_pos c7] at H
                exact absurd H (by simp)
              · rw [if_neg c7] at H
                have c7b0 : (!(((rd_T57 l0 x5_1).f0) == ((rd_T57 l1 x5_1).f0)) || (!(((rd_T57 l0 x5_1).f1) == ((rd_T57 l1 x5_1).f1)))) = false := by simpa using c7
                clear c7
                have H' := Aside0.mk H
                clear H
                have p164 : 0 ≤ (x5_1 : Int) := of_decide_eq_true (by first | (with_reducible assumption) | assumption)
                have q164 : x5_1 < (l0.length : Int) := of_decide_eq_true (by first | (with_reducible assumption) | assumption)
                obtain ⟨ad164, e164, hx164_0, hx164_1⟩ := at_T57 HR0.out x5_1 p164 q164
                cases e164
                replace p164 := eq_true p164
                replace q164 := eq_true q164
                have p165 : 0 ≤ (x5_1 : Int) := of_decide_eq_true (by first | (with_reducible assumption) | assumption)
                have q165 : x5_1 < (l1.length : Int) := of_decide_eq_true (by first | (with_reducible assumption) | assumption)
                obtain ⟨ad165, e165, hx165_0, hx165_1⟩ := at_T57 HR1.out x5_1 p165 q165
                cases e165
                replace p165 := eq_true p165
                replace q165 := eq_true q165
                go_wp2
                repeat (go_quiet (fail); try go_wp2)
                go_roundg k1
                case measure => have := HK1.out; omega
                case rel => exact ⟨(wrap64 (x5_1 + 1)), (by first | rfl | (simp; done) | (simp [*]; done)), H', ⟨by have := HK1.out; omega⟩, by repeat (first | exact Drawn0.refl _ | apply Drawn0.step)⟩
            · rw [if_neg c6] at H
              exact absurd H (by simp)
          · rw [if_neg c5] at H
            exact absurd H (by simp)
        · rw [if_neg c4] at H
          have c4b0 : decide (x5_1 < (l0.length : Int)) = false := decide_eq_false c4
          clear c4
          obtain rfl := Option.some.inj H
          go_wp2
          repeat (go_quiet (fail); try go_wp2)
          go_ret
          exact ⟨by first | rfl | (simp; done) | (simp [*]; done), by repeat (first | exact Drawn0.refl _ | apply Drawn0.step)⟩
  · rw [if_neg c3] at H
    exact absurd H (by simp)

/-! ### tipstafflaw43_spell: function 34 -/
def tipstafflaw43_spell.f (k : Nat) (a0 : Int) (a1 : Bool) (l2 : List (S57)) : Option (Bool) := (tipstafflaw43_shown.f).bind fun t166 => ((report_Spells.f k t166 a0 a1).bind fun bt169 => (if bt169.2 = 0 then ((tipstafflaw43_stretches.f k bt169.1 l2).bind fun t173 => (some t173)) else (none)))
set_option maxHeartbeats 8000000 in
set_option maxRecDepth 100000 in
theorem tipstafflaw43_spell.calls (k : Nat) (a0 : Int) (a1 : Bool) (A2 : Option Addr) (c2 : Nat) (l2 : List (S57)) (r : Bool) (w : World) (hr2 : Kd.C k57 w A2 l2.length l2) (hc2 : l2.length ≤ c2) (h : tipstafflaw43_spell.f k a0 a1 l2 = some r) :
    Calls Tryd.prog 34 #[.int .i64 a0, .bool a1, .slice A2 l2.length c2] w fun e w' => e = .returned (.bool r) ∧ Below w.heap.size w w' := by
  have HR2 := Aside0.mk hr2
  have HC2 := Aside0.mk hc2
  clear hr2 hc2
  have HB := Aside0.mk (Below.refl w.heap.size w)
  have H : ((tipstafflaw43_shown.f).bind fun t166 => ((report_Spells.f k t166 a0 a1).bind fun bt169 => (if bt169.2 = 0 then ((tipstafflaw43_stretches.f k bt169.1 l2).bind fun t173 => (some t173)) else (none)))) = some r := h
  clear h
  replace H := Option.bind_eq_some_iff.mp H
  obtain ⟨t166, A40, H⟩ := H
  replace H : ((report_Spells.f k t166 a0 a1).bind fun bt169 => (if bt169.2 = 0 then ((tipstafflaw43_stretches.f k bt169.1 l2).bind fun t173 => (some t173)) else (none))) = some r := H
  have A4 := Aside0.mk A40
  clear A40
  replace H := Option.bind_eq_some_iff.mp H
  obtain ⟨⟨t169, t170⟩, A50, H⟩ := H
  replace H : (if t170 = 0 then ((tipstafflaw43_stretches.f k t169 l2).bind fun t173 => (some t173)) else (none)) = some r := H
  have A5 := Aside0.mk A50
  clear A50
  by_cases c6 : t170 = 0
  · rw [if_pos c6] at H
    have c6b0 : (t170 == 0) = true := beq_iff_eq.mpr c6
    have c6b1 : (t170 != 0) = false := bne_eq_false_iff_eq.mpr c6
    clear c6
    replace H := Option.bind_eq_some_iff.mp H
    obtain ⟨t173, A70, H⟩ := H
    replace H : (some t173) = some r := H
    have A7 := Aside0.mk A70
    clear A70
    obtain rfl := Option.some.inj H
    go_enter Tryd.func34, Tryd.ntmps34
    go_wp2_with (first | ((with_reducible refine gate_callee (f := 33) rfl ?_); refine goesL_ (some 10) rfl rfl Tryd.func33 (by kernel_rfl) rfl #[] rfl (by (try simp only [List.map_toArray, List.map_cons, List.map_nil]); first | done | rfl | (simp only [List.length_drop, List.length_take]; rfl)) ?_; (with_reducible refine (tipstafflaw43_shown.calls  t166 _ A4.out).mono ?_); rintro e w8 ⟨v167, rfl, ho0, hb⟩; refine ⟨_, rfl, ?_⟩; have n0_ := Aside0.mk (Kd.N_lower (Kd.N_mono (ok' := fun k_ => True) ho0 (fun k_ hk_ => trivial)) (below_size (by repeat (first | (with_reducible first | exact HB.out | apply below_alloc | apply pw_below_drewN | apply below_drew1) | exact HB.out)))); have n1_ := Aside0.mk (below_step (by repeat (first | (with_reducible first | exact HB.out | apply below_alloc | apply pw_below_drewN | apply below_drew1) | exact HB.out)) hb); clear HB; have HO168 := n0_; have HB := n1_; clear n0_ n1_; (try clear hb); (try clear hb2); (try clear hk); (try clear hi); (try clear ho0); obtain ⟨Ao9, co9, eo9⟩ := Kd.N_slice HO168.out; subst eo9) | ((with_reducible refine gate_callee (f := 22) rfl ?_); refine goesL_ (some 13) rfl rfl Tryd.func22 (by kernel_rfl) rfl #[.slice Ao9 t166.length co9, .int .i64 a0, .bool a1] rfl (by (try simp only [List.map_toArray, List.map_cons, List.map_nil]); first | done | rfl | (simp only [List.length_drop, List.length_take]; rfl)) ?_; (with_reducible refine (report_Spells.calls k _ _ t166 a0 a1 t169 t170 _ ?side1 ?side2 A5.out).mono ?_); (case side1 => repeat (first | exact (Kd.N_reads' HO168.out).2.2 | (with_reducible refine Kd.C_alloc ?_ _) | (with_reducible refine Kd.C_drewN ?_ _) | (with_reducible refine Kd.C_drew ?_))); (case side2 => exact (Kd.N_reads' HO168.out).2.1); rintro e w10 ⟨v171, rfl, ho0, hb⟩; refine ⟨_, rfl, ?_⟩; have n0_ := Aside0.mk (Kd.N_elder' (by (with_reducible repeat (first | apply Kd.N_alloc | apply Kd.N_drewN | apply Kd.N_drew)); exact HO168.out) (Kd.R_base ho0) hb); have n1_ := Aside0.mk (Kd.R_lower ho0 (below_size (by repeat (first | (with_reducible first | exact HB.out | apply below_alloc | apply pw_below_drewN | apply below_drew1) | exact HB.out)))); have n2_ := Aside0.mk (below_step (by repeat (first | (with_reducible first | exact HB.out | apply below_alloc | apply pw_below_drewN | apply below_drew1) | exact HB.out)) hb); clear HO168; clear HB; have HO168 := n0_; have HO172 := n1_; have HB := n2_; clear n0_ n1_ n2_; (try clear hb); (try clear hb2); (try clear hk); (try clear hi); (try clear ho0); obtain ⟨Ao11, co11, eo11⟩ := Kd.R_slice HO172.out; subst eo11) | (go_at_call 24; (with_reducible refine (tipstafflaw43_stretches.calls k _ _ t169 _ _ l2 t173 _ ?side1 ?side2 ?side3 ?side4 A7.out).mono ?_); (case side1 => repeat (first | exact (Kd.R_reads' HO172.out).2.2 | (with_reducible refine Kd.C_alloc ?_ _) | (with_reducible refine Kd.C_drewN ?_ _) | (with_reducible refine Kd.C_drew ?_))); (case side2 => exact (Kd.R_reads' HO172.out).2.1); (case side3 => repeat (first | exact (Kd.C_below HR2.out HB.out) | (with_reducible refine Kd.C_alloc ?_ _) | (with_reducible refine Kd.C_drewN ?_ _) | (with_reducible refine Kd.C_drew ?_))); (case side4 => exact HC2.out); rintro e w' ⟨rfl, ⟨nd, rfl⟩⟩))
    go_ret
    exact ⟨by first | rfl | (simp [errW_none, errW_some] <;> rfl) | (simp [*, errW_none, errW_some] <;> rfl) | (simp (discharger := omega) only [Int.tdiv_eq_ediv_of_nonneg, Int.tmod_eq_emod_of_nonneg] <;> rfl), by repeat (first | (with_reducible first | exact HB.out | apply below_alloc | apply pw_below_drewN | apply below_drew1) | exact HB.out)⟩
  · rw [if_neg c6] at H
    exact absurd H (by simp)

/-! ### tipstaffkit_SameInts: function 29 -/
def tipstaffkit_SameInts.l0 : Nat → List Int → List Int → Int → Option (Bool)
  | 0, _, _, _ => none
  | k + 1, x0, x1, x5 => if x5 < (x0.length : Int) then (if 0 ≤ x5 then (if x5 < (x1.length : Int) then (if (rd x0 x5) = (rd x1 x5) then (tipstaffkit_SameInts.l0 k x0 x1 (wrap64 (x5 + 1))) else (none)) else (none)) else (none)) else (some true)
def tipstaffkit_SameInts.f (k : Nat) (l0 : List Int) (l1 : List Int) : Option (Bool) := if (l0.length : Int) = (l1.length : Int) then (tipstaffkit_SameInts.l0 k l0 l1 0) else (none)
set_option maxHeartbeats 8000000 in
set_option maxRecDepth 100000 in
theorem tipstaffkit_SameInts.calls (k : Nat) (A0 : Option Addr) (c0 : Nat) (l0 : List Int) (A1 : Option Addr) (c1 : Nat) (l1 : List Int) (r : Bool) (w : World) (hr0 : Kd.C (Kd.int .i64) w A0 l0.length l0) (hc0 : l0.length ≤ c0) (hr1 : Kd.C (Kd.int .i64) w A1 l1.length l1) (hc1 : l1.length ≤ c1) (h : tipstaffkit_SameInts.f k l0 l1 = some r) :
    Calls Tryd.prog 29 #[.slice A0 l0.length c0, .slice A1 l1.length c1] w fun e w' => e = .returned (.bool r) ∧ Drawn0 w w' := by
  have HR0 := Aside0.mk hr0
  have HC0 := Aside0.mk hc0
  clear hr0 hc0
  have HR1 := Aside0.mk hr1
  have HC1 := Aside0.mk hc1
  clear hr1 hc1
  have H : (if (l0.length : Int) = (l1.length : Int) then (tipstaffkit_SameInts.l0 k l0 l1 0) else (none)) = some r := h
  clear h
  by_cases c3 : (l0.length : Int) = (l1.length : Int)
  · rw [if_pos c3] at H
    have c3b0 : ((l0.length : Int) == (l1.length : Int)) = true := beq_iff_eq.mpr c3
    have c3b1 : ((l0.length : Int) != (l1.length : Int)) = false := bne_eq_false_iff_eq.mpr c3
    have c3b2 : (l0.length == l1.length) = true := by first | simpa using c3 | (simp at c3 ⊢; omega)
    clear c3
    have H' := Aside0.mk H
    clear H
    go_enter Tryd.func29, Tryd.ntmps29
    go_wp2
    repeat (go_quiet (fail); try go_wp2)
    go_loopg [5] k (fun kq v5 w' => ∃ (x5_1 : Int), v5 = .int .i64 x5_1 ∧ Aside0 (tipstaffkit_SameInts.l0 kq l0 l1 x5_1 = some r) ∧ Aside0 (kq ≤ k) ∧ Drawn0 w w')
    case atStart => exact ⟨(0), (by first | rfl | (simp; done) | (simp [*]; done)), H', ⟨Nat.le_refl _⟩, by repeat (first | exact Drawn0.refl _ | apply Drawn0.step)⟩
    case round =>
      clear H'
      try clear c1
      try clear c2
      try clear p2
      try clear c3
      try clear c3b0
      try clear c3b1
      try clear c3b2
      obtain ⟨x5_1, rfl, HA, HK1, ⟨m1, rfl⟩⟩ := hrel
      cases gk with
      | zero => exact absurd HA.out (by simp [tipstaffkit_SameInts.l0])
      | succ k1 =>
        have H := HA.out
        clear HA
        simp only [tipstaffkit_SameInts.l0] at H
        by_cases c4 : x5_1 < (l0.length : Int)
        · rw [if_pos c4] at H
          have c4b0 : decide (x5_1 < (l0.length : Int)) = true := decide_eq_true c4
          clear c4
          by_cases c5 : 0 ≤ x5_1
          · rw [if_pos c5] at H
            have c5b0 : decide (0 ≤ x5_1) = true := decide_eq_true c5
            clear c5
            by_cases c6 : x5_1 < (l1.length : Int)
            · rw [if_pos c6] at H
              have c6b0 : decide (x5_1 < (l1.length : Int)) = true := decide_eq_true c6
              clear c6
              by_cases c7 : (rd l0 x5_1) = (rd l1 x5_1)
              · rw [if_pos c7] at H
                have c7b0 : ((rd l0 x5_1) == (rd l1 x5_1)) = true := beq_iff_eq.mpr c7
                have c7b1 : ((rd l0 x5_1) != (rd l1 x5_1)) = false := bne_eq_false_iff_eq.mpr c7
                clear c7
                have H' := Aside0.mk H
                clear H
                have p174 : 0 ≤ (x5_1 : Int) := of_decide_eq_true (by first | (with_reducible assumption) | assumption)
                have q174 : x5_1 < (l0.length : Int) := of_decide_eq_true (by first | (with_reducible assumption) | assumption)
                obtain ⟨ad174, e174, hx174_0⟩ := Kd.at_int HR0.out x5_1 p174 q174
                cases e174
                replace p174 := eq_true p174
                replace q174 := eq_true q174
                have p175 : 0 ≤ (x5_1 : Int) := of_decide_eq_true (by first | (with_reducible assumption) | assumption)
                have q175 : x5_1 < (l1.length : Int) := of_decide_eq_true (by first | (with_reducible assumption) | assumption)
                obtain ⟨ad175, e175, hx175_0⟩ := Kd.at_int HR1.out x5_1 p175 q175
                cases e175
                replace p175 := eq_true p175
                replace q175 := eq_true q175
                go_wp2
                repeat (go_quiet (fail); try go_wp2)
                go_roundg k1
                case measure => have := HK1.out; omega
                case rel => exact ⟨(wrap64 (x5_1 + 1)), (by first | rfl | (simp; done) | (simp [*]; done)), H', ⟨by have := HK1.out; omega⟩, by repeat (first | exact Drawn0.refl _ | apply Drawn0.step)⟩
              · rw [if_neg c7] at H
                exact absurd H (by simp)
            · rw [if_neg c6] at H
              exact absurd H (by simp)
          · rw [if_neg c5] at H
            exact absurd H (by simp)
        · rw [if_neg c4] at H
          have c4b0 : decide (x5_1 < (l0.length : Int)) = false := decide_eq_false c4
          clear c4
          obtain rfl := Option.some.inj H
          go_wp2
          repeat (go_quiet (fail); try go_wp2)
          go_ret
          exact ⟨by first | rfl | (simp; done) | (simp [*]; done), by repeat (first | exact Drawn0.refl _ | apply Drawn0.step)⟩
  · rw [if_neg c3] at H
    exact absurd H (by simp)

end Go.Proofs.YtenlokaaloenmaaDoor.S
end

section
set_option linter.unusedVariables false
namespace Go.Proofs.YtenlokaaloenmaaDoor.Pure
open Go.RowKit Go.Proofs.YtenlokaaloenmaaDoor.S Go.Proofs.YtenlokaaloenmaaDoorW.PrintWords Go.Proofs.YtenlokaaloenmaaDoorW.PrintLast
set_option linter.unusedVariables false
set_option linter.unusedSimpArgs false

theorem ints_l0 (l : List Int) (hl : l.length ≤ 1000000000) : ∀ (d j : Nat), d = l.length - j → j ≤ l.length → Ev (fun k => tipstaffkit_SameInts.l0 k l l (j : Int)) true
  | 0, j, hd, hj => Ev.step (Ev.const true) (fun k => by rw [tipstaffkit_SameInts.l0, if_neg (by omega)])
  | d + 1, j, hd, hj => (ints_l0 l hl d (j + 1) (by omega) (by omega)).step (fun k => by rw [tipstaffkit_SameInts.l0, if_pos (by omega), if_pos (by omega), if_pos (by omega), if_pos rfl, wrap_succ j (by omega)])
theorem ints_ev (l : List Int) (hl : l.length ≤ 1000000000) : Ev (fun k => tipstaffkit_SameInts.f k l l) true :=
  Ev.congr (ints_l0 l hl l.length 0 rfl (Nat.zero_le _)) (fun k => by rw [tipstaffkit_SameInts.f, if_pos rfl]; rfl)

/-- A light run, or not. -/
def Light (l : List S41) : Prop := ∀ v ∈ l, v.f1.length ≤ 12 ∧ v.f2.length ≤ 12
theorem light_l0 (l : List S41) (hl : l.length ≤ 20010) : ∀ (d j : Nat), d = l.length - j → j ≤ l.length → Ev (fun k => tipstafflaw43_light.l0 k l (j : Int)) true ∧ (∀ v ∈ l.drop j, v.f1.length ≤ 12 ∧ v.f2.length ≤ 12) ∨ Ev (fun k => tipstafflaw43_light.l0 k l (j : Int)) false
  | 0, j, hd, hj => .inl ⟨Ev.step (Ev.const true) (fun k => by rw [tipstafflaw43_light.l0, if_neg (by omega)]), by rw [List.drop_eq_nil_of_le (by omega)]; intro v hv; cases hv⟩
  | d + 1, j, hd, hj => by
    have hw := wrap_succ j (by omega)
    by_cases h1 : (((rd_T41 l (j : Int)).f1).length : Int) > 12
    · exact .inr (Ev.step (Ev.const false) (fun k => by rw [tipstafflaw43_light.l0, if_pos (by omega), if_pos (by omega), if_pos h1]))
    by_cases h2 : (((rd_T41 l (j : Int)).f2).length : Int) > 12
    · exact .inr (Ev.step (Ev.const false) (fun k => by rw [tipstafflaw43_light.l0, if_pos (by omega), if_pos (by omega), if_neg h1, if_pos h2]))
    rcases light_l0 l hl d (j + 1) (by omega) (by omega) with ⟨h, h'⟩ | h
    · refine .inl ⟨h.step (fun k => by rw [tipstafflaw43_light.l0, if_pos (by omega), if_pos (by omega), if_neg h1, if_neg h2, hw]), ?_⟩
      rw [dropV l j (by omega)]
      intro v hv
      rcases List.mem_cons.1 hv with rfl | hv
      · omega
      · exact h' v hv
    · exact .inr (h.step (fun k => by rw [tipstafflaw43_light.l0, if_pos (by omega), if_pos (by omega), if_neg h1, if_neg h2, hw]))
theorem light_j0 (l : List S41) (hl : l.length ≤ 20010) : Ev (fun k => tipstafflaw43_light.j0 k l false) true ∧ Light l ∨ Ev (fun k => tipstafflaw43_light.j0 k l false) false := by
  have e : ∀ k, tipstafflaw43_light.j0 (k + 1) l false = tipstafflaw43_light.l0 k l ((0 : Nat) : Int) := fun k => by rw [tipstafflaw43_light.j0, if_neg (by decide)]; rfl
  rcases light_l0 l hl l.length 0 rfl (Nat.zero_le _) with ⟨h, h'⟩ | h
  · exact .inl ⟨h.step e, h'⟩
  · exact .inr (h.step e)
theorem light_ev (l : List S41) : (Ev (fun k => tipstafflaw43_light.f k l) true ∧ l.length ≤ 20010 ∧ (l.length ≤ 60 ∨ 20000 < l.length) ∧ Light l) ∨ Ev (fun k => tipstafflaw43_light.f k l) false := by
  have bad : Ev (fun k => tipstafflaw43_light.j0 k l true) false := Ev.step (Ev.const false) (fun k => by rw [tipstafflaw43_light.j0, if_pos rfl])
  by_cases h1 : (l.length : Int) > 60
  · by_cases h2 : (l.length : Int) ≤ 20000
    · exact .inr (Ev.congr bad (fun k => by rw [tipstafflaw43_light.f, if_pos h1, if_pos h2]))
    · by_cases h3 : (l.length : Int) > 20010
      · exact .inr (Ev.congr bad (fun k => by rw [tipstafflaw43_light.f, if_pos h1, if_neg h2, decide_eq_true h3]))
      · have e : ∀ k, tipstafflaw43_light.f k l = tipstafflaw43_light.j0 k l false := fun k => by rw [tipstafflaw43_light.f, if_pos h1, if_neg h2, decide_eq_false h3]
        rcases light_j0 l (by omega) with ⟨h, h'⟩ | h
        · exact .inl ⟨h.congr e, by omega, by omega, h'⟩
        · exact .inr (h.congr e)
  · have h3 : ¬ (l.length : Int) > 20010 := by omega
    have e : ∀ k, tipstafflaw43_light.f k l = tipstafflaw43_light.j0 k l false := fun k => by rw [tipstafflaw43_light.f, if_neg h1, decide_eq_false h3]
    rcases light_j0 l (by omega) with ⟨h, h'⟩ | h
    · exact .inl ⟨h.congr e, by omega, by omega, h'⟩
    · exact .inr (h.congr e)

end Go.Proofs.YtenlokaaloenmaaDoor.Pure
end
