/- report.Spells, walked: the spells of a light. report.Changes, walked: the views in which the lights change. report.Longest, walked: the longest spell. -/
import Derived.Test.YtenlokaaloenmaaDoorM5
import Derived.Test.YtenlokaaloenmaaDoorS4
import Derived.Maps.AppendAt
import Derived.WalkSmall
import Derived.Shelf.Abstract
import Derived.Test.YtenlokaaloenmaaDoorQuiet
import Derived.ChangeKeysEq
import Derived.Test.YtenlokaaloenmaaDoorM6
set_option linter.unusedVariables false
set_option linter.unusedSimpArgs false
namespace Go.Proofs.YtenlokaaloenmaaDoor.S
open Go.RowKit Go.Proofs.YtenlokaaloenmaaDoorW.PrintWords Go.Proofs.YtenlokaaloenmaaDoorW.PrintLast Go.Proofs.YtenlokaaloenmaaDoorW.PrintMore
set_option linter.unusedVariables false
set_option linter.unusedSimpArgs false
attribute [local go_sem] Oper.semAt_some wide_fn wideR_fn
attribute [local simp] wide_fn wideR_fn

theorem blk_own {β : Type} (B : Nat) (t : TypeId) (f : β → Array Value) : Own (fun s W => Blk W B (f s) t) := fun s X Y row hs hg hrow =>
  (hg.block B hs.lt (fun e' => by obtain ⟨o, ho, hc⟩ := hrow B e'.symm; rw [show X.heap[B]? = _ from hs] at ho; cases ho; cases hc)).trans hs
theorem own_size {β : Type} (n : Nat) : Own (fun (_ : β) W => n ≤ W.heap.size) := fun _ _ _ _ hs hg _ => Nat.le_trans hs hg.size

/-- The cells of a list of spells. -/
def cellsS (l : List S57) : List Value := l.flatMap fun x => [.int .i64 x.f0, .int .i64 x.f1]
theorem cellsS_at : ∀ (l : List S57) (j : Nat) (p : S57), l[j]? = some p → ((cellsS l).drop (j * 2)).take 2 = [.int .i64 p.f0, .int .i64 p.f1]
  | [], j, p, h => by simp at h
  | x :: l, 0, p, h => by
    simp at h
    subst h
    rfl
  | x :: l, j + 1, p, h => by
    have h2 := cellsS_at l j p (by simpa using h)
    rw [show (j + 1) * 2 = (j * 2) + 1 + 1 by omega]
    exact h2
theorem R57_of_own {W : World} {base : Nat} {v : Value} {l : List S57} (h : W.ownsRow base 57 2 v l.length (cellsS l)) : Kd.R k57 57 W base (fun _ => True) v l :=
  ⟨fun _ _ => trivial, cellsS l, h, ⟨h.1, fun j p hj => by
    have h2 := cellsS_at l j p hj
    show k57.M W base _ p (((cellsS l).drop (j * 2)).take 2)
    rw [h2]
    exact k57_mkM _ _ _ _⟩⟩

def report_Spells.f (k : Nat) (l : List S41) (floor : Int) (up : Bool) : Option (List S57 × Int) :=
  (report_Check.f k l).bind fun e => if e.1 = 0 then (if floor < 0 ∨ 64 ≤ floor then some ([], 2) else some ((spF l floor up l.length 0 (-1)).map (·.1), 0)) else some ([], e.1)
set_option maxHeartbeats 2000000 in
set_option maxRecDepth 100000 in
theorem Spells_no (k : Nat) (A0 : Option Addr) (c0 : Nat) (l0 : List S41) (f : Int) (up : Bool) (e i r : Int) (w : World) (hr0 : Kd.C k41 w A0 l0.length l0) (hc0 : l0.length ≤ c0) (h : report_Check.f k l0 = some (e, i)) (hr : r = (if e = 0 then 2 else e)) (hn : e = 0 → f < 0 ∨ 64 ≤ f) :
    Calls Tryd.prog 22 #[.slice A0 l0.length c0, .int .i64 f, .bool up] w fun x w' => x = .returned (.tuple #[.slice none 0 0, .int .i64 r]) ∧ Below w.heap.size w w' := by
  have H := Aside0.mk h
  have HC := Aside0.mk hr0
  have HR := Aside0.mk hr
  have HN := Aside0.mk hn
  clear h hr hn hr0
  go_enter Tryd.func22, Tryd.ntmps22
  go_wp2_with fail
  refine (report_Check.calls k A0 c0 l0 e i _ HC.out hc0 H.out).mono ?_
  rintro e0 w1 ⟨rfl, hb⟩
  have HB := Aside0.mk hb
  clear hb
  by_cases h0 : e = 0
  · subst h0
    have hr := HR.out
    have hn := HN.out rfl
    rw [if_pos rfl] at hr
    subst hr
    clear HR HN
    cases d1 : decide (f < 0) with
    | true =>
      go_wp2_with fail
      go_ret2
      exact ⟨rfl, HB.out⟩
    | false =>
      have d2 : decide (64 ≤ f) = true := by have := of_decide_eq_false d1; exact decide_eq_true (by omega)
      go_wp2_with fail
      go_ret2
      exact ⟨rfl, HB.out⟩
  · have n4 : (e != 0) = true := bne_iff_ne.mpr h0
    have hr := HR.out
    rw [if_neg h0] at hr
    subst hr
    clear HR HN h0
    go_wp2_with fail
    go_ret2
    exact ⟨rfl, HB.out⟩

theorem kept_low {W w1 : World} {tmp : Obj} {e : TypeId} {size n : Nat} {v : Value} {xs : List Value} {N0 b : Nat} (hrow : W.ownsRow N0 e size v n xs) (hg : (W.alloc tmp).grownBy w1 v.ownBlock) (hb : b < N0) (hbW : b < W.heap.size) : w1.heap[b]? = W.heap[b]? := by
  refine (hg.block b (by simp; omega) ?_).trans (Below.heap_alloc W tmp b hbW)
  rcases hrow.2 with ⟨rfl, _⟩ | ⟨g, cap, cur, rfl, hg', _⟩
  · simp [Value.ownBlock]
  · intro e'
    obtain rfl : b = g := by simpa [Value.ownBlock] using e'
    exact Nat.not_lt.2 hg' hb
theorem keep3_t {n0 b1 b2 : Nat} {A B C : World} (h : Keep3 n0 b1 b2 A B) (k : Keep3 n0 b1 b2 B C) : Keep3 n0 b1 b2 A C := ⟨k.1.trans h.1, k.2.1.trans h.2.1, h.2.2.trans k.2.2⟩
theorem keep3_b {n0 b1 b2 N : Nat} (h1 : b1 < N) (h2 : b2 < N) (hn : n0 ≤ N) (W : World) (l : Nat) (o o' : Obj) (hl : N ≤ l) (h : W.heap[l]? = some o) : Keep3 n0 b1 b2 W (W.putObj l o') :=
  ⟨World.putObj_heap_other (by omega), World.putObj_heap_other (by omega), (Below.refl n0 W).grown (grownBy_putObj' W l o') (by have := (Array.getElem?_eq_some_iff.1 h).1; omega) (fun k e => by cases e; omega)⟩
theorem keep3_alloc {n0 b1 b2 : Nat} (W : World) (o : Obj) (h1 : b1 < W.heap.size) (h2 : b2 < W.heap.size) (hn : n0 ≤ W.heap.size) : Keep3 n0 b1 b2 W (W.alloc o) :=
  ⟨Below.heap_alloc W o b1 h1, Below.heap_alloc W o b2 h2, (Below.refl n0 W).alloc hn o⟩

theorem cell_two_new (w : World) (x y : Value) (t : TypeId) : ∀ j u, [x, y][j]? = some u → (w.alloc (.cells #[x, y] t)).cell? ((⟨w.heap.size, 0, none⟩ : Addr).add j) = some u := by
  intro j u hj
  have h := Blk.new w #[x, y] t
  rw [add_plain]
  match j, hj with
  | 0, hj => cases hj; exact h.cell 0 rfl
  | 1, hj => cases hj; exact h.cell 1 rfl
  | j + 2, hj => simp at hj

def SpI (n0 bo N0 : Nat) (w : World) (pre : List (S57 × Bool)) (W : World) : Prop :=
  (∃ v, Boxed W bo 52 v ∧ W.ownsRow N0 57 2 v pre.length (cellsS (pre.map (·.1))) ∧ True) ∧ N0 ≤ W.heap.size ∧ Below n0 w W
theorem info57s : (Tryd.prog.info? 57).map (fun i => (i.zero, i.size, i.bytes)) = some (some (.agg #[.int .i64 0, .int .i64 0]), 2, 16) := by kernel_rfl

set_option maxHeartbeats 4000000 in
set_option maxRecDepth 100000 in
theorem Spells_yes (k : Nat) (A0 : Option Addr) (c0 : Nat) (l0 : List S41) (f : Int) (up : Bool) (i : Int) (w : World) (hr0 : Kd.C k41 w A0 l0.length l0) (hc0 : l0.length ≤ c0) (h : report_Check.f k l0 = some (0, i)) (h0 : 0 ≤ f) (h1 : f ≤ 63)
    (xs : List (S57 × Bool)) (hlx : xs.length ≤ 10000000) (hxs : spF l0 f up l0.length 0 (-1) = xs) :
    Calls Tryd.prog 22 #[.slice A0 l0.length c0, .int .i64 f, .bool up] w fun x w' => ∃ v0_ : Value, x = .returned (.tuple #[v0_, .int .i64 0]) ∧ w'.ownsRow w.heap.size 57 2 v0_ xs.length (cellsS (xs.map (·.1))) ∧ Below w.heap.size w w' := by
  have hu57 := Tryd.underlying57
  have hu77 := Tryd.underlying77
  obtain ⟨i0, hi, hz0, hz1, hz2⟩ := info_parts info57s
  have H := Aside0.mk h
  have HC := Aside0.mk hr0
  have HXS := Aside0.mk hxs
  have d1 : decide (f < 0) = false := decide_eq_false (by omega)
  have d2 : decide (64 ≤ f) = false := decide_eq_false (by omega)
  clear h hr0 hxs
  refine (callsIn_wide (n := 9)).1 ?_
  refine callsIn_of_wp_marks Tryd.func22 rfl trivial ?_ rfl
  simp only [Tryd.ntmps22, List.size_toArray, List.length_cons, List.length_nil, Nat.reduceAdd, Nat.reduceSub, Array.replicate_succ, Array.replicate_zero, List.push_toArray, List.append_toArray, List.nil_append, List.cons_append]
  rw [wpIn_wide]
  go_wp2_with fail
  refine (report_Check.calls k A0 c0 l0 0 i _ HC.out hc0 H.out).mono ?_
  rintro e0 w1 ⟨rfl, hb⟩
  have HB := Aside0.mk hb
  clear hb
  go_upto_region 7 with (fail)
  obtain ⟨w2, hw2⟩ : ∃ x, w1.alloc (.cells #[.slice none 0 0] 52) = x := ⟨_, rfl⟩
  obtain ⟨bo, hbo⟩ : ∃ x, w1.heap.size = x := ⟨_, rfl⟩
  have ho2 : Boxed w2 bo 52 (.slice none 0 0) := by rw [← hw2, ← hbo]; exact Boxed.new w1 52 _
  have hB2 : Below w.heap.size w w2 := by rw [← hw2]; exact HB.out.alloc HB.out.size _
  have hs2 : w2.heap.size = bo + 1 := by rw [← hw2, World.size_alloc, hbo]
  have hb0 : w.heap.size ≤ bo := by have := HB.out.size; omega
  rw [hw2, hbo]
  clear hw2 hbo HB w1
  have O2 := Aside0.mk ho2
  have B2 := Aside0.mk hB2
  have S2 := Aside0.mk hs2
  clear ho2 hB2 hs2
  go_wp2_with fail
  refine (spells_any f up A0 l0.length c0 _).mono ?_
  rintro e w' ⟨rfl, rfl⟩
  obtain ⟨w4, hw4⟩ : ∃ x, (w2.alloc (.cells #[.int .i64 f, .bool up] 77)).alloc (.cells #[.slice A0 l0.length c0] 24) = x := ⟨_, rfl⟩
  have hx4 : Blk w4 (bo + 1) #[.int .i64 f, .bool up] 77 := by rw [← hw4, ← S2.out]; exact (Blk.new w2 _ _).alloc _
  have hl4 : Boxed w4 (bo + 1 + 1) 24 (.slice A0 l0.length c0) := by
    have := Boxed.new (w2.alloc (.cells #[.int .i64 f, .bool up] 77)) 24 (.slice A0 l0.length c0)
    rw [World.size_alloc, S2.out] at this
    rw [← hw4]; exact this
  have ho4 : Boxed w4 bo 52 (.slice none 0 0) := by rw [← hw4]; exact (O2.out.alloc _).alloc _
  have hB4 : Below w.heap.size w w4 := by rw [← hw4]; exact (B2.out.alloc (by have := S2.out; omega) _).alloc (by have := S2.out; simp; omega) _
  have hs4 : w4.heap.size = bo + 1 + 1 + 1 := by rw [← hw4, World.size_alloc, World.size_alloc, S2.out]
  rw [hw4, S2.out]
  clear hw4 S2 B2 O2
  have O4 := Aside0.mk ho4
  have B4 := Aside0.mk hB4
  have S4 := Aside0.mk hs4
  clear ho4 hB4 hs4
  go_wp2_with fail
  rw [← wpIn_wide (n := 9)]
  refine wpIn_rangeH rfl (by omega) (gf := 51) (lb := #[.pointer (some ⟨bo + 1 + 1, 0, none⟩), .pointer (some ⟨bo + 1, 0, none⟩)]) rfl trivial (enters_of Tryd.func51 (by kernel_rfl) rfl)
    (spells_stops (9 - 1) (by omega) w.heap.size (bo + 1 + 1) (bo + 1) (by omega) (by omega) A0 c0 l0 hc0 f up h0 h1 w rfl HC.out xs HXS.out w4 hl4 hx4 B4.out)
    keep3_t (fun W l o o' hl h _ _ => keep3_b (by have := S4.out; omega) (by have := S4.out; omega) (by have := S4.out; omega) W l o o' hl h) (Below.refl _ _) (fun _ => rfl)
    11 (SpI w.heap.size bo (bo + 1 + 1 + 1) w) (fun _ _ _ => False) ?hI (fun _ _ _ _ _ h _ _ => h.elim) ?h0 (fun x b W => bo + 1 + 1 + 1 ≤ b ∧ Blk W b #[.int .i64 x.1.f0, .int .i64 x.1.f1] 57) ?hAx ?assign ?body ?done ?stop
  case hI => exact OwnFrom.and ((holdsRow_own _ _ _ _ _ (fun pre : List (S57 × Bool) => pre.length) (fun pre => cellsS (pre.map (·.1))) (fun _ _ => True)).from _) (OwnFrom.and ((own_size _).from _) (ownFrom_below (Nat.le_refl _) (by have := S4.out; omega)))
  case h0 => exact ⟨⟨_, O4.out, World.ownsRow_nil _ _ _ _, trivial⟩, by rw [S4.out]; omega, B4.out⟩
  case hAx => exact fun x b => OwnFrom.and (ownFrom_pure _ (fun _ => bo + 1 + 1 + 1 ≤ b)) ((blk_own b 57 (fun _ => #[.int .i64 x.1.f0, .int .i64 x.1.f1])).from _)
  case assign =>
    rintro l pre ⟨⟨s0, s1⟩, ended⟩ W K ⟨⟨v, hv, hrow, _⟩, hsz, hB⟩ hK
    have key := hK W.heap.size (W.alloc (.cells #[.int .i64 s0, .int .i64 s1] 57)) ((KeepsOthers.alloc W _).from _) (keep3_alloc W _ (by omega) (by omega) (by omega)) ⟨⟨v, hv.alloc _, hrow.alloc _, trivial⟩, by rw [World.size_alloc]; omega, hB.alloc (by omega) _⟩ ⟨hsz, Blk.new W _ _⟩
    have KEY := Aside0.mk key
    clear key hK hv hrow
    simp only [encS]
    gi_wp2
    have key := KEY.out
    simp [rAct, encS] at key
    exact key
  case body =>
    rintro l pre ⟨⟨s0, s1⟩, ended⟩ b W hl hr ⟨⟨v, hv, hrow, _⟩, hsz, hB⟩ ⟨hb, hblk⟩ hlen
    have c0 := hblk.cell 0 rfl
    have c1 := hblk.cell 1 rfl
    have cv := hv.cell
    have fv := hv.frozen
    obtain ⟨g', cap, ev⟩ : ∃ g cap, v = .slice g pre.length cap := by
      rcases hrow.2 with ⟨e1, e2⟩ | ⟨g, cap, _, e1, _⟩
      · exact ⟨none, 0, by rw [e1, e2]⟩
      · exact ⟨_, _, e1⟩
    subst ev
    clear hblk
    have hs4 := S4.out
    have hlen2 : pre.length ≤ 10000000 := by omega
    simp only [encS, rAct]
    gi_wp2_with (gi_at_builtin; refine wpListIn_append_own _ rfl _ _ 52 rfl (bo + 1 + 1 + 1) 57 i0 (.agg #[.int .i64 0, .int .i64 0]) 2 16 Tryd.underlying52 hi hz0 hz1 hz2 rfl (by decide) _ _ _ rfl (hrow.alloc _) ⟨W.heap.size, 0, none⟩ 1 1 [.int .i64 s0, .int .i64 s1] rfl rfl (cell_two_new _ _ _ _) (by simp [Value.oneCell']) (by unfold maxLen; omega) (by omega) (by simp; omega) ?_; intro v' w1 hown' hgrow _; obtain ⟨g', cap', rfl⟩ := ownsRow_succ hown'; obtain ⟨hv1, hv2, _, hk2, hb2⟩ := hv.appended (by decide) (own_weaken hrow (show w.heap.size ≤ bo + 1 + 1 + 1 by omega)) hB.size (by omega) (own_weaken hown' (show w.heap.size ≤ bo + 1 + 1 + 1 by omega)) hgrow; have hc1 := hv1.cell; have hf1 := hv1.frozen)
    have hlow : ∀ b, b < bo + 1 + 1 + 1 → b ≠ bo → (w1.setCell ⟨bo, 0, none⟩ (Value.slice (some ⟨g', 0, none⟩) (pre.length + 1) cap')).heap[b]? = W.heap[b]? := fun b hb hne =>
      (Below.heap_setCell _ ⟨bo, 0, none⟩ _ b hne).trans (kept_low hrow hgrow hb (by omega))
    have hr2 := hown'.kept (grownBy_setCell' w1 bo (Value.slice (some ⟨g', 0, none⟩) (pre.length + 1) cap')) (.inr (hv1.not_row (by decide) hown').symm)
    exact ⟨hk2.from _, ⟨hlow _ (by omega) (by omega), hlow _ (by omega) (by omega), hb2⟩, ⟨_, hv2, by simpa [cellsS] using hr2, trivial⟩, Nat.le_trans hsz hb2.size, hB.trans hb2⟩
  case done =>
    rintro D ys W hD rfl ⟨⟨v, hv, hrow, _⟩, hsz, hB⟩ hK
    have cv := hv.cell
    have HK := Aside0.mk hK
    obtain ⟨g', cap, ev⟩ : ∃ g cap, v = .slice g ys.length cap := by
      rcases hrow.2 with ⟨e1, e2⟩ | ⟨g, cap, _, e1, _⟩
      · exact ⟨none, 0, by rw [e1, e2]⟩
      · exact ⟨_, _, e1⟩
    subst ev
    clear hK
    go_wp2_with fail
    refine ⟨by simp, .inl ⟨_, _, rfl, run_takeDeferred (by exact HK.out), ?_⟩⟩
    refine ⟨.tuple #[.slice g' ys.length cap, .int .i64 0], by simp [results, Tryd.results22, go_sem], _, rfl, own_weaken (ownsRow_putObj hrow (Obj.deferred none) HK.out rfl) (by omega), ?_⟩
    exact hB.trans (belowK_b (w := w) (Nat.le_refl _) _ D _ _ (by have := S4.out; omega) HK.out rfl rfl)
  case stop => exact fun _ _ _ _ _ _ h _ => h.elim

theorem spF_len (l : List S41) (f : Int) (up : Bool) : ∀ (d i : Nat) (frm : Int), (spF l f up d i frm).length ≤ d + 1
  | 0, _, frm => by unfold spF; split <;> simp
  | d + 1, i, frm => by
    have h1 := spF_len l f up d (i + 1) i
    have h2 := spF_len l f up d (i + 1) frm
    have h3 := spF_len l f up d (i + 1) (-1)
    unfold spF
    split
    · split <;> omega
    · split
      · simp; omega
      · omega
theorem check_len {k : Nat} {l : List S41} {i : Int} (h : report_Check.f k l = some (0, i)) : l.length ≤ 20000 := by
  unfold report_Check.f at h
  by_cases hl : (l.length : Int) > 20000
  · rw [if_pos hl] at h
    simp at h
  · omega

theorem report_Spells.calls (k : Nat) (A0 : Option Addr) (c0 : Nat) (l0 : List S41) (a1 : Int) (a2 : Bool) (r1 : List S57) (r2 : Int) (w : World) (hr0 : Kd.C k41 w A0 l0.length l0) (hc0 : l0.length ≤ c0) (h : report_Spells.f k l0 a1 a2 = some (r1, r2)) :
    Calls Tryd.prog 22 #[.slice A0 l0.length c0, .int .i64 a1, .bool a2] w fun e w' => ∃ v0_ : Value, e = .returned (.tuple #[v0_, .int .i64 r2]) ∧ Kd.R k57 57 w' w.heap.size (fun _ => True) v0_ r1 ∧ Below w.heap.size w w' := by
  obtain ⟨⟨e, i⟩, he, h⟩ := Option.bind_eq_some_iff.1 h
  have no : (e = 0 → a1 < 0 ∨ 64 ≤ a1) → r1 = [] → r2 = (if e = 0 then 2 else e) → Calls Tryd.prog 22 #[.slice A0 l0.length c0, .int .i64 a1, .bool a2] w fun e w' => ∃ v0_ : Value, e = .returned (.tuple #[v0_, .int .i64 r2]) ∧ Kd.R k57 57 w' w.heap.size (fun _ => True) v0_ r1 ∧ Below w.heap.size w w' := by
    rintro hn rfl hr
    exact (Spells_no k A0 c0 l0 a1 a2 e i r2 w hr0 hc0 he hr hn).mono fun x w' ⟨hx, hB⟩ => ⟨_, hx, Kd.R_nil _ _ _ _ _, hB⟩
  by_cases h0 : e = 0
  · rw [if_pos h0] at h
    by_cases h1 : a1 < 0 ∨ 64 ≤ a1
    · rw [if_pos h1] at h
      obtain ⟨rfl, rfl⟩ := Prod.mk.inj (Option.some.inj h)
      exact no (fun _ => h1) rfl (by rw [if_pos h0])
    · rw [if_neg h1] at h
      obtain ⟨rfl, rfl⟩ := Prod.mk.inj (Option.some.inj h)
      subst h0
      have hl := check_len he
      refine (Spells_yes k A0 c0 l0 a1 a2 i w hr0 hc0 he (by omega) (by omega) _ (by have := spF_len l0 a1 a2 l0.length 0 (-1); omega) rfl).mono ?_
      rintro x w' ⟨v, rfl, hr, hB⟩
      exact ⟨_, rfl, R57_of_own (by rw [List.length_map]; exact hr), hB⟩
  · rw [if_neg h0] at h
    obtain ⟨rfl, rfl⟩ := Prod.mk.inj (Option.some.inj h)
    exact no (fun h => absurd h h0) rfl (by rw [if_neg h0])

end Go.Proofs.YtenlokaaloenmaaDoor.S

namespace Go.Proofs.YtenlokaaloenmaaDoor.S
open Go.RowKit Go.Proofs.YtenlokaaloenmaaDoorW.PrintWords Go.Proofs.YtenlokaaloenmaaDoorW.PrintLast Go.Proofs.YtenlokaaloenmaaDoorW.PrintMore
attribute [local go_sem] Oper.semAt_some wide_fn wideR_fn
attribute [local simp] wide_fn wideR_fn

theorem info39 : ∃ i, Tryd.prog.info? 39 = some i := by
  have : (Tryd.prog.info? 39).isSome = true := by kernel_rfl
  exact Option.isSome_iff_exists.1 this
theorem eqB85 (d : Nat) (w : World) (a b c e : Int) : (Op.equalIn (d + 2) 85 (.agg #[.int .u64 a, .int .u64 b]) (.agg #[.int .u64 c, .int .u64 e])).run Tryd.prog w = .ok (a == c && b == e) w := by
  obtain ⟨i, hi⟩ := info39
  have h39 := Tryd.underlying39
  have hc : Tryd.prog.cellsOf 39 = 1 := by kernel_rfl
  rw [run_equalIn_array (P := Tryd.prog) (w := w) (d + 1) _ _ Tryd.underlying85 hi, hc]
  simp [List.range, List.range.loop, Op.eqItems, part, go_sem, h39]
  by_cases h1 : a = c
  · by_cases h2 : b = e <;> simp [h1, h2]
  · simp [h1]
attribute [local go_sem high] eqB85

/-- The views in which the lights change, from a view on. -/
def chgF (l : List S41) : Nat → Nat → Int → Int → List Int
  | 0, _, _, _ => []
  | n + 1, i, u, d => (if (rd_T41 l i).f3 = u ∧ (rd_T41 l i).f4 = d then [] else [(i : Int)]) ++ chgF l n (i + 1) (rd_T41 l i).f3 (rd_T41 l i).f4
def report_Changes.f (k : Nat) (l : List S41) : Option (List Int × Int) :=
  (report_Check.f k l).bind fun e => if e.1 = 0 then some (chgF l l.length 0 0 0, 0) else some ([], e.1)
theorem info3c : (Tryd.prog.info? 3).map (fun i => (i.zero, i.size, i.bytes)) = some (some (.int .i64 0), 1, 8) := by kernel_rfl

set_option maxHeartbeats 2000000 in
set_option maxRecDepth 100000 in
theorem Changes_no (k : Nat) (A0 : Option Addr) (c0 : Nat) (l0 : List S41) (e i : Int) (w : World) (hr0 : Kd.C k41 w A0 l0.length l0) (hc0 : l0.length ≤ c0) (h : report_Check.f k l0 = some (e, i)) (h0 : e ≠ 0) :
    Calls Tryd.prog 31 #[.slice A0 l0.length c0] w fun x w' => x = .returned (.tuple #[.slice none 0 0, .int .i64 e]) ∧ Below w.heap.size w w' := by
  have H := Aside0.mk h
  have HC := Aside0.mk hr0
  have n4 : (e != 0) = true := bne_iff_ne.mpr h0
  clear h hr0 h0
  go_enter Tryd.func31, Tryd.ntmps31
  go_wp2_with fail
  refine (report_Check.calls k A0 c0 l0 e i _ HC.out hc0 H.out).mono ?_
  rintro e0 w1 ⟨rfl, hb⟩
  have HB := Aside0.mk hb
  clear hb
  go_wp2_with fail
  go_ret2
  exact ⟨rfl, HB.out⟩

theorem R_blk {α : Type} {d : Kd α} {e base B : Nat} {t : TypeId} {v : Value} {xs : List α} {W : World} {cs : Array Value} (h : d.R e W base (fun _ => True) v xs) (hB : Blk W B cs t) (ht : ∀ q, q ∈ e :: d.E → q ≠ t) (i : Nat) (u : Value) :
    d.R e (W.setCell ⟨B, i, none⟩ u) base (fun _ => True) v xs :=
  Kd.R_mono (Kd.R_step (Kd.R_bound h) (fun k hk _ => Below.heap_setCell W ⟨B, i, none⟩ u k (by
    intro hkB
    obtain ⟨_, _, _, q, hq, cells, hc⟩ := hk
    rw [show k = B from hkB, show W.heap[B]? = _ from hB] at hc
    have hc := Option.some.inj hc
    injection hc with _ hc _
    exact ht q hq hc.symm))) (fun _ _ => trivial)

theorem blk_row {α : Type} {d : Kd α} {e base B : Nat} {t : TypeId} {v : Value} {xs : List α} {ok : Nat → Prop} {W w1 : World} {cs : Array Value} (hB : Blk W B cs t) (h : d.R e W base ok v xs) (ht : e ≠ t) (hg : W.grownBy w1 v.ownBlock) : Blk w1 B cs t :=
  (hg.block B hB.lt (by
    intro hkB
    obtain ⟨cells, hc⟩ := Kd.R_typed h B hkB.symm
    rw [show W.heap[B]? = _ from hB] at hc
    have hc := Option.some.inj hc
    injection hc with _ hc _
    exact ht hc.symm)).trans hB

set_option maxHeartbeats 4000000 in
set_option maxRecDepth 100000 in
theorem Changes_yes (k : Nat) (A0 : Option Addr) (c0 : Nat) (l0 : List S41) (i : Int) (w : World) (hr0 : Kd.C k41 w A0 l0.length l0) (hc0 : l0.length ≤ c0) (h : report_Check.f k l0 = some (0, i)) :
    Calls Tryd.prog 31 #[.slice A0 l0.length c0] w fun x w' => ∃ v0_ : Value, x = .returned (.tuple #[v0_, .int .i64 0]) ∧ Kd.R (Kd.int .i64) 3 w' w.heap.size (fun _ => True) v0_ (chgF l0 l0.length 0 0 0) ∧ Below w.heap.size w w' := by
  have hu41 := Tryd.underlying41
  have hu85 := Tryd.underlying85
  have hlen := check_len h
  have H := Aside0.mk h
  have HC := Aside0.mk hr0
  clear h hr0
  go_enter Tryd.func31, Tryd.ntmps31
  go_wp2_with fail
  refine (report_Check.calls k A0 c0 l0 0 i _ HC.out hc0 H.out).mono ?_
  rintro e0 w1 ⟨rfl, hb⟩
  have HB := Aside0.mk hb
  clear hb
  go_upto_region 6 with (fail)
  obtain ⟨w2, hw2⟩ : ∃ x, w1.alloc (.cells #[.int .u64 0, .int .u64 0] 85) = x := ⟨_, rfl⟩
  obtain ⟨bb, hbb⟩ : ∃ x, w1.heap.size = x := ⟨_, rfl⟩
  have ho2 : Blk w2 bb #[.int .u64 0, .int .u64 0] 85 := by rw [← hw2, ← hbb]; exact Blk.new w1 _ _
  have hB2 : Below w.heap.size w w2 := by rw [← hw2]; exact HB.out.alloc HB.out.size _
  have hb0 : w.heap.size ≤ bb := by have := HB.out.size; omega
  rw [hw2, hbb]
  clear hw2 hbb HB w1
  have O2 := Aside0.mk ho2
  have B2 := Aside0.mk hB2
  clear ho2 hB2
  go_wp2_with fail
  go_loopw [20, 6] (fun v20 v6 wr => ∃ (i : Nat) (u d : Int) (acc : List Int), v20 = .int .i64 i ∧ i ≤ l0.length ∧ acc.length ≤ i ∧ Aside0 (acc ++ chgF l0 (l0.length - i) i u d = chgF l0 l0.length 0 0 0) ∧ Aside0 (Kd.R (Kd.int .i64) 3 wr w.heap.size (fun _ => True) v6 acc) ∧ Aside0 (Blk wr bb #[.int .u64 u, .int .u64 d] 85) ∧ Aside0 (Below w.heap.size w wr))
    (fun v20 _ _ => l0.length - (intOf v20).toNat)
  case atStart => exact ⟨0, 0, 0, [], rfl, by omega, by simp, ⟨by simp⟩, ⟨Kd.R_nil _ _ _ _ _⟩, O2, B2⟩
  case round =>
    obtain ⟨i, u, d, acc, rfl, hi, hac, ht, hr, hb, hbw⟩ := hrel
    by_cases hlt : i < l0.length
    · obtain ⟨ad, A1, c1, A2, c2, e, x0, x1, x2, x3, x4, x5, hl1, hi1, hl2, hi2⟩ := at_T41 (Kd.C_below HC.out hbw.out) (i : Int) (by omega) (by omega)
      cases e
      clear hl1 hi1 hl2 hi2
      have p1 : (0 ≤ (i : Int)) = True := eq_true (by omega)
      have q1 : ((i : Int) < (l0.length : Int)) = True := eq_true (by omega)
      have ht2 := ht.out
      rw [show l0.length - i = (l0.length - (i + 1)) + 1 by omega, chgF] at ht2
      obtain ⟨v, hv⟩ : ∃ v, rd_T41 l0 (i : Int) = v := ⟨_, rfl⟩
      rw [hv, Int.toNat_natCast] at x0 x1 x2 x3 x4 x5
      rw [hv] at ht2
      have HT := Aside0.mk ht2
      clear hv ht2 ht
      go_upto_region 9 with (fail)
      obtain ⟨w3, hw3⟩ : ∃ x, wr.alloc (.cells #[.int .i64 v.f0, .slice A1 v.f1.length c1, .slice A2 v.f2.length c2, .int .u64 v.f3, .int .u64 v.f4, .int .i64 v.f5] 41) = x := ⟨_, rfl⟩
      obtain ⟨bv, hbv⟩ : ∃ x, wr.heap.size = x := ⟨_, rfl⟩
      have bv1 : Blk w3 bv #[.int .i64 v.f0, .slice A1 v.f1.length c1, .slice A2 v.f2.length c2, .int .u64 v.f3, .int .u64 v.f4, .int .i64 v.f5] 41 := by rw [← hw3, ← hbv]; exact Blk.new wr _ _
      have bb1 : Blk w3 bb #[.int .u64 u, .int .u64 d] 85 := by rw [← hw3]; exact hb.out.alloc _
      have bw1 : Below w.heap.size w w3 := by rw [← hw3]; exact hbw.out.alloc hbw.out.size _
      have br1 : Kd.R (Kd.int .i64) 3 w3 w.heap.size (fun _ => True) u6 acc := by rw [← hw3]; exact Kd.R_alloc hr.out _
      rw [hw3, hbv]
      clear hw3 hbv x0 x1 x2 x3 x4 x5
      have g0 : ∀ p : GB, (mkW w3 p).cell? ⟨bv, 0, none⟩ = some (.int .i64 v.f0) := mkW_cell (bv1.cell 0 rfl)
      have g1 : ∀ p : GB, (mkW w3 p).cell? ⟨bv, 1, none⟩ = some (.slice A1 v.f1.length c1) := mkW_cell (bv1.cell 1 rfl)
      have g2 : ∀ p : GB, (mkW w3 p).cell? ⟨bv, 2, none⟩ = some (.slice A2 v.f2.length c2) := mkW_cell (bv1.cell 2 rfl)
      have g3 : ∀ p : GB, (mkW w3 p).cell? ⟨bv, 3, none⟩ = some (.int .u64 v.f3) := mkW_cell (bv1.cell 3 rfl)
      have g4 : ∀ p : GB, (mkW w3 p).cell? ⟨bv, 4, none⟩ = some (.int .u64 v.f4) := mkW_cell (bv1.cell 4 rfl)
      have g5 : ∀ p : GB, (mkW w3 p).cell? ⟨bv, 5, none⟩ = some (.int .i64 v.f5) := mkW_cell (bv1.cell 5 rfl)
      have k0 : ∀ p : GB, (mkW w3 p).cell? ⟨bb, 0, none⟩ = some (.int .u64 u) := mkW_cell (bb1.cell 0 rfl)
      have k1 : ∀ p : GB, (mkW w3 p).cell? ⟨bb, 1, none⟩ = some (.int .u64 d) := mkW_cell (bb1.cell 1 rfl)
      have BV1 := Aside0.mk bv1
      have BB1 := Aside0.mk bb1
      have BW1 := Aside0.mk bw1
      have BR1 := Aside0.mk br1
      clear bv1 bb1 bw1 br1 hr hb hbw
      rw [← wpIn_wide (n := 9)]
      refine wpIn_region_below (by kernel_rfl) (by kernel_rfl) (by kernel_rfl) ?_
      repeat (first | gi_big_quiet_step (first | (gi_at_call 48; exact CallsIn.below_of (callsIn_wide.2 (lights_any _ _ _ _ _ _ _ _ _ _ _)))) | quiet_step_in (fail))
      refine wpQuietIn_nil ?_
      rintro _ ⟨p, rfl⟩
      obtain ⟨w4, hw4⟩ : ∃ x, mkW w3 p = x := ⟨_, rfl⟩
      have hb4 := mkW_below w3 p
      rw [hw4] at hb4 ⊢
      have BV4 := Aside0.mk (BV1.out.below hb4 BV1.out.lt)
      have BB4 := Aside0.mk (BB1.out.below hb4 BB1.out.lt)
      have BW4 := Aside0.mk (BW1.out.trans (hb4.mono BW1.out.size))
      have BR4 := Aside0.mk (Kd.R_below BR1.out hb4)
      clear g0 g1 g2 g3 g4 g5 k0 k1 hw4 hb4 BV1 BB1 BW1 BR1 p
      have cv0 := BV4.out.cell 0 rfl
      have cv1 := BV4.out.cell 1 rfl
      have cv2 := BV4.out.cell 2 rfl
      have cv3 := BV4.out.cell 3 rfl
      have cv4 := BV4.out.cell 4 rfl
      have cv5 := BV4.out.cell 5 rfl
      cases hq : (!v.f3 == u || !v.f4 == d) with
      | false =>
        have hq2 : v.f3 = u ∧ v.f4 = d := by simpa using hq
        have ht2 := HT.out
        rw [if_pos hq2, List.nil_append] at ht2
        have HT2 := Aside0.mk ht2
        clear ht2 HT hq2
        go_wp2_with fail
        refine (lights_any _ _ _ _ _ _ _ _ _ _ _).mono ?_
        rintro e w5 ⟨rfl, hb5⟩
        have BB5 := Aside0.mk (BB4.out.below hb5 BB4.out.lt)
        have BW5 := Aside0.mk (BW4.out.trans (hb5.mono BW4.out.size))
        have BR5 := Aside0.mk (Kd.R_below BR4.out hb5)
        clear hb5 cv0 cv1 cv2 cv3 cv4 cv5 BB4 BW4 BR4 BV4
        have k0 := BB5.out.cell 0 rfl
        have k1 := BB5.out.cell 1 rfl
        have f0 := BB5.out.fr 0
        have f1 := BB5.out.fr 1
        go_wp2_with fail
        go_roundw
        case rel => exact ⟨i + 1, v.f3, v.f4, acc, by go_num, by omega, by omega, HT2, ⟨R_blk (R_blk BR5.out BB5.out (by decide) 0 _) (BB5.out.set 0 _) (by decide) 1 _⟩, ⟨(BB5.out.set 0 _).set 1 _⟩, ⟨(BW5.out.setCell (p := ⟨bb, 0, none⟩) hb0 _).setCell (p := ⟨bb, 1, none⟩) hb0 _⟩⟩
        case measure => simp [intOf]; omega
      | true =>
        have hq2 : ¬ (v.f3 = u ∧ v.f4 = d) := by intro h; simp [h] at hq
        have ht2 := HT.out
        rw [if_neg hq2, ← List.append_assoc] at ht2
        have HT2 := Aside0.mk ht2
        clear ht2 HT hq2
        go_wp2_with (at_builtin; refine Kd.R_append (Kd.int .i64) (w0 := w) w.heap.size rfl (.tmp 29) (.tmp 31) 22 3 (.int .i64 0) 8 rfl Tryd.underlying22 info3c rfl (by decide) (by omega) u6 acc (i : Int) [.int .i64 (i : Int)] (fun _ => True) (fun _ => False) rfl rfl rfl (fun _ hk => hk.elim) (fun _ _ => trivial) BR4.out BW4.out BW4.out.size (by omega) ?_; intro v1 w4b ho hb3 hg3 _; have R4b := Aside0.mk ho; have W4b := Aside0.mk hb3; have V4b := Aside0.mk (blk_row BV4.out BR4.out (by decide) hg3); have B4b := Aside0.mk (blk_row BB4.out BR4.out (by decide) hg3); clear ho hb3 hg3; clear cv0 cv1 cv2 cv3 cv4 cv5; have cv0 := V4b.out.cell 0 rfl; have cv1 := V4b.out.cell 1 rfl; have cv2 := V4b.out.cell 2 rfl; have cv3 := V4b.out.cell 3 rfl; have cv4 := V4b.out.cell 4 rfl; have cv5 := V4b.out.cell 5 rfl)
        refine (lights_any _ _ _ _ _ _ _ _ _ _ _).mono ?_
        rintro e w5 ⟨rfl, hb5⟩
        have BB5 := Aside0.mk (B4b.out.below hb5 B4b.out.lt)
        have BW5 := Aside0.mk (W4b.out.trans (hb5.mono W4b.out.size))
        have BR5 := Aside0.mk (Kd.R_below R4b.out hb5)
        clear hb5 cv0 cv1 cv2 cv3 cv4 cv5 BB4 BW4 BR4 BV4 V4b B4b W4b R4b
        have k0 := BB5.out.cell 0 rfl
        have k1 := BB5.out.cell 1 rfl
        have f0 := BB5.out.fr 0
        have f1 := BB5.out.fr 1
        go_wp2_with fail
        go_roundw
        case rel => exact ⟨i + 1, v.f3, v.f4, acc ++ [(i : Int)], by go_num, by omega, by simp; omega, HT2, ⟨R_blk (R_blk BR5.out BB5.out (by decide) 0 _) (BB5.out.set 0 _) (by decide) 1 _⟩, ⟨(BB5.out.set 0 _).set 1 _⟩, ⟨(BW5.out.setCell (p := ⟨bb, 0, none⟩) hb0 _).setCell (p := ⟨bb, 1, none⟩) hb0 _⟩⟩
        case measure => simp [intOf]; omega
    · have hle : i = l0.length := by omega
      subst hle
      have ht2 := ht.out
      rw [Nat.sub_self, chgF, List.append_nil] at ht2
      have HT := Aside0.mk ht2
      clear ht2 ht
      go_wp2_with fail
      go_ret2
      exact ⟨_, rfl, by rw [← HT.out]; exact hr.out, hbw.out⟩

theorem report_Changes.calls (k : Nat) (A0 : Option Addr) (c0 : Nat) (l0 : List S41) (r1 : List Int) (r2 : Int) (w : World) (hr0 : Kd.C k41 w A0 l0.length l0) (hc0 : l0.length ≤ c0) (h : report_Changes.f k l0 = some (r1, r2)) :
    Calls Tryd.prog 31 #[.slice A0 l0.length c0] w fun e w' => ∃ v0_ : Value, e = .returned (.tuple #[v0_, .int .i64 r2]) ∧ Kd.R (Kd.int .i64) 3 w' w.heap.size (fun _ => True) v0_ r1 ∧ Below w.heap.size w w' := by
  obtain ⟨⟨e, i⟩, he, h⟩ := Option.bind_eq_some_iff.1 h
  by_cases h0 : e = 0
  · rw [if_pos h0] at h
    obtain ⟨rfl, rfl⟩ := Prod.mk.inj (Option.some.inj h)
    subst h0
    exact Changes_yes k A0 c0 l0 i w hr0 hc0 he
  · rw [if_neg h0] at h
    obtain ⟨rfl, rfl⟩ := Prod.mk.inj (Option.some.inj h)
    exact (Changes_no k A0 c0 l0 e i w hr0 hc0 he h0).mono fun x w' ⟨hx, hB⟩ => ⟨_, hx, Kd.R_nil _ _ _ _ _, hB⟩

end Go.Proofs.YtenlokaaloenmaaDoor.S

namespace Go.Proofs.YtenlokaaloenmaaDoor.S
open Go.RowKit Go.Proofs.YtenlokaaloenmaaDoorW.PrintWords Go.Proofs.YtenlokaaloenmaaDoorW.PrintLast Go.Proofs.YtenlokaaloenmaaDoorW.PrintMore
attribute [local go_sem] Oper.semAt_some wide_fn wideR_fn
attribute [local simp] wide_fn wideR_fn

theorem blk_same {w : World} {B : Nat} {cs : Array Value} {t : TypeId} (h : Blk w B cs t) (i : Nat) {v : Value} (hv : cs[i]? = some v) : w.setCell ⟨B, i, none⟩ v = w := by
  unfold Blk at h
  obtain ⟨hl, he⟩ := Array.getElem?_eq_some_iff.1 h
  obtain ⟨hi, hv⟩ := Array.getElem?_eq_some_iff.1 hv
  have hm : (w.setCell ⟨B, i, none⟩ v).heap = w.heap := by
    apply Array.ext
    · simp [World.setCell]
    · intro j h1 h2
      simp only [World.setCell, Array.getElem_modify]
      split
      · rename_i hj
        subst hj
        rw [he]
        simp
        subst hv
        simp [Array.setIfInBounds, hi]
      · rfl
  have e : w.setCell ⟨B, i, none⟩ v = { w with heap := (w.setCell ⟨B, i, none⟩ v).heap } := rfl
  rw [e, hm]
theorem boxed_same {w : World} {B : Nat} {t : TypeId} {v : Value} (h : Boxed w B t v) : w.setCell ⟨B, 0, none⟩ v = w := blk_same (cs := #[v]) h 0 rfl

/-- The variables of Longest: its argument, and what it hands back. -/
structure LgW (b0 : Nat) (w0 : World) (A : Option Addr) (n c : Nat) (f : Int) (up : Bool) (s t : Int) (w : World) : Prop where
  l : Boxed w b0 24 (.slice A n c)
  f : Boxed w (b0 + 1) 3 (.int .i64 f)
  u : Boxed w (b0 + 1 + 1) 4 (.bool up)
  s : Blk w (b0 + 1 + 1 + 1) #[.int .i64 s, .int .i64 t] 57
  b : Below b0 w0 w
theorem LgW.new (w : World) (A : Option Addr) (n c : Nat) : LgW w.heap.size w A n c 0 false 0 0 ((((w.alloc (.cells #[.slice A n c] 24)).alloc (.cells #[.int .i64 0] 3)).alloc (.cells #[.bool false] 4)).alloc (.cells #[.int .i64 0, .int .i64 0] 57)) := by
  have h1 := Boxed.new w 24 (.slice A n c)
  have h2 := Boxed.new (w.alloc (.cells #[.slice A n c] 24)) 3 (.int .i64 0)
  have h3 := Boxed.new ((w.alloc (.cells #[.slice A n c] 24)).alloc (.cells #[.int .i64 0] 3)) 4 (.bool false)
  have h4 := Blk.new (((w.alloc (.cells #[.slice A n c] 24)).alloc (.cells #[.int .i64 0] 3)).alloc (.cells #[.bool false] 4)) #[.int .i64 0, .int .i64 0] 57
  simp only [World.size_alloc] at h2 h3 h4
  exact ⟨((h1.alloc _).alloc _).alloc _, (h2.alloc _).alloc _, h3.alloc _, h4, ((((Below.refl _ w).alloc (Nat.le_refl _) _).alloc (by simp) _).alloc (by simp; omega) _).alloc (by simp; omega) _⟩
theorem LgW.below {b0 : Nat} {w0 w w' : World} {A : Option Addr} {n c : Nat} {f : Int} {up : Bool} {s t : Int} (h : LgW b0 w0 A n c f up s t w) (hb : Below w.heap.size w w') (hn : b0 ≤ w.heap.size) : LgW b0 w0 A n c f up s t w' :=
  ⟨(hb.block _ h.l.lt).trans h.l, (hb.block _ h.f.lt).trans h.f, (hb.block _ h.u.lt).trans h.u, h.s.below hb h.s.lt, h.b.trans (hb.mono hn)⟩

set_option maxHeartbeats 4000000 in
set_option maxRecDepth 100000 in
theorem Longest_no (k : Nat) (A0 : Option Addr) (c0 : Nat) (l0 : List S41) (e i : Int) (w : World) (hr0 : Kd.C k41 w A0 l0.length l0) (hc0 : l0.length ≤ c0) (h : report_Check.f k l0 = some (e, i)) (h0 : e ≠ 0) :
    Calls Tryd.prog 25 #[.slice A0 l0.length c0] w fun x w' => x = .returned (.tuple #[.int .i64 0, .bool false, .agg #[.int .i64 0, .int .i64 0], .int .i64 e]) ∧ Below w.heap.size w w' := by
  have hu57 := Tryd.underlying57
  have H := Aside0.mk h
  have HC := Aside0.mk hr0
  have n4 : (e != 0) = true := bne_iff_ne.mpr h0
  clear h hr0 h0
  go_enter Tryd.func25, Tryd.ntmps25
  go_wp2_with fail
  refine (report_Check.calls k A0 c0 l0 e i _ (Kd.C_below HC.out (LgW.new w A0 l0.length c0).b) hc0 H.out).mono ?_
  rintro e0 w1 ⟨rfl, hb⟩
  have hw := (LgW.new w A0 l0.length c0).below hb (by simp; omega)
  clear hb
  have cs0 := hw.s.cell 0 rfl
  have cs1 := hw.s.cell 1 rfl
  have fs0 := hw.s.fr 0
  have fs1 := hw.s.fr 1
  have cf := hw.f.cell
  have cu := hw.u.cell
  have ff := hw.f.frozen
  have fu := hw.u.frozen
  have HW := Aside0.mk hw
  clear hw
  go_wp2_with fail
  have e1 : ∀ k, (w1.drewN k).setCell ⟨w.heap.size + 1, 0, none⟩ (.int .i64 0) = w1.drewN k := fun k => boxed_same (show Boxed (w1.drewN k) _ _ _ from HW.out.f)
  have e2 : ∀ k, (w1.drewN k).setCell ⟨w.heap.size + 1 + 1, 0, none⟩ (.bool false) = w1.drewN k := fun k => boxed_same (show Boxed (w1.drewN k) _ _ _ from HW.out.u)
  have e3 : ∀ k, (w1.drewN k).setCell ⟨w.heap.size + 1 + 1 + 1, 0, none⟩ (.int .i64 0) = w1.drewN k := fun k => blk_same (show Blk (w1.drewN k) _ _ _ from HW.out.s) 0 rfl
  have e4 : ∀ k, (w1.drewN k).setCell ⟨w.heap.size + 1 + 1 + 1, 1, none⟩ (.int .i64 0) = w1.drewN k := fun k => blk_same (show Blk (w1.drewN k) _ _ _ from HW.out.s) 1 rfl
  go_quiet (fail)
  go_wp2_with fail
  refine bodyPost_ret (v := .tuple #[.int .i64 0, .bool false, .agg #[.int .i64 0, .int .i64 0], .int .i64 e]) ?_ rfl ⟨rfl, pw_below_drewN HW.out.b _⟩
  simp [results, Tryd.results25, go_sem, cs0, cs1, cf, cu, hu57]

/-- One spell more: the longest one. -/
def lgS (x : Int × Bool) (st : (Int × Bool) × Int × Int) (y : S57 × Bool) : (Int × Bool) × Int × Int :=
  if wrap64 (y.1.f1 - y.1.f0) > wrap64 (st.2.2 - st.2.1) then (x, y.1.f0, y.1.f1) else if (wrap64 (y.1.f1 - y.1.f0) == wrap64 (st.2.2 - st.2.1)) = true then (if y.1.f0 < st.2.1 then (x, y.1.f0, y.1.f1) else st) else st
def lgL (l : List S41) (st : (Int × Bool) × Int × Int) (x : Fin 64 × Bool) : (Int × Bool) × Int × Int := (spF l (x.1.val : Int) x.2 l.length 0 (-1)).foldl (lgS ((x.1.val : Int), x.2)) st

theorem LgW.own {β : Type} {b0 : Nat} {w0 : World} {A : Option Addr} {n c B : Nat} (st : β → (Int × Bool) × Int × Int) (h0 : b0 ≤ w0.heap.size) (hB : b0 ≤ B) : OwnFrom B (fun s W => LgW b0 w0 A n c (st s).1.1 (st s).1.2 (st s).2.1 (st s).2.2 W) := fun s X Y row hs hg hr =>
  ⟨((boxed_own b0 24 (fun _ : Unit => .slice A n c)).from B) () X Y row hs.l hg hr, ((boxed_own (b0 + 1) 3 (fun _ : Unit => .int .i64 (st s).1.1)).from B) () X Y row hs.f hg hr, ((boxed_own (b0 + 1 + 1) 4 (fun _ : Unit => .bool (st s).1.2)).from B) () X Y row hs.u hg hr,
   ((blk_own (b0 + 1 + 1 + 1) 57 (fun _ : Unit => #[.int .i64 (st s).2.1, .int .i64 (st s).2.2])).from B) () X Y row hs.s hg hr, (ownFrom_below (β := Unit) h0 hB) () X Y row hs.b hg hr⟩
theorem LgW.alloc {b0 : Nat} {w0 w : World} {A : Option Addr} {n c : Nat} {f : Int} {up : Bool} {s t : Int} (h : LgW b0 w0 A n c f up s t w) (hn : b0 ≤ w.heap.size) (o : Obj) : LgW b0 w0 A n c f up s t (w.alloc o) :=
  ⟨h.l.alloc o, h.f.alloc o, h.u.alloc o, h.s.alloc o, h.b.alloc hn o⟩
theorem keepA_t {n0 b : Nat} {A B C : World} (h : KeepA n0 b A B) (k : KeepA n0 b B C) : KeepA n0 b A C := ⟨k.1.trans h.1, h.2.trans k.2⟩
theorem keepA_b {n0 b N : Nat} (h1 : b < N) (hn : n0 ≤ N) (W : World) (l : Nat) (o o' : Obj) (hl : N ≤ l) (h : W.heap[l]? = some o) : KeepA n0 b W (W.putObj l o') :=
  ⟨World.putObj_heap_other (by omega), (Below.refl n0 W).grown (grownBy_putObj' W l o') (by have := (Array.getElem?_eq_some_iff.1 h).1; omega) (fun k e => by cases e; omega)⟩

abbrev lgSet (b0 : Nat) (w : World) (f : Int) (up : Bool) (s t : Int) : World := (((w.setCell ⟨b0 + 1, 0, none⟩ (.int .i64 f)).setCell ⟨b0 + 1 + 1, 0, none⟩ (.bool up)).setCell ⟨b0 + 1 + 1 + 1, 0, none⟩ (.int .i64 s)).setCell ⟨b0 + 1 + 1 + 1, 1, none⟩ (.int .i64 t)
theorem boxed_far {W : World} {B : Nat} {t : TypeId} {v : Value} (h : Boxed W B t v) (a : Addr) (u : Value) (hne : ¬ B = a.block) : Boxed (W.setCell a u) B t v := (Below.heap_setCell W a u B hne).trans h
theorem LgW.set {b0 : Nat} {w0 w : World} {A : Option Addr} {n c : Nat} {f : Int} {up : Bool} {s t : Int} (h : LgW b0 w0 A n c f up s t w) (f' : Int) (up' : Bool) (s' t' : Int) : LgW b0 w0 A n c f' up' s' t' (lgSet b0 w f' up' s' t') where
  l := boxed_far (boxed_far (boxed_far (boxed_far h.l _ _ (by simp)) _ _ (by simp; omega)) _ _ (by simp; omega)) _ _ (by simp; omega)
  f := boxed_far (boxed_far (boxed_far (h.f.set _) _ _ (by simp)) _ _ (show ¬ b0 + 1 = b0 + 1 + 1 + 1 by omega)) _ _ (show ¬ b0 + 1 = b0 + 1 + 1 + 1 by omega)
  u := boxed_far (boxed_far ((boxed_far h.u _ _ (by simp)).set _) _ _ (by simp)) _ _ (by simp)
  s := (((h.s.far _ _ (by simp; omega)).far _ _ (by simp)).set 0 _).set 1 _
  b := (((h.b.setCell (p := ⟨b0 + 1, 0, none⟩) (by simp) _).setCell (p := ⟨b0 + 1 + 1, 0, none⟩) (by simp; omega) _).setCell (p := ⟨b0 + 1 + 1 + 1, 0, none⟩) (by simp; omega) _).setCell (p := ⟨b0 + 1 + 1 + 1, 1, none⟩) (by simp; omega) _
theorem lgSet_keeps (b0 : Nat) (w : World) (f : Int) (up : Bool) (s t : Int) : KeepsOthers w (lgSet b0 w f up s t) := (((KeepsOthers.setCell _ _ _).trans (KeepsOthers.setCell _ _ _)).trans (KeepsOthers.setCell _ _ _)).trans (KeepsOthers.setCell _ _ _)
theorem lgSet_below (b0 : Nat) (w : World) (f : Int) (up : Bool) (s t : Int) : Below b0 w (lgSet b0 w f up s t) :=
  ((((Below.refl b0 w).setCell (p := ⟨b0 + 1, 0, none⟩) (by simp) _).setCell (p := ⟨b0 + 1 + 1, 0, none⟩) (by simp; omega) _).setCell (p := ⟨b0 + 1 + 1 + 1, 0, none⟩) (by simp; omega) _).setCell (p := ⟨b0 + 1 + 1 + 1, 1, none⟩) (by simp; omega) _
theorem lgSet_far (b0 : Nat) (w : World) (f : Int) (up : Bool) (s t : Int) (k : Nat) (hk : b0 + 1 + 1 + 1 < k) : (lgSet b0 w f up s t).heap[k]? = w.heap[k]? :=
  (Below.heap_setCell _ _ _ k (by simp; omega)).trans ((Below.heap_setCell _ _ _ k (by simp; omega)).trans ((Below.heap_setCell _ _ _ k (by simp; omega)).trans (Below.heap_setCell _ _ _ k (by simp; omega))))

theorem or_range (a b : Int) : 0 ≤ Go.bits .or .u64 a b ∧ Go.bits .or .u64 a b < 18446744073709551616 := by
  have h : Go.bits .or .u64 a b = IntKind.u64.wrap ((BitVec.ofInt 64 a ||| BitVec.ofInt 64 b).toNat : Int) := rfl
  rw [h, IntKind.wrap_u64]
  omega
theorem or_fold (f : S41 → Int) : ∀ (l : List S41) (a : Int), 0 ≤ a → a < 18446744073709551616 → 0 ≤ l.foldl (fun a v => Go.bits .or .u64 a (f v)) a ∧ l.foldl (fun a v => Go.bits .or .u64 a (f v)) a < 18446744073709551616
  | [], _, h0, h1 => ⟨h0, h1⟩
  | v :: l, a, _, _ => or_fold f l _ (or_range a (f v)).1 (or_range a (f v)).2
theorem orU_range (l : List S41) : 0 ≤ orU l ∧ orU l < 18446744073709551616 := or_fold (fun v => v.f3) l 0 (by decide) (by decide)
theorem orD_range (l : List S41) : 0 ≤ orD l ∧ orD l < 18446744073709551616 := or_fold (fun v => v.f4) l 0 (by decide) (by decide)

set_option maxHeartbeats 8000000 in
set_option maxRecDepth 100000 in
theorem Longest_yes (k k2 : Nat) (A0 : Option Addr) (c0 : Nat) (l0 : List S41) (i : Int) (w : World) (HL : LaidAt w) (hr0 : Kd.C k41 w A0 l0.length l0) (hc0 : l0.length ≤ c0) (h : report_Check.f k l0 = some (0, i))
    (xs : List (Fin 64 × Bool)) (hx : allF k2 ((orU l0).toNat ||| (orD l0).toNat) (orU l0) (orD l0) = some xs) (st : (Int × Bool) × Int × Int) (hst : xs.foldl (lgL l0) ((0, false), 0, 0) = st) :
    Calls Tryd.prog 25 #[.slice A0 l0.length c0] w fun x w' => x = .returned (.tuple #[.int .i64 st.1.1, .bool st.1.2, .agg #[.int .i64 st.2.1, .int .i64 st.2.2], .int .i64 0]) ∧ Below w.heap.size w w' := by
  have hu57 := Tryd.underlying57
  have hu77 := Tryd.underlying77
  have H := Aside0.mk h
  have HC := Aside0.mk hr0
  have HX := Aside0.mk hx
  have HST := Aside0.mk hst
  have HLA := Aside0.mk HL
  clear h hr0 hx hst HL
  refine (callsIn_wide (n := 9)).1 ?_
  refine callsIn_of_wp_marks Tryd.func25 rfl trivial ?_ rfl
  simp only [Tryd.ntmps25, List.size_toArray, List.length_cons, List.length_nil, Nat.reduceAdd, Nat.reduceSub, Array.replicate_succ, Array.replicate_zero, List.push_toArray, List.append_toArray, List.nil_append, List.cons_append]
  rw [wpIn_wide]
  go_wp2_with fail
  refine (report_Check.calls k A0 c0 l0 0 i _ (Kd.C_below HC.out (LgW.new w A0 l0.length c0).b) hc0 H.out).mono ?_
  rintro e0 w1 ⟨rfl, hb⟩
  have hw := (LgW.new w A0 l0.length c0).below hb (by simp; omega)
  have hsz : w.heap.size + 1 + 1 + 1 + 1 ≤ w1.heap.size := by have := hb.size; simpa using this
  clear hb
  have cl := hw.l.cell
  have HW := Aside0.mk hw
  clear hw
  go_wp2_with fail
  refine (all_any A0 c0 l0 hc0 _ (Kd.C_below HC.out HW.out.b)).mono ?_
  rintro e w2 ⟨rfl, hbA, hb2⟩
  obtain ⟨ba, hba⟩ : ∃ x, w1.heap.size = x := ⟨_, rfl⟩
  have hw2 := HW.out.below hb2 (by omega)
  have hs2 : ba + 1 ≤ w2.heap.size := by rw [← hba]; exact hbA.lt
  rw [hba] at hbA hsz ⊢
  have W2 := Aside0.mk hw2
  have A2 := Aside0.mk hbA
  clear hw2 hbA hb2 HW cl hba
  go_wp2_with fail
  rw [← wpIn_wide (n := 9)]
  refine wpIn_rangeH rfl (by omega) (gf := 49) (lb := #[.pointer (some ⟨ba, 0, none⟩)]) rfl trivial (enters_of Tryd.func49 (by kernel_rfl) rfl)
    (all_stops (9 - 1) (by omega) w.heap.size ba (by omega) (orU l0) (orD l0) (orU_range l0).1 (orU_range l0).2 (orD_range l0).1 (orD_range l0).2 w rfl HLA.out k2 xs HX.out w2 A2.out W2.out.b)
    keepA_t (fun W l o o' hl h _ _ => keepA_b (by omega) (by omega) W l o o' hl h) (Below.refl _ _) (fun _ => rfl)
    8 (fun pre W => LgW w.heap.size w A0 l0.length c0 (pre.foldl (lgL l0) ((0, false), 0, 0)).1.1 (pre.foldl (lgL l0) ((0, false), 0, 0)).1.2 (pre.foldl (lgL l0) ((0, false), 0, 0)).2.1 (pre.foldl (lgL l0) ((0, false), 0, 0)).2.2 W ∧ Blk W ba #[.int .u64 (orU l0), .int .u64 (orD l0)] 85 ∧ w2.heap.size ≤ W.heap.size) (fun _ _ _ => False) ?hI (fun _ _ _ _ _ h _ _ => h.elim) ?h0 (fun x b W => w2.heap.size ≤ b ∧ Blk W b #[.int .i64 (x.1.val : Int), .bool x.2] 77) ?hAx ?assign ?body ?done ?stop
  case hI => exact OwnFrom.and (LgW.own (fun pre : List (Fin 64 × Bool) => pre.foldl (lgL l0) ((0, false), 0, 0)) (Nat.le_refl _) (by omega)) (OwnFrom.and ((blk_own ba 85 (fun _ => #[.int .u64 (orU l0), .int .u64 (orD l0)])).from _) ((own_size _).from _))
  case h0 => exact ⟨W2.out, A2.out, Nat.le_refl _⟩
  case hAx => exact fun x b => OwnFrom.and (ownFrom_pure _ (fun _ => w2.heap.size ≤ b)) ((blk_own b 77 (fun _ => #[.int .i64 (x.1.val : Int), .bool x.2])).from _)
  case assign =>
    rintro l pre ⟨g, up⟩ W K ⟨hlg, hA, hsz2⟩ hK
    have key := hK W.heap.size (W.alloc (.cells #[.int .i64 (g.val : Int), .bool up] 77)) ((KeepsOthers.alloc W _).from _) ⟨Below.heap_alloc W _ _ hA.lt, (Below.refl _ W).alloc (by omega) _⟩ ⟨hlg.alloc (by omega) _, hA.alloc _, by rw [World.size_alloc]; omega⟩ ⟨hsz2, Blk.new W _ _⟩
    have KEY := Aside0.mk key
    clear key hK hlg
    simp only [encA]
    gi_wp2
    have key := KEY.out
    simp [rAct, encA] at key
    exact key
  case body =>
    rintro l1 pre ⟨g, up⟩ b W hl ⟨r1, hr1⟩ ⟨hlg, hA, hsz2⟩ ⟨hb, hblk⟩ hlen
    obtain ⟨st0, hst0⟩ : ∃ st0, pre.foldl (lgL l0) ((0, false), 0, 0) = st0 := ⟨_, rfl⟩
    rw [hst0] at hlg
    have cl := hlg.l.cell
    have k0 := hblk.cell 0 rfl
    have k1 := hblk.cell 1 rfl
    have LG := Aside0.mk hlg
    have BA := Aside0.mk hA
    have BX := Aside0.mk hblk
    have HS0 := Aside0.mk hst0
    have R1 := Aside0.mk hr1
    clear hlg hA hblk hst0 hr1
    simp only [encA, rAct]
    gi_wp2_with fail
    refine (CallsIn.inRound l1 (callsIn_wide.2 (spells_any (g.val : Int) up A0 l0.length c0 _))).mono ?_
    rintro e w' ⟨rfl, rfl⟩
    obtain ⟨bs, hbs⟩ : ∃ x, W.heap.size = x := ⟨_, rfl⟩
    obtain ⟨W3, hW3⟩ : ∃ x, (W.alloc (.cells #[.int .i64 (g.val : Int), .bool up] 77)).alloc (.cells #[.slice A0 l0.length c0] 24) = x := ⟨_, rfl⟩
    have hx3 : Blk W3 bs #[.int .i64 (g.val : Int), .bool up] 77 := by rw [← hW3, ← hbs]; exact (Blk.new W _ _).alloc _
    have hl3 : Boxed W3 (bs + 1) 24 (.slice A0 l0.length c0) := by
      have := Boxed.new (W.alloc (.cells #[.int .i64 (g.val : Int), .bool up] 77)) 24 (.slice A0 l0.length c0)
      rw [World.size_alloc, hbs] at this
      rw [← hW3]; exact this
    have hlg3 : LgW w.heap.size w A0 l0.length c0 st0.1.1 st0.1.2 st0.2.1 st0.2.2 W3 := by rw [← hW3]; exact (LG.out.alloc (by omega) _).alloc (by simp; omega) _
    have hA3 : Blk W3 ba #[.int .u64 (orU l0), .int .u64 (orD l0)] 85 := by rw [← hW3]; exact (BA.out.alloc _).alloc _
    have hX3 : Blk W3 b #[.int .i64 (g.val : Int), .bool up] 77 := by rw [← hW3]; exact (BX.out.alloc _).alloc _
    have hr3 : W3.heap[l1]? = some (.loop r1) := by
      have hl1 := (Array.getElem?_eq_some_iff.1 R1.out).1
      rw [← hW3]; exact (Below.heap_alloc _ _ _ (by simp; omega)).trans ((Below.heap_alloc W _ _ hl1).trans R1.out)
    have hs3 : W3.heap.size = bs + 1 + 1 := by rw [← hW3, World.size_alloc, World.size_alloc, hbs]
    have hk3 : KeepsOthers W W3 := by rw [← hW3]; exact (KeepsOthers.alloc W _).trans (KeepsOthers.alloc _ _)
    have hka3 : KeepA w.heap.size ba W W3 := ⟨hA3.trans BA.out.symm, by rw [← hW3]; exact ((Below.refl _ W).alloc (by omega) _).alloc (by simp; omega) _⟩
    rw [hW3, hbs]
    have L3 := Aside0.mk hlg3
    have A3 := Aside0.mk hA3
    have X3 := Aside0.mk hX3
    have K3 := Aside0.mk hk3
    have KA3 := Aside0.mk hka3
    have R3 := Aside0.mk hr3
    have XX3 := Aside0.mk hx3
    have LL3 := Aside0.mk hl3
    clear hx3 hl3 hlg3 hA3 hX3 hr3 hk3 hka3 hW3 LG BA BX R1 cl k0 k1
    have hN : w2.heap.size ≤ bs := by omega
    gi_wp2_with fail
    refine wpIn_rangeN (l₀ := l1) rfl R3.out (by omega) (gf := 51) (lb := #[.pointer (some ⟨bs + 1, 0, none⟩), .pointer (some ⟨bs, 0, none⟩)]) rfl trivial (enters_of Tryd.func51 (by kernel_rfl) rfl)
      (SeqStopsK.inRound l1 (spells_stops (9 - 1 - 1 - 1) (by omega) w.heap.size (bs + 1) bs (by omega) (by omega) A0 c0 l0 hc0 (g.val : Int) up (by omega) (by omega) w rfl HC.out _ rfl W3 LL3.out XX3.out L3.out.b))
      keep3_t (fun W l o o' hl h _ _ => keep3_b (by omega) (by omega) (by omega) W l o o' hl h) (Below.refl _ _) (fun _ => rfl)
      9 (fun pre2 W' => LgW w.heap.size w A0 l0.length c0 (pre2.foldl (lgS ((g.val : Int), up)) st0).1.1 (pre2.foldl (lgS ((g.val : Int), up)) st0).1.2 (pre2.foldl (lgS ((g.val : Int), up)) st0).2.1 (pre2.foldl (lgS ((g.val : Int), up)) st0).2.2 W' ∧ (Blk W' ba #[.int .u64 (orU l0), .int .u64 (orD l0)] 85 ∧ Blk W' b #[.int .i64 (g.val : Int), .bool up] 77) ∧ bs + 1 + 1 ≤ W'.heap.size ∧ KeepsFrom w2.heap.size W3 W' ∧ Below w.heap.size W3 W') (fun _ _ _ => False) ?hI2 (fun _ _ _ _ _ h _ _ => h.elim) ?h02 (fun x b2 W' => bs + 1 + 1 ≤ b2 ∧ Blk W' b2 #[.int .i64 x.1.f0, .int .i64 x.1.f1] 57) ?hAx2 ?assign2 ?body2 ?done2 ?stop2
    case hI2 => exact OwnFrom.and (LgW.own (fun pre2 : List (S57 × Bool) => pre2.foldl (lgS ((g.val : Int), up)) st0) (Nat.le_refl _) (by omega)) (OwnFrom.and (OwnFrom.and ((blk_own ba 85 (fun _ => #[.int .u64 (orU l0), .int .u64 (orD l0)])).from _) ((blk_own b 77 (fun _ => #[.int .i64 (g.val : Int), .bool up])).from _)) (OwnFrom.and ((own_size _).from _) (OwnFrom.and (ownFrom_keepsFrom (Nat.le_refl _)) (ownFrom_below (by omega) (by omega)))))
    case h02 => exact ⟨L3.out, ⟨A3.out, X3.out⟩, by omega, KeepsFrom.refl _ _, Below.refl _ _⟩
    case hAx2 => exact fun x b2 => OwnFrom.and (ownFrom_pure _ (fun _ => bs + 1 + 1 ≤ b2)) ((blk_own b2 57 (fun _ => #[.int .i64 x.1.f0, .int .i64 x.1.f1])).from _)
    case assign2 =>
      rintro l pre2 ⟨⟨s0, s1⟩, ended⟩ W' K ⟨hlg, ⟨hA, hX⟩, hsz3, hkf, hbe⟩ hK
      have key := hK W'.heap.size (W'.alloc (.cells #[.int .i64 s0, .int .i64 s1] 57)) ((KeepsOthers.alloc W' _).from _) (keep3_alloc W' _ (by omega) (by omega) (by omega)) ⟨hlg.alloc (by omega) _, ⟨hA.alloc _, hX.alloc _⟩, by rw [World.size_alloc]; omega, hkf.trans ((KeepsOthers.alloc W' _).from _), hbe.alloc (by omega) _⟩ ⟨hsz3, Blk.new W' _ _⟩
      have KEY := Aside0.mk key
      clear key hK hlg hA hX hkf hbe
      simp only [encS]
      gi_wp2
      have key := KEY.out
      simp [rAct, encS] at key
      exact key
    case body2 =>
      rintro l2 pre2 ⟨⟨s0, s1⟩, ended⟩ b2 W' hl2 hr2 ⟨hlg, ⟨hA, hX⟩, hsz3, hkf, hbe⟩ ⟨hb2, hblk2⟩ hlen2
      obtain ⟨st1, hst1⟩ : ∃ st1, pre2.foldl (lgS ((g.val : Int), up)) st0 = st1 := ⟨_, rfl⟩
      rw [hst1] at hlg
      obtain ⟨⟨sf, su⟩, ss, se⟩ := st1
      simp only at hlg
      have c0 := hblk2.cell 0 rfl
      have c1 := hblk2.cell 1 rfl
      have q0 := hlg.s.cell 0 rfl
      have q1 := hlg.s.cell 1 rfl
      have x0 := hX.cell 0 rfl
      have x1 := hX.cell 1 rfl
      have S1 := Aside0.mk hst1
      have LG := Aside0.mk hlg
      have BA := Aside0.mk hA
      have BX := Aside0.mk hX
      have BY := Aside0.mk hblk2
      have KF := Aside0.mk hkf
      have BE := Aside0.mk hbe
      clear hst1 hlg hA hX hblk2 hkf hbe hr2
      simp only [encS, rAct]
      cases d1 : decide (wrap64 (se - ss) < wrap64 (s1 - s0)) with
      | true => 
        gi_wp2_with fail
        refine wpIn_region_reads (fun W => W.cell? ⟨b, 0, none⟩ = some (.int .i64 (g.val : Int)) ∧ W.cell? ⟨b, 1, none⟩ = some (.bool up) ∧ W.cell? ⟨b2, 0, none⟩ = some (.int .i64 s0) ∧ W.cell? ⟨b2, 1, none⟩ = some (.int .i64 s1)) (by kernel_rfl) ?_
        change wpAnyC _ _ _ _ _ _ _ 8 _ _ (World.drew W')
        refine anyC_take (i := 0) (v := .pointer (some ⟨b, 0, none⟩)) (by kernel_rfl) rfl (by kernel_rfl) (by kernel_rfl) (by kernel_rfl) (fun _ _ _ h => h) ⟨x0, x1, c0, c1⟩ (by rfl) (fun _ => rfl) (by rintro wq ⟨h0, h1, h2, h3⟩; go_simp) ?_
        refine anyC_take (i := 1) (v := .int .i64 (g.val : Int)) (by kernel_rfl) rfl (by kernel_rfl) (by kernel_rfl) (by kernel_rfl) (fun _ _ _ h => h) ⟨x0, x1, c0, c1⟩ (by rfl) (fun _ => rfl) (by rintro wq ⟨h0, h1, h2, h3⟩; go_simp) ?_
        refine anyC_take (i := 2) (v := .pointer (some ⟨b, 1, none⟩)) (by kernel_rfl) rfl (by kernel_rfl) (by kernel_rfl) (by kernel_rfl) (fun _ _ _ h => h) ⟨x0, x1, c0, c1⟩ (by rfl) (fun _ => rfl) (by rintro wq ⟨h0, h1, h2, h3⟩; go_simp) ?_
        refine anyC_take (i := 3) (v := .bool up) (by kernel_rfl) rfl (by kernel_rfl) (by kernel_rfl) (by kernel_rfl) (fun _ _ _ h => h) ⟨x0, x1, c0, c1⟩ (by rfl) (fun _ => rfl) (by rintro wq ⟨h0, h1, h2, h3⟩; go_simp) ?_
        refine anyC_take (i := 4) (v := .agg #[.int .i64 s0, .int .i64 s1]) (by kernel_rfl) rfl (by kernel_rfl) (by kernel_rfl) (by kernel_rfl) (fun _ _ _ h => h) ⟨x0, x1, c0, c1⟩ (by rfl) (fun _ => rfl) (by rintro wq ⟨h0, h1, h2, h3⟩; go_simp) ?_
        have hlg := LG.out
        have cf := hlg.f.cell
        have cu := hlg.u.cell
        have ff := hlg.f.frozen
        have fu := hlg.u.frozen
        have fs0 := hlg.s.fr 0
        have fs1 := hlg.s.fr 1
        have hXd : Blk W'.drew b #[.int .i64 (g.val : Int), .bool up] 77 := BX.out
        have hYd : Blk W'.drew b2 #[.int .i64 s0, .int .i64 s1] 57 := BY.out
        have n1 : ¬ b = w.heap.size + 1 := by omega
        have n2 : ¬ b = w.heap.size + 1 + 1 := by omega
        have n3 : ¬ b2 = w.heap.size + 1 := by omega
        have n4 : ¬ b2 = w.heap.size + 1 + 1 := by omega
        have n5 : ¬ b = w.heap.size + 1 + 1 + 1 := by omega
        have n6 : ¬ b2 = w.heap.size + 1 + 1 + 1 := by omega
        have hX1 := hXd.far ⟨w.heap.size + 1, 0, none⟩ (.int .i64 (g.val : Int)) n1
        have hY1 := hYd.far ⟨w.heap.size + 1, 0, none⟩ (.int .i64 (g.val : Int)) n3
        have hX2 := hX1.far ⟨w.heap.size + 1 + 1, 0, none⟩ (.bool up) n2
        have hY2 := hY1.far ⟨w.heap.size + 1 + 1, 0, none⟩ (.bool up) n4
        have hX3 := (hX2.far ⟨w.heap.size + 1 + 1 + 1, 0, none⟩ (.int .i64 s0) n5).far ⟨w.heap.size + 1 + 1 + 1, 1, none⟩ (.int .i64 s1) n5
        have hY3 := (hY2.far ⟨w.heap.size + 1 + 1 + 1, 0, none⟩ (.int .i64 s0) n6).far ⟨w.heap.size + 1 + 1 + 1, 1, none⟩ (.int .i64 s1) n6
        clear hlg
        refine anyC_store (i := 5) (w' := W'.drew.setCell ⟨w.heap.size + 1, 0, none⟩ (.int .i64 (g.val : Int))) (by kernel_rfl) rfl (by kernel_rfl) (by rfl) (by rfl) (by go_simp) ⟨hX1.cell 0 rfl, hX1.cell 1 rfl, hY1.cell 0 rfl, hY1.cell 1 rfl⟩ ?_
        refine anyC_store (i := 6) (w' := (W'.drew.setCell ⟨w.heap.size + 1, 0, none⟩ (.int .i64 (g.val : Int))).setCell ⟨w.heap.size + 1 + 1, 0, none⟩ (.bool up)) (by kernel_rfl) rfl (by kernel_rfl) (by rfl) (by rfl) (by go_simp) ⟨hX2.cell 0 rfl, hX2.cell 1 rfl, hY2.cell 0 rfl, hY2.cell 1 rfl⟩ ?_
        refine anyC_store (i := 7) (w' := lgSet w.heap.size W'.drew (g.val : Int) up s0 s1) (by kernel_rfl) rfl (by kernel_rfl) (by rfl) (by rfl) (by go_simp; rfl) ⟨hX3.cell 0 rfl, hX3.cell 1 rfl, hY3.cell 0 rfl, hY3.cell 1 rfl⟩ ?_
        refine anyC_done (by kernel_rfl) ?_ _
        clear hX1 hX2 hX3 hY1 hY2 hY3 hXd hYd cf cu ff fu fs0 fs1 c0 c1 q0 q1 x0 x1
        gi_wp2_with fail
        have hd : Below W'.heap.size W' W'.drew := below_drew (Below.refl _ _)
        have hlgd := (LG.out.below hd (by omega)).set (g.val : Int) up s0 s1
        have hbw : Below w.heap.size W' (lgSet w.heap.size W'.drew (g.val : Int) up s0 s1) := (hd.mono (by omega)).trans (lgSet_below _ _ _ _ _ _)
        have hko : KeepsOthers W' (lgSet w.heap.size W'.drew (g.val : Int) up s0 s1) := (KeepsOthers.drew W').trans (lgSet_keeps _ _ _ _ _ _)
        refine ⟨hko.from _, ⟨lgSet_far _ _ _ _ _ _ _ (by omega), lgSet_far _ _ _ _ _ _ _ (by omega), hbw⟩, ?_, ⟨(lgSet_far _ _ _ _ _ _ _ (by omega)).trans BA.out, (lgSet_far _ _ _ _ _ _ _ (by omega)).trans BX.out⟩, Nat.le_trans hsz3 hko.size, KF.out.trans (hko.from _), BE.out.trans hbw⟩
        rw [List.foldl_append, S1.out, List.foldl_cons, List.foldl_nil, show lgS ((g.val : Int), up) ((sf, su), ss, se) (⟨s0, s1⟩, ended) = (((g.val : Int), up), s0, s1) from if_pos (of_decide_eq_true d1)]
        exact hlgd
      | false =>
        cases d2 : (wrap64 (s1 - s0) == wrap64 (se - ss)) with
        | false =>
          gi_wp2_with fail
          refine ⟨KeepsFrom.refl _ _, ⟨rfl, rfl, Below.refl _ _⟩, ?_, ⟨BA.out, BX.out⟩, hsz3, KF.out, BE.out⟩
          rw [List.foldl_append, S1.out, List.foldl_cons, List.foldl_nil, show lgS ((g.val : Int), up) ((sf, su), ss, se) (⟨s0, s1⟩, ended) = ((sf, su), ss, se) from (if_neg (of_decide_eq_false d1)).trans (if_neg (by rw [show (wrap64 (s1 - s0) == wrap64 (se - ss)) = false from d2]; decide))]
          exact LG.out
        | true =>
          cases d3 : decide (s0 < ss) with
          | false =>
            gi_wp2_with fail
            refine ⟨KeepsFrom.refl _ _, ⟨rfl, rfl, Below.refl _ _⟩, ?_, ⟨BA.out, BX.out⟩, hsz3, KF.out, BE.out⟩
            rw [List.foldl_append, S1.out, List.foldl_cons, List.foldl_nil, show lgS ((g.val : Int), up) ((sf, su), ss, se) (⟨s0, s1⟩, ended) = ((sf, su), ss, se) from (if_neg (of_decide_eq_false d1)).trans ((if_pos d2).trans (if_neg (of_decide_eq_false d3)))]
            exact LG.out
          | true =>
            gi_wp2_with fail
            refine wpIn_region_reads (fun W => W.cell? ⟨b, 0, none⟩ = some (.int .i64 (g.val : Int)) ∧ W.cell? ⟨b, 1, none⟩ = some (.bool up) ∧ W.cell? ⟨b2, 0, none⟩ = some (.int .i64 s0) ∧ W.cell? ⟨b2, 1, none⟩ = some (.int .i64 s1)) (by kernel_rfl) ?_
            change wpAnyC _ _ _ _ _ _ _ 8 _ _ (World.drew W')
            refine anyC_take (i := 0) (v := .pointer (some ⟨b, 0, none⟩)) (by kernel_rfl) rfl (by kernel_rfl) (by kernel_rfl) (by kernel_rfl) (fun _ _ _ h => h) ⟨x0, x1, c0, c1⟩ (by rfl) (fun _ => rfl) (by rintro wq ⟨h0, h1, h2, h3⟩; go_simp) ?_
            refine anyC_take (i := 1) (v := .int .i64 (g.val : Int)) (by kernel_rfl) rfl (by kernel_rfl) (by kernel_rfl) (by kernel_rfl) (fun _ _ _ h => h) ⟨x0, x1, c0, c1⟩ (by rfl) (fun _ => rfl) (by rintro wq ⟨h0, h1, h2, h3⟩; go_simp) ?_
            refine anyC_take (i := 2) (v := .pointer (some ⟨b, 1, none⟩)) (by kernel_rfl) rfl (by kernel_rfl) (by kernel_rfl) (by kernel_rfl) (fun _ _ _ h => h) ⟨x0, x1, c0, c1⟩ (by rfl) (fun _ => rfl) (by rintro wq ⟨h0, h1, h2, h3⟩; go_simp) ?_
            refine anyC_take (i := 3) (v := .bool up) (by kernel_rfl) rfl (by kernel_rfl) (by kernel_rfl) (by kernel_rfl) (fun _ _ _ h => h) ⟨x0, x1, c0, c1⟩ (by rfl) (fun _ => rfl) (by rintro wq ⟨h0, h1, h2, h3⟩; go_simp) ?_
            refine anyC_take (i := 4) (v := .agg #[.int .i64 s0, .int .i64 s1]) (by kernel_rfl) rfl (by kernel_rfl) (by kernel_rfl) (by kernel_rfl) (fun _ _ _ h => h) ⟨x0, x1, c0, c1⟩ (by rfl) (fun _ => rfl) (by rintro wq ⟨h0, h1, h2, h3⟩; go_simp) ?_
            have hlg := LG.out
            have cf := hlg.f.cell
            have cu := hlg.u.cell
            have ff := hlg.f.frozen
            have fu := hlg.u.frozen
            have fs0 := hlg.s.fr 0
            have fs1 := hlg.s.fr 1
            have hXd : Blk W'.drew b #[.int .i64 (g.val : Int), .bool up] 77 := BX.out
            have hYd : Blk W'.drew b2 #[.int .i64 s0, .int .i64 s1] 57 := BY.out
            have n1 : ¬ b = w.heap.size + 1 := by omega
            have n2 : ¬ b = w.heap.size + 1 + 1 := by omega
            have n3 : ¬ b2 = w.heap.size + 1 := by omega
            have n4 : ¬ b2 = w.heap.size + 1 + 1 := by omega
            have n5 : ¬ b = w.heap.size + 1 + 1 + 1 := by omega
            have n6 : ¬ b2 = w.heap.size + 1 + 1 + 1 := by omega
            have hX1 := hXd.far ⟨w.heap.size + 1, 0, none⟩ (.int .i64 (g.val : Int)) n1
            have hY1 := hYd.far ⟨w.heap.size + 1, 0, none⟩ (.int .i64 (g.val : Int)) n3
            have hX2 := hX1.far ⟨w.heap.size + 1 + 1, 0, none⟩ (.bool up) n2
            have hY2 := hY1.far ⟨w.heap.size + 1 + 1, 0, none⟩ (.bool up) n4
            have hX3 := (hX2.far ⟨w.heap.size + 1 + 1 + 1, 0, none⟩ (.int .i64 s0) n5).far ⟨w.heap.size + 1 + 1 + 1, 1, none⟩ (.int .i64 s1) n5
            have hY3 := (hY2.far ⟨w.heap.size + 1 + 1 + 1, 0, none⟩ (.int .i64 s0) n6).far ⟨w.heap.size + 1 + 1 + 1, 1, none⟩ (.int .i64 s1) n6
            clear hlg
            refine anyC_store (i := 5) (w' := W'.drew.setCell ⟨w.heap.size + 1, 0, none⟩ (.int .i64 (g.val : Int))) (by kernel_rfl) rfl (by kernel_rfl) (by rfl) (by rfl) (by go_simp) ⟨hX1.cell 0 rfl, hX1.cell 1 rfl, hY1.cell 0 rfl, hY1.cell 1 rfl⟩ ?_
            refine anyC_store (i := 6) (w' := (W'.drew.setCell ⟨w.heap.size + 1, 0, none⟩ (.int .i64 (g.val : Int))).setCell ⟨w.heap.size + 1 + 1, 0, none⟩ (.bool up)) (by kernel_rfl) rfl (by kernel_rfl) (by rfl) (by rfl) (by go_simp) ⟨hX2.cell 0 rfl, hX2.cell 1 rfl, hY2.cell 0 rfl, hY2.cell 1 rfl⟩ ?_
            refine anyC_store (i := 7) (w' := lgSet w.heap.size W'.drew (g.val : Int) up s0 s1) (by kernel_rfl) rfl (by kernel_rfl) (by rfl) (by rfl) (by go_simp; rfl) ⟨hX3.cell 0 rfl, hX3.cell 1 rfl, hY3.cell 0 rfl, hY3.cell 1 rfl⟩ ?_
            refine anyC_done (by kernel_rfl) ?_ _
            clear hX1 hX2 hX3 hY1 hY2 hY3 hXd hYd cf cu ff fu fs0 fs1 c0 c1 q0 q1 x0 x1
            gi_wp2_with fail
            have hd : Below W'.heap.size W' W'.drew := below_drew (Below.refl _ _)
            have hlgd := (LG.out.below hd (by omega)).set (g.val : Int) up s0 s1
            have hbw : Below w.heap.size W' (lgSet w.heap.size W'.drew (g.val : Int) up s0 s1) := (hd.mono (by omega)).trans (lgSet_below _ _ _ _ _ _)
            have hko : KeepsOthers W' (lgSet w.heap.size W'.drew (g.val : Int) up s0 s1) := (KeepsOthers.drew W').trans (lgSet_keeps _ _ _ _ _ _)
            refine ⟨hko.from _, ⟨lgSet_far _ _ _ _ _ _ _ (by omega), lgSet_far _ _ _ _ _ _ _ (by omega), hbw⟩, ?_, ⟨(lgSet_far _ _ _ _ _ _ _ (by omega)).trans BA.out, (lgSet_far _ _ _ _ _ _ _ (by omega)).trans BX.out⟩, Nat.le_trans hsz3 hko.size, KF.out.trans (hko.from _), BE.out.trans hbw⟩
            rw [List.foldl_append, S1.out, List.foldl_cons, List.foldl_nil, show lgS ((g.val : Int), up) ((sf, su), ss, se) (⟨s0, s1⟩, ended) = (((g.val : Int), up), s0, s1) from (if_neg (of_decide_eq_false d1)).trans ((if_pos d2).trans (if_pos (of_decide_eq_true d3)))]
            exact hlgd
    case done2 =>
      rintro ys W' rfl ⟨hlg, ⟨hA, hX⟩, hsz3, hkf, hbe⟩
      refine ⟨(K3.out.from _).trans hkf, keepA_t KA3.out ⟨hA.trans A3.out.symm, hbe⟩, ?_, hA, by omega⟩
      rw [List.foldl_append, HS0.out]
      exact hlg
    case stop2 => exact fun _ _ _ _ h => h.elim
  case done =>
    rintro D ys W hD rfl ⟨hlg, hA, hsz2⟩ hK
    rw [HST.out] at hlg
    obtain ⟨⟨sf, su⟩, ss, se⟩ := st
    simp only at hlg
    have cs0 := hlg.s.cell 0 rfl
    have cs1 := hlg.s.cell 1 rfl
    have fs0 := hlg.s.fr 0
    have fs1 := hlg.s.fr 1
    have cf := hlg.f.cell
    have cu := hlg.u.cell
    have ff := hlg.f.frozen
    have fu := hlg.u.frozen
    have LG := Aside0.mk hlg
    have HK := Aside0.mk hK
    clear hlg hK hA
    go_wp2_with fail
    have e1 : ∀ k, (W.drewN k).setCell ⟨w.heap.size + 1, 0, none⟩ (.int .i64 sf) = W.drewN k := fun k => boxed_same (show Boxed (W.drewN k) _ _ _ from LG.out.f)
    have e2 : ∀ k, (W.drewN k).setCell ⟨w.heap.size + 1 + 1, 0, none⟩ (.bool su) = W.drewN k := fun k => boxed_same (show Boxed (W.drewN k) _ _ _ from LG.out.u)
    have e3 : ∀ k, (W.drewN k).setCell ⟨w.heap.size + 1 + 1 + 1, 0, none⟩ (.int .i64 ss) = W.drewN k := fun k => blk_same (show Blk (W.drewN k) _ _ _ from LG.out.s) 0 rfl
    have e4 : ∀ k, (W.drewN k).setCell ⟨w.heap.size + 1 + 1 + 1, 1, none⟩ (.int .i64 se) = W.drewN k := fun k => blk_same (show Blk (W.drewN k) _ _ _ from LG.out.s) 1 rfl
    go_quiet (fail)
    go_wp2_with fail
    clear cs0 cs1 cf cu ff fu fs0 fs1 e1 e2 e3 e4
    have hlgq : LgW w.heap.size w A0 l0.length c0 sf su ss se (W.drewN nq) := ⟨LG.out.l, LG.out.f, LG.out.u, LG.out.s, pw_below_drewN LG.out.b nq⟩
    have hlgD : LgW w.heap.size w A0 l0.length c0 sf su ss se ((W.drewN nq).putObj D (.deferred none)) := OwnFrom.putObj (LgW.own (fun _ : Unit => ((sf, su), ss, se)) (Nat.le_refl _) (B := D) (by omega)) (s := ()) (.deferred none) hlgq (Nat.le_refl _) (show (W.drewN nq).heap[D]? = _ from HK.out) rfl
    have cs0 := hlgD.s.cell 0 rfl
    have cs1 := hlgD.s.cell 1 rfl
    have cf := hlgD.f.cell
    have cu := hlgD.u.cell
    refine ⟨by simp, .inl ⟨_, _, rfl, run_takeDeferred (show (W.drewN nq).heap[D]? = _ from HK.out), ?_⟩⟩
    refine ⟨.tuple #[.int .i64 sf, .bool su, .agg #[.int .i64 ss, .int .i64 se], .int .i64 0], by simp [results, Tryd.results25, go_sem, cs0, cs1, cf, cu, hu57], rfl, hlgD.b⟩
  case stop => exact fun _ _ _ _ _ _ h _ => h.elim

def report_Longest.f (k : Nat) (l : List S41) : Option (Int × Bool × Int × Int × Int) :=
  (report_Check.f k l).bind fun e => if e.1 = 0 then (allF k ((orU l).toNat ||| (orD l).toNat) (orU l) (orD l)).map (fun xs => let st := xs.foldl (lgL l) ((0, false), 0, 0); (st.1.1, st.1.2, st.2.1, st.2.2, 0)) else some (0, false, 0, 0, e.1)
theorem report_Longest.calls (k : Nat) (A0 : Option Addr) (c0 : Nat) (l0 : List S41) (r1 : Int) (r2 : Bool) (r3 r4 r5 : Int) (w : World) (HL : LaidAt w) (hr0 : Kd.C k41 w A0 l0.length l0) (hc0 : l0.length ≤ c0) (h : report_Longest.f k l0 = some (r1, r2, r3, r4, r5)) :
    Calls Tryd.prog 25 #[.slice A0 l0.length c0] w fun e w' => e = .returned (.tuple #[.int .i64 r1, .bool r2, .agg #[.int .i64 r3, .int .i64 r4], .int .i64 r5]) ∧ Below w.heap.size w w' := by
  obtain ⟨⟨e, i⟩, he, h⟩ := Option.bind_eq_some_iff.1 h
  by_cases h0 : e = 0
  · rw [if_pos h0] at h
    obtain ⟨xs, hx, h⟩ := Option.map_eq_some_iff.1 h
    subst h0
    have h1 := Longest_yes k k A0 c0 l0 i w HL hr0 hc0 he xs hx _ rfl
    simp only [Prod.mk.injEq] at h
    obtain ⟨rfl, rfl, rfl, rfl, rfl⟩ := h
    exact h1
  · rw [if_neg h0] at h
    have h := Option.some.inj h
    simp only [Prod.mk.injEq] at h
    obtain ⟨rfl, rfl, rfl, rfl, rfl⟩ := h
    exact Longest_no k A0 c0 l0 e i w hr0 hc0 he h0

end Go.Proofs.YtenlokaaloenmaaDoor.S
