/- motion.Path, walked: the places of the first ticks. -/
import Derived.Test.YtocbjclflabmcaaHleft

import Derived.Maps.AppendAt
import Derived.WalkSmall
namespace Go.Proofs.Ytocbjclflabmcaa.S
open Go.RowKit Go.Proofs.YtocbjclflabmcaaW.PrintWords Go.Proofs.YtocbjclflabmcaaW.PrintLast Go.Proofs.YtocbjclflabmcaaW.PrintMore
set_option linter.unusedVariables false
set_option linter.unusedSimpArgs false
attribute [local go_sem] Oper.semAt_some wide_fn wideR_fn
attribute [local simp] wide_fn wideR_fn

def motion_Path.f (k : Nat) (p g s m n : Int) : Option (List Int × Int) :=
  (motion_Check.f p g s m).bind fun e => if e = 0 then (if n < 0 ∨ 1000 < n then some ([], 2) else if n = 0 then some ([], 0) else (posL k p g s m).map fun xs => (xs.take n.toNat, 0)) else some ([], e)
theorem motion_Path.mono : ∀ p g s m n k, LeO (motion_Path.f k p g s m n) (motion_Path.f (k + 1) p g s m n) := fun p g s m n k =>
  LeO.bind (LeO.refl _) (fun _ => LeO.ite (LeO.ite (LeO.refl _) (LeO.ite (LeO.refl _) (LeO.map _ (posL_mono k p g s m)))) (LeO.refl _))

/-- What is behind the call of Check. -/
structure PtW (w w1 : World) (p g s m n : Int) : Prop where
  m : Mot w1 w.heap.size p g s m
  t : Boxed w1 (w.heap.size + 1) 3 (.int .i64 n)
  b : Below w.heap.size w w1
  s : w.heap.size + 1 + 1 ≤ w1.heap.size
theorem PtW.of {w w1 : World} {p g s m n : Int} (hb : Below (w.heap.size + 1 + 1) ((w.alloc (.cells #[.int .i64 p, .int .i64 g, .int .i64 s, .int .i64 m] 23)).alloc (.cells #[.int .i64 n] 3)) w1) : PtW w w1 p g s m n where
  m := ((Mot.new w p g s m).alloc (.cells #[.int .i64 n] 3)).below hb (by omega)
  t := by have := Boxed.new (w.alloc (.cells #[.int .i64 p, .int .i64 g, .int .i64 s, .int .i64 m] 23)) 3 (.int .i64 n); rw [World.size_alloc] at this; exact (hb.block _ (by omega)).trans this
  b := (((Below.refl _ w).alloc (Nat.le_refl _) _).alloc (by simp) _).trans (hb.mono (by omega))
  s := by have := hb.size; simp at this; omega

set_option maxHeartbeats 2000000 in
set_option maxRecDepth 100000 in
theorem Path_no (p g s m n e r : Int) (w : World) (h : motion_Check.f p g s m = some e) (hr : r = (if e = 0 then (if n < 0 ∨ 1000 < n then 2 else 0) else e)) (hn : e = 0 → n < 0 ∨ 1000 < n ∨ n = 0) :
    Calls Try.prog 22 #[.agg #[.int .i64 p, .int .i64 g, .int .i64 s, .int .i64 m], .int .i64 n] w fun x w' => x = .returned (.tuple #[.slice none 0 0, .int .i64 r]) ∧ Below w.heap.size w w' := by
  have hu23 := Try.underlying23
  have H := Aside0.mk h
  have HR := Aside0.mk hr
  have HN := Aside0.mk hn
  clear h hr hn
  go_enter Try.func22, Try.ntmps22
  go_wp2_with fail
  refine (motion_Check.calls p g s m e _ H.out).mono ?_
  rintro e0 w1 ⟨rfl, hb⟩
  have hw := PtW.of (by simpa using hb)
  have ct := hw.t.cell
  have HW := Aside0.mk hw
  clear hw hb
  by_cases h0 : e = 0
  · subst h0
    have hr := HR.out
    have hn := HN.out rfl
    rw [if_pos rfl] at hr
    cases d1 : decide (n < 0) with
    | true =>
      rw [if_pos (.inl (of_decide_eq_true d1))] at hr
      subst hr
      clear HR HN hn
      go_wp2_with fail
      go_ret2
      exact ⟨rfl, HW.out.b⟩
    | false =>
      cases d2 : decide (1000 < n) with
      | true =>
        rw [if_pos (.inr (of_decide_eq_true d2))] at hr
        subst hr
        clear HR HN hn
        go_wp2_with fail
        go_ret2
        exact ⟨rfl, HW.out.b⟩
      | false =>
        have e1 := of_decide_eq_false d1
        have e2 := of_decide_eq_false d2
        rw [if_neg (by omega)] at hr
        have e3 : (n == 0) = true := by rw [beq_iff_eq]; omega
        have hz : n = 0 := by omega
        subst hz
        subst hr
        clear HR HN hn e1 e2
        go_upto_region 7 with (fail)
        obtain ⟨w2, hw2⟩ : ∃ x, w1.alloc (.cells #[.slice none 0 0] 34) = x := ⟨_, rfl⟩
        have ct2 : w2.cell? ⟨w.heap.size + 1, 0, none⟩ = some (.int .i64 0) := by rw [← hw2]; exact (HW.out.t.alloc _).cell
        have co2 : w2.cell? ⟨w1.heap.size, 0, none⟩ = some (.slice none 0 0) := by rw [← hw2]; exact (Boxed.new w1 34 _).cell
        have HB2 := Aside0.mk (show Below w.heap.size w w2 by rw [← hw2]; exact HW.out.b.alloc (by have := HW.out.s; omega) _)
        rw [hw2]
        clear hw2 ct
        go_wp2_with fail
        go_ret2
        exact ⟨rfl, HB2.out⟩
  · have n4 : (e != 0) = true := bne_iff_ne.mpr h0
    have hr := HR.out
    rw [if_neg h0] at hr
    subst hr
    clear HR HN h0
    go_wp2_with fail
    go_ret2
    exact ⟨rfl, HW.out.b⟩

/-- What the variables of Path hold, so many places having come. -/
def PtI (b0 bt bo bc N0 : Nat) (w : World) (n : Nat) (pre : List Int) (W : World) : Prop :=
  ((∃ v, Boxed W bo 34 v ∧ W.ownsRow N0 3 1 v pre.length (pre.map (Value.int .i64)) ∧ True) ∧ Boxed W bt 3 (.int .i64 n)) ∧ N0 ≤ W.heap.size ∧ Below b0 w W ∧ pre.length < n
def PtX (b0 bo N0 : Nat) (w : World) (n : Nat) (c : Code) (pre : List Int) (W : World) : Prop :=
  (∃ v, Boxed W bo 34 v ∧ W.ownsRow N0 3 1 v pre.length (pre.map (Value.int .i64)) ∧ True) ∧ N0 ≤ W.heap.size ∧ Below b0 w W ∧ c = .exit 0 ∧ pre.length = n

theorem kept_low {W w1 : World} {tmp : Obj} {e : TypeId} {size n : Nat} {v : Value} {xs : List Value} {N0 b : Nat} (hrow : W.ownsRow N0 e size v n xs) (hg : (W.alloc tmp).grownBy w1 v.ownBlock) (hb : b < N0) (hbW : b < W.heap.size) : w1.heap[b]? = W.heap[b]? := by
  refine (hg.block b (by simp; omega) ?_).trans (Below.heap_alloc W tmp b hbW)
  rcases hrow.2 with ⟨rfl, _⟩ | ⟨g, cap, cur, rfl, hg', _⟩
  · simp [Value.ownBlock]
  · intro e'
    obtain rfl : b = g := by simpa [Value.ownBlock] using e'
    exact Nat.not_lt.2 hg' hb
theorem own_size {β : Type} (n : Nat) : Own (fun (_ : β) W => n ≤ W.heap.size) := fun _ _ _ _ hs hg _ => Nat.le_trans hs hg.size

theorem row_low {W A' : World} {e : TypeId} {size n : Nat} {v : Value} {xs : List Value} {N0 b : Nat} (hrow : W.ownsRow N0 e size v n xs) (hg : W.grownBy A' (some b)) (hb : b < N0) : A'.ownsRow N0 e size v n xs := by
  refine hrow.kept hg ?_
  rcases hrow.2 with ⟨rfl, _⟩ | ⟨g, cap, cur, rfl, hg', _⟩
  · exact .inl rfl
  · refine .inr fun e' => ?_
    obtain rfl : g = b := by simpa [Value.ownBlock] using e'
    omega

theorem PtI.tick {b0 bt bo bc N0 : Nat} {w : World} {n : Nat} {g m : Int} {pre : List Int} {A A' : World} (h : PtI b0 bt bo bc N0 w n pre A) (ht : TickT bc g m A A') (h1 : ¬ bo = bc) (h2 : ¬ bt = bc) (h3 : bc < N0) (h4 : b0 ≤ bc) (h5 : b0 ≤ w.heap.size) : PtI b0 bt bo bc N0 w n pre A' := by
  obtain ⟨⟨⟨v, hv, hr, _⟩, hb⟩, hs, hB, hl⟩ := h
  exact ⟨⟨⟨v, (ht.1.block bo hv.lt (fun e => h1 (Option.some.inj e))).trans hv, row_low hr ht.1 h3, trivial⟩, (ht.1.block bt hb.lt (fun e => h2 (Option.some.inj e))).trans hb⟩, Nat.le_trans hs ht.1.size, hB.grown ht.1 (Nat.le_trans h5 hB.size) (fun k e => by cases e; exact h4), hl⟩
theorem PtX.tick {b0 bo bc N0 : Nat} {w : World} {n : Nat} {c : Code} {g m : Int} {pre : List Int} {A A' : World} (h : PtX b0 bo N0 w n c pre A) (ht : TickT bc g m A A') (h1 : ¬ bo = bc) (h3 : bc < N0) (h4 : b0 ≤ bc) (h5 : b0 ≤ w.heap.size) : PtX b0 bo N0 w n c pre A' := by
  obtain ⟨⟨v, hv, hr, _⟩, hs, hB, hl⟩ := h
  exact ⟨⟨v, (ht.1.block bo hv.lt (fun e => h1 (Option.some.inj e))).trans hv, row_low hr ht.1 h3, trivial⟩, Nat.le_trans hs ht.1.size, hB.grown ht.1 (Nat.le_trans h5 hB.size) (fun k e => by cases e; exact h4), hl⟩

set_option maxHeartbeats 4000000 in
set_option maxRecDepth 100000 in
theorem Path_yes (k : Nat) (p g s m : Int) (n : Nat) (xs : List Int) (w : World) (h : motion_Check.f p g s m = some 0) (hn0 : 0 < n) (hn1 : n ≤ 1000) (hx : posL k p g s m = some xs) :
    Calls Try.prog 22 #[.agg #[.int .i64 p, .int .i64 g, .int .i64 s, .int .i64 m], .int .i64 n] w fun x w' => ∃ v0_ : Value, x = .returned (.tuple #[v0_, .int .i64 0]) ∧ w'.ownsRow w.heap.size 3 1 v0_ (xs.take n).length ((xs.take n).map (Value.int .i64)) ∧ Below w.heap.size w w' := by
  have hu48 := Try.underlying48
  have hu23 := Try.underlying23
  obtain ⟨i0, hi, hz0, hz1, hz2⟩ := info_parts info3
  have H := Aside0.mk h
  have HX := Aside0.mk hx
  have d1 : decide ((n : Int) < 0) = false := decide_eq_false (by omega)
  have d2 : decide (1000 < (n : Int)) = false := decide_eq_false (by omega)
  have d3 : ((n : Int) == 0) = false := by rw [beq_eq_false_iff_ne]; omega
  clear h hx
  refine (callsIn_wide (n := 9)).1 ?_
  refine callsIn_of_wp_marks Try.func22 rfl trivial ?_ rfl
  simp only [Try.ntmps22, List.size_toArray, List.length_cons, List.length_nil, Nat.reduceAdd, Nat.reduceSub, Array.replicate_succ, Array.replicate_zero, List.push_toArray, List.append_toArray, List.nil_append, List.cons_append]
  rw [wpIn_wide]
  go_wp2_with fail
  refine (motion_Check.calls p g s m 0 _ H.out).mono ?_
  rintro e0 w1 ⟨rfl, hb⟩
  have hw := PtW.of (by simpa using hb)
  have ct := hw.t.cell
  have k0 := hw.m.c0
  have k1 := hw.m.c1
  have k2 := hw.m.c2
  have k3 := hw.m.c3
  have HW := Aside0.mk hw
  clear hw hb
  go_upto_region 7 with (fail)
  obtain ⟨w2, hw2⟩ : ∃ x, w1.alloc (.cells #[.slice none 0 0] 34) = x := ⟨_, rfl⟩
  obtain ⟨bo, hbo⟩ : ∃ x, w1.heap.size = x := ⟨_, rfl⟩
  have hm2 : Mot w2 w.heap.size p g s m := by rw [← hw2]; exact HW.out.m.alloc _
  have ht2 : Boxed w2 (w.heap.size + 1) 3 (.int .i64 n) := by rw [← hw2]; exact HW.out.t.alloc _
  have ho2 : Boxed w2 bo 34 (.slice none 0 0) := by rw [← hw2, ← hbo]; exact Boxed.new w1 34 _
  have hB2 : Below w.heap.size w w2 := by rw [← hw2]; exact HW.out.b.alloc (by have := HW.out.s; omega) _
  have hs2 : w2.heap.size = bo + 1 := by rw [← hw2, World.size_alloc, hbo]
  have hbo1 : w.heap.size + 1 + 1 ≤ bo := by have := HW.out.s; omega
  rw [hw2, hbo]
  clear hw2 hbo HW ct k0 k1 k2 k3 w1
  have ct := ht2.cell
  have k0 := hm2.c0
  have k1 := hm2.c1
  have k2 := hm2.c2
  have k3 := hm2.c3
  have T2 := Aside0.mk ht2
  have O2 := Aside0.mk ho2
  have B2 := Aside0.mk hB2
  have S2 := Aside0.mk hs2
  clear hm2 ht2 ho2 hB2 hs2
  go_upto_region 10 with (fail)
  obtain ⟨w3, hw3⟩ : ∃ x, w2.alloc (.cells #[.int .i64 p, .int .i64 g, .int .i64 s, .int .i64 m] 48) = x := ⟨_, rfl⟩
  have hc3 : Car w3 (bo + 1) p g s m := by rw [← hw3, ← S2.out]; exact Car.new w2 _ _ _ _
  have ht3 : Boxed w3 (w.heap.size + 1) 3 (.int .i64 n) := by rw [← hw3]; exact T2.out.alloc _
  have ho3 : Boxed w3 bo 34 (.slice none 0 0) := by rw [← hw3]; exact O2.out.alloc _
  have hB3 : Below w.heap.size w w3 := by rw [← hw3]; exact B2.out.alloc (by have := S2.out; omega) _
  have hs3 : w3.heap.size = bo + 1 + 1 := by rw [← hw3, World.size_alloc, S2.out]
  rw [hw3, S2.out]
  clear hw3 S2 B2 O2 T2 ct k0 k1 k2 k3
  have T3 := Aside0.mk ht3
  have O3 := Aside0.mk ho3
  have B3 := Aside0.mk hB3
  have C3 := Aside0.mk hc3
  have S3 := Aside0.mk hs3
  clear hc3 ht3 ho3 hB3 hs3
  go_wp2_with fail
  refine (positions_any _ _).mono ?_
  rintro e w' ⟨rfl, rfl⟩
  obtain ⟨w4, hw4⟩ : ∃ x, w3.alloc (.cells #[.pointer (some ⟨bo + 1, 0, none⟩)] 54) = x := ⟨_, rfl⟩
  have hx4 : Boxed w4 (bo + 1 + 1) 54 (.pointer (some ⟨bo + 1, 0, none⟩)) := by rw [← hw4, ← S3.out]; exact Boxed.new w3 54 _
  have hc4 : Car w4 (bo + 1) p g s m := by rw [← hw4]; exact C3.out.alloc _
  have ht4 : Boxed w4 (w.heap.size + 1) 3 (.int .i64 n) := by rw [← hw4]; exact T3.out.alloc _
  have ho4 : Boxed w4 bo 34 (.slice none 0 0) := by rw [← hw4]; exact O3.out.alloc _
  have hB4 : Below w.heap.size w w4 := by rw [← hw4]; exact B3.out.alloc (by have := S3.out; omega) _
  have hs4 : w4.heap.size = bo + 1 + 1 + 1 := by rw [← hw4, World.size_alloc, S3.out]
  rw [hw4, S3.out]
  clear hw4 S3 B3 O3 T3 C3
  have T4 := Aside0.mk ht4
  have O4 := Aside0.mk ho4
  have B4 := Aside0.mk hB4
  have S4 := Aside0.mk hs4
  clear ht4 ho4 hB4 hs4
  go_wp2_with fail
  rw [← wpIn_wide (n := 9)]
  refine wpIn_iter1 rfl (by omega) (gf := 53) (lb := #[.pointer (some ⟨bo + 1 + 1, 0, none⟩)]) rfl trivial (enters_of Try.func53 (by kernel_rfl) rfl)
    (pos_stops (9 - 1) (by omega) (bo + 1 + 1) (bo + 1) (by omega) k p g s m xs HX.out w4 hx4 hc4)
    (fun A A' l ht hl hA => ht.1.block l hA (fun e => by cases e; have := S4.out; omega))
    keep2_t (fun W l o' hl => ⟨World.putObj_heap_other (by have := S4.out; omega), World.putObj_heap_other (by have := S4.out; omega)⟩) (fun _ => ⟨rfl, rfl⟩) (fun _ => rfl)
    (PtI w.heap.size (w.heap.size + 1) bo (bo + 1) (bo + 1 + 1 + 1) w n) (PtX w.heap.size bo (bo + 1 + 1 + 1) w n)
    ?hI ?hIx (fun _ _ _ hs ht => hs.tick ht (by omega) (by omega) (by omega) (by omega) (Nat.le_refl _)) (fun _ _ _ _ hs ht => hs.tick ht (by omega) (by omega) (by omega) (Nat.le_refl _)) ?h0 ?a1 ?assign ?body ?done ?stop
  case assign =>
    intro l x W K hK
    gi_wp2
    exact hK
  case hI => exact OwnFrom.and ((own_and (holdsRow_own _ _ _ _ _ (fun pre : List Int => pre.length) (fun pre => pre.map (Value.int .i64)) (fun _ _ => True)) (boxed_own _ _ (fun _ => _))).from _) (OwnFrom.and ((own_size _).from _) (OwnFrom.and (ownFrom_below (Nat.le_refl _) (by have := S4.out; omega)) ((own_pure _).from _)))
  case hIx => exact fun c => OwnFrom.and ((holdsRow_own _ _ _ _ _ (fun pre : List Int => pre.length) (fun pre => pre.map (Value.int .i64)) (fun _ _ => True)).from _) (OwnFrom.and ((own_size _).from _) (OwnFrom.and (ownFrom_below (Nat.le_refl _) (by have := S4.out; omega)) ((own_pure (fun pre : List Int => c = .exit 0 ∧ pre.length = n)).from _)))
  case h0 => exact ⟨⟨⟨_, O4.out, World.ownsRow_nil _ _ _ _, trivial⟩, T4.out⟩, by rw [S4.out]; omega, B4.out, by simpa using hn0⟩
  case body =>
    rintro l pre x W ⟨⟨⟨v, hv, hrow, _⟩, hbt⟩, hsz, hB, hle⟩ hlen
    have ct := hbt.cell
    have cv := hv.cell
    have fv := hv.frozen
    have HBT := Aside0.mk hbt
    obtain ⟨g', cap, ev⟩ : ∃ g cap, v = .slice g pre.length cap := by
      rcases hrow.2 with ⟨e1, e2⟩ | ⟨g, cap, _, e1, _⟩
      · exact ⟨none, 0, by rw [e1, e2]⟩
      · exact ⟨_, _, e1⟩
    subst ev
    clear hbt
    have hs4 := S4.out
    cases hq : ((((pre.length + 1 : Nat) : Int)) == (n : Int)) with
    | true =>
      have hq2 : ((pre.length : Int) + 1 == (n : Int)) = true := by simpa using hq
      gi_wp2_with (gi_at_builtin; refine wpListIn_append_own _ rfl _ _ 34 rfl (bo + 1 + 1 + 1) 3 i0 (.int .i64 0) 1 8 Try.underlying34 hi hz0 hz1 hz2 rfl (by decide) _ _ _ rfl (hrow.alloc _) ⟨W.heap.size, 0, none⟩ 1 1 [.int .i64 x] rfl rfl (cell_one_new _ _ _) (by simp [Value.oneCell']) (by unfold maxLen; omega) (by omega) (by simp; omega) ?_; intro v' w1 hown' hgrow _; obtain ⟨g', cap', rfl⟩ := ownsRow_succ hown'; obtain ⟨hv1, hv2, _, hk2, hb2⟩ := hv.appended (by decide) (own_weaken hrow (show w.heap.size ≤ bo + 1 + 1 + 1 by omega)) hB.size (by omega) (own_weaken hown' (show w.heap.size ≤ bo + 1 + 1 + 1 by omega)) hgrow; have hc1 := hv1.cell; have hf1 := hv1.frozen; have hct1 : w1.cell? ⟨w.heap.size + 1, 0, none⟩ = some (.int .i64 n) := (show Boxed w1 (w.heap.size + 1) 3 (.int .i64 n) from (kept_low hrow hgrow (by omega) (by have := HBT.out.lt; exact this)).trans HBT.out).cell)
      have hlow : ∀ b, b < bo + 1 + 1 + 1 → b ≠ bo → (w1.setCell ⟨bo, 0, none⟩ (Value.slice (some ⟨g', 0, none⟩) (pre.length + 1) cap')).heap[b]? = W.heap[b]? := fun b hb hne =>
        (Below.heap_setCell _ ⟨bo, 0, none⟩ _ b hne).trans (kept_low hrow hgrow hb (by omega))
      have hr2 := hown'.kept (grownBy_setCell' w1 bo (Value.slice (some ⟨g', 0, none⟩) (pre.length + 1) cap')) (.inr (hv1.not_row (by decide) hown').symm)
      have hq3 : pre.length + 1 = n := by have := eq_of_beq hq; omega
      exact ⟨hk2, ⟨_, hv2, by simpa using hr2, trivial⟩, Nat.le_trans hsz hb2.size, hB.trans hb2, rfl, by simp; exact hq3⟩
    | false =>
      have hq2 : ((pre.length : Int) + 1 == (n : Int)) = false := by simpa using hq
      gi_wp2_with (gi_at_builtin; refine wpListIn_append_own _ rfl _ _ 34 rfl (bo + 1 + 1 + 1) 3 i0 (.int .i64 0) 1 8 Try.underlying34 hi hz0 hz1 hz2 rfl (by decide) _ _ _ rfl (hrow.alloc _) ⟨W.heap.size, 0, none⟩ 1 1 [.int .i64 x] rfl rfl (cell_one_new _ _ _) (by simp [Value.oneCell']) (by unfold maxLen; omega) (by omega) (by simp; omega) ?_; intro v' w1 hown' hgrow _; obtain ⟨g', cap', rfl⟩ := ownsRow_succ hown'; obtain ⟨hv1, hv2, _, hk2, hb2⟩ := hv.appended (by decide) (own_weaken hrow (show w.heap.size ≤ bo + 1 + 1 + 1 by omega)) hB.size (by omega) (own_weaken hown' (show w.heap.size ≤ bo + 1 + 1 + 1 by omega)) hgrow; have hc1 := hv1.cell; have hf1 := hv1.frozen; have hct1 : w1.cell? ⟨w.heap.size + 1, 0, none⟩ = some (.int .i64 n) := (show Boxed w1 (w.heap.size + 1) 3 (.int .i64 n) from (kept_low hrow hgrow (by omega) (by have := HBT.out.lt; exact this)).trans HBT.out).cell)
      have hlow : ∀ b, b < bo + 1 + 1 + 1 → b ≠ bo → (w1.setCell ⟨bo, 0, none⟩ (Value.slice (some ⟨g', 0, none⟩) (pre.length + 1) cap')).heap[b]? = W.heap[b]? := fun b hb hne =>
        (Below.heap_setCell _ ⟨bo, 0, none⟩ _ b hne).trans (kept_low hrow hgrow hb (by omega))
      have hr2 := hown'.kept (grownBy_setCell' w1 bo (Value.slice (some ⟨g', 0, none⟩) (pre.length + 1) cap')) (.inr (hv1.not_row (by decide) hown').symm)
      have hq3 : ¬ pre.length + 1 = n := by have := beq_eq_false_iff_ne.1 hq; omega
      exact ⟨hk2, ⟨hlow _ (by omega) (by omega), hlow _ (by omega) (by omega)⟩, ⟨⟨⟨_, hv2, by simpa using hr2, trivial⟩, (hlow _ (by omega) (by omega)).trans HBT.out⟩, Nat.le_trans hsz hb2.size, hB.trans hb2, by simp; omega⟩⟩
  case done =>
    rintro D ys W hD rfl ⟨⟨⟨v, hv, hrow, _⟩, hbt⟩, hsz, hB, hle⟩ hK
    have cv := hv.cell
    have HK := Aside0.mk hK
    obtain ⟨g', cap, ev⟩ : ∃ g cap, v = .slice g ys.length cap := by
      rcases hrow.2 with ⟨e1, e2⟩ | ⟨g, cap, _, e1, _⟩
      · exact ⟨none, 0, by rw [e1, e2]⟩
      · exact ⟨_, _, e1⟩
    subst ev
    have e2 := Aside0.mk (List.take_of_length_le (Nat.le_of_lt hle))
    clear hK
    go_wp2_with fail
    refine ⟨by simp, .inl ⟨_, _, rfl, run_takeDeferred (by exact HK.out), ?_⟩⟩
    refine ⟨.tuple #[.slice g' ys.length cap, .int .i64 0], by simp [results, Try.results22, go_sem], _, rfl, by rw [e2.out]; exact own_weaken (ownsRow_putObj hrow (Obj.deferred none) HK.out rfl) (by omega), ?_⟩
    exact hB.trans (belowK_b (w := w) (Nat.le_refl _) _ D _ _ (by have := S4.out; omega) HK.out rfl rfl)
  case stop =>
    rintro D c pre W hD hpre ⟨⟨v, hv, hrow, _⟩, hsz, hB, rfl, hle⟩ hK
    have cv := hv.cell
    have HK := Aside0.mk hK
    obtain ⟨g', cap, ev⟩ : ∃ g cap, v = .slice g pre.length cap := by
      rcases hrow.2 with ⟨e1, e2⟩ | ⟨g, cap, _, e1, _⟩
      · exact ⟨none, 0, by rw [e1, e2]⟩
      · exact ⟨_, _, e1⟩
    subst ev
    have e2 := Aside0.mk (show xs.take n = pre by obtain ⟨t, rfl⟩ := hpre; subst hle; simp)
    clear hK hpre
    rw [wpIn_wide]
    go_wp2_with fail
    refine ⟨by simp, .inl ⟨_, _, rfl, run_takeDeferred (by exact HK.out), ?_⟩⟩
    refine ⟨.tuple #[.slice g' pre.length cap, .int .i64 0], by simp [results, Try.results22, go_sem, hle], _, rfl, by rw [e2.out]; exact own_weaken (ownsRow_putObj hrow (Obj.deferred none) HK.out rfl) (by omega), ?_⟩
    exact hB.trans (belowK_b (w := w) (Nat.le_refl _) _ D _ _ (by have := S4.out; omega) HK.out rfl rfl)

theorem motion_Path.calls (k : Nat) (a0_0 a0_1 a0_2 a0_3 a1 : Int) (r1 : List Int) (r2 : Int) (w : World) (h : motion_Path.f k a0_0 a0_1 a0_2 a0_3 a1 = some (r1, r2)) :
    Calls Try.prog 22 #[.agg #[.int .i64 a0_0, .int .i64 a0_1, .int .i64 a0_2, .int .i64 a0_3], .int .i64 a1] w fun e w' => ∃ v0_ : Value, e = .returned (.tuple #[v0_, .int .i64 r2]) ∧ Kd.R (Kd.int .i64) 3 w' w.heap.size (fun _ => True) v0_ r1 ∧ Below w.heap.size w w' := by
  obtain ⟨e, he, h⟩ := Option.bind_eq_some_iff.1 h
  have no : (e = 0 → a1 < 0 ∨ 1000 < a1 ∨ a1 = 0) → r1 = [] → r2 = (if e = 0 then (if a1 < 0 ∨ 1000 < a1 then 2 else 0) else e) → Calls Try.prog 22 #[.agg #[.int .i64 a0_0, .int .i64 a0_1, .int .i64 a0_2, .int .i64 a0_3], .int .i64 a1] w fun e w' => ∃ v0_ : Value, e = .returned (.tuple #[v0_, .int .i64 r2]) ∧ Kd.R (Kd.int .i64) 3 w' w.heap.size (fun _ => True) v0_ r1 ∧ Below w.heap.size w w' := by
    rintro hn rfl hr
    exact (Path_no a0_0 a0_1 a0_2 a0_3 a1 e r2 w he hr hn).mono fun x w' ⟨hx, hB⟩ => ⟨_, hx, Kd.R_nil _ _ _ _ _, hB⟩
  by_cases h0 : e = 0
  · rw [if_pos h0] at h
    by_cases h1 : a1 < 0 ∨ 1000 < a1
    · rw [if_pos h1] at h
      obtain ⟨rfl, rfl⟩ := Prod.mk.inj (Option.some.inj h)
      exact no (fun _ => by omega) rfl (by rw [if_pos h0, if_pos h1])
    · rw [if_neg h1] at h
      by_cases h2 : a1 = 0
      · rw [if_pos h2] at h
        obtain ⟨rfl, rfl⟩ := Prod.mk.inj (Option.some.inj h)
        exact no (fun _ => by omega) rfl (by rw [if_pos h0, if_neg h1])
      · rw [if_neg h2] at h
        obtain ⟨xs, hx, h⟩ := Option.map_eq_some_iff.1 h
        obtain ⟨rfl, rfl⟩ := Prod.mk.inj h
        subst h0
        obtain ⟨n, rfl⟩ : ∃ n : Nat, a1 = n := ⟨a1.toNat, by omega⟩
        rw [Int.toNat_natCast]
        refine (Path_yes k a0_0 a0_1 a0_2 a0_3 n xs w he (by omega) (by omega) hx).mono ?_
        rintro x w' ⟨v, rfl, hr, hB⟩
        exact ⟨_, rfl, Kd.R_of_own (by exact hr) (fun _ _ => trivial), hB⟩
  · rw [if_neg h0] at h
    obtain ⟨rfl, rfl⟩ := Prod.mk.inj (Option.some.inj h)
    exact no (fun h => absurd h h0) rfl (by rw [if_neg h0])

end Go.Proofs.Ytocbjclflabmcaa.S
