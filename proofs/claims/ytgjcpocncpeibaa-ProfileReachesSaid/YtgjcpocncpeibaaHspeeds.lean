/- profile.Speeds, walked: the speeds that the iterator yields, collected; more than 1,000 are refused. -/
import Derived.Test.YtgjcpocncpeibaaHtravel
import Derived.Maps.AppendAt
import Derived.WalkSmall
import Derived.Test.YtgjcpocncpeibaaS1
namespace Go.Proofs.Ytgjcpocncpeibaa.S
open Go.RowKit Go.Proofs.YtgjcpocncpeibaaW.PrintWords Go.Proofs.YtgjcpocncpeibaaW.PrintLast Go.Proofs.YtgjcpocncpeibaaW.PrintMore
set_option linter.unusedVariables false
set_option linter.unusedSimpArgs false
attribute [local go_sem] Oper.semAt_some

def profile_Speeds.f (k : Nat) (a0 a1 : Int) : Option (List Int × Int) :=
  (profile_limits.f a0 a1).bind fun b => if b = true then (rideL k 0 a0 a1).bind fun xs => some (if xs.length > 1000 then ([], 4) else (xs, 0)) else some ([], 2)
theorem profile_Speeds.mono : ∀ a0 a1 k, LeO (profile_Speeds.f k a0 a1) (profile_Speeds.f (k + 1) a0 a1) := fun a0 a1 k =>
  LeO.bind (LeO.refl _) (fun _ => LeO.ite (LeO.bind (rideL_mono k 0 a0 a1) (fun _ => LeO.refl _)) (LeO.refl _))

theorem limits_any (a b : Int) (r : Bool) (h : profile_limits.f a b = some r) (w : World) : Calls Try.prog 30 #[.int .i64 a, .int .i64 b] w fun e w' => e = .returned (.bool r) ∧ Drawn0 w w' := profile_limits.calls a b r w h

theorem infoI : (Try.prog.info? 3).map (fun i => (i.zero, i.size, i.bytes)) = some (some (.int .i64 0), 1, 8) := by kernel_rfl

set_option maxHeartbeats 1000000 in
set_option maxRecDepth 100000 in
theorem Speeds_no (a0 a1 : Int) (w : World) (h : profile_limits.f a0 a1 = some false) :
    Calls Try.prog 17 #[.int .i64 a0, .int .i64 a1] w fun e w' => e = .returned (.tuple #[.slice none 0 0, .int .i64 2]) ∧ Below w.heap.size w w' := by
  have H := Aside0.mk h
  clear h
  go_enter Try.func17, Try.ntmps17
  go_wp2_with fail
  refine (limits_any a0 a1 false H.out _).mono ?_
  rintro e w' ⟨rfl, m, rfl⟩
  go_wp2
  refine bodyPost_ret (v := .tuple #[.slice none 0 0, .int .i64 2]) (by simp [results, Try.results17, go_sem]) rfl ⟨rfl, ?_⟩
  exact ((below_drewN (((Below.refl _ w).alloc (Nat.le_refl _) _).alloc (by simp) _) m).setCell (p := ⟨w.heap.size, 0, none⟩) (Nat.le_refl _) _).setCell (p := ⟨w.heap.size + 1, 0, none⟩) (by simp) _

/-- What the variables of Speeds hold, so many speeds having come. -/
def SpI (B : Nat) (w : World) (pre : List Int) (W : World) : Prop :=
  ((∃ v, Boxed W (B + 1 + 1) 31 v ∧ W.ownsRow (B + 1 + 1 + 1 + 1 + 1) 3 1 v pre.length (pre.map (Value.int .i64)) ∧ (v = .slice none 0 0 ↔ pre = [])) ∧ (Boxed W B 31 (.slice none 0 0) ∧ Boxed W (B + 1) 23 (.int .i64 0)) ∧ B + 1 + 1 + 1 + 1 + 1 ≤ W.heap.size) ∧ Below B w W ∧ pre.length ≤ 1000
/-- The same where a round has returned: there are too many. -/
def SpX (B : Nat) (w : World) (c : Code) (pre : List Int) (W : World) : Prop :=
  (Boxed W B 31 (.slice none 0 0) ∧ Boxed W (B + 1) 23 (.int .i64 4)) ∧ Below B w W ∧ c = .ret ∧ pre.length > 1000

theorem boxed_ownB (B : Nat) (t : TypeId) {β : Type} (f : β → Value) : Own (fun (s : β) W => Boxed W B t (f s)) := fun s A B' row hs hg hr => hs.kept hg (fun e' => by obtain ⟨o, ho, hc⟩ := hr _ e'.symm; rw [show A.heap[B]? = _ from hs] at ho; cases ho; cases hc)
theorem own_and {β : Type} {I J : β → World → Prop} (h : Own I) (k : Own J) : Own (fun s W => I s W ∧ J s W) := fun s A B row hs hg hr => ⟨h s A B row hs.1 hg hr, k s A B row hs.2 hg hr⟩
theorem own_size {β : Type} (n : Nat) : Own (fun (_ : β) W => n ≤ W.heap.size) := fun _ _ _ _ hs hg _ => Nat.le_trans hs hg.size
theorem own_pure {β : Type} (p : β → Prop) : Own (fun (s : β) (_ : World) => p s) := fun _ _ _ _ hs _ _ => hs

theorem kept_low {W w1 : World} {tmp : Obj} {e : TypeId} {size n : Nat} {v : Value} {xs : List Value} {N0 b : Nat} (hrow : W.ownsRow N0 e size v n xs) (hg : (W.alloc tmp).grownBy w1 v.ownBlock) (hb : b < N0) (hbW : b < W.heap.size) : w1.heap[b]? = W.heap[b]? := by
  refine (hg.block b (by simp; omega) ?_).trans (Below.heap_alloc W tmp b hbW)
  rcases hrow.2 with ⟨rfl, _⟩ | ⟨g, cap, cur, rfl, hg', _⟩
  · simp [Value.ownBlock]
  · intro e'
    obtain rfl : b = g := by simpa [Value.ownBlock] using e'
    exact Nat.not_lt.2 hg' hb

theorem boxed_drewN {W : World} {B : Nat} {t : TypeId} {v : Value} (h : Boxed W B t v) (m : Nat) : Boxed (W.drewN m) B t v := h
theorem boxed_far {W : World} {B : Nat} {t : TypeId} {v : Value} (h : Boxed W B t v) (p : Addr) (u : Value) (hne : B ≠ p.block) : Boxed (W.setCell p u) B t v := (Below.heap_setCell W p u B hne).trans h

set_option maxHeartbeats 2000000 in
set_option maxRecDepth 100000 in
theorem Speeds_yes (k : Nat) (a0 a1 : Int) (xs : List Int) (w : World) (h : profile_limits.f a0 a1 = some true) (hx : rideL k 0 a0 a1 = some xs) :
    Calls Try.prog 17 #[.int .i64 a0, .int .i64 a1] w fun e w' => ∃ v0_ : Value, e = .returned (.tuple #[v0_, .int .i64 (if xs.length > 1000 then 4 else 0)]) ∧ w'.ownsRow w.heap.size 3 1 v0_ (if xs.length > 1000 then [] else xs).length ((if xs.length > 1000 then [] else xs).map (Value.int .i64)) ∧ Below w.heap.size w w' := by
  have H := Aside0.mk h
  have HX := Aside0.mk hx
  clear h hx
  obtain ⟨i0, hi, hz0, hz1, hz2⟩ := info_parts infoI
  refine (callsIn_wide (n := 9)).1 ?_
  refine callsIn_of_wp_marks Try.func17 rfl trivial ?_ rfl
  simp only [Try.ntmps17, List.size_toArray, List.length_cons, List.length_nil, Nat.reduceAdd, Nat.reduceSub, Array.replicate_succ, Array.replicate_zero, List.push_toArray, List.append_toArray, List.nil_append, List.cons_append]
  gi_wp2_with fail
  refine ⟨trivial, ?_⟩
  refine (callsIn_wide.2 (limits_any a0 a1 true H.out _)).mono ?_
  rintro e w' ⟨rfl, m, rfl⟩
  obtain ⟨wd, hwd⟩ : ∃ wd, ((w.alloc (.cells #[.slice none 0 0] 31)).alloc (.cells #[.int .i64 0] 23)).drewN m = wd := ⟨_, rfl⟩
  have hb4 : Boxed wd w.heap.size 31 (.slice none 0 0) := by rw [← hwd]; exact boxed_drewN ((Boxed.new w 31 _).alloc _) m
  have hb5 : Boxed wd (w.heap.size + 1) 23 (.int .i64 0) := by rw [← hwd]; have := Boxed.new (w.alloc (.cells #[.slice none 0 0] 31)) 23 (.int .i64 0); rw [World.size_alloc] at this; exact boxed_drewN this m
  have hBd : Below w.heap.size w wd := by rw [← hwd]; exact below_drewN (((Below.refl _ w).alloc (Nat.le_refl _) _).alloc (by simp) _) m
  have sd : wd.heap.size = w.heap.size + 1 + 1 := by rw [← hwd]; simp
  rw [hwd]
  clear hwd
  have HB4 := Aside0.mk hb4
  have HB5 := Aside0.mk hb5
  have HBd := Aside0.mk hBd
  clear hb4 hb5 hBd
  gi_wp2_with fail
  refine ⟨trivial, ?_⟩
  refine (callsIn_wide.2 (ride_any _ _ _)).mono ?_
  rintro e w' ⟨rfl, rfl⟩
  gi_wp2
  obtain ⟨w1, hw1⟩ : ∃ w1, wd.alloc (.cells #[.slice none 0 0] 31) = w1 := ⟨_, rfl⟩
  obtain ⟨w2, hw2⟩ : ∃ w2, w1.alloc (.cells #[.int .i64 a0] 3) = w2 := ⟨_, rfl⟩
  obtain ⟨w3, hw3⟩ : ∃ w3, w2.alloc (.cells #[.int .i64 a1] 3) = w3 := ⟨_, rfl⟩
  have s1 : w1.heap.size = w.heap.size + 1 + 1 + 1 := by rw [← hw1, World.size_alloc, sd]
  have s2 : w2.heap.size = w.heap.size + 1 + 1 + 1 + 1 := by rw [← hw2, World.size_alloc, s1]
  have s3 : w3.heap.size = w.heap.size + 1 + 1 + 1 + 1 + 1 := by rw [← hw3, World.size_alloc, s2]
  have hb6 : Boxed w3 (w.heap.size + 1 + 1) 31 (.slice none 0 0) := by rw [← hw3, ← hw2, ← hw1, ← sd]; exact ((Boxed.new wd 31 _).alloc _).alloc _
  have hb4 : Boxed w3 w.heap.size 31 (.slice none 0 0) := by rw [← hw3, ← hw2, ← hw1]; exact ((HB4.out.alloc _).alloc _).alloc _
  have hb5 : Boxed w3 (w.heap.size + 1) 23 (.int .i64 0) := by rw [← hw3, ← hw2, ← hw1]; exact ((HB5.out.alloc _).alloc _).alloc _
  have hbn : Boxed w3 (w.heap.size + 1 + 1 + 1) 3 (.int .i64 a0) := by rw [← hw3, ← hw2, ← s1]; exact (Boxed.new w1 3 _).alloc _
  have hbl : Boxed w3 (w.heap.size + 1 + 1 + 1 + 1) 3 (.int .i64 a1) := by rw [← hw3, ← s2]; exact Boxed.new w2 3 _
  have hB3 : Below w.heap.size w w3 := by rw [← hw3, ← hw2, ← hw1]; exact ((HBd.out.alloc (by omega) _).alloc (by simp; omega) _).alloc (by simp; omega) _
  rw [hw1, hw2, hw3]
  have S3 := Aside0.mk s3
  have HB3 := Aside0.mk hB3
  have HB6 := Aside0.mk hb6
  have HB4' := Aside0.mk hb4
  have HB5' := Aside0.mk hb5
  clear hw1 hw2 hw3 s1 s2 s3 hB3 hb6 hb4 hb5 HB4 HB5 sd HBd
  refine wpIn_rangeFunc_ownF rfl (by omega) (gf := 41) (lb := #[.pointer (some ⟨w.heap.size + 1 + 1 + 1, 0, none⟩), .pointer (some ⟨w.heap.size + 1 + 1 + 1 + 1, 0, none⟩)]) rfl trivial (enters_of Try.func41 (by kernel_rfl) rfl)
    (ride_stops (9 - 1) (by omega) (w.heap.size + 1 + 1 + 1) (w.heap.size + 1 + 1 + 1 + 1) a0 a1 k xs HX.out w3 hbn hbl) keep2_t
    (fun W l o o' hl _ _ _ => keep2_b (w := w3) (by have := S3.out; omega) (by have := S3.out; omega) W l o o' hl) (Below.refl _ _) (fun _ => rfl)
    (SpI w.heap.size w) (SpX w.heap.size w)
    (OwnFrom.and ((own_and (holdsRow_own (w.heap.size + 1 + 1 + 1 + 1 + 1) (w.heap.size + 1 + 1) 31 3 1 (fun pre : List Int => pre.length) (fun pre => pre.map (Value.int .i64)) (fun pre v => v = .slice none 0 0 ↔ pre = [])) (own_and (own_and (boxed_ownB _ _ (fun _ => _)) (boxed_ownB _ _ (fun _ => _))) (own_size _))).from _) (OwnFrom.and (ownFrom_below (Nat.le_refl _) (by have := S3.out; omega)) ((own_pure _).from _)))
    (fun c => OwnFrom.and ((own_and (boxed_ownB _ _ (fun _ => _)) (boxed_ownB _ _ (fun _ => _))).from _) (OwnFrom.and (ownFrom_below (Nat.le_refl _) (by have := S3.out; omega)) ((own_and (own_pure (fun _ => c = .ret)) (own_pure _)).from _)))
    ⟨⟨⟨_, HB6.out, World.ownsRow_nil _ _ _ _, by simp⟩, ⟨HB4'.out, HB5'.out⟩, by have := S3.out; omega⟩, HB3.out, by simp⟩
    (fun x => { tmps := #[.int .i64 a0, .int .i64 a1, undef, undef, .pointer (some ⟨w.heap.size, 0, none⟩), .pointer (some ⟨w.heap.size + 1, 0, none⟩), .pointer (some ⟨w.heap.size + 1 + 1, 0, none⟩), .int .i64 x, .int .i64 a0, .int .i64 a1, .bool true, .bool false, .int .i64 a0, .int .i64 a1, .func (.func 41) #[] #[.pointer (some ⟨w.heap.size + 1 + 1 + 1, 0, none⟩), .pointer (some ⟨w.heap.size + 1 + 1 + 1 + 1, 0, none⟩)], .int .i64 x, undef, undef, undef, undef, undef, undef, undef, undef], defers := [] }) ?assign ?body ?done ?stop
  case assign =>
    intro l x W K hK
    gi_wp2
    exact hK
  case body =>
    rintro l pre x W ⟨⟨⟨v, hv, hrow, hnil⟩, ⟨h4, h5⟩, hsz⟩, hB, hle⟩ hlen
    have HN := Aside0.mk hnil
    clear hnil
    have c4 := h4.cell
    have f4 := h4.frozen
    have c5 := h5.cell
    have f5 := h5.frozen
    have cv := hv.cell
    have fv := hv.frozen
    obtain ⟨g, cap, ev⟩ : ∃ g cap, v = .slice g pre.length cap := by
      rcases hrow.2 with ⟨e1, e2⟩ | ⟨g, cap, _, e1, _⟩
      · exact ⟨none, 0, by rw [e1, e2]⟩
      · exact ⟨_, _, e1⟩
    subst ev
    by_cases ht : pre.length = 1000
    · have t1 : ((pre.length : Int) == 1000) = true := by rw [beq_iff_eq]; omega
      have HT := Aside0.mk ht
      clear ht
      gi_wp2
      have hT := HT.out
      refine ⟨(KeepsOthers.setCell _ _ _).trans (KeepsOthers.setCell _ _ _), ⟨boxed_far (h4.set _) _ _ (by simp), Boxed.set _ (boxed_far h5 _ _ (by simp))⟩, (hB.setCell (p := ⟨w.heap.size, 0, none⟩) (Nat.le_refl _) _).setCell (p := ⟨w.heap.size + 1, 0, none⟩) (by simp) _, rfl, by simp; omega⟩
    · have t1 : ((pre.length : Int) == 1000) = false := by rw [beq_eq_false_iff_ne]; omega
      have HT := Aside0.mk ht
      clear ht
      gi_wp2_with (gi_at_builtin; refine wpListIn_append_own _ rfl _ _ 31 rfl (w.heap.size + 1 + 1 + 1 + 1 + 1) 3 i0 (.int .i64 0) 1 8 Try.underlying31 hi hz0 hz1 hz2 rfl (by decide) _ _ _ rfl (hrow.alloc _) ⟨W.heap.size, 0, none⟩ 1 1 [.int .i64 x] rfl rfl (cell_one_new _ _ _) (by simp [Value.oneCell']) (by unfold maxLen; omega) (by omega) (by simp; omega) ?_; intro v' w1 hown' hgrow _; obtain ⟨g', cap', rfl⟩ := ownsRow_succ hown'; obtain ⟨hv1, hv2, _, hk2, hb2⟩ := hv.appended (by decide) (own_weaken hrow (show w.heap.size ≤ w.heap.size + 1 + 1 + 1 + 1 + 1 by omega)) hB.size (by omega) (own_weaken hown' (show w.heap.size ≤ w.heap.size + 1 + 1 + 1 + 1 + 1 by omega)) hgrow; have hc1 := hv1.cell; have hf1 := hv1.frozen)
      have hT := HT.out
      have hlow : ∀ b, b < w.heap.size + 1 + 1 + 1 + 1 + 1 → b ≠ w.heap.size + 1 + 1 → (w1.setCell ⟨w.heap.size + 1 + 1, 0, none⟩ (Value.slice (some ⟨g', 0, none⟩) (pre.length + 1) cap')).heap[b]? = W.heap[b]? := fun b hb hne =>
        (Below.heap_setCell _ ⟨w.heap.size + 1 + 1, 0, none⟩ _ b hne).trans (kept_low hrow hgrow hb (by omega))
      have hr2 := hown'.kept (grownBy_setCell' w1 (w.heap.size + 1 + 1) (Value.slice (some ⟨g', 0, none⟩) (pre.length + 1) cap')) (.inr (hv1.not_row (by decide) hown').symm)
      exact ⟨hk2, ⟨hlow _ (by omega) (by omega), hlow _ (by omega) (by omega)⟩, ⟨⟨_, hv2, by simpa using hr2, by simp⟩, ⟨(hlow _ (by omega) (by omega)).trans h4, (hlow _ (by omega) (by omega)).trans h5⟩, Nat.le_trans hsz hb2.size⟩, hB.trans hb2, by simp; omega⟩
  case done =>
    rintro D ys W hD rfl ⟨⟨⟨v, hv, hrow, hnil⟩, ⟨h4, h5⟩, hsz⟩, hB, hle⟩ hK
    clear hnil
    have c4 := h4.cell
    have f4 := h4.frozen
    have c5 := h5.cell
    have f5 := h5.frozen
    have cv := hv.cell
    obtain ⟨g, cap, ev⟩ : ∃ g cap, v = .slice g ys.length cap := by
      rcases hrow.2 with ⟨e1, e2⟩ | ⟨g, cap, _, e1, _⟩
      · exact ⟨none, 0, by rw [e1, e2]⟩
      · exact ⟨_, _, e1⟩
    subst ev
    have hs3 := S3.out
    rw [hs3] at hD
    clear hs3
    gi_wp2
    have hK2 := ((KeepsOthers.setCell W ⟨w.heap.size, 0, none⟩ (.slice g ys.length cap)).trans (KeepsOthers.setCell _ ⟨w.heap.size + 1, 0, none⟩ (.int .i64 0))).same D _ hK rfl
    refine ⟨by simp, .inl ⟨_, _, rfl, run_takeDeferred (by exact hK2), ?_⟩⟩
    have bA : Boxed (((W.setCell ⟨w.heap.size, 0, none⟩ (.slice g ys.length cap)).setCell ⟨w.heap.size + 1, 0, none⟩ (.int .i64 0)).putObj D (Obj.deferred none)) w.heap.size 31 (.slice g ys.length cap) :=
      (World.putObj_heap_other (by omega)).trans (boxed_far (h4.set _) _ _ (by simp))
    have bB : Boxed (((W.setCell ⟨w.heap.size, 0, none⟩ (.slice g ys.length cap)).setCell ⟨w.heap.size + 1, 0, none⟩ (.int .i64 0)).putObj D (Obj.deferred none)) (w.heap.size + 1) 23 (.int .i64 0) :=
      (World.putObj_heap_other (by omega)).trans (Boxed.set _ (boxed_far h5 _ _ (by simp)))
    have cA := bA.cell
    have cB := bB.cell
    have n4 := h4.not_row (by decide) hrow
    have n5 := h5.not_row (by decide) hrow
    have hrow2 := (hrow.kept (grownBy_setCell' W w.heap.size (.slice g ys.length cap)) (.inr n4.symm)).kept (grownBy_setCell' _ (w.heap.size + 1) (.int .i64 0)) (.inr n5.symm)
    have hrow3 := ownsRow_putObj hrow2 (Obj.deferred none) (by exact hK2) rfl
    have hgt : ¬ ys.length > 1000 := by omega
    refine ⟨.tuple #[.slice g ys.length cap, .int .i64 0], by simp [results, Try.results17, go_sem, cA, cB], .slice g ys.length cap, by first | rfl | rw [if_neg hgt], by first | exact own_weaken hrow3 (by omega) | (rw [if_neg hgt]; exact own_weaken hrow3 (by omega)), ?_⟩
    exact ((hB.setCell (p := ⟨w.heap.size, 0, none⟩) (Nat.le_refl _) _).setCell (p := ⟨w.heap.size + 1, 0, none⟩) (by simp) _).trans (belowK_b (w := w) (Nat.le_refl _) _ D _ _ (by omega) hK2 rfl rfl)
  case stop =>
    rintro D c pre W hD hpre ⟨⟨h4, h5⟩, hB, rfl, hgt⟩ hK
    have hs3 := S3.out
    rw [hs3] at hD
    clear hs3
    have hl := hpre.length_le
    have hgt : 1000 < xs.length := by omega
    gi_wp2
    refine ⟨by simp, .inl ⟨_, _, rfl, run_takeDeferred (by exact hK), ?_⟩⟩
    have bA : Boxed (W.putObj D (Obj.deferred none)) w.heap.size 31 (.slice none 0 0) := (World.putObj_heap_other (by omega)).trans h4
    have bB : Boxed (W.putObj D (Obj.deferred none)) (w.heap.size + 1) 23 (.int .i64 4) := (World.putObj_heap_other (by omega)).trans h5
    have cA := bA.cell
    have cB := bB.cell
    refine ⟨.tuple #[.slice none 0 0, .int .i64 4], by simp [results, Try.results17, go_sem, cA, cB], .slice none 0 0, by first | rfl | rw [if_pos hgt], by first | exact World.ownsRow_nil _ _ _ _ | (rw [if_pos hgt]; exact World.ownsRow_nil _ _ _ _), ?_⟩
    exact hB.trans (belowK_b (w := w) (Nat.le_refl _) _ D _ _ (by omega) hK rfl rfl)

theorem profile_Speeds.calls (k : Nat) (a0 : Int) (a1 : Int) (r1 : List Int) (r2 : Int) (w : World) (h : profile_Speeds.f k a0 a1 = some (r1, r2)) :
    Calls Try.prog 17 #[.int .i64 a0, .int .i64 a1] w fun e w' => ∃ v0_ : Value, e = .returned (.tuple #[v0_, .int .i64 r2]) ∧ Kd.R (Kd.int .i64) 3 w' w.heap.size (fun _ => True) v0_ r1 ∧ Below w.heap.size w w' := by
  obtain ⟨b, hb, h⟩ := Option.bind_eq_some_iff.1 h
  cases b with
  | false =>
    rw [if_neg (by decide)] at h
    obtain ⟨rfl, rfl⟩ := Prod.mk.inj (Option.some.inj h)
    refine (Speeds_no a0 a1 w hb).mono ?_
    rintro e w' ⟨rfl, hB⟩
    exact ⟨_, rfl, Kd.R_nil _ _ _ _ _, hB⟩
  | true =>
    rw [if_pos rfl] at h
    obtain ⟨xs, hx, h⟩ := Option.bind_eq_some_iff.1 h
    have h2 := Option.some.inj h
    refine (Speeds_yes k a0 a1 xs w hb hx).mono ?_
    rintro e w' ⟨v, rfl, hr, hB⟩
    by_cases hgt : xs.length > 1000
    · rw [if_pos hgt] at h2 hr
      obtain ⟨rfl, rfl⟩ := Prod.mk.inj h2
      exact ⟨_, by rw [if_pos hgt], Kd.R_of_own (by exact hr) (fun _ _ => trivial), hB⟩
    · rw [if_neg hgt] at h2 hr
      obtain ⟨rfl, rfl⟩ := Prod.mk.inj h2
      exact ⟨_, by rw [if_neg hgt], Kd.R_of_own (by exact hr) (fun _ _ => trivial), hB⟩

end Go.Proofs.Ytgjcpocncpeibaa.S
