/- profile.Gone, walked: how far a ride has gone after some ticks, and its speed then. -/
import Derived.Test.YtgjcpocncpeibaaHspeeds
namespace Go.Proofs.Ytgjcpocncpeibaa.S
open Go.RowKit Go.Proofs.YtgjcpocncpeibaaW.PrintWords Go.Proofs.YtgjcpocncpeibaaW.PrintLast Go.Proofs.YtgjcpocncpeibaaW.PrintMore
set_option linter.unusedVariables false
set_option linter.unusedSimpArgs false
attribute [local go_sem] Oper.semAt_some

def sumW (xs : List Int) : Int := xs.foldl (fun s v => wrap64 (s + v)) 0
def lastV (xs : List Int) : Int := xs.foldl (fun _ v => v) 0
theorem sumW_snoc (xs : List Int) (x : Int) : sumW (xs ++ [x]) = wrap64 (sumW xs + x) := by simp [sumW]
theorem lastV_snoc (xs : List Int) (x : Int) : lastV (xs ++ [x]) = x := by simp [lastV]

/-- What Gone answers, the speeds being xs. -/
def goneV (xs : List Int) (n ticks : Int) : Int × Int := (sumW (xs.take ticks.toNat), if sumW (xs.take ticks.toNat) = n then 0 else lastV (xs.take ticks.toNat))
def profile_Gone.f (k : Nat) (a0 a1 a2 : Int) : Option (Int × Int × Int) :=
  (profile_limits.f a0 a1).bind fun b => if b = true then (if a2 < 0 then some (0, 0, 2) else if a2 ≤ 9223372036854775807 then (rideL k 0 a0 a1).map fun xs => ((goneV xs a0 a2).1, (goneV xs a0 a2).2, 0) else none) else some (0, 0, 2)
theorem profile_Gone.mono : ∀ a0 a1 a2 k, LeO (profile_Gone.f k a0 a1 a2) (profile_Gone.f (k + 1) a0 a1 a2) := fun a0 a1 a2 k =>
  LeO.bind (LeO.refl _) (fun _ => LeO.ite (LeO.ite (LeO.refl _) (LeO.ite (LeO.map _ (rideL_mono k 0 a0 a1)) (LeO.refl _))) (LeO.refl _))

set_option maxHeartbeats 1000000 in
set_option maxRecDepth 100000 in
theorem Gone_no (a0 a1 a2 : Int) (b : Bool) (w : World) (h : profile_limits.f a0 a1 = some b) (hb : b = false ∨ a2 < 0) :
    Calls Try.prog 18 #[.int .i64 a0, .int .i64 a1, .int .i64 a2] w fun e w' => e = .returned (.tuple #[.int .i64 0, .int .i64 0, .int .i64 2]) ∧ Below w.heap.size w w' := by
  have H := Aside0.mk h
  clear h
  cases b with
  | false =>
    clear hb
    go_enter Try.func18, Try.ntmps18
    go_wp2_with fail
    refine (limits_any a0 a1 false H.out _).mono ?_
    rintro e w' ⟨rfl, m, rfl⟩
    go_wp2
    refine bodyPost_ret (v := .tuple #[.int .i64 0, .int .i64 0, .int .i64 2]) (by simp [results, Try.results18, go_sem]) rfl ⟨rfl, ?_⟩
    exact ((below_drewN ((((Below.refl _ w).alloc (Nat.le_refl _) _).alloc (by simp) _).alloc (by simp; omega) _) m).setCell (p := ⟨w.heap.size + 1, 0, none⟩) (by simp) _).setCell (p := ⟨w.heap.size + 1 + 1, 0, none⟩) (by simp; omega) _
  | true =>
    have hlt : a2 < 0 := by rcases hb with h | h; cases h; exact h
    have t1 : decide (a2 < 0) = true := decide_eq_true hlt
    clear hb
    go_enter Try.func18, Try.ntmps18
    go_wp2_with fail
    refine (limits_any a0 a1 true H.out _).mono ?_
    rintro e w' ⟨rfl, m, rfl⟩
    go_wp2
    refine bodyPost_ret (v := .tuple #[.int .i64 0, .int .i64 0, .int .i64 2]) (by simp [results, Try.results18, go_sem]) rfl ⟨rfl, ?_⟩
    exact ((below_drewN ((((Below.refl _ w).alloc (Nat.le_refl _) _).alloc (by simp) _).alloc (by simp; omega) _) m).setCell (p := ⟨w.heap.size + 1, 0, none⟩) (by simp) _).setCell (p := ⟨w.heap.size + 1 + 1, 0, none⟩) (by simp; omega) _

/-- What the variables of Gone hold. -/
def GoI (B : Nat) (w : World) (ticks : Int) (pre : List Int) (W : World) : Prop :=
  (Boxed W B 3 (.int .i64 (ticks - pre.length)) ∧ Boxed W (B + 1) 3 (.int .i64 (sumW pre)) ∧ Boxed W (B + 1 + 1) 3 (.int .i64 (lastV pre))) ∧ Below B w W ∧ (pre.length : Int) ≤ ticks
def GoX (B : Nat) (w : World) (ticks : Int) (c : Code) (pre : List Int) (W : World) : Prop :=
  (Boxed W (B + 1) 3 (.int .i64 (sumW pre.dropLast)) ∧ Boxed W (B + 1 + 1) 3 (.int .i64 (lastV pre.dropLast))) ∧ Below B w W ∧ c = .exit 0 ∧ (pre.length : Int) = ticks + 1

def GonePost (w : World) (xs : List Int) (n t : Int) (e : Ending) (w' : World) : Prop :=
  e = .returned (.tuple #[.int .i64 (sumW (xs.take t.toNat)), .int .i64 (if sumW (xs.take t.toNat) = n then 0 else lastV (xs.take t.toNat)), .int .i64 0]) ∧ Below w.heap.size w w'
theorem gone_post1 {w w' : World} {xs pre : List Int} {n t : Int} (h : xs.take t.toNat = pre) (hq : sumW pre = n) (hb : Below w.heap.size w w') : GonePost w xs n t (.returned (.tuple #[.int .i64 (sumW pre), .int .i64 0, .int .i64 0])) w' := ⟨by rw [h, if_pos hq], hb⟩
theorem gone_post2 {w w' : World} {xs pre : List Int} {n t : Int} (h : xs.take t.toNat = pre) (hq : ¬ sumW pre = n) (hb : Below w.heap.size w w') : GonePost w xs n t (.returned (.tuple #[.int .i64 (sumW pre), .int .i64 (lastV pre), .int .i64 0])) w' := ⟨by rw [h, if_neg hq], hb⟩

set_option maxHeartbeats 2000000 in
set_option maxRecDepth 100000 in
theorem Gone_yes (k : Nat) (a0 a1 a2 : Int) (xs : List Int) (w : World) (h : profile_limits.f a0 a1 = some true) (h2 : 0 ≤ a2) (h3 : a2 ≤ 9223372036854775807) (hx : rideL k 0 a0 a1 = some xs) :
    Calls Try.prog 18 #[.int .i64 a0, .int .i64 a1, .int .i64 a2] w (GonePost w xs a0 a2) := by
  have H := Aside0.mk h
  have HX := Aside0.mk hx
  have t1 : decide (a2 < 0) = false := decide_eq_false (by omega)
  clear h hx
  refine (callsIn_wide (n := 9)).1 ?_
  refine callsIn_of_wp_marks Try.func18 rfl trivial ?_ rfl
  simp only [Try.ntmps18, List.size_toArray, List.length_cons, List.length_nil, Nat.reduceAdd, Nat.reduceSub, Array.replicate_succ, Array.replicate_zero, List.push_toArray, List.append_toArray, List.nil_append, List.cons_append]
  gi_wp2_with fail
  refine ⟨trivial, ?_⟩
  refine (callsIn_wide.2 (limits_any a0 a1 true H.out _)).mono ?_
  rintro e w' ⟨rfl, m, rfl⟩
  obtain ⟨wd, hwd⟩ : ∃ wd, (((w.alloc (.cells #[.int .i64 a2] 3)).alloc (.cells #[.int .i64 0] 3)).alloc (.cells #[.int .i64 0] 3)).drewN m = wd := ⟨_, rfl⟩
  have hb5 : Boxed wd w.heap.size 3 (.int .i64 a2) := by rw [← hwd]; exact boxed_drewN (((Boxed.new w 3 _).alloc _).alloc _) m
  have hb6 : Boxed wd (w.heap.size + 1) 3 (.int .i64 0) := by rw [← hwd]; have := Boxed.new (w.alloc (.cells #[.int .i64 a2] 3)) 3 (.int .i64 0); rw [World.size_alloc] at this; exact boxed_drewN (this.alloc _) m
  have hb7 : Boxed wd (w.heap.size + 1 + 1) 3 (.int .i64 0) := by rw [← hwd]; have := Boxed.new ((w.alloc (.cells #[.int .i64 a2] 3)).alloc (.cells #[.int .i64 0] 3)) 3 (.int .i64 0); rw [World.size_alloc, World.size_alloc] at this; exact boxed_drewN this m
  have hBd : Below w.heap.size w wd := by rw [← hwd]; exact below_drewN ((((Below.refl _ w).alloc (Nat.le_refl _) _).alloc (by simp) _).alloc (by simp; omega) _) m
  have sd : wd.heap.size = w.heap.size + 1 + 1 + 1 := by rw [← hwd]; simp
  rw [hwd]
  clear hwd
  have HB5 := Aside0.mk hb5
  have HB6 := Aside0.mk hb6
  have HB7 := Aside0.mk hb7
  have HBd := Aside0.mk hBd
  have c5 := hb5.cell
  clear hb5 hb6 hb7 hBd
  gi_wp2_with fail
  refine ⟨trivial, ?_⟩
  refine (callsIn_wide.2 (ride_any _ _ _)).mono ?_
  rintro e w' ⟨rfl, rfl⟩
  gi_wp2
  obtain ⟨w2, hw2⟩ : ∃ w2, wd.alloc (.cells #[.int .i64 a0] 3) = w2 := ⟨_, rfl⟩
  obtain ⟨w3, hw3⟩ : ∃ w3, w2.alloc (.cells #[.int .i64 a1] 3) = w3 := ⟨_, rfl⟩
  have s2 : w2.heap.size = w.heap.size + 1 + 1 + 1 + 1 := by rw [← hw2, World.size_alloc, sd]
  have s3 : w3.heap.size = w.heap.size + 1 + 1 + 1 + 1 + 1 := by rw [← hw3, World.size_alloc, s2]
  have hb5 : Boxed w3 w.heap.size 3 (.int .i64 a2) := by rw [← hw3, ← hw2]; exact (HB5.out.alloc _).alloc _
  have hb6 : Boxed w3 (w.heap.size + 1) 3 (.int .i64 0) := by rw [← hw3, ← hw2]; exact (HB6.out.alloc _).alloc _
  have hb7 : Boxed w3 (w.heap.size + 1 + 1) 3 (.int .i64 0) := by rw [← hw3, ← hw2]; exact (HB7.out.alloc _).alloc _
  have hbn : Boxed w3 (w.heap.size + 1 + 1 + 1) 3 (.int .i64 a0) := by rw [← hw3, ← hw2, ← sd]; exact (Boxed.new wd 3 _).alloc _
  have hbl : Boxed w3 (w.heap.size + 1 + 1 + 1 + 1) 3 (.int .i64 a1) := by rw [← hw3, ← s2]; exact Boxed.new w2 3 _
  have hB3 : Below w.heap.size w w3 := by rw [← hw3, ← hw2]; exact (HBd.out.alloc (by omega) _).alloc (by simp; omega) _
  rw [hw2, hw3]
  have S3 := Aside0.mk s3
  have HB3 := Aside0.mk hB3
  have HB5' := Aside0.mk hb5
  have HB6' := Aside0.mk hb6
  have HB7' := Aside0.mk hb7
  clear hw2 hw3 s2 s3 hB3 hb6 hb7 hb5 HB7 HB5 HB6 sd HBd c5
  refine wpIn_rangeFunc_ownF rfl (by omega) (gf := 41) (lb := #[.pointer (some ⟨w.heap.size + 1 + 1 + 1, 0, none⟩), .pointer (some ⟨w.heap.size + 1 + 1 + 1 + 1, 0, none⟩)]) rfl trivial (enters_of Try.func41 (by kernel_rfl) rfl)
    (ride_stops (9 - 1) (by omega) (w.heap.size + 1 + 1 + 1) (w.heap.size + 1 + 1 + 1 + 1) a0 a1 k xs HX.out w3 hbn hbl) keep2_t
    (fun W l o o' hl _ _ _ => keep2_b (w := w3) (by have := S3.out; omega) (by have := S3.out; omega) W l o o' hl) (Below.refl _ _) (fun _ => rfl)
    (GoI w.heap.size w a2) (GoX w.heap.size w a2)
    (OwnFrom.and ((own_and (boxed_ownB _ _ (fun pre : List Int => .int .i64 (a2 - pre.length))) (own_and (boxed_ownB _ _ (fun pre : List Int => .int .i64 (sumW pre))) (boxed_ownB _ _ (fun pre : List Int => .int .i64 (lastV pre))))).from _) (OwnFrom.and (ownFrom_below (Nat.le_refl _) (by have := S3.out; omega)) ((own_pure _).from _)))
    (fun c => OwnFrom.and ((own_and (boxed_ownB _ _ (fun pre : List Int => .int .i64 (sumW pre.dropLast))) (boxed_ownB _ _ (fun pre : List Int => .int .i64 (lastV pre.dropLast)))).from _) (OwnFrom.and (ownFrom_below (Nat.le_refl _) (by have := S3.out; omega)) ((own_and (own_pure (fun _ => c = .exit 0)) (own_pure _)).from _)))
    ⟨⟨by simpa using HB5'.out, HB6'.out, HB7'.out⟩, HB3.out, by simpa using h2⟩
    (fun x => { tmps := #[.int .i64 a0, .int .i64 a1, .int .i64 a2, undef, undef, .pointer (some ⟨w.heap.size, 0, none⟩), .pointer (some ⟨w.heap.size + 1, 0, none⟩), .pointer (some ⟨w.heap.size + 1 + 1, 0, none⟩), .int .i64 0, .int .i64 x, .int .i64 a0, .int .i64 a1, .bool true, .bool false, .bool false, .int .i64 a2, .bool false, .bool false, .int .i64 a0, .int .i64 a1, .func (.func 41) #[] #[.pointer (some ⟨w.heap.size + 1 + 1 + 1, 0, none⟩), .pointer (some ⟨w.heap.size + 1 + 1 + 1 + 1, 0, none⟩)], .int .i64 x, undef, undef, undef, undef, undef, undef, undef, undef, undef, undef, undef, undef, undef], defers := [] }) ?assign ?body ?done ?stop
  case assign =>
    intro l x W K hK
    gi_wp2
    exact hK
  case body =>
    rintro l pre x W ⟨⟨hbT, hbW, hbS⟩, hB, hle⟩ hlen
    have cT := hbT.cell
    have fT := hbT.frozen
    have cW := hbW.cell
    have fW := hbW.frozen
    have cS := hbS.cell
    have fS := hbS.frozen
    by_cases ht : (pre.length : Int) = a2
    · have t2 : (a2 - (pre.length : Int) == 0) = true := by rw [beq_iff_eq]; omega
      have HT := Aside0.mk ht
      clear ht
      gi_wp2
      have hT := HT.out
      exact ⟨KeepsOthers.refl _, ⟨by rw [List.dropLast_concat]; exact hbW, by rw [List.dropLast_concat]; exact hbS⟩, hB, rfl, by simp; omega⟩
    · have t2 : (a2 - (pre.length : Int) == 0) = false := by rw [beq_eq_false_iff_ne]; omega
      have HT := Aside0.mk ht
      clear ht
      gi_wp2
      have hT := HT.out
      refine ⟨((KeepsOthers.setCell _ _ _).trans (KeepsOthers.setCell _ _ _)).trans (KeepsOthers.setCell _ _ _), keep2_set (keep2_set (keep2_set ⟨rfl, rfl⟩ _ _ (by simp <;> omega) (by simp <;> omega)) _ _ (by simp <;> omega) (by simp <;> omega)) _ _ (by simp <;> omega) (by simp <;> omega), ⟨?_, ?_, ?_⟩, ((hB.setCell (p := ⟨w.heap.size + 1, 0, none⟩) (by simp) _).setCell (p := ⟨w.heap.size + 1 + 1, 0, none⟩) (by simp; omega) _).setCell (p := ⟨w.heap.size, 0, none⟩) (Nat.le_refl _) _, by simp; omega⟩
      · have e : (a2 - ((pre ++ [x]).length : Int)) = a2 - (pre.length : Int) - 1 := by simp; omega
        rw [e]
        exact Boxed.set _ (boxed_far (boxed_far hbT _ _ (by simp)) _ _ (by simp; omega))
      · rw [sumW_snoc]
        exact boxed_far (boxed_far (hbW.set _) _ _ (by simp)) _ _ (by simp)
      · rw [lastV_snoc]
        exact boxed_far (Boxed.set _ (boxed_far hbS _ _ (by simp))) _ _ (by simp; omega)
  case done =>
    rintro D ys W hD rfl ⟨⟨hbT, hbW, hbS⟩, hB, hle⟩ hK
    have PQ : Aside0 (ys.take a2.toNat = ys) := ⟨List.take_of_length_le (by omega)⟩
    have cw := hbW.cell
    have fw := hbW.frozen
    have cs := hbS.cell
    have fs := hbS.frozen
    have hs3 := S3.out
    rw [hs3] at hD
    clear hs3
    by_cases hq : sumW ys = a0
    · have q1 : (sumW ys == a0) = true := by rw [beq_iff_eq]; exact hq
      have HQ := Aside0.mk hq
      clear hq
      gi_wp2
      gi_region
      all_goals
        gi_wp2
        have hq := HQ.out
        have hK2 := (((KeepsOthers.setCell W ⟨w.heap.size + 1 + 1, 0, none⟩ (.int .i64 0)).trans (KeepsOthers.setCell _ ⟨w.heap.size + 1, 0, none⟩ (.int .i64 (sumW ys)))).trans (KeepsOthers.setCell _ ⟨w.heap.size + 1 + 1, 0, none⟩ (.int .i64 0))).same D _ hK rfl
        refine ⟨by simp, .inl ⟨_, _, rfl, run_takeDeferred (by exact hK2), ?_⟩⟩
        have bW : Boxed (((((W.setCell ⟨w.heap.size + 1 + 1, 0, none⟩ (.int .i64 0)).setCell ⟨w.heap.size + 1, 0, none⟩ (.int .i64 (sumW ys))).setCell ⟨w.heap.size + 1 + 1, 0, none⟩ (.int .i64 0)).drew.putObj D (Obj.deferred none))) (w.heap.size + 1) 3 (.int .i64 (sumW ys)) :=
          (World.putObj_heap_other (by omega)).trans (boxed_far (Boxed.set _ (boxed_far hbW _ _ (by simp))) _ _ (by simp))
        have bS : Boxed (((((W.setCell ⟨w.heap.size + 1 + 1, 0, none⟩ (.int .i64 0)).setCell ⟨w.heap.size + 1, 0, none⟩ (.int .i64 (sumW ys))).setCell ⟨w.heap.size + 1 + 1, 0, none⟩ (.int .i64 0)).drew.putObj D (Obj.deferred none))) (w.heap.size + 1 + 1) 3 (.int .i64 0) :=
          (World.putObj_heap_other (by omega)).trans (Boxed.set _ (boxed_far (hbS.set _) _ _ (by simp)))
        have cA := bW.cell
        have cB := bS.cell
        refine ⟨.tuple #[.int .i64 (sumW ys), .int .i64 0, .int .i64 0], by simp [results, Try.results18, go_sem, cA, cB], gone_post1 PQ.out hq ?_⟩
        exact ((((hB.setCell (p := ⟨w.heap.size + 1 + 1, 0, none⟩) (by simp; omega) _).setCell (p := ⟨w.heap.size + 1, 0, none⟩) (by simp) _).setCell (p := ⟨w.heap.size + 1 + 1, 0, none⟩) (by simp; omega) _).drew).trans (belowK_b (w := w) (Nat.le_refl _) _ D _ _ (by omega) hK2 rfl rfl)
    · have q1 : (sumW ys == a0) = false := by rw [beq_eq_false_iff_ne]; exact hq
      have HQ := Aside0.mk hq
      clear hq
      gi_wp2
      gi_region
      all_goals
        gi_wp2
        have hq := HQ.out
        have hK2 := ((KeepsOthers.setCell W ⟨w.heap.size + 1, 0, none⟩ (.int .i64 (sumW ys))).trans (KeepsOthers.setCell _ ⟨w.heap.size + 1 + 1, 0, none⟩ (.int .i64 (lastV ys)))).same D _ hK rfl
        refine ⟨by simp, .inl ⟨_, _, rfl, run_takeDeferred (by exact hK2), ?_⟩⟩
        have bW : Boxed ((((W.setCell ⟨w.heap.size + 1, 0, none⟩ (.int .i64 (sumW ys))).setCell ⟨w.heap.size + 1 + 1, 0, none⟩ (.int .i64 (lastV ys))).drew.putObj D (Obj.deferred none))) (w.heap.size + 1) 3 (.int .i64 (sumW ys)) :=
          (World.putObj_heap_other (by omega)).trans (boxed_far (hbW.set _) _ _ (by simp))
        have bS : Boxed ((((W.setCell ⟨w.heap.size + 1, 0, none⟩ (.int .i64 (sumW ys))).setCell ⟨w.heap.size + 1 + 1, 0, none⟩ (.int .i64 (lastV ys))).drew.putObj D (Obj.deferred none))) (w.heap.size + 1 + 1) 3 (.int .i64 (lastV ys)) :=
          (World.putObj_heap_other (by omega)).trans (Boxed.set _ (boxed_far hbS _ _ (by simp)))
        have cA := bW.cell
        have cB := bS.cell
        refine ⟨.tuple #[.int .i64 (sumW ys), .int .i64 (lastV ys), .int .i64 0], by simp [results, Try.results18, go_sem, cA, cB], gone_post2 PQ.out hq ?_⟩
        exact (((hB.setCell (p := ⟨w.heap.size + 1, 0, none⟩) (by simp) _).setCell (p := ⟨w.heap.size + 1 + 1, 0, none⟩) (by simp; omega) _).drew).trans (belowK_b (w := w) (Nat.le_refl _) _ D _ _ (by omega) hK2 rfl rfl)
  case stop =>
    rintro D c pre W hD hpre ⟨⟨hbW, hbS⟩, hB, rfl, hgt⟩ hK
    have PQ : Aside0 (xs.take a2.toNat = pre.dropLast) := ⟨by
      obtain ⟨t, rfl⟩ := hpre
      rw [List.take_append_of_le_length (by omega), List.dropLast_eq_take]
      congr 1; omega⟩
    clear hpre hgt
    have cw := hbW.cell
    have fw := hbW.frozen
    have cs := hbS.cell
    have fs := hbS.frozen
    have hs3 := S3.out
    rw [hs3] at hD
    clear hs3
    by_cases hq : sumW pre.dropLast = a0
    · have q1 : (sumW pre.dropLast == a0) = true := by rw [beq_iff_eq]; exact hq
      have HQ := Aside0.mk hq
      clear hq
      gi_wp2
      gi_region
      all_goals
        gi_wp2
        have hq := HQ.out
        have hK2 := (((KeepsOthers.setCell W ⟨w.heap.size + 1 + 1, 0, none⟩ (.int .i64 0)).trans (KeepsOthers.setCell _ ⟨w.heap.size + 1, 0, none⟩ (.int .i64 (sumW pre.dropLast)))).trans (KeepsOthers.setCell _ ⟨w.heap.size + 1 + 1, 0, none⟩ (.int .i64 0))).same D _ hK rfl
        refine ⟨by simp, .inl ⟨_, _, rfl, run_takeDeferred (by exact hK2), ?_⟩⟩
        have bW : Boxed (((((W.setCell ⟨w.heap.size + 1 + 1, 0, none⟩ (.int .i64 0)).setCell ⟨w.heap.size + 1, 0, none⟩ (.int .i64 (sumW pre.dropLast))).setCell ⟨w.heap.size + 1 + 1, 0, none⟩ (.int .i64 0)).drew.putObj D (Obj.deferred none))) (w.heap.size + 1) 3 (.int .i64 (sumW pre.dropLast)) :=
          (World.putObj_heap_other (by omega)).trans (boxed_far (Boxed.set _ (boxed_far hbW _ _ (by simp))) _ _ (by simp))
        have bS : Boxed (((((W.setCell ⟨w.heap.size + 1 + 1, 0, none⟩ (.int .i64 0)).setCell ⟨w.heap.size + 1, 0, none⟩ (.int .i64 (sumW pre.dropLast))).setCell ⟨w.heap.size + 1 + 1, 0, none⟩ (.int .i64 0)).drew.putObj D (Obj.deferred none))) (w.heap.size + 1 + 1) 3 (.int .i64 0) :=
          (World.putObj_heap_other (by omega)).trans (Boxed.set _ (boxed_far (hbS.set _) _ _ (by simp)))
        have cA := bW.cell
        have cB := bS.cell
        refine ⟨.tuple #[.int .i64 (sumW pre.dropLast), .int .i64 0, .int .i64 0], by simp [results, Try.results18, go_sem, cA, cB], gone_post1 PQ.out hq ?_⟩
        exact ((((hB.setCell (p := ⟨w.heap.size + 1 + 1, 0, none⟩) (by simp; omega) _).setCell (p := ⟨w.heap.size + 1, 0, none⟩) (by simp) _).setCell (p := ⟨w.heap.size + 1 + 1, 0, none⟩) (by simp; omega) _).drew).trans (belowK_b (w := w) (Nat.le_refl _) _ D _ _ (by omega) hK2 rfl rfl)
    · have q1 : (sumW pre.dropLast == a0) = false := by rw [beq_eq_false_iff_ne]; exact hq
      have HQ := Aside0.mk hq
      clear hq
      gi_wp2
      gi_region
      all_goals
        gi_wp2
        have hq := HQ.out
        have hK2 := ((KeepsOthers.setCell W ⟨w.heap.size + 1, 0, none⟩ (.int .i64 (sumW pre.dropLast))).trans (KeepsOthers.setCell _ ⟨w.heap.size + 1 + 1, 0, none⟩ (.int .i64 (lastV pre.dropLast)))).same D _ hK rfl
        refine ⟨by simp, .inl ⟨_, _, rfl, run_takeDeferred (by exact hK2), ?_⟩⟩
        have bW : Boxed ((((W.setCell ⟨w.heap.size + 1, 0, none⟩ (.int .i64 (sumW pre.dropLast))).setCell ⟨w.heap.size + 1 + 1, 0, none⟩ (.int .i64 (lastV pre.dropLast))).drew.putObj D (Obj.deferred none))) (w.heap.size + 1) 3 (.int .i64 (sumW pre.dropLast)) :=
          (World.putObj_heap_other (by omega)).trans (boxed_far (hbW.set _) _ _ (by simp))
        have bS : Boxed ((((W.setCell ⟨w.heap.size + 1, 0, none⟩ (.int .i64 (sumW pre.dropLast))).setCell ⟨w.heap.size + 1 + 1, 0, none⟩ (.int .i64 (lastV pre.dropLast))).drew.putObj D (Obj.deferred none))) (w.heap.size + 1 + 1) 3 (.int .i64 (lastV pre.dropLast)) :=
          (World.putObj_heap_other (by omega)).trans (Boxed.set _ (boxed_far hbS _ _ (by simp)))
        have cA := bW.cell
        have cB := bS.cell
        refine ⟨.tuple #[.int .i64 (sumW pre.dropLast), .int .i64 (lastV pre.dropLast), .int .i64 0], by simp [results, Try.results18, go_sem, cA, cB], gone_post2 PQ.out hq ?_⟩
        exact (((hB.setCell (p := ⟨w.heap.size + 1, 0, none⟩) (by simp) _).setCell (p := ⟨w.heap.size + 1 + 1, 0, none⟩) (by simp; omega) _).drew).trans (belowK_b (w := w) (Nat.le_refl _) _ D _ _ (by omega) hK2 rfl rfl)

theorem profile_Gone.calls (k : Nat) (a0 : Int) (a1 : Int) (a2 : Int) (r1 : Int) (r2 : Int) (r3 : Int) (w : World) (h : profile_Gone.f k a0 a1 a2 = some (r1, r2, r3)) :
    Calls Try.prog 18 #[.int .i64 a0, .int .i64 a1, .int .i64 a2] w fun e w' => e = .returned (.tuple #[.int .i64 r1, .int .i64 r2, .int .i64 r3]) ∧ Below w.heap.size w w' := by
  obtain ⟨b, hb, h⟩ := Option.bind_eq_some_iff.1 h
  have no : (b = false ∨ a2 < 0) → some ((0 : Int), (0 : Int), (2 : Int)) = some (r1, r2, r3) → Calls Try.prog 18 #[.int .i64 a0, .int .i64 a1, .int .i64 a2] w fun e w' => e = .returned (.tuple #[.int .i64 r1, .int .i64 r2, .int .i64 r3]) ∧ Below w.heap.size w w' := by
    intro hn h'
    simp only [Option.some.injEq, Prod.mk.injEq] at h'
    obtain ⟨rfl, rfl, rfl⟩ := h'
    exact Gone_no a0 a1 a2 b w hb hn
  cases b with
  | false => rw [if_neg (by decide)] at h; exact no (.inl rfl) h
  | true =>
    rw [if_pos rfl] at h
    by_cases h0 : a2 < 0
    · rw [if_pos h0] at h; exact no (.inr h0) h
    · rw [if_neg h0] at h
      by_cases h1 : a2 ≤ 9223372036854775807
      · rw [if_pos h1] at h
        obtain ⟨xs, hx, h'⟩ := Option.map_eq_some_iff.1 h
        simp only [Prod.mk.injEq] at h'
        obtain ⟨rfl, rfl, rfl⟩ := h'
        exact (Gone_yes k a0 a1 a2 xs w hb (by omega) h1 hx).mono fun e w' h => h
      · rw [if_neg h1] at h; cases h

end Go.Proofs.Ytgjcpocncpeibaa.S
