/- profile.travel, walked: how many speeds the iterator yields, and the greatest. -/
import Derived.Test.YtgjcpocncpeibaaHride
import Derived.RegionIn
import Derived.Shelf.Abstract
import Derived.Test.YtgjcpocncpeibaaXtra
namespace Go.Proofs.Ytgjcpocncpeibaa.S
open Go.RowKit Go.Proofs.YtgjcpocncpeibaaW.PrintWords Go.Proofs.YtgjcpocncpeibaaW.PrintLast Go.Proofs.YtgjcpocncpeibaaW.PrintMore
set_option linter.unusedVariables false
set_option linter.unusedSimpArgs false
attribute [local go_sem] Oper.semAt_some max2_int

def ticksOf (xs : List Int) : Int := xs.foldl (fun t _ => wrap64 (t + 1)) 0
def peakOf (xs : List Int) : Int := xs.foldl (fun p v => mx p v) 0
theorem ticksOf_snoc (xs : List Int) (x : Int) : ticksOf (xs ++ [x]) = wrap64 (ticksOf xs + 1) := by simp [ticksOf]
theorem peakOf_snoc (xs : List Int) (x : Int) : peakOf (xs ++ [x]) = mx (peakOf xs) x := by simp [peakOf]

def profile_travel.f (k : Nat) (a0 a1 : Int) : Option (Int × Int) := (rideL k 0 a0 a1).map fun xs => (ticksOf xs, peakOf xs)
theorem profile_travel.mono : ∀ a0 a1 k, LeO (profile_travel.f k a0 a1) (profile_travel.f (k + 1) a0 a1) := fun a0 a1 k => LeO.map _ (rideL_mono k 0 a0 a1)

theorem ride_any (a b : Int) (w : World) : Calls Try.prog 37 #[.int .i64 a, .int .i64 b] w fun e w' =>
    e = .returned (.func (.func 41) #[] #[.pointer (some ⟨w.heap.size, 0, none⟩), .pointer (some ⟨w.heap.size + 1, 0, none⟩)]) ∧ w' = (w.alloc (.cells #[.int .i64 a] 3)).alloc (.cells #[.int .i64 b] 3) := by
  have hmf : ∀ (fn : Fn) (first cap : Array Value) (w : World), (Instr.makeFunc fn first cap).run Try.prog w = .ok (.func fn first cap) w := fun _ _ _ _ => rfl
  go_enter Try.func37, Try.ntmps37
  go_wp2
  go_ret
  exact ⟨rfl, rfl⟩

theorem keep2_b {b1 b2 : Nat} {w : World} (h1 : b1 < w.heap.size) (h2 : b2 < w.heap.size) (W : World) (l : Nat) (o o' : Obj) (hl : w.heap.size ≤ l) : Keep2 b1 b2 W (W.putObj l o') :=
  ⟨World.putObj_heap_other (by omega), World.putObj_heap_other (by omega)⟩
theorem keep2_t {b1 b2 : Nat} {A B C : World} (h : Keep2 b1 b2 A B) (k : Keep2 b1 b2 B C) : Keep2 b1 b2 A C := ⟨k.1.trans h.1, k.2.trans h.2⟩
theorem keep2_set {b1 b2 : Nat} {A W : World} (h : Keep2 b1 b2 A W) (p : Addr) (v : Value) (h1 : b1 ≠ p.block) (h2 : b2 ≠ p.block) : Keep2 b1 b2 A (W.setCell p v) :=
  ⟨(Below.heap_setCell W p v b1 h1).trans h.1, (Below.heap_setCell W p v b2 h2).trans h.2⟩

set_option maxHeartbeats 1000000 in
set_option maxRecDepth 100000 in
theorem profile_travel.calls (k : Nat) (a0 : Int) (a1 : Int) (r1 : Int) (r2 : Int) (w : World) (h : profile_travel.f k a0 a1 = some (r1, r2)) :
    Calls Try.prog 31 #[.int .i64 a0, .int .i64 a1] w fun e w' => e = .returned (.tuple #[.int .i64 r1, .int .i64 r2]) ∧ Below w.heap.size w w' := by
  obtain ⟨xs, hx, hr⟩ := Option.map_eq_some_iff.1 h
  obtain ⟨rfl, rfl⟩ := Prod.mk.inj hr
  have HX := Aside0.mk hx
  clear h hr hx
  refine (callsIn_wide (n := 9)).1 ?_
  refine callsIn_of_wp_marks Try.func31 rfl trivial ?_ rfl
  simp only [Try.ntmps31, List.size_toArray, List.length_cons, List.length_nil, Nat.reduceAdd, Nat.reduceSub, Array.replicate_succ, Array.replicate_zero, List.push_toArray, List.append_toArray, List.nil_append, List.cons_append]
  gi_wp2_with fail
  refine ⟨trivial, ?_⟩
  refine (callsIn_wide.2 (ride_any _ _ _)).mono ?_
  rintro e w' ⟨rfl, rfl⟩
  gi_wp2
  obtain ⟨w1, hw1⟩ : ∃ w1, w.alloc (.cells #[.int .i64 0] 3) = w1 := ⟨_, rfl⟩
  obtain ⟨w2, hw2⟩ : ∃ w2, w1.alloc (.cells #[.int .i64 0] 3) = w2 := ⟨_, rfl⟩
  obtain ⟨w3, hw3⟩ : ∃ w3, w2.alloc (.cells #[.int .i64 a0] 3) = w3 := ⟨_, rfl⟩
  obtain ⟨w4, hw4⟩ : ∃ w4, w3.alloc (.cells #[.int .i64 a1] 3) = w4 := ⟨_, rfl⟩
  have s1 : w1.heap.size = w.heap.size + 1 := by rw [← hw1]; simp
  have s2 : w2.heap.size = w.heap.size + 1 + 1 := by rw [← hw2, World.size_alloc, s1]
  have s3 : w3.heap.size = w.heap.size + 1 + 1 + 1 := by rw [← hw3, World.size_alloc, s2]
  have s4 : w4.heap.size = w.heap.size + 1 + 1 + 1 + 1 := by rw [← hw4, World.size_alloc, s3]
  have hbt : Boxed w4 w.heap.size 3 (.int .i64 0) := by rw [← hw4, ← hw3, ← hw2, ← hw1]; exact (((Boxed.new w 3 _).alloc _).alloc _).alloc _
  have hbp : Boxed w4 (w.heap.size + 1) 3 (.int .i64 0) := by rw [← hw4, ← hw3, ← hw2, ← s1]; exact ((Boxed.new w1 3 _).alloc _).alloc _
  have hbn : Boxed w4 (w.heap.size + 1 + 1) 3 (.int .i64 a0) := by rw [← hw4, ← hw3, ← s2]; exact (Boxed.new w2 3 _).alloc _
  have hbl : Boxed w4 (w.heap.size + 1 + 1 + 1) 3 (.int .i64 a1) := by rw [← hw4, ← s3]; exact Boxed.new w3 3 _
  have hB4 : Below w.heap.size w w4 := by rw [← hw4, ← hw3, ← hw2, ← hw1]; exact ((((Below.refl _ w).alloc (Nat.le_refl _) _).alloc (by simp) _).alloc (by simp; omega) _).alloc (by simp; omega) _
  rw [hw1, hw2, hw3, hw4]
  have S4 := Aside0.mk s4
  have HB4 := Aside0.mk hB4
  have HBt := Aside0.mk hbt
  have HBp := Aside0.mk hbp
  clear hw1 hw2 hw3 hw4 s1 s2 s3 s4 hB4 hbt hbp
  refine wpIn_rangeFunc_ownF rfl (by omega) (gf := 41) (lb := #[.pointer (some ⟨w.heap.size + 1 + 1, 0, none⟩), .pointer (some ⟨w.heap.size + 1 + 1 + 1, 0, none⟩)]) rfl trivial (enters_of Try.func41 (by kernel_rfl) rfl)
    (ride_stops (9 - 1) (by omega) (w.heap.size + 1 + 1) (w.heap.size + 1 + 1 + 1) a0 a1 k xs HX.out w4 hbn hbl) keep2_t
    (fun W l o o' hl _ _ _ => keep2_b (w := w4) (by have := S4.out; omega) (by have := S4.out; omega) W l o o' hl) (Below.refl _ _) (fun _ => rfl)
    (fun pre W => (Boxed W w.heap.size 3 (.int .i64 (ticksOf pre)) ∧ Boxed W (w.heap.size + 1) 3 (.int .i64 (peakOf pre))) ∧ Below w.heap.size w W)
    (fun _ _ _ => False)
    (OwnFrom.and (Own.from (fun s A B row hs hg hr => ⟨hs.1.kept hg (fun e' => by obtain ⟨o, ho, hc⟩ := hr _ e'.symm; rw [show A.heap[w.heap.size]? = _ from hs.1] at ho; cases ho; cases hc), hs.2.kept hg (fun e' => by obtain ⟨o, ho, hc⟩ := hr _ e'.symm; rw [show A.heap[w.heap.size + 1]? = _ from hs.2] at ho; cases ho; cases hc)⟩) _) (ownFrom_below (Nat.le_refl _) (by have := S4.out; omega)))
    (fun _ _ _ _ _ hs _ _ => hs)
    ⟨⟨HBt.out, HBp.out⟩, HB4.out⟩
    (fun x => { tmps := #[.int .i64 a0, .int .i64 a1, undef, undef, .pointer (some ⟨w.heap.size, 0, none⟩), .pointer (some ⟨w.heap.size + 1, 0, none⟩), .int .i64 x, .int .i64 a0, .int .i64 a1, .func (.func 41) #[] #[.pointer (some ⟨w.heap.size + 1 + 1, 0, none⟩), .pointer (some ⟨w.heap.size + 1 + 1 + 1, 0, none⟩)], .int .i64 x, undef, undef, undef, undef, undef, undef, undef], defers := [] }) ?assign ?body ?done ?stop
  case assign =>
    intro l x W K hK
    gi_wp2
    exact hK
  case body =>
    rintro l pre x W ⟨⟨h1, h2⟩, hB⟩ hlen
    have c1 := h1.cell
    have f1 := h1.frozen
    have c2 := h2.cell
    have f2 := h2.frozen
    have hne : ¬ w.heap.size + 1 = w.heap.size := by omega
    gi_wp2
    all_goals
      refine ⟨(KeepsOthers.setCell _ _ _).trans (KeepsOthers.setCell _ _ _), keep2_set (keep2_set ⟨rfl, rfl⟩ _ _ (by simp <;> omega) (by simp <;> omega)) _ _ (by simp <;> omega) (by simp <;> omega), ⟨?_, ?_⟩, (hB.setCell (p := ⟨w.heap.size, 0, none⟩) (Nat.le_refl _) _).setCell (p := ⟨w.heap.size + 1, 0, none⟩) (by simp) _⟩
      · rw [ticksOf_snoc]
        exact (Below.heap_setCell _ ⟨w.heap.size + 1, 0, none⟩ _ w.heap.size (by simp)).trans (h1.set _)
      · rw [peakOf_snoc]
        have e : ∀ z, mx (peakOf pre) x = z → Boxed ((W.setCell ⟨w.heap.size, 0, none⟩ (.int .i64 (wrap64 (ticksOf pre + 1)))).setCell ⟨w.heap.size + 1, 0, none⟩ (.int .i64 z)) (w.heap.size + 1) 3 (.int .i64 (mx (peakOf pre) x)) := fun z hz => by
          rw [hz]
          exact Boxed.set _ ((Below.heap_setCell _ ⟨w.heap.size, 0, none⟩ _ (w.heap.size + 1) (by simp)).trans h2)
        exact e _ (by unfold mx; (repeat' split) <;> omega)
  case done =>
    rintro D ys W hD rfl ⟨⟨h1, h2⟩, hB⟩ hK
    have c1 := h1.cell
    have f1 := h1.frozen
    have c2 := h2.cell
    have f2 := h2.frozen
    gi_wp2
    gi_region
    all_goals
      gi_wp2
      have hK2 := ((KeepsOthers.setCell W ⟨w.heap.size, 0, none⟩ (.int .i64 (ticksOf ys))).trans (KeepsOthers.setCell _ ⟨w.heap.size + 1, 0, none⟩ (.int .i64 (peakOf ys)))).same D _ hK rfl
      refine ⟨by simp, .inl ⟨_, _, rfl, run_takeDeferred (by exact hK2), ?_⟩⟩
      have hs4 := S4.out
      have bA : Boxed ((((W.setCell ⟨w.heap.size, 0, none⟩ (.int .i64 (ticksOf ys))).setCell ⟨w.heap.size + 1, 0, none⟩ (.int .i64 (peakOf ys))).drew.putObj D (Obj.deferred none))) w.heap.size 3 (.int .i64 (ticksOf ys)) :=
        (World.putObj_heap_other (by omega)).trans ((Below.heap_setCell _ ⟨w.heap.size + 1, 0, none⟩ _ w.heap.size (by simp)).trans (h1.set _))
      have bB : Boxed ((((W.setCell ⟨w.heap.size, 0, none⟩ (.int .i64 (ticksOf ys))).setCell ⟨w.heap.size + 1, 0, none⟩ (.int .i64 (peakOf ys))).drew.putObj D (Obj.deferred none))) (w.heap.size + 1) 3 (.int .i64 (peakOf ys)) :=
        (World.putObj_heap_other (by omega)).trans (Boxed.set _ ((Below.heap_setCell _ ⟨w.heap.size, 0, none⟩ _ (w.heap.size + 1) (by simp)).trans h2))
      have cA := bA.cell
      have cB := bB.cell
      refine ⟨.tuple #[.int .i64 (ticksOf ys), .int .i64 (peakOf ys)], by simp [results, Try.results31, go_sem, cA, cB], rfl, ?_⟩
      exact ((hB.setCell (p := ⟨w.heap.size, 0, none⟩) (Nat.le_refl _) _).setCell (p := ⟨w.heap.size + 1, 0, none⟩) (by simp) _).drew.trans (belowK_b (w := w) (Nat.le_refl _) _ D _ _ (by omega) hK2 rfl rfl)
  case stop =>
    rintro D c pre W hD _ h _
    exact h.elim

end Go.Proofs.Ytgjcpocncpeibaa.S
