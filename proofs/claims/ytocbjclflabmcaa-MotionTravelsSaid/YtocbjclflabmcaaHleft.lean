/- motion.Left, walked: how many ticks are left. -/
import Derived.Test.YtocbjclflabmcaaHruns
namespace Go.Proofs.Ytocbjclflabmcaa.S
open Go.RowKit Go.Proofs.YtocbjclflabmcaaW.PrintWords Go.Proofs.YtocbjclflabmcaaW.PrintLast Go.Proofs.YtocbjclflabmcaaW.PrintMore
set_option linter.unusedVariables false
set_option linter.unusedSimpArgs false
attribute [local go_sem] Oper.semAt_some wide_fn wideR_fn
attribute [local simp] wide_fn wideR_fn

def ticksOf (xs : List Int) : Int := xs.foldl (fun t _ => wrap64 (t + 1)) 0
theorem ticksOf_snoc (xs : List Int) (x : Int) : ticksOf (xs ++ [x]) = wrap64 (ticksOf xs + 1) := by simp [ticksOf]

theorem G2.ext {w A A' : World} {B : Nat} {row row' : Option Nat} (h : G2 w A B row) (g : A.grownBy A' row') (hr : ∀ r, row' = some r → w.heap.size ≤ r ∨ r = B ∨ some r = row) : G2 w A' B row :=
  ⟨g.os.trans h.os, g.tape.trans h.tape, g.output.trans h.output, Nat.le_trans h.size g.size, fun k hk hB hne => by
    refine (g.block k (Nat.lt_of_lt_of_le hk h.size) (fun e => ?_)).trans (h.block k hk hB hne)
    rcases hr k e.symm with h1 | h1 | h1
    · omega
    · exact hB h1
    · exact hne h1⟩
theorem G2.refl (w : World) (B : Nat) (row : Option Nat) : G2 w w B row := ⟨rfl, rfl, rfl, Nat.le_refl _, fun _ _ _ _ => rfl⟩

def LfI (w : World) (B bn : Nat) (g m : Int) (pre : List Int) (W : World) : Prop :=
  (Boxed W bn 3 (.int .i64 (ticksOf pre)) ∧ ∃ p s, Car W B p g s m) ∧ G2 w W B (some bn)
theorem LfI.own (w : World) (B bn : Nat) (g m : Int) (N : Nat) (hN : w.heap.size ≤ N) : OwnFrom N (LfI w B bn g m) := fun pre A A' row hs hg hr =>
  ⟨⟨boxed_own bn 3 (fun pre : List Int => .int .i64 (ticksOf pre)) pre A A' row hs.1.1 hg (fun r e => (hr r e).2), by
    obtain ⟨p, s, hc⟩ := hs.1.2
    exact ⟨p, s, car_own (β := Unit) B p g s m () A A' row hc hg (fun r e => (hr r e).2)⟩⟩, hs.2.ext hg (fun r e => .inl (by have := (hr r e).1; omega))⟩
theorem LfI.tick {w : World} {B bn : Nat} {g m : Int} {pre : List Int} {A A' : World} (h : LfI w B bn g m pre A) (ht : TickT B g m A A') (hne : ¬ bn = B) : LfI w B bn g m pre A' :=
  ⟨⟨(ht.1.block bn h.1.1.lt (fun e => hne (Option.some.inj e))).trans h.1.1, ht.2 h.1.2⟩, h.2.ext ht.1 (fun r e => .inr (.inl (by cases e; rfl)))⟩

set_option maxHeartbeats 2000000 in
set_option maxRecDepth 100000 in
theorem left1_any (B bn : Nat) (p g s m : Int) (k : Nat) (xs : List Int) (hx : posL k p g s m = some xs) (hne : ¬ bn = B) (w : World) (h : Car w B p g s m) (hn : Boxed w bn 3 (.int .i64 0)) :
    Calls Try.prog 45 #[.pointer (some ⟨B, 0, none⟩), .pointer (some ⟨bn, 0, none⟩)] w fun e w' => e = .returned (.tuple #[]) ∧ (∃ p' g' s', True ∧ Car w' B p' g' s' m) ∧ G2 w w' B (some bn) ∧ Boxed w' bn 3 (.int .i64 (ticksOf xs)) := by
  have HX := Aside0.mk hx
  have H := Aside0.mk h
  have HN := Aside0.mk hn
  have hBlt := h.lt
  have hnlt := hn.lt
  clear hx h hn
  refine (callsIn_wide (n := 9)).1 ?_
  refine callsIn_of_wp_marks Try.func45 rfl trivial ?_ rfl
  simp only [Try.ntmps45, List.size_toArray, List.length_cons, List.length_nil, Nat.reduceAdd, Nat.reduceSub, Array.replicate_succ, Array.replicate_zero, List.push_toArray, List.append_toArray, List.nil_append, List.cons_append]
  gi_wp2_with fail
  refine (callsIn_wide.2 (positions_any _ _)).mono ?_
  rintro e w' ⟨rfl, rfl⟩
  gi_wp2
  obtain ⟨w1, hw1⟩ : ∃ x, w.alloc (.cells #[.pointer (some ⟨B, 0, none⟩)] 54) = x := ⟨_, rfl⟩
  have s1 : w1.heap.size = w.heap.size + 1 := by rw [← hw1, World.size_alloc]
  have hx1 : Boxed w1 w.heap.size 54 (.pointer (some ⟨B, 0, none⟩)) := by rw [← hw1]; exact Boxed.new w 54 _
  have hc1 : Car w1 B p g s m := by rw [← hw1]; exact H.out.alloc _
  have hI1 : LfI w B bn g m [] w1 := by rw [← hw1]; exact ⟨⟨HN.out.alloc _, p, s, H.out.alloc _⟩, (G2.refl w B _).ext (World.grownBy_alloc w _ none) (fun r e => by cases e)⟩
  rw [hw1]
  clear hw1
  have S1 := Aside0.mk s1
  clear s1
  refine wpIn_iter rfl (by omega) (gf := 53) (lb := #[.pointer (some ⟨w.heap.size, 0, none⟩)]) rfl trivial (enters_of Try.func53 (by kernel_rfl) rfl)
    (pos_stops (9 - 1) (by omega) w.heap.size B (by omega) k p g s m xs HX.out w1 hx1 hc1)
    (fun A A' l ht hl hA => ht.1.block l hA (fun e => by cases e; have := S1.out; omega))
    keep2_t (fun W l o' hl => ⟨World.putObj_heap_other (by have := S1.out; omega), World.putObj_heap_other (by have := S1.out; omega)⟩) (fun _ => rfl)
    (LfI w B bn g m) (fun _ _ _ => False)
    (LfI.own w B bn g m _ (by have := S1.out; omega)) (fun _ _ _ _ _ hs _ _ => hs) (fun _ _ _ hs ht => hs.tick ht hne) (fun _ _ _ _ hs _ => hs) hI1
    (fun pre x a W => a = { tmps := #[.pointer (some ⟨B, 0, none⟩), .pointer (some ⟨bn, 0, none⟩), undef, .pointer (some ⟨B, 0, none⟩), .func (.func 53) #[] #[.pointer (some ⟨w.heap.size, 0, none⟩)], .int .i64 x, undef, undef], defers := [] } ∧ LfI w B bn g m pre W)
    ?hM ?assign ?body ?done ?stop
  case hM =>
    rintro pre x a W l o o' ⟨rfl, hs⟩ hl ho hoc
    exact ⟨rfl, (LfI.own w B bn g m w1.heap.size (by have := S1.out; omega)).putObj o' hs hl ho hoc⟩
  case assign =>
    intro l pre x W hs hlen
    gi_wp2
    exact ⟨KeepsOthers.refl _, ⟨rfl, rfl⟩, by simp, hs⟩
  case body =>
    rintro l pre x a W ⟨rfl, hs⟩ hlen
    have cn := hs.1.1.cell
    have fn := hs.1.1.frozen
    have HS := Aside0.mk hs
    clear hs
    gi_wp2
    refine ⟨KeepsOthers.setCell _ _ _, keep2_set ⟨rfl, rfl⟩ _ _ (by simp; omega) (by simp; omega), ⟨?_, ?_⟩, ?_⟩
    · rw [ticksOf_snoc]; exact HS.out.1.1.set _
    · obtain ⟨p', s', hc⟩ := HS.out.1.2
      exact ⟨p', s', hc.far _ _ (fun e => hne e.symm)⟩
    · exact HS.out.2.ext (grown_set _ _ _ _) (fun r e => .inr (.inr e.symm))
  case done =>
    rintro D ys W hD rfl hs hK
    have HS := Aside0.mk hs
    clear hs
    gi_wp2
    refine ⟨by simp, .inl ⟨_, _, rfl, run_takeDeferred (by exact hK), ?_⟩⟩
    have hs1 := S1.out
    obtain ⟨p', s', hc⟩ := HS.out.1.2
    refine ⟨.tuple #[], results_none rfl _ _ _, rfl, ⟨p', g, s', trivial, (World.putObj_heap_other (by omega)).trans hc⟩, HS.out.2.ext (grownBy_putObj' _ D _) (fun r e => .inl (by cases e; omega)), (World.putObj_heap_other (by omega)).trans HS.out.1.1⟩
  case stop =>
    rintro D c pre W hD _ h _
    exact h.elim

def motion_Left.f (k : Nat) (p g s m : Int) : Option (Int × Int) :=
  (motion_Check.f p g s m).bind fun e => if e = 0 then (posL k p g s m).map fun xs => (ticksOf xs, 0) else some (0, e)
theorem motion_Left.mono : ∀ p g s m k, LeO (motion_Left.f k p g s m) (motion_Left.f (k + 1) p g s m) := fun p g s m k =>
  LeO.bind (LeO.refl _) (fun _ => LeO.ite (LeO.map _ (posL_mono k p g s m)) (LeO.refl _))

set_option maxHeartbeats 2000000 in
set_option maxRecDepth 100000 in
theorem motion_Left.calls (k : Nat) (a0_0 a0_1 a0_2 a0_3 : Int) (r1 r2 : Int) (w : World) (h : motion_Left.f k a0_0 a0_1 a0_2 a0_3 = some (r1, r2)) :
    Calls Try.prog 17 #[.agg #[.int .i64 a0_0, .int .i64 a0_1, .int .i64 a0_2, .int .i64 a0_3]] w fun e w' => e = .returned (.tuple #[.int .i64 r1, .int .i64 r2]) ∧ Below w.heap.size w w' := by
  have hu := Try.underlying48
  have hu23 := Try.underlying23
  have hmf : ∀ (fn : Fn) (first cap : Array Value) (w : World), (Instr.makeFunc fn first cap).run Try.prog w = .ok (.func fn first cap) w := fun _ _ _ _ => rfl
  obtain ⟨e, he, hr⟩ := Option.bind_eq_some_iff.1 h
  have HE := Aside0.mk he
  have HR := Aside0.mk hr
  clear h he hr
  go_enter Try.func17, Try.ntmps17
  go_wp2_with fail
  obtain ⟨w3, hw3⟩ : ∃ x, ((w.alloc (.cells #[.int .i64 a0_0, .int .i64 a0_1, .int .i64 a0_2, .int .i64 a0_3] 23)).alloc (.cells #[.int .i64 0] 3)).alloc (.cells #[.func (.func 45) #[] #[.pointer (some ⟨w.heap.size + 1, 0, none⟩)]] 53) = x := ⟨_, rfl⟩
  have s3 : w3.heap.size = w.heap.size + 1 + 1 + 1 := by rw [← hw3]; simp
  have hn3 : Boxed w3 (w.heap.size + 1) 3 (.int .i64 0) := by
    have := Boxed.new (w.alloc (.cells #[.int .i64 a0_0, .int .i64 a0_1, .int .i64 a0_2, .int .i64 a0_3] 23)) 3 (.int .i64 0)
    rw [World.size_alloc] at this
    rw [← hw3]; exact this.alloc _
  have hc3 : w3.cell? ⟨w.heap.size + 1 + 1, 0, none⟩ = some (.func (.func 45) #[] #[.pointer (some ⟨w.heap.size + 1, 0, none⟩)]) := by
    have := (Boxed.new ((w.alloc (.cells #[.int .i64 a0_0, .int .i64 a0_1, .int .i64 a0_2, .int .i64 a0_3] 23)).alloc (.cells #[.int .i64 0] 3)) 53 (.func (.func 45) #[] #[.pointer (some ⟨w.heap.size + 1, 0, none⟩)])).cell
    rw [World.size_alloc, World.size_alloc] at this
    rw [← hw3]; exact this
  have hB3 : Below w.heap.size w w3 := by rw [← hw3]; exact (((Below.refl _ w).alloc (Nat.le_refl _) _).alloc (by simp) _).alloc (by simp; omega) _
  rw [hw3]
  clear hw3
  have S3 := Aside0.mk s3
  have HN3 := Aside0.mk hn3
  have HC3 := Aside0.mk hc3
  have HB3 := Aside0.mk hB3
  clear s3 hn3 hc3 hB3
  by_cases h0 : e = 0
  · subst h0
    have hr := HR.out
    rw [if_pos rfl] at hr
    obtain ⟨xs, hx, hr⟩ := Option.map_eq_some_iff.1 hr
    obtain ⟨rfl, rfl⟩ := Prod.mk.inj hr
    have HX := Aside0.mk hx
    clear hr hx HR
    refine (do_some a0_0 a0_1 a0_2 a0_3 (w.heap.size + 1 + 1) _ #[.pointer (some ⟨w.heap.size + 1, 0, none⟩)] (some (w.heap.size + 1)) (fun _ _ _ => True) (fun W => Boxed W (w.heap.size + 1) 3 (.int .i64 (ticksOf xs))) w3 HE.out (by have := S3.out; omega) HC3.out
      (fun r e => by cases e; have := S3.out; omega) (enters_of Try.func45 (by kernel_rfl) rfl)
      (fun B W hB hbW hcar => left1_any B (w.heap.size + 1) a0_0 a0_1 a0_2 a0_3 k xs HX.out (by have := S3.out; omega) W hcar ((hbW.block _ (by have := S3.out; omega)).trans HN3.out))
      (fun W W' hJ hrow => (hrow _ rfl).trans hJ)).mono ?_
    rintro e w4 ⟨p', g', s', _, rfl, hg4, hJ4⟩
    have HB4 := Aside0.mk (show Below w.heap.size w w4 from HB3.out.grown hg4 (by have := S3.out; omega) (fun k e => by cases e; omega))
    have hs4 : w.heap.size + 1 + 1 + 1 ≤ w4.heap.size := by have := S3.out; have := hg4.size; omega
    have HJ4 := Aside0.mk hJ4
    clear hg4 hJ4
    go_upto_region 3 with (fail)
    obtain ⟨w5, hw5⟩ : ∃ x, w4.alloc (.cells #[.int .i64 p', .int .i64 g', .int .i64 s', .int .i64 a0_3] 23) = x := ⟨_, rfl⟩
    have hJ5 : Boxed w5 (w.heap.size + 1) 3 (.int .i64 (ticksOf xs)) := by rw [← hw5]; exact HJ4.out.alloc _
    have HB5 := Aside0.mk (show Below w.heap.size w w5 by rw [← hw5]; exact HB4.out.alloc (by omega) _)
    have cn := hJ5.cell
    rw [hw5]
    clear hw5 hJ5
    go_wp2_with fail
    go_ret2
    exact ⟨rfl, HB5.out⟩
  · have hr := HR.out
    rw [if_neg h0] at hr
    obtain ⟨rfl, rfl⟩ := Prod.mk.inj (Option.some.inj hr)
    have HZ := Aside0.mk h0
    clear hr HR h0
    refine (do_no a0_0 a0_1 a0_2 a0_3 e (w.heap.size + 1 + 1) w3 HE.out HZ.out).mono ?_
    rintro e0 w4 ⟨rfl, hb4⟩
    have HB4 := Aside0.mk (show Below w.heap.size w w4 from HB3.out.trans (hb4.mono (by have := S3.out; omega)))
    have hs4 : w.heap.size + 1 + 1 + 1 ≤ w4.heap.size := by have := S3.out; have := hb4.size; omega
    have hJ4 : Boxed w4 (w.heap.size + 1) 3 (.int .i64 0) := (hb4.block _ (by have := S3.out; omega)).trans HN3.out
    have HJ4 := Aside0.mk hJ4
    clear hb4 hJ4
    go_upto_region 3 with (fail)
    obtain ⟨w5, hw5⟩ : ∃ x, w4.alloc (.cells #[.int .i64 0, .int .i64 0, .int .i64 0, .int .i64 0] 23) = x := ⟨_, rfl⟩
    have hJ5 : Boxed w5 (w.heap.size + 1) 3 (.int .i64 0) := by rw [← hw5]; exact HJ4.out.alloc _
    have HB5 := Aside0.mk (show Below w.heap.size w w5 by rw [← hw5]; exact HB4.out.alloc (by omega) _)
    have cn := hJ5.cell
    rw [hw5]
    clear hw5 hJ5
    go_wp2_with fail
    go_ret2
    exact ⟨rfl, HB5.out⟩

end Go.Proofs.Ytocbjclflabmcaa.S
