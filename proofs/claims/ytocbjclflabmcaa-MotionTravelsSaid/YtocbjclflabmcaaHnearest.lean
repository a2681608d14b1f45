/- motion.Nearest, walked. -/
import Derived.Test.YtocbjclflabmcaaHcheck
namespace Go.Proofs.Ytocbjclflabmcaa.S
open Go.RowKit Go.Proofs.YtocbjclflabmcaaW.PrintWords Go.Proofs.YtocbjclflabmcaaW.PrintLast Go.Proofs.YtocbjclflabmcaaW.PrintMore
set_option linter.unusedVariables false
set_option linter.unusedSimpArgs false

def motion_Nearest.f (p g s m : Int) : Option (Int × Int) :=
  (motion_Check.f p g s m).bind fun e => if e = 0 then some (if s = 0 then p else wrap64 (p + wrap64 (wayV p g * triV (wrap64 (s - 1)))), 0) else some (0, e)

set_option maxHeartbeats 4000000 in
set_option maxRecDepth 100000 in
theorem motion_Nearest.calls (a0_0 a0_1 a0_2 a0_3 : Int) (r1 r2 : Int) (w : World) (h : motion_Nearest.f a0_0 a0_1 a0_2 a0_3 = some (r1, r2)) :
    Calls Try.prog 19 #[.agg #[.int .i64 a0_0, .int .i64 a0_1, .int .i64 a0_2, .int .i64 a0_3]] w fun e w' => e = .returned (.tuple #[.int .i64 r1, .int .i64 r2]) ∧ Below w.heap.size w w' := by
  have hu := Try.underlying48
  have hu23 := Try.underlying23
  obtain ⟨t, ht, h⟩ := Option.bind_eq_some_iff.1 h
  have HT := Aside0.mk ht
  have H := Aside0.mk h
  clear ht h
  go_enter Try.func19, Try.ntmps19
  go_wp2_with fail
  refine (motion_Check.calls a0_0 a0_1 a0_2 a0_3 t _ HT.out).mono ?_
  rintro e w1 ⟨rfl, hb⟩
  have hn := heap_alloc_new w (.cells #[.int .i64 a0_0, .int .i64 a0_1, .int .i64 a0_2, .int .i64 a0_3] 23)
  have hb1 : w1.heap[w.heap.size]? = some (.cells #[.int .i64 a0_0, .int .i64 a0_1, .int .i64 a0_2, .int .i64 a0_3] 23 (0, 0)) := (hb.block _ (by rw [World.size_alloc]; omega)).trans hn
  have hlt : w.heap.size < w1.heap.size := (Array.getElem?_eq_some_iff.1 hb1).1
  have HB := Aside0.mk ((below_alloc (Below.refl w.heap.size w) (.cells #[.int .i64 a0_0, .int .i64 a0_1, .int .i64 a0_2, .int .i64 a0_3] 23)).trans (hb.mono (by rw [World.size_alloc]; omega)))
  obtain ⟨B, hB⟩ : ∃ B, w.heap.size = B := ⟨_, rfl⟩
  rw [hB] at hb1 hlt
  have c0 : w1.cell? ⟨B, 0, none⟩ = some (.int .i64 a0_0) := by simp [World.cell?, hb1]
  have c1 : w1.cell? ⟨B, 1, none⟩ = some (.int .i64 a0_1) := by simp [World.cell?, hb1]
  have c3 : w1.cell? ⟨B, 3, none⟩ = some (.int .i64 a0_3) := by simp [World.cell?, hb1]
  have c2 : w1.cell? ⟨B, 2, none⟩ = some (.int .i64 a0_2) := by simp [World.cell?, hb1]
  have HN := Aside0.mk hb1
  clear hb hn hb1
  rw [hB]
  have HBB := Aside0.mk hB
  clear hB
  by_cases k4 : t = 0
  · have h := H.out
    rw [if_pos k4] at h
    have HR := Aside0.mk (Option.some.inj h)
    have n4 : (t != 0) = false := bne_eq_false_iff_eq.mpr k4
    clear h H k4
    cases d0 : (a0_2 == 0) with
    | true =>
      have hr := HR.out
      rw [if_pos (eq_of_beq d0)] at hr
      obtain ⟨rfl, rfl⟩ := Prod.mk.inj hr
      clear HR hr
      go_wp2_with fail
      go_ret2
      exact ⟨rfl, by repeat (first | exact HB.out | apply below_alloc)⟩
    | false =>
      have hr := HR.out
      rw [if_neg (by simpa using d0)] at hr
      obtain ⟨rfl, rfl⟩ := Prod.mk.inj hr
      clear HR hr
      go_wp2_with fail
      obtain ⟨wb, hwb⟩ : ∃ x, w1.alloc (.cells #[.int .i64 a0_0, .int .i64 a0_1, .int .i64 a0_2, .int .i64 a0_3] 48) = x := ⟨_, rfl⟩
      have hcar := Car.new w1 a0_0 a0_1 a0_2 a0_3
      have hbb := (Below.heap_alloc w1 (.cells #[.int .i64 a0_0, .int .i64 a0_1, .int .i64 a0_2, .int .i64 a0_3] 48) B hlt).trans HN.out
      have hbel := below_alloc HB.out (.cells #[.int .i64 a0_0, .int .i64 a0_1, .int .i64 a0_2, .int .i64 a0_3] 48)
      rw [hwb] at hcar hbb hbel ⊢
      have e0 : wb.cell? ⟨B, 0, none⟩ = some (.int .i64 a0_0) := by simp [World.cell?, hbb]
      have e2 : wb.cell? ⟨B, 2, none⟩ = some (.int .i64 a0_2) := by simp [World.cell?, hbb]
      have HC := Aside0.mk hcar
      have HBL := Aside0.mk hbel
      clear c0 c1 c2 c3 hcar hbb hbel hwb HN
      go_quiet (first | (go_at_call 47; exact way_q _ a0_0 a0_1 a0_2 a0_3 _ _ HC.out) | (go_at_call 38; exact tri_q _ _ _))
      go_wp2_with fail
      go_ret2
      exact ⟨rfl, by repeat (first | exact HBL.out | apply below_alloc | apply pw_below_drewN)⟩
  · have h := H.out
    rw [if_neg k4] at h
    obtain ⟨rfl, rfl⟩ := Prod.mk.inj (Option.some.inj h)
    have n4 : (t != 0) = true := bne_iff_ne.mpr k4
    clear h H k4
    go_wp2_with fail
    go_ret2
    exact ⟨rfl, by repeat (first | exact HB.out | apply below_alloc)⟩

end Go.Proofs.Ytocbjclflabmcaa.S
