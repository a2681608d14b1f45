/- motion.Check, walked. -/
import Derived.Test.YtocbjclflabmcaaHcar
import Derived.Test.YtocbjclflabmcaaS2
namespace Go.Proofs.Ytocbjclflabmcaa.S
open Go.RowKit Go.Proofs.YtocbjclflabmcaaW.PrintWords Go.Proofs.YtocbjclflabmcaaW.PrintLast Go.Proofs.YtocbjclflabmcaaW.PrintMore
set_option linter.unusedVariables false
set_option linter.unusedSimpArgs false

def triV (v : Int) : Int := wrap64 (Int.tdiv (wrap64 (v * (wrap64 (v + 1)))) 2)
theorem tri_any (v : Int) (w : World) : Calls Try.prog 38 #[.int .i64 v] w fun e w' => e = .returned (.int .i64 (triV v)) ∧ Drawn0 w w' := motion_tri.calls v _ w rfl
theorem tri_q (v : Int) (w : World) (n : Nat) : Calls Try.prog 38 #[.int .i64 v] (w.drewN n) fun e w'' => e = .returned (.int .i64 (triV v)) ∧ ∃ k, w'' = w.drewN k :=
  Calls.quiet_of ((tri_any v _).mono fun _ _ ⟨he, hd⟩ => ⟨he, hd.out⟩)
def motion_Check.f (p g s m : Int) : Option Int :=
  (motion_Start.f p g m).bind fun t => if t.2.2.2.2 = 0 then some (if s < 0 then 2 else if m < s then 2 else if 0 < s then (if restV p g = 0 then 3 else if restV p g < triV (wrap64 (s - 1)) then 3 else 0) else 0) else some t.2.2.2.2

set_option maxHeartbeats 4000000 in
set_option maxRecDepth 100000 in
theorem motion_Check.calls (a0_0 a0_1 a0_2 a0_3 : Int) (r : Int) (w : World) (h : motion_Check.f a0_0 a0_1 a0_2 a0_3 = some r) :
    Calls Try.prog 11 #[.agg #[.int .i64 a0_0, .int .i64 a0_1, .int .i64 a0_2, .int .i64 a0_3]] w fun e w' => e = .returned (.int .i64 r) ∧ Below w.heap.size w w' := by
  have hu := Try.underlying48
  have hu23 := Try.underlying23
  obtain ⟨⟨t0, t1, t2, t3, t4⟩, ht, h⟩ := Option.bind_eq_some_iff.1 h
  have HT := Aside0.mk ht
  have H := Aside0.mk h
  clear ht h
  go_enter Try.func11, Try.ntmps11
  go_wp2_with fail
  refine (motion_Start.calls a0_0 a0_1 a0_3 t0 t1 t2 t3 t4 _ HT.out).mono ?_
  rintro e w1 ⟨rfl, hb⟩
  have hn := heap_alloc_new w (.cells #[.int .i64 a0_0, .int .i64 a0_1, .int .i64 a0_2, .int .i64 a0_3] 23)
  have hb1 : w1.heap[w.heap.size]? = some (.cells #[.int .i64 a0_0, .int .i64 a0_1, .int .i64 a0_2, .int .i64 a0_3] 23 (0, 0)) := (hb.block _ (by rw [World.size_alloc]; omega)).trans hn
  have hlt : w.heap.size < w1.heap.size := (Array.getElem?_eq_some_iff.1 hb1).1
  have HB := Aside0.mk ((below_alloc (Below.refl w.heap.size w) (.cells #[.int .i64 a0_0, .int .i64 a0_1, .int .i64 a0_2, .int .i64 a0_3] 23)).trans (hb.mono (by rw [World.size_alloc]; omega)))
  obtain ⟨B, hB⟩ : ∃ B, w.heap.size = B := ⟨_, rfl⟩
  rw [hB] at hb1 hlt
  have HBB := Aside0.mk hB
  have c0 : w1.cell? ⟨B, 0, none⟩ = some (.int .i64 a0_0) := by simp [World.cell?, hb1]
  have c1 : w1.cell? ⟨B, 1, none⟩ = some (.int .i64 a0_1) := by simp [World.cell?, hb1]
  have c2 : w1.cell? ⟨B, 2, none⟩ = some (.int .i64 a0_2) := by simp [World.cell?, hb1]
  have c3 : w1.cell? ⟨B, 3, none⟩ = some (.int .i64 a0_3) := by simp [World.cell?, hb1]
  have HN := Aside0.mk hb1
  clear hb hn hb1
  rw [hB]
  clear hB
  by_cases k4 : t4 = 0
  · have h := H.out
    rw [if_pos k4] at h
    have HR := Aside0.mk (Option.some.inj h)
    have n4 : (t4 != 0) = false := bne_eq_false_iff_eq.mpr k4
    clear h H k4
    cases d0 : decide (a0_2 < 0) with
    | true =>
      have hr := HR.out
      rw [if_pos (of_decide_eq_true d0)] at hr
      subst hr
      clear HR
      go_wp2_with fail
      go_ret
      exact ⟨rfl, by repeat (first | exact HB.out | apply below_alloc)⟩
    | false =>
      cases d1 : decide (a0_3 < a0_2) with
      | true =>
        have hr := HR.out
        rw [if_neg (of_decide_eq_false d0), if_pos (of_decide_eq_true d1)] at hr
        subst hr
        clear HR
        go_wp2_with fail
        go_ret
        exact ⟨rfl, by repeat (first | exact HB.out | apply below_alloc)⟩
      | false =>
        have hr := HR.out
        rw [if_neg (of_decide_eq_false d0), if_neg (of_decide_eq_false d1)] at hr
        have HR2 := Aside0.mk hr
        clear hr HR
        cases d2 : decide (0 < a0_2) with
        | false =>
          have hr := HR2.out
          rw [if_neg (of_decide_eq_false d2)] at hr
          subst hr
          clear HR2
          go_wp2_with fail
          go_ret
          exact ⟨rfl, by repeat (first | exact HB.out | apply below_alloc)⟩
        | true =>
          have hr := HR2.out
          rw [if_pos (of_decide_eq_true d2)] at hr
          have HR3 := Aside0.mk hr
          clear hr HR2
          go_wp2_with fail
          obtain ⟨wa, hwa⟩ : ∃ x, w1.alloc (.cells #[.int .i64 t0, .int .i64 t1, .int .i64 t2, .int .i64 t3] 23) = x := ⟨_, rfl⟩
          have hsa : wa.heap.size = w1.heap.size + 1 := by rw [← hwa, World.size_alloc]
          have hba := Below.heap_alloc w1 (.cells #[.int .i64 t0, .int .i64 t1, .int .i64 t2, .int .i64 t3] 23) B hlt
          rw [hwa] at hba ⊢
          have hcar := Car.new wa a0_0 a0_1 a0_2 a0_3
          have hbb := Below.heap_alloc wa (.cells #[.int .i64 a0_0, .int .i64 a0_1, .int .i64 a0_2, .int .i64 a0_3] 48) B (by omega)
          have hbel : Below w.heap.size w (wa.alloc (.cells #[.int .i64 a0_0, .int .i64 a0_1, .int .i64 a0_2, .int .i64 a0_3] 48)) := by rw [← hwa]; repeat (first | exact HB.out | apply below_alloc)
          obtain ⟨wb, hwb⟩ : ∃ x, wa.alloc (.cells #[.int .i64 a0_0, .int .i64 a0_1, .int .i64 a0_2, .int .i64 a0_3] 48) = x := ⟨_, rfl⟩
          rw [hwb] at hcar hbb hbel ⊢
          rw [hsa] at hcar
          have hB2 := (hbb.trans (hba.trans HN.out))
          have HC := Aside0.mk hcar
          have HN2 := Aside0.mk hB2
          have HBL := Aside0.mk hbel
          clear c0 c1 c2 c3 hba hbb hwa hwb hsa hcar hB2 hbel HN
          refine (rest_any _ _ _ _ _ _ HC.out).mono ?_
          rintro e w2 ⟨rfl, hd2⟩
          have HC2 := Aside0.mk (HC.out.below hd2.below HC.out.lt)
          have hN3 := (hd2.below.block B (by have := (Array.getElem?_eq_some_iff.1 HN2.out).1; exact this)).trans HN2.out
          have c2 : w2.cell? ⟨B, 2, none⟩ = some (.int .i64 a0_2) := by simp [World.cell?, hN3]
          have HBL2 := Aside0.mk (HBL.out.trans (hd2.below.mono HBL.out.size))
          clear hN3 hd2
          cases d3 : (restV a0_0 a0_1 == 0) with
          | true =>
            have hr := HR3.out
            rw [if_pos (eq_of_beq d3)] at hr
            subst hr
            clear HR3
            go_wp2_with fail
            go_ret
            exact ⟨rfl, by repeat (first | exact HBL2.out | apply below_alloc | apply pw_below_drewN)⟩
          | false =>
            have hr := HR3.out
            rw [if_neg (by simpa using d3)] at hr
            have HR4 := Aside0.mk hr
            clear hr HR3
            go_wp2_with fail
            refine (tri_any _ _).mono ?_
            rintro e w3 ⟨rfl, hd3⟩
            have HC3 := Aside0.mk (HC2.out.below hd3.below HC2.out.lt)
            have HBL3 := Aside0.mk (HBL2.out.trans (hd3.below.mono HBL2.out.size))
            clear hd3 c2
            go_wp2_with fail
            refine (rest_any _ _ _ _ _ _ HC3.out).mono ?_
            rintro e w4 ⟨rfl, hd4⟩
            have HBL4 := Aside0.mk (HBL3.out.trans (hd4.below.mono HBL3.out.size))
            clear hd4
            cases d5 : decide (restV a0_0 a0_1 < triV (wrap64 (a0_2 - 1))) with
            | true =>
              have hr := HR4.out
              rw [if_pos (of_decide_eq_true d5)] at hr
              subst hr
              clear HR4
              go_wp2_with fail
              go_ret
              exact ⟨rfl, by repeat (first | exact HBL4.out | apply below_alloc | apply pw_below_drewN)⟩
            | false =>
              have hr := HR4.out
              rw [if_neg (of_decide_eq_false d5)] at hr
              subst hr
              clear HR4
              go_wp2_with fail
              go_ret
              exact ⟨rfl, by repeat (first | exact HBL4.out | apply below_alloc | apply pw_below_drewN)⟩
  · have h := H.out
    rw [if_neg k4] at h
    obtain rfl := Option.some.inj h
    have n4 : (t4 != 0) = true := bne_iff_ne.mpr k4
    clear h H k4
    go_wp2_with fail
    go_ret
    exact ⟨rfl, below_alloc HB.out _⟩

end Go.Proofs.Ytocbjclflabmcaa.S
