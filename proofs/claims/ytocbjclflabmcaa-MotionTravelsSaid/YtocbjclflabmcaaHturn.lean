/- motion.Turn, walked: a motion with another goal. -/
import Derived.Test.YtocbjclflabmcaaHruns
import Derived.Test.YtocbjclflabmcaaHnearest
namespace Go.Proofs.Ytocbjclflabmcaa.S
open Go.RowKit Go.Proofs.YtocbjclflabmcaaW.PrintWords Go.Proofs.YtocbjclflabmcaaW.PrintLast Go.Proofs.YtocbjclflabmcaaW.PrintMore
set_option linter.unusedVariables false
set_option linter.unusedSimpArgs false

def motion_Turn.f (p g s m goal : Int) : Option (Int × Int × Int × Int × Int) :=
  (motion_Nearest.f p g s m).bind fun t => if t.2 = 0 then (motion_place.f goal).map fun b =>
      if b = false then (0, 0, 0, 0, 2) else if 0 < s ∧ wrap64 (wayV p g * wrap64 (goal - t.1)) < 0 then (0, 0, 0, 0, 9) else (p, goal, if goal = p then 0 else s, m, 0)
    else some (0, 0, 0, 0, t.2)

theorem place_any (n : Int) (r : Bool) (h : motion_place.f n = some r) (w : World) : Calls Try.prog 36 #[.int .i64 n] w fun e w' => e = .returned (.bool r) ∧ Drawn0 w w' := motion_place.calls n r w h

theorem Mot.set1 {w : World} {B : Nat} {p g s m : Int} (h : Mot w B p g s m) (u : Int) : Mot (w.setCell ⟨B, 1, none⟩ (.int .i64 u)) B p u s m := by
  unfold Mot at h ⊢
  obtain ⟨hl, he⟩ := Array.getElem?_eq_some_iff.1 h
  simp [World.setCell, hl, Array.getElem_modify, he]
theorem Mot.set2 {w : World} {B : Nat} {p g s m : Int} (h : Mot w B p g s m) (u : Int) : Mot (w.setCell ⟨B, 2, none⟩ (.int .i64 u)) B p g u m := by
  unfold Mot at h ⊢
  obtain ⟨hl, he⟩ := Array.getElem?_eq_some_iff.1 h
  simp [World.setCell, hl, Array.getElem_modify, he]

set_option maxHeartbeats 4000000 in
set_option maxRecDepth 100000 in
theorem motion_Turn.calls (a0_0 a0_1 a0_2 a0_3 a1 : Int) (r1 r2 r3 r4 r5 : Int) (w : World) (h : motion_Turn.f a0_0 a0_1 a0_2 a0_3 a1 = some (r1, r2, r3, r4, r5)) :
    Calls Try.prog 27 #[.agg #[.int .i64 a0_0, .int .i64 a0_1, .int .i64 a0_2, .int .i64 a0_3], .int .i64 a1] w fun e w' => e = .returned (.tuple #[.agg #[.int .i64 r1, .int .i64 r2, .int .i64 r3, .int .i64 r4], .int .i64 r5]) ∧ Below w.heap.size w w' := by
  have hu := Try.underlying48
  have hu23 := Try.underlying23
  obtain ⟨⟨t1, t2⟩, ht, hr⟩ := Option.bind_eq_some_iff.1 h
  dsimp only at hr
  have HT := Aside0.mk ht
  have HR := Aside0.mk hr
  clear h ht hr
  go_enter Try.func27, Try.ntmps27
  go_wp2_with fail
  refine (motion_Nearest.calls a0_0 a0_1 a0_2 a0_3 t1 t2 _ HT.out).mono ?_
  rintro e0 w1 ⟨rfl, hb⟩
  have hm0 := (Mot.new w a0_0 a0_1 a0_2 a0_3).alloc (.cells #[.int .i64 0, .int .i64 0, .int .i64 0, .int .i64 0] 23)
  have hn := Mot.new (w.alloc (.cells #[.int .i64 a0_0, .int .i64 a0_1, .int .i64 a0_2, .int .i64 a0_3] 23)) 0 0 0 0
  rw [World.size_alloc] at hn
  have hM0 := hm0.below hb (by simp; omega)
  have hM := hn.below hb (by simp)
  have HB := Aside0.mk ((((Below.refl _ w).alloc (Nat.le_refl _) (.cells #[.int .i64 a0_0, .int .i64 a0_1, .int .i64 a0_2, .int .i64 a0_3] 23)).alloc (by simp) (.cells #[.int .i64 0, .int .i64 0, .int .i64 0, .int .i64 0] 23)).trans (hb.mono (by simp; omega)))
  have hsz : w.heap.size + 1 + 1 ≤ w1.heap.size := by have := hb.size; simp at this; omega
  have HM0 := Aside0.mk hM0
  have HM := Aside0.mk hM
  have k0 := hM0.c0
  have k1 := hM0.c1
  have k2 := hM0.c2
  have k3 := hM0.c3
  clear hm0 hn hM0 hM hb
  by_cases h0 : t2 = 0
  · subst h0
    have hr := HR.out
    rw [if_pos rfl] at hr
    obtain ⟨b, hb, hr⟩ := Option.map_eq_some_iff.1 hr
    have HPL := Aside0.mk hb
    have HR2 := Aside0.mk hr
    clear hr hb HR
    go_upto_block 0 with (fail)
    obtain ⟨w2, hw2⟩ : ∃ x, w1.alloc (.cells #[.int .i64 a0_0, .int .i64 a0_1, .int .i64 a0_2, .int .i64 a0_3] 48) = x := ⟨_, rfl⟩
    have hC2 : Car w2 w1.heap.size a0_0 a0_1 a0_2 a0_3 := by rw [← hw2]; exact Car.new w1 _ _ _ _
    have hM20 : Mot w2 w.heap.size a0_0 a0_1 a0_2 a0_3 := by rw [← hw2]; exact HM0.out.alloc _
    have hM2 : Mot w2 (w.heap.size + 1) 0 0 0 0 := by rw [← hw2]; exact HM.out.alloc _
    have HB2 := Aside0.mk (show Below w.heap.size w w2 by rw [← hw2]; exact HB.out.alloc (by omega) _)
    rw [hw2]
    have HC2 := Aside0.mk hC2
    have HM20 := Aside0.mk hM20
    have HM2 := Aside0.mk hM2
    clear hw2 hC2 hM20 hM2 k0 k1 k2 k3 HB HM HM0
    go_wp2_with fail
    refine (place_any a1 b HPL.out _).mono ?_
    rintro e0 w3 ⟨rfl, ⟨n3, rfl⟩⟩
    have k0 := HM20.out.c0
    have k1 := HM20.out.c1
    have k2 := HM20.out.c2
    have k3 := HM20.out.c3
    have kf1 := HM20.out.fr 1
    have kf2 := HM20.out.fr 2
    have c0 := HM2.out.c0
    have c1 := HM2.out.c1
    have c2 := HM2.out.c2
    have c3 := HM2.out.c3
    have f0 := HM2.out.fr 0
    have f1 := HM2.out.fr 1
    have f2 := HM2.out.fr 2
    have f3 := HM2.out.fr 3
    cases b with
    | false =>
      have hr := HR2.out
      rw [if_pos rfl] at hr
      simp only [Prod.mk.injEq] at hr
      obtain ⟨rfl, rfl, rfl, rfl, rfl⟩ := hr
      clear HR2
      go_wp2_with fail
      refine bodyPost_ret (v := .tuple #[.agg #[.int .i64 0, .int .i64 0, .int .i64 0, .int .i64 0], .int .i64 2]) (mot_resAt ((HM2.out.drewN n3).set4 0 0 0 0) (.int .i64 2) 4 5 _ rfl _ rfl rfl) rfl ⟨rfl, ?_⟩
      exact below_set4 (pw_below_drewN HB2.out _) (by omega) _ _ _ _
    | true =>
      have hr := HR2.out
      rw [if_neg (by decide)] at hr
      have HR3 := Aside0.mk hr
      clear hr HR2
      cases d1 : decide (0 < a0_2) with
      | true =>
        cases d2 : decide (wrap64 (wayV a0_0 a0_1 * wrap64 (a1 - t1)) < 0) with
        | true =>
          have hr := HR3.out
          rw [if_pos ⟨of_decide_eq_true d1, of_decide_eq_true d2⟩] at hr
          simp only [Prod.mk.injEq] at hr
          obtain ⟨rfl, rfl, rfl, rfl, rfl⟩ := hr
          clear HR3
          go_wp2_with fail
          refine (way_any _ a0_0 a0_1 a0_2 a0_3 _ (HC2.out.drewN n3)).mono ?_
          rintro e0 w4 ⟨rfl, ⟨n4, rfl⟩⟩
          go_wp2_with fail
          refine bodyPost_ret (v := .tuple #[.agg #[.int .i64 0, .int .i64 0, .int .i64 0, .int .i64 0], .int .i64 9]) (mot_resAt ((HM2.out.drewN _).set4 0 0 0 0) (.int .i64 9) 4 5 _ rfl _ rfl rfl) rfl ⟨rfl, ?_⟩
          exact below_set4 (pw_below_drewN HB2.out _) (by omega) _ _ _ _
        | false =>
          have hr := HR3.out
          rw [if_neg (fun h => of_decide_eq_false d2 h.2)] at hr
          have HR4 := Aside0.mk hr
          clear hr HR3
          cases d3 : (a1 == a0_0) with
          | true =>
            have hr := HR4.out
            rw [if_pos (eq_of_beq d3)] at hr
            simp only [Prod.mk.injEq] at hr
            obtain ⟨rfl, rfl, rfl, rfl, rfl⟩ := hr
            clear HR4
            go_wp2_with fail
            refine (way_any _ _ _ _ _ _ (HC2.out.drewN n3)).mono ?_
            rintro e0 w4 ⟨rfl, ⟨n4, rfl⟩⟩
            go_wp2_with fail
            refine bodyPost_ret (v := .tuple #[.agg #[.int .i64 a0_0, .int .i64 a1, .int .i64 0, .int .i64 a0_3], .int .i64 0]) (mot_resAt ((((HM2.out.drewN _).far _ _ (by simp)).far _ _ (by simp)).set4 a0_0 a1 0 a0_3) (.int .i64 0) 4 5 _ rfl _ rfl rfl) rfl ⟨rfl, ?_⟩
            exact below_set4 (((pw_below_drewN HB2.out _).setCell (p := ⟨w.heap.size, 1, none⟩) (Nat.le_refl _) _).setCell (p := ⟨w.heap.size, 2, none⟩) (Nat.le_refl _) _) (by omega) _ _ _ _
          | false =>
            have hr := HR4.out
            rw [if_neg (by simpa using d3)] at hr
            simp only [Prod.mk.injEq] at hr
            obtain ⟨rfl, rfl, rfl, rfl, rfl⟩ := hr
            clear HR4
            go_wp2_with fail
            refine (way_any _ _ _ _ _ _ (HC2.out.drewN n3)).mono ?_
            rintro e0 w4 ⟨rfl, ⟨n4, rfl⟩⟩
            go_wp2_with fail
            refine bodyPost_ret (v := .tuple #[.agg #[.int .i64 a0_0, .int .i64 a1, .int .i64 a0_2, .int .i64 a0_3], .int .i64 0]) (mot_resAt (((HM2.out.drewN _).far _ _ (by simp)).set4 a0_0 a1 a0_2 a0_3) (.int .i64 0) 4 5 _ rfl _ rfl rfl) rfl ⟨rfl, ?_⟩
            exact below_set4 ((pw_below_drewN HB2.out _).setCell (p := ⟨w.heap.size, 1, none⟩) (Nat.le_refl _) _) (by omega) _ _ _ _
      | false =>
        have hr := HR3.out
        rw [if_neg (fun h => of_decide_eq_false d1 h.1)] at hr
        have HR4 := Aside0.mk hr
        clear hr HR3
        cases d3 : (a1 == a0_0) with
        | true =>
          have hr := HR4.out
          rw [if_pos (eq_of_beq d3)] at hr
          simp only [Prod.mk.injEq] at hr
          obtain ⟨rfl, rfl, rfl, rfl, rfl⟩ := hr
          clear HR4
          go_wp2_with fail
          refine bodyPost_ret (v := .tuple #[.agg #[.int .i64 a0_0, .int .i64 a1, .int .i64 0, .int .i64 a0_3], .int .i64 0]) (mot_resAt ((((HM2.out.drewN _).far _ _ (by simp)).far _ _ (by simp)).set4 a0_0 a1 0 a0_3) (.int .i64 0) 4 5 _ rfl _ rfl rfl) rfl ⟨rfl, ?_⟩
          exact below_set4 (((pw_below_drewN HB2.out _).setCell (p := ⟨w.heap.size, 1, none⟩) (Nat.le_refl _) _).setCell (p := ⟨w.heap.size, 2, none⟩) (Nat.le_refl _) _) (by omega) _ _ _ _
        | false =>
          have hr := HR4.out
          rw [if_neg (by simpa using d3)] at hr
          simp only [Prod.mk.injEq] at hr
          obtain ⟨rfl, rfl, rfl, rfl, rfl⟩ := hr
          clear HR4
          go_wp2_with fail
          refine bodyPost_ret (v := .tuple #[.agg #[.int .i64 a0_0, .int .i64 a1, .int .i64 a0_2, .int .i64 a0_3], .int .i64 0]) (mot_resAt (((HM2.out.drewN _).far _ _ (by simp)).set4 a0_0 a1 a0_2 a0_3) (.int .i64 0) 4 5 _ rfl _ rfl rfl) rfl ⟨rfl, ?_⟩
          exact below_set4 ((pw_below_drewN HB2.out _).setCell (p := ⟨w.heap.size, 1, none⟩) (Nat.le_refl _) _) (by omega) _ _ _ _
  · have n4 : (t2 != 0) = true := bne_iff_ne.mpr h0
    have hr := HR.out
    rw [if_neg h0] at hr
    simp only [Option.some.injEq, Prod.mk.injEq] at hr
    obtain ⟨rfl, rfl, rfl, rfl, rfl⟩ := hr
    clear h0 HR k0 k1 k2 k3
    have c0 := HM.out.c0
    have c1 := HM.out.c1
    have c2 := HM.out.c2
    have c3 := HM.out.c3
    have f0 := HM.out.fr 0
    have f1 := HM.out.fr 1
    have f2 := HM.out.fr 2
    have f3 := HM.out.fr 3
    go_wp2_with fail
    refine bodyPost_ret (v := .tuple #[.agg #[.int .i64 0, .int .i64 0, .int .i64 0, .int .i64 0], .int .i64 t2]) (mot_resAt (HM.out.set4 0 0 0 0) (.int .i64 t2) 4 5 _ rfl _ rfl rfl) rfl ⟨rfl, ?_⟩
    exact below_set4 HB.out (by omega) _ _ _ _

end Go.Proofs.Ytocbjclflabmcaa.S
