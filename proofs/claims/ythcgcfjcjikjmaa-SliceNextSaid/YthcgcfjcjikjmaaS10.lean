-- PRINTED by print.py (a twelfth state) out of the translation. Not trusted: Lean checks it.
import Derived.Test.YthcgcfjcjikjmaaS0
import Derived.Test.YthcgcfjcjikjmaaS1
import Derived.Test.YthcgcfjcjikjmaaS3
import Derived.Test.YthcgcfjcjikjmaaS5
import Derived.Test.YthcgcfjcjikjmaaS7
import Derived.Test.YthcgcfjcjikjmaaS8
import Derived.Test.YthcgcfjcjikjmaaS9
import Derived.Test.YthcgcfjcjikjmaaHcars
import Derived.Test.YthcgcfjcjikjmaaHnext
namespace Go.Proofs.Ythcgcfjcjikjmaa.S
open Go.RowKit Go.Proofs.YthcgcfjcjikjmaaW.PrintWords Go.Proofs.YthcgcfjcjikjmaaW.PrintLast Go.Proofs.YthcgcfjcjikjmaaW.PrintMore
attribute [local go_sem] Go.Proofs.YthcgcfjcjikjmaaW.PrintXtra.isSome_setCell max2_int min2_int max_two min_two max_three min_three max_four min_four   -- for this text's walks alone
set_option linter.unusedVariables false
set_option linter.unusedSimpArgs false

/-! ### tipstafflaw25_SliceFinds: function 4 -/
mutual
def tipstafflaw25_SliceFinds.j0 : Nat → List (List Int) → Int → Int → Int → Int → List (List Int) → Bool → Option (Bool)
  | 0, _, _, _, _, _, _, _ => none
  | k + 1, x0, x1, x2, x3, x4, x11, x49 => if x49 = true then (none) else ((slice_Slots.f k x11 x2 x4).bind fun bt309 => ((tipstaffref25_Slots.f k x0 x2 x4).bind fun bt313 => ((tipstaffkit_SameInts.f k bt309.1 bt313.1).bind fun t317 => (if t317 = true then (tipstafflaw25_SliceFinds.j1 k x0 x1 x2 x3 x4 x11 (bt309.2 != bt313.2)) else (tipstafflaw25_SliceFinds.j1 k x0 x1 x2 x3 x4 x11 true)))))
def tipstafflaw25_SliceFinds.j1 : Nat → List (List Int) → Int → Int → Int → Int → List (List Int) → Bool → Option (Bool)
  | 0, _, _, _, _, _, _, _ => none
  | k + 1, x0, x1, x2, x3, x4, x11, x72 => if x72 = true then (none) else ((slice_Next.f k x11 x1 x2 x4 x3).bind fun bt318 => ((tipstaffref25_Next.f k x0 x1 x2 x4 x3).bind fun bt320 => ((slice_Wait.f k x11 x2 x4).bind fun bt322 => ((tipstaffref25_Wait.f k x0 x2 x4).bind fun bt324 => (if bt318.1 = bt320.1 then (if bt318.2 = bt320.2 then (if bt322.1 = bt324.1 then (if bt322.2 = bt324.2 then ((tipstafflaw25_same.f k x11 x0).bind fun t326 => (if t326 = true then ((tipstafflaw25_awake.f k).bind fun t327 => (some t327)) else (none))) else (none)) else (none)) else (none)) else (none))))))
end
def tipstafflaw25_SliceFinds.f (k : Nat) (l0 : List (List Int)) (a1 : Int) (a2 : Int) (a3 : Int) (a4 : Int) : Option (Bool) := (tipstafflaw25_large.f k l0).bind fun t295 => (if t295 = true then ((tipstafflaw25_awake.f k).bind fun t296 => (some t296)) else ((tipstafflaw25_own.f k l0).bind fun t297 => ((slice_Cars.f k t297 a3 a4).bind fun bt300 => ((tipstaffref25_Cars.f k l0 a3 a4).bind fun bt304 => ((tipstaffkit_SameInts.f k bt300.1 bt304.1).bind fun t308 => (if t308 = true then (tipstafflaw25_SliceFinds.j0 k l0 a1 a2 a3 a4 t297 (bt300.2 != bt304.2)) else (tipstafflaw25_SliceFinds.j0 k l0 a1 a2 a3 a4 t297 true)))))))
theorem tipstafflaw25_SliceFinds.mono_l : ∀ k, (∀ y0 y1 y2 y3 y4 y5 y6, LeO (tipstafflaw25_SliceFinds.j0 k y0 y1 y2 y3 y4 y5 y6) (tipstafflaw25_SliceFinds.j0 (k + 1) y0 y1 y2 y3 y4 y5 y6)) ∧ (∀ y0 y1 y2 y3 y4 y5 y6, LeO (tipstafflaw25_SliceFinds.j1 k y0 y1 y2 y3 y4 y5 y6) (tipstafflaw25_SliceFinds.j1 (k + 1) y0 y1 y2 y3 y4 y5 y6))
  | 0 => ⟨fun _ _ _ _ _ _ _ r h => by simp [tipstafflaw25_SliceFinds.j0] at h, fun _ _ _ _ _ _ _ r h => by simp [tipstafflaw25_SliceFinds.j1] at h⟩
  | k + 1 => by
    obtain ⟨ih0, ih1⟩ := tipstafflaw25_SliceFinds.mono_l k
    refine ⟨?_, ?_⟩
    · intro y0 y1 y2 y3 y4 y5 y6
      unfold tipstafflaw25_SliceFinds.j0
      repeat' first
      | (with_reducible exact ih0 _ _ _ _ _ _ _)
      | (with_reducible exact ih1 _ _ _ _ _ _ _)
      | (with_reducible exact slice_Cars.mono _ _ _ _)
      | (with_reducible exact slice_Next.mono _ _ _ _ _ _)
      | (with_reducible exact slice_Slots.mono _ _ _ _)
      | (with_reducible exact slice_Wait.mono _ _ _ _)
      | (with_reducible exact tipstaffkit_SameInts.mono _ _ _)
      | (with_reducible exact tipstafflaw25_awake.mono _)
      | (with_reducible exact tipstafflaw25_large.mono _ _)
      | (with_reducible exact tipstafflaw25_own.mono _ _)
      | (with_reducible exact tipstafflaw25_same.mono _ _ _)
      | (with_reducible exact tipstaffref25_Cars.mono _ _ _ _)
      | (with_reducible exact tipstaffref25_Next.mono _ _ _ _ _ _)
      | (with_reducible exact tipstaffref25_Slots.mono _ _ _ _)
      | (with_reducible exact tipstaffref25_Wait.mono _ _ _ _)
      | (with_reducible exact LeO.refl _)
      | (with_reducible exact LeO.none _)
      | (with_reducible refine LeO.ite ?_ ?_)
      | (with_reducible refine LeO.bind ?_ (fun _ => ?_))
      | exact ih0 _ _ _ _ _ _ _
      | exact ih1 _ _ _ _ _ _ _
      | exact slice_Cars.mono _ _ _ _
      | exact slice_Next.mono _ _ _ _ _ _
      | exact slice_Slots.mono _ _ _ _
      | exact slice_Wait.mono _ _ _ _
      | exact tipstaffkit_SameInts.mono _ _ _
      | exact tipstafflaw25_awake.mono _
      | exact tipstafflaw25_large.mono _ _
      | exact tipstafflaw25_own.mono _ _
      | exact tipstafflaw25_same.mono _ _ _
      | exact tipstaffref25_Cars.mono _ _ _ _
      | exact tipstaffref25_Next.mono _ _ _ _ _ _
      | exact tipstaffref25_Slots.mono _ _ _ _
      | exact tipstaffref25_Wait.mono _ _ _ _
      | exact LeO.none _
      | refine LeO.ite ?_ ?_
      | refine LeO.bind ?_ (fun _ => ?_)
    · intro y0 y1 y2 y3 y4 y5 y6
      unfold tipstafflaw25_SliceFinds.j1
      repeat' first
      | (with_reducible exact ih0 _ _ _ _ _ _ _)
      | (with_reducible exact ih1 _ _ _ _ _ _ _)
      | (with_reducible exact slice_Cars.mono _ _ _ _)
      | (with_reducible exact slice_Next.mono _ _ _ _ _ _)
      | (with_reducible exact slice_Slots.mono _ _ _ _)
      | (with_reducible exact slice_Wait.mono _ _ _ _)
      | (with_reducible exact tipstaffkit_SameInts.mono _ _ _)
      | (with_reducible exact tipstafflaw25_awake.mono _)
      | (with_reducible exact tipstafflaw25_large.mono _ _)
      | (with_reducible exact tipstafflaw25_own.mono _ _)
      | (with_reducible exact tipstafflaw25_same.mono _ _ _)
      | (with_reducible exact tipstaffref25_Cars.mono _ _ _ _)
      | (with_reducible exact tipstaffref25_Next.mono _ _ _ _ _ _)
      | (with_reducible exact tipstaffref25_Slots.mono _ _ _ _)
      | (with_reducible exact tipstaffref25_Wait.mono _ _ _ _)
      | (with_reducible exact LeO.refl _)
      | (with_reducible exact LeO.none _)
      | (with_reducible refine LeO.ite ?_ ?_)
      | (with_reducible refine LeO.bind ?_ (fun _ => ?_))
      | exact ih0 _ _ _ _ _ _ _
      | exact ih1 _ _ _ _ _ _ _
      | exact slice_Cars.mono _ _ _ _
      | exact slice_Next.mono _ _ _ _ _ _
      | exact slice_Slots.mono _ _ _ _
      | exact slice_Wait.mono _ _ _ _
      | exact tipstaffkit_SameInts.mono _ _ _
      | exact tipstafflaw25_awake.mono _
      | exact tipstafflaw25_large.mono _ _
      | exact tipstafflaw25_own.mono _ _
      | exact tipstafflaw25_same.mono _ _ _
      | exact tipstaffref25_Cars.mono _ _ _ _
      | exact tipstaffref25_Next.mono _ _ _ _ _ _
      | exact tipstaffref25_Slots.mono _ _ _ _
      | exact tipstaffref25_Wait.mono _ _ _ _
      | exact LeO.none _
      | refine LeO.ite ?_ ?_
      | refine LeO.bind ?_ (fun _ => ?_)
theorem tipstafflaw25_SliceFinds.mono : ∀ a0 a1 a2 a3 a4 k, LeO (tipstafflaw25_SliceFinds.f k a0 a1 a2 a3 a4) (tipstafflaw25_SliceFinds.f (k + 1) a0 a1 a2 a3 a4) := by
  intro a0 a1 a2 a3 a4 k
  obtain ⟨ih0, ih1⟩ := tipstafflaw25_SliceFinds.mono_l k
  unfold tipstafflaw25_SliceFinds.f
  repeat' first
      | (with_reducible exact ih0 _ _ _ _ _ _ _)
      | (with_reducible exact ih1 _ _ _ _ _ _ _)
      | (with_reducible exact slice_Cars.mono _ _ _ _)
      | (with_reducible exact slice_Next.mono _ _ _ _ _ _)
      | (with_reducible exact slice_Slots.mono _ _ _ _)
      | (with_reducible exact slice_Wait.mono _ _ _ _)
      | (with_reducible exact tipstaffkit_SameInts.mono _ _ _)
      | (with_reducible exact tipstafflaw25_awake.mono _)
      | (with_reducible exact tipstafflaw25_large.mono _ _)
      | (with_reducible exact tipstafflaw25_own.mono _ _)
      | (with_reducible exact tipstafflaw25_same.mono _ _ _)
      | (with_reducible exact tipstaffref25_Cars.mono _ _ _ _)
      | (with_reducible exact tipstaffref25_Next.mono _ _ _ _ _ _)
      | (with_reducible exact tipstaffref25_Slots.mono _ _ _ _)
      | (with_reducible exact tipstaffref25_Wait.mono _ _ _ _)
      | (with_reducible exact LeO.refl _)
      | (with_reducible exact LeO.none _)
      | (with_reducible refine LeO.ite ?_ ?_)
      | (with_reducible refine LeO.bind ?_ (fun _ => ?_))
      | exact ih0 _ _ _ _ _ _ _
      | exact ih1 _ _ _ _ _ _ _
      | exact slice_Cars.mono _ _ _ _
      | exact slice_Next.mono _ _ _ _ _ _
      | exact slice_Slots.mono _ _ _ _
      | exact slice_Wait.mono _ _ _ _
      | exact tipstaffkit_SameInts.mono _ _ _
      | exact tipstafflaw25_awake.mono _
      | exact tipstafflaw25_large.mono _ _
      | exact tipstafflaw25_own.mono _ _
      | exact tipstafflaw25_same.mono _ _ _
      | exact tipstaffref25_Cars.mono _ _ _ _
      | exact tipstaffref25_Next.mono _ _ _ _ _ _
      | exact tipstaffref25_Slots.mono _ _ _ _
      | exact tipstaffref25_Wait.mono _ _ _ _
      | exact LeO.none _
      | refine LeO.ite ?_ ?_
      | refine LeO.bind ?_ (fun _ => ?_)
set_option maxHeartbeats 8000000 in
set_option maxRecDepth 100000 in
theorem tipstafflaw25_SliceFinds.calls (k : Nat) (A0 : Option Addr) (c0 : Nat) (l0 : List (List Int)) (a1 : Int) (a2 : Int) (a3 : Int) (a4 : Int) (r : Bool) (w : World) (hr0 : Kd.C (Kd.slice 3 (Kd.int .i64)) w A0 l0.length l0) (hc0 : l0.length ≤ c0) (h : tipstafflaw25_SliceFinds.f k l0 a1 a2 a3 a4 = some r) :
    Calls Try.prog 4 #[.slice A0 l0.length c0, .int .i64 a1, .int .i64 a2, .int .i64 a3, .int .i64 a4] w fun e w' => e = .returned (.bool r) ∧ Below w.heap.size w w' := by
  have HR0 := Aside0.mk hr0
  have HC0 := Aside0.mk hc0
  clear hr0 hc0
  have HB := Aside0.mk (Below.refl w.heap.size w)
  have H : ((tipstafflaw25_large.f k l0).bind fun t295 => (if t295 = true then ((tipstafflaw25_awake.f k).bind fun t296 => (some t296)) else ((tipstafflaw25_own.f k l0).bind fun t297 => ((slice_Cars.f k t297 a3 a4).bind fun bt300 => ((tipstaffref25_Cars.f k l0 a3 a4).bind fun bt304 => ((tipstaffkit_SameInts.f k bt300.1 bt304.1).bind fun t308 => (if t308 = true then (tipstafflaw25_SliceFinds.j0 k l0 a1 a2 a3 a4 t297 (bt300.2 != bt304.2)) else (tipstafflaw25_SliceFinds.j0 k l0 a1 a2 a3 a4 t297 true)))))))) = some r := h
  clear h
  replace H := Option.bind_eq_some_iff.mp H
  obtain ⟨t295, A60, H⟩ := H
  replace H : (if t295 = true then ((tipstafflaw25_awake.f k).bind fun t296 => (some t296)) else ((tipstafflaw25_own.f k l0).bind fun t297 => ((slice_Cars.f k t297 a3 a4).bind fun bt300 => ((tipstaffref25_Cars.f k l0 a3 a4).bind fun bt304 => ((tipstaffkit_SameInts.f k bt300.1 bt304.1).bind fun t308 => (if t308 = true then (tipstafflaw25_SliceFinds.j0 k l0 a1 a2 a3 a4 t297 (bt300.2 != bt304.2)) else (tipstafflaw25_SliceFinds.j0 k l0 a1 a2 a3 a4 t297 true))))))) = some r := H
  have A6 := Aside0.mk A60
  clear A60
  by_cases c7 : t295 = true
  · subst c7
    have H1 : ((tipstafflaw25_awake.f k).bind fun t296 => (some t296)) = some r := by rw [if_pos rfl] at H; exact H
    clear H
    have H := H1
    clear H1
    replace H := Option.bind_eq_some_iff.mp H
    obtain ⟨t296, A80, H⟩ := H
    replace H : (some t296) = some r := H
    have A8 := Aside0.mk A80
    clear A80
    obtain rfl := Option.some.inj H
    go_enter Try.func4, Try.ntmps4
    go_wp2_with (first | ((with_reducible refine gate_callee (f := 8) rfl ?_); refine goesL_ (some 23) rfl rfl Try.func8 (by kernel_rfl) rfl #[.slice A0 l0.length c0] rfl (by (try simp only [List.map_toArray, List.map_cons, List.map_nil]); first | done | rfl | (simp only [List.length_drop, List.length_take]; rfl)) ?_; (with_reducible refine (tipstafflaw25_large.calls k _ _ l0 true _ ?side1 ?side2 A6.out).mono ?_); (case side1 => repeat (first | exact HR0.out | (with_reducible refine Kd.C_alloc ?_ _) | (with_reducible refine Kd.C_drewN ?_ _) | (with_reducible refine Kd.C_drew ?_))); (case side2 => exact HC0.out); rintro e w' ⟨rfl, ⟨nd, rfl⟩⟩; refine ⟨_, rfl, ?_⟩) | ((with_reducible refine gate_callee (f := 9) rfl ?_); refine goesL_ (some 24) rfl rfl Try.func9 (by kernel_rfl) rfl #[] rfl (by (try simp only [List.map_toArray, List.map_cons, List.map_nil]); first | done | rfl | (simp only [List.length_drop, List.length_take]; rfl)) ?_; (with_reducible refine (tipstafflaw25_awake.calls k  t296 _ A8.out).mono ?_); rintro e w9 ⟨rfl, hb⟩; refine ⟨_, rfl, ?_⟩; have n0_ := Aside0.mk (below_step (by repeat (first | (with_reducible first | exact HB.out | apply below_alloc | apply pw_below_drewN | apply below_drew1) | exact HB.out)) hb); clear HB; have HB := n0_; clear n0_; (try clear hb); (try clear hb2); (try clear hk); (try clear hi)))
    go_ret
    exact ⟨by first | rfl | (simp [errW_none, errW_some] <;> rfl) | (simp [*, errW_none, errW_some] <;> rfl) | (simp (discharger := omega) only [Int.tdiv_eq_ediv_of_nonneg, Int.tmod_eq_emod_of_nonneg] <;> rfl), by repeat (first | (with_reducible first | exact HB.out | apply below_alloc | apply pw_below_drewN | apply below_drew1) | exact HB.out)⟩
  · replace c7 := Bool.eq_false_iff.mpr c7
    subst c7
    have H1 : ((tipstafflaw25_own.f k l0).bind fun t297 => ((slice_Cars.f k t297 a3 a4).bind fun bt300 => ((tipstaffref25_Cars.f k l0 a3 a4).bind fun bt304 => ((tipstaffkit_SameInts.f k bt300.1 bt304.1).bind fun t308 => (if t308 = true then (tipstafflaw25_SliceFinds.j0 k l0 a1 a2 a3 a4 t297 (bt300.2 != bt304.2)) else (tipstafflaw25_SliceFinds.j0 k l0 a1 a2 a3 a4 t297 true)))))) = some r := by rw [if_neg (show ¬ (false = true) by decide)] at H; exact H
    clear H
    have H := H1
    clear H1
    replace H := Option.bind_eq_some_iff.mp H
    obtain ⟨t297, A100, H⟩ := H
    replace H : ((slice_Cars.f k t297 a3 a4).bind fun bt300 => ((tipstaffref25_Cars.f k l0 a3 a4).bind fun bt304 => ((tipstaffkit_SameInts.f k bt300.1 bt304.1).bind fun t308 => (if t308 = true then (tipstafflaw25_SliceFinds.j0 k l0 a1 a2 a3 a4 t297 (bt300.2 != bt304.2)) else (tipstafflaw25_SliceFinds.j0 k l0 a1 a2 a3 a4 t297 true))))) = some r := H
    have A10 := Aside0.mk A100
    clear A100
    replace H := Option.bind_eq_some_iff.mp H
    obtain ⟨⟨t300, t301⟩, A110, H⟩ := H
    replace H : ((tipstaffref25_Cars.f k l0 a3 a4).bind fun bt304 => ((tipstaffkit_SameInts.f k t300 bt304.1).bind fun t308 => (if t308 = true then (tipstafflaw25_SliceFinds.j0 k l0 a1 a2 a3 a4 t297 (t301 != bt304.2)) else (tipstafflaw25_SliceFinds.j0 k l0 a1 a2 a3 a4 t297 true)))) = some r := H
    have A11 := Aside0.mk A110
    clear A110
    replace H := Option.bind_eq_some_iff.mp H
    obtain ⟨⟨t304, t305⟩, A120, H⟩ := H
    replace H : ((tipstaffkit_SameInts.f k t300 t304).bind fun t308 => (if t308 = true then (tipstafflaw25_SliceFinds.j0 k l0 a1 a2 a3 a4 t297 (t301 != t305)) else (tipstafflaw25_SliceFinds.j0 k l0 a1 a2 a3 a4 t297 true))) = some r := H
    have A12 := Aside0.mk A120
    clear A120
    have HC13 := Aside0.mk H
    clear H
    go_enter Try.func4, Try.ntmps4
    go_upto_region 6 with (first | ((with_reducible refine gate_callee (f := 8) rfl ?_); refine goesL_ (some 23) rfl rfl Try.func8 (by kernel_rfl) rfl #[.slice A0 l0.length c0] rfl (by (try simp only [List.map_toArray, List.map_cons, List.map_nil]); first | done | rfl | (simp only [List.length_drop, List.length_take]; rfl)) ?_; (with_reducible refine (tipstafflaw25_large.calls k _ _ l0 false _ ?side1 ?side2 A6.out).mono ?_); (case side1 => repeat (first | exact HR0.out | (with_reducible refine Kd.C_alloc ?_ _) | (with_reducible refine Kd.C_drewN ?_ _) | (with_reducible refine Kd.C_drew ?_))); (case side2 => exact HC0.out); rintro e w' ⟨rfl, ⟨nd, rfl⟩⟩; refine ⟨_, rfl, ?_⟩) | ((with_reducible refine gate_callee (f := 10) rfl ?_); refine goesL_ (some 26) rfl rfl Try.func10 (by kernel_rfl) rfl #[.slice A0 l0.length c0] rfl (by (try simp only [List.map_toArray, List.map_cons, List.map_nil]); first | done | rfl | (simp only [List.length_drop, List.length_take]; rfl)) ?_; (with_reducible refine (tipstafflaw25_own.calls k _ _ l0 t297 _ ?side1 ?side2 A10.out).mono ?_); (case side1 => repeat (first | exact HR0.out | (with_reducible refine Kd.C_alloc ?_ _) | (with_reducible refine Kd.C_drewN ?_ _) | (with_reducible refine Kd.C_drew ?_))); (case side2 => exact HC0.out); rintro e w14 ⟨v298, rfl, ho0, hb⟩; refine ⟨_, rfl, ?_⟩; have n0_ := Aside0.mk (Kd.S_lower ho0 (below_size (by repeat (first | (with_reducible first | exact HB.out | apply below_alloc | apply pw_below_drewN | apply below_drew1) | exact HB.out)))); have n1_ := Aside0.mk (below_step (by repeat (first | (with_reducible first | exact HB.out | apply below_alloc | apply pw_below_drewN | apply below_drew1) | exact HB.out)) hb); clear HB; have HO299 := n0_; have HB := n1_; clear n0_ n1_; (try clear hb); (try clear hb2); (try clear hk); (try clear hi); (try clear ho0); obtain ⟨Ao15, co15, eo15⟩ := Kd.S_slice HO299.out; subst eo15) | ((with_reducible refine gate_callee (f := 21) rfl ?_); refine goesL_ (some 31) rfl rfl Try.func21 (by kernel_rfl) rfl #[.slice Ao15 t297.length co15, .int .i64 a3, .int .i64 a4] rfl (by (try simp only [List.map_toArray, List.map_cons, List.map_nil]); first | done | rfl | (simp only [List.length_drop, List.length_take]; rfl)) ?_; (with_reducible refine (slice_Cars.calls k _ _ t297 a3 a4 t300 t301 _ ?side1 ?side2 A11.out).mono ?_); (case side1 => repeat (first | exact (Kd.S_reads' HO299.out).2.2 | (with_reducible refine Kd.C_alloc ?_ _) | (with_reducible refine Kd.C_drewN ?_ _) | (with_reducible refine Kd.C_drew ?_))); (case side2 => exact (Kd.S_reads' HO299.out).2.1); rintro e w16 ⟨v302, rfl, ho0, hb⟩; refine ⟨_, rfl, ?_⟩; have n0_ := Aside0.mk (Kd.S_elder' (by (with_reducible repeat (first | apply Kd.S_alloc | apply Kd.S_drewN | apply Kd.S_drew)); exact HO299.out) (Kd.R_base ho0) hb); have n1_ := Aside0.mk (Kd.R_lower ho0 (below_size (by repeat (first | (with_reducible first | exact HB.out | apply below_alloc | apply pw_below_drewN | apply below_drew1) | exact HB.out)))); have n2_ := Aside0.mk (below_step (by repeat (first | (with_reducible first | exact HB.out | apply below_alloc | apply pw_below_drewN | apply below_drew1) | exact HB.out)) hb); clear HO299; clear HB; have HO299 := n0_; have HO303 := n1_; have HB := n2_; clear n0_ n1_ n2_; (try clear hb); (try clear hb2); (try clear hk); (try clear hi); (try clear ho0)) | ((with_reducible refine gate_callee (f := 22) rfl ?_); refine goesL_ (some 38) rfl rfl Try.func22 (by kernel_rfl) rfl #[.slice A0 l0.length c0, .int .i64 a3, .int .i64 a4] rfl (by (try simp only [List.map_toArray, List.map_cons, List.map_nil]); first | done | rfl | (simp only [List.length_drop, List.length_take]; rfl)) ?_; (with_reducible refine (tipstaffref25_Cars.calls k _ _ l0 a3 a4 t304 t305 _ ?side1 ?side2 A12.out).mono ?_); (case side1 => repeat (first | exact (Kd.C_below HR0.out HB.out) | (with_reducible refine Kd.C_alloc ?_ _) | (with_reducible refine Kd.C_drewN ?_ _) | (with_reducible refine Kd.C_drew ?_))); (case side2 => exact HC0.out); rintro e w17 ⟨v306, rfl, ho0, hb⟩; refine ⟨_, rfl, ?_⟩; have n0_ := Aside0.mk (Kd.S_elder' (by (with_reducible repeat (first | apply Kd.S_alloc | apply Kd.S_drewN | apply Kd.S_drew)); exact HO299.out) (Kd.R_base ho0) hb); have n1_ := Aside0.mk (Kd.R_elder' (by (with_reducible repeat (first | apply Kd.R_alloc | apply Kd.R_drewN | apply Kd.R_drew)); exact HO303.out) (Kd.R_base ho0) hb); have n2_ := Aside0.mk (Kd.R_lower (Kd.R_new' ho0 (Kd.R_lt (by (with_reducible repeat (first | apply Kd.R_alloc | apply Kd.R_drewN | apply Kd.R_drew)); exact HO303.out))) (below_size (by repeat (first | (with_reducible first | exact HB.out | apply below_alloc | apply pw_below_drewN | apply below_drew1) | exact HB.out)))); have n3_ := Aside0.mk (below_step (by repeat (first | (with_reducible first | exact HB.out | apply below_alloc | apply pw_below_drewN | apply below_drew1) | exact HB.out)) hb); clear HO299; clear HO303; clear HB; have HO299 := n0_; have HO303 := n1_; have HO307 := n2_; have HB := n3_; clear n0_ n1_ n2_ n3_; (try clear hb); (try clear hb2); (try clear hk); (try clear hi); (try clear ho0)))
    (try simp only [Act.put, List.setIfInBounds_toArray, List.set_cons_zero, List.set_cons_succ])
    go_cut [49] (fun v49 wc => ∃ (kq : Nat) (x49_12 : Bool), v49 = .bool x49_12 ∧ Aside0 (tipstafflaw25_SliceFinds.j0 kq l0 a1 a2 a3 a4 t297 x49_12 = some r) ∧ Aside0 (kq ≤ k) ∧ Aside0 (Kd.S (Kd.slice 3 (Kd.int .i64)) 33 wc w.heap.size (fun _ => True) (.slice Ao15 t297.length co15) t297) ∧ Aside0 (Below w.heap.size w wc))
    case first =>
      have H := HC13.out
      clear HC13
      replace H := Option.bind_eq_some_iff.mp H
      obtain ⟨t308, A180, H⟩ := H
      replace H : (if t308 = true then (tipstafflaw25_SliceFinds.j0 k l0 a1 a2 a3 a4 t297 (t301 != t305)) else (tipstafflaw25_SliceFinds.j0 k l0 a1 a2 a3 a4 t297 true)) = some r := H
      have A18 := Aside0.mk A180
      clear A180
      by_cases c19 : t308 = true
      · subst c19
        have H1 : (tipstafflaw25_SliceFinds.j0 k l0 a1 a2 a3 a4 t297 (t301 != t305)) = some r := by rw [if_pos rfl] at H; exact H
        clear H
        have H := H1
        clear H1
        have H' := Aside0.mk H
        clear H
        obtain ⟨Ao20, co20, eo20⟩ := Kd.R_slice HO303.out
        subst eo20
        obtain ⟨Ao21, co21, eo21⟩ := Kd.R_slice HO307.out
        subst eo21
        go_wp2_with (first | ((with_reducible refine gate_callee (f := 19) rfl ?_); refine goesL_ (some 43) rfl rfl Try.func19 (by kernel_rfl) rfl #[.slice Ao20 t300.length co20, .slice Ao21 t304.length co21] rfl (by (try simp only [List.map_toArray, List.map_cons, List.map_nil]); first | done | rfl | (simp only [List.length_drop, List.length_take]; rfl)) ?_; (with_reducible refine (tipstaffkit_SameInts.calls k _ _ t300 _ _ t304 true _ ?side1 ?side2 ?side3 ?side4 A18.out).mono ?_); (case side1 => repeat (first | exact (Kd.R_reads' HO303.out).2.2 | (with_reducible refine Kd.C_alloc ?_ _) | (with_reducible refine Kd.C_drewN ?_ _) | (with_reducible refine Kd.C_drew ?_))); (case side2 => exact (Kd.R_reads' HO303.out).2.1); (case side3 => repeat (first | exact (Kd.R_reads' HO307.out).2.2 | (with_reducible refine Kd.C_alloc ?_ _) | (with_reducible refine Kd.C_drewN ?_ _) | (with_reducible refine Kd.C_drew ?_))); (case side4 => exact (Kd.R_reads' HO307.out).2.1); rintro e w' ⟨rfl, ⟨nd, rfl⟩⟩; refine ⟨_, rfl, ?_⟩))
        go_meet
        case rel => exact ⟨_, ((t301 != t305)), (by first | rfl | (simp; done) | (simp [*]; done)), H', ⟨by first | omega | exact Nat.le_refl _⟩, ⟨by (with_reducible repeat (first | apply Kd.S_alloc | apply Kd.S_drewN | apply Kd.S_drew)); exact Kd.S_mono HO299.out (fun _ hk => trivial)⟩, ⟨by repeat (first | (with_reducible first | exact HB.out | apply below_alloc | apply pw_below_drewN | apply below_drew1) | exact HB.out)⟩⟩
      · replace c19 := Bool.eq_false_iff.mpr c19
        subst c19
        have H1 : (tipstafflaw25_SliceFinds.j0 k l0 a1 a2 a3 a4 t297 true) = some r := by rw [if_neg (show ¬ (false = true) by decide)] at H; exact H
        clear H
        have H := H1
        clear H1
        have H' := Aside0.mk H
        clear H
        obtain ⟨Ao22, co22, eo22⟩ := Kd.R_slice HO303.out
        subst eo22
        obtain ⟨Ao23, co23, eo23⟩ := Kd.R_slice HO307.out
        subst eo23
        go_wp2_with (first | ((with_reducible refine gate_callee (f := 19) rfl ?_); refine goesL_ (some 43) rfl rfl Try.func19 (by kernel_rfl) rfl #[.slice Ao22 t300.length co22, .slice Ao23 t304.length co23] rfl (by (try simp only [List.map_toArray, List.map_cons, List.map_nil]); first | done | rfl | (simp only [List.length_drop, List.length_take]; rfl)) ?_; (with_reducible refine (tipstaffkit_SameInts.calls k _ _ t300 _ _ t304 false _ ?side1 ?side2 ?side3 ?side4 A18.out).mono ?_); (case side1 => repeat (first | exact (Kd.R_reads' HO303.out).2.2 | (with_reducible refine Kd.C_alloc ?_ _) | (with_reducible refine Kd.C_drewN ?_ _) | (with_reducible refine Kd.C_drew ?_))); (case side2 => exact (Kd.R_reads' HO303.out).2.1); (case side3 => repeat (first | exact (Kd.R_reads' HO307.out).2.2 | (with_reducible refine Kd.C_alloc ?_ _) | (with_reducible refine Kd.C_drewN ?_ _) | (with_reducible refine Kd.C_drew ?_))); (case side4 => exact (Kd.R_reads' HO307.out).2.1); rintro e w' ⟨rfl, ⟨nd, rfl⟩⟩; refine ⟨_, rfl, ?_⟩))
        go_meet
        case rel => exact ⟨_, (true), (by first | rfl | (simp; done) | (simp [*]; done)), H', ⟨by first | omega | exact Nat.le_refl _⟩, ⟨by (with_reducible repeat (first | apply Kd.S_alloc | apply Kd.S_drewN | apply Kd.S_drew)); exact Kd.S_mono HO299.out (fun _ hk => trivial)⟩, ⟨by repeat (first | (with_reducible first | exact HB.out | apply below_alloc | apply pw_below_drewN | apply below_drew1) | exact HB.out)⟩⟩
    case rest =>
      clear HC13
      try clear c1
      try clear c2
      try clear p2
      try clear c4
      try clear c7
      try clear c8
      try clear c9
      try clear c10
      try clear c19
      try clear c21
      try clear c22
      obtain ⟨kq, x49_12, rfl, HA, HJ12, HO_11, HB⟩ := hcut
      cases kq with
      | zero => exact absurd HA.out (by simp [tipstafflaw25_SliceFinds.j0])
      | succ kj12 =>
        have H := HA.out
        clear HA
        simp only [tipstafflaw25_SliceFinds.j0] at H
        by_cases c24 : x49_12 = true
        · subst c24
          have H1 : (none) = some r := by rw [if_pos rfl] at H; exact H
          clear H
          have H := H1
          clear H1
          exact absurd H (by simp)
        · replace c24 := Bool.eq_false_iff.mpr c24
          subst c24
          have H1 : ((slice_Slots.f kj12 t297 a2 a4).bind fun bt309 => ((tipstaffref25_Slots.f kj12 l0 a2 a4).bind fun bt313 => ((tipstaffkit_SameInts.f kj12 bt309.1 bt313.1).bind fun t317 => (if t317 = true then (tipstafflaw25_SliceFinds.j1 kj12 l0 a1 a2 a3 a4 t297 (bt309.2 != bt313.2)) else (tipstafflaw25_SliceFinds.j1 kj12 l0 a1 a2 a3 a4 t297 true))))) = some r := by rw [if_neg (show ¬ (false = true) by decide)] at H; exact H
          clear H
          have H := H1
          clear H1
          replace H := Option.bind_eq_some_iff.mp H
          obtain ⟨⟨t309, t310⟩, A250, H⟩ := H
          replace H : ((tipstaffref25_Slots.f kj12 l0 a2 a4).bind fun bt313 => ((tipstaffkit_SameInts.f kj12 t309 bt313.1).bind fun t317 => (if t317 = true then (tipstafflaw25_SliceFinds.j1 kj12 l0 a1 a2 a3 a4 t297 (t310 != bt313.2)) else (tipstafflaw25_SliceFinds.j1 kj12 l0 a1 a2 a3 a4 t297 true)))) = some r := H
          have A25 := Aside0.mk A250
          clear A250
          replace H := Option.bind_eq_some_iff.mp H
          obtain ⟨⟨t313, t314⟩, A260, H⟩ := H
          replace H : ((tipstaffkit_SameInts.f kj12 t309 t313).bind fun t317 => (if t317 = true then (tipstafflaw25_SliceFinds.j1 kj12 l0 a1 a2 a3 a4 t297 (t310 != t314)) else (tipstafflaw25_SliceFinds.j1 kj12 l0 a1 a2 a3 a4 t297 true))) = some r := H
          have A26 := Aside0.mk A260
          clear A260
          have HC27 := Aside0.mk H
          clear H
          go_upto_region 10 with (first | ((with_reducible refine gate_callee (f := 23) rfl ?_); refine goesL_ (some 54) rfl rfl Try.func23 (by kernel_rfl) rfl #[.slice Ao15 t297.length co15, .int .i64 a2, .int .i64 a4] rfl (by (try simp only [List.map_toArray, List.map_cons, List.map_nil]); first | done | rfl | (simp only [List.length_drop, List.length_take]; rfl)) ?_; (with_reducible refine (slice_Slots.calls kj12 _ _ t297 a2 a4 t309 t310 _ ?side1 ?side2 A25.out).mono ?_); (case side1 => repeat (first | exact (Kd.S_reads' HO_11.out).2.2 | (with_reducible refine Kd.C_alloc ?_ _) | (with_reducible refine Kd.C_drewN ?_ _) | (with_reducible refine Kd.C_drew ?_))); (case side2 => exact (Kd.S_reads' HO_11.out).2.1); rintro e w28 ⟨v311, rfl, ho0, hb⟩; refine ⟨_, rfl, ?_⟩; have n0_ := Aside0.mk (Kd.S_elder' (by (with_reducible repeat (first | apply Kd.S_alloc | apply Kd.S_drewN | apply Kd.S_drew)); exact HO_11.out) (Kd.R_base ho0) hb); have n1_ := Aside0.mk (Kd.R_lower ho0 (below_size (by repeat (first | (with_reducible first | exact HB.out | apply below_alloc | apply pw_below_drewN | apply below_drew1) | exact HB.out)))); have n2_ := Aside0.mk (below_step (by repeat (first | (with_reducible first | exact HB.out | apply below_alloc | apply pw_below_drewN | apply below_drew1) | exact HB.out)) hb); clear HO_11; clear HB; have HO_11 := n0_; have HO312 := n1_; have HB := n2_; clear n0_ n1_ n2_; (try clear hb); (try clear hb2); (try clear hk); (try clear hi); (try clear ho0)) | ((with_reducible refine gate_callee (f := 24) rfl ?_); refine goesL_ (some 61) rfl rfl Try.func24 (by kernel_rfl) rfl #[.slice A0 l0.length c0, .int .i64 a2, .int .i64 a4] rfl (by (try simp only [List.map_toArray, List.map_cons, List.map_nil]); first | done | rfl | (simp only [List.length_drop, List.length_take]; rfl)) ?_; (with_reducible refine (tipstaffref25_Slots.calls kj12 _ _ l0 a2 a4 t313 t314 _ ?side1 ?side2 A26.out).mono ?_); (case side1 => repeat (first | exact (Kd.C_below HR0.out HB.out) | (with_reducible refine Kd.C_alloc ?_ _) | (with_reducible refine Kd.C_drewN ?_ _) | (with_reducible refine Kd.C_drew ?_))); (case side2 => exact HC0.out); rintro e w29 ⟨v315, rfl, ho0, hb⟩; refine ⟨_, rfl, ?_⟩; have n0_ := Aside0.mk (Kd.S_elder' (by (with_reducible repeat (first | apply Kd.S_alloc | apply Kd.S_drewN | apply Kd.S_drew)); exact HO_11.out) (Kd.R_base ho0) hb); have n1_ := Aside0.mk (Kd.R_elder' (by (with_reducible repeat (first | apply Kd.R_alloc | apply Kd.R_drewN | apply Kd.R_drew)); exact HO312.out) (Kd.R_base ho0) hb); have n2_ := Aside0.mk (Kd.R_lower (Kd.R_new' ho0 (Kd.R_lt (by (with_reducible repeat (first | apply Kd.R_alloc | apply Kd.R_drewN | apply Kd.R_drew)); exact HO312.out))) (below_size (by repeat (first | (with_reducible first | exact HB.out | apply below_alloc | apply pw_below_drewN | apply below_drew1) | exact HB.out)))); have n3_ := Aside0.mk (below_step (by repeat (first | (with_reducible first | exact HB.out | apply below_alloc | apply pw_below_drewN | apply below_drew1) | exact HB.out)) hb); clear HO_11; clear HO312; clear HB; have HO_11 := n0_; have HO312 := n1_; have HO316 := n2_; have HB := n3_; clear n0_ n1_ n2_ n3_; (try clear hb); (try clear hb2); (try clear hk); (try clear hi); (try clear ho0)))
          (try simp only [Act.put, List.setIfInBounds_toArray, List.set_cons_zero, List.set_cons_succ])
          go_cut [72] (fun v72 wc => ∃ (kq : Nat) (x72_26 : Bool), v72 = .bool x72_26 ∧ Aside0 (tipstafflaw25_SliceFinds.j1 kq l0 a1 a2 a3 a4 t297 x72_26 = some r) ∧ Aside0 (kq ≤ kj12) ∧ Aside0 (Kd.S (Kd.slice 3 (Kd.int .i64)) 33 wc w.heap.size (fun _ => True) (.slice Ao15 t297.length co15) t297) ∧ Aside0 (Below w.heap.size w wc))
          case first =>
            have H := HC27.out
            clear HC27
            replace H := Option.bind_eq_some_iff.mp H
            obtain ⟨t317, A300, H⟩ := H
            replace H : (if t317 = true then (tipstafflaw25_SliceFinds.j1 kj12 l0 a1 a2 a3 a4 t297 (t310 != t314)) else (tipstafflaw25_SliceFinds.j1 kj12 l0 a1 a2 a3 a4 t297 true)) = some r := H
            have A30 := Aside0.mk A300
            clear A300
            by_cases c31 : t317 = true
            · subst c31
              have H1 : (tipstafflaw25_SliceFinds.j1 kj12 l0 a1 a2 a3 a4 t297 (t310 != t314)) = some r := by rw [if_pos rfl] at H; exact H
              clear H
              have H := H1
              clear H1
              have H' := Aside0.mk H
              clear H
              obtain ⟨Ao32, co32, eo32⟩ := Kd.R_slice HO312.out
              subst eo32
              obtain ⟨Ao33, co33, eo33⟩ := Kd.R_slice HO316.out
              subst eo33
              go_wp2_with (first | ((with_reducible refine gate_callee (f := 19) rfl ?_); refine goesL_ (some 66) rfl rfl Try.func19 (by kernel_rfl) rfl #[.slice Ao32 t309.length co32, .slice Ao33 t313.length co33] rfl (by (try simp only [List.map_toArray, List.map_cons, List.map_nil]); first | done | rfl | (simp only [List.length_drop, List.length_take]; rfl)) ?_; (with_reducible refine (tipstaffkit_SameInts.calls kj12 _ _ t309 _ _ t313 true _ ?side1 ?side2 ?side3 ?side4 A30.out).mono ?_); (case side1 => repeat (first | exact (Kd.R_reads' HO312.out).2.2 | (with_reducible refine Kd.C_alloc ?_ _) | (with_reducible refine Kd.C_drewN ?_ _) | (with_reducible refine Kd.C_drew ?_))); (case side2 => exact (Kd.R_reads' HO312.out).2.1); (case side3 => repeat (first | exact (Kd.R_reads' HO316.out).2.2 | (with_reducible refine Kd.C_alloc ?_ _) | (with_reducible refine Kd.C_drewN ?_ _) | (with_reducible refine Kd.C_drew ?_))); (case side4 => exact (Kd.R_reads' HO316.out).2.1); rintro e w' ⟨rfl, ⟨nd, rfl⟩⟩; refine ⟨_, rfl, ?_⟩))
              go_meet
              case rel => exact ⟨_, ((t310 != t314)), (by first | rfl | (simp; done) | (simp [*]; done)), H', ⟨by have := HJ12.out; first | omega | exact Nat.le_refl _⟩, ⟨by (with_reducible repeat (first | apply Kd.S_alloc | apply Kd.S_drewN | apply Kd.S_drew)); exact Kd.S_mono HO_11.out (fun _ hk => trivial)⟩, ⟨by repeat (first | (with_reducible first | exact HB.out | apply below_alloc | apply pw_below_drewN | apply below_drew1) | exact HB.out)⟩⟩
            · replace c31 := Bool.eq_false_iff.mpr c31
              subst c31
              have H1 : (tipstafflaw25_SliceFinds.j1 kj12 l0 a1 a2 a3 a4 t297 true) = some r := by rw [if_neg (show ¬ (false = true) by decide)] at H; exact H
              clear H
              have H := H1
              clear H1
              have H' := Aside0.mk H
              clear H
              obtain ⟨Ao34, co34, eo34⟩ := Kd.R_slice HO312.out
              subst eo34
              obtain ⟨Ao35, co35, eo35⟩ := Kd.R_slice HO316.out
              subst eo35
              go_wp2_with (first | ((with_reducible refine gate_callee (f := 19) rfl ?_); refine goesL_ (some 66) rfl rfl Try.func19 (by kernel_rfl) rfl #[.slice Ao34 t309.length co34, .slice Ao35 t313.length co35] rfl (by (try simp only [List.map_toArray, List.map_cons, List.map_nil]); first | done | rfl | (simp only [List.length_drop, List.length_take]; rfl)) ?_; (with_reducible refine (tipstaffkit_SameInts.calls kj12 _ _ t309 _ _ t313 false _ ?side1 ?side2 ?side3 ?side4 A30.out).mono ?_); (case side1 => repeat (first | exact (Kd.R_reads' HO312.out).2.2 | (with_reducible refine Kd.C_alloc ?_ _) | (with_reducible refine Kd.C_drewN ?_ _) | (with_reducible refine Kd.C_drew ?_))); (case side2 => exact (Kd.R_reads' HO312.out).2.1); (case side3 => repeat (first | exact (Kd.R_reads' HO316.out).2.2 | (with_reducible refine Kd.C_alloc ?_ _) | (with_reducible refine Kd.C_drewN ?_ _) | (with_reducible refine Kd.C_drew ?_))); (case side4 => exact (Kd.R_reads' HO316.out).2.1); rintro e w' ⟨rfl, ⟨nd, rfl⟩⟩; refine ⟨_, rfl, ?_⟩))
              go_meet
              case rel => exact ⟨_, (true), (by first | rfl | (simp; done) | (simp [*]; done)), H', ⟨by have := HJ12.out; first | omega | exact Nat.le_refl _⟩, ⟨by (with_reducible repeat (first | apply Kd.S_alloc | apply Kd.S_drewN | apply Kd.S_drew)); exact Kd.S_mono HO_11.out (fun _ hk => trivial)⟩, ⟨by repeat (first | (with_reducible first | exact HB.out | apply below_alloc | apply pw_below_drewN | apply below_drew1) | exact HB.out)⟩⟩
          case rest =>
            clear HC27
            try clear c1
            try clear c2
            try clear p2
            try clear c3
            try clear c4
            try clear c7
            try clear c8
            try clear c9
            try clear c10
            try clear c19
            try clear c21
            try clear c22
            try clear c23
            try clear c24
            try clear c31
            try clear p2
            obtain ⟨kq, x72_26, rfl, HA, HJ26, HO_11, HB⟩ := hcut
            cases kq with
            | zero => exact absurd HA.out (by simp [tipstafflaw25_SliceFinds.j1])
            | succ kj26 =>
              have H := HA.out
              clear HA
              simp only [tipstafflaw25_SliceFinds.j1] at H
              by_cases c36 : x72_26 = true
              · subst c36
                have H1 : (none) = some r := by rw [if_pos rfl] at H; exact H
                clear H
                have H := H1
                clear H1
                exact absurd H (by simp)
              · replace c36 := Bool.eq_false_iff.mpr c36
                subst c36
                have H1 : ((slice_Next.f kj26 t297 a1 a2 a4 a3).bind fun bt318 => ((tipstaffref25_Next.f kj26 l0 a1 a2 a4 a3).bind fun bt320 => ((slice_Wait.f kj26 t297 a2 a4).bind fun bt322 => ((tipstaffref25_Wait.f kj26 l0 a2 a4).bind fun bt324 => (if bt318.1 = bt320.1 then (if bt318.2 = bt320.2 then (if bt322.1 = bt324.1 then (if bt322.2 = bt324.2 then ((tipstafflaw25_same.f kj26 t297 l0).bind fun t326 => (if t326 = true then ((tipstafflaw25_awake.f kj26).bind fun t327 => (some t327)) else (none))) else (none)) else (none)) else (none)) else (none)))))) = some r := by rw [if_neg (show ¬ (false = true) by decide)] at H; exact H
                clear H
                have H := H1
                clear H1
                replace H := Option.bind_eq_some_iff.mp H
                obtain ⟨⟨t318, t319⟩, A370, H⟩ := H
                replace H : ((tipstaffref25_Next.f kj26 l0 a1 a2 a4 a3).bind fun bt320 => ((slice_Wait.f kj26 t297 a2 a4).bind fun bt322 => ((tipstaffref25_Wait.f kj26 l0 a2 a4).bind fun bt324 => (if t318 = bt320.1 then (if t319 = bt320.2 then (if bt322.1 = bt324.1 then (if bt322.2 = bt324.2 then ((tipstafflaw25_same.f kj26 t297 l0).bind fun t326 => (if t326 = true then ((tipstafflaw25_awake.f kj26).bind fun t327 => (some t327)) else (none))) else (none)) else (none)) else (none)) else (none))))) = some r := H
                have A37 := Aside0.mk A370
                clear A370
                replace H := Option.bind_eq_some_iff.mp H
                obtain ⟨⟨t320, t321⟩, A380, H⟩ := H
                replace H : ((slice_Wait.f kj26 t297 a2 a4).bind fun bt322 => ((tipstaffref25_Wait.f kj26 l0 a2 a4).bind fun bt324 => (if t318 = t320 then (if t319 = t321 then (if bt322.1 = bt324.1 then (if bt322.2 = bt324.2 then ((tipstafflaw25_same.f kj26 t297 l0).bind fun t326 => (if t326 = true then ((tipstafflaw25_awake.f kj26).bind fun t327 => (some t327)) else (none))) else (none)) else (none)) else (none)) else (none)))) = some r := H
                have A38 := Aside0.mk A380
                clear A380
                replace H := Option.bind_eq_some_iff.mp H
                obtain ⟨⟨t322, t323⟩, A390, H⟩ := H
                replace H : ((tipstaffref25_Wait.f kj26 l0 a2 a4).bind fun bt324 => (if t318 = t320 then (if t319 = t321 then (if t322 = bt324.1 then (if t323 = bt324.2 then ((tipstafflaw25_same.f kj26 t297 l0).bind fun t326 => (if t326 = true then ((tipstafflaw25_awake.f kj26).bind fun t327 => (some t327)) else (none))) else (none)) else (none)) else (none)) else (none))) = some r := H
                have A39 := Aside0.mk A390
                clear A390
                replace H := Option.bind_eq_some_iff.mp H
                obtain ⟨⟨t324, t325⟩, A400, H⟩ := H
                replace H : (if t318 = t320 then (if t319 = t321 then (if t322 = t324 then (if t323 = t325 then ((tipstafflaw25_same.f kj26 t297 l0).bind fun t326 => (if t326 = true then ((tipstafflaw25_awake.f kj26).bind fun t327 => (some t327)) else (none))) else (none)) else (none)) else (none)) else (none)) = some r := H
                have A40 := Aside0.mk A400
                clear A400
                by_cases c41 : t318 = t320
                · rw [if_pos c41] at H
                  have c41b0 : (t318 == t320) = true := beq_iff_eq.mpr c41
                  have c41b1 : (t318 != t320) = false := bne_eq_false_iff_eq.mpr c41
                  clear c41
                  by_cases c42 : t319 = t321
                  · rw [if_pos c42] at H
                    have c42b0 : (t319 == t321) = true := beq_iff_eq.mpr c42
                    have c42b1 : (t319 != t321) = false := bne_eq_false_iff_eq.mpr c42
                    clear c42
                    by_cases c43 : t322 = t324
                    · rw [if_pos c43] at H
                      have c43b0 : (t322 == t324) = true := beq_iff_eq.mpr c43
                      have c43b1 : (t322 != t324) = false := bne_eq_false_iff_eq.mpr c43
                      clear c43
                      by_cases c44 : t323 = t325
                      · rw [if_pos c44] at H
                        have c44b0 : (t323 == t325) = true := beq_iff_eq.mpr c44
                        have c44b1 : (t323 != t325) = false := bne_eq_false_iff_eq.mpr c44
                        clear c44
                        replace H := Option.bind_eq_some_iff.mp H
                        obtain ⟨t326, A450, H⟩ := H
                        replace H : (if t326 = true then ((tipstafflaw25_awake.f kj26).bind fun t327 => (some t327)) else (none)) = some r := H
                        have A45 := Aside0.mk A450
                        clear A450
                        by_cases c46 : t326 = true
                        · subst c46
                          have H1 : ((tipstafflaw25_awake.f kj26).bind fun t327 => (some t327)) = some r := by rw [if_pos rfl] at H; exact H
                          clear H
                          have H := H1
                          clear H1
                          replace H := Option.bind_eq_some_iff.mp H
                          obtain ⟨t327, A470, H⟩ := H
                          replace H : (some t327) = some r := H
                          have A47 := Aside0.mk A470
                          clear A470
                          obtain rfl := Option.some.inj H
                          go_wp2_with (first | ((with_reducible refine gate_callee (f := 25) rfl ?_); refine goesL_ (some 79) rfl rfl Try.func25 (by kernel_rfl) rfl #[.slice Ao15 t297.length co15, .int .i64 a1, .int .i64 a2, .int .i64 a4, .int .i64 a3] rfl (by (try simp only [List.map_toArray, List.map_cons, List.map_nil]); first | done | rfl | (simp only [List.length_drop, List.length_take]; rfl)) ?_; (with_reducible refine (slice_Next.calls kj26 _ _ t297 a1 a2 a4 a3 t318 t319 _ ?side1 ?side2 A37.out).mono ?_); (case side1 => repeat (first | exact (Kd.S_reads' HO_11.out).2.2 | (with_reducible refine Kd.C_alloc ?_ _) | (with_reducible refine Kd.C_drewN ?_ _) | (with_reducible refine Kd.C_drew ?_))); (case side2 => exact (Kd.S_reads' HO_11.out).2.1); rintro e w48 ⟨rfl, hb⟩; refine ⟨_, rfl, ?_⟩; have n0_ := Aside0.mk (Kd.S_below (by (with_reducible repeat (first | apply Kd.S_alloc | apply Kd.S_drewN | apply Kd.S_drew)); exact HO_11.out) hb); have n1_ := Aside0.mk (below_step (by repeat (first | (with_reducible first | exact HB.out | apply below_alloc | apply pw_below_drewN | apply below_drew1) | exact HB.out)) hb); clear HO_11; clear HB; have HO_11 := n0_; have HB := n1_; clear n0_ n1_; (try clear hb); (try clear hb2); (try clear hk); (try clear hi)) | ((with_reducible refine gate_callee (f := 26) rfl ?_); refine goesL_ (some 88) rfl rfl Try.func26 (by kernel_rfl) rfl #[.slice A0 l0.length c0, .int .i64 a1, .int .i64 a2, .int .i64 a4, .int .i64 a3] rfl (by (try simp only [List.map_toArray, List.map_cons, List.map_nil]); first | done | rfl | (simp only [List.length_drop, List.length_take]; rfl)) ?_; (with_reducible refine (tipstaffref25_Next.calls kj26 _ _ l0 a1 a2 a4 a3 t320 t321 _ ?side1 ?side2 A38.out).mono ?_); (case side1 => repeat (first | exact (Kd.C_below HR0.out HB.out) | (with_reducible refine Kd.C_alloc ?_ _) | (with_reducible refine Kd.C_drewN ?_ _) | (with_reducible refine Kd.C_drew ?_))); (case side2 => exact HC0.out); rintro e w' ⟨rfl, ⟨nd, rfl⟩⟩; refine ⟨_, rfl, ?_⟩) | ((with_reducible refine gate_callee (f := 27) rfl ?_); refine goesL_ (some 95) rfl rfl Try.func27 (by kernel_rfl) rfl #[.slice Ao15 t297.length co15, .int .i64 a2, .int .i64 a4] rfl (by (try simp only [List.map_toArray, List.map_cons, List.map_nil]); first | done | rfl | (simp only [List.length_drop, List.length_take]; rfl)) ?_; (with_reducible refine (slice_Wait.calls kj26 _ _ t297 a2 a4 t322 t323 _ ?side1 ?side2 A39.out).mono ?_); (case side1 => repeat (first | exact (Kd.S_reads' HO_11.out).2.2 | (with_reducible refine Kd.C_alloc ?_ _) | (with_reducible refine Kd.C_drewN ?_ _) | (with_reducible refine Kd.C_drew ?_))); (case side2 => exact (Kd.S_reads' HO_11.out).2.1); rintro e w49 ⟨rfl, hb⟩; refine ⟨_, rfl, ?_⟩; have n0_ := Aside0.mk (Kd.S_below (by (with_reducible repeat (first | apply Kd.S_alloc | apply Kd.S_drewN | apply Kd.S_drew)); exact HO_11.out) hb); have n1_ := Aside0.mk (below_step (by repeat (first | (with_reducible first | exact HB.out | apply below_alloc | apply pw_below_drewN | apply below_drew1) | exact HB.out)) hb); clear HO_11; clear HB; have HO_11 := n0_; have HB := n1_; clear n0_ n1_; (try clear hb); (try clear hb2); (try clear hk); (try clear hi)) | ((with_reducible refine gate_callee (f := 28) rfl ?_); refine goesL_ (some 102) rfl rfl Try.func28 (by kernel_rfl) rfl #[.slice A0 l0.length c0, .int .i64 a2, .int .i64 a4] rfl (by (try simp only [List.map_toArray, List.map_cons, List.map_nil]); first | done | rfl | (simp only [List.length_drop, List.length_take]; rfl)) ?_; (with_reducible refine (tipstaffref25_Wait.calls kj26 _ _ l0 a2 a4 t324 t325 _ ?side1 ?side2 A40.out).mono ?_); (case side1 => repeat (first | exact (Kd.C_below HR0.out HB.out) | (with_reducible refine Kd.C_alloc ?_ _) | (with_reducible refine Kd.C_drewN ?_ _) | (with_reducible refine Kd.C_drew ?_))); (case side2 => exact HC0.out); rintro e w50 ⟨rfl, hb⟩; refine ⟨_, rfl, ?_⟩; have n0_ := Aside0.mk (Kd.S_below (by (with_reducible repeat (first | apply Kd.S_alloc | apply Kd.S_drewN | apply Kd.S_drew)); exact HO_11.out) hb); have n1_ := Aside0.mk (below_step (by repeat (first | (with_reducible first | exact HB.out | apply below_alloc | apply pw_below_drewN | apply below_drew1) | exact HB.out)) hb); clear HO_11; clear HB; have HO_11 := n0_; have HB := n1_; clear n0_ n1_; (try clear hb); (try clear hb2); (try clear hk); (try clear hi)) | (go_at_call 20; (with_reducible refine (tipstafflaw25_same.calls kj26 _ _ t297 _ _ l0 true _ ?side1 ?side2 ?side3 ?side4 A45.out).mono ?_); (case side1 => repeat (first | exact (Kd.S_reads' HO_11.out).2.2 | (with_reducible refine Kd.C_alloc ?_ _) | (with_reducible refine Kd.C_drewN ?_ _) | (with_reducible refine Kd.C_drew ?_))); (case side2 => exact (Kd.S_reads' HO_11.out).2.1); (case side3 => repeat (first | exact (Kd.C_below HR0.out HB.out) | (with_reducible refine Kd.C_alloc ?_ _) | (with_reducible refine Kd.C_drewN ?_ _) | (with_reducible refine Kd.C_drew ?_))); (case side4 => exact HC0.out); rintro e w' ⟨rfl, ⟨nd, rfl⟩⟩) | (go_at_call 9; (with_reducible refine (tipstafflaw25_awake.calls kj26  t327 _ A47.out).mono ?_); rintro e w51 ⟨rfl, hb⟩; have n0_ := Aside0.mk (Kd.S_below (by (with_reducible repeat (first | apply Kd.S_alloc | apply Kd.S_drewN | apply Kd.S_drew)); exact HO_11.out) hb); have n1_ := Aside0.mk (below_step (by repeat (first | (with_reducible first | exact HB.out | apply below_alloc | apply pw_below_drewN | apply below_drew1) | exact HB.out)) hb); clear HO_11; clear HB; have HO_11 := n0_; have HB := n1_; clear n0_ n1_; (try clear hb); (try clear hb2); (try clear hk); (try clear hi)))
                          go_ret
                          exact ⟨by first | rfl | (simp [errW_none, errW_some] <;> rfl) | (simp [*, errW_none, errW_some] <;> rfl) | (simp (discharger := omega) only [Int.tdiv_eq_ediv_of_nonneg, Int.tmod_eq_emod_of_nonneg] <;> rfl), by repeat (first | (with_reducible first | exact HB.out | apply below_alloc | apply pw_below_drewN | apply below_drew1) | exact HB.out)⟩
                        · replace c46 := Bool.eq_false_iff.mpr c46
                          subst c46
                          have H1 : (none) = some r := by rw [if_neg (show ¬ (false = true) by decide)] at H; exact H
                          clear H
                          have H := H1
                          clear H1
                          exact absurd H (by simp)
                      · rw [if_neg c44] at H
                        exact absurd H (by simp)
                    · rw [if_neg c43] at H
                      exact absurd H (by simp)
                  · rw [if_neg c42] at H
                    exact absurd H (by simp)
                · rw [if_neg c41] at H
                  exact absurd H (by simp)

/-! ### tipstafflaw25_slots: function 32 -/
def tipstafflaw25_slots.f (k : Nat) (a0 : Int) (a1 : Int) (a2 : Int) (l3 : List Int) : Option (Bool) := (tipstafflaw25_rota.f).bind fun t328 => ((slice_Slots.f k t328 a0 a1).bind fun bt331 => ((tipstafflaw25_rota.f).bind fun t335 => ((slice_Wait.f k t335 a0 a1).bind fun bt338 => (if bt331.2 = 0 then ((tipstaffkit_SameInts.f k bt331.1 l3).bind fun t340 => (if t340 = true then (if bt338.2 = 0 then (some (bt338.1 == a2)) else (none)) else (none))) else (none)))))
theorem tipstafflaw25_slots.mono : ∀ a0 a1 a2 a3 k, LeO (tipstafflaw25_slots.f k a0 a1 a2 a3) (tipstafflaw25_slots.f (k + 1) a0 a1 a2 a3) := by
  intro a0 a1 a2 a3 k
  unfold tipstafflaw25_slots.f
  repeat' first
      | (with_reducible exact slice_Slots.mono _ _ _ _)
      | (with_reducible exact slice_Wait.mono _ _ _ _)
      | (with_reducible exact tipstaffkit_SameInts.mono _ _ _)
      | (with_reducible exact LeO.refl _)
      | (with_reducible exact LeO.none _)
      | (with_reducible refine LeO.ite ?_ ?_)
      | (with_reducible refine LeO.bind ?_ (fun _ => ?_))
      | exact slice_Slots.mono _ _ _ _
      | exact slice_Wait.mono _ _ _ _
      | exact tipstaffkit_SameInts.mono _ _ _
      | exact LeO.none _
      | refine LeO.ite ?_ ?_
      | refine LeO.bind ?_ (fun _ => ?_)
set_option maxHeartbeats 8000000 in
set_option maxRecDepth 100000 in
theorem tipstafflaw25_slots.calls (k : Nat) (a0 : Int) (a1 : Int) (a2 : Int) (A3 : Option Addr) (c3 : Nat) (l3 : List Int) (r : Bool) (w : World) (hr3 : Kd.C (Kd.int .i64) w A3 l3.length l3) (hc3 : l3.length ≤ c3) (h : tipstafflaw25_slots.f k a0 a1 a2 l3 = some r) :
    Calls Try.prog 32 #[.int .i64 a0, .int .i64 a1, .int .i64 a2, .slice A3 l3.length c3] w fun e w' => e = .returned (.bool r) ∧ Below w.heap.size w w' := by
  have HR3 := Aside0.mk hr3
  have HC3 := Aside0.mk hc3
  clear hr3 hc3
  have HB := Aside0.mk (Below.refl w.heap.size w)
  have H : ((tipstafflaw25_rota.f).bind fun t328 => ((slice_Slots.f k t328 a0 a1).bind fun bt331 => ((tipstafflaw25_rota.f).bind fun t335 => ((slice_Wait.f k t335 a0 a1).bind fun bt338 => (if bt331.2 = 0 then ((tipstaffkit_SameInts.f k bt331.1 l3).bind fun t340 => (if t340 = true then (if bt338.2 = 0 then (some (bt338.1 == a2)) else (none)) else (none))) else (none)))))) = some r := h
  clear h
  replace H := Option.bind_eq_some_iff.mp H
  obtain ⟨t328, A50, H⟩ := H
  replace H : ((slice_Slots.f k t328 a0 a1).bind fun bt331 => ((tipstafflaw25_rota.f).bind fun t335 => ((slice_Wait.f k t335 a0 a1).bind fun bt338 => (if bt331.2 = 0 then ((tipstaffkit_SameInts.f k bt331.1 l3).bind fun t340 => (if t340 = true then (if bt338.2 = 0 then (some (bt338.1 == a2)) else (none)) else (none))) else (none))))) = some r := H
  have A5 := Aside0.mk A50
  clear A50
  replace H := Option.bind_eq_some_iff.mp H
  obtain ⟨⟨t331, t332⟩, A60, H⟩ := H
  replace H : ((tipstafflaw25_rota.f).bind fun t335 => ((slice_Wait.f k t335 a0 a1).bind fun bt338 => (if t332 = 0 then ((tipstaffkit_SameInts.f k t331 l3).bind fun t340 => (if t340 = true then (if bt338.2 = 0 then (some (bt338.1 == a2)) else (none)) else (none))) else (none)))) = some r := H
  have A6 := Aside0.mk A60
  clear A60
  replace H := Option.bind_eq_some_iff.mp H
  obtain ⟨t335, A70, H⟩ := H
  replace H : ((slice_Wait.f k t335 a0 a1).bind fun bt338 => (if t332 = 0 then ((tipstaffkit_SameInts.f k t331 l3).bind fun t340 => (if t340 = true then (if bt338.2 = 0 then (some (bt338.1 == a2)) else (none)) else (none))) else (none))) = some r := H
  have A7 := Aside0.mk A70
  clear A70
  replace H := Option.bind_eq_some_iff.mp H
  obtain ⟨⟨t338, t339⟩, A80, H⟩ := H
  replace H : (if t332 = 0 then ((tipstaffkit_SameInts.f k t331 l3).bind fun t340 => (if t340 = true then (if t339 = 0 then (some (t338 == a2)) else (none)) else (none))) else (none)) = some r := H
  have A8 := Aside0.mk A80
  clear A80
  by_cases c9 : t332 = 0
  · rw [if_pos c9] at H
    have c9b0 : (t332 == 0) = true := beq_iff_eq.mpr c9
    have c9b1 : (t332 != 0) = false := bne_eq_false_iff_eq.mpr c9
    clear c9
    replace H := Option.bind_eq_some_iff.mp H
    obtain ⟨t340, A100, H⟩ := H
    replace H : (if t340 = true then (if t339 = 0 then (some (t338 == a2)) else (none)) else (none)) = some r := H
    have A10 := Aside0.mk A100
    clear A100
    by_cases c11 : t340 = true
    · subst c11
      have H1 : (if t339 = 0 then (some (t338 == a2)) else (none)) = some r := by rw [if_pos rfl] at H; exact H
      clear H
      have H := H1
      clear H1
      by_cases c12 : t339 = 0
      · rw [if_pos c12] at H
        have c12b0 : (t339 == 0) = true := beq_iff_eq.mpr c12
        have c12b1 : (t339 != 0) = false := bne_eq_false_iff_eq.mpr c12
        clear c12
        obtain rfl := Option.some.inj H
        go_enter Try.func32, Try.ntmps32
        go_wp2_with (first | ((with_reducible refine gate_callee (f := 29) rfl ?_); refine goesL_ (some 14) rfl rfl Try.func29 (by kernel_rfl) rfl #[] rfl (by (try simp only [List.map_toArray, List.map_cons, List.map_nil]); first | done | rfl | (simp only [List.length_drop, List.length_take]; rfl)) ?_; (with_reducible refine (tipstafflaw25_rota.calls  t328 _ A5.out).mono ?_); rintro e w13 ⟨v329, rfl, ho0, hb⟩; refine ⟨_, rfl, ?_⟩; have n0_ := Aside0.mk (Kd.N_lower (Kd.N_mono (ok' := fun k_ => True) ho0 (fun k_ hk_ => trivial)) (below_size (by repeat (first | (with_reducible first | exact HB.out | apply below_alloc | apply pw_below_drewN | apply below_drew1) | exact HB.out)))); have n1_ := Aside0.mk (below_step (by repeat (first | (with_reducible first | exact HB.out | apply below_alloc | apply pw_below_drewN | apply below_drew1) | exact HB.out)) hb); clear HB; have HO330 := n0_; have HB := n1_; clear n0_ n1_; (try clear hb); (try clear hb2); (try clear hk); (try clear hi); (try clear ho0); obtain ⟨Ao14, co14, eo14⟩ := Kd.N_slice HO330.out; subst eo14) | ((with_reducible refine gate_callee (f := 23) rfl ?_); refine goesL_ (some 17) rfl rfl Try.func23 (by kernel_rfl) rfl #[.slice Ao14 t328.length co14, .int .i64 a0, .int .i64 a1] rfl (by (try simp only [List.map_toArray, List.map_cons, List.map_nil]); first | done | rfl | (simp only [List.length_drop, List.length_take]; rfl)) ?_; (with_reducible refine (slice_Slots.calls k _ _ t328 a0 a1 t331 t332 _ ?side1 ?side2 A6.out).mono ?_); (case side1 => repeat (first | exact (Kd.N_reads' HO330.out).2.2 | (with_reducible refine Kd.C_alloc ?_ _) | (with_reducible refine Kd.C_drewN ?_ _) | (with_reducible refine Kd.C_drew ?_))); (case side2 => exact (Kd.N_reads' HO330.out).2.1); rintro e w15 ⟨v333, rfl, ho0, hb⟩; refine ⟨_, rfl, ?_⟩; have n0_ := Aside0.mk (Kd.N_elder' (by (with_reducible repeat (first | apply Kd.N_alloc | apply Kd.N_drewN | apply Kd.N_drew)); exact HO330.out) (Kd.R_base ho0) hb); have n1_ := Aside0.mk (Kd.R_lower ho0 (below_size (by repeat (first | (with_reducible first | exact HB.out | apply below_alloc | apply pw_below_drewN | apply below_drew1) | exact HB.out)))); have n2_ := Aside0.mk (below_step (by repeat (first | (with_reducible first | exact HB.out | apply below_alloc | apply pw_below_drewN | apply below_drew1) | exact HB.out)) hb); clear HO330; clear HB; have HO330 := n0_; have HO334 := n1_; have HB := n2_; clear n0_ n1_ n2_; (try clear hb); (try clear hb2); (try clear hk); (try clear hi); (try clear ho0)) | ((with_reducible refine gate_callee (f := 29) rfl ?_); refine goesL_ (some 21) rfl rfl Try.func29 (by kernel_rfl) rfl #[] rfl (by (try simp only [List.map_toArray, List.map_cons, List.map_nil]); first | done | rfl | (simp only [List.length_drop, List.length_take]; rfl)) ?_; (with_reducible refine (tipstafflaw25_rota.calls  t335 _ A7.out).mono ?_); rintro e w16 ⟨v336, rfl, ho0, hb⟩; refine ⟨_, rfl, ?_⟩; have n0_ := Aside0.mk (Kd.N_elder' (by (with_reducible repeat (first | apply Kd.N_alloc | apply Kd.N_drewN | apply Kd.N_drew)); exact HO330.out) (Kd.N_base ho0) hb); have n1_ := Aside0.mk (Kd.R_below (by (with_reducible repeat (first | apply Kd.R_alloc | apply Kd.R_drewN | apply Kd.R_drew)); exact HO334.out) hb); have n2_ := Aside0.mk (Kd.N_lower (Kd.N_mono (ok' := fun k_ => some k_ ≠ (.slice Ao14 t328.length co14 : Value).ownBlock ∧ some k_ ≠ (v333 : Value).ownBlock) ho0 (fun k_ hk_ => ⟨(Kd.fresh' (Kd.N_lt (by (with_reducible repeat (first | apply Kd.N_alloc | apply Kd.N_drewN | apply Kd.N_drew)); exact HO330.out)) k_ hk_), (Kd.fresh' (Kd.R_lt (by (with_reducible repeat (first | apply Kd.R_alloc | apply Kd.R_drewN | apply Kd.R_drew)); exact HO334.out)) k_ hk_)⟩)) (below_size (by repeat (first | (with_reducible first | exact HB.out | apply below_alloc | apply pw_below_drewN | apply below_drew1) | exact HB.out)))); have n3_ := Aside0.mk (below_step (by repeat (first | (with_reducible first | exact HB.out | apply below_alloc | apply pw_below_drewN | apply below_drew1) | exact HB.out)) hb); clear HO330; clear HO334; clear HB; have HO330 := n0_; have HO334 := n1_; have HO337 := n2_; have HB := n3_; clear n0_ n1_ n2_ n3_; (try clear hb); (try clear hb2); (try clear hk); (try clear hi); (try clear ho0); obtain ⟨Ao17, co17, eo17⟩ := Kd.N_slice HO337.out; subst eo17) | ((with_reducible refine gate_callee (f := 27) rfl ?_); refine goesL_ (some 24) rfl rfl Try.func27 (by kernel_rfl) rfl #[.slice Ao17 t335.length co17, .int .i64 a0, .int .i64 a1] rfl (by (try simp only [List.map_toArray, List.map_cons, List.map_nil]); first | done | rfl | (simp only [List.length_drop, List.length_take]; rfl)) ?_; (with_reducible refine (slice_Wait.calls k _ _ t335 a0 a1 t338 t339 _ ?side1 ?side2 A8.out).mono ?_); (case side1 => repeat (first | exact (Kd.N_reads' HO337.out).2.2 | (with_reducible refine Kd.C_alloc ?_ _) | (with_reducible refine Kd.C_drewN ?_ _) | (with_reducible refine Kd.C_drew ?_))); (case side2 => exact (Kd.N_reads' HO337.out).2.1); rintro e w18 ⟨rfl, hb⟩; refine ⟨_, rfl, ?_⟩; have n0_ := Aside0.mk (Kd.N_below (by (with_reducible repeat (first | apply Kd.N_alloc | apply Kd.N_drewN | apply Kd.N_drew)); exact HO330.out) hb); have n1_ := Aside0.mk (Kd.R_below (by (with_reducible repeat (first | apply Kd.R_alloc | apply Kd.R_drewN | apply Kd.R_drew)); exact HO334.out) hb); have n2_ := Aside0.mk (Kd.N_below (by (with_reducible repeat (first | apply Kd.N_alloc | apply Kd.N_drewN | apply Kd.N_drew)); exact HO337.out) hb); have n3_ := Aside0.mk (below_step (by repeat (first | (with_reducible first | exact HB.out | apply below_alloc | apply pw_below_drewN | apply below_drew1) | exact HB.out)) hb); clear HO330; clear HO334; clear HO337; clear HB; have HO330 := n0_; have HO334 := n1_; have HO337 := n2_; have HB := n3_; clear n0_ n1_ n2_ n3_; (try clear hb); (try clear hb2); (try clear hk); (try clear hi); obtain ⟨Ao19, co19, eo19⟩ := Kd.R_slice HO334.out; subst eo19) | (go_at_call 19; (with_reducible refine (tipstaffkit_SameInts.calls k _ _ t331 _ _ l3 true _ ?side1 ?side2 ?side3 ?side4 A10.out).mono ?_); (case side1 => repeat (first | exact (Kd.R_reads' HO334.out).2.2 | (with_reducible refine Kd.C_alloc ?_ _) | (with_reducible refine Kd.C_drewN ?_ _) | (with_reducible refine Kd.C_drew ?_))); (case side2 => exact (Kd.R_reads' HO334.out).2.1); (case side3 => repeat (first | exact (Kd.C_below HR3.out HB.out) | (with_reducible refine Kd.C_alloc ?_ _) | (with_reducible refine Kd.C_drewN ?_ _) | (with_reducible refine Kd.C_drew ?_))); (case side4 => exact HC3.out); rintro e w' ⟨rfl, ⟨nd, rfl⟩⟩))
        go_ret
        exact ⟨by first | rfl | (simp [errW_none, errW_some] <;> rfl) | (simp [*, errW_none, errW_some] <;> rfl) | (simp (discharger := omega) only [Int.tdiv_eq_ediv_of_nonneg, Int.tmod_eq_emod_of_nonneg] <;> rfl), by repeat (first | (with_reducible first | exact HB.out | apply below_alloc | apply pw_below_drewN | apply below_drew1) | exact HB.out)⟩
      · rw [if_neg c12] at H
        exact absurd H (by simp)
    · replace c11 := Bool.eq_false_iff.mpr c11
      subst c11
      have H1 : (none) = some r := by rw [if_neg (show ¬ (false = true) by decide)] at H; exact H
      clear H
      have H := H1
      clear H1
      exact absurd H (by simp)
  · rw [if_neg c9] at H
    exact absurd H (by simp)

/-! ### tipstafflaw25_fails: function 34 -/
def tipstafflaw25_fails.f (k : Nat) (l0 : List (List Int)) (a1 : Int) (a2 : Int) : Option (Bool) := (slice_Check.f k l0).bind fun bt341 => (if bt341.1 = a1 then (some (bt341.2 == a2)) else (none))
theorem tipstafflaw25_fails.mono : ∀ a0 a1 a2 k, LeO (tipstafflaw25_fails.f k a0 a1 a2) (tipstafflaw25_fails.f (k + 1) a0 a1 a2) := by
  intro a0 a1 a2 k
  unfold tipstafflaw25_fails.f
  repeat' first
      | (with_reducible exact slice_Check.mono _ _)
      | (with_reducible exact LeO.refl _)
      | (with_reducible exact LeO.none _)
      | (with_reducible refine LeO.ite ?_ ?_)
      | (with_reducible refine LeO.bind ?_ (fun _ => ?_))
      | exact slice_Check.mono _ _
      | exact LeO.none _
      | refine LeO.ite ?_ ?_
      | refine LeO.bind ?_ (fun _ => ?_)
set_option maxHeartbeats 8000000 in
set_option maxRecDepth 100000 in
theorem tipstafflaw25_fails.calls (k : Nat) (A0 : Option Addr) (c0 : Nat) (l0 : List (List Int)) (a1 : Int) (a2 : Int) (r : Bool) (w : World) (hr0 : Kd.C (Kd.slice 3 (Kd.int .i64)) w A0 l0.length l0) (hc0 : l0.length ≤ c0) (h : tipstafflaw25_fails.f k l0 a1 a2 = some r) :
    Calls Try.prog 34 #[.slice A0 l0.length c0, .int .i64 a1, .int .i64 a2] w fun e w' => e = .returned (.bool r) ∧ Drawn0 w w' := by
  have HR0 := Aside0.mk hr0
  have HC0 := Aside0.mk hc0
  clear hr0 hc0
  have H : ((slice_Check.f k l0).bind fun bt341 => (if bt341.1 = a1 then (some (bt341.2 == a2)) else (none))) = some r := h
  clear h
  replace H := Option.bind_eq_some_iff.mp H
  obtain ⟨⟨t341, t342⟩, A40, H⟩ := H
  replace H : (if t341 = a1 then (some (t342 == a2)) else (none)) = some r := H
  have A4 := Aside0.mk A40
  clear A40
  by_cases c5 : t341 = a1
  · rw [if_pos c5] at H
    have c5b0 : (t341 == a1) = true := beq_iff_eq.mpr c5
    have c5b1 : (t341 != a1) = false := bne_eq_false_iff_eq.mpr c5
    clear c5
    obtain rfl := Option.some.inj H
    go_enter Try.func34, Try.ntmps34
    go_wp2_with (first | ((with_reducible refine gate_callee (f := 11) rfl ?_); refine goesL_ (some 11) rfl rfl Try.func11 (by kernel_rfl) rfl #[.slice A0 l0.length c0] rfl (by (try simp only [List.map_toArray, List.map_cons, List.map_nil]); first | done | rfl | (simp only [List.length_drop, List.length_take]; rfl)) ?_; (with_reducible refine (slice_Check.calls k _ _ l0 t341 t342 _ ?side1 ?side2 A4.out).mono ?_); (case side1 => repeat (first | exact HR0.out | (with_reducible refine Kd.C_alloc ?_ _) | (with_reducible refine Kd.C_drewN ?_ _) | (with_reducible refine Kd.C_drew ?_))); (case side2 => exact HC0.out); rintro e w' ⟨rfl, ⟨nd, rfl⟩⟩; refine ⟨_, rfl, ?_⟩))
    go_ret
    exact ⟨by first | rfl | (simp; done) | (simp [*]; done), by repeat (first | exact Drawn0.refl _ | apply Drawn0.step)⟩
  · rw [if_neg c5] at H
    exact absurd H (by simp)

end Go.Proofs.Ythcgcfjcjikjmaa.S
