-- PRINTED by print.py (a twelfth state) out of the translation. Not trusted: Lean checks it.
import Derived.Test.YtlpdoieokgeikaaS0
import Derived.Test.YtlpdoieokgeikaaS3
import Derived.Test.YtlpdoieokgeikaaS4
import Derived.Test.YtlpdoieokgeikaaS5
import Derived.Test.YtlpdoieokgeikaaS7
import Derived.Test.YtlpdoieokgeikaaS11
import Derived.Test.YtlpdoieokgeikaaS12
import Derived.Test.YtlpdoieokgeikaaHpairs
namespace Go.Proofs.Ytlpdoieokgeikaa.S
open Go.RowKit Go.Proofs.YtlpdoieokgeikaaW.PrintWords Go.Proofs.YtlpdoieokgeikaaW.PrintLast Go.Proofs.YtlpdoieokgeikaaW.PrintMore
attribute [local go_sem] Go.Proofs.YtlpdoieokgeikaaW.PrintXtra.isSome_setCell max2_int min2_int max_two min_two max_three min_three max_four min_four   -- for this text's walks alone
set_option linter.unusedVariables false
set_option linter.unusedSimpArgs false

/-! ### tipstafflaw14_LimitJumps: function 5 -/
def tipstafflaw14_LimitJumps.f (k : Nat) (l0 : List (S38)) : Option (Bool) := (tipstafflaw14_light.f l0).bind fun t329 => (if t329 = true then ((tipstafflaw14_own.f l0).bind fun t331 => ((limit_Jumps.f k t331).bind fun bt334 => ((tipstaffref14_Jumps.f k l0).bind fun bt338 => ((limit_Stops.f k t331).bind fun bt342 => ((tipstaffref14_Stops.f k l0).bind fun bt346 => ((tipstaffkit_SameInts.f k bt334.1 bt338.1).bind fun t350 => (if t350 = true then (if bt334.2 = bt338.2 then ((tipstaffkit_SameInts.f k bt342.1 bt346.1).bind fun t351 => (if t351 = true then (if bt342.2 = bt346.2 then ((tipstafflaw14_same.f k t331 l0).bind fun t352 => (if t352 = true then ((tipstafflaw14_awake.f k).bind fun t353 => (some t353)) else (none))) else (none)) else (none))) else (none)) else (none)))))))) else ((tipstafflaw14_awake.f k).bind fun t330 => (some t330)))
theorem tipstafflaw14_LimitJumps.mono : ∀ a0 k, LeO (tipstafflaw14_LimitJumps.f k a0) (tipstafflaw14_LimitJumps.f (k + 1) a0) := by
  intro a0 k
  unfold tipstafflaw14_LimitJumps.f
  repeat' first
      | (with_reducible exact limit_Jumps.mono _ _)
      | (with_reducible exact limit_Stops.mono _ _)
      | (with_reducible exact tipstaffkit_SameInts.mono _ _ _)
      | (with_reducible exact tipstafflaw14_awake.mono _)
      | (with_reducible exact tipstafflaw14_same.mono _ _ _)
      | (with_reducible exact tipstaffref14_Jumps.mono _ _)
      | (with_reducible exact tipstaffref14_Stops.mono _ _)
      | (with_reducible exact LeO.refl _)
      | (with_reducible exact LeO.none _)
      | (with_reducible refine LeO.ite ?_ ?_)
      | (with_reducible refine LeO.bind ?_ (fun _ => ?_))
      | exact limit_Jumps.mono _ _
      | exact limit_Stops.mono _ _
      | exact tipstaffkit_SameInts.mono _ _ _
      | exact tipstafflaw14_awake.mono _
      | exact tipstafflaw14_same.mono _ _ _
      | exact tipstaffref14_Jumps.mono _ _
      | exact tipstaffref14_Stops.mono _ _
      | exact LeO.none _
      | refine LeO.ite ?_ ?_
      | refine LeO.bind ?_ (fun _ => ?_)
set_option maxHeartbeats 8000000 in
set_option maxRecDepth 100000 in
theorem tipstafflaw14_LimitJumps.calls (k : Nat) (A0 : Option Addr) (c0 : Nat) (l0 : List (S38)) (r : Bool) (w : World) (hr0 : Kd.C k38 w A0 l0.length l0) (hc0 : l0.length ≤ c0) (h : tipstafflaw14_LimitJumps.f k l0 = some r) :
    Calls Try.prog 5 #[.slice A0 l0.length c0] w fun e w' => e = .returned (.bool r) ∧ Below w.heap.size w w' := by
  have HR0 := Aside0.mk hr0
  have HC0 := Aside0.mk hc0
  clear hr0 hc0
  have HB := Aside0.mk (Below.refl w.heap.size w)
  have H : ((tipstafflaw14_light.f l0).bind fun t329 => (if t329 = true then ((tipstafflaw14_own.f l0).bind fun t331 => ((limit_Jumps.f k t331).bind fun bt334 => ((tipstaffref14_Jumps.f k l0).bind fun bt338 => ((limit_Stops.f k t331).bind fun bt342 => ((tipstaffref14_Stops.f k l0).bind fun bt346 => ((tipstaffkit_SameInts.f k bt334.1 bt338.1).bind fun t350 => (if t350 = true then (if bt334.2 = bt338.2 then ((tipstaffkit_SameInts.f k bt342.1 bt346.1).bind fun t351 => (if t351 = true then (if bt342.2 = bt346.2 then ((tipstafflaw14_same.f k t331 l0).bind fun t352 => (if t352 = true then ((tipstafflaw14_awake.f k).bind fun t353 => (some t353)) else (none))) else (none)) else (none))) else (none)) else (none)))))))) else ((tipstafflaw14_awake.f k).bind fun t330 => (some t330)))) = some r := h
  clear h
  replace H := Option.bind_eq_some_iff.mp H
  obtain ⟨t329, A20, H⟩ := H
  replace H : (if t329 = true then ((tipstafflaw14_own.f l0).bind fun t331 => ((limit_Jumps.f k t331).bind fun bt334 => ((tipstaffref14_Jumps.f k l0).bind fun bt338 => ((limit_Stops.f k t331).bind fun bt342 => ((tipstaffref14_Stops.f k l0).bind fun bt346 => ((tipstaffkit_SameInts.f k bt334.1 bt338.1).bind fun t350 => (if t350 = true then (if bt334.2 = bt338.2 then ((tipstaffkit_SameInts.f k bt342.1 bt346.1).bind fun t351 => (if t351 = true then (if bt342.2 = bt346.2 then ((tipstafflaw14_same.f k t331 l0).bind fun t352 => (if t352 = true then ((tipstafflaw14_awake.f k).bind fun t353 => (some t353)) else (none))) else (none)) else (none))) else (none)) else (none)))))))) else ((tipstafflaw14_awake.f k).bind fun t330 => (some t330))) = some r := H
  have A2 := Aside0.mk A20
  clear A20
  by_cases c3 : t329 = true
  · subst c3
    have H1 : ((tipstafflaw14_own.f l0).bind fun t331 => ((limit_Jumps.f k t331).bind fun bt334 => ((tipstaffref14_Jumps.f k l0).bind fun bt338 => ((limit_Stops.f k t331).bind fun bt342 => ((tipstaffref14_Stops.f k l0).bind fun bt346 => ((tipstaffkit_SameInts.f k bt334.1 bt338.1).bind fun t350 => (if t350 = true then (if bt334.2 = bt338.2 then ((tipstaffkit_SameInts.f k bt342.1 bt346.1).bind fun t351 => (if t351 = true then (if bt342.2 = bt346.2 then ((tipstafflaw14_same.f k t331 l0).bind fun t352 => (if t352 = true then ((tipstafflaw14_awake.f k).bind fun t353 => (some t353)) else (none))) else (none)) else (none))) else (none)) else (none)))))))) = some r := by rw [if_pos rfl] at H; exact H
    clear H
    have H := H1
    clear H1
    replace H := Option.bind_eq_some_iff.mp H
    obtain ⟨t331, A40, H⟩ := H
    replace H : ((limit_Jumps.f k t331).bind fun bt334 => ((tipstaffref14_Jumps.f k l0).bind fun bt338 => ((limit_Stops.f k t331).bind fun bt342 => ((tipstaffref14_Stops.f k l0).bind fun bt346 => ((tipstaffkit_SameInts.f k bt334.1 bt338.1).bind fun t350 => (if t350 = true then (if bt334.2 = bt338.2 then ((tipstaffkit_SameInts.f k bt342.1 bt346.1).bind fun t351 => (if t351 = true then (if bt342.2 = bt346.2 then ((tipstafflaw14_same.f k t331 l0).bind fun t352 => (if t352 = true then ((tipstafflaw14_awake.f k).bind fun t353 => (some t353)) else (none))) else (none)) else (none))) else (none)) else (none))))))) = some r := H
    have A4 := Aside0.mk A40
    clear A40
    replace H := Option.bind_eq_some_iff.mp H
    obtain ⟨⟨t334, t337⟩, A50, H⟩ := H
    replace H : ((tipstaffref14_Jumps.f k l0).bind fun bt338 => ((limit_Stops.f k t331).bind fun bt342 => ((tipstaffref14_Stops.f k l0).bind fun bt346 => ((tipstaffkit_SameInts.f k t334 bt338.1).bind fun t350 => (if t350 = true then (if t337 = bt338.2 then ((tipstaffkit_SameInts.f k bt342.1 bt346.1).bind fun t351 => (if t351 = true then (if bt342.2 = bt346.2 then ((tipstafflaw14_same.f k t331 l0).bind fun t352 => (if t352 = true then ((tipstafflaw14_awake.f k).bind fun t353 => (some t353)) else (none))) else (none)) else (none))) else (none)) else (none)))))) = some r := H
    have A5 := Aside0.mk A50
    clear A50
    replace H := Option.bind_eq_some_iff.mp H
    obtain ⟨⟨t338, t339⟩, A60, H⟩ := H
    replace H : ((limit_Stops.f k t331).bind fun bt342 => ((tipstaffref14_Stops.f k l0).bind fun bt346 => ((tipstaffkit_SameInts.f k t334 t338).bind fun t350 => (if t350 = true then (if t337 = t339 then ((tipstaffkit_SameInts.f k bt342.1 bt346.1).bind fun t351 => (if t351 = true then (if bt342.2 = bt346.2 then ((tipstafflaw14_same.f k t331 l0).bind fun t352 => (if t352 = true then ((tipstafflaw14_awake.f k).bind fun t353 => (some t353)) else (none))) else (none)) else (none))) else (none)) else (none))))) = some r := H
    have A6 := Aside0.mk A60
    clear A60
    replace H := Option.bind_eq_some_iff.mp H
    obtain ⟨⟨t342, t345⟩, A70, H⟩ := H
    replace H : ((tipstaffref14_Stops.f k l0).bind fun bt346 => ((tipstaffkit_SameInts.f k t334 t338).bind fun t350 => (if t350 = true then (if t337 = t339 then ((tipstaffkit_SameInts.f k t342 bt346.1).bind fun t351 => (if t351 = true then (if t345 = bt346.2 then ((tipstafflaw14_same.f k t331 l0).bind fun t352 => (if t352 = true then ((tipstafflaw14_awake.f k).bind fun t353 => (some t353)) else (none))) else (none)) else (none))) else (none)) else (none)))) = some r := H
    have A7 := Aside0.mk A70
    clear A70
    replace H := Option.bind_eq_some_iff.mp H
    obtain ⟨⟨t346, t347⟩, A80, H⟩ := H
    replace H : ((tipstaffkit_SameInts.f k t334 t338).bind fun t350 => (if t350 = true then (if t337 = t339 then ((tipstaffkit_SameInts.f k t342 t346).bind fun t351 => (if t351 = true then (if t345 = t347 then ((tipstafflaw14_same.f k t331 l0).bind fun t352 => (if t352 = true then ((tipstafflaw14_awake.f k).bind fun t353 => (some t353)) else (none))) else (none)) else (none))) else (none)) else (none))) = some r := H
    have A8 := Aside0.mk A80
    clear A80
    replace H := Option.bind_eq_some_iff.mp H
    obtain ⟨t350, A90, H⟩ := H
    replace H : (if t350 = true then (if t337 = t339 then ((tipstaffkit_SameInts.f k t342 t346).bind fun t351 => (if t351 = true then (if t345 = t347 then ((tipstafflaw14_same.f k t331 l0).bind fun t352 => (if t352 = true then ((tipstafflaw14_awake.f k).bind fun t353 => (some t353)) else (none))) else (none)) else (none))) else (none)) else (none)) = some r := H
    have A9 := Aside0.mk A90
    clear A90
    by_cases c10 : t350 = true
    · subst c10
      have H1 : (if t337 = t339 then ((tipstaffkit_SameInts.f k t342 t346).bind fun t351 => (if t351 = true then (if t345 = t347 then ((tipstafflaw14_same.f k t331 l0).bind fun t352 => (if t352 = true then ((tipstafflaw14_awake.f k).bind fun t353 => (some t353)) else (none))) else (none)) else (none))) else (none)) = some r := by rw [if_pos rfl] at H; exact H
      clear H
      have H := H1
      clear H1
      by_cases c11 : t337 = t339
      · rw [if_pos c11] at H
        have c11b0 : (t337 == t339) = true := beq_iff_eq.mpr c11
        have c11b1 : (t337 != t339) = false := bne_eq_false_iff_eq.mpr c11
        clear c11
        replace H := Option.bind_eq_some_iff.mp H
        obtain ⟨t351, A120, H⟩ := H
        replace H : (if t351 = true then (if t345 = t347 then ((tipstafflaw14_same.f k t331 l0).bind fun t352 => (if t352 = true then ((tipstafflaw14_awake.f k).bind fun t353 => (some t353)) else (none))) else (none)) else (none)) = some r := H
        have A12 := Aside0.mk A120
        clear A120
        by_cases c13 : t351 = true
        · subst c13
          have H1 : (if t345 = t347 then ((tipstafflaw14_same.f k t331 l0).bind fun t352 => (if t352 = true then ((tipstafflaw14_awake.f k).bind fun t353 => (some t353)) else (none))) else (none)) = some r := by rw [if_pos rfl] at H; exact H
          clear H
          have H := H1
          clear H1
          by_cases c14 : t345 = t347
          · rw [if_pos c14] at H
            have c14b0 : (t345 == t347) = true := beq_iff_eq.mpr c14
            have c14b1 : (t345 != t347) = false := bne_eq_false_iff_eq.mpr c14
            clear c14
            replace H := Option.bind_eq_some_iff.mp H
            obtain ⟨t352, A150, H⟩ := H
            replace H : (if t352 = true then ((tipstafflaw14_awake.f k).bind fun t353 => (some t353)) else (none)) = some r := H
            have A15 := Aside0.mk A150
            clear A150
            by_cases c16 : t352 = true
            · subst c16
              have H1 : ((tipstafflaw14_awake.f k).bind fun t353 => (some t353)) = some r := by rw [if_pos rfl] at H; exact H
              clear H
              have H := H1
              clear H1
              replace H := Option.bind_eq_some_iff.mp H
              obtain ⟨t353, A170, H⟩ := H
              replace H : (some t353) = some r := H
              have A17 := Aside0.mk A170
              clear A170
              obtain rfl := Option.some.inj H
              go_enter Try.func5, Try.ntmps5
              go_wp2_with (first | ((with_reducible refine gate_callee (f := 10) rfl ?_); refine goesL_ (some 13) rfl rfl Try.func10 (by kernel_rfl) rfl #[.slice A0 l0.length c0] rfl (by (try simp only [List.map_toArray, List.map_cons, List.map_nil]); first | done | rfl | (simp only [List.length_drop, List.length_take]; rfl)) ?_; (with_reducible refine (tipstafflaw14_light.calls _ _ l0 true _ ?side1 ?side2 A2.out).mono ?_); (case side1 => repeat (first | exact HR0.out | (with_reducible refine Kd.C_alloc ?_ _) | (with_reducible refine Kd.C_drewN ?_ _) | (with_reducible refine Kd.C_drew ?_))); (case side2 => exact HC0.out); rintro e w' ⟨rfl, ⟨nd, rfl⟩⟩; refine ⟨_, rfl, ?_⟩) | ((with_reducible refine gate_callee (f := 12) rfl ?_); refine goesL_ (some 17) rfl rfl Try.func12 (by kernel_rfl) rfl #[.slice A0 l0.length c0] rfl (by (try simp only [List.map_toArray, List.map_cons, List.map_nil]); first | done | rfl | (simp only [List.length_drop, List.length_take]; rfl)) ?_; (with_reducible refine (tipstafflaw14_own.calls _ _ l0 t331 _ ?side1 ?side2 A4.out).mono ?_); (case side1 => repeat (first | exact HR0.out | (with_reducible refine Kd.C_alloc ?_ _) | (with_reducible refine Kd.C_drewN ?_ _) | (with_reducible refine Kd.C_drew ?_))); (case side2 => exact HC0.out); rintro e w18 ⟨v332, rfl, ho0, hb⟩; refine ⟨_, rfl, ?_⟩; have n0_ := Aside0.mk (Kd.R_lower ho0 (below_size (by repeat (first | (with_reducible first | exact HB.out | apply below_alloc | apply pw_below_drewN | apply below_drew1) | exact HB.out)))); have n1_ := Aside0.mk (below_step (by repeat (first | (with_reducible first | exact HB.out | apply below_alloc | apply pw_below_drewN | apply below_drew1) | exact HB.out)) hb); clear HB; have HO333 := n0_; have HB := n1_; clear n0_ n1_; (try clear hb); (try clear hb2); (try clear hk); (try clear hi); (try clear ho0); obtain ⟨Ao19, co19, eo19⟩ := Kd.R_slice HO333.out; subst eo19) | ((with_reducible refine gate_callee (f := 23) rfl ?_); refine goesL_ (some 20) rfl rfl Try.func23 (by kernel_rfl) rfl #[.slice Ao19 t331.length co19] rfl (by (try simp only [List.map_toArray, List.map_cons, List.map_nil]); first | done | rfl | (simp only [List.length_drop, List.length_take]; rfl)) ?_; (with_reducible refine (limit_Jumps.calls k _ _ t331 t334 t337 _ ?side1 ?side2 A5.out).mono ?_); (case side1 => repeat (first | exact (Kd.R_reads' HO333.out).2.2 | (with_reducible refine Kd.C_alloc ?_ _) | (with_reducible refine Kd.C_drewN ?_ _) | (with_reducible refine Kd.C_drew ?_))); (case side2 => exact (Kd.R_reads' HO333.out).2.1); rintro e w20 ⟨v335, rfl, ho0, hb⟩; refine ⟨_, rfl, ?_⟩; have n0_ := Aside0.mk (Kd.R_below (by (with_reducible repeat (first | apply Kd.R_alloc | apply Kd.R_drewN | apply Kd.R_drew)); exact HO333.out) hb); have n1_ := Aside0.mk (Kd.V_lower (Kd.V_mono (ok' := fun k_ => some k_ ≠ (.slice Ao19 t331.length co19 : Value).ownBlock) ho0 (fun k_ hk_ => (Kd.fresh' (Kd.R_lt (by (with_reducible repeat (first | apply Kd.R_alloc | apply Kd.R_drewN | apply Kd.R_drew)); exact HO333.out)) k_ hk_))) (below_size (by repeat (first | (with_reducible first | exact HB.out | apply below_alloc | apply pw_below_drewN | apply below_drew1) | exact HB.out)))); have n2_ := Aside0.mk (below_step (by repeat (first | (with_reducible first | exact HB.out | apply below_alloc | apply pw_below_drewN | apply below_drew1) | exact HB.out)) hb); clear HO333; clear HB; have HO333 := n0_; have HO336 := n1_; have HB := n2_; clear n0_ n1_ n2_; (try clear hb); (try clear hb2); (try clear hk); (try clear hi); (try clear ho0)) | ((with_reducible refine gate_callee (f := 24) rfl ?_); refine goesL_ (some 25) rfl rfl Try.func24 (by kernel_rfl) rfl #[.slice A0 l0.length c0] rfl (by (try simp only [List.map_toArray, List.map_cons, List.map_nil]); first | done | rfl | (simp only [List.length_drop, List.length_take]; rfl)) ?_; (with_reducible refine (tipstaffref14_Jumps.calls k _ _ l0 t338 t339 _ ?side1 ?side2 A6.out).mono ?_); (case side1 => repeat (first | exact (Kd.C_below HR0.out HB.out) | (with_reducible refine Kd.C_alloc ?_ _) | (with_reducible refine Kd.C_drewN ?_ _) | (with_reducible refine Kd.C_drew ?_))); (case side2 => exact HC0.out); rintro e w21 ⟨v340, rfl, ho0, hb⟩; refine ⟨_, rfl, ?_⟩; have n0_ := Aside0.mk (Kd.R_below (by (with_reducible repeat (first | apply Kd.R_alloc | apply Kd.R_drewN | apply Kd.R_drew)); exact HO333.out) hb); have n1_ := Aside0.mk (Kd.V_elder' (by (with_reducible repeat (first | apply Kd.V_alloc | apply Kd.V_drewN | apply Kd.V_drew)); exact HO336.out) (Kd.R_base ho0) hb); have n2_ := Aside0.mk (Kd.R_lower ho0 (below_size (by repeat (first | (with_reducible first | exact HB.out | apply below_alloc | apply pw_below_drewN | apply below_drew1) | exact HB.out)))); have n3_ := Aside0.mk (below_step (by repeat (first | (with_reducible first | exact HB.out | apply below_alloc | apply pw_below_drewN | apply below_drew1) | exact HB.out)) hb); clear HO333; clear HO336; clear HB; have HO333 := n0_; have HO336 := n1_; have HO341 := n2_; have HB := n3_; clear n0_ n1_ n2_ n3_; (try clear hb); (try clear hb2); (try clear hk); (try clear hi); (try clear ho0)) | ((with_reducible refine gate_callee (f := 25) rfl ?_); refine goesL_ (some 30) rfl rfl Try.func25 (by kernel_rfl) rfl #[.slice Ao19 t331.length co19] rfl (by (try simp only [List.map_toArray, List.map_cons, List.map_nil]); first | done | rfl | (simp only [List.length_drop, List.length_take]; rfl)) ?_; (with_reducible refine (limit_Stops.calls k _ _ t331 t342 t345 _ ?side1 ?side2 A7.out).mono ?_); (case side1 => repeat (first | exact (Kd.R_reads' HO333.out).2.2 | (with_reducible refine Kd.C_alloc ?_ _) | (with_reducible refine Kd.C_drewN ?_ _) | (with_reducible refine Kd.C_drew ?_))); (case side2 => exact (Kd.R_reads' HO333.out).2.1); rintro e w22 ⟨v343, rfl, ho0, hb⟩; refine ⟨_, rfl, ?_⟩; have n0_ := Aside0.mk (Kd.R_below (by (with_reducible repeat (first | apply Kd.R_alloc | apply Kd.R_drewN | apply Kd.R_drew)); exact HO333.out) hb); have n1_ := Aside0.mk (Kd.V_below (by (with_reducible repeat (first | apply Kd.V_alloc | apply Kd.V_drewN | apply Kd.V_drew)); exact HO336.out) hb); have n2_ := Aside0.mk (Kd.R_below (by (with_reducible repeat (first | apply Kd.R_alloc | apply Kd.R_drewN | apply Kd.R_drew)); exact HO341.out) hb); have n3_ := Aside0.mk (Kd.V_lower (Kd.V_mono (ok' := fun k_ => some k_ ≠ (.slice Ao19 t331.length co19 : Value).ownBlock ∧ some k_ ≠ (v340 : Value).ownBlock) ho0 (fun k_ hk_ => ⟨(Kd.fresh' (Kd.R_lt (by (with_reducible repeat (first | apply Kd.R_alloc | apply Kd.R_drewN | apply Kd.R_drew)); exact HO333.out)) k_ hk_), (Kd.fresh' (Kd.R_lt (by (with_reducible repeat (first | apply Kd.R_alloc | apply Kd.R_drewN | apply Kd.R_drew)); exact HO341.out)) k_ hk_)⟩)) (below_size (by repeat (first | (with_reducible first | exact HB.out | apply below_alloc | apply pw_below_drewN | apply below_drew1) | exact HB.out)))); have n4_ := Aside0.mk (below_step (by repeat (first | (with_reducible first | exact HB.out | apply below_alloc | apply pw_below_drewN | apply below_drew1) | exact HB.out)) hb); clear HO333; clear HO336; clear HO341; clear HB; have HO333 := n0_; have HO336 := n1_; have HO341 := n2_; have HO344 := n3_; have HB := n4_; clear n0_ n1_ n2_ n3_ n4_; (try clear hb); (try clear hb2); (try clear hk); (try clear hi); (try clear ho0)) | ((with_reducible refine gate_callee (f := 26) rfl ?_); refine goesL_ (some 35) rfl rfl Try.func26 (by kernel_rfl) rfl #[.slice A0 l0.length c0] rfl (by (try simp only [List.map_toArray, List.map_cons, List.map_nil]); first | done | rfl | (simp only [List.length_drop, List.length_take]; rfl)) ?_; (with_reducible refine (tipstaffref14_Stops.calls k _ _ l0 t346 t347 _ ?side1 ?side2 A8.out).mono ?_); (case side1 => repeat (first | exact (Kd.C_below HR0.out HB.out) | (with_reducible refine Kd.C_alloc ?_ _) | (with_reducible refine Kd.C_drewN ?_ _) | (with_reducible refine Kd.C_drew ?_))); (case side2 => exact HC0.out); rintro e w23 ⟨v348, rfl, ho0, hb⟩; refine ⟨_, rfl, ?_⟩; have n0_ := Aside0.mk (Kd.R_below (by (with_reducible repeat (first | apply Kd.R_alloc | apply Kd.R_drewN | apply Kd.R_drew)); exact HO333.out) hb); have n1_ := Aside0.mk (Kd.V_elder' (by (with_reducible repeat (first | apply Kd.V_alloc | apply Kd.V_drewN | apply Kd.V_drew)); exact HO336.out) (Kd.R_base ho0) hb); have n2_ := Aside0.mk (Kd.R_elder' (by (with_reducible repeat (first | apply Kd.R_alloc | apply Kd.R_drewN | apply Kd.R_drew)); exact HO341.out) (Kd.R_base ho0) hb); have n3_ := Aside0.mk (Kd.V_elder' (by (with_reducible repeat (first | apply Kd.V_alloc | apply Kd.V_drewN | apply Kd.V_drew)); exact HO344.out) (Kd.R_base ho0) hb); have n4_ := Aside0.mk (Kd.R_lower (Kd.R_new' ho0 (Kd.R_lt (by (with_reducible repeat (first | apply Kd.R_alloc | apply Kd.R_drewN | apply Kd.R_drew)); exact HO341.out))) (below_size (by repeat (first | (with_reducible first | exact HB.out | apply below_alloc | apply pw_below_drewN | apply below_drew1) | exact HB.out)))); have n5_ := Aside0.mk (below_step (by repeat (first | (with_reducible first | exact HB.out | apply below_alloc | apply pw_below_drewN | apply below_drew1) | exact HB.out)) hb); clear HO333; clear HO336; clear HO341; clear HO344; clear HB; have HO333 := n0_; have HO336 := n1_; have HO341 := n2_; have HO344 := n3_; have HO349 := n4_; have HB := n5_; clear n0_ n1_ n2_ n3_ n4_ n5_; (try clear hb); (try clear hb2); (try clear hk); (try clear hi); (try clear ho0); obtain ⟨Ao24, co24, eo24⟩ := Kd.V_slice HO336.out; subst eo24; obtain ⟨Ao25, co25, eo25⟩ := Kd.R_slice HO341.out; subst eo25) | ((with_reducible refine gate_callee (f := 17) rfl ?_); refine goesL_ (some 40) rfl rfl Try.func17 (by kernel_rfl) rfl #[.slice Ao24 t334.length co24, .slice Ao25 t338.length co25] rfl (by (try simp only [List.map_toArray, List.map_cons, List.map_nil]); first | done | rfl | (simp only [List.length_drop, List.length_take]; rfl)) ?_; (with_reducible refine (tipstaffkit_SameInts.calls k _ _ t334 _ _ t338 true _ ?side1 ?side2 ?side3 ?side4 A9.out).mono ?_); (case side1 => repeat (first | exact (Kd.V_reads' HO336.out).2.2 | (with_reducible refine Kd.C_alloc ?_ _) | (with_reducible refine Kd.C_drewN ?_ _) | (with_reducible refine Kd.C_drew ?_))); (case side2 => exact (Kd.V_reads' HO336.out).2.1); (case side3 => repeat (first | exact (Kd.R_reads' HO341.out).2.2 | (with_reducible refine Kd.C_alloc ?_ _) | (with_reducible refine Kd.C_drewN ?_ _) | (with_reducible refine Kd.C_drew ?_))); (case side4 => exact (Kd.R_reads' HO341.out).2.1); rintro e w' ⟨rfl, ⟨nd, rfl⟩⟩; refine ⟨_, rfl, ?_⟩; obtain ⟨Ao26, co26, eo26⟩ := Kd.V_slice HO344.out; subst eo26; obtain ⟨Ao27, co27, eo27⟩ := Kd.R_slice HO349.out; subst eo27) | (go_at_call 17; (with_reducible refine (tipstaffkit_SameInts.calls k _ _ t342 _ _ t346 true _ ?side1 ?side2 ?side3 ?side4 A12.out).mono ?_); (case side1 => repeat (first | exact (Kd.V_reads' HO344.out).2.2 | (with_reducible refine Kd.C_alloc ?_ _) | (with_reducible refine Kd.C_drewN ?_ _) | (with_reducible refine Kd.C_drew ?_))); (case side2 => exact (Kd.V_reads' HO344.out).2.1); (case side3 => repeat (first | exact (Kd.R_reads' HO349.out).2.2 | (with_reducible refine Kd.C_alloc ?_ _) | (with_reducible refine Kd.C_drewN ?_ _) | (with_reducible refine Kd.C_drew ?_))); (case side4 => exact (Kd.R_reads' HO349.out).2.1); rintro e w' ⟨rfl, ⟨nd, rfl⟩⟩) | (go_at_call 18; (with_reducible refine (tipstafflaw14_same.calls k _ _ t331 _ _ l0 true _ ?side1 ?side2 ?side3 ?side4 A15.out).mono ?_); (case side1 => repeat (first | exact (Kd.R_reads' HO333.out).2.2 | (with_reducible refine Kd.C_alloc ?_ _) | (with_reducible refine Kd.C_drewN ?_ _) | (with_reducible refine Kd.C_drew ?_))); (case side2 => exact (Kd.R_reads' HO333.out).2.1); (case side3 => repeat (first | exact (Kd.C_below HR0.out (by repeat (first | (with_reducible first | exact HB.out | apply below_alloc | apply pw_below_drewN | apply below_drew1) | exact HB.out))) | (with_reducible refine Kd.C_alloc ?_ _) | (with_reducible refine Kd.C_drewN ?_ _) | (with_reducible refine Kd.C_drew ?_))); (case side4 => exact HC0.out); rintro e w' ⟨rfl, ⟨nd, rfl⟩⟩) | (go_at_call 11; (with_reducible refine (tipstafflaw14_awake.calls k  t353 _ A17.out).mono ?_); rintro e w28 ⟨rfl, hb⟩; have n0_ := Aside0.mk (Kd.R_below (by (with_reducible repeat (first | apply Kd.R_alloc | apply Kd.R_drewN | apply Kd.R_drew)); exact HO333.out) hb); have n1_ := Aside0.mk (Kd.V_below (by (with_reducible repeat (first | apply Kd.V_alloc | apply Kd.V_drewN | apply Kd.V_drew)); exact HO336.out) hb); have n2_ := Aside0.mk (Kd.R_below (by (with_reducible repeat (first | apply Kd.R_alloc | apply Kd.R_drewN | apply Kd.R_drew)); exact HO341.out) hb); have n3_ := Aside0.mk (Kd.V_below (by (with_reducible repeat (first | apply Kd.V_alloc | apply Kd.V_drewN | apply Kd.V_drew)); exact HO344.out) hb); have n4_ := Aside0.mk (Kd.R_below (by (with_reducible repeat (first | apply Kd.R_alloc | apply Kd.R_drewN | apply Kd.R_drew)); exact HO349.out) hb); have n5_ := Aside0.mk (below_step (by repeat (first | (with_reducible first | exact HB.out | apply below_alloc | apply pw_below_drewN | apply below_drew1) | exact HB.out)) hb); clear HO333; clear HO336; clear HO341; clear HO344; clear HO349; clear HB; have HO333 := n0_; have HO336 := n1_; have HO341 := n2_; have HO344 := n3_; have HO349 := n4_; have HB := n5_; clear n0_ n1_ n2_ n3_ n4_ n5_; (try clear hb); (try clear hb2); (try clear hk); (try clear hi)))
              go_ret
              exact ⟨by first | rfl | (simp [errW_none, errW_some] <;> rfl) | (simp [*, errW_none, errW_some] <;> rfl) | (simp (discharger := omega) only [Int.tdiv_eq_ediv_of_nonneg, Int.tmod_eq_emod_of_nonneg] <;> rfl), by repeat (first | (with_reducible first | exact HB.out | apply below_alloc | apply pw_below_drewN | apply below_drew1) | exact HB.out)⟩
            · replace c16 := Bool.eq_false_iff.mpr c16
              subst c16
              have H1 : (none) = some r := by rw [if_neg (show ¬ (false = true) by decide)] at H; exact H
              clear H
              have H := H1
              clear H1
              exact absurd H (by simp)
          · rw [if_neg c14] at H
            exact absurd H (by simp)
        · replace c13 := Bool.eq_false_iff.mpr c13
          subst c13
          have H1 : (none) = some r := by rw [if_neg (show ¬ (false = true) by decide)] at H; exact H
          clear H
          have H := H1
          clear H1
          exact absurd H (by simp)
      · rw [if_neg c11] at H
        exact absurd H (by simp)
    · replace c10 := Bool.eq_false_iff.mpr c10
      subst c10
      have H1 : (none) = some r := by rw [if_neg (show ¬ (false = true) by decide)] at H; exact H
      clear H
      have H := H1
      clear H1
      exact absurd H (by simp)
  · replace c3 := Bool.eq_false_iff.mpr c3
    subst c3
    have H1 : ((tipstafflaw14_awake.f k).bind fun t330 => (some t330)) = some r := by rw [if_neg (show ¬ (false = true) by decide)] at H; exact H
    clear H
    have H := H1
    clear H1
    replace H := Option.bind_eq_some_iff.mp H
    obtain ⟨t330, A290, H⟩ := H
    replace H : (some t330) = some r := H
    have A29 := Aside0.mk A290
    clear A290
    obtain rfl := Option.some.inj H
    go_enter Try.func5, Try.ntmps5
    go_wp2_with (first | ((with_reducible refine gate_callee (f := 10) rfl ?_); refine goesL_ (some 13) rfl rfl Try.func10 (by kernel_rfl) rfl #[.slice A0 l0.length c0] rfl (by (try simp only [List.map_toArray, List.map_cons, List.map_nil]); first | done | rfl | (simp only [List.length_drop, List.length_take]; rfl)) ?_; (with_reducible refine (tipstafflaw14_light.calls _ _ l0 false _ ?side1 ?side2 A2.out).mono ?_); (case side1 => repeat (first | exact HR0.out | (with_reducible refine Kd.C_alloc ?_ _) | (with_reducible refine Kd.C_drewN ?_ _) | (with_reducible refine Kd.C_drew ?_))); (case side2 => exact HC0.out); rintro e w' ⟨rfl, ⟨nd, rfl⟩⟩; refine ⟨_, rfl, ?_⟩) | ((with_reducible refine gate_callee (f := 11) rfl ?_); refine goesL_ (some 15) rfl rfl Try.func11 (by kernel_rfl) rfl #[] rfl (by (try simp only [List.map_toArray, List.map_cons, List.map_nil]); first | done | rfl | (simp only [List.length_drop, List.length_take]; rfl)) ?_; (with_reducible refine (tipstafflaw14_awake.calls k  t330 _ A29.out).mono ?_); rintro e w30 ⟨rfl, hb⟩; refine ⟨_, rfl, ?_⟩; have n0_ := Aside0.mk (below_step (by repeat (first | (with_reducible first | exact HB.out | apply below_alloc | apply pw_below_drewN | apply below_drew1) | exact HB.out)) hb); clear HB; have HB := n0_; clear n0_; (try clear hb); (try clear hb2); (try clear hk); (try clear hi)))
    go_ret
    exact ⟨by first | rfl | (simp [errW_none, errW_some] <;> rfl) | (simp [*, errW_none, errW_some] <;> rfl) | (simp (discharger := omega) only [Int.tdiv_eq_ediv_of_nonneg, Int.tmod_eq_emod_of_nonneg] <;> rfl), by repeat (first | (with_reducible first | exact HB.out | apply below_alloc | apply pw_below_drewN | apply below_drew1) | exact HB.out)⟩

end Go.Proofs.Ytlpdoieokgeikaa.S
