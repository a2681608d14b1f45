-- PRINTED by print.py (a twelfth state) out of the translation. Not trusted: Lean checks it.
import Derived.Test.YtlpdoieokgeikaaS0
import Derived.Test.YtlpdoieokgeikaaS15
import Derived.Test.YtlpdoieokgeikaaS16
import Derived.Test.YtlpdoieokgeikaaHcounts
namespace Go.Proofs.Ytlpdoieokgeikaa.S
open Go.RowKit Go.Proofs.YtlpdoieokgeikaaW.PrintWords Go.Proofs.YtlpdoieokgeikaaW.PrintLast Go.Proofs.YtlpdoieokgeikaaW.PrintMore
attribute [local go_sem] Go.Proofs.YtlpdoieokgeikaaW.PrintXtra.isSome_setCell max2_int min2_int max_two min_two max_three min_three max_four min_four   -- for this text's walks alone
set_option linter.unusedVariables false
set_option linter.unusedSimpArgs false

/-! ### tipstafflaw14_LimitMore: function 8 -/
mutual
def tipstafflaw14_LimitMore.j0 : Nat → Bool → List Int → List Int → Bool → Option (Bool)
 | 0, _, _, _, _ => none
 | k + 1, x11, x13, x15, x61 => if x61 = true then (none) else (tipstafflaw14_LimitMore.l0 k x11 x13 x15 0)
def tipstafflaw14_LimitMore.l0 : Nat → Bool → List Int → List Int → Int → Option (Bool)
 | 0, _, _, _, _ => none
 | k + 1, x11, x13, x15, x17 => if x17 < 5 then (if 0 ≤ x17 then (if x17 < (x15.length : Int) then (if x17 < (x13.length : Int) then (if (rd x15 x17) > (rd x13 x17) then (none) else (if x17 > 1 then (if (rd x13 x17) = (rd x15 x17) then (tipstafflaw14_LimitMore.l0 k x11 x13 x15 (wrap64 (x17 + 1))) else (none)) else (tipstafflaw14_LimitMore.l0 k x11 x13 x15 (wrap64 (x17 + 1))))) else (none)) else (none)) else (none)) else (some x11)
end
def tipstafflaw14_LimitMore.f (k : Nat) (l0 : List Int) (a1 : Int) (a2 : Int) (a3 : Int) (a4 : Int) : Option (Bool) := (tipstafflaw14_LimitKnown.f k).bind fun t530 => ((tipstafflaw14_made.f k l0).bind fun t531 => ((tipstaffkit_Mod.f a1 30).bind fun t534 => ((tipstaffkit_Mod.f a2 5).bind fun t535 => ((limit_Counts.f k t531 t534 (wrap64 (1 + t535))).bind fun bt536 => ((tipstaffkit_Mod.f a3 10).bind fun t540 => ((tipstaffkit_Mod.f a4 5).bind fun t541 => ((limit_Counts.f k t531 (wrap64 (t534 + t540)) (wrap64 ((wrap64 (1 + t535)) + t541))).bind fun bt542 => (if bt536.2 = 0 then (if bt542.2 = 0 then (if (bt536.1.length : Int) = 5 then (tipstafflaw14_LimitMore.j0 k t530 bt536.1 bt542.1 ((bt542.1.length : Int) != 5)) else (tipstafflaw14_LimitMore.j0 k t530 bt536.1 bt542.1 true)) else (tipstafflaw14_LimitMore.j0 k t530 bt536.1 bt542.1 true)) else (tipstafflaw14_LimitMore.j0 k t530 bt536.1 bt542.1 true)))))))))
theorem tipstafflaw14_LimitMore.mono_l : ∀ k, (∀ y0 y1 y2 y3, LeO (tipstafflaw14_LimitMore.j0 k y0 y1 y2 y3) (tipstafflaw14_LimitMore.j0 (k + 1) y0 y1 y2 y3)) ∧ (∀ y0 y1 y2 y3, LeO (tipstafflaw14_LimitMore.l0 k y0 y1 y2 y3) (tipstafflaw14_LimitMore.l0 (k + 1) y0 y1 y2 y3))
 | 0 => ⟨fun _ _ _ _ r h => by simp [tipstafflaw14_LimitMore.j0] at h, fun _ _ _ _ r h => by simp [tipstafflaw14_LimitMore.l0] at h⟩
 | k + 1 => by
  obtain ⟨ih0, ih1⟩ := tipstafflaw14_LimitMore.mono_l k
  refine ⟨?_, ?_⟩
  ·intro y0 y1 y2 y3
   unfold tipstafflaw14_LimitMore.j0
   repeat' first
   | (with_reducible exact ih0 _ _ _ _)
   | (with_reducible exact ih1 _ _ _ _)
   | (with_reducible exact limit_Counts.mono _ _ _ _)
   | (with_reducible exact tipstafflaw14_LimitKnown.mono _)
   | (with_reducible exact tipstafflaw14_made.mono _ _)
   | (with_reducible exact LeO.refl _)
   | (with_reducible exact LeO.none _)
   | (with_reducible refine LeO.ite ?_ ?_)
   | (with_reducible refine LeO.bind ?_ (fun _ => ?_))
   | exact ih0 _ _ _ _
   | exact ih1 _ _ _ _
   | exact limit_Counts.mono _ _ _ _
   | exact tipstafflaw14_LimitKnown.mono _
   | exact tipstafflaw14_made.mono _ _
   | exact LeO.none _
   | refine LeO.ite ?_ ?_
   | refine LeO.bind ?_ (fun _ => ?_)
  ·intro y0 y1 y2 y3
   unfold tipstafflaw14_LimitMore.l0
   repeat' first
   | (with_reducible exact ih0 _ _ _ _)
   | (with_reducible exact ih1 _ _ _ _)
   | (with_reducible exact limit_Counts.mono _ _ _ _)
   | (with_reducible exact tipstafflaw14_LimitKnown.mono _)
   | (with_reducible exact tipstafflaw14_made.mono _ _)
   | (with_reducible exact LeO.refl _)
   | (with_reducible exact LeO.none _)
   | (with_reducible refine LeO.ite ?_ ?_)
   | (with_reducible refine LeO.bind ?_ (fun _ => ?_))
   | exact ih0 _ _ _ _
   | exact ih1 _ _ _ _
   | exact limit_Counts.mono _ _ _ _
   | exact tipstafflaw14_LimitKnown.mono _
   | exact tipstafflaw14_made.mono _ _
   | exact LeO.none _
   | refine LeO.ite ?_ ?_
   | refine LeO.bind ?_ (fun _ => ?_)
theorem tipstafflaw14_LimitMore.mono : ∀ a0 a1 a2 a3 a4 k, LeO (tipstafflaw14_LimitMore.f k a0 a1 a2 a3 a4) (tipstafflaw14_LimitMore.f (k + 1) a0 a1 a2 a3 a4) := by
 intro a0 a1 a2 a3 a4 k
 obtain ⟨ih0, ih1⟩ := tipstafflaw14_LimitMore.mono_l k
 unfold tipstafflaw14_LimitMore.f
 repeat' first
   | (with_reducible exact ih0 _ _ _ _)
   | (with_reducible exact ih1 _ _ _ _)
   | (with_reducible exact limit_Counts.mono _ _ _ _)
   | (with_reducible exact tipstafflaw14_LimitKnown.mono _)
   | (with_reducible exact tipstafflaw14_made.mono _ _)
   | (with_reducible exact LeO.refl _)
   | (with_reducible exact LeO.none _)
   | (with_reducible refine LeO.ite ?_ ?_)
   | (with_reducible refine LeO.bind ?_ (fun _ => ?_))
   | exact ih0 _ _ _ _
   | exact ih1 _ _ _ _
   | exact limit_Counts.mono _ _ _ _
   | exact tipstafflaw14_LimitKnown.mono _
   | exact tipstafflaw14_made.mono _ _
   | exact LeO.none _
   | refine LeO.ite ?_ ?_
   | refine LeO.bind ?_ (fun _ => ?_)
set_option maxHeartbeats 8000000 in
set_option maxRecDepth 100000 in
theorem tipstafflaw14_LimitMore.calls (k : Nat) (A0 : Option Addr) (c0 : Nat) (l0 : List Int) (a1 : Int) (a2 : Int) (a3 : Int) (a4 : Int) (r : Bool) (w : World) (hr0 : Kd.C (Kd.int .i64) w A0 l0.length l0) (hc0 : l0.length ≤ c0) (h : tipstafflaw14_LimitMore.f k l0 a1 a2 a3 a4 = some r) :
  Calls Try.prog 8 #[.slice A0 l0.length c0, .int .i64 a1, .int .i64 a2, .int .i64 a3, .int .i64 a4] w fun e w' => e = .returned (.bool r) ∧ Below w.heap.size w w' := by
 have HR0 := Aside0.mk hr0
 have HC0 := Aside0.mk hc0
 clear hr0 hc0
 have HB := Aside0.mk (Below.refl w.heap.size w)
 have H : ((tipstafflaw14_LimitKnown.f k).bind fun t530 => ((tipstafflaw14_made.f k l0).bind fun t531 => ((tipstaffkit_Mod.f a1 30).bind fun t534 => ((tipstaffkit_Mod.f a2 5).bind fun t535 => ((limit_Counts.f k t531 t534 (wrap64 (1 + t535))).bind fun bt536 => ((tipstaffkit_Mod.f a3 10).bind fun t540 => ((tipstaffkit_Mod.f a4 5).bind fun t541 => ((limit_Counts.f k t531 (wrap64 (t534 + t540)) (wrap64 ((wrap64 (1 + t535)) + t541))).bind fun bt542 => (if bt536.2 = 0 then (if bt542.2 = 0 then (if (bt536.1.length : Int) = 5 then (tipstafflaw14_LimitMore.j0 k t530 bt536.1 bt542.1 ((bt542.1.length : Int) != 5)) else (tipstafflaw14_LimitMore.j0 k t530 bt536.1 bt542.1 true)) else (tipstafflaw14_LimitMore.j0 k t530 bt536.1 bt542.1 true)) else (tipstafflaw14_LimitMore.j0 k t530 bt536.1 bt542.1 true)))))))))) = some r := h
 clear h
 replace H := Option.bind_eq_some_iff.mp H
 obtain ⟨t530, A60, H⟩ := H
 replace H : ((tipstafflaw14_made.f k l0).bind fun t531 => ((tipstaffkit_Mod.f a1 30).bind fun t534 => ((tipstaffkit_Mod.f a2 5).bind fun t535 => ((limit_Counts.f k t531 t534 (wrap64 (1 + t535))).bind fun bt536 => ((tipstaffkit_Mod.f a3 10).bind fun t540 => ((tipstaffkit_Mod.f a4 5).bind fun t541 => ((limit_Counts.f k t531 (wrap64 (t534 + t540)) (wrap64 ((wrap64 (1 + t535)) + t541))).bind fun bt542 => (if bt536.2 = 0 then (if bt542.2 = 0 then (if (bt536.1.length : Int) = 5 then (tipstafflaw14_LimitMore.j0 k t530 bt536.1 bt542.1 ((bt542.1.length : Int) != 5)) else (tipstafflaw14_LimitMore.j0 k t530 bt536.1 bt542.1 true)) else (tipstafflaw14_LimitMore.j0 k t530 bt536.1 bt542.1 true)) else (tipstafflaw14_LimitMore.j0 k t530 bt536.1 bt542.1 true))))))))) = some r := H
 have A6 := Aside0.mk A60
 clear A60
 replace H := Option.bind_eq_some_iff.mp H
 obtain ⟨t531, A70, H⟩ := H
 replace H : ((tipstaffkit_Mod.f a1 30).bind fun t534 => ((tipstaffkit_Mod.f a2 5).bind fun t535 => ((limit_Counts.f k t531 t534 (wrap64 (1 + t535))).bind fun bt536 => ((tipstaffkit_Mod.f a3 10).bind fun t540 => ((tipstaffkit_Mod.f a4 5).bind fun t541 => ((limit_Counts.f k t531 (wrap64 (t534 + t540)) (wrap64 ((wrap64 (1 + t535)) + t541))).bind fun bt542 => (if bt536.2 = 0 then (if bt542.2 = 0 then (if (bt536.1.length : Int) = 5 then (tipstafflaw14_LimitMore.j0 k t530 bt536.1 bt542.1 ((bt542.1.length : Int) != 5)) else (tipstafflaw14_LimitMore.j0 k t530 bt536.1 bt542.1 true)) else (tipstafflaw14_LimitMore.j0 k t530 bt536.1 bt542.1 true)) else (tipstafflaw14_LimitMore.j0 k t530 bt536.1 bt542.1 true)))))))) = some r := H
 have A7 := Aside0.mk A70
 clear A70
 replace H := Option.bind_eq_some_iff.mp H
 obtain ⟨t534, A80, H⟩ := H
 replace H : ((tipstaffkit_Mod.f a2 5).bind fun t535 => ((limit_Counts.f k t531 t534 (wrap64 (1 + t535))).bind fun bt536 => ((tipstaffkit_Mod.f a3 10).bind fun t540 => ((tipstaffkit_Mod.f a4 5).bind fun t541 => ((limit_Counts.f k t531 (wrap64 (t534 + t540)) (wrap64 ((wrap64 (1 + t535)) + t541))).bind fun bt542 => (if bt536.2 = 0 then (if bt542.2 = 0 then (if (bt536.1.length : Int) = 5 then (tipstafflaw14_LimitMore.j0 k t530 bt536.1 bt542.1 ((bt542.1.length : Int) != 5)) else (tipstafflaw14_LimitMore.j0 k t530 bt536.1 bt542.1 true)) else (tipstafflaw14_LimitMore.j0 k t530 bt536.1 bt542.1 true)) else (tipstafflaw14_LimitMore.j0 k t530 bt536.1 bt542.1 true))))))) = some r := H
 have A8 := Aside0.mk A80
 clear A80
 replace H := Option.bind_eq_some_iff.mp H
 obtain ⟨t535, A90, H⟩ := H
 replace H : ((limit_Counts.f k t531 t534 (wrap64 (1 + t535))).bind fun bt536 => ((tipstaffkit_Mod.f a3 10).bind fun t540 => ((tipstaffkit_Mod.f a4 5).bind fun t541 => ((limit_Counts.f k t531 (wrap64 (t534 + t540)) (wrap64 ((wrap64 (1 + t535)) + t541))).bind fun bt542 => (if bt536.2 = 0 then (if bt542.2 = 0 then (if (bt536.1.length : Int) = 5 then (tipstafflaw14_LimitMore.j0 k t530 bt536.1 bt542.1 ((bt542.1.length : Int) != 5)) else (tipstafflaw14_LimitMore.j0 k t530 bt536.1 bt542.1 true)) else (tipstafflaw14_LimitMore.j0 k t530 bt536.1 bt542.1 true)) else (tipstafflaw14_LimitMore.j0 k t530 bt536.1 bt542.1 true)))))) = some r := H
 have A9 := Aside0.mk A90
 clear A90
 replace H := Option.bind_eq_some_iff.mp H
 obtain ⟨⟨t536, t537⟩, A100, H⟩ := H
 replace H : ((tipstaffkit_Mod.f a3 10).bind fun t540 => ((tipstaffkit_Mod.f a4 5).bind fun t541 => ((limit_Counts.f k t531 (wrap64 (t534 + t540)) (wrap64 ((wrap64 (1 + t535)) + t541))).bind fun bt542 => (if t537 = 0 then (if bt542.2 = 0 then (if (t536.length : Int) = 5 then (tipstafflaw14_LimitMore.j0 k t530 t536 bt542.1 ((bt542.1.length : Int) != 5)) else (tipstafflaw14_LimitMore.j0 k t530 t536 bt542.1 true)) else (tipstafflaw14_LimitMore.j0 k t530 t536 bt542.1 true)) else (tipstafflaw14_LimitMore.j0 k t530 t536 bt542.1 true))))) = some r := H
 have A10 := Aside0.mk A100
 clear A100
 replace H := Option.bind_eq_some_iff.mp H
 obtain ⟨t540, A110, H⟩ := H
 replace H : ((tipstaffkit_Mod.f a4 5).bind fun t541 => ((limit_Counts.f k t531 (wrap64 (t534 + t540)) (wrap64 ((wrap64 (1 + t535)) + t541))).bind fun bt542 => (if t537 = 0 then (if bt542.2 = 0 then (if (t536.length : Int) = 5 then (tipstafflaw14_LimitMore.j0 k t530 t536 bt542.1 ((bt542.1.length : Int) != 5)) else (tipstafflaw14_LimitMore.j0 k t530 t536 bt542.1 true)) else (tipstafflaw14_LimitMore.j0 k t530 t536 bt542.1 true)) else (tipstafflaw14_LimitMore.j0 k t530 t536 bt542.1 true)))) = some r := H
 have A11 := Aside0.mk A110
 clear A110
 replace H := Option.bind_eq_some_iff.mp H
 obtain ⟨t541, A120, H⟩ := H
 replace H : ((limit_Counts.f k t531 (wrap64 (t534 + t540)) (wrap64 ((wrap64 (1 + t535)) + t541))).bind fun bt542 => (if t537 = 0 then (if bt542.2 = 0 then (if (t536.length : Int) = 5 then (tipstafflaw14_LimitMore.j0 k t530 t536 bt542.1 ((bt542.1.length : Int) != 5)) else (tipstafflaw14_LimitMore.j0 k t530 t536 bt542.1 true)) else (tipstafflaw14_LimitMore.j0 k t530 t536 bt542.1 true)) else (tipstafflaw14_LimitMore.j0 k t530 t536 bt542.1 true))) = some r := H
 have A12 := Aside0.mk A120
 clear A120
 replace H := Option.bind_eq_some_iff.mp H
 obtain ⟨⟨t542, t543⟩, A130, H⟩ := H
 replace H : (if t537 = 0 then (if t543 = 0 then (if (t536.length : Int) = 5 then (tipstafflaw14_LimitMore.j0 k t530 t536 t542 ((t542.length : Int) != 5)) else (tipstafflaw14_LimitMore.j0 k t530 t536 t542 true)) else (tipstafflaw14_LimitMore.j0 k t530 t536 t542 true)) else (tipstafflaw14_LimitMore.j0 k t530 t536 t542 true)) = some r := H
 have A13 := Aside0.mk A130
 clear A130
 have HC14 := Aside0.mk H
 clear H
 go_enter Try.func8, Try.ntmps8
 go_upto_region 6 with (first | (go_at_call 6; (with_reducible refine (tipstafflaw14_LimitKnown.calls k  t530 _ A6.out).mono ?_); rintro e w15 ⟨rfl, hb⟩; have n0_ := Aside0.mk (below_step (by repeat (first | (with_reducible first | exact HB.out | apply below_alloc | apply pw_below_drewN | apply below_drew1) | exact HB.out)) hb); clear HB; have HB := n0_; clear n0_; (try clear hb); (try clear hb2); (try clear hk); (try clear hi)) | (go_at_call 31; (with_reducible refine (tipstafflaw14_made.calls k _ _ l0 t531 _ ?side1 ?side2 A7.out).mono ?_); (case side1 => repeat (first | exact (Kd.C_below HR0.out HB.out) | (with_reducible refine Kd.C_alloc ?_ _) | (with_reducible refine Kd.C_drewN ?_ _) | (with_reducible refine Kd.C_drew ?_))); (case side2 => exact HC0.out); rintro e w16 ⟨v532, rfl, ho0, hb⟩; have n0_ := Aside0.mk (Kd.R_lower ho0 (below_size (by repeat (first | (with_reducible first | exact HB.out | apply below_alloc | apply pw_below_drewN | apply below_drew1) | exact HB.out)))); have n1_ := Aside0.mk (below_step (by repeat (first | (with_reducible first | exact HB.out | apply below_alloc | apply pw_below_drewN | apply below_drew1) | exact HB.out)) hb); clear HB; have HO533 := n0_; have HB := n1_; clear n0_ n1_; (try clear hb); (try clear hb2); (try clear hk); (try clear hi); (try clear ho0)) | (go_at_call 32; (with_reducible refine (tipstaffkit_Mod.calls a1 30 t534 _ A8.out).mono ?_); rintro e w' ⟨rfl, ⟨nd, rfl⟩⟩; (try first | exact ⟨rfl, _, World.drewN_drewN _ _ _⟩ | exact ⟨rfl, _, Eq.trans (World.drewN_drewN _ _ _) (congrArg (World.drewN _) (Nat.add_assoc _ _ _))⟩)) | (go_at_call 32; (with_reducible refine (tipstaffkit_Mod.calls a2 5 t535 _ A9.out).mono ?_); rintro e w' ⟨rfl, ⟨nd, rfl⟩⟩; (try first | exact ⟨rfl, _, World.drewN_drewN _ _ _⟩ | exact ⟨rfl, _, Eq.trans (World.drewN_drewN _ _ _) (congrArg (World.drewN _) (Nat.add_assoc _ _ _))⟩); obtain ⟨Ao17, co17, eo17⟩ := Kd.R_slice HO533.out; subst eo17) | (go_at_call 15; (with_reducible refine (limit_Counts.calls k _ _ t531 t534 (wrap64 (1 + t535)) t536 t537 _ ?side1 ?side2 A10.out).mono ?_); (case side1 => repeat (first | exact (Kd.R_reads' HO533.out).2.2 | (with_reducible refine Kd.C_alloc ?_ _) | (with_reducible refine Kd.C_drewN ?_ _) | (with_reducible refine Kd.C_drew ?_))); (case side2 => exact (Kd.R_reads' HO533.out).2.1); rintro e w18 ⟨v538, rfl, ho0, hb⟩; have n0_ := Aside0.mk (Kd.R_below (by (with_reducible repeat (first | apply Kd.R_alloc | apply Kd.R_drewN | apply Kd.R_drew)); exact HO533.out) hb); have n1_ := Aside0.mk (Kd.R_lower ho0 (below_size (by repeat (first | (with_reducible first | exact HB.out | apply below_alloc | apply pw_below_drewN | apply below_drew1) | exact HB.out)))); have n2_ := Aside0.mk (below_step (by repeat (first | (with_reducible first | exact HB.out | apply below_alloc | apply pw_below_drewN | apply below_drew1) | exact HB.out)) hb); clear HO533; clear HB; have HO533 := n0_; have HO539 := n1_; have HB := n2_; clear n0_ n1_ n2_; (try clear hb); (try clear hb2); (try clear hk); (try clear hi); (try clear ho0)) | (go_at_call 32; (with_reducible refine (tipstaffkit_Mod.calls a3 10 t540 _ A11.out).mono ?_); rintro e w' ⟨rfl, ⟨nd, rfl⟩⟩; (try first | exact ⟨rfl, _, World.drewN_drewN _ _ _⟩ | exact ⟨rfl, _, Eq.trans (World.drewN_drewN _ _ _) (congrArg (World.drewN _) (Nat.add_assoc _ _ _))⟩)) | (go_at_call 32; (with_reducible refine (tipstaffkit_Mod.calls a4 5 t541 _ A12.out).mono ?_); rintro e w' ⟨rfl, ⟨nd, rfl⟩⟩; (try first | exact ⟨rfl, _, World.drewN_drewN _ _ _⟩ | exact ⟨rfl, _, Eq.trans (World.drewN_drewN _ _ _) (congrArg (World.drewN _) (Nat.add_assoc _ _ _))⟩)) | (go_at_call 15; (with_reducible refine (limit_Counts.calls k _ _ t531 (wrap64 (t534 + t540)) (wrap64 ((wrap64 (1 + t535)) + t541)) t542 t543 _ ?side1 ?side2 A13.out).mono ?_); (case side1 => repeat (first | exact (Kd.R_reads' HO533.out).2.2 | (with_reducible refine Kd.C_alloc ?_ _) | (with_reducible refine Kd.C_drewN ?_ _) | (with_reducible refine Kd.C_drew ?_))); (case side2 => exact (Kd.R_reads' HO533.out).2.1); rintro e w19 ⟨v544, rfl, ho0, hb⟩; have n0_ := Aside0.mk (Kd.R_below (by (with_reducible repeat (first | apply Kd.R_alloc | apply Kd.R_drewN | apply Kd.R_drew)); exact HO533.out) hb); have n1_ := Aside0.mk (Kd.R_elder' (by (with_reducible repeat (first | apply Kd.R_alloc | apply Kd.R_drewN | apply Kd.R_drew)); exact HO539.out) (Kd.R_base ho0) hb); have n2_ := Aside0.mk (Kd.R_lower (Kd.R_new' ho0 (Kd.R_lt (by (with_reducible repeat (first | apply Kd.R_alloc | apply Kd.R_drewN | apply Kd.R_drew)); exact HO539.out))) (below_size (by repeat (first | (with_reducible first | exact HB.out | apply below_alloc | apply pw_below_drewN | apply below_drew1) | exact HB.out)))); have n3_ := Aside0.mk (below_step (by repeat (first | (with_reducible first | exact HB.out | apply below_alloc | apply pw_below_drewN | apply below_drew1) | exact HB.out)) hb); clear HO533; clear HO539; clear HB; have HO533 := n0_; have HO539 := n1_; have HO545 := n2_; have HB := n3_; clear n0_ n1_ n2_ n3_; (try clear hb); (try clear hb2); (try clear hk); (try clear hi); (try clear ho0)))
 repeat (go_quiet (first | (go_at_call 6; (with_reducible refine (tipstafflaw14_LimitKnown.calls k  t530 _ A6.out).mono ?_); rintro e w15 ⟨rfl, hb⟩; have n0_ := Aside0.mk (below_step (by repeat (first | (with_reducible first | exact HB.out | apply below_alloc | apply pw_below_drewN | apply below_drew1) | exact HB.out)) hb); clear HB; have HB := n0_; clear n0_; (try clear hb); (try clear hb2); (try clear hk); (try clear hi)) | (go_at_call 31; (with_reducible refine (tipstafflaw14_made.calls k _ _ l0 t531 _ ?side1 ?side2 A7.out).mono ?_); (case side1 => repeat (first | exact (Kd.C_below HR0.out HB.out) | (with_reducible refine Kd.C_alloc ?_ _) | (with_reducible refine Kd.C_drewN ?_ _) | (with_reducible refine Kd.C_drew ?_))); (case side2 => exact HC0.out); rintro e w16 ⟨v532, rfl, ho0, hb⟩; have n0_ := Aside0.mk (Kd.R_lower ho0 (below_size (by repeat (first | (with_reducible first | exact HB.out | apply below_alloc | apply pw_below_drewN | apply below_drew1) | exact HB.out)))); have n1_ := Aside0.mk (below_step (by repeat (first | (with_reducible first | exact HB.out | apply below_alloc | apply pw_below_drewN | apply below_drew1) | exact HB.out)) hb); clear HB; have HO533 := n0_; have HB := n1_; clear n0_ n1_; (try clear hb); (try clear hb2); (try clear hk); (try clear hi); (try clear ho0)) | (go_at_call 32; (with_reducible refine (tipstaffkit_Mod.calls a1 30 t534 _ A8.out).mono ?_); rintro e w' ⟨rfl, ⟨nd, rfl⟩⟩; (try first | exact ⟨rfl, _, World.drewN_drewN _ _ _⟩ | exact ⟨rfl, _, Eq.trans (World.drewN_drewN _ _ _) (congrArg (World.drewN _) (Nat.add_assoc _ _ _))⟩)) | (go_at_call 32; (with_reducible refine (tipstaffkit_Mod.calls a2 5 t535 _ A9.out).mono ?_); rintro e w' ⟨rfl, ⟨nd, rfl⟩⟩; (try first | exact ⟨rfl, _, World.drewN_drewN _ _ _⟩ | exact ⟨rfl, _, Eq.trans (World.drewN_drewN _ _ _) (congrArg (World.drewN _) (Nat.add_assoc _ _ _))⟩); obtain ⟨Ao17, co17, eo17⟩ := Kd.R_slice HO533.out; subst eo17) | (go_at_call 15; (with_reducible refine (limit_Counts.calls k _ _ t531 t534 (wrap64 (1 + t535)) t536 t537 _ ?side1 ?side2 A10.out).mono ?_); (case side1 => repeat (first | exact (Kd.R_reads' HO533.out).2.2 | (with_reducible refine Kd.C_alloc ?_ _) | (with_reducible refine Kd.C_drewN ?_ _) | (with_reducible refine Kd.C_drew ?_))); (case side2 => exact (Kd.R_reads' HO533.out).2.1); rintro e w18 ⟨v538, rfl, ho0, hb⟩; have n0_ := Aside0.mk (Kd.R_below (by (with_reducible repeat (first | apply Kd.R_alloc | apply Kd.R_drewN | apply Kd.R_drew)); exact HO533.out) hb); have n1_ := Aside0.mk (Kd.R_lower ho0 (below_size (by repeat (first | (with_reducible first | exact HB.out | apply below_alloc | apply pw_below_drewN | apply below_drew1) | exact HB.out)))); have n2_ := Aside0.mk (below_step (by repeat (first | (with_reducible first | exact HB.out | apply below_alloc | apply pw_below_drewN | apply below_drew1) | exact HB.out)) hb); clear HO533; clear HB; have HO533 := n0_; have HO539 := n1_; have HB := n2_; clear n0_ n1_ n2_; (try clear hb); (try clear hb2); (try clear hk); (try clear hi); (try clear ho0)) | (go_at_call 32; (with_reducible refine (tipstaffkit_Mod.calls a3 10 t540 _ A11.out).mono ?_); rintro e w' ⟨rfl, ⟨nd, rfl⟩⟩; (try first | exact ⟨rfl, _, World.drewN_drewN _ _ _⟩ | exact ⟨rfl, _, Eq.trans (World.drewN_drewN _ _ _) (congrArg (World.drewN _) (Nat.add_assoc _ _ _))⟩)) | (go_at_call 32; (with_reducible refine (tipstaffkit_Mod.calls a4 5 t541 _ A12.out).mono ?_); rintro e w' ⟨rfl, ⟨nd, rfl⟩⟩; (try first | exact ⟨rfl, _, World.drewN_drewN _ _ _⟩ | exact ⟨rfl, _, Eq.trans (World.drewN_drewN _ _ _) (congrArg (World.drewN _) (Nat.add_assoc _ _ _))⟩)) | (go_at_call 15; (with_reducible refine (limit_Counts.calls k _ _ t531 (wrap64 (t534 + t540)) (wrap64 ((wrap64 (1 + t535)) + t541)) t542 t543 _ ?side1 ?side2 A13.out).mono ?_); (case side1 => repeat (first | exact (Kd.R_reads' HO533.out).2.2 | (with_reducible refine Kd.C_alloc ?_ _) | (with_reducible refine Kd.C_drewN ?_ _) | (with_reducible refine Kd.C_drew ?_))); (case side2 => exact (Kd.R_reads' HO533.out).2.1); rintro e w19 ⟨v544, rfl, ho0, hb⟩; have n0_ := Aside0.mk (Kd.R_below (by (with_reducible repeat (first | apply Kd.R_alloc | apply Kd.R_drewN | apply Kd.R_drew)); exact HO533.out) hb); have n1_ := Aside0.mk (Kd.R_elder' (by (with_reducible repeat (first | apply Kd.R_alloc | apply Kd.R_drewN | apply Kd.R_drew)); exact HO539.out) (Kd.R_base ho0) hb); have n2_ := Aside0.mk (Kd.R_lower (Kd.R_new' ho0 (Kd.R_lt (by (with_reducible repeat (first | apply Kd.R_alloc | apply Kd.R_drewN | apply Kd.R_drew)); exact HO539.out))) (below_size (by repeat (first | (with_reducible first | exact HB.out | apply below_alloc | apply pw_below_drewN | apply below_drew1) | exact HB.out)))); have n3_ := Aside0.mk (below_step (by repeat (first | (with_reducible first | exact HB.out | apply below_alloc | apply pw_below_drewN | apply below_drew1) | exact HB.out)) hb); clear HO533; clear HO539; clear HB; have HO533 := n0_; have HO539 := n1_; have HO545 := n2_; have HB := n3_; clear n0_ n1_ n2_ n3_; (try clear hb); (try clear hb2); (try clear hk); (try clear hi); (try clear ho0))); go_upto_region 6 with (first | (go_at_call 6; (with_reducible refine (tipstafflaw14_LimitKnown.calls k  t530 _ A6.out).mono ?_); rintro e w15 ⟨rfl, hb⟩; have n0_ := Aside0.mk (below_step (by repeat (first | (with_reducible first | exact HB.out | apply below_alloc | apply pw_below_drewN | apply below_drew1) | exact HB.out)) hb); clear HB; have HB := n0_; clear n0_; (try clear hb); (try clear hb2); (try clear hk); (try clear hi)) | (go_at_call 31; (with_reducible refine (tipstafflaw14_made.calls k _ _ l0 t531 _ ?side1 ?side2 A7.out).mono ?_); (case side1 => repeat (first | exact (Kd.C_below HR0.out HB.out) | (with_reducible refine Kd.C_alloc ?_ _) | (with_reducible refine Kd.C_drewN ?_ _) | (with_reducible refine Kd.C_drew ?_))); (case side2 => exact HC0.out); rintro e w16 ⟨v532, rfl, ho0, hb⟩; have n0_ := Aside0.mk (Kd.R_lower ho0 (below_size (by repeat (first | (with_reducible first | exact HB.out | apply below_alloc | apply pw_below_drewN | apply below_drew1) | exact HB.out)))); have n1_ := Aside0.mk (below_step (by repeat (first | (with_reducible first | exact HB.out | apply below_alloc | apply pw_below_drewN | apply below_drew1) | exact HB.out)) hb); clear HB; have HO533 := n0_; have HB := n1_; clear n0_ n1_; (try clear hb); (try clear hb2); (try clear hk); (try clear hi); (try clear ho0)) | (go_at_call 32; (with_reducible refine (tipstaffkit_Mod.calls a1 30 t534 _ A8.out).mono ?_); rintro e w' ⟨rfl, ⟨nd, rfl⟩⟩; (try first | exact ⟨rfl, _, World.drewN_drewN _ _ _⟩ | exact ⟨rfl, _, Eq.trans (World.drewN_drewN _ _ _) (congrArg (World.drewN _) (Nat.add_assoc _ _ _))⟩)) | (go_at_call 32; (with_reducible refine (tipstaffkit_Mod.calls a2 5 t535 _ A9.out).mono ?_); rintro e w' ⟨rfl, ⟨nd, rfl⟩⟩; (try first | exact ⟨rfl, _, World.drewN_drewN _ _ _⟩ | exact ⟨rfl, _, Eq.trans (World.drewN_drewN _ _ _) (congrArg (World.drewN _) (Nat.add_assoc _ _ _))⟩); obtain ⟨Ao17, co17, eo17⟩ := Kd.R_slice HO533.out; subst eo17) | (go_at_call 15; (with_reducible refine (limit_Counts.calls k _ _ t531 t534 (wrap64 (1 + t535)) t536 t537 _ ?side1 ?side2 A10.out).mono ?_); (case side1 => repeat (first | exact (Kd.R_reads' HO533.out).2.2 | (with_reducible refine Kd.C_alloc ?_ _) | (with_reducible refine Kd.C_drewN ?_ _) | (with_reducible refine Kd.C_drew ?_))); (case side2 => exact (Kd.R_reads' HO533.out).2.1); rintro e w18 ⟨v538, rfl, ho0, hb⟩; have n0_ := Aside0.mk (Kd.R_below (by (with_reducible repeat (first | apply Kd.R_alloc | apply Kd.R_drewN | apply Kd.R_drew)); exact HO533.out) hb); have n1_ := Aside0.mk (Kd.R_lower ho0 (below_size (by repeat (first | (with_reducible first | exact HB.out | apply below_alloc | apply pw_below_drewN | apply below_drew1) | exact HB.out)))); have n2_ := Aside0.mk (below_step (by repeat (first | (with_reducible first | exact HB.out | apply below_alloc | apply pw_below_drewN | apply below_drew1) | exact HB.out)) hb); clear HO533; clear HB; have HO533 := n0_; have HO539 := n1_; have HB := n2_; clear n0_ n1_ n2_; (try clear hb); (try clear hb2); (try clear hk); (try clear hi); (try clear ho0)) | (go_at_call 32; (with_reducible refine (tipstaffkit_Mod.calls a3 10 t540 _ A11.out).mono ?_); rintro e w' ⟨rfl, ⟨nd, rfl⟩⟩; (try first | exact ⟨rfl, _, World.drewN_drewN _ _ _⟩ | exact ⟨rfl, _, Eq.trans (World.drewN_drewN _ _ _) (congrArg (World.drewN _) (Nat.add_assoc _ _ _))⟩)) | (go_at_call 32; (with_reducible refine (tipstaffkit_Mod.calls a4 5 t541 _ A12.out).mono ?_); rintro e w' ⟨rfl, ⟨nd, rfl⟩⟩; (try first | exact ⟨rfl, _, World.drewN_drewN _ _ _⟩ | exact ⟨rfl, _, Eq.trans (World.drewN_drewN _ _ _) (congrArg (World.drewN _) (Nat.add_assoc _ _ _))⟩)) | (go_at_call 15; (with_reducible refine (limit_Counts.calls k _ _ t531 (wrap64 (t534 + t540)) (wrap64 ((wrap64 (1 + t535)) + t541)) t542 t543 _ ?side1 ?side2 A13.out).mono ?_); (case side1 => repeat (first | exact (Kd.R_reads' HO533.out).2.2 | (with_reducible refine Kd.C_alloc ?_ _) | (with_reducible refine Kd.C_drewN ?_ _) | (with_reducible refine Kd.C_drew ?_))); (case side2 => exact (Kd.R_reads' HO533.out).2.1); rintro e w19 ⟨v544, rfl, ho0, hb⟩; have n0_ := Aside0.mk (Kd.R_below (by (with_reducible repeat (first | apply Kd.R_alloc | apply Kd.R_drewN | apply Kd.R_drew)); exact HO533.out) hb); have n1_ := Aside0.mk (Kd.R_elder' (by (with_reducible repeat (first | apply Kd.R_alloc | apply Kd.R_drewN | apply Kd.R_drew)); exact HO539.out) (Kd.R_base ho0) hb); have n2_ := Aside0.mk (Kd.R_lower (Kd.R_new' ho0 (Kd.R_lt (by (with_reducible repeat (first | apply Kd.R_alloc | apply Kd.R_drewN | apply Kd.R_drew)); exact HO539.out))) (below_size (by repeat (first | (with_reducible first | exact HB.out | apply below_alloc | apply pw_below_drewN | apply below_drew1) | exact HB.out)))); have n3_ := Aside0.mk (below_step (by repeat (first | (with_reducible first | exact HB.out | apply below_alloc | apply pw_below_drewN | apply below_drew1) | exact HB.out)) hb); clear HO533; clear HO539; clear HB; have HO533 := n0_; have HO539 := n1_; have HO545 := n2_; have HB := n3_; clear n0_ n1_ n2_ n3_; (try clear hb); (try clear hb2); (try clear hk); (try clear hi); (try clear ho0))))
 (try simp only [Act.put, List.setIfInBounds_toArray, List.set_cons_zero, List.set_cons_succ])
 go_cut [61] (fun v61 wc => ∃ (kq : Nat) (x61_13 : Bool), v61 = .bool x61_13 ∧ Aside0 (tipstafflaw14_LimitMore.j0 kq t530 t536 t542 x61_13 = some r) ∧ Aside0 (kq ≤ k) ∧ Aside0 (Kd.R (Kd.int .i64) 3 wc w.heap.size (fun k_ => some k_ ≠ (v544 : Value).ownBlock) v538 t536) ∧ Aside0 (Kd.R (Kd.int .i64) 3 wc w.heap.size (fun k_ => some k_ ≠ (v538 : Value).ownBlock) v544 t542) ∧ Aside0 (Below w.heap.size w wc))
 case first =>
  have H := HC14.out
  clear HC14
  by_cases c20 : t537 = 0
  ·rw [if_pos c20] at H
   have c20b0 : (t537 == 0) = true := beq_iff_eq.mpr c20
   have c20b1 : (t537 != 0) = false := bne_eq_false_iff_eq.mpr c20
   clear c20
   (first | rw [c20b0] | (simp only [i64_w, i32_w]; rw [c20b0]) | skip)
   by_cases c21 : t543 = 0
   ·rw [if_pos c21] at H
    have c21b0 : (t543 == 0) = true := beq_iff_eq.mpr c21
    have c21b1 : (t543 != 0) = false := bne_eq_false_iff_eq.mpr c21
    clear c21
    by_cases c22 : (t536.length : Int) = 5
    ·rw [if_pos c22] at H
     have c22b0 : ((t536.length : Int) == 5) = true := beq_iff_eq.mpr c22
     have c22b1 : ((t536.length : Int) != 5) = false := bne_eq_false_iff_eq.mpr c22
     clear c22
     have H' := Aside0.mk H
     clear H
     obtain ⟨Ao23, co23, eo23⟩ := Kd.R_slice HO539.out
     subst eo23
     obtain ⟨Ao24, co24, eo24⟩ := Kd.R_slice HO545.out
     subst eo24
     go_wp2
     repeat (go_quiet (fail); try go_wp2)
     go_meet
     case rel => exact ⟨_, (((t542.length : Int) != 5)), (by first | rfl | (simp; done) | (simp [*]; done)), H', ⟨by first | omega | exact Nat.le_refl _⟩, ⟨by (with_reducible repeat (first | apply Kd.R_alloc | apply Kd.R_drewN | apply Kd.R_drew)); exact Kd.R_mono HO539.out (fun _ hk => hk.2)⟩, ⟨by (with_reducible repeat (first | apply Kd.R_alloc | apply Kd.R_drewN | apply Kd.R_drew)); exact Kd.R_mono HO545.out (fun _ hk => hk.2)⟩, ⟨by repeat (first | (with_reducible first | exact HB.out | apply below_alloc | apply pw_below_drewN | apply below_drew1) | exact HB.out)⟩⟩
    ·rw [if_neg c22] at H
     have c22b0 : ((t536.length : Int) == 5) = false := beq_eq_false_iff_ne.mpr c22
     have c22b1 : ((t536.length : Int) != 5) = true := bne_iff_ne.mpr c22
     have H' := Aside0.mk H
     clear H
     obtain ⟨Ao25, co25, eo25⟩ := Kd.R_slice HO539.out
     subst eo25
     go_wp2
     repeat (go_quiet (fail); try go_wp2)
     go_meet
     case rel => exact ⟨_, (true), (by first | rfl | (simp; done) | (simp [*]; done)), H', ⟨by first | omega | exact Nat.le_refl _⟩, ⟨by (with_reducible repeat (first | apply Kd.R_alloc | apply Kd.R_drewN | apply Kd.R_drew)); exact Kd.R_mono HO539.out (fun _ hk => hk.2)⟩, ⟨by (with_reducible repeat (first | apply Kd.R_alloc | apply Kd.R_drewN | apply Kd.R_drew)); exact Kd.R_mono HO545.out (fun _ hk => hk.2)⟩, ⟨by repeat (first | (with_reducible first | exact HB.out | apply below_alloc | apply pw_below_drewN | apply below_drew1) | exact HB.out)⟩⟩
   ·rw [if_neg c21] at H
    have c21b0 : (t543 == 0) = false := beq_eq_false_iff_ne.mpr c21
    have c21b1 : (t543 != 0) = true := bne_iff_ne.mpr c21
    have H' := Aside0.mk H
    clear H
    go_wp2
    repeat (go_quiet (fail); try go_wp2)
    go_meet
    case rel => exact ⟨_, (true), (by first | rfl | (simp; done) | (simp [*]; done)), H', ⟨by first | omega | exact Nat.le_refl _⟩, ⟨by (with_reducible repeat (first | apply Kd.R_alloc | apply Kd.R_drewN | apply Kd.R_drew)); exact Kd.R_mono HO539.out (fun _ hk => hk.2)⟩, ⟨by (with_reducible repeat (first | apply Kd.R_alloc | apply Kd.R_drewN | apply Kd.R_drew)); exact Kd.R_mono HO545.out (fun _ hk => hk.2)⟩, ⟨by repeat (first | (with_reducible first | exact HB.out | apply below_alloc | apply pw_below_drewN | apply below_drew1) | exact HB.out)⟩⟩
  ·rw [if_neg c20] at H
   have c20b0 : (t537 == 0) = false := beq_eq_false_iff_ne.mpr c20
   have c20b1 : (t537 != 0) = true := bne_iff_ne.mpr c20
   (first | rw [c20b0] | (simp only [i64_w, i32_w]; rw [c20b0]) | skip)
   have H' := Aside0.mk H
   clear H
   go_wp2
   repeat (go_quiet (fail); try go_wp2)
   go_meet
   case rel => exact ⟨_, (true), (by first | rfl | (simp; done) | (simp [*]; done)), H', ⟨by first | omega | exact Nat.le_refl _⟩, ⟨by (with_reducible repeat (first | apply Kd.R_alloc | apply Kd.R_drewN | apply Kd.R_drew)); exact Kd.R_mono HO539.out (fun _ hk => hk.2)⟩, ⟨by (with_reducible repeat (first | apply Kd.R_alloc | apply Kd.R_drewN | apply Kd.R_drew)); exact Kd.R_mono HO545.out (fun _ hk => hk.2)⟩, ⟨by repeat (first | (with_reducible first | exact HB.out | apply below_alloc | apply pw_below_drewN | apply below_drew1) | exact HB.out)⟩⟩
 case rest =>
  clear HC14
  try clear c2
  try clear p2
  try clear p6
  try clear c8
  try clear c20
  try clear c20b0
  try clear c20b1
  try clear c21
  try clear c21b0
  try clear c21b1
  try clear c22
  try clear c22b0
  try clear c22b1
  obtain ⟨kq, x61_13, rfl, HA, HJ13, HO_13, HO_15, HB⟩ := hcut
  cases kq with
  | zero => exact absurd HA.out (by simp [tipstafflaw14_LimitMore.j0])
  | succ kj13 =>
   have H := HA.out
   clear HA
   simp only [tipstafflaw14_LimitMore.j0] at H
   by_cases c26 : x61_13 = true
   ·subst c26
    have H1 : (none) = some r := by rw [if_pos rfl] at H; exact H
    clear H
    have H := H1
    clear H1
    exact absurd H (by simp)
   ·replace c26 := Bool.eq_false_iff.mpr c26
    subst c26
    have H1 : (tipstafflaw14_LimitMore.l0 kj13 t530 t536 t542 0) = some r := by rw [if_neg (show ¬ (false = true) by decide)] at H; exact H
    clear H
    have H := H1
    clear H1
    have H' := Aside0.mk H
    clear H
    go_wp2
    repeat (go_quiet (fail); try go_wp2)
    go_loopg [17] kj13 (fun kq v17 w' => ∃ (x17_2 : Int), v17 = .int .i64 x17_2 ∧ Aside0 (tipstafflaw14_LimitMore.l0 kq t530 t536 t542 x17_2 = some r) ∧ Aside0 (kq ≤ kj13) ∧ Aside0 (Kd.R (Kd.int .i64) 3 w' w.heap.size (fun k_ => some k_ ≠ (v544 : Value).ownBlock) v538 t536) ∧ Aside0 (Kd.R (Kd.int .i64) 3 w' w.heap.size (fun k_ => some k_ ≠ (v538 : Value).ownBlock) v544 t542) ∧ Aside0 (Below w.heap.size w w'))
    case atStart => exact ⟨(0), (by first | rfl | (simp; done) | (simp [*]; done)), H', ⟨Nat.le_refl _⟩, ⟨by (with_reducible repeat (first | apply Kd.R_alloc | apply Kd.R_drewN | apply Kd.R_drew)); exact HO_13.out⟩, ⟨by (with_reducible repeat (first | apply Kd.R_alloc | apply Kd.R_drewN | apply Kd.R_drew)); exact HO_15.out⟩, ⟨by repeat (first | (with_reducible first | exact HB.out | apply below_alloc | apply pw_below_drewN | apply below_drew1) | exact HB.out)⟩⟩
    case round =>
     clear H'
     try clear c2
     try clear p2
     try clear p6
     try clear c8
     try clear c20
     try clear c20b0
     try clear c20b1
     try clear c21
     try clear c21b0
     try clear c21b1
     try clear c22
     try clear c22b0
     try clear c22b1
     try clear c26
     try clear p2
     try clear p6
     obtain ⟨x17_2, rfl, HA, HK2, HO_13, HO_15, HB⟩ := hrel
     cases gk with
     | zero => exact absurd HA.out (by simp [tipstafflaw14_LimitMore.l0])
     | succ k2 =>
      have H := HA.out
      clear HA
      simp only [tipstafflaw14_LimitMore.l0] at H
      by_cases c27 : x17_2 < 5
      ·rw [if_pos c27] at H
       have c27b0 : decide (x17_2 < 5) = true := decide_eq_true c27
       clear c27
       by_cases c28 : 0 ≤ x17_2
       ·rw [if_pos c28] at H
        have c28b0 : decide (0 ≤ x17_2) = true := decide_eq_true c28
        clear c28
        by_cases c29 : x17_2 < (t542.length : Int)
        ·rw [if_pos c29] at H
         have c29b0 : decide (x17_2 < (t542.length : Int)) = true := decide_eq_true c29
         clear c29
         by_cases c30 : x17_2 < (t536.length : Int)
         ·rw [if_pos c30] at H
          have c30b0 : decide (x17_2 < (t536.length : Int)) = true := decide_eq_true c30
          clear c30
          by_cases c31 : (rd t542 x17_2) > (rd t536 x17_2)
          ·rw [if_pos c31] at H
           exact absurd H (by simp)
          ·rw [if_neg c31] at H
           have c31b0 : decide ((rd t536 x17_2) < (rd t542 x17_2)) = false := decide_eq_false c31
           clear c31
           by_cases c32 : x17_2 > 1
           ·rw [if_pos c32] at H
            have c32b0 : decide (1 < x17_2) = true := decide_eq_true c32
            clear c32
            by_cases c33 : (rd t536 x17_2) = (rd t542 x17_2)
            ·rw [if_pos c33] at H
             have c33b0 : ((rd t536 x17_2) == (rd t542 x17_2)) = true := beq_iff_eq.mpr c33
             have c33b1 : ((rd t536 x17_2) != (rd t542 x17_2)) = false := bne_eq_false_iff_eq.mpr c33
             clear c33
             have H' := Aside0.mk H
             clear H
             obtain ⟨Ao34, co34, eo34⟩ := Kd.R_slice HO_15.out
             subst eo34
             have p546 : 0 ≤ (x17_2 : Int) := of_decide_eq_true (by first | (with_reducible assumption) | assumption)
             have q546 : x17_2 < (t542.length : Int) := of_decide_eq_true (by first | (with_reducible assumption) | assumption)
             obtain ⟨ad546, e546, hx546_0⟩ := Kd.at_int (Kd.R_reads' HO_15.out).2.2 x17_2 p546 q546
             cases e546
             replace p546 := eq_true p546
             replace q546 := eq_true q546
             obtain ⟨Ao35, co35, eo35⟩ := Kd.R_slice HO_13.out
             subst eo35
             have p547 : 0 ≤ (x17_2 : Int) := of_decide_eq_true (by first | (with_reducible assumption) | assumption)
             have q547 : x17_2 < (t536.length : Int) := of_decide_eq_true (by first | (with_reducible assumption) | assumption)
             obtain ⟨ad547, e547, hx547_0⟩ := Kd.at_int (Kd.R_reads' HO_13.out).2.2 x17_2 p547 q547
             cases e547
             replace p547 := eq_true p547
             replace q547 := eq_true q547
             have p548 : 0 ≤ (x17_2 : Int) := of_decide_eq_true (by first | (with_reducible assumption) | assumption)
             have q548 : x17_2 < (t536.length : Int) := of_decide_eq_true (by first | (with_reducible assumption) | assumption)
             obtain ⟨ad548, e548, hx548_0⟩ := Kd.at_int (Kd.R_reads' HO_13.out).2.2 x17_2 p548 q548
             obtain rfl : ad547 = ad548 := (by injection e548)
             replace p548 := eq_true p548
             replace q548 := eq_true q548
             have p549 : 0 ≤ (x17_2 : Int) := of_decide_eq_true (by first | (with_reducible assumption) | assumption)
             have q549 : x17_2 < (t542.length : Int) := of_decide_eq_true (by first | (with_reducible assumption) | assumption)
             obtain ⟨ad549, e549, hx549_0⟩ := Kd.at_int (Kd.R_reads' HO_15.out).2.2 x17_2 p549 q549
             obtain rfl : ad546 = ad549 := (by injection e549)
             replace p549 := eq_true p549
             replace q549 := eq_true q549
             go_wp2
             repeat (go_quiet (fail); try go_wp2)
             go_roundg k2
             case measure => have := HJ13.out; have := HK2.out; omega
             case rel => exact ⟨(wrap64 (x17_2 + 1)), (by first | rfl | (simp; done) | (simp [*]; done)), H', ⟨by have := HJ13.out; have := HK2.out; omega⟩, ⟨by (with_reducible repeat (first | apply Kd.R_alloc | apply Kd.R_drewN | apply Kd.R_drew)); exact HO_13.out⟩, ⟨by (with_reducible repeat (first | apply Kd.R_alloc | apply Kd.R_drewN | apply Kd.R_drew)); exact HO_15.out⟩, ⟨by repeat (first | (with_reducible first | exact HB.out | apply below_alloc | apply pw_below_drewN | apply below_drew1) | exact HB.out)⟩⟩
            ·rw [if_neg c33] at H
             exact absurd H (by simp)
           ·rw [if_neg c32] at H
            have c32b0 : decide (1 < x17_2) = false := decide_eq_false c32
            clear c32
            have H' := Aside0.mk H
            clear H
            obtain ⟨Ao36, co36, eo36⟩ := Kd.R_slice HO_15.out
            subst eo36
            have p546 : 0 ≤ (x17_2 : Int) := of_decide_eq_true (by first | (with_reducible assumption) | assumption)
            have q546 : x17_2 < (t542.length : Int) := of_decide_eq_true (by first | (with_reducible assumption) | assumption)
            obtain ⟨ad546, e546, hx546_0⟩ := Kd.at_int (Kd.R_reads' HO_15.out).2.2 x17_2 p546 q546
            cases e546
            replace p546 := eq_true p546
            replace q546 := eq_true q546
            obtain ⟨Ao37, co37, eo37⟩ := Kd.R_slice HO_13.out
            subst eo37
            have p547 : 0 ≤ (x17_2 : Int) := of_decide_eq_true (by first | (with_reducible assumption) | assumption)
            have q547 : x17_2 < (t536.length : Int) := of_decide_eq_true (by first | (with_reducible assumption) | assumption)
            obtain ⟨ad547, e547, hx547_0⟩ := Kd.at_int (Kd.R_reads' HO_13.out).2.2 x17_2 p547 q547
            cases e547
            replace p547 := eq_true p547
            replace q547 := eq_true q547
            go_wp2
            repeat (go_quiet (fail); try go_wp2)
            go_roundg k2
            case measure => have := HJ13.out; have := HK2.out; omega
            case rel => exact ⟨(wrap64 (x17_2 + 1)), (by first | rfl | (simp; done) | (simp [*]; done)), H', ⟨by have := HJ13.out; have := HK2.out; omega⟩, ⟨by (with_reducible repeat (first | apply Kd.R_alloc | apply Kd.R_drewN | apply Kd.R_drew)); exact HO_13.out⟩, ⟨by (with_reducible repeat (first | apply Kd.R_alloc | apply Kd.R_drewN | apply Kd.R_drew)); exact HO_15.out⟩, ⟨by repeat (first | (with_reducible first | exact HB.out | apply below_alloc | apply pw_below_drewN | apply below_drew1) | exact HB.out)⟩⟩
         ·rw [if_neg c30] at H
          exact absurd H (by simp)
        ·rw [if_neg c29] at H
         exact absurd H (by simp)
       ·rw [if_neg c28] at H
        exact absurd H (by simp)
      ·rw [if_neg c27] at H
       have c27b0 : decide (x17_2 < 5) = false := decide_eq_false c27
       clear c27
       obtain rfl := Option.some.inj H
       go_wp2
       repeat (go_quiet (fail); try go_wp2)
       go_ret
       exact ⟨by first | rfl | (simp [errW_none, errW_some] <;> rfl) | (simp [*, errW_none, errW_some] <;> rfl) | (simp (discharger := omega) only [Int.tdiv_eq_ediv_of_nonneg, Int.tmod_eq_emod_of_nonneg] <;> rfl), by repeat (first | (with_reducible first | exact HB.out | apply below_alloc | apply pw_below_drewN | apply below_drew1) | exact HB.out)⟩

/-- THE ONE PURE STATEMENT of tipstafflaw14_LimitMore: yours. -/
def tipstafflaw14_LimitMore.Pure : Prop := ∀ (l0 : List Int) (a1 : Int) (a2 : Int) (a3 : Int) (a4 : Int), l0.length ≤ maxLen → l0.length * 8 ≤ 140737488351232 → (∀ x ∈ l0, (Lit.int .i64 x).wf = true) → (Lit.int .i64 a1).wf = true → (Lit.int .i64 a2).wf = true → (Lit.int .i64 a3).wf = true → (Lit.int .i64 a4).wf = true → ∃ k, tipstafflaw14_LimitMore.f k l0 a1 a2 a3 a4 = some true
theorem tipstafflaw14_LimitMore.walk (P : tipstafflaw14_LimitMore.Pure) (a0 : Option Addr) (len0 cap0 : Nat) (z0 : List Int) (a1 : Int) (a2 : Int) (a3 : Int) (a4 : Int) (w : World) (w0 : (a0 = none ∧ len0 = 0 ∧ cap0 = 0 ∧ z0 = []) ∨ ∃ x, a0 = some x ∧ len0 ≤ cap0 ∧ cap0 ≤ maxLen ∧ z0.length = cap0 ∧ (∀ i, i < z0.length → w.cell? (x.add i) = some (.int .i64 (z0.getD i 0))) ∧ ∀ n ∈ z0, (Lit.int .i64 n).wf = true) (y0 : len0 * 8 ≤ 140737488351232) (w1 : (Lit.int .i64 a1).wf = true) (w2 : (Lit.int .i64 a2).wf = true) (w3 : (Lit.int .i64 a3).wf = true) (w4 : (Lit.int .i64 a4).wf = true) :
  Calls Try.prog 8 #[.slice a0 len0 cap0, .int .i64 a1, .int .i64 a2, .int .i64 a3, .int .i64 a4] w fun e w' => e = .returned (.bool true) ∧ Below w.heap.size w w' := by
 obtain ⟨l0, rfl, hr0, hm0, hw0, hc0⟩ := ReadsInt.ofRowC w0
 obtain ⟨k, h⟩ := P l0 a1 a2 a3 a4 hm0 y0 hw0 w1 w2 w3 w4
 refine (tipstafflaw14_LimitMore.calls k _ _ l0 a1 a2 a3 a4 true w (Kd.C_of_reads (d := (0 : Int)) (h1 := fun _ => rfl) hr0) hc0 h).mono ?_
 rintro e w' ⟨rfl, hd⟩
 exact ⟨rfl, hd⟩

end Go.Proofs.Ytlpdoieokgeikaa.S
