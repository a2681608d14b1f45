-- PRINTED by print.py (a twelfth state) out of the translation. Not trusted: Lean checks it.
import Derived.Test.YtbcmlgbhejcjbaaDoorS0
import Derived.Test.YtbcmlgbhejcjbaaDoorS3
import Derived.Test.YtbcmlgbhejcjbaaDoorS14
import Derived.Test.YtbcmlgbhejcjbaaDoorS15
import Derived.Test.YtbcmlgbhejcjbaaDoorHparse
namespace Go.Proofs.YtbcmlgbhejcjbaaDoor.S
open Go.RowKit Go.Proofs.YtbcmlgbhejcjbaaDoorW.PrintWords Go.Proofs.YtbcmlgbhejcjbaaDoorW.PrintLast Go.Proofs.YtbcmlgbhejcjbaaDoorW.PrintMore
attribute [local go_sem] Go.Proofs.YtbcmlgbhejcjbaaDoorW.PrintXtra.isSome_setCell max2_int min2_int max_two min_two max_three min_three max_four min_four   -- for this text's walks alone
set_option linter.unusedVariables false
set_option linter.unusedSimpArgs false

/-! ### tipstafflaw33_WordMakes: function 7 -/
def tipstafflaw33_WordMakes.j0 : Nat → List Int → Int → ByteArray → Bool → Option (Bool)
  | 0, _, _, _, _ => none
  | k + 1, x0, x1, x2, x24 => if x24 = true then ((tipstafflaw33_awake.f k).bind fun t432 => (some t432)) else ((word_Make.f k x0 x1).bind fun bt433 => ((tipstaffref33_Make.f k x0 x1).bind fun bt435 => ((word_Parse.f x2).bind fun bt437 => ((tipstaffref33_Parse.f k x2).bind fun bt440 => (if bt433.1 = bt435.1 then (if bt433.2 = bt435.2 then (if bt437.1 = bt440.1 then (if bt437.2.1 = bt440.2.1 then (if bt437.2.2 = bt440.2.2 then ((tipstafflaw33_awake.f k).bind fun t443 => (some t443)) else (none)) else (none)) else (none)) else (none)) else (none))))))
def tipstafflaw33_WordMakes.f (k : Nat) (l0 : List Int) (a1 : Int) (a2 : ByteArray) : Option (Bool) := if (l0.length : Int) > 20 then (tipstafflaw33_WordMakes.j0 k l0 a1 a2 true) else (tipstafflaw33_WordMakes.j0 k l0 a1 a2 (decide ((a2.size : Int) > 20)))
theorem tipstafflaw33_WordMakes.mono_l : ∀ k, (∀ y0 y1 y2 y3, LeO (tipstafflaw33_WordMakes.j0 k y0 y1 y2 y3) (tipstafflaw33_WordMakes.j0 (k + 1) y0 y1 y2 y3))
  | 0 => fun _ _ _ _ r h => by simp [tipstafflaw33_WordMakes.j0] at h
  | k + 1 => by
    have ih0 := tipstafflaw33_WordMakes.mono_l k
    · intro y0 y1 y2 y3
      unfold tipstafflaw33_WordMakes.j0
      repeat' first
      | (with_reducible exact ih0 _ _ _ _)
      | (with_reducible exact tipstafflaw33_awake.mono _)
      | (with_reducible exact tipstaffref33_Make.mono _ _ _)
      | (with_reducible exact tipstaffref33_Parse.mono _ _)
      | (with_reducible exact word_Make.mono _ _ _)
      | (with_reducible exact LeO.refl _)
      | (with_reducible exact LeO.none _)
      | (with_reducible refine LeO.ite ?_ ?_)
      | (with_reducible refine LeO.bind ?_ (fun _ => ?_))
      | exact ih0 _ _ _ _
      | exact tipstafflaw33_awake.mono _
      | exact tipstaffref33_Make.mono _ _ _
      | exact tipstaffref33_Parse.mono _ _
      | exact word_Make.mono _ _ _
      | exact LeO.none _
      | refine LeO.ite ?_ ?_
      | refine LeO.bind ?_ (fun _ => ?_)
theorem tipstafflaw33_WordMakes.mono : ∀ a0 a1 a2 k, LeO (tipstafflaw33_WordMakes.f k a0 a1 a2) (tipstafflaw33_WordMakes.f (k + 1) a0 a1 a2) := by
  intro a0 a1 a2 k
  have ih0 := tipstafflaw33_WordMakes.mono_l k
  unfold tipstafflaw33_WordMakes.f
  repeat' first
      | (with_reducible exact ih0 _ _ _ _)
      | (with_reducible exact tipstafflaw33_awake.mono _)
      | (with_reducible exact tipstaffref33_Make.mono _ _ _)
      | (with_reducible exact tipstaffref33_Parse.mono _ _)
      | (with_reducible exact word_Make.mono _ _ _)
      | (with_reducible exact LeO.refl _)
      | (with_reducible exact LeO.none _)
      | (with_reducible refine LeO.ite ?_ ?_)
      | (with_reducible refine LeO.bind ?_ (fun _ => ?_))
      | exact ih0 _ _ _ _
      | exact tipstafflaw33_awake.mono _
      | exact tipstaffref33_Make.mono _ _ _
      | exact tipstaffref33_Parse.mono _ _
      | exact word_Make.mono _ _ _
      | exact LeO.none _
      | refine LeO.ite ?_ ?_
      | refine LeO.bind ?_ (fun _ => ?_)
set_option maxHeartbeats 8000000 in
set_option maxRecDepth 100000 in
theorem tipstafflaw33_WordMakes.calls (k : Nat) (A0 : Option Addr) (c0 : Nat) (l0 : List Int) (a1 : Int) (a2 : ByteArray) (r : Bool) (w : World) (HL_ : LaidAt w) (hr0 : Kd.C (Kd.int .i64) w A0 l0.length l0) (hc0 : l0.length ≤ c0) (h : tipstafflaw33_WordMakes.f k l0 a1 a2 = some r) :
    Calls Tryd.prog 7 #[.slice A0 l0.length c0, .int .i64 a1, .string a2] w fun e w' => e = .returned (.bool r) ∧ Below w.heap.size w w' := by
  have HR0 := Aside0.mk hr0
  have HC0 := Aside0.mk hc0
  clear hr0 hc0
  have HB := Aside0.mk (Below.refl w.heap.size w)
  have H : (if (l0.length : Int) > 20 then (tipstafflaw33_WordMakes.j0 k l0 a1 a2 true) else (tipstafflaw33_WordMakes.j0 k l0 a1 a2 (decide ((a2.size : Int) > 20)))) = some r := h
  clear h
  have HC4 := Aside0.mk H
  clear H
  go_enter Tryd.func7, Tryd.ntmps7
  go_upto_region 1 with (fail)
  go_cut [24] (fun v24 wc => ∃ (kq : Nat) (x24_3 : Bool), v24 = .bool x24_3 ∧ Aside0 (tipstafflaw33_WordMakes.j0 kq l0 a1 a2 x24_3 = some r) ∧ Aside0 (kq ≤ k) ∧ Aside0 (Below w.heap.size w wc))
  case first =>
    have H := HC4.out
    clear HC4
    by_cases c5 : (l0.length : Int) > 20
    · rw [if_pos c5] at H
      have c5b0 : decide (20 < (l0.length : Int)) = true := decide_eq_true c5
      have c5b1 : decide (20 < l0.length) = true := decide_eq_true (by omega)
      clear c5
      (first | rw [c5b0] | (simp only [i64_w, i32_w]; rw [c5b0]) | skip)
      have H' := Aside0.mk H
      clear H
      go_wp2
      go_meet
      case rel => exact ⟨_, (true), (by first | rfl | (simp; done) | (simp [*]; done)), H', ⟨by first | omega | exact Nat.le_refl _⟩, ⟨by repeat (first | (with_reducible first | exact HB.out | apply below_alloc | apply pw_below_drewN | apply below_drew1) | exact HB.out)⟩⟩
    · rw [if_neg c5] at H
      have c5b0 : decide (20 < (l0.length : Int)) = false := decide_eq_false c5
      have c5b1 : decide (20 < l0.length) = false := decide_eq_false (by omega)
      clear c5
      (first | rw [c5b0] | (simp only [i64_w, i32_w]; rw [c5b0]) | skip)
      have H' := Aside0.mk H
      clear H
      go_wp2
      go_meet
      case rel => exact ⟨_, (decide ((a2.size : Int) > 20)), (by first | rfl | (simp; done) | (simp [*]; done)), H', ⟨by first | omega | exact Nat.le_refl _⟩, ⟨by repeat (first | (with_reducible first | exact HB.out | apply below_alloc | apply pw_below_drewN | apply below_drew1) | exact HB.out)⟩⟩
  case rest =>
    clear HC4
    try clear p2
    try clear c5
    try clear c5b0
    try clear c5b1
    obtain ⟨kq, x24_3, rfl, HA, HJ3, HB⟩ := hcut
    cases kq with
    | zero => exact absurd HA.out (by simp [tipstafflaw33_WordMakes.j0])
    | succ kj3 =>
      have H := HA.out
      clear HA
      simp only [tipstafflaw33_WordMakes.j0] at H
      by_cases c6 : x24_3 = true
      · subst c6
        have H1 : ((tipstafflaw33_awake.f kj3).bind fun t432 => (some t432)) = some r := by rw [if_pos rfl] at H; exact H
        clear H
        have H := H1
        clear H1
        replace H := Option.bind_eq_some_iff.mp H
        obtain ⟨t432, A70, H⟩ := H
        replace H : (some t432) = some r := H
        have A7 := Aside0.mk A70
        clear A70
        obtain rfl := Option.some.inj H
        go_wp2_with (first | ((with_reducible refine gate_callee (f := 12) rfl ?_); refine goesL_ (some 25) rfl rfl Tryd.func12 (by kernel_rfl) rfl #[] rfl (by (try simp only [List.map_toArray, List.map_cons, List.map_nil]); first | done | rfl | (simp only [List.length_drop, List.length_take]; rfl)) ?_; (with_reducible refine (tipstafflaw33_awake.calls kj3  t432 _ (by first | with_reducible exact HL_ | ((repeat with_reducible apply LaidAt.drewN); with_reducible exact HL_) | exact LaidAt.below HL_ (by repeat (first | (with_reducible first | exact HB.out | apply below_alloc | apply pw_below_drewN | apply below_drew1) | exact HB.out))) A7.out).mono ?_); rintro e w8 ⟨rfl, hb⟩; refine ⟨_, rfl, ?_⟩; have n0_ := Aside0.mk (below_step (by repeat (first | (with_reducible first | exact HB.out | apply below_alloc | apply pw_below_drewN | apply below_drew1) | exact HB.out)) hb); clear HB; have HB := n0_; clear n0_; (try clear hb); (try clear hb2); (try clear hk); (try clear hi)))
        go_ret
        exact ⟨by first | rfl | (simp [errW_none, errW_some] <;> rfl) | (simp [*, errW_none, errW_some] <;> rfl) | (simp (discharger := omega) only [Int.tdiv_eq_ediv_of_nonneg, Int.tmod_eq_emod_of_nonneg] <;> rfl), by repeat (first | (with_reducible first | exact HB.out | apply below_alloc | apply pw_below_drewN | apply below_drew1) | exact HB.out)⟩
      · replace c6 := Bool.eq_false_iff.mpr c6
        subst c6
        have H1 : ((word_Make.f kj3 l0 a1).bind fun bt433 => ((tipstaffref33_Make.f kj3 l0 a1).bind fun bt435 => ((word_Parse.f a2).bind fun bt437 => ((tipstaffref33_Parse.f kj3 a2).bind fun bt440 => (if bt433.1 = bt435.1 then (if bt433.2 = bt435.2 then (if bt437.1 = bt440.1 then (if bt437.2.1 = bt440.2.1 then (if bt437.2.2 = bt440.2.2 then ((tipstafflaw33_awake.f kj3).bind fun t443 => (some t443)) else (none)) else (none)) else (none)) else (none)) else (none)))))) = some r := by rw [if_neg (show ¬ (false = true) by decide)] at H; exact H
        clear H
        have H := H1
        clear H1
        replace H := Option.bind_eq_some_iff.mp H
        obtain ⟨⟨t433, t434⟩, A90, H⟩ := H
        replace H : ((tipstaffref33_Make.f kj3 l0 a1).bind fun bt435 => ((word_Parse.f a2).bind fun bt437 => ((tipstaffref33_Parse.f kj3 a2).bind fun bt440 => (if t433 = bt435.1 then (if t434 = bt435.2 then (if bt437.1 = bt440.1 then (if bt437.2.1 = bt440.2.1 then (if bt437.2.2 = bt440.2.2 then ((tipstafflaw33_awake.f kj3).bind fun t443 => (some t443)) else (none)) else (none)) else (none)) else (none)) else (none))))) = some r := H
        have A9 := Aside0.mk A90
        clear A90
        replace H := Option.bind_eq_some_iff.mp H
        obtain ⟨⟨t435, t436⟩, A100, H⟩ := H
        replace H : ((word_Parse.f a2).bind fun bt437 => ((tipstaffref33_Parse.f kj3 a2).bind fun bt440 => (if t433 = t435 then (if t434 = t436 then (if bt437.1 = bt440.1 then (if bt437.2.1 = bt440.2.1 then (if bt437.2.2 = bt440.2.2 then ((tipstafflaw33_awake.f kj3).bind fun t443 => (some t443)) else (none)) else (none)) else (none)) else (none)) else (none)))) = some r := H
        have A10 := Aside0.mk A100
        clear A100
        replace H := Option.bind_eq_some_iff.mp H
        obtain ⟨⟨t437, t438, t439⟩, A110, H⟩ := H
        replace H : ((tipstaffref33_Parse.f kj3 a2).bind fun bt440 => (if t433 = t435 then (if t434 = t436 then (if t437 = bt440.1 then (if t438 = bt440.2.1 then (if t439 = bt440.2.2 then ((tipstafflaw33_awake.f kj3).bind fun t443 => (some t443)) else (none)) else (none)) else (none)) else (none)) else (none))) = some r := H
        have A11 := Aside0.mk A110
        clear A110
        replace H := Option.bind_eq_some_iff.mp H
        obtain ⟨⟨t440, t441, t442⟩, A120, H⟩ := H
        replace H : (if t433 = t435 then (if t434 = t436 then (if t437 = t440 then (if t438 = t441 then (if t439 = t442 then ((tipstafflaw33_awake.f kj3).bind fun t443 => (some t443)) else (none)) else (none)) else (none)) else (none)) else (none)) = some r := H
        have A12 := Aside0.mk A120
        clear A120
        by_cases c13 : t433 = t435
        · rw [if_pos c13] at H
          have c13b0 : (t433 == t435) = true := beq_iff_eq.mpr c13
          have c13b1 : (t433 != t435) = false := bne_eq_false_iff_eq.mpr c13
          clear c13
          by_cases c14 : t434 = t436
          · rw [if_pos c14] at H
            have c14b0 : (t434 == t436) = true := beq_iff_eq.mpr c14
            have c14b1 : (t434 != t436) = false := bne_eq_false_iff_eq.mpr c14
            clear c14
            by_cases c15 : t437 = t440
            · rw [if_pos c15] at H
              have c15b0 : (t437 == t440) = true := beq_iff_eq.mpr c15
              have c15b1 : (t437 != t440) = false := bne_eq_false_iff_eq.mpr c15
              clear c15
              by_cases c16 : t438 = t441
              · rw [if_pos c16] at H
                have c16b0 : (t438 == t441) = true := beq_iff_eq.mpr c16
                have c16b1 : (t438 != t441) = false := bne_eq_false_iff_eq.mpr c16
                clear c16
                by_cases c17 : t439 = t442
                · rw [if_pos c17] at H
                  have c17b0 : (t439 == t442) = true := beq_iff_eq.mpr c17
                  have c17b1 : (t439 != t442) = false := bne_eq_false_iff_eq.mpr c17
                  clear c17
                  replace H := Option.bind_eq_some_iff.mp H
                  obtain ⟨t443, A180, H⟩ := H
                  replace H : (some t443) = some r := H
                  have A18 := Aside0.mk A180
                  clear A180
                  obtain rfl := Option.some.inj H
                  go_wp2_with (first | ((with_reducible refine gate_callee (f := 24) rfl ?_); refine goesL_ (some 29) rfl rfl Tryd.func24 (by kernel_rfl) rfl #[.slice A0 l0.length c0, .int .i64 a1] rfl (by (try simp only [List.map_toArray, List.map_cons, List.map_nil]); first | done | rfl | (simp only [List.length_drop, List.length_take]; rfl)) ?_; (with_reducible refine (word_Make.calls kj3 _ _ l0 a1 t433 t434 _ ?side1 ?side2 A9.out).mono ?_); (case side1 => repeat (first | exact (Kd.C_below HR0.out HB.out) | (with_reducible refine Kd.C_alloc ?_ _) | (with_reducible refine Kd.C_drewN ?_ _) | (with_reducible refine Kd.C_drew ?_))); (case side2 => exact HC0.out); rintro e w' ⟨rfl, ⟨nd, rfl⟩⟩; refine ⟨_, rfl, ?_⟩) | ((with_reducible refine gate_callee (f := 25) rfl ?_); refine goesL_ (some 35) rfl rfl Tryd.func25 (by kernel_rfl) rfl #[.slice A0 l0.length c0, .int .i64 a1] rfl (by (try simp only [List.map_toArray, List.map_cons, List.map_nil]); first | done | rfl | (simp only [List.length_drop, List.length_take]; rfl)) ?_; (with_reducible refine (tipstaffref33_Make.calls kj3 _ _ l0 a1 t435 t436 _ ?side1 ?side2 A10.out).mono ?_); (case side1 => repeat (first | exact (Kd.C_below HR0.out (by repeat (first | (with_reducible first | exact HB.out | apply below_alloc | apply pw_below_drewN | apply below_drew1) | exact HB.out))) | (with_reducible refine Kd.C_alloc ?_ _) | (with_reducible refine Kd.C_drewN ?_ _) | (with_reducible refine Kd.C_drew ?_))); (case side2 => exact HC0.out); rintro e w' ⟨rfl, ⟨nd, rfl⟩⟩; refine ⟨_, rfl, ?_⟩) | ((with_reducible refine gate_callee (f := 26) rfl ?_); refine goesL_ (some 40) rfl rfl Tryd.func26 (by kernel_rfl) rfl #[.string a2] rfl (by (try simp only [List.map_toArray, List.map_cons, List.map_nil]); first | done | rfl | (simp only [List.length_drop, List.length_take]; rfl)) ?_; (with_reducible refine (word_Parse.calls a2 t437 t438 t439 _ A11.out).mono ?_); rintro e w19 ⟨rfl, hb⟩; refine ⟨_, rfl, ?_⟩; have n0_ := Aside0.mk (below_step (by repeat (first | (with_reducible first | exact HB.out | apply below_alloc | apply pw_below_drewN | apply below_drew1) | exact HB.out)) hb); clear HB; have HB := n0_; clear n0_; (try clear hb); (try clear hb2); (try clear hk); (try clear hi)) | ((with_reducible refine gate_callee (f := 27) rfl ?_); refine goesL_ (some 46) rfl rfl Tryd.func27 (by kernel_rfl) rfl #[.string a2] rfl (by (try simp only [List.map_toArray, List.map_cons, List.map_nil]); first | done | rfl | (simp only [List.length_drop, List.length_take]; rfl)) ?_; (with_reducible refine (tipstaffref33_Parse.calls kj3 a2 t440 t441 t442 _ A12.out).mono ?_); rintro e w' ⟨rfl, ⟨nd, rfl⟩⟩; refine ⟨_, rfl, ?_⟩) | (go_at_call 12; (with_reducible refine (tipstafflaw33_awake.calls kj3  t443 _ (by first | with_reducible exact HL_ | ((repeat with_reducible apply LaidAt.drewN); with_reducible exact HL_) | exact LaidAt.below HL_ (by repeat (first | (with_reducible first | exact HB.out | apply below_alloc | apply pw_below_drewN | apply below_drew1) | exact HB.out))) A18.out).mono ?_); rintro e w20 ⟨rfl, hb⟩; have n0_ := Aside0.mk (below_step (by repeat (first | (with_reducible first | exact HB.out | apply below_alloc | apply pw_below_drewN | apply below_drew1) | exact HB.out)) hb); clear HB; have HB := n0_; clear n0_; (try clear hb); (try clear hb2); (try clear hk); (try clear hi)))
                  go_ret
                  exact ⟨by first | rfl | (simp [errW_none, errW_some] <;> rfl) | (simp [*, errW_none, errW_some] <;> rfl) | (simp (discharger := omega) only [Int.tdiv_eq_ediv_of_nonneg, Int.tmod_eq_emod_of_nonneg] <;> rfl), by repeat (first | (with_reducible first | exact HB.out | apply below_alloc | apply pw_below_drewN | apply below_drew1) | exact HB.out)⟩
                · rw [if_neg c17] at H
                  exact absurd H (by simp)
              · rw [if_neg c16] at H
                exact absurd H (by simp)
            · rw [if_neg c15] at H
              exact absurd H (by simp)
          · rw [if_neg c14] at H
            exact absurd H (by simp)
        · rw [if_neg c13] at H
          exact absurd H (by simp)

/-- THE ONE PURE STATEMENT of tipstafflaw33_WordMakes: yours. -/
def tipstafflaw33_WordMakes.Pure : Prop := ∀ (l0 : List Int) (a1 : Int) (a2 : ByteArray), l0.length ≤ maxLen → l0.length * 8 ≤ 140737488351232 → (∀ x ∈ l0, (Lit.int .i64 x).wf = true) → (Lit.int .i64 a1).wf = true → a2.size ≤ 140737488351232 → ∃ k, tipstafflaw33_WordMakes.f k l0 a1 a2 = some true
theorem tipstafflaw33_WordMakes.walk (P : tipstafflaw33_WordMakes.Pure) (a0 : Option Addr) (len0 cap0 : Nat) (z0 : List Int) (a1 : Int) (a2 : ByteArray) (w : World) (HL_ : LaidAt w) (w0 : (a0 = none ∧ len0 = 0 ∧ cap0 = 0 ∧ z0 = []) ∨ ∃ x, a0 = some x ∧ len0 ≤ cap0 ∧ cap0 ≤ maxLen ∧ z0.length = cap0 ∧ (∀ i, i < z0.length → w.cell? (x.add i) = some (.int .i64 (z0.getD i 0))) ∧ ∀ n ∈ z0, (Lit.int .i64 n).wf = true) (y0 : len0 * 8 ≤ 140737488351232) (w1 : (Lit.int .i64 a1).wf = true) (w2 : a2.size ≤ 140737488351232) :
    Calls Tryd.prog 7 #[.slice a0 len0 cap0, .int .i64 a1, .string a2] w fun e w' => e = .returned (.bool true) ∧ Below w.heap.size w w' := by
  obtain ⟨l0, rfl, hr0, hm0, hw0, hc0⟩ := ReadsInt.ofRowC w0
  obtain ⟨k, h⟩ := P l0 a1 a2 hm0 y0 hw0 w1 w2
  refine (tipstafflaw33_WordMakes.calls k _ _ l0 a1 a2 true w HL_ (Kd.C_of_reads (d := (0 : Int)) (h1 := fun _ => rfl) hr0) hc0 h).mono ?_
  rintro e w' ⟨rfl, hd⟩
  exact ⟨rfl, hd⟩

end Go.Proofs.YtbcmlgbhejcjbaaDoor.S
