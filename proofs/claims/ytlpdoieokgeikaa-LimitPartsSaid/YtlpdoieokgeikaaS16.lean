-- PRINTED by print.py (a twelfth state) out of the translation. Not trusted: Lean checks it.
import Derived.Test.YtlpdoieokgeikaaS0
namespace Go.Proofs.Ytlpdoieokgeikaa.S
open Go.RowKit Go.Proofs.YtlpdoieokgeikaaW.PrintWords Go.Proofs.YtlpdoieokgeikaaW.PrintLast Go.Proofs.YtlpdoieokgeikaaW.PrintMore
attribute [local go_sem] Go.Proofs.YtlpdoieokgeikaaW.PrintXtra.isSome_setCell max2_int min2_int max_two min_two max_three min_three max_four min_four   -- for this text's walks alone
set_option linter.unusedVariables false
set_option linter.unusedSimpArgs false

/-! ### tipstaffkit_Mod: function 32 -/
def tipstaffkit_Mod.f (a0 : Int) (a1 : Int) : Option (Int) := if a1 < 1 then (some 0) else (if a1 = 0 then (none) else (if (Int.tmod a0 a1) < 0 then (some (wrap64 ((Int.tmod a0 a1) + a1))) else (some (Int.tmod a0 a1))))
set_option maxHeartbeats 8000000 in
set_option maxRecDepth 100000 in
theorem tipstaffkit_Mod.calls (a0 : Int) (a1 : Int) (r : Int) (w : World) (h : tipstaffkit_Mod.f a0 a1 = some r) :
    Calls Try.prog 32 #[.int .i64 a0, .int .i64 a1] w fun e w' => e = .returned (.int .i64 r) ∧ Drawn0 w w' := by
  have H : (if a1 < 1 then (some 0) else (if a1 = 0 then (none) else (if (Int.tmod a0 a1) < 0 then (some (wrap64 ((Int.tmod a0 a1) + a1))) else (some (Int.tmod a0 a1))))) = some r := h
  clear h
  by_cases c3 : a1 < 1
  · rw [if_pos c3] at H
    have c3b0 : decide (a1 < 1) = true := decide_eq_true c3
    clear c3
    obtain rfl := Option.some.inj H
    go_enter Try.func32, Try.ntmps32
    go_wp2
    go_ret
    exact ⟨by first | rfl | (simp; done) | (simp [*]; done), by repeat (first | exact Drawn0.refl _ | apply Drawn0.step)⟩
  · rw [if_neg c3] at H
    have c3b0 : decide (a1 < 1) = false := decide_eq_false c3
    clear c3
    by_cases c4 : a1 = 0
    · rw [if_pos c4] at H
      exact absurd H (by simp)
    · rw [if_neg c4] at H
      have c4b0 : (a1 == 0) = false := beq_eq_false_iff_ne.mpr c4
      have c4b1 : (a1 != 0) = true := bne_iff_ne.mpr c4
      by_cases c5 : (Int.tmod a0 a1) < 0
      · rw [if_pos c5] at H
        have c5b0 : decide ((Int.tmod a0 a1) < 0) = true := decide_eq_true c5
        clear c5
        obtain rfl := Option.some.inj H
        go_enter Try.func32, Try.ntmps32
        go_wp2
        go_ret
        exact ⟨by first | rfl | (simp; done) | (simp [*]; done), by repeat (first | exact Drawn0.refl _ | apply Drawn0.step)⟩
      · rw [if_neg c5] at H
        have c5b0 : decide ((Int.tmod a0 a1) < 0) = false := decide_eq_false c5
        clear c5
        obtain rfl := Option.some.inj H
        go_enter Try.func32, Try.ntmps32
        go_wp2
        go_ret
        exact ⟨by first | rfl | (simp; done) | (simp [*]; done), by repeat (first | exact Drawn0.refl _ | apply Drawn0.step)⟩

/-! ### tipstafflaw14_made: function 31 -/
mutual
def tipstafflaw14_made.l0 : Nat → List Int → List (S38) → Int → Option ((List (S38)))
 | 0, _, _, _ => none
 | k + 1, x0, x3, x4 => if x4 < (x0.length : Int) then (tipstafflaw14_made.j1 k x0 x3 x4 (decide (x4 < 30))) else (tipstafflaw14_made.j1 k x0 x3 x4 false)
def tipstafflaw14_made.j1 : Nat → List Int → List (S38) → Int → Bool → Option ((List (S38)))
 | 0, _, _, _, _ => none
 | k + 1, x0, x3, x4, x14 => if x14 = true then (if 0 ≤ x4 then (if x4 < (x0.length : Int) then ((tipstaffkit_Mod.f (rd x0 x4) 1048576).bind fun t503 => (if (Int.tmod (wrap64 (Int.tdiv t503 1200)) 4) = 0 then (if x3.length < 4398046511104 then (tipstafflaw14_made.l0 k x0 (x3 ++ [(⟨wrap64 ((Int.tmod t503 25) - 2), Int.tmod (wrap64 (Int.tdiv t503 25)) 6, ((Int.tmod (wrap64 (Int.tdiv t503 150)) 2) == 0), ((Int.tmod (wrap64 (Int.tdiv t503 300)) 4) == 0), Int.tmod (wrap64 (Int.tdiv t503 4800)) 3⟩ : S38)]) (wrap64 (x4 + 1))) else (none)) else (if x3.length < 4398046511104 then (tipstafflaw14_made.l0 k x0 (x3 ++ [(⟨wrap64 ((Int.tmod t503 25) - 2), Int.tmod (wrap64 (Int.tdiv t503 25)) 6, ((Int.tmod (wrap64 (Int.tdiv t503 150)) 2) == 0), ((Int.tmod (wrap64 (Int.tdiv t503 300)) 4) == 0), 0⟩ : S38)]) (wrap64 (x4 + 1))) else (none)))) else (none)) else (none)) else (some x3)
end
def tipstafflaw14_made.f (k : Nat) (l0 : List Int) : Option ((List (S38))) := tipstafflaw14_made.l0 k l0 ([] : List (S38)) 0
theorem tipstafflaw14_made.mono_l : ∀ k, (∀ y0 y1 y2, LeO (tipstafflaw14_made.l0 k y0 y1 y2) (tipstafflaw14_made.l0 (k + 1) y0 y1 y2)) ∧ (∀ y0 y1 y2 y3, LeO (tipstafflaw14_made.j1 k y0 y1 y2 y3) (tipstafflaw14_made.j1 (k + 1) y0 y1 y2 y3))
 | 0 => ⟨fun _ _ _ r h => by simp [tipstafflaw14_made.l0] at h, fun _ _ _ _ r h => by simp [tipstafflaw14_made.j1] at h⟩
 | k + 1 => by
  obtain ⟨ih0, ih1⟩ := tipstafflaw14_made.mono_l k
  refine ⟨?_, ?_⟩
  ·intro y0 y1 y2
   unfold tipstafflaw14_made.l0
   repeat' first
   | (with_reducible exact ih0 _ _ _)
   | (with_reducible exact ih1 _ _ _ _)
   | (with_reducible exact LeO.refl _)
   | (with_reducible exact LeO.none _)
   | (with_reducible refine LeO.ite ?_ ?_)
   | (with_reducible refine LeO.bind ?_ (fun _ => ?_))
   | exact ih0 _ _ _
   | exact ih1 _ _ _ _
   | exact LeO.none _
   | refine LeO.ite ?_ ?_
   | refine LeO.bind ?_ (fun _ => ?_)
  ·intro y0 y1 y2 y3
   unfold tipstafflaw14_made.j1
   repeat' first
   | (with_reducible exact ih0 _ _ _)
   | (with_reducible exact ih1 _ _ _ _)
   | (with_reducible exact LeO.refl _)
   | (with_reducible exact LeO.none _)
   | (with_reducible refine LeO.ite ?_ ?_)
   | (with_reducible refine LeO.bind ?_ (fun _ => ?_))
   | exact ih0 _ _ _
   | exact ih1 _ _ _ _
   | exact LeO.none _
   | refine LeO.ite ?_ ?_
   | refine LeO.bind ?_ (fun _ => ?_)
theorem tipstafflaw14_made.mono : ∀ a0 k, LeO (tipstafflaw14_made.f k a0) (tipstafflaw14_made.f (k + 1) a0) := by
 intro a0 k
 obtain ⟨ih0, ih1⟩ := tipstafflaw14_made.mono_l k
 unfold tipstafflaw14_made.f
 repeat' first
   | (with_reducible exact ih0 _ _ _)
   | (with_reducible exact ih1 _ _ _ _)
   | (with_reducible exact LeO.refl _)
   | (with_reducible exact LeO.none _)
   | (with_reducible refine LeO.ite ?_ ?_)
   | (with_reducible refine LeO.bind ?_ (fun _ => ?_))
   | exact ih0 _ _ _
   | exact ih1 _ _ _ _
   | exact LeO.none _
   | refine LeO.ite ?_ ?_
   | refine LeO.bind ?_ (fun _ => ?_)
set_option maxHeartbeats 8000000 in
set_option maxRecDepth 100000 in
theorem tipstafflaw14_made.calls (k : Nat) (A0 : Option Addr) (c0 : Nat) (l0 : List Int) (r : List (S38)) (w : World) (hr0 : Kd.C (Kd.int .i64) w A0 l0.length l0) (hc0 : l0.length ≤ c0) (h : tipstafflaw14_made.f k l0 = some r) :
  Calls Try.prog 31 #[.slice A0 l0.length c0] w fun e w' => ∃ v0_ : Value, e = .returned (v0_) ∧ Kd.R k38 38 w' w.heap.size (fun _ => True) v0_ r ∧ Below w.heap.size w w' := by
 have hu38 := Try.underlying38
 have HR0 := Aside0.mk hr0
 have HC0 := Aside0.mk hc0
 clear hr0 hc0
 have HB := Aside0.mk (Below.refl w.heap.size w)
 have H : (tipstafflaw14_made.l0 k l0 ([] : List (S38)) 0) = some r := h
 clear h
 have H' := Aside0.mk H
 clear H
 go_enter Try.func31, Try.ntmps31
 go_wp2
 go_loopg [3, 4] k (fun kq v3 v4 w' => ∃ (x3_1 : List (S38)) (x4_1 : Int), v4 = .int .i64 x4_1 ∧ Aside0 (tipstafflaw14_made.l0 kq l0 x3_1 x4_1 = some r) ∧ Aside0 (kq ≤ k) ∧ Aside0 (Kd.R k38 38 w' w.heap.size (fun _ => True) v3 x3_1) ∧ Aside0 (Below w.heap.size w w'))
 case atStart => exact ⟨(([] : List (S38))), (0), (by first | rfl | (simp; done) | (simp [*]; done)), H', ⟨Nat.le_refl _⟩, ⟨by first | exact Kd.R_nil _ _ _ _ _ | exact Kd.N_nil _ _ _ _ _ | exact Kd.V_nil _ _ _ _ _ | exact Kd.Q_nil _ _ _ _ _ | exact Kd.S_nil _ _ _ _ _⟩, ⟨by repeat (first | (with_reducible first | exact HB.out | apply below_alloc | apply pw_below_drewN | apply below_drew1) | exact HB.out)⟩⟩
 case round =>
  clear H'
  obtain ⟨x3_1, x4_1, rfl, HA, HK1, HO_3, HB⟩ := hrel
  cases gk with
  | zero => exact absurd HA.out (by simp [tipstafflaw14_made.l0])
  | succ k1 =>
   have H := HA.out
   clear HA
   simp only [tipstafflaw14_made.l0] at H
   have HC2 := Aside0.mk H
   clear H
   go_upto_region 3 with (fail)
   go_cut [14] (fun v14 wc => ∃ (kq : Nat) (x14_1 : Bool), v14 = .bool x14_1 ∧ Aside0 (tipstafflaw14_made.j1 kq l0 x3_1 x4_1 x14_1 = some r) ∧ Aside0 (kq ≤ k1) ∧ Aside0 (Kd.R k38 38 wc w.heap.size (fun _ => True) u3 x3_1) ∧ Aside0 (Below w.heap.size w wc))
   case first =>
    have H := HC2.out
    clear HC2
    by_cases c3 : x4_1 < (l0.length : Int)
    ·rw [if_pos c3] at H
     have c3b0 : decide (x4_1 < (l0.length : Int)) = true := decide_eq_true c3
     clear c3
     (first | rw [c3b0] | (simp only [i64_w, i32_w]; rw [c3b0]) | skip)
     have H' := Aside0.mk H
     clear H
     go_wp2
     go_meet
     case rel => exact ⟨_, (decide (x4_1 < 30)), (by first | rfl | (simp; done) | (simp [*]; done)), H', ⟨by have := HK1.out; first | omega | exact Nat.le_refl _⟩, ⟨by (with_reducible repeat (first | apply Kd.R_alloc | apply Kd.R_drewN | apply Kd.R_drew)); exact HO_3.out⟩, ⟨by repeat (first | (with_reducible first | exact HB.out | apply below_alloc | apply pw_below_drewN | apply below_drew1) | exact HB.out)⟩⟩
    ·rw [if_neg c3] at H
     have c3b0 : decide (x4_1 < (l0.length : Int)) = false := decide_eq_false c3
     clear c3
     (first | rw [c3b0] | (simp only [i64_w, i32_w]; rw [c3b0]) | skip)
     have H' := Aside0.mk H
     clear H
     go_wp2
     go_meet
     case rel => exact ⟨_, (false), (by first | rfl | (simp; done) | (simp [*]; done)), H', ⟨by have := HK1.out; first | omega | exact Nat.le_refl _⟩, ⟨by (with_reducible repeat (first | apply Kd.R_alloc | apply Kd.R_drewN | apply Kd.R_drew)); exact HO_3.out⟩, ⟨by repeat (first | (with_reducible first | exact HB.out | apply below_alloc | apply pw_below_drewN | apply below_drew1) | exact HB.out)⟩⟩
   case rest =>
    clear HC2
    try clear p2
    try clear c3
    try clear c3b0
    obtain ⟨kq, x14_1, rfl, HA, HJ1, HO_3, HB⟩ := hcut
    cases kq with
    | zero => exact absurd HA.out (by simp [tipstafflaw14_made.j1])
    | succ kj1 =>
     have H := HA.out
     clear HA
     simp only [tipstafflaw14_made.j1] at H
     by_cases c4 : x14_1 = true
     ·subst c4
      have H1 : (if 0 ≤ x4_1 then (if x4_1 < (l0.length : Int) then ((tipstaffkit_Mod.f (rd l0 x4_1) 1048576).bind fun t503 => (if (Int.tmod (wrap64 (Int.tdiv t503 1200)) 4) = 0 then (if x3_1.length < 4398046511104 then (tipstafflaw14_made.l0 kj1 l0 (x3_1 ++ [(⟨wrap64 ((Int.tmod t503 25) - 2), Int.tmod (wrap64 (Int.tdiv t503 25)) 6, ((Int.tmod (wrap64 (Int.tdiv t503 150)) 2) == 0), ((Int.tmod (wrap64 (Int.tdiv t503 300)) 4) == 0), Int.tmod (wrap64 (Int.tdiv t503 4800)) 3⟩ : S38)]) (wrap64 (x4_1 + 1))) else (none)) else (if x3_1.length < 4398046511104 then (tipstafflaw14_made.l0 kj1 l0 (x3_1 ++ [(⟨wrap64 ((Int.tmod t503 25) - 2), Int.tmod (wrap64 (Int.tdiv t503 25)) 6, ((Int.tmod (wrap64 (Int.tdiv t503 150)) 2) == 0), ((Int.tmod (wrap64 (Int.tdiv t503 300)) 4) == 0), 0⟩ : S38)]) (wrap64 (x4_1 + 1))) else (none)))) else (none)) else (none)) = some r := by rw [if_pos rfl] at H; exact H
      clear H
      have H := H1
      clear H1
      by_cases c5 : 0 ≤ x4_1
      ·rw [if_pos c5] at H
       have c5b0 : decide (0 ≤ x4_1) = true := decide_eq_true c5
       clear c5
       by_cases c6 : x4_1 < (l0.length : Int)
       ·rw [if_pos c6] at H
        have c6b0 : decide (x4_1 < (l0.length : Int)) = true := decide_eq_true c6
        clear c6
        replace H := Option.bind_eq_some_iff.mp H
        obtain ⟨t503, A70, H⟩ := H
        replace H : (if (Int.tmod (wrap64 (Int.tdiv t503 1200)) 4) = 0 then (if x3_1.length < 4398046511104 then (tipstafflaw14_made.l0 kj1 l0 (x3_1 ++ [(⟨wrap64 ((Int.tmod t503 25) - 2), Int.tmod (wrap64 (Int.tdiv t503 25)) 6, ((Int.tmod (wrap64 (Int.tdiv t503 150)) 2) == 0), ((Int.tmod (wrap64 (Int.tdiv t503 300)) 4) == 0), Int.tmod (wrap64 (Int.tdiv t503 4800)) 3⟩ : S38)]) (wrap64 (x4_1 + 1))) else (none)) else (if x3_1.length < 4398046511104 then (tipstafflaw14_made.l0 kj1 l0 (x3_1 ++ [(⟨wrap64 ((Int.tmod t503 25) - 2), Int.tmod (wrap64 (Int.tdiv t503 25)) 6, ((Int.tmod (wrap64 (Int.tdiv t503 150)) 2) == 0), ((Int.tmod (wrap64 (Int.tdiv t503 300)) 4) == 0), 0⟩ : S38)]) (wrap64 (x4_1 + 1))) else (none))) = some r := H
        have A7 := Aside0.mk A70
        clear A70
        by_cases c8 : (Int.tmod (wrap64 (Int.tdiv t503 1200)) 4) = 0
        ·rw [if_pos c8] at H
         have c8b0 : ((Int.tmod (wrap64 (Int.tdiv t503 1200)) 4) == 0) = true := beq_iff_eq.mpr c8
         have c8b1 : ((Int.tmod (wrap64 (Int.tdiv t503 1200)) 4) != 0) = false := bne_eq_false_iff_eq.mpr c8
         clear c8
         by_cases c9 : x3_1.length < 4398046511104
         ·rw [if_pos c9] at H
          have LMc9 := Aside0.mk c9
          clear c9
          obtain ⟨y505, hy505⟩ : ∃ y_ : List (S38), y_ = (x3_1 ++ [(⟨wrap64 ((Int.tmod t503 25) - 2), Int.tmod (wrap64 (Int.tdiv t503 25)) 6, ((Int.tmod (wrap64 (Int.tdiv t503 150)) 2) == 0), ((Int.tmod (wrap64 (Int.tdiv t503 300)) 4) == 0), Int.tmod (wrap64 (Int.tdiv t503 4800)) 3⟩ : S38)]) := ⟨_, rfl⟩
          replace H : (tipstafflaw14_made.l0 kj1 l0 y505 (wrap64 (x4_1 + 1))) = some r := by first | (rw [hy505]; with_reducible exact H) | (have H2_ := (Option.bind_some _ _).symm.trans H; rw [hy505]; with_reducible exact H2_) | (have H2_ := (Option.bind_some _ _).symm.trans H; with_reducible exact H2_) | with_reducible exact H | (rw [hy505]; exact H) | exact H
          have Ny505 := Aside0.mk hy505
          clear hy505
          have H' := Aside0.mk H
          clear H
          have p502 : 0 ≤ (x4_1 : Int) := of_decide_eq_true (by first | (with_reducible assumption) | assumption)
          have q502 : x4_1 < (l0.length : Int) := of_decide_eq_true (by first | (with_reducible assumption) | assumption)
          obtain ⟨ad502, e502, hx502_0⟩ := Kd.at_int HR0.out x4_1 p502 q502
          cases e502
          replace hx502_0 := (HB.out.cell (World.block_lt_of_cell? w _ hx502_0)).trans hx502_0
          replace p502 := eq_true p502
          replace q502 := eq_true q502
          go_wp2_with (first | ((with_reducible refine gate_callee (f := 32) rfl ?_); refine goesL_ (some 21) rfl rfl Try.func32 (by kernel_rfl) rfl #[.int .i64 (rd l0 x4_1), .int .i64 1048576] rfl (by (try simp only [List.map_toArray, List.map_cons, List.map_nil]); first | done | rfl | (simp only [List.length_drop, List.length_take]; rfl)) ?_; (with_reducible refine (tipstaffkit_Mod.calls (rd l0 x4_1) 1048576 t503 _ A7.out).mono ?_); rintro e w' ⟨rfl, ⟨nd, rfl⟩⟩; refine ⟨_, rfl, ?_⟩; (try (rw [drewN_self wc]; generalize hq_ : World.drewN wc _ = wc; have n0_ : Aside0 (Kd.R k38 38 wc w.heap.size (fun _ => True) u3 x3_1) := ⟨by rw [← hq_]; exact (by (with_reducible repeat (first | apply Kd.R_alloc | apply Kd.R_drewN | apply Kd.R_drew)); exact HO_3.out)⟩; have n1_ : Aside0 (Below w.heap.size w wc) := ⟨by rw [← hq_]; exact (by repeat (first | (with_reducible first | exact HB.out | apply below_alloc | apply pw_below_drewN | apply below_drew1) | exact HB.out))⟩; clear HO_3 HB hq_; have HO_3 := n0_; have HB := n1_; clear n0_ n1_))) | ((with_reducible refine gate_dst (N := 6) rfl ?_); refine box_event ?hg (N := 6) ?hd (cs := #[.int .i64 0, .int .i64 0, .bool false, .bool false, .int .i64 0]) (t := 38) ?hr ?_; (case hd => rfl); (case hg => rfl); (case hr => first | (go_simp; done) | (go_simp; rfl)); intro gb504 hg w10 hbox hb; have n0_ := Aside0.mk (Kd.R_below (Kd.R_elderB (by (with_reducible repeat (first | apply Kd.R_alloc | apply Kd.R_drewN | apply Kd.R_drew)); exact HO_3.out) gb504 (Nat.le_of_eq hg.symm)) hb); have n1_ := Aside0.mk (below_step (by repeat (first | (with_reducible first | exact HB.out | apply below_alloc | apply pw_below_drewN | apply below_drew1) | exact HB.out)) hb); have n2_ := Aside0.mk (hbox); have n3_ := Aside0.mk ((by rw [hg]; exact (below_size (by repeat (first | (with_reducible first | exact HB.out | apply below_alloc | apply pw_below_drewN | apply below_drew1) | exact HB.out))) : w.heap.size ≤ gb504)); have n4_ := Aside0.mk ((by rw [hg]; exact (below_size (by repeat (first | (with_reducible first | exact HB.out | apply below_alloc | apply pw_below_drewN | apply below_drew1) | exact HB.out))) : w.heap.size ≤ gb504)); clear HO_3; clear HB; have HO_3 := n0_; have HB := n1_; have BK504 := n2_; have GW504 := n3_; have GE504 := n4_; clear n0_ n1_ n2_ n3_ n4_; clear hb hbox hg; have hcz11_0 : w10.cell? ⟨gb504, 0, none⟩ = some (.int .i64 0) := (blk_cell BK504.out 0).trans rfl; have hcz11_1 : w10.cell? ⟨gb504, 1, none⟩ = some (.int .i64 0) := (blk_cell BK504.out 1).trans rfl; have hcz11_2 : w10.cell? ⟨gb504, 2, none⟩ = some (.bool false) := (blk_cell BK504.out 2).trans rfl; have hcz11_3 : w10.cell? ⟨gb504, 3, none⟩ = some (.bool false) := (blk_cell BK504.out 3).trans rfl; have hcz11_4 : w10.cell? ⟨gb504, 4, none⟩ = some (.int .i64 0) := (blk_cell BK504.out 4).trans rfl; have hfz11_0 := blk_frozen BK504.out 0; have hfz11_1 := blk_frozen BK504.out 1; have hfz11_2 := blk_frozen BK504.out 2; have hfz11_3 := blk_frozen BK504.out 3; have hfz11_4 := blk_frozen BK504.out 4) | ((with_reducible refine gate_builtin (b := .append) (xs := #[.tmp 45, .tmp 47]) rfl ?_); at_builtin; refine Kd.R_append k38 (w0 := w) w.heap.size rfl (.tmp 45) (.tmp 47) 22 38 (.agg #[(.int .i64 0), (.int .i64 0), (.bool false), (.bool false), (.int .i64 0)]) 32 rfl Try.underlying22 info38 rfl (by decide) (by omega) u3 x3_1 (⟨wrap64 ((Int.tmod t503 25) - 2), Int.tmod (wrap64 (Int.tdiv t503 25)) 6, ((Int.tmod (wrap64 (Int.tdiv t503 150)) 2) == 0), ((Int.tmod (wrap64 (Int.tdiv t503 300)) 4) == 0), Int.tmod (wrap64 (Int.tdiv t503 4800)) 3⟩ : S38) [.int .i64 (wrap64 ((Int.tmod t503 25) - 2)), .int .i64 (Int.tmod (wrap64 (Int.tdiv t503 25)) 6), .bool ((Int.tmod (wrap64 (Int.tdiv t503 150)) 2) == 0), .bool ((Int.tmod (wrap64 (Int.tdiv t503 300)) 4) == 0), .int .i64 (Int.tmod (wrap64 (Int.tdiv t503 4800)) 3)] (fun k_ => k_ ≠ gb504) (fun _ => False) rfl (by first | (go_simp; done) | (go_simp; rfl)) ?aP (fun _ hk => hk.elim) ?aF ?aO ?aB ?aS ?aL ?_; (case aP => exact k38_mkM _ _ _ (⟨wrap64 ((Int.tmod t503 25) - 2), Int.tmod (wrap64 (Int.tdiv t503 25)) 6, ((Int.tmod (wrap64 (Int.tdiv t503 150)) 2) == 0), ((Int.tmod (wrap64 (Int.tdiv t503 300)) 4) == 0), Int.tmod (wrap64 (Int.tdiv t503 4800)) 3⟩ : S38)); (case aB => exact (by repeat (first | (with_reducible first | exact HB.out | apply below_alloc | apply pw_below_drewN | apply below_drew1 | refine below_set ?_ GE504.out) | exact HB.out))); (case aF => exact (fun k_ hk => Kd.freshB (g := gb504) (o := .cells #[.int .i64 (wrap64 ((Int.tmod t503 25) - 2)), .int .i64 (Int.tmod (wrap64 (Int.tdiv t503 25)) 6), .bool ((Int.tmod (wrap64 (Int.tdiv t503 150)) 2) == 0), .bool ((Int.tmod (wrap64 (Int.tdiv t503 300)) 4) == 0), .int .i64 (Int.tmod (wrap64 (Int.tdiv t503 4800)) 3)] 38 (0, 0)) (by (with_reducible repeat (first | refine blk_drewN ?_ _ | refine blk_drew ?_ | refine blk_alloc ?_ _)); refine blk_put (cs := #[.int .i64 (wrap64 ((Int.tmod t503 25) - 2)), .int .i64 (Int.tmod (wrap64 (Int.tdiv t503 25)) 6), .bool ((Int.tmod (wrap64 (Int.tdiv t503 150)) 2) == 0), .bool ((Int.tmod (wrap64 (Int.tdiv t503 300)) 4) == 0), .int .i64 0]) ?_ 4 _ rfl; (with_reducible repeat (first | refine blk_drewN ?_ _ | refine blk_drew ?_ | refine blk_alloc ?_ _)); refine blk_put (cs := #[.int .i64 (wrap64 ((Int.tmod t503 25) - 2)), .int .i64 (Int.tmod (wrap64 (Int.tdiv t503 25)) 6), .bool ((Int.tmod (wrap64 (Int.tdiv t503 150)) 2) == 0), .bool ((Int.tmod (wrap64 (Int.tdiv t503 300)) 4) == 0), .int .i64 0]) ?_ 4 _ rfl; (with_reducible repeat (first | refine blk_drewN ?_ _ | refine blk_drew ?_ | refine blk_alloc ?_ _)); refine blk_put (cs := #[.int .i64 (wrap64 ((Int.tmod t503 25) - 2)), .int .i64 (Int.tmod (wrap64 (Int.tdiv t503 25)) 6), .bool ((Int.tmod (wrap64 (Int.tdiv t503 150)) 2) == 0), .bool false, .int .i64 0]) ?_ 3 _ rfl; (with_reducible repeat (first | refine blk_drewN ?_ _ | refine blk_drew ?_ | refine blk_alloc ?_ _)); refine blk_put (cs := #[.int .i64 (wrap64 ((Int.tmod t503 25) - 2)), .int .i64 (Int.tmod (wrap64 (Int.tdiv t503 25)) 6), .bool false, .bool false, .int .i64 0]) ?_ 2 _ rfl; (with_reducible repeat (first | refine blk_drewN ?_ _ | refine blk_drew ?_ | refine blk_alloc ?_ _)); refine blk_put (cs := #[.int .i64 (wrap64 ((Int.tmod t503 25) - 2)), .int .i64 0, .bool false, .bool false, .int .i64 0]) ?_ 1 _ rfl; (with_reducible repeat (first | refine blk_drewN ?_ _ | refine blk_drew ?_ | refine blk_alloc ?_ _)); refine blk_put (cs := #[.int .i64 0, .int .i64 0, .bool false, .bool false, .int .i64 0]) ?_ 0 _ rfl; (with_reducible repeat (first | refine blk_drewN ?_ _ | refine blk_drew ?_ | refine blk_alloc ?_ _)); exact BK504.out) k_ hk)); (case aO => exact (by (with_reducible repeat (first | apply Kd.R_alloc | apply Kd.R_drewN | apply Kd.R_drew)); exact Kd.R_mono (Kd.R_far (p := ⟨gb504, 4, none⟩) (Kd.R_far (p := ⟨gb504, 4, none⟩) (Kd.R_far (p := ⟨gb504, 3, none⟩) (Kd.R_far (p := ⟨gb504, 2, none⟩) (Kd.R_far (p := ⟨gb504, 1, none⟩) (Kd.R_far (p := ⟨gb504, 0, none⟩) (Kd.R_mono HO_3.out (fun k_ hk => (⟨hk, hk.2⟩ : _ ∧ k_ ≠ gb504))) (fun _ hk => hk.2) (.int .i64 (wrap64 ((Int.tmod t503 25) - 2)))) (fun _ hk => hk.2) (.int .i64 (Int.tmod (wrap64 (Int.tdiv t503 25)) 6))) (fun _ hk => hk.2) (.bool ((Int.tmod (wrap64 (Int.tdiv t503 150)) 2) == 0))) (fun _ hk => hk.2) (.bool ((Int.tmod (wrap64 (Int.tdiv t503 300)) 4) == 0))) (fun _ hk => hk.2) (.int .i64 0)) (fun _ hk => hk.2) (.int .i64 (Int.tmod (wrap64 (Int.tdiv t503 4800)) 3))) (fun _ hk => hk.1.2))); (case aS => exact (below_size (by repeat (first | (with_reducible first | exact HB.out | apply below_alloc | apply pw_below_drewN | apply below_drew1 | refine below_set ?_ GE504.out) | exact HB.out)))); (case aL => have := LMc9.out; omega); intro v506 w12 ho hb hg hat; rw [← Ny505.out] at ho; have n0_ := Aside0.mk (blk_grown (g := gb504) (o := .cells #[.int .i64 (wrap64 ((Int.tmod t503 25) - 2)), .int .i64 (Int.tmod (wrap64 (Int.tdiv t503 25)) 6), .bool ((Int.tmod (wrap64 (Int.tdiv t503 150)) 2) == 0), .bool ((Int.tmod (wrap64 (Int.tdiv t503 300)) 4) == 0), .int .i64 (Int.tmod (wrap64 (Int.tdiv t503 4800)) 3)] 38 (0, 0)) (by (with_reducible repeat (first | refine blk_drewN ?_ _ | refine blk_drew ?_ | refine blk_alloc ?_ _)); refine blk_put (cs := #[.int .i64 (wrap64 ((Int.tmod t503 25) - 2)), .int .i64 (Int.tmod (wrap64 (Int.tdiv t503 25)) 6), .bool ((Int.tmod (wrap64 (Int.tdiv t503 150)) 2) == 0), .bool ((Int.tmod (wrap64 (Int.tdiv t503 300)) 4) == 0), .int .i64 0]) ?_ 4 _ rfl; (with_reducible repeat (first | refine blk_drewN ?_ _ | refine blk_drew ?_ | refine blk_alloc ?_ _)); refine blk_put (cs := #[.int .i64 (wrap64 ((Int.tmod t503 25) - 2)), .int .i64 (Int.tmod (wrap64 (Int.tdiv t503 25)) 6), .bool ((Int.tmod (wrap64 (Int.tdiv t503 150)) 2) == 0), .bool ((Int.tmod (wrap64 (Int.tdiv t503 300)) 4) == 0), .int .i64 0]) ?_ 4 _ rfl; (with_reducible repeat (first | refine blk_drewN ?_ _ | refine blk_drew ?_ | refine blk_alloc ?_ _)); refine blk_put (cs := #[.int .i64 (wrap64 ((Int.tmod t503 25) - 2)), .int .i64 (Int.tmod (wrap64 (Int.tdiv t503 25)) 6), .bool ((Int.tmod (wrap64 (Int.tdiv t503 150)) 2) == 0), .bool false, .int .i64 0]) ?_ 3 _ rfl; (with_reducible repeat (first | refine blk_drewN ?_ _ | refine blk_drew ?_ | refine blk_alloc ?_ _)); refine blk_put (cs := #[.int .i64 (wrap64 ((Int.tmod t503 25) - 2)), .int .i64 (Int.tmod (wrap64 (Int.tdiv t503 25)) 6), .bool false, .bool false, .int .i64 0]) ?_ 2 _ rfl; (with_reducible repeat (first | refine blk_drewN ?_ _ | refine blk_drew ?_ | refine blk_alloc ?_ _)); refine blk_put (cs := #[.int .i64 (wrap64 ((Int.tmod t503 25) - 2)), .int .i64 0, .bool false, .bool false, .int .i64 0]) ?_ 1 _ rfl; (with_reducible repeat (first | refine blk_drewN ?_ _ | refine blk_drew ?_ | refine blk_alloc ?_ _)); refine blk_put (cs := #[.int .i64 0, .int .i64 0, .bool false, .bool false, .int .i64 0]) ?_ 0 _ rfl; (with_reducible repeat (first | refine blk_drewN ?_ _ | refine blk_drew ?_ | refine blk_alloc ?_ _)); exact BK504.out) hg (Kd.R_away HO_3.out (fun _ hk => hk.2))); have n1_ := Aside0.mk (hb); have n2_ := Aside0.mk (ho); clear BK504; clear HB; clear HO_3; have BK504 := n0_; have HB := n1_; have HO507 := n2_; clear n0_ n1_ n2_; clear ho hb hg hat))
          go_roundg kj1
          case measure => have := HK1.out; have := HJ1.out; omega
          case rel => exact ⟨(y505), (wrap64 (x4_1 + 1)), (by first | rfl | (simp; done) | (simp [*]; done)), H', ⟨by have := HK1.out; have := HJ1.out; omega⟩, ⟨by (with_reducible repeat (first | apply Kd.R_alloc | apply Kd.R_drewN | apply Kd.R_drew)); exact Kd.R_mono HO507.out (fun _ hk => trivial)⟩, ⟨by repeat (first | (with_reducible first | exact HB.out | apply below_alloc | apply pw_below_drewN | apply below_drew1 | refine below_set ?_ GE504.out) | exact HB.out)⟩⟩
         ·rw [if_neg c9] at H
          exact absurd H (by simp)
        ·rw [if_neg c8] at H
         have c8b0 : ((Int.tmod (wrap64 (Int.tdiv t503 1200)) 4) == 0) = false := beq_eq_false_iff_ne.mpr c8
         have c8b1 : ((Int.tmod (wrap64 (Int.tdiv t503 1200)) 4) != 0) = true := bne_iff_ne.mpr c8
         by_cases c13 : x3_1.length < 4398046511104
         ·rw [if_pos c13] at H
          have LMc13 := Aside0.mk c13
          clear c13
          obtain ⟨y508, hy508⟩ : ∃ y_ : List (S38), y_ = (x3_1 ++ [(⟨wrap64 ((Int.tmod t503 25) - 2), Int.tmod (wrap64 (Int.tdiv t503 25)) 6, ((Int.tmod (wrap64 (Int.tdiv t503 150)) 2) == 0), ((Int.tmod (wrap64 (Int.tdiv t503 300)) 4) == 0), 0⟩ : S38)]) := ⟨_, rfl⟩
          replace H : (tipstafflaw14_made.l0 kj1 l0 y508 (wrap64 (x4_1 + 1))) = some r := by first | (rw [hy508]; with_reducible exact H) | (have H2_ := (Option.bind_some _ _).symm.trans H; rw [hy508]; with_reducible exact H2_) | (have H2_ := (Option.bind_some _ _).symm.trans H; with_reducible exact H2_) | with_reducible exact H | (rw [hy508]; exact H) | exact H
          have Ny508 := Aside0.mk hy508
          clear hy508
          have H' := Aside0.mk H
          clear H
          have p502 : 0 ≤ (x4_1 : Int) := of_decide_eq_true (by first | (with_reducible assumption) | assumption)
          have q502 : x4_1 < (l0.length : Int) := of_decide_eq_true (by first | (with_reducible assumption) | assumption)
          obtain ⟨ad502, e502, hx502_0⟩ := Kd.at_int HR0.out x4_1 p502 q502
          cases e502
          replace hx502_0 := (HB.out.cell (World.block_lt_of_cell? w _ hx502_0)).trans hx502_0
          replace p502 := eq_true p502
          replace q502 := eq_true q502
          go_wp2_with (first | ((with_reducible refine gate_callee (f := 32) rfl ?_); refine goesL_ (some 21) rfl rfl Try.func32 (by kernel_rfl) rfl #[.int .i64 (rd l0 x4_1), .int .i64 1048576] rfl (by (try simp only [List.map_toArray, List.map_cons, List.map_nil]); first | done | rfl | (simp only [List.length_drop, List.length_take]; rfl)) ?_; (with_reducible refine (tipstaffkit_Mod.calls (rd l0 x4_1) 1048576 t503 _ A7.out).mono ?_); rintro e w' ⟨rfl, ⟨nd, rfl⟩⟩; refine ⟨_, rfl, ?_⟩; (try (rw [drewN_self wc]; generalize hq_ : World.drewN wc _ = wc; have n0_ : Aside0 (Kd.R k38 38 wc w.heap.size (fun _ => True) u3 x3_1) := ⟨by rw [← hq_]; exact (by (with_reducible repeat (first | apply Kd.R_alloc | apply Kd.R_drewN | apply Kd.R_drew)); exact HO_3.out)⟩; have n1_ : Aside0 (Below w.heap.size w wc) := ⟨by rw [← hq_]; exact (by repeat (first | (with_reducible first | exact HB.out | apply below_alloc | apply pw_below_drewN | apply below_drew1) | exact HB.out))⟩; clear HO_3 HB hq_; have HO_3 := n0_; have HB := n1_; clear n0_ n1_))) | ((with_reducible refine gate_dst (N := 6) rfl ?_); refine box_event ?hg (N := 6) ?hd (cs := #[.int .i64 0, .int .i64 0, .bool false, .bool false, .int .i64 0]) (t := 38) ?hr ?_; (case hd => rfl); (case hg => rfl); (case hr => first | (go_simp; done) | (go_simp; rfl)); intro gb504 hg w14 hbox hb; have n0_ := Aside0.mk (Kd.R_below (Kd.R_elderB (by (with_reducible repeat (first | apply Kd.R_alloc | apply Kd.R_drewN | apply Kd.R_drew)); exact HO_3.out) gb504 (Nat.le_of_eq hg.symm)) hb); have n1_ := Aside0.mk (below_step (by repeat (first | (with_reducible first | exact HB.out | apply below_alloc | apply pw_below_drewN | apply below_drew1) | exact HB.out)) hb); have n2_ := Aside0.mk (hbox); have n3_ := Aside0.mk ((by rw [hg]; exact (below_size (by repeat (first | (with_reducible first | exact HB.out | apply below_alloc | apply pw_below_drewN | apply below_drew1) | exact HB.out))) : w.heap.size ≤ gb504)); have n4_ := Aside0.mk ((by rw [hg]; exact (below_size (by repeat (first | (with_reducible first | exact HB.out | apply below_alloc | apply pw_below_drewN | apply below_drew1) | exact HB.out))) : w.heap.size ≤ gb504)); clear HO_3; clear HB; have HO_3 := n0_; have HB := n1_; have BK504 := n2_; have GW504 := n3_; have GE504 := n4_; clear n0_ n1_ n2_ n3_ n4_; clear hb hbox hg; have hcz15_0 : w14.cell? ⟨gb504, 0, none⟩ = some (.int .i64 0) := (blk_cell BK504.out 0).trans rfl; have hcz15_1 : w14.cell? ⟨gb504, 1, none⟩ = some (.int .i64 0) := (blk_cell BK504.out 1).trans rfl; have hcz15_2 : w14.cell? ⟨gb504, 2, none⟩ = some (.bool false) := (blk_cell BK504.out 2).trans rfl; have hcz15_3 : w14.cell? ⟨gb504, 3, none⟩ = some (.bool false) := (blk_cell BK504.out 3).trans rfl; have hcz15_4 : w14.cell? ⟨gb504, 4, none⟩ = some (.int .i64 0) := (blk_cell BK504.out 4).trans rfl; have hfz15_0 := blk_frozen BK504.out 0; have hfz15_1 := blk_frozen BK504.out 1; have hfz15_2 := blk_frozen BK504.out 2; have hfz15_3 := blk_frozen BK504.out 3; have hfz15_4 := blk_frozen BK504.out 4) | ((with_reducible refine gate_builtin (b := .append) (xs := #[.tmp 45, .tmp 47]) rfl ?_); at_builtin; refine Kd.R_append k38 (w0 := w) w.heap.size rfl (.tmp 45) (.tmp 47) 22 38 (.agg #[(.int .i64 0), (.int .i64 0), (.bool false), (.bool false), (.int .i64 0)]) 32 rfl Try.underlying22 info38 rfl (by decide) (by omega) u3 x3_1 (⟨wrap64 ((Int.tmod t503 25) - 2), Int.tmod (wrap64 (Int.tdiv t503 25)) 6, ((Int.tmod (wrap64 (Int.tdiv t503 150)) 2) == 0), ((Int.tmod (wrap64 (Int.tdiv t503 300)) 4) == 0), 0⟩ : S38) [.int .i64 (wrap64 ((Int.tmod t503 25) - 2)), .int .i64 (Int.tmod (wrap64 (Int.tdiv t503 25)) 6), .bool ((Int.tmod (wrap64 (Int.tdiv t503 150)) 2) == 0), .bool ((Int.tmod (wrap64 (Int.tdiv t503 300)) 4) == 0), .int .i64 0] (fun k_ => k_ ≠ gb504) (fun _ => False) rfl (by first | (go_simp; done) | (go_simp; rfl)) ?aP (fun _ hk => hk.elim) ?aF ?aO ?aB ?aS ?aL ?_; (case aP => exact k38_mkM _ _ _ (⟨wrap64 ((Int.tmod t503 25) - 2), Int.tmod (wrap64 (Int.tdiv t503 25)) 6, ((Int.tmod (wrap64 (Int.tdiv t503 150)) 2) == 0), ((Int.tmod (wrap64 (Int.tdiv t503 300)) 4) == 0), 0⟩ : S38)); (case aB => exact (by repeat (first | (with_reducible first | exact HB.out | apply below_alloc | apply pw_below_drewN | apply below_drew1 | refine below_set ?_ GE504.out) | exact HB.out))); (case aF => exact (fun k_ hk => Kd.freshB (g := gb504) (o := .cells #[.int .i64 (wrap64 ((Int.tmod t503 25) - 2)), .int .i64 (Int.tmod (wrap64 (Int.tdiv t503 25)) 6), .bool ((Int.tmod (wrap64 (Int.tdiv t503 150)) 2) == 0), .bool ((Int.tmod (wrap64 (Int.tdiv t503 300)) 4) == 0), .int .i64 0] 38 (0, 0)) (by (with_reducible repeat (first | refine blk_drewN ?_ _ | refine blk_drew ?_ | refine blk_alloc ?_ _)); refine blk_put (cs := #[.int .i64 (wrap64 ((Int.tmod t503 25) - 2)), .int .i64 (Int.tmod (wrap64 (Int.tdiv t503 25)) 6), .bool ((Int.tmod (wrap64 (Int.tdiv t503 150)) 2) == 0), .bool ((Int.tmod (wrap64 (Int.tdiv t503 300)) 4) == 0), .int .i64 0]) ?_ 4 _ rfl; (with_reducible repeat (first | refine blk_drewN ?_ _ | refine blk_drew ?_ | refine blk_alloc ?_ _)); refine blk_put (cs := #[.int .i64 (wrap64 ((Int.tmod t503 25) - 2)), .int .i64 (Int.tmod (wrap64 (Int.tdiv t503 25)) 6), .bool ((Int.tmod (wrap64 (Int.tdiv t503 150)) 2) == 0), .bool false, .int .i64 0]) ?_ 3 _ rfl; (with_reducible repeat (first | refine blk_drewN ?_ _ | refine blk_drew ?_ | refine blk_alloc ?_ _)); refine blk_put (cs := #[.int .i64 (wrap64 ((Int.tmod t503 25) - 2)), .int .i64 (Int.tmod (wrap64 (Int.tdiv t503 25)) 6), .bool false, .bool false, .int .i64 0]) ?_ 2 _ rfl; (with_reducible repeat (first | refine blk_drewN ?_ _ | refine blk_drew ?_ | refine blk_alloc ?_ _)); refine blk_put (cs := #[.int .i64 (wrap64 ((Int.tmod t503 25) - 2)), .int .i64 0, .bool false, .bool false, .int .i64 0]) ?_ 1 _ rfl; (with_reducible repeat (first | refine blk_drewN ?_ _ | refine blk_drew ?_ | refine blk_alloc ?_ _)); refine blk_put (cs := #[.int .i64 0, .int .i64 0, .bool false, .bool false, .int .i64 0]) ?_ 0 _ rfl; (with_reducible repeat (first | refine blk_drewN ?_ _ | refine blk_drew ?_ | refine blk_alloc ?_ _)); exact BK504.out) k_ hk)); (case aO => exact (by (with_reducible repeat (first | apply Kd.R_alloc | apply Kd.R_drewN | apply Kd.R_drew)); exact Kd.R_mono (Kd.R_far (p := ⟨gb504, 4, none⟩) (Kd.R_far (p := ⟨gb504, 3, none⟩) (Kd.R_far (p := ⟨gb504, 2, none⟩) (Kd.R_far (p := ⟨gb504, 1, none⟩) (Kd.R_far (p := ⟨gb504, 0, none⟩) (Kd.R_mono HO_3.out (fun k_ hk => (⟨hk, hk.2⟩ : _ ∧ k_ ≠ gb504))) (fun _ hk => hk.2) (.int .i64 (wrap64 ((Int.tmod t503 25) - 2)))) (fun _ hk => hk.2) (.int .i64 (Int.tmod (wrap64 (Int.tdiv t503 25)) 6))) (fun _ hk => hk.2) (.bool ((Int.tmod (wrap64 (Int.tdiv t503 150)) 2) == 0))) (fun _ hk => hk.2) (.bool ((Int.tmod (wrap64 (Int.tdiv t503 300)) 4) == 0))) (fun _ hk => hk.2) (.int .i64 0)) (fun _ hk => hk.1.2))); (case aS => exact (below_size (by repeat (first | (with_reducible first | exact HB.out | apply below_alloc | apply pw_below_drewN | apply below_drew1 | refine below_set ?_ GE504.out) | exact HB.out)))); (case aL => have := LMc13.out; omega); intro v509 w16 ho hb hg hat; rw [← Ny508.out] at ho; have n0_ := Aside0.mk (blk_grown (g := gb504) (o := .cells #[.int .i64 (wrap64 ((Int.tmod t503 25) - 2)), .int .i64 (Int.tmod (wrap64 (Int.tdiv t503 25)) 6), .bool ((Int.tmod (wrap64 (Int.tdiv t503 150)) 2) == 0), .bool ((Int.tmod (wrap64 (Int.tdiv t503 300)) 4) == 0), .int .i64 0] 38 (0, 0)) (by (with_reducible repeat (first | refine blk_drewN ?_ _ | refine blk_drew ?_ | refine blk_alloc ?_ _)); refine blk_put (cs := #[.int .i64 (wrap64 ((Int.tmod t503 25) - 2)), .int .i64 (Int.tmod (wrap64 (Int.tdiv t503 25)) 6), .bool ((Int.tmod (wrap64 (Int.tdiv t503 150)) 2) == 0), .bool ((Int.tmod (wrap64 (Int.tdiv t503 300)) 4) == 0), .int .i64 0]) ?_ 4 _ rfl; (with_reducible repeat (first | refine blk_drewN ?_ _ | refine blk_drew ?_ | refine blk_alloc ?_ _)); refine blk_put (cs := #[.int .i64 (wrap64 ((Int.tmod t503 25) - 2)), .int .i64 (Int.tmod (wrap64 (Int.tdiv t503 25)) 6), .bool ((Int.tmod (wrap64 (Int.tdiv t503 150)) 2) == 0), .bool false, .int .i64 0]) ?_ 3 _ rfl; (with_reducible repeat (first | refine blk_drewN ?_ _ | refine blk_drew ?_ | refine blk_alloc ?_ _)); refine blk_put (cs := #[.int .i64 (wrap64 ((Int.tmod t503 25) - 2)), .int .i64 (Int.tmod (wrap64 (Int.tdiv t503 25)) 6), .bool false, .bool false, .int .i64 0]) ?_ 2 _ rfl; (with_reducible repeat (first | refine blk_drewN ?_ _ | refine blk_drew ?_ | refine blk_alloc ?_ _)); refine blk_put (cs := #[.int .i64 (wrap64 ((Int.tmod t503 25) - 2)), .int .i64 0, .bool false, .bool false, .int .i64 0]) ?_ 1 _ rfl; (with_reducible repeat (first | refine blk_drewN ?_ _ | refine blk_drew ?_ | refine blk_alloc ?_ _)); refine blk_put (cs := #[.int .i64 0, .int .i64 0, .bool false, .bool false, .int .i64 0]) ?_ 0 _ rfl; (with_reducible repeat (first | refine blk_drewN ?_ _ | refine blk_drew ?_ | refine blk_alloc ?_ _)); exact BK504.out) hg (Kd.R_away HO_3.out (fun _ hk => hk.2))); have n1_ := Aside0.mk (hb); have n2_ := Aside0.mk (ho); clear BK504; clear HB; clear HO_3; have BK504 := n0_; have HB := n1_; have HO510 := n2_; clear n0_ n1_ n2_; clear ho hb hg hat))
          go_roundg kj1
          case measure => have := HK1.out; have := HJ1.out; omega
          case rel => exact ⟨(y508), (wrap64 (x4_1 + 1)), (by first | rfl | (simp; done) | (simp [*]; done)), H', ⟨by have := HK1.out; have := HJ1.out; omega⟩, ⟨by (with_reducible repeat (first | apply Kd.R_alloc | apply Kd.R_drewN | apply Kd.R_drew)); exact Kd.R_mono HO510.out (fun _ hk => trivial)⟩, ⟨by repeat (first | (with_reducible first | exact HB.out | apply below_alloc | apply pw_below_drewN | apply below_drew1 | refine below_set ?_ GE504.out) | exact HB.out)⟩⟩
         ·rw [if_neg c13] at H
          exact absurd H (by simp)
       ·rw [if_neg c6] at H
        exact absurd H (by simp)
      ·rw [if_neg c5] at H
       exact absurd H (by simp)
     ·replace c4 := Bool.eq_false_iff.mpr c4
      subst c4
      have H1 : (some x3_1) = some r := by rw [if_neg (show ¬ (false = true) by decide)] at H; exact H
      clear H
      have H := H1
      clear H1
      obtain rfl := Option.some.inj H
      go_wp2
      go_ret
      exact ⟨_, by first | rfl | (simp [errW_none, errW_some] <;> rfl) | (simp [*, errW_none, errW_some] <;> rfl) | (simp (discharger := omega) only [Int.tdiv_eq_ediv_of_nonneg, Int.tmod_eq_emod_of_nonneg] <;> rfl), by (with_reducible repeat (first | apply Kd.R_alloc | apply Kd.R_drewN | apply Kd.R_drew)); exact HO_3.out, by repeat (first | (with_reducible first | exact HB.out | apply below_alloc | apply pw_below_drewN | apply below_drew1) | exact HB.out)⟩

end Go.Proofs.Ytlpdoieokgeikaa.S
