-- PRINTED by print.py (a twelfth state) out of the translation. Not trusted: Lean checks it.
import Derived.Test.YtbcmlgbhejcjbaaDoorS0
import Derived.Test.YtbcmlgbhejcjbaaDoorS4
namespace Go.Proofs.YtbcmlgbhejcjbaaDoor.S
open Go.RowKit Go.Proofs.YtbcmlgbhejcjbaaDoorW.PrintWords Go.Proofs.YtbcmlgbhejcjbaaDoorW.PrintLast Go.Proofs.YtbcmlgbhejcjbaaDoorW.PrintMore
attribute [local go_sem] Go.Proofs.YtbcmlgbhejcjbaaDoorW.PrintXtra.isSome_setCell max2_int min2_int max_two min_two max_three min_three max_four min_four   -- for this text's walks alone
set_option linter.unusedVariables false
set_option linter.unusedSimpArgs false

/-! ### tipstaffref33_of: function 41 -/
mutual
def tipstaffref33_of.l0 : Nat → Int → List Int → List (S38) → Int → Int → List Int → List Bool → Int → Option (Int × List Int)
 | 0, _, _, _, _, _, _, _, _ => none
 | k + 1, x0, x1, x2, x3, x4, x12, x13, x14 => if x14 < (x2.length : Int) then (if 0 ≤ x14 then (if ((rd_T38 x2 x14).f1) = 2 then (if ((rd_T38 x2 x14).f0) < x3 then (tipstaffref33_of.j1 k x0 x1 x2 x3 x4 x12 x13 x14 true ((rd_T38 x2 x14).f0) ((rd_T38 x2 x14).f1) ((rd_T38 x2 x14).f2) ((rd_T38 x2 x14).f3) ((rd_T38 x2 x14).f4) ((rd_T38 x2 x14).f5) ((rd_T38 x2 x14).f6)) else (tipstaffref33_of.j1 k x0 x1 x2 x3 x4 x12 x13 x14 (decide (((rd_T38 x2 x14).f0) ≥ x4)) ((rd_T38 x2 x14).f0) ((rd_T38 x2 x14).f1) ((rd_T38 x2 x14).f2) ((rd_T38 x2 x14).f3) ((rd_T38 x2 x14).f4) ((rd_T38 x2 x14).f5) ((rd_T38 x2 x14).f6))) else (tipstaffref33_of.j1 k x0 x1 x2 x3 x4 x12 x13 x14 true ((rd_T38 x2 x14).f0) ((rd_T38 x2 x14).f1) ((rd_T38 x2 x14).f2) ((rd_T38 x2 x14).f3) ((rd_T38 x2 x14).f4) ((rd_T38 x2 x14).f5) ((rd_T38 x2 x14).f6))) else (none)) else (tipstaffref33_of.l1 k x0 x1 x12 x13 0 1 0)
def tipstaffref33_of.j1 : Nat → Int → List Int → List (S38) → Int → Int → List Int → List Bool → Int → Bool → Int → Int → Int → ByteArray → Int → Int → Int → Option (Int × List Int)
 | 0, _, _, _, _, _, _, _, _, _, _, _, _, _, _, _, _ => none
 | k + 1, x0, x1, x2, x3, x4, x12, x13, x14, x49, x220000, x220001, x220002, x220003, x220004, x220005, x220006 => if x49 = true then (tipstaffref33_of.l0 k x0 x1 x2 x3 x4 x12 x13 (wrap64 (x14 + 1))) else (if x220005 = 1 then (if 0 ≤ (wrap64 (x220004 - 1)) then (if (wrap64 (x220004 - 1)) < (x12.length : Int) then (tipstaffref33_of.l0 k x0 x1 x2 x3 x4 (x12.set ((wrap64 (x220004 - 1)) : Int).toNat x220006) x13 (wrap64 (x14 + 1))) else (none)) else (none)) else (if x220005 ≥ 3 then (if 0 ≤ (wrap64 (x220004 - 1)) then (if (wrap64 (x220004 - 1)) < (x13.length : Int) then (tipstaffref33_of.l0 k x0 x1 x2 x3 x4 x12 (x13.set ((wrap64 (x220004 - 1)) : Int).toNat true) (wrap64 (x14 + 1))) else (none)) else (none)) else (tipstaffref33_of.l0 k x0 x1 x2 x3 x4 x12 x13 (wrap64 (x14 + 1)))))
def tipstaffref33_of.l1 : Nat → Int → List Int → List Int → List Bool → Int → Int → Int → Option (Int × List Int)
 | 0, _, _, _, _, _, _, _ => none
 | k + 1, x0, x1, x12, x13, x16, x17, x18 => if x18 < (x1.length : Int) then (if 0 ≤ x18 then (if x18 < (x13.length : Int) then (if rdOf false x13 x18 = true then (tipstaffref33_of.l1 k x0 x1 x12 x13 (wrap64 (x16 + x17)) (wrap64 (2 * x17)) (wrap64 (x18 + 1))) else (if x18 < (x12.length : Int) then (if (rd x12 x18) > x0 then (tipstaffref33_of.l1 k x0 x1 x12 x13 (wrap64 (x16 + x17)) (wrap64 (2 * x17)) (wrap64 (x18 + 1))) else (tipstaffref33_of.l1 k x0 x1 x12 x13 x16 (wrap64 (2 * x17)) (wrap64 (x18 + 1)))) else (none))) else (none)) else (none)) else (some (x16, x12))
end
def tipstaffref33_of.f (k : Nat) (a0 : Int) (l1 : List Int) (l2 : List (S38)) (a3 : Int) (a4 : Int) : Option (Int × List Int) := (some (([] : List Int) : List Int)).bind fun y209 => (if y209.length + l1.length < 17592186044416 then (if 0 ≤ (l1.length : Int) then (if ((l1.length : Int) : Int).toNat ≤ 281474976710656 then (tipstaffref33_of.l0 k a0 l1 l2 a3 a4 (y209 ++ l1) (List.replicate ((l1.length : Int) : Int).toNat false) 0) else (none)) else (none)) else (none))
theorem tipstaffref33_of.mono_l : ∀ k, (∀ y0 y1 y2 y3 y4 y5 y6 y7, LeO (tipstaffref33_of.l0 k y0 y1 y2 y3 y4 y5 y6 y7) (tipstaffref33_of.l0 (k + 1) y0 y1 y2 y3 y4 y5 y6 y7)) ∧ (∀ y0 y1 y2 y3 y4 y5 y6 y7 y8 y9 y10 y11 y12 y13 y14 y15, LeO (tipstaffref33_of.j1 k y0 y1 y2 y3 y4 y5 y6 y7 y8 y9 y10 y11 y12 y13 y14 y15) (tipstaffref33_of.j1 (k + 1) y0 y1 y2 y3 y4 y5 y6 y7 y8 y9 y10 y11 y12 y13 y14 y15)) ∧ (∀ y0 y1 y2 y3 y4 y5 y6, LeO (tipstaffref33_of.l1 k y0 y1 y2 y3 y4 y5 y6) (tipstaffref33_of.l1 (k + 1) y0 y1 y2 y3 y4 y5 y6))
 | 0 => ⟨fun _ _ _ _ _ _ _ _ r h => by simp [tipstaffref33_of.l0] at h, fun _ _ _ _ _ _ _ _ _ _ _ _ _ _ _ _ r h => by simp [tipstaffref33_of.j1] at h, fun _ _ _ _ _ _ _ r h => by simp [tipstaffref33_of.l1] at h⟩
 | k + 1 => by
  obtain ⟨ih0, ih1, ih2⟩ := tipstaffref33_of.mono_l k
  refine ⟨?_, ?_, ?_⟩
  ·intro y0 y1 y2 y3 y4 y5 y6 y7
   unfold tipstaffref33_of.l0
   repeat' first
   | (with_reducible exact ih0 _ _ _ _ _ _ _ _)
   | (with_reducible exact ih1 _ _ _ _ _ _ _ _ _ _ _ _ _ _ _ _)
   | (with_reducible exact ih2 _ _ _ _ _ _ _)
   | (with_reducible exact LeO.refl _)
   | (with_reducible exact LeO.none _)
   | (with_reducible refine LeO.ite ?_ ?_)
   | (with_reducible refine LeO.bind ?_ (fun _ => ?_))
   | exact ih0 _ _ _ _ _ _ _ _
   | exact ih1 _ _ _ _ _ _ _ _ _ _ _ _ _ _ _ _
   | exact ih2 _ _ _ _ _ _ _
   | exact LeO.none _
   | refine LeO.ite ?_ ?_
   | refine LeO.bind ?_ (fun _ => ?_)
  ·intro y0 y1 y2 y3 y4 y5 y6 y7 y8 y9 y10 y11 y12 y13 y14 y15
   unfold tipstaffref33_of.j1
   repeat' first
   | (with_reducible exact ih0 _ _ _ _ _ _ _ _)
   | (with_reducible exact ih1 _ _ _ _ _ _ _ _ _ _ _ _ _ _ _ _)
   | (with_reducible exact ih2 _ _ _ _ _ _ _)
   | (with_reducible exact LeO.refl _)
   | (with_reducible exact LeO.none _)
   | (with_reducible refine LeO.ite ?_ ?_)
   | (with_reducible refine LeO.bind ?_ (fun _ => ?_))
   | exact ih0 _ _ _ _ _ _ _ _
   | exact ih1 _ _ _ _ _ _ _ _ _ _ _ _ _ _ _ _
   | exact ih2 _ _ _ _ _ _ _
   | exact LeO.none _
   | refine LeO.ite ?_ ?_
   | refine LeO.bind ?_ (fun _ => ?_)
  ·intro y0 y1 y2 y3 y4 y5 y6
   unfold tipstaffref33_of.l1
   repeat' first
   | (with_reducible exact ih0 _ _ _ _ _ _ _ _)
   | (with_reducible exact ih1 _ _ _ _ _ _ _ _ _ _ _ _ _ _ _ _)
   | (with_reducible exact ih2 _ _ _ _ _ _ _)
   | (with_reducible exact LeO.refl _)
   | (with_reducible exact LeO.none _)
   | (with_reducible refine LeO.ite ?_ ?_)
   | (with_reducible refine LeO.bind ?_ (fun _ => ?_))
   | exact ih0 _ _ _ _ _ _ _ _
   | exact ih1 _ _ _ _ _ _ _ _ _ _ _ _ _ _ _ _
   | exact ih2 _ _ _ _ _ _ _
   | exact LeO.none _
   | refine LeO.ite ?_ ?_
   | refine LeO.bind ?_ (fun _ => ?_)
theorem tipstaffref33_of.mono : ∀ a0 a1 a2 a3 a4 k, LeO (tipstaffref33_of.f k a0 a1 a2 a3 a4) (tipstaffref33_of.f (k + 1) a0 a1 a2 a3 a4) := by
 intro a0 a1 a2 a3 a4 k
 obtain ⟨ih0, ih1, ih2⟩ := tipstaffref33_of.mono_l k
 unfold tipstaffref33_of.f
 repeat' first
   | (with_reducible exact ih0 _ _ _ _ _ _ _ _)
   | (with_reducible exact ih1 _ _ _ _ _ _ _ _ _ _ _ _ _ _ _ _)
   | (with_reducible exact ih2 _ _ _ _ _ _ _)
   | (with_reducible exact LeO.refl _)
   | (with_reducible exact LeO.none _)
   | (with_reducible refine LeO.ite ?_ ?_)
   | (with_reducible refine LeO.bind ?_ (fun _ => ?_))
   | exact ih0 _ _ _ _ _ _ _ _
   | exact ih1 _ _ _ _ _ _ _ _ _ _ _ _ _ _ _ _
   | exact ih2 _ _ _ _ _ _ _
   | exact LeO.none _
   | refine LeO.ite ?_ ?_
   | refine LeO.bind ?_ (fun _ => ?_)
set_option maxHeartbeats 8000000 in
set_option maxRecDepth 100000 in
theorem tipstaffref33_of.calls (k : Nat) (a0 : Int) (A1 : Option Addr) (c1 : Nat) (l1 : List Int) (A2 : Option Addr) (c2 : Nat) (l2 : List (S38)) (a3 : Int) (a4 : Int) (r1 : Int) (r2 : List Int) (w : World) (hr1 : Kd.C (Kd.int .i64) w A1 l1.length l1) (hc1 : l1.length ≤ c1) (hr2 : Kd.C k38 w A2 l2.length l2) (hc2 : l2.length ≤ c2) (h : tipstaffref33_of.f k a0 l1 l2 a3 a4 = some (r1, r2)) :
  Calls Tryd.prog 41 #[.int .i64 a0, .slice A1 l1.length c1, .slice A2 l2.length c2, .int .i64 a3, .int .i64 a4] w fun e w' => ∃ v1_ : Value, e = .returned (.tuple #[.int .i64 r1, v1_]) ∧ Kd.R (Kd.int .i64) 3 w' w.heap.size (fun _ => True) v1_ r2 ∧ Below w.heap.size w w' := by
 have hu38 := Tryd.underlying38
 have HR1 := Aside0.mk hr1
 have HC1 := Aside0.mk hc1
 clear hr1 hc1
 have HR2 := Aside0.mk hr2
 have HC2 := Aside0.mk hc2
 clear hr2 hc2
 have HB := Aside0.mk (Below.refl w.heap.size w)
 have H : ((some (([] : List Int) : List Int)).bind fun y209 => (if y209.length + l1.length < 17592186044416 then (if 0 ≤ (l1.length : Int) then (if ((l1.length : Int) : Int).toNat ≤ 281474976710656 then (tipstaffref33_of.l0 k a0 l1 l2 a3 a4 (y209 ++ l1) (List.replicate ((l1.length : Int) : Int).toNat false) 0) else (none)) else (none)) else (none))) = some (r1, r2) := h
 clear h
 obtain ⟨y209, hy209⟩ : ∃ y_ : List Int, y_ = (([] : List Int)) := ⟨_, rfl⟩
 replace H : (if y209.length + l1.length < 17592186044416 then (if 0 ≤ (l1.length : Int) then (if ((l1.length : Int) : Int).toNat ≤ 281474976710656 then (tipstaffref33_of.l0 k a0 l1 l2 a3 a4 (y209 ++ l1) (List.replicate ((l1.length : Int) : Int).toNat false) 0) else (none)) else (none)) else (none)) = some (r1, r2) := by first | (rw [hy209]; with_reducible exact H) | (have H2_ := (Option.bind_some _ _).symm.trans H; rw [hy209]; with_reducible exact H2_) | (have H2_ := (Option.bind_some _ _).symm.trans H; with_reducible exact H2_) | with_reducible exact H | (rw [hy209]; exact H) | exact H
 have Ny209 := Aside0.mk hy209
 clear hy209
 by_cases c6 : y209.length + l1.length < 17592186044416
 ·rw [if_pos c6] at H
  have LMc6 := Aside0.mk c6
  clear c6
  obtain ⟨y212, hy212⟩ : ∃ y_ : List Int, y_ = (y209 ++ l1) := ⟨_, rfl⟩
  replace H : (if 0 ≤ (l1.length : Int) then (if ((l1.length : Int) : Int).toNat ≤ 281474976710656 then (tipstaffref33_of.l0 k a0 l1 l2 a3 a4 y212 (List.replicate ((l1.length : Int) : Int).toNat false) 0) else (none)) else (none)) = some (r1, r2) := by first | (rw [hy212]; with_reducible exact H) | (have H2_ := (Option.bind_some _ _).symm.trans H; rw [hy212]; with_reducible exact H2_) | (have H2_ := (Option.bind_some _ _).symm.trans H; with_reducible exact H2_) | with_reducible exact H | (rw [hy212]; exact H) | exact H
  have Ny212 := Aside0.mk hy212
  clear hy212
  by_cases c7 : 0 ≤ (l1.length : Int)
  ·rw [if_pos c7] at H
   have c7b0 := eq_true c7
   have c7b1 : decide (0 ≤ (l1.length : Int)) = true := decide_eq_true c7
   clear c7
   by_cases c8 : ((l1.length : Int) : Int).toNat ≤ 281474976710656
   ·rw [if_pos c8] at H
    have c8b0 := eq_true c8
    have c8b1 : decide (((l1.length : Int) : Int).toNat ≤ 281474976710656) = true := decide_eq_true c8
    clear c8
    obtain ⟨y215, hy215⟩ : ∃ y_ : List Bool, y_ = (List.replicate ((l1.length : Int) : Int).toNat false) := ⟨_, rfl⟩
    replace H : (tipstaffref33_of.l0 k a0 l1 l2 a3 a4 y212 y215 0) = some (r1, r2) := by first | (rw [hy215]; with_reducible exact H) | (have H2_ := (Option.bind_some _ _).symm.trans H; rw [hy215]; with_reducible exact H2_) | (have H2_ := (Option.bind_some _ _).symm.trans H; with_reducible exact H2_) | with_reducible exact H | (rw [hy215]; exact H) | exact H
    have Ny215 := Aside0.mk hy215
    clear hy215
    have H' := Aside0.mk H
    clear H
    go_enter Tryd.func41, Tryd.ntmps41
    go_wp2_with (first | ((with_reducible refine gate_dst (N := 19) rfl ?_); refine Kd.R_lit (Kd.int .i64) _ 3 ?hg (N := 19) ?hd (xs := ([] : List Int)) (inner := []) (ok := fun _ => True) (okp := fun _ => True) ?hr ?hp (fun _ hk => hk) trivial (Below.refl _ _) (Nat.le_refl _) (by simp) ?_; (case hd => rfl); (case hg => rfl); (case hr => first | (go_simp; done) | (go_simp; rfl)); (case hp => exact (Reps.none _ _)); intro v210 w9 ho10 hb hg_ hnew_; clear hg_ hnew_; (first | rw [← Ny209.out] at ho10 | (simp only [Int.reduceToNat] at ho10; rw [← Ny209.out] at ho10)); have n0_ := Aside0.mk (Kd.R_lower ho10 (below_size (by repeat (first | (with_reducible first | exact HB.out | apply below_alloc | apply pw_below_drewN | apply below_drew1) | exact HB.out)))); have n1_ := Aside0.mk (below_step (by repeat (first | (with_reducible first | exact HB.out | apply below_alloc | apply pw_below_drewN | apply below_drew1) | exact HB.out)) hb); clear HB; have HO211 := n0_; have HB := n1_; clear n0_ n1_; clear hb ho10) | ((with_reducible refine gate_builtin (b := .append) (xs := #[.tmp 19, .tmp 20]) rfl ?_); at_builtin; refine Kd.R_append_rows (Kd.int .i64) (w0 := w) w.heap.size rfl (.tmp 19) (.tmp 20) 22 3 (.int .i64 0) 8 rfl Tryd.underlying22 info3 rfl (by decide) (by omega) v210 y209 l1 _ _ _ (fun _ => True) (fun _ => False) rfl rfl ?aO ?aR (fun _ _ h => h) (fun _ h => h.elim) ?aF ?aB ?aS ?aL ?_; (case aR => repeat (first | exact (Kd.C_below HR1.out HB.out) | (with_reducible refine Kd.C_alloc ?_ _) | (with_reducible refine Kd.C_drewN ?_ _) | (with_reducible refine Kd.C_drew ?_))); (case aB => exact (by repeat (first | (with_reducible first | exact HB.out | apply below_alloc | apply pw_below_drewN | apply below_drew1) | exact HB.out))); (case aF => exact (fun _ _ => trivial)); (case aO => exact (by (with_reducible repeat (first | apply Kd.R_alloc | apply Kd.R_drewN | apply Kd.R_drew)); exact HO211.out)); (case aS => exact (below_size (by repeat (first | (with_reducible first | exact HB.out | apply below_alloc | apply pw_below_drewN | apply below_drew1) | exact HB.out)))); (case aL => have := LMc6.out; omega); intro v213 w11 ho hb hg hat; rw [← Ny212.out] at ho; have n0_ := Aside0.mk (hb); have n1_ := Aside0.mk (ho); clear HB; clear HO211; have HB := n0_; have HO214 := n1_; clear n0_ n1_; clear ho hb hg hat) | ((with_reducible refine gate_dst (N := 24) rfl ?_); refine Kd.R_make Kd.bool _ 4 rfl (N := 24) rfl 79 _ _ rfl (l1.length : Int) rfl rfl Tryd.underlying79 (.bool false) 1 info4 rfl (by decide) (by omega) false (ok := fun _ => True) (okp := fun _ => True) rfl (fun _ hk => hk) trivial (of_decide_eq_true (by first | (with_reducible assumption) | assumption)) (Nat.le_trans (Nat.mul_le_mul_right _ (of_decide_eq_true (by first | (with_reducible assumption) | assumption) : (l1.length : Int).toNat ≤ 281474976710656)) (by omega)) (Below.refl _ _) (Nat.le_refl _) ?_; intro v216 w12 ho13 hb hg_ hnew_; clear hg_ hnew_; (first | rw [← Ny215.out] at ho13 | (simp only [Int.reduceToNat] at ho13; rw [← Ny215.out] at ho13)); have n0_ := Aside0.mk (Kd.R_below (by (with_reducible repeat (first | apply Kd.R_alloc | apply Kd.R_drewN | apply Kd.R_drew)); exact HO214.out) hb); have n1_ := Aside0.mk (Kd.R_lower ho13 (below_size (by repeat (first | (with_reducible first | exact HB.out | apply below_alloc | apply pw_below_drewN | apply below_drew1) | exact HB.out)))); have n2_ := Aside0.mk (below_step (by repeat (first | (with_reducible first | exact HB.out | apply below_alloc | apply pw_below_drewN | apply below_drew1) | exact HB.out)) hb); clear HO214; clear HB; have HO214 := n0_; have HO217 := n1_; have HB := n2_; clear n0_ n1_ n2_; clear hb ho13))
    go_loopg [14] k (fun kq v14 w' => ∃ (x12_1 : List Int) (x13_1 : List Bool) (x14_1 : Int), v14 = .int .i64 x14_1 ∧ Aside0 (tipstaffref33_of.l0 kq a0 l1 l2 a3 a4 x12_1 x13_1 x14_1 = some (r1, r2)) ∧ Aside0 (kq ≤ k) ∧ Aside0 (Kd.R (Kd.int .i64) 3 w' w.heap.size (fun _ => True) v213 x12_1) ∧ Aside0 (Kd.R Kd.bool 4 w' w.heap.size (fun _ => True) v216 x13_1) ∧ Aside0 (Below w.heap.size w w'))
    case atStart => exact ⟨(y212), (y215), (0), (by first | rfl | (simp; done) | (simp [*]; done)), H', ⟨Nat.le_refl _⟩, ⟨by (with_reducible repeat (first | apply Kd.R_alloc | apply Kd.R_drewN | apply Kd.R_drew)); exact HO214.out⟩, ⟨by (with_reducible repeat (first | apply Kd.R_alloc | apply Kd.R_drewN | apply Kd.R_drew)); exact HO217.out⟩, ⟨by repeat (first | (with_reducible first | exact HB.out | apply below_alloc | apply pw_below_drewN | apply below_drew1) | exact HB.out)⟩⟩
    case round =>
     clear H'
     try clear c1
     try clear c2
     try clear p2
     try clear c4
     try clear c6
     try clear c7
     try clear c7b0
     try clear c7b1
     try clear c8
     try clear c8b0
     try clear c8b1
     obtain ⟨x12_1, x13_1, x14_1, rfl, HA, HK1, HO_12, HO_13, HB⟩ := hrel
     cases gk with
     | zero => exact absurd HA.out (by simp [tipstaffref33_of.l0])
     | succ k1 =>
      have H := HA.out
      clear HA
      simp only [tipstaffref33_of.l0] at H
      by_cases c14 : x14_1 < (l2.length : Int)
      ·rw [if_pos c14] at H
       have c14b0 : decide (x14_1 < (l2.length : Int)) = true := decide_eq_true c14
       clear c14
       by_cases c15 : 0 ≤ x14_1
       ·rw [if_pos c15] at H
        have c15b0 : decide (0 ≤ x14_1) = true := decide_eq_true c15
        clear c15
        have HC16 := Aside0.mk H
        clear H
        have p218 : 0 ≤ (x14_1 : Int) := of_decide_eq_true (by first | (with_reducible assumption) | assumption)
        have q218 : x14_1 < (l2.length : Int) := of_decide_eq_true (by first | (with_reducible assumption) | assumption)
        obtain ⟨ad218, e218, hx218_0, hx218_1, hx218_2, hx218_3, hx218_4, hx218_5, hx218_6⟩ := at_T38 HR2.out x14_1 p218 q218
        cases e218
        replace hx218_0 := (HB.out.cell (World.block_lt_of_cell? w _ hx218_0)).trans hx218_0
        replace hx218_1 := (HB.out.cell (World.block_lt_of_cell? w _ hx218_1)).trans hx218_1
        replace hx218_2 := (HB.out.cell (World.block_lt_of_cell? w _ hx218_2)).trans hx218_2
        replace hx218_3 := (HB.out.cell (World.block_lt_of_cell? w _ hx218_3)).trans hx218_3
        replace hx218_4 := (HB.out.cell (World.block_lt_of_cell? w _ hx218_4)).trans hx218_4
        replace hx218_5 := (HB.out.cell (World.block_lt_of_cell? w _ hx218_5)).trans hx218_5
        replace hx218_6 := (HB.out.cell (World.block_lt_of_cell? w _ hx218_6)).trans hx218_6
        replace p218 := eq_true p218
        replace q218 := eq_true q218
        go_upto_region 7 with (first | ((with_reducible refine gate_dst (N := 15) rfl ?_); refine box_event ?hg (N := 15) ?hd (cs := #[.int .i64 0, .int .i64 0, .int .i64 0, .string (⟨#[]⟩ : ByteArray), .int .i64 0, .int .i64 0, .int .i64 0]) (t := 38) ?hr ?_; (case hd => rfl); (case hg => rfl); (case hr => first | (go_simp; done) | (go_simp; rfl)); intro gb219 hg w17 hbox hb; have n0_ := Aside0.mk (Kd.R_below (by (with_reducible repeat (first | apply Kd.R_alloc | apply Kd.R_drewN | apply Kd.R_drew)); exact HO_12.out) hb); have n1_ := Aside0.mk (Kd.R_below (by (with_reducible repeat (first | apply Kd.R_alloc | apply Kd.R_drewN | apply Kd.R_drew)); exact HO_13.out) hb); have n2_ := Aside0.mk (below_step (by repeat (first | (with_reducible first | exact HB.out | apply below_alloc | apply pw_below_drewN | apply below_drew1) | exact HB.out)) hb); have n3_ := Aside0.mk (hbox); have n4_ := Aside0.mk ((by rw [hg]; exact (below_size (by repeat (first | (with_reducible first | exact HB.out | apply below_alloc | apply pw_below_drewN | apply below_drew1) | exact HB.out))) : w.heap.size ≤ gb219)); have n5_ := Aside0.mk ((by rw [hg]; exact (below_size (by repeat (first | (with_reducible first | exact HB.out | apply below_alloc | apply pw_below_drewN | apply below_drew1) | exact HB.out))) : w.heap.size ≤ gb219)); clear HO_12; clear HO_13; clear HB; have HO_12 := n0_; have HO_13 := n1_; have HB := n2_; have BK219 := n3_; have GW219 := n4_; have GE219 := n5_; clear n0_ n1_ n2_ n3_ n4_ n5_; clear hb hbox hg; have hcz18_0 : w17.cell? ⟨gb219, 0, none⟩ = some (.int .i64 0) := (blk_cell BK219.out 0).trans rfl; have hcz18_1 : w17.cell? ⟨gb219, 1, none⟩ = some (.int .i64 0) := (blk_cell BK219.out 1).trans rfl; have hcz18_2 : w17.cell? ⟨gb219, 2, none⟩ = some (.int .i64 0) := (blk_cell BK219.out 2).trans rfl; have hcz18_3 : w17.cell? ⟨gb219, 3, none⟩ = some (.string (⟨#[]⟩ : ByteArray)) := (blk_cell BK219.out 3).trans rfl; have hcz18_4 : w17.cell? ⟨gb219, 4, none⟩ = some (.int .i64 0) := (blk_cell BK219.out 4).trans rfl; have hcz18_5 : w17.cell? ⟨gb219, 5, none⟩ = some (.int .i64 0) := (blk_cell BK219.out 5).trans rfl; have hcz18_6 : w17.cell? ⟨gb219, 6, none⟩ = some (.int .i64 0) := (blk_cell BK219.out 6).trans rfl; have hfz18_0 := blk_frozen BK219.out 0; have hfz18_1 := blk_frozen BK219.out 1; have hfz18_2 := blk_frozen BK219.out 2; have hfz18_3 := blk_frozen BK219.out 3; have hfz18_4 := blk_frozen BK219.out 4; have hfz18_5 := blk_frozen BK219.out 5; have hfz18_6 := blk_frozen BK219.out 6))
        (try simp only [Act.put, List.setIfInBounds_toArray, List.set_cons_zero, List.set_cons_succ])
        go_cut [49] (fun v49 wc => ∃ (kq : Nat) (x49_15 : Bool), v49 = .bool x49_15 ∧ Aside0 (tipstaffref33_of.j1 kq a0 l1 l2 a3 a4 x12_1 x13_1 x14_1 x49_15 ((rd_T38 l2 x14_1).f0) ((rd_T38 l2 x14_1).f1) ((rd_T38 l2 x14_1).f2) ((rd_T38 l2 x14_1).f3) ((rd_T38 l2 x14_1).f4) ((rd_T38 l2 x14_1).f5) ((rd_T38 l2 x14_1).f6) = some (r1, r2)) ∧ Aside0 (kq ≤ k1) ∧ Aside0 (Kd.R (Kd.int .i64) 3 wc w.heap.size (fun _ => True) v213 x12_1) ∧ Aside0 (Kd.R Kd.bool 4 wc w.heap.size (fun _ => True) v216 x13_1) ∧ Aside0 (wc.heap[gb219]? = some (.cells #[.int .i64 ((rd_T38 l2 x14_1).f0), .int .i64 ((rd_T38 l2 x14_1).f1), .int .i64 ((rd_T38 l2 x14_1).f2), .string ((rd_T38 l2 x14_1).f3), .int .i64 ((rd_T38 l2 x14_1).f4), .int .i64 ((rd_T38 l2 x14_1).f5), .int .i64 ((rd_T38 l2 x14_1).f6)] 38 (0, 0))) ∧ Aside0 (Below w.heap.size w wc))
        case first =>
         have H := HC16.out
         clear HC16
         by_cases c19 : ((rd_T38 l2 x14_1).f1) = 2
         ·rw [if_pos c19] at H
          have c19b0 : (((rd_T38 l2 x14_1).f1) == 2) = true := beq_iff_eq.mpr c19
          have c19b1 : (((rd_T38 l2 x14_1).f1) != 2) = false := bne_eq_false_iff_eq.mpr c19
          clear c19
          (first | rw [c19b0] | (simp only [i64_w, i32_w]; rw [c19b0]) | skip)
          by_cases c20 : ((rd_T38 l2 x14_1).f0) < a3
          ·rw [if_pos c20] at H
           have c20b0 : decide (((rd_T38 l2 x14_1).f0) < a3) = true := decide_eq_true c20
           clear c20
           have H' := Aside0.mk H
           clear H
           have hcz21_0 : w17.cell? ⟨gb219, 0, none⟩ = some (.int .i64 0) := (blk_cell BK219.out 0).trans rfl
           have hcz21_1 : w17.cell? ⟨gb219, 1, none⟩ = some (.int .i64 0) := (blk_cell BK219.out 1).trans rfl
           have hcz21_2 : w17.cell? ⟨gb219, 2, none⟩ = some (.int .i64 0) := (blk_cell BK219.out 2).trans rfl
           have hcz21_3 : w17.cell? ⟨gb219, 3, none⟩ = some (.string (⟨#[]⟩ : ByteArray)) := (blk_cell BK219.out 3).trans rfl
           have hcz21_4 : w17.cell? ⟨gb219, 4, none⟩ = some (.int .i64 0) := (blk_cell BK219.out 4).trans rfl
           have hcz21_5 : w17.cell? ⟨gb219, 5, none⟩ = some (.int .i64 0) := (blk_cell BK219.out 5).trans rfl
           have hcz21_6 : w17.cell? ⟨gb219, 6, none⟩ = some (.int .i64 0) := (blk_cell BK219.out 6).trans rfl
           have hfz21_0 := blk_frozen BK219.out 0
           have hfz21_1 := blk_frozen BK219.out 1
           have hfz21_2 := blk_frozen BK219.out 2
           have hfz21_3 := blk_frozen BK219.out 3
           have hfz21_4 := blk_frozen BK219.out 4
           have hfz21_5 := blk_frozen BK219.out 5
           have hfz21_6 := blk_frozen BK219.out 6
           go_wp2
           go_meet
           case rel => exact ⟨_, (true), (by first | rfl | (simp; done) | (simp [*]; done)), H', ⟨by have := HK1.out; first | omega | exact Nat.le_refl _⟩, ⟨by (with_reducible repeat (first | apply Kd.R_alloc | apply Kd.R_drewN | apply Kd.R_drew)); exact Kd.R_mono (Kd.R_far (p := ⟨gb219, 6, none⟩) (Kd.R_far (p := ⟨gb219, 5, none⟩) (Kd.R_far (p := ⟨gb219, 4, none⟩) (Kd.R_far (p := ⟨gb219, 3, none⟩) (Kd.R_far (p := ⟨gb219, 2, none⟩) (Kd.R_far (p := ⟨gb219, 1, none⟩) (Kd.R_far (p := ⟨gb219, 0, none⟩) (Kd.R_types HO_12.out BK219.out (by decide)) (fun _ hk => hk.2) (.int .i64 ((rd_T38 l2 x14_1).f0))) (fun _ hk => hk.2) (.int .i64 ((rd_T38 l2 x14_1).f1))) (fun _ hk => hk.2) (.int .i64 ((rd_T38 l2 x14_1).f2))) (fun _ hk => hk.2) (.string ((rd_T38 l2 x14_1).f3))) (fun _ hk => hk.2) (.int .i64 ((rd_T38 l2 x14_1).f4))) (fun _ hk => hk.2) (.int .i64 ((rd_T38 l2 x14_1).f5))) (fun _ hk => hk.2) (.int .i64 ((rd_T38 l2 x14_1).f6))) (fun _ hk => trivial)⟩, ⟨by (with_reducible repeat (first | apply Kd.R_alloc | apply Kd.R_drewN | apply Kd.R_drew)); exact Kd.R_mono (Kd.R_far (p := ⟨gb219, 6, none⟩) (Kd.R_far (p := ⟨gb219, 5, none⟩) (Kd.R_far (p := ⟨gb219, 4, none⟩) (Kd.R_far (p := ⟨gb219, 3, none⟩) (Kd.R_far (p := ⟨gb219, 2, none⟩) (Kd.R_far (p := ⟨gb219, 1, none⟩) (Kd.R_far (p := ⟨gb219, 0, none⟩) (Kd.R_types HO_13.out BK219.out (by decide)) (fun _ hk => hk.2) (.int .i64 ((rd_T38 l2 x14_1).f0))) (fun _ hk => hk.2) (.int .i64 ((rd_T38 l2 x14_1).f1))) (fun _ hk => hk.2) (.int .i64 ((rd_T38 l2 x14_1).f2))) (fun _ hk => hk.2) (.string ((rd_T38 l2 x14_1).f3))) (fun _ hk => hk.2) (.int .i64 ((rd_T38 l2 x14_1).f4))) (fun _ hk => hk.2) (.int .i64 ((rd_T38 l2 x14_1).f5))) (fun _ hk => hk.2) (.int .i64 ((rd_T38 l2 x14_1).f6))) (fun _ hk => trivial)⟩, ⟨by (with_reducible repeat (first | refine blk_drewN ?_ _ | refine blk_drew ?_ | refine blk_alloc ?_ _)); refine blk_put (cs := #[.int .i64 ((rd_T38 l2 x14_1).f0), .int .i64 ((rd_T38 l2 x14_1).f1), .int .i64 ((rd_T38 l2 x14_1).f2), .string ((rd_T38 l2 x14_1).f3), .int .i64 ((rd_T38 l2 x14_1).f4), .int .i64 ((rd_T38 l2 x14_1).f5), .int .i64 0]) ?_ 6 _ rfl; (with_reducible repeat (first | refine blk_drewN ?_ _ | refine blk_drew ?_ | refine blk_alloc ?_ _)); refine blk_put (cs := #[.int .i64 ((rd_T38 l2 x14_1).f0), .int .i64 ((rd_T38 l2 x14_1).f1), .int .i64 ((rd_T38 l2 x14_1).f2), .string ((rd_T38 l2 x14_1).f3), .int .i64 ((rd_T38 l2 x14_1).f4), .int .i64 0, .int .i64 0]) ?_ 5 _ rfl; (with_reducible repeat (first | refine blk_drewN ?_ _ | refine blk_drew ?_ | refine blk_alloc ?_ _)); refine blk_put (cs := #[.int .i64 ((rd_T38 l2 x14_1).f0), .int .i64 ((rd_T38 l2 x14_1).f1), .int .i64 ((rd_T38 l2 x14_1).f2), .string ((rd_T38 l2 x14_1).f3), .int .i64 0, .int .i64 0, .int .i64 0]) ?_ 4 _ rfl; (with_reducible repeat (first | refine blk_drewN ?_ _ | refine blk_drew ?_ | refine blk_alloc ?_ _)); refine blk_put (cs := #[.int .i64 ((rd_T38 l2 x14_1).f0), .int .i64 ((rd_T38 l2 x14_1).f1), .int .i64 ((rd_T38 l2 x14_1).f2), .string (⟨#[]⟩ : ByteArray), .int .i64 0, .int .i64 0, .int .i64 0]) ?_ 3 _ rfl; (with_reducible repeat (first | refine blk_drewN ?_ _ | refine blk_drew ?_ | refine blk_alloc ?_ _)); refine blk_put (cs := #[.int .i64 ((rd_T38 l2 x14_1).f0), .int .i64 ((rd_T38 l2 x14_1).f1), .int .i64 0, .string (⟨#[]⟩ : ByteArray), .int .i64 0, .int .i64 0, .int .i64 0]) ?_ 2 _ rfl; (with_reducible repeat (first | refine blk_drewN ?_ _ | refine blk_drew ?_ | refine blk_alloc ?_ _)); refine blk_put (cs := #[.int .i64 ((rd_T38 l2 x14_1).f0), .int .i64 0, .int .i64 0, .string (⟨#[]⟩ : ByteArray), .int .i64 0, .int .i64 0, .int .i64 0]) ?_ 1 _ rfl; (with_reducible repeat (first | refine blk_drewN ?_ _ | refine blk_drew ?_ | refine blk_alloc ?_ _)); refine blk_put (cs := #[.int .i64 0, .int .i64 0, .int .i64 0, .string (⟨#[]⟩ : ByteArray), .int .i64 0, .int .i64 0, .int .i64 0]) ?_ 0 _ rfl; (with_reducible repeat (first | refine blk_drewN ?_ _ | refine blk_drew ?_ | refine blk_alloc ?_ _)); exact BK219.out⟩, ⟨by repeat (first | (with_reducible first | exact HB.out | apply below_alloc | apply pw_below_drewN | apply below_drew1 | refine below_set ?_ GE219.out) | exact HB.out)⟩⟩
          ·rw [if_neg c20] at H
           have c20b0 : decide (((rd_T38 l2 x14_1).f0) < a3) = false := decide_eq_false c20
           clear c20
           have H' := Aside0.mk H
           clear H
           have hcz22_0 : w17.cell? ⟨gb219, 0, none⟩ = some (.int .i64 0) := (blk_cell BK219.out 0).trans rfl
           have hcz22_1 : w17.cell? ⟨gb219, 1, none⟩ = some (.int .i64 0) := (blk_cell BK219.out 1).trans rfl
           have hcz22_2 : w17.cell? ⟨gb219, 2, none⟩ = some (.int .i64 0) := (blk_cell BK219.out 2).trans rfl
           have hcz22_3 : w17.cell? ⟨gb219, 3, none⟩ = some (.string (⟨#[]⟩ : ByteArray)) := (blk_cell BK219.out 3).trans rfl
           have hcz22_4 : w17.cell? ⟨gb219, 4, none⟩ = some (.int .i64 0) := (blk_cell BK219.out 4).trans rfl
           have hcz22_5 : w17.cell? ⟨gb219, 5, none⟩ = some (.int .i64 0) := (blk_cell BK219.out 5).trans rfl
           have hcz22_6 : w17.cell? ⟨gb219, 6, none⟩ = some (.int .i64 0) := (blk_cell BK219.out 6).trans rfl
           have hfz22_0 := blk_frozen BK219.out 0
           have hfz22_1 := blk_frozen BK219.out 1
           have hfz22_2 := blk_frozen BK219.out 2
           have hfz22_3 := blk_frozen BK219.out 3
           have hfz22_4 := blk_frozen BK219.out 4
           have hfz22_5 := blk_frozen BK219.out 5
           have hfz22_6 := blk_frozen BK219.out 6
           go_wp2
           go_meet
           case rel => exact ⟨_, (decide (((rd_T38 l2 x14_1).f0) ≥ a4)), (by first | rfl | (simp; done) | (simp [*]; done)), H', ⟨by have := HK1.out; first | omega | exact Nat.le_refl _⟩, ⟨by (with_reducible repeat (first | apply Kd.R_alloc | apply Kd.R_drewN | apply Kd.R_drew)); exact Kd.R_mono (Kd.R_far (p := ⟨gb219, 6, none⟩) (Kd.R_far (p := ⟨gb219, 5, none⟩) (Kd.R_far (p := ⟨gb219, 4, none⟩) (Kd.R_far (p := ⟨gb219, 3, none⟩) (Kd.R_far (p := ⟨gb219, 2, none⟩) (Kd.R_far (p := ⟨gb219, 1, none⟩) (Kd.R_far (p := ⟨gb219, 0, none⟩) (Kd.R_types HO_12.out BK219.out (by decide)) (fun _ hk => hk.2) (.int .i64 ((rd_T38 l2 x14_1).f0))) (fun _ hk => hk.2) (.int .i64 ((rd_T38 l2 x14_1).f1))) (fun _ hk => hk.2) (.int .i64 ((rd_T38 l2 x14_1).f2))) (fun _ hk => hk.2) (.string ((rd_T38 l2 x14_1).f3))) (fun _ hk => hk.2) (.int .i64 ((rd_T38 l2 x14_1).f4))) (fun _ hk => hk.2) (.int .i64 ((rd_T38 l2 x14_1).f5))) (fun _ hk => hk.2) (.int .i64 ((rd_T38 l2 x14_1).f6))) (fun _ hk => trivial)⟩, ⟨by (with_reducible repeat (first | apply Kd.R_alloc | apply Kd.R_drewN | apply Kd.R_drew)); exact Kd.R_mono (Kd.R_far (p := ⟨gb219, 6, none⟩) (Kd.R_far (p := ⟨gb219, 5, none⟩) (Kd.R_far (p := ⟨gb219, 4, none⟩) (Kd.R_far (p := ⟨gb219, 3, none⟩) (Kd.R_far (p := ⟨gb219, 2, none⟩) (Kd.R_far (p := ⟨gb219, 1, none⟩) (Kd.R_far (p := ⟨gb219, 0, none⟩) (Kd.R_types HO_13.out BK219.out (by decide)) (fun _ hk => hk.2) (.int .i64 ((rd_T38 l2 x14_1).f0))) (fun _ hk => hk.2) (.int .i64 ((rd_T38 l2 x14_1).f1))) (fun _ hk => hk.2) (.int .i64 ((rd_T38 l2 x14_1).f2))) (fun _ hk => hk.2) (.string ((rd_T38 l2 x14_1).f3))) (fun _ hk => hk.2) (.int .i64 ((rd_T38 l2 x14_1).f4))) (fun _ hk => hk.2) (.int .i64 ((rd_T38 l2 x14_1).f5))) (fun _ hk => hk.2) (.int .i64 ((rd_T38 l2 x14_1).f6))) (fun _ hk => trivial)⟩, ⟨by (with_reducible repeat (first | refine blk_drewN ?_ _ | refine blk_drew ?_ | refine blk_alloc ?_ _)); refine blk_put (cs := #[.int .i64 ((rd_T38 l2 x14_1).f0), .int .i64 ((rd_T38 l2 x14_1).f1), .int .i64 ((rd_T38 l2 x14_1).f2), .string ((rd_T38 l2 x14_1).f3), .int .i64 ((rd_T38 l2 x14_1).f4), .int .i64 ((rd_T38 l2 x14_1).f5), .int .i64 0]) ?_ 6 _ rfl; (with_reducible repeat (first | refine blk_drewN ?_ _ | refine blk_drew ?_ | refine blk_alloc ?_ _)); refine blk_put (cs := #[.int .i64 ((rd_T38 l2 x14_1).f0), .int .i64 ((rd_T38 l2 x14_1).f1), .int .i64 ((rd_T38 l2 x14_1).f2), .string ((rd_T38 l2 x14_1).f3), .int .i64 ((rd_T38 l2 x14_1).f4), .int .i64 0, .int .i64 0]) ?_ 5 _ rfl; (with_reducible repeat (first | refine blk_drewN ?_ _ | refine blk_drew ?_ | refine blk_alloc ?_ _)); refine blk_put (cs := #[.int .i64 ((rd_T38 l2 x14_1).f0), .int .i64 ((rd_T38 l2 x14_1).f1), .int .i64 ((rd_T38 l2 x14_1).f2), .string ((rd_T38 l2 x14_1).f3), .int .i64 0, .int .i64 0, .int .i64 0]) ?_ 4 _ rfl; (with_reducible repeat (first | refine blk_drewN ?_ _ | refine blk_drew ?_ | refine blk_alloc ?_ _)); refine blk_put (cs := #[.int .i64 ((rd_T38 l2 x14_1).f0), .int .i64 ((rd_T38 l2 x14_1).f1), .int .i64 ((rd_T38 l2 x14_1).f2), .string (⟨#[]⟩ : ByteArray), .int .i64 0, .int .i64 0, .int .i64 0]) ?_ 3 _ rfl; (with_reducible repeat (first | refine blk_drewN ?_ _ | refine blk_drew ?_ | refine blk_alloc ?_ _)); refine blk_put (cs := #[.int .i64 ((rd_T38 l2 x14_1).f0), .int .i64 ((rd_T38 l2 x14_1).f1), .int .i64 0, .string (⟨#[]⟩ : ByteArray), .int .i64 0, .int .i64 0, .int .i64 0]) ?_ 2 _ rfl; (with_reducible repeat (first | refine blk_drewN ?_ _ | refine blk_drew ?_ | refine blk_alloc ?_ _)); refine blk_put (cs := #[.int .i64 ((rd_T38 l2 x14_1).f0), .int .i64 0, .int .i64 0, .string (⟨#[]⟩ : ByteArray), .int .i64 0, .int .i64 0, .int .i64 0]) ?_ 1 _ rfl; (with_reducible repeat (first | refine blk_drewN ?_ _ | refine blk_drew ?_ | refine blk_alloc ?_ _)); refine blk_put (cs := #[.int .i64 0, .int .i64 0, .int .i64 0, .string (⟨#[]⟩ : ByteArray), .int .i64 0, .int .i64 0, .int .i64 0]) ?_ 0 _ rfl; (with_reducible repeat (first | refine blk_drewN ?_ _ | refine blk_drew ?_ | refine blk_alloc ?_ _)); exact BK219.out⟩, ⟨by repeat (first | (with_reducible first | exact HB.out | apply below_alloc | apply pw_below_drewN | apply below_drew1 | refine below_set ?_ GE219.out) | exact HB.out)⟩⟩
         ·rw [if_neg c19] at H
          have c19b0 : (((rd_T38 l2 x14_1).f1) == 2) = false := beq_eq_false_iff_ne.mpr c19
          have c19b1 : (((rd_T38 l2 x14_1).f1) != 2) = true := bne_iff_ne.mpr c19
          (first | rw [c19b0] | (simp only [i64_w, i32_w]; rw [c19b0]) | skip)
          have H' := Aside0.mk H
          clear H
          have hcz23_0 : w17.cell? ⟨gb219, 0, none⟩ = some (.int .i64 0) := (blk_cell BK219.out 0).trans rfl
          have hcz23_1 : w17.cell? ⟨gb219, 1, none⟩ = some (.int .i64 0) := (blk_cell BK219.out 1).trans rfl
          have hcz23_2 : w17.cell? ⟨gb219, 2, none⟩ = some (.int .i64 0) := (blk_cell BK219.out 2).trans rfl
          have hcz23_3 : w17.cell? ⟨gb219, 3, none⟩ = some (.string (⟨#[]⟩ : ByteArray)) := (blk_cell BK219.out 3).trans rfl
          have hcz23_4 : w17.cell? ⟨gb219, 4, none⟩ = some (.int .i64 0) := (blk_cell BK219.out 4).trans rfl
          have hcz23_5 : w17.cell? ⟨gb219, 5, none⟩ = some (.int .i64 0) := (blk_cell BK219.out 5).trans rfl
          have hcz23_6 : w17.cell? ⟨gb219, 6, none⟩ = some (.int .i64 0) := (blk_cell BK219.out 6).trans rfl
          have hfz23_0 := blk_frozen BK219.out 0
          have hfz23_1 := blk_frozen BK219.out 1
          have hfz23_2 := blk_frozen BK219.out 2
          have hfz23_3 := blk_frozen BK219.out 3
          have hfz23_4 := blk_frozen BK219.out 4
          have hfz23_5 := blk_frozen BK219.out 5
          have hfz23_6 := blk_frozen BK219.out 6
          go_wp2
          go_meet
          case rel => exact ⟨_, (true), (by first | rfl | (simp; done) | (simp [*]; done)), H', ⟨by have := HK1.out; first | omega | exact Nat.le_refl _⟩, ⟨by (with_reducible repeat (first | apply Kd.R_alloc | apply Kd.R_drewN | apply Kd.R_drew)); exact Kd.R_mono (Kd.R_far (p := ⟨gb219, 6, none⟩) (Kd.R_far (p := ⟨gb219, 5, none⟩) (Kd.R_far (p := ⟨gb219, 4, none⟩) (Kd.R_far (p := ⟨gb219, 3, none⟩) (Kd.R_far (p := ⟨gb219, 2, none⟩) (Kd.R_far (p := ⟨gb219, 1, none⟩) (Kd.R_far (p := ⟨gb219, 0, none⟩) (Kd.R_types HO_12.out BK219.out (by decide)) (fun _ hk => hk.2) (.int .i64 ((rd_T38 l2 x14_1).f0))) (fun _ hk => hk.2) (.int .i64 ((rd_T38 l2 x14_1).f1))) (fun _ hk => hk.2) (.int .i64 ((rd_T38 l2 x14_1).f2))) (fun _ hk => hk.2) (.string ((rd_T38 l2 x14_1).f3))) (fun _ hk => hk.2) (.int .i64 ((rd_T38 l2 x14_1).f4))) (fun _ hk => hk.2) (.int .i64 ((rd_T38 l2 x14_1).f5))) (fun _ hk => hk.2) (.int .i64 ((rd_T38 l2 x14_1).f6))) (fun _ hk => trivial)⟩, ⟨by (with_reducible repeat (first | apply Kd.R_alloc | apply Kd.R_drewN | apply Kd.R_drew)); exact Kd.R_mono (Kd.R_far (p := ⟨gb219, 6, none⟩) (Kd.R_far (p := ⟨gb219, 5, none⟩) (Kd.R_far (p := ⟨gb219, 4, none⟩) (Kd.R_far (p := ⟨gb219, 3, none⟩) (Kd.R_far (p := ⟨gb219, 2, none⟩) (Kd.R_far (p := ⟨gb219, 1, none⟩) (Kd.R_far (p := ⟨gb219, 0, none⟩) (Kd.R_types HO_13.out BK219.out (by decide)) (fun _ hk => hk.2) (.int .i64 ((rd_T38 l2 x14_1).f0))) (fun _ hk => hk.2) (.int .i64 ((rd_T38 l2 x14_1).f1))) (fun _ hk => hk.2) (.int .i64 ((rd_T38 l2 x14_1).f2))) (fun _ hk => hk.2) (.string ((rd_T38 l2 x14_1).f3))) (fun _ hk => hk.2) (.int .i64 ((rd_T38 l2 x14_1).f4))) (fun _ hk => hk.2) (.int .i64 ((rd_T38 l2 x14_1).f5))) (fun _ hk => hk.2) (.int .i64 ((rd_T38 l2 x14_1).f6))) (fun _ hk => trivial)⟩, ⟨by (with_reducible repeat (first | refine blk_drewN ?_ _ | refine blk_drew ?_ | refine blk_alloc ?_ _)); refine blk_put (cs := #[.int .i64 ((rd_T38 l2 x14_1).f0), .int .i64 ((rd_T38 l2 x14_1).f1), .int .i64 ((rd_T38 l2 x14_1).f2), .string ((rd_T38 l2 x14_1).f3), .int .i64 ((rd_T38 l2 x14_1).f4), .int .i64 ((rd_T38 l2 x14_1).f5), .int .i64 0]) ?_ 6 _ rfl; (with_reducible repeat (first | refine blk_drewN ?_ _ | refine blk_drew ?_ | refine blk_alloc ?_ _)); refine blk_put (cs := #[.int .i64 ((rd_T38 l2 x14_1).f0), .int .i64 ((rd_T38 l2 x14_1).f1), .int .i64 ((rd_T38 l2 x14_1).f2), .string ((rd_T38 l2 x14_1).f3), .int .i64 ((rd_T38 l2 x14_1).f4), .int .i64 0, .int .i64 0]) ?_ 5 _ rfl; (with_reducible repeat (first | refine blk_drewN ?_ _ | refine blk_drew ?_ | refine blk_alloc ?_ _)); refine blk_put (cs := #[.int .i64 ((rd_T38 l2 x14_1).f0), .int .i64 ((rd_T38 l2 x14_1).f1), .int .i64 ((rd_T38 l2 x14_1).f2), .string ((rd_T38 l2 x14_1).f3), .int .i64 0, .int .i64 0, .int .i64 0]) ?_ 4 _ rfl; (with_reducible repeat (first | refine blk_drewN ?_ _ | refine blk_drew ?_ | refine blk_alloc ?_ _)); refine blk_put (cs := #[.int .i64 ((rd_T38 l2 x14_1).f0), .int .i64 ((rd_T38 l2 x14_1).f1), .int .i64 ((rd_T38 l2 x14_1).f2), .string (⟨#[]⟩ : ByteArray), .int .i64 0, .int .i64 0, .int .i64 0]) ?_ 3 _ rfl; (with_reducible repeat (first | refine blk_drewN ?_ _ | refine blk_drew ?_ | refine blk_alloc ?_ _)); refine blk_put (cs := #[.int .i64 ((rd_T38 l2 x14_1).f0), .int .i64 ((rd_T38 l2 x14_1).f1), .int .i64 0, .string (⟨#[]⟩ : ByteArray), .int .i64 0, .int .i64 0, .int .i64 0]) ?_ 2 _ rfl; (with_reducible repeat (first | refine blk_drewN ?_ _ | refine blk_drew ?_ | refine blk_alloc ?_ _)); refine blk_put (cs := #[.int .i64 ((rd_T38 l2 x14_1).f0), .int .i64 0, .int .i64 0, .string (⟨#[]⟩ : ByteArray), .int .i64 0, .int .i64 0, .int .i64 0]) ?_ 1 _ rfl; (with_reducible repeat (first | refine blk_drewN ?_ _ | refine blk_drew ?_ | refine blk_alloc ?_ _)); refine blk_put (cs := #[.int .i64 0, .int .i64 0, .int .i64 0, .string (⟨#[]⟩ : ByteArray), .int .i64 0, .int .i64 0, .int .i64 0]) ?_ 0 _ rfl; (with_reducible repeat (first | refine blk_drewN ?_ _ | refine blk_drew ?_ | refine blk_alloc ?_ _)); exact BK219.out⟩, ⟨by repeat (first | (with_reducible first | exact HB.out | apply below_alloc | apply pw_below_drewN | apply below_drew1 | refine below_set ?_ GE219.out) | exact HB.out)⟩⟩
        case rest =>
         clear HC16
         try clear c1
         try clear c2
         try clear p2
         try clear q2
         try clear hx2
         try clear c4
         try clear c6
         try clear c7
         try clear c7b0
         try clear c7b1
         try clear c8
         try clear c8b0
         try clear c8b1
         try clear c14
         try clear c14b0
         try clear c15
         try clear c15b0
         try clear c19
         try clear c19b0
         try clear c19b1
         try clear c20
         try clear c20b0
         try clear p21
         try clear q21
         try clear hx21
         try clear hcz18_0
         try clear hcz18_1
         try clear hcz18_2
         try clear hcz18_3
         try clear hcz18_4
         try clear hcz18_5
         try clear hcz18_6
         try clear hcz21_0
         try clear hcz21_1
         try clear hcz21_2
         try clear hcz21_3
         try clear hcz21_4
         try clear hcz21_5
         try clear hcz21_6
         try clear hcz22_0
         try clear hcz22_1
         try clear hcz22_2
         try clear hcz22_3
         try clear hcz22_4
         try clear hcz22_5
         try clear hcz22_6
         try clear hcz23_0
         try clear hcz23_1
         try clear hcz23_2
         try clear hcz23_3
         try clear hcz23_4
         try clear hcz23_5
         try clear hcz23_6
         try clear hfz18_0
         try clear hfz18_1
         try clear hfz18_2
         try clear hfz18_3
         try clear hfz18_4
         try clear hfz18_5
         try clear hfz18_6
         try clear hfz21_0
         try clear hfz21_1
         try clear hfz21_2
         try clear hfz21_3
         try clear hfz21_4
         try clear hfz21_5
         try clear hfz21_6
         try clear hfz22_0
         try clear hfz22_1
         try clear hfz22_2
         try clear hfz22_3
         try clear hfz22_4
         try clear hfz22_5
         try clear hfz22_6
         try clear hfz23_0
         try clear hfz23_1
         try clear hfz23_2
         try clear hfz23_3
         try clear hfz23_4
         try clear hfz23_5
         try clear hfz23_6
         try clear hx218_0
         try clear hx218_1
         try clear hx218_2
         try clear hx218_3
         try clear hx218_4
         try clear hx218_5
         try clear hx218_6
         try clear p2
         try clear p218
         try clear q218
         obtain ⟨kq, x49_15, rfl, HA, HJ15, HO_12, HO_13, BK219, HB⟩ := hcut
         cases kq with
         | zero => exact absurd HA.out (by simp [tipstaffref33_of.j1])
         | succ kj15 =>
          have H := HA.out
          clear HA
          simp only [tipstaffref33_of.j1] at H
          by_cases c24 : x49_15 = true
          ·subst c24
           have H1 : (tipstaffref33_of.l0 kj15 a0 l1 l2 a3 a4 x12_1 x13_1 (wrap64 (x14_1 + 1))) = some (r1, r2) := by rw [if_pos rfl] at H; exact H
           clear H
           have H := H1
           clear H1
           have H' := Aside0.mk H
           clear H
           go_wp2
           go_roundg kj15
           case measure => have := HK1.out; have := HJ15.out; omega
           case rel => exact ⟨(x12_1), (x13_1), (wrap64 (x14_1 + 1)), (by first | rfl | (simp; done) | (simp [*]; done)), H', ⟨by have := HK1.out; have := HJ15.out; omega⟩, ⟨by (with_reducible repeat (first | apply Kd.R_alloc | apply Kd.R_drewN | apply Kd.R_drew)); exact HO_12.out⟩, ⟨by (with_reducible repeat (first | apply Kd.R_alloc | apply Kd.R_drewN | apply Kd.R_drew)); exact HO_13.out⟩, ⟨by repeat (first | (with_reducible first | exact HB.out | apply below_alloc | apply pw_below_drewN | apply below_drew1 | refine below_set ?_ GE219.out) | exact HB.out)⟩⟩
          ·replace c24 := Bool.eq_false_iff.mpr c24
           subst c24
           have H1 := H
           rw [if_neg (show ¬ (false = true) by decide)] at H1
           clear H
           have H := H1
           clear H1
           by_cases c25 : ((rd_T38 l2 x14_1).f5) = 1
           ·rw [if_pos c25] at H
            have c25b0 : (((rd_T38 l2 x14_1).f5) == 1) = true := beq_iff_eq.mpr c25
            have c25b1 : (((rd_T38 l2 x14_1).f5) != 1) = false := bne_eq_false_iff_eq.mpr c25
            clear c25
            obtain ⟨ji26, hji26⟩ : ∃ j_ : Int, (wrap64 (((rd_T38 l2 x14_1).f4) - 1)) = j_ := ⟨_, rfl⟩
            replace H : (if 0 ≤ (ji26) then (if (ji26) < (x12_1.length : Int) then (tipstaffref33_of.l0 kj15 a0 l1 l2 a3 a4 (x12_1.set ((ji26) : Int).toNat ((rd_T38 l2 x14_1).f6)) x13_1 (wrap64 (x14_1 + 1))) else (none)) else (none)) = some (r1, r2) := by first | (rw [hji26] at H; exact H) | (simp only [hji26] at H ⊢; exact H)
            have hji26w : (IntKind.i64.wrap (((rd_T38 l2 x14_1).f4) - 1)) = ji26 := (i64_w _).trans hji26
            by_cases c27 : 0 ≤ (ji26)
            ·rw [if_pos c27] at H
             have c27b0 : decide (0 ≤ (ji26)) = true := decide_eq_true c27
             clear c27
             by_cases c28 : (ji26) < (x12_1.length : Int)
             ·rw [if_pos c28] at H
              have c28b0 : decide ((ji26) < (x12_1.length : Int)) = true := decide_eq_true c28
              clear c28
              obtain ⟨y220, hy220⟩ : ∃ y_ : List Int, y_ = (x12_1.set ((ji26) : Int).toNat ((rd_T38 l2 x14_1).f6)) := ⟨_, rfl⟩
              replace H : (tipstaffref33_of.l0 kj15 a0 l1 l2 a3 a4 y220 x13_1 (wrap64 (x14_1 + 1))) = some (r1, r2) := by first | (rw [hy220]; with_reducible exact H) | (have H2_ := (Option.bind_some _ _).symm.trans H; rw [hy220]; with_reducible exact H2_) | (have H2_ := (Option.bind_some _ _).symm.trans H; with_reducible exact H2_) | with_reducible exact H | (rw [hy220]; exact H) | exact H
              have Ny220 := Aside0.mk hy220
              clear hy220
              have H' := Aside0.mk H
              clear H
              have hcz30_0 : wc.cell? ⟨gb219, 0, none⟩ = some (.int .i64 ((rd_T38 l2 x14_1).f0)) := (blk_cell BK219.out 0).trans rfl
              have hcz30_1 : wc.cell? ⟨gb219, 1, none⟩ = some (.int .i64 ((rd_T38 l2 x14_1).f1)) := (blk_cell BK219.out 1).trans rfl
              have hcz30_2 : wc.cell? ⟨gb219, 2, none⟩ = some (.int .i64 ((rd_T38 l2 x14_1).f2)) := (blk_cell BK219.out 2).trans rfl
              have hcz30_3 : wc.cell? ⟨gb219, 3, none⟩ = some (.string ((rd_T38 l2 x14_1).f3)) := (blk_cell BK219.out 3).trans rfl
              have hcz30_4 : wc.cell? ⟨gb219, 4, none⟩ = some (.int .i64 ((rd_T38 l2 x14_1).f4)) := (blk_cell BK219.out 4).trans rfl
              have hcz30_5 : wc.cell? ⟨gb219, 5, none⟩ = some (.int .i64 ((rd_T38 l2 x14_1).f5)) := (blk_cell BK219.out 5).trans rfl
              have hcz30_6 : wc.cell? ⟨gb219, 6, none⟩ = some (.int .i64 ((rd_T38 l2 x14_1).f6)) := (blk_cell BK219.out 6).trans rfl
              have hfz30_0 := blk_frozen BK219.out 0
              have hfz30_1 := blk_frozen BK219.out 1
              have hfz30_2 := blk_frozen BK219.out 2
              have hfz30_3 := blk_frozen BK219.out 3
              have hfz30_4 := blk_frozen BK219.out 4
              have hfz30_5 := blk_frozen BK219.out 5
              have hfz30_6 := blk_frozen BK219.out 6
              have p29 : 0 ≤ ((ji26) : Int) := of_decide_eq_true (by first | (with_reducible assumption) | assumption)
              have q29 : ((ji26) : Int) < ((x12_1.length : Int) : Int) := of_decide_eq_true (by first | (with_reducible assumption) | assumption)
              obtain ⟨go29, co29, eo29, gb29, gl29, cl29, HG29⟩ := Kd.R_form HO_12.out (by omega)
              (first | cases eo29 | (injection eo29 with ea_ en_ ec_; (first | subst ea_ | (injection ea_ with ea_; subst ea_)); subst ec_; clear en_))
              have GB29 := Aside0.mk gb29
              have GG29 := Aside0.mk HG29
              clear gb29 gl29 HG29
              obtain ⟨hx29_0, hf29_0⟩ := Kd.R_celln 0 HO_12.out ((ji26) : Int) p29 q29
              replace p29 := eq_true p29
              replace q29 := eq_true q29
              have HP31 := Kd.R_putg HO_12.out ((ji26) : Int) ((rd_T38 l2 x14_1).f6)
              go_wp2_with (first | ((with_reducible refine gate_store (t := 3) (p := 60) rfl ?_); refine store_event (t := 3) (p := 60) (v := ?vo_w32) (w1 := (wc.setCell ⟨go29, ((ji26) : Int).toNat, none⟩ (.int .i64 ((rd_T38 l2 x14_1).f6)))) ?hg ?ho ?hn ?hr ?_; (case ho => rfl); (case hg => rfl); (case hn => rfl); (case hr => first | (go_simp; done) | (go_simp; rfl)); intro w32 hw; have hg : wc.grownBy w32 (some go29) := (by rw [hw]; exact HP31.2); have hp_ : Kd.R (Kd.int .i64) 3 w32 w.heap.size (fun _ => True) (.slice (some ⟨go29, 0, none⟩) x12_1.length co29) y220 := (by rw [hw, Ny220.out]; exact HP31.1); clear HP31; have n0_ := Aside0.mk (hp_); have n1_ := Aside0.mk (Kd.R_over' (v := (.slice (some ⟨go29, 0, none⟩) x12_1.length co29)) (by (with_reducible repeat (first | apply Kd.R_alloc | apply Kd.R_drewN | apply Kd.R_drew)); exact HO_13.out) (Kd.R_typed HO_12.out) (by decide) hg); have n2_ := Aside0.mk (blk_grown (g := gb219) (o := .cells #[.int .i64 ((rd_T38 l2 x14_1).f0), .int .i64 ((rd_T38 l2 x14_1).f1), .int .i64 ((rd_T38 l2 x14_1).f2), .string ((rd_T38 l2 x14_1).f3), .int .i64 ((rd_T38 l2 x14_1).f4), .int .i64 ((rd_T38 l2 x14_1).f5), .int .i64 ((rd_T38 l2 x14_1).f6)] 38 (0, 0)) (by (with_reducible repeat (first | refine blk_drewN ?_ _ | refine blk_drew ?_ | refine blk_alloc ?_ _)); exact BK219.out) hg (Kd.R_ne HO_12.out BK219.out (by decide))); have n3_ := Aside0.mk ((by rw [hw]; exact below_set (HB.out) GB29.out : Below w.heap.size w w32)); clear HO_12; clear HO_13; clear BK219; clear HB; have HO_12 := n0_; have HO_13 := n1_; have BK219 := n2_; have HB := n3_; clear n0_ n1_ n2_ n3_; clear hg hw hp_))
              go_roundg kj15
              case measure => have := HK1.out; have := HJ15.out; omega
              case rel => exact ⟨(y220), (x13_1), (wrap64 (x14_1 + 1)), (by first | rfl | (simp; done) | (simp [*]; done)), H', ⟨by have := HK1.out; have := HJ15.out; omega⟩, ⟨by (with_reducible repeat (first | apply Kd.R_alloc | apply Kd.R_drewN | apply Kd.R_drew)); exact HO_12.out⟩, ⟨by (with_reducible repeat (first | apply Kd.R_alloc | apply Kd.R_drewN | apply Kd.R_drew)); exact HO_13.out⟩, ⟨by repeat (first | (with_reducible first | exact HB.out | apply below_alloc | apply pw_below_drewN | apply below_drew1 | refine below_set ?_ GE219.out) | exact HB.out)⟩⟩
             ·rw [if_neg c28] at H
              exact absurd H (by simp)
            ·rw [if_neg c27] at H
             exact absurd H (by simp)
           ·rw [if_neg c25] at H
            have c25b0 : (((rd_T38 l2 x14_1).f5) == 1) = false := beq_eq_false_iff_ne.mpr c25
            have c25b1 : (((rd_T38 l2 x14_1).f5) != 1) = true := bne_iff_ne.mpr c25
            by_cases c33 : ((rd_T38 l2 x14_1).f5) ≥ 3
            ·rw [if_pos c33] at H
             have c33b0 : decide (3 ≤ ((rd_T38 l2 x14_1).f5)) = true := decide_eq_true c33
             clear c33
             obtain ⟨ji34, hji34⟩ : ∃ j_ : Int, (wrap64 (((rd_T38 l2 x14_1).f4) - 1)) = j_ := ⟨_, rfl⟩
             replace H : (if 0 ≤ (ji34) then (if (ji34) < (x13_1.length : Int) then (tipstaffref33_of.l0 kj15 a0 l1 l2 a3 a4 x12_1 (x13_1.set ((ji34) : Int).toNat true) (wrap64 (x14_1 + 1))) else (none)) else (none)) = some (r1, r2) := by first | (rw [hji34] at H; exact H) | (simp only [hji34] at H ⊢; exact H)
             have hji34w : (IntKind.i64.wrap (((rd_T38 l2 x14_1).f4) - 1)) = ji34 := (i64_w _).trans hji34
             by_cases c35 : 0 ≤ (ji34)
             ·rw [if_pos c35] at H
              have c35b0 : decide (0 ≤ (ji34)) = true := decide_eq_true c35
              clear c35
              by_cases c36 : (ji34) < (x13_1.length : Int)
              ·rw [if_pos c36] at H
               have c36b0 : decide ((ji34) < (x13_1.length : Int)) = true := decide_eq_true c36
               clear c36
               obtain ⟨y221, hy221⟩ : ∃ y_ : List Bool, y_ = (x13_1.set ((ji34) : Int).toNat true) := ⟨_, rfl⟩
               replace H : (tipstaffref33_of.l0 kj15 a0 l1 l2 a3 a4 x12_1 y221 (wrap64 (x14_1 + 1))) = some (r1, r2) := by first | (rw [hy221]; with_reducible exact H) | (have H2_ := (Option.bind_some _ _).symm.trans H; rw [hy221]; with_reducible exact H2_) | (have H2_ := (Option.bind_some _ _).symm.trans H; with_reducible exact H2_) | with_reducible exact H | (rw [hy221]; exact H) | exact H
               have Ny221 := Aside0.mk hy221
               clear hy221
               have H' := Aside0.mk H
               clear H
               have hcz38_0 : wc.cell? ⟨gb219, 0, none⟩ = some (.int .i64 ((rd_T38 l2 x14_1).f0)) := (blk_cell BK219.out 0).trans rfl
               have hcz38_1 : wc.cell? ⟨gb219, 1, none⟩ = some (.int .i64 ((rd_T38 l2 x14_1).f1)) := (blk_cell BK219.out 1).trans rfl
               have hcz38_2 : wc.cell? ⟨gb219, 2, none⟩ = some (.int .i64 ((rd_T38 l2 x14_1).f2)) := (blk_cell BK219.out 2).trans rfl
               have hcz38_3 : wc.cell? ⟨gb219, 3, none⟩ = some (.string ((rd_T38 l2 x14_1).f3)) := (blk_cell BK219.out 3).trans rfl
               have hcz38_4 : wc.cell? ⟨gb219, 4, none⟩ = some (.int .i64 ((rd_T38 l2 x14_1).f4)) := (blk_cell BK219.out 4).trans rfl
               have hcz38_5 : wc.cell? ⟨gb219, 5, none⟩ = some (.int .i64 ((rd_T38 l2 x14_1).f5)) := (blk_cell BK219.out 5).trans rfl
               have hcz38_6 : wc.cell? ⟨gb219, 6, none⟩ = some (.int .i64 ((rd_T38 l2 x14_1).f6)) := (blk_cell BK219.out 6).trans rfl
               have hfz38_0 := blk_frozen BK219.out 0
               have hfz38_1 := blk_frozen BK219.out 1
               have hfz38_2 := blk_frozen BK219.out 2
               have hfz38_3 := blk_frozen BK219.out 3
               have hfz38_4 := blk_frozen BK219.out 4
               have hfz38_5 := blk_frozen BK219.out 5
               have hfz38_6 := blk_frozen BK219.out 6
               have p37 : 0 ≤ ((ji34) : Int) := of_decide_eq_true (by first | (with_reducible assumption) | assumption)
               have q37 : ((ji34) : Int) < ((x13_1.length : Int) : Int) := of_decide_eq_true (by first | (with_reducible assumption) | assumption)
               obtain ⟨go37, co37, eo37, gb37, gl37, cl37, HG37⟩ := Kd.R_form HO_13.out (by omega)
               (first | cases eo37 | (injection eo37 with ea_ en_ ec_; (first | subst ea_ | (injection ea_ with ea_; subst ea_)); subst ec_; clear en_))
               have GB37 := Aside0.mk gb37
               have GG37 := Aside0.mk HG37
               clear gb37 gl37 HG37
               obtain ⟨hx37_0, hf37_0⟩ := Kd.R_celln false HO_13.out ((ji34) : Int) p37 q37
               replace p37 := eq_true p37
               replace q37 := eq_true q37
               have HP39 := Kd.R_putg HO_13.out ((ji34) : Int) true
               go_wp2_with (first | ((with_reducible refine gate_store (t := 4) (p := 69) rfl ?_); refine store_event (t := 4) (p := 69) (v := ?vo_w40) (w1 := (wc.setCell ⟨go37, ((ji34) : Int).toNat, none⟩ (.bool true))) ?hg ?ho ?hn ?hr ?_; (case ho => rfl); (case hg => rfl); (case hn => rfl); (case hr => first | (go_simp; done) | (go_simp; rfl)); intro w40 hw; have hg : wc.grownBy w40 (some go37) := (by rw [hw]; exact HP39.2); have hp_ : Kd.R Kd.bool 4 w40 w.heap.size (fun _ => True) (.slice (some ⟨go37, 0, none⟩) x13_1.length co37) y221 := (by rw [hw, Ny221.out]; exact HP39.1); clear HP39; have n0_ := Aside0.mk (Kd.R_over' (v := (.slice (some ⟨go37, 0, none⟩) x13_1.length co37)) (by (with_reducible repeat (first | apply Kd.R_alloc | apply Kd.R_drewN | apply Kd.R_drew)); exact HO_12.out) (Kd.R_typed HO_13.out) (by decide) hg); have n1_ := Aside0.mk (hp_); have n2_ := Aside0.mk (blk_grown (g := gb219) (o := .cells #[.int .i64 ((rd_T38 l2 x14_1).f0), .int .i64 ((rd_T38 l2 x14_1).f1), .int .i64 ((rd_T38 l2 x14_1).f2), .string ((rd_T38 l2 x14_1).f3), .int .i64 ((rd_T38 l2 x14_1).f4), .int .i64 ((rd_T38 l2 x14_1).f5), .int .i64 ((rd_T38 l2 x14_1).f6)] 38 (0, 0)) (by (with_reducible repeat (first | refine blk_drewN ?_ _ | refine blk_drew ?_ | refine blk_alloc ?_ _)); exact BK219.out) hg (Kd.R_ne HO_13.out BK219.out (by decide))); have n3_ := Aside0.mk ((by rw [hw]; exact below_set (HB.out) GB37.out : Below w.heap.size w w40)); clear HO_12; clear HO_13; clear BK219; clear HB; have HO_12 := n0_; have HO_13 := n1_; have BK219 := n2_; have HB := n3_; clear n0_ n1_ n2_ n3_; clear hg hw hp_))
               go_roundg kj15
               case measure => have := HK1.out; have := HJ15.out; omega
               case rel => exact ⟨(x12_1), (y221), (wrap64 (x14_1 + 1)), (by first | rfl | (simp; done) | (simp [*]; done)), H', ⟨by have := HK1.out; have := HJ15.out; omega⟩, ⟨by (with_reducible repeat (first | apply Kd.R_alloc | apply Kd.R_drewN | apply Kd.R_drew)); exact HO_12.out⟩, ⟨by (with_reducible repeat (first | apply Kd.R_alloc | apply Kd.R_drewN | apply Kd.R_drew)); exact HO_13.out⟩, ⟨by repeat (first | (with_reducible first | exact HB.out | apply below_alloc | apply pw_below_drewN | apply below_drew1 | refine below_set ?_ GE219.out) | exact HB.out)⟩⟩
              ·rw [if_neg c36] at H
               exact absurd H (by simp)
             ·rw [if_neg c35] at H
              exact absurd H (by simp)
            ·rw [if_neg c33] at H
             have c33b0 : decide (3 ≤ ((rd_T38 l2 x14_1).f5)) = false := decide_eq_false c33
             clear c33
             have H' := Aside0.mk H
             clear H
             have hcz41_0 : wc.cell? ⟨gb219, 0, none⟩ = some (.int .i64 ((rd_T38 l2 x14_1).f0)) := (blk_cell BK219.out 0).trans rfl
             have hcz41_1 : wc.cell? ⟨gb219, 1, none⟩ = some (.int .i64 ((rd_T38 l2 x14_1).f1)) := (blk_cell BK219.out 1).trans rfl
             have hcz41_2 : wc.cell? ⟨gb219, 2, none⟩ = some (.int .i64 ((rd_T38 l2 x14_1).f2)) := (blk_cell BK219.out 2).trans rfl
             have hcz41_3 : wc.cell? ⟨gb219, 3, none⟩ = some (.string ((rd_T38 l2 x14_1).f3)) := (blk_cell BK219.out 3).trans rfl
             have hcz41_4 : wc.cell? ⟨gb219, 4, none⟩ = some (.int .i64 ((rd_T38 l2 x14_1).f4)) := (blk_cell BK219.out 4).trans rfl
             have hcz41_5 : wc.cell? ⟨gb219, 5, none⟩ = some (.int .i64 ((rd_T38 l2 x14_1).f5)) := (blk_cell BK219.out 5).trans rfl
             have hcz41_6 : wc.cell? ⟨gb219, 6, none⟩ = some (.int .i64 ((rd_T38 l2 x14_1).f6)) := (blk_cell BK219.out 6).trans rfl
             have hfz41_0 := blk_frozen BK219.out 0
             have hfz41_1 := blk_frozen BK219.out 1
             have hfz41_2 := blk_frozen BK219.out 2
             have hfz41_3 := blk_frozen BK219.out 3
             have hfz41_4 := blk_frozen BK219.out 4
             have hfz41_5 := blk_frozen BK219.out 5
             have hfz41_6 := blk_frozen BK219.out 6
             go_wp2
             go_roundg kj15
             case measure => have := HK1.out; have := HJ15.out; omega
             case rel => exact ⟨(x12_1), (x13_1), (wrap64 (x14_1 + 1)), (by first | rfl | (simp; done) | (simp [*]; done)), H', ⟨by have := HK1.out; have := HJ15.out; omega⟩, ⟨by (with_reducible repeat (first | apply Kd.R_alloc | apply Kd.R_drewN | apply Kd.R_drew)); exact HO_12.out⟩, ⟨by (with_reducible repeat (first | apply Kd.R_alloc | apply Kd.R_drewN | apply Kd.R_drew)); exact HO_13.out⟩, ⟨by repeat (first | (with_reducible first | exact HB.out | apply below_alloc | apply pw_below_drewN | apply below_drew1 | refine below_set ?_ GE219.out) | exact HB.out)⟩⟩
       ·rw [if_neg c15] at H
        exact absurd H (by simp)
      ·rw [if_neg c14] at H
       have c14b0 : decide (x14_1 < (l2.length : Int)) = false := decide_eq_false c14
       clear c14
       have H' := Aside0.mk H
       clear H
       go_wp2
       go_loopg [16, 17, 18] k1 (fun kq v16 v17 v18 w' => ∃ (x16_2 : Int) (x17_2 : Int) (x18_2 : Int), v16 = .int .i64 x16_2 ∧ v17 = .int .i64 x17_2 ∧ v18 = .int .i64 x18_2 ∧ Aside0 (tipstaffref33_of.l1 kq a0 l1 x12_1 x13_1 x16_2 x17_2 x18_2 = some (r1, r2)) ∧ Aside0 (kq ≤ k1) ∧ Aside0 (Kd.R (Kd.int .i64) 3 w' w.heap.size (fun _ => True) v213 x12_1) ∧ Aside0 (Kd.R Kd.bool 4 w' w.heap.size (fun _ => True) v216 x13_1) ∧ Aside0 (Below w.heap.size w w'))
       case atStart => exact ⟨(0), (1), (0), (by first | rfl | (simp; done) | (simp [*]; done)), (by first | rfl | (simp; done) | (simp [*]; done)), (by first | rfl | (simp; done) | (simp [*]; done)), H', ⟨Nat.le_refl _⟩, ⟨by (with_reducible repeat (first | apply Kd.R_alloc | apply Kd.R_drewN | apply Kd.R_drew)); exact HO_12.out⟩, ⟨by (with_reducible repeat (first | apply Kd.R_alloc | apply Kd.R_drewN | apply Kd.R_drew)); exact HO_13.out⟩, ⟨by repeat (first | (with_reducible first | exact HB.out | apply below_alloc | apply pw_below_drewN | apply below_drew1) | exact HB.out)⟩⟩
       case round =>
        clear H'
        try clear c1
        try clear c2
        try clear p2
        try clear q2
        try clear hx2
        try clear c3
        try clear p3
        try clear q3
        try clear hx3
        try clear c4
        try clear c6
        try clear p6
        try clear c7
        try clear c7b0
        try clear c7b1
        try clear c8
        try clear c8b0
        try clear c8b1
        try clear c14
        try clear c14b0
        try clear c15
        try clear c15b0
        try clear c19
        try clear c19b0
        try clear c19b1
        try clear c20
        try clear c20b0
        try clear p21
        try clear q21
        try clear hx21
        try clear c24
        try clear c25
        try clear c25b0
        try clear c25b1
        try clear c27
        try clear c27b0
        try clear c28
        try clear c28b0
        try clear p29
        try clear q29
        try clear hx29
        try clear hf29
        try clear c33
        try clear c33b0
        try clear c35
        try clear c35b0
        try clear c36
        try clear c36b0
        try clear p37
        try clear q37
        try clear hx37
        try clear hf37
        try clear c41
        try clear hcz18_0
        try clear hcz18_1
        try clear hcz18_2
        try clear hcz18_3
        try clear hcz18_4
        try clear hcz18_5
        try clear hcz18_6
        try clear hcz21_0
        try clear hcz21_1
        try clear hcz21_2
        try clear hcz21_3
        try clear hcz21_4
        try clear hcz21_5
        try clear hcz21_6
        try clear hcz22_0
        try clear hcz22_1
        try clear hcz22_2
        try clear hcz22_3
        try clear hcz22_4
        try clear hcz22_5
        try clear hcz22_6
        try clear hcz23_0
        try clear hcz23_1
        try clear hcz23_2
        try clear hcz23_3
        try clear hcz23_4
        try clear hcz23_5
        try clear hcz23_6
        try clear hcz30_0
        try clear hcz30_1
        try clear hcz30_2
        try clear hcz30_3
        try clear hcz30_4
        try clear hcz30_5
        try clear hcz30_6
        try clear hcz38_0
        try clear hcz38_1
        try clear hcz38_2
        try clear hcz38_3
        try clear hcz38_4
        try clear hcz38_5
        try clear hcz38_6
        try clear hcz41_0
        try clear hcz41_1
        try clear hcz41_2
        try clear hcz41_3
        try clear hcz41_4
        try clear hcz41_5
        try clear hcz41_6
        try clear hfz18_0
        try clear hfz18_1
        try clear hfz18_2
        try clear hfz18_3
        try clear hfz18_4
        try clear hfz18_5
        try clear hfz18_6
        try clear hfz21_0
        try clear hfz21_1
        try clear hfz21_2
        try clear hfz21_3
        try clear hfz21_4
        try clear hfz21_5
        try clear hfz21_6
        try clear hfz22_0
        try clear hfz22_1
        try clear hfz22_2
        try clear hfz22_3
        try clear hfz22_4
        try clear hfz22_5
        try clear hfz22_6
        try clear hfz23_0
        try clear hfz23_1
        try clear hfz23_2
        try clear hfz23_3
        try clear hfz23_4
        try clear hfz23_5
        try clear hfz23_6
        try clear hfz30_0
        try clear hfz30_1
        try clear hfz30_2
        try clear hfz30_3
        try clear hfz30_4
        try clear hfz30_5
        try clear hfz30_6
        try clear hfz38_0
        try clear hfz38_1
        try clear hfz38_2
        try clear hfz38_3
        try clear hfz38_4
        try clear hfz38_5
        try clear hfz38_6
        try clear hfz41_0
        try clear hfz41_1
        try clear hfz41_2
        try clear hfz41_3
        try clear hfz41_4
        try clear hfz41_5
        try clear hfz41_6
        try clear hx218_0
        try clear hx218_1
        try clear hx218_2
        try clear hx218_3
        try clear hx218_4
        try clear hx218_5
        try clear hx218_6
        try clear hx29_0
        try clear hx37_0
        try clear p2
        try clear p21
        try clear p218
        try clear p29
        try clear p37
        try clear q2
        try clear q21
        try clear q218
        try clear q29
        try clear q37
        obtain ⟨x16_2, x17_2, x18_2, rfl, rfl, rfl, HA, HK2, HO_12, HO_13, HB⟩ := hrel
        cases gk with
        | zero => exact absurd HA.out (by simp [tipstaffref33_of.l1])
        | succ k2 =>
         have H := HA.out
         clear HA
         simp only [tipstaffref33_of.l1] at H
         by_cases c42 : x18_2 < (l1.length : Int)
         ·rw [if_pos c42] at H
          have c42b0 : decide (x18_2 < (l1.length : Int)) = true := decide_eq_true c42
          clear c42
          by_cases c43 : 0 ≤ x18_2
          ·rw [if_pos c43] at H
           have c43b0 : decide (0 ≤ x18_2) = true := decide_eq_true c43
           clear c43
           by_cases c44 : x18_2 < (x13_1.length : Int)
           ·rw [if_pos c44] at H
            have c44b0 : decide (x18_2 < (x13_1.length : Int)) = true := decide_eq_true c44
            clear c44
            obtain ⟨bq45, hbq45⟩ : ∃ b_ : Bool, b_ = (rdOf false x13_1 x18_2) := ⟨_, rfl⟩
            replace H : (if bq45 = true then (tipstaffref33_of.l1 k2 a0 l1 x12_1 x13_1 (wrap64 (x16_2 + x17_2)) (wrap64 (2 * x17_2)) (wrap64 (x18_2 + 1))) else (if x18_2 < (x12_1.length : Int) then (if (rd x12_1 x18_2) > a0 then (tipstaffref33_of.l1 k2 a0 l1 x12_1 x13_1 (wrap64 (x16_2 + x17_2)) (wrap64 (2 * x17_2)) (wrap64 (x18_2 + 1))) else (tipstaffref33_of.l1 k2 a0 l1 x12_1 x13_1 x16_2 (wrap64 (2 * x17_2)) (wrap64 (x18_2 + 1)))) else (none))) = some (r1, r2) := by rw [← hbq45] at H; exact H
            have Nbq45 := Aside0.mk hbq45
            clear hbq45
            by_cases c46 : bq45 = true
            ·subst c46
             have H1 : (tipstaffref33_of.l1 k2 a0 l1 x12_1 x13_1 (wrap64 (x16_2 + x17_2)) (wrap64 (2 * x17_2)) (wrap64 (x18_2 + 1))) = some (r1, r2) := by rw [if_pos rfl] at H; exact H
             clear H
             have H := H1
             clear H1
             have H' := Aside0.mk H
             clear H
             obtain ⟨Ao47, co47, eo47⟩ := Kd.R_slice HO_13.out
             subst eo47
             have p222 : 0 ≤ (x18_2 : Int) := of_decide_eq_true (by first | (with_reducible assumption) | assumption)
             have q222 : x18_2 < (x13_1.length : Int) := of_decide_eq_true (by first | (with_reducible assumption) | assumption)
             obtain ⟨ad222, e222, hx222_0⟩ := Kd.at_bool (Kd.R_reads' HO_13.out).2.2 x18_2 p222 q222
             (try rw [← Nbq45.out] at hx222_0)
             cases e222
             replace p222 := eq_true p222
             replace q222 := eq_true q222
             go_wp2
             go_roundg k2
             case measure => have := HK1.out; have := HK2.out; omega
             case rel => exact ⟨(wrap64 (x16_2 + x17_2)), (wrap64 (2 * x17_2)), (wrap64 (x18_2 + 1)), (by first | rfl | (simp; done) | (simp [*]; done)), (by first | rfl | (simp; done) | (simp [*]; done)), (by first | rfl | (simp; done) | (simp [*]; done)), H', ⟨by have := HK1.out; have := HK2.out; omega⟩, ⟨by (with_reducible repeat (first | apply Kd.R_alloc | apply Kd.R_drewN | apply Kd.R_drew)); exact HO_12.out⟩, ⟨by (with_reducible repeat (first | apply Kd.R_alloc | apply Kd.R_drewN | apply Kd.R_drew)); exact HO_13.out⟩, ⟨by repeat (first | (with_reducible first | exact HB.out | apply below_alloc | apply pw_below_drewN | apply below_drew1) | exact HB.out)⟩⟩
            ·replace c46 := Bool.eq_false_iff.mpr c46
             subst c46
             have H1 : (if x18_2 < (x12_1.length : Int) then (if (rd x12_1 x18_2) > a0 then (tipstaffref33_of.l1 k2 a0 l1 x12_1 x13_1 (wrap64 (x16_2 + x17_2)) (wrap64 (2 * x17_2)) (wrap64 (x18_2 + 1))) else (tipstaffref33_of.l1 k2 a0 l1 x12_1 x13_1 x16_2 (wrap64 (2 * x17_2)) (wrap64 (x18_2 + 1)))) else (none)) = some (r1, r2) := by rw [if_neg (show ¬ (false = true) by decide)] at H; exact H
             clear H
             have H := H1
             clear H1
             by_cases c48 : x18_2 < (x12_1.length : Int)
             ·rw [if_pos c48] at H
              have c48b0 : decide (x18_2 < (x12_1.length : Int)) = true := decide_eq_true c48
              clear c48
              by_cases c49 : (rd x12_1 x18_2) > a0
              ·rw [if_pos c49] at H
               have c49b0 : decide (a0 < (rd x12_1 x18_2)) = true := decide_eq_true c49
               clear c49
               have H' := Aside0.mk H
               clear H
               obtain ⟨Ao50, co50, eo50⟩ := Kd.R_slice HO_13.out
               subst eo50
               have p222 : 0 ≤ (x18_2 : Int) := of_decide_eq_true (by first | (with_reducible assumption) | assumption)
               have q222 : x18_2 < (x13_1.length : Int) := of_decide_eq_true (by first | (with_reducible assumption) | assumption)
               obtain ⟨ad222, e222, hx222_0⟩ := Kd.at_bool (Kd.R_reads' HO_13.out).2.2 x18_2 p222 q222
               (try rw [← Nbq45.out] at hx222_0)
               cases e222
               replace p222 := eq_true p222
               replace q222 := eq_true q222
               obtain ⟨Ao51, co51, eo51⟩ := Kd.R_slice HO_12.out
               subst eo51
               have p223 : 0 ≤ (x18_2 : Int) := of_decide_eq_true (by first | (with_reducible assumption) | assumption)
               have q223 : x18_2 < (x12_1.length : Int) := of_decide_eq_true (by first | (with_reducible assumption) | assumption)
               obtain ⟨ad223, e223, hx223_0⟩ := Kd.at_int (Kd.R_reads' HO_12.out).2.2 x18_2 p223 q223
               cases e223
               replace p223 := eq_true p223
               replace q223 := eq_true q223
               go_wp2
               go_roundg k2
               case measure => have := HK1.out; have := HK2.out; omega
               case rel => exact ⟨(wrap64 (x16_2 + x17_2)), (wrap64 (2 * x17_2)), (wrap64 (x18_2 + 1)), (by first | rfl | (simp; done) | (simp [*]; done)), (by first | rfl | (simp; done) | (simp [*]; done)), (by first | rfl | (simp; done) | (simp [*]; done)), H', ⟨by have := HK1.out; have := HK2.out; omega⟩, ⟨by (with_reducible repeat (first | apply Kd.R_alloc | apply Kd.R_drewN | apply Kd.R_drew)); exact HO_12.out⟩, ⟨by (with_reducible repeat (first | apply Kd.R_alloc | apply Kd.R_drewN | apply Kd.R_drew)); exact HO_13.out⟩, ⟨by repeat (first | (with_reducible first | exact HB.out | apply below_alloc | apply pw_below_drewN | apply below_drew1) | exact HB.out)⟩⟩
              ·rw [if_neg c49] at H
               have c49b0 : decide (a0 < (rd x12_1 x18_2)) = false := decide_eq_false c49
               clear c49
               have H' := Aside0.mk H
               clear H
               obtain ⟨Ao52, co52, eo52⟩ := Kd.R_slice HO_13.out
               subst eo52
               have p222 : 0 ≤ (x18_2 : Int) := of_decide_eq_true (by first | (with_reducible assumption) | assumption)
               have q222 : x18_2 < (x13_1.length : Int) := of_decide_eq_true (by first | (with_reducible assumption) | assumption)
               obtain ⟨ad222, e222, hx222_0⟩ := Kd.at_bool (Kd.R_reads' HO_13.out).2.2 x18_2 p222 q222
               (try rw [← Nbq45.out] at hx222_0)
               cases e222
               replace p222 := eq_true p222
               replace q222 := eq_true q222
               obtain ⟨Ao53, co53, eo53⟩ := Kd.R_slice HO_12.out
               subst eo53
               have p223 : 0 ≤ (x18_2 : Int) := of_decide_eq_true (by first | (with_reducible assumption) | assumption)
               have q223 : x18_2 < (x12_1.length : Int) := of_decide_eq_true (by first | (with_reducible assumption) | assumption)
               obtain ⟨ad223, e223, hx223_0⟩ := Kd.at_int (Kd.R_reads' HO_12.out).2.2 x18_2 p223 q223
               cases e223
               replace p223 := eq_true p223
               replace q223 := eq_true q223
               go_wp2
               go_roundg k2
               case measure => have := HK1.out; have := HK2.out; omega
               case rel => exact ⟨(x16_2), (wrap64 (2 * x17_2)), (wrap64 (x18_2 + 1)), (by first | rfl | (simp; done) | (simp [*]; done)), (by first | rfl | (simp; done) | (simp [*]; done)), (by first | rfl | (simp; done) | (simp [*]; done)), H', ⟨by have := HK1.out; have := HK2.out; omega⟩, ⟨by (with_reducible repeat (first | apply Kd.R_alloc | apply Kd.R_drewN | apply Kd.R_drew)); exact HO_12.out⟩, ⟨by (with_reducible repeat (first | apply Kd.R_alloc | apply Kd.R_drewN | apply Kd.R_drew)); exact HO_13.out⟩, ⟨by repeat (first | (with_reducible first | exact HB.out | apply below_alloc | apply pw_below_drewN | apply below_drew1) | exact HB.out)⟩⟩
             ·rw [if_neg c48] at H
              exact absurd H (by simp)
           ·rw [if_neg c44] at H
            exact absurd H (by simp)
          ·rw [if_neg c43] at H
           exact absurd H (by simp)
         ·rw [if_neg c42] at H
          have c42b0 : decide (x18_2 < (l1.length : Int)) = false := decide_eq_false c42
          clear c42
          simp only [Option.some.injEq, Prod.mk.injEq] at H
          obtain ⟨rfl, rfl⟩ := H
          go_wp2
          go_ret2
          exact ⟨_, by first | rfl | (simp [errW_none, errW_some] <;> rfl) | (simp [*, errW_none, errW_some] <;> rfl) | (simp (discharger := omega) only [Int.tdiv_eq_ediv_of_nonneg, Int.tmod_eq_emod_of_nonneg] <;> rfl), by (with_reducible repeat (first | apply Kd.R_alloc | apply Kd.R_drewN | apply Kd.R_drew)); exact HO_12.out, by repeat (first | (with_reducible first | exact HB.out | apply below_alloc | apply pw_below_drewN | apply below_drew1) | exact HB.out)⟩
   ·rw [if_neg c8] at H
    exact absurd H (by simp)
  ·rw [if_neg c7] at H
   exact absurd H (by simp)
 ·rw [if_neg c6] at H
  exact absurd H (by simp)

/-! ### tipstaffref33_Of: function 16 -/
def tipstaffref33_Of.f (k : Nat) (a0 : Int) (l1 : List Int) (l2 : List (S38)) : Option (Int × List Int × Int) := (tipstaffref33_asks.f k a0 l1 l2).bind fun t224 => (if t224 = 0 then ((tipstaffref33_of.f k a0 l1 l2 0 1099511627777).bind fun bt225 => (some (bt225.1, bt225.2, 0))) else (some (0, ([] : List Int), t224)))
theorem tipstaffref33_Of.mono : ∀ a0 a1 a2 k, LeO (tipstaffref33_Of.f k a0 a1 a2) (tipstaffref33_Of.f (k + 1) a0 a1 a2) := by
  intro a0 a1 a2 k
  unfold tipstaffref33_Of.f
  repeat' first
      | (with_reducible exact tipstaffref33_asks.mono _ _ _ _)
      | (with_reducible exact tipstaffref33_of.mono _ _ _ _ _ _)
      | (with_reducible exact LeO.refl _)
      | (with_reducible exact LeO.none _)
      | (with_reducible refine LeO.ite ?_ ?_)
      | (with_reducible refine LeO.bind ?_ (fun _ => ?_))
      | exact tipstaffref33_asks.mono _ _ _ _
      | exact tipstaffref33_of.mono _ _ _ _ _ _
      | exact LeO.none _
      | refine LeO.ite ?_ ?_
      | refine LeO.bind ?_ (fun _ => ?_)
set_option maxHeartbeats 8000000 in
set_option maxRecDepth 100000 in
theorem tipstaffref33_Of.calls (k : Nat) (a0 : Int) (A1 : Option Addr) (c1 : Nat) (l1 : List Int) (A2 : Option Addr) (c2 : Nat) (l2 : List (S38)) (r1 : Int) (r2 : List Int) (r3 : Int) (w : World) (hr1 : Kd.C (Kd.int .i64) w A1 l1.length l1) (hc1 : l1.length ≤ c1) (hr2 : Kd.C k38 w A2 l2.length l2) (hc2 : l2.length ≤ c2) (h : tipstaffref33_Of.f k a0 l1 l2 = some (r1, r2, r3)) :
    Calls Tryd.prog 16 #[.int .i64 a0, .slice A1 l1.length c1, .slice A2 l2.length c2] w fun e w' => ∃ v1_ : Value, e = .returned (.tuple #[.int .i64 r1, v1_, .int .i64 r3]) ∧ Kd.R (Kd.int .i64) 3 w' w.heap.size (fun _ => True) v1_ r2 ∧ Below w.heap.size w w' := by
  have HR1 := Aside0.mk hr1
  have HC1 := Aside0.mk hc1
  clear hr1 hc1
  have HR2 := Aside0.mk hr2
  have HC2 := Aside0.mk hc2
  clear hr2 hc2
  have HB := Aside0.mk (Below.refl w.heap.size w)
  have H : ((tipstaffref33_asks.f k a0 l1 l2).bind fun t224 => (if t224 = 0 then ((tipstaffref33_of.f k a0 l1 l2 0 1099511627777).bind fun bt225 => (some (bt225.1, bt225.2, 0))) else (some (0, ([] : List Int), t224)))) = some (r1, r2, r3) := h
  clear h
  replace H := Option.bind_eq_some_iff.mp H
  obtain ⟨t224, A40, H⟩ := H
  replace H : (if t224 = 0 then ((tipstaffref33_of.f k a0 l1 l2 0 1099511627777).bind fun bt225 => (some (bt225.1, bt225.2, 0))) else (some (0, ([] : List Int), t224))) = some (r1, r2, r3) := H
  have A4 := Aside0.mk A40
  clear A40
  by_cases c5 : t224 = 0
  · rw [if_pos c5] at H
    have c5b0 : (t224 == 0) = true := beq_iff_eq.mpr c5
    have c5b1 : (t224 != 0) = false := bne_eq_false_iff_eq.mpr c5
    clear c5
    replace H := Option.bind_eq_some_iff.mp H
    obtain ⟨⟨t225, t226⟩, A60, H⟩ := H
    replace H : (some (t225, t226, 0)) = some (r1, r2, r3) := H
    have A6 := Aside0.mk A60
    clear A60
    simp only [Option.some.injEq, Prod.mk.injEq] at H
    obtain ⟨rfl, rfl, rfl⟩ := H
    go_enter Tryd.func16, Tryd.ntmps16
    go_wp2_with (first | ((with_reducible refine gate_callee (f := 40) rfl ?_); refine goesL_ (some 15) rfl rfl Tryd.func40 (by kernel_rfl) rfl #[.int .i64 a0, .slice A1 l1.length c1, .slice A2 l2.length c2] rfl (by (try simp only [List.map_toArray, List.map_cons, List.map_nil]); first | done | rfl | (simp only [List.length_drop, List.length_take]; rfl)) ?_; (with_reducible refine (tipstaffref33_asks.calls k a0 _ _ l1 _ _ l2 t224 _ ?side1 ?side2 ?side3 ?side4 A4.out).mono ?_); (case side1 => repeat (first | exact HR1.out | (with_reducible refine Kd.C_alloc ?_ _) | (with_reducible refine Kd.C_drewN ?_ _) | (with_reducible refine Kd.C_drew ?_))); (case side2 => exact HC1.out); (case side3 => repeat (first | exact HR2.out | (with_reducible refine Kd.C_alloc ?_ _) | (with_reducible refine Kd.C_drewN ?_ _) | (with_reducible refine Kd.C_drew ?_))); (case side4 => exact HC2.out); rintro e w7 ⟨rfl, hb⟩; refine ⟨_, rfl, ?_⟩; have n0_ := Aside0.mk (below_step (by repeat (first | (with_reducible first | exact HB.out | apply below_alloc | apply pw_below_drewN | apply below_drew1) | exact HB.out)) hb); clear HB; have HB := n0_; clear n0_; (try clear hb); (try clear hb2); (try clear hk); (try clear hi)) | ((with_reducible refine gate_callee (f := 41) rfl ?_); refine goesL_ (some 23) rfl rfl Tryd.func41 (by kernel_rfl) rfl #[.int .i64 a0, .slice A1 l1.length c1, .slice A2 l2.length c2, .int .i64 0, .int .i64 1099511627777] rfl (by (try simp only [List.map_toArray, List.map_cons, List.map_nil]); first | done | rfl | (simp only [List.length_drop, List.length_take]; rfl)) ?_; (with_reducible refine (tipstaffref33_of.calls k a0 _ _ l1 _ _ l2 0 1099511627777 t225 t226 _ ?side1 ?side2 ?side3 ?side4 A6.out).mono ?_); (case side1 => repeat (first | exact (Kd.C_below HR1.out HB.out) | (with_reducible refine Kd.C_alloc ?_ _) | (with_reducible refine Kd.C_drewN ?_ _) | (with_reducible refine Kd.C_drew ?_))); (case side2 => exact HC1.out); (case side3 => repeat (first | exact (Kd.C_below HR2.out HB.out) | (with_reducible refine Kd.C_alloc ?_ _) | (with_reducible refine Kd.C_drewN ?_ _) | (with_reducible refine Kd.C_drew ?_))); (case side4 => exact HC2.out); rintro e w8 ⟨v227, rfl, ho0, hb⟩; refine ⟨_, rfl, ?_⟩; have n0_ := Aside0.mk (Kd.R_lower ho0 (below_size (by repeat (first | (with_reducible first | exact HB.out | apply below_alloc | apply pw_below_drewN | apply below_drew1) | exact HB.out)))); have n1_ := Aside0.mk (below_step (by repeat (first | (with_reducible first | exact HB.out | apply below_alloc | apply pw_below_drewN | apply below_drew1) | exact HB.out)) hb); clear HB; have HO228 := n0_; have HB := n1_; clear n0_ n1_; (try clear hb); (try clear hb2); (try clear hk); (try clear hi); (try clear ho0)))
    go_ret3
    exact ⟨_, by first | rfl | (simp [errW_none, errW_some] <;> rfl) | (simp [*, errW_none, errW_some] <;> rfl) | (simp (discharger := omega) only [Int.tdiv_eq_ediv_of_nonneg, Int.tmod_eq_emod_of_nonneg] <;> rfl), by (with_reducible repeat (first | apply Kd.R_alloc | apply Kd.R_drewN | apply Kd.R_drew)); exact HO228.out, by repeat (first | (with_reducible first | exact HB.out | apply below_alloc | apply pw_below_drewN | apply below_drew1) | exact HB.out)⟩
  · rw [if_neg c5] at H
    have c5b0 : (t224 == 0) = false := beq_eq_false_iff_ne.mpr c5
    have c5b1 : (t224 != 0) = true := bne_iff_ne.mpr c5
    simp only [Option.some.injEq, Prod.mk.injEq] at H
    obtain ⟨rfl, rfl, rfl⟩ := H
    go_enter Tryd.func16, Tryd.ntmps16
    go_wp2_with (first | ((with_reducible refine gate_callee (f := 40) rfl ?_); refine goesL_ (some 15) rfl rfl Tryd.func40 (by kernel_rfl) rfl #[.int .i64 a0, .slice A1 l1.length c1, .slice A2 l2.length c2] rfl (by (try simp only [List.map_toArray, List.map_cons, List.map_nil]); first | done | rfl | (simp only [List.length_drop, List.length_take]; rfl)) ?_; (with_reducible refine (tipstaffref33_asks.calls k a0 _ _ l1 _ _ l2 t224 _ ?side1 ?side2 ?side3 ?side4 A4.out).mono ?_); (case side1 => repeat (first | exact HR1.out | (with_reducible refine Kd.C_alloc ?_ _) | (with_reducible refine Kd.C_drewN ?_ _) | (with_reducible refine Kd.C_drew ?_))); (case side2 => exact HC1.out); (case side3 => repeat (first | exact HR2.out | (with_reducible refine Kd.C_alloc ?_ _) | (with_reducible refine Kd.C_drewN ?_ _) | (with_reducible refine Kd.C_drew ?_))); (case side4 => exact HC2.out); rintro e w9 ⟨rfl, hb⟩; refine ⟨_, rfl, ?_⟩; have n0_ := Aside0.mk (below_step (by repeat (first | (with_reducible first | exact HB.out | apply below_alloc | apply pw_below_drewN | apply below_drew1) | exact HB.out)) hb); clear HB; have HB := n0_; clear n0_; (try clear hb); (try clear hb2); (try clear hk); (try clear hi)))
    go_ret3
    exact ⟨_, by first | rfl | (simp [errW_none, errW_some] <;> rfl) | (simp [*, errW_none, errW_some] <;> rfl) | (simp (discharger := omega) only [Int.tdiv_eq_ediv_of_nonneg, Int.tmod_eq_emod_of_nonneg] <;> rfl), by first | exact Kd.R_nil _ _ _ _ _ | exact Kd.N_nil _ _ _ _ _ | exact Kd.V_nil _ _ _ _ _ | exact Kd.Q_nil _ _ _ _ _ | exact Kd.S_nil _ _ _ _ _, by repeat (first | (with_reducible first | exact HB.out | apply below_alloc | apply pw_below_drewN | apply below_drew1) | exact HB.out)⟩

end Go.Proofs.YtbcmlgbhejcjbaaDoor.S
