/- phase.Count, walked: how many ticks of a part lie between two; a bound method is called through a generic function. -/
import Derived.Outline
import Derived.RangeFuncBox
import Derived.RangeFuncNested
import Derived.Test.YtlfeiadmkoocgaaHof
import Derived.Test.YtlfeiadmkoocgaaS2
namespace Go.Proofs.Ytlfeiadmkoocgaa.S
open Go.RowKit Go.Proofs.YtlfeiadmkoocgaaW.PrintWords Go.Proofs.YtlfeiadmkoocgaaW.PrintLast Go.Proofs.YtlfeiadmkoocgaaW.PrintMore
set_option linter.unusedVariables false
set_option linter.unusedSimpArgs false

attribute [local go_sem] Go.Proofs.YtlfeiadmkoocgaaW.PrintXtra.isSome_setCell max2_int min2_int max_two min_two max_three min_three max_four min_four

/-- Whole and some, piece by piece. -/
def befL (part u : Int) : List S57 → Int → Int → Int × Int
  | [], a, b => (a, b)
  | x :: xs, a, b => if x.f0 = part then befL part u xs (wrap64 (a + x.f3)) (wrap64 (b + mn (mx (wrap64 (u - x.f2)) 0) x.f3)) else befL part u xs a b
def beforeF (l : List S57) (slot part tick : Int) : Option Int :=
  if 0 < slot ∧ 0 ≤ tick ∧ tick ≤ 1099511627776 ∧ l.length ≤ 1000000 then some (wrap64 (wrap64 (wrap64 (tick / slot) * (befL part (tick % slot) l 0 0).1) + (befL part (tick % slot) l 0 0).2)) else none

theorem rd_T57_drop (l : List S57) (i : Nat) (h : i < l.length) : l.drop i = rd_T57 l (i : Int) :: l.drop (i + 1) := by
  unfold rd_T57; simp [h]

set_option maxHeartbeats 2000000 in
set_option maxRecDepth 100000 in
theorem before_any (a b c d e part : Int) (A : Option Addr) (cap : Nat) (l : List S57) (tick r : Int) (w : World) (hC : Kd.C k57 w A l.length l) (h : beforeF l d part tick = some r) :
    Calls Try.prog 51 #[.agg #[.int .i64 a, .int .i64 b, .int .i64 c, .int .i64 d, .int .i64 e, .slice A l.length cap, .int .i64 part], .int .i64 tick] w fun e w' => e = .returned (.int .i64 r) ∧ Below w.heap.size w w' := by
  have hu := Try.underlying23
  have hu65 := Try.underlying65
  have hu57 := Try.underlying57
  unfold beforeF at h
  by_cases hc : 0 < d ∧ 0 ≤ tick ∧ tick ≤ 1099511627776 ∧ l.length ≤ 1000000
  · rw [if_pos hc] at h
    have H := Aside0.mk (Option.some.inj h)
    have HC := Aside0.mk hC
    clear h hC
    obtain ⟨hd, ht0, ht1, hl⟩ := hc
    go_enter Try.func51, Try.ntmps51
    go_wp2_with fail
    obtain ⟨wd, hwd⟩ : ∃ wd, w.alloc (.cells #[.int .i64 a, .int .i64 b, .int .i64 c, .int .i64 d, .int .i64 e, .slice A l.length cap, .int .i64 part] 65) = wd := ⟨_, rfl⟩
    have hK : wd.heap[w.heap.size]? = some (.cells #[.int .i64 a, .int .i64 b, .int .i64 c, .int .i64 d, .int .i64 e, .slice A l.length cap, .int .i64 part] 65 (0, 0)) := by rw [← hwd]; exact heap_alloc_new w _
    have hBd : Below w.heap.size w wd := by rw [← hwd]; exact (Below.refl _ w).alloc (Nat.le_refl _) _
    rw [hwd]
    have HK := Aside0.mk hK
    have HBd := Aside0.mk hBd
    clear hwd hK hBd
    go_loopw [5, 6, 12] (fun v5 v6 v12 wr => ∃ (i : Nat) (x y : Int), v12 = .int .i64 i ∧ v5 = .int .i64 x ∧ v6 = .int .i64 y ∧ i ≤ l.length ∧ Aside0 (befL part (tick % d) (l.drop i) x y = befL part (tick % d) l 0 0) ∧ Aside0 (Below wd.heap.size wd wr)) (fun _ _ v12 _ => l.length - (intOf v12).toNat)
    case atStart => exact ⟨0, 0, 0, rfl, rfl, rfl, by omega, ⟨by simp⟩, ⟨Below.refl _ _⟩⟩
    case round =>
      obtain ⟨i, x, y, rfl, rfl, rfl, hi, hF, hB⟩ := hrel
      have hKr := (hB.out.block _ (blk_lt HK.out)).trans HK.out
      have HKr := Aside0.mk hKr
      by_cases hlt : i < l.length
      · obtain ⟨ad, e1, x0, x1, x2, x3⟩ := at_T57 (Kd.C_below HC.out (HBd.out.trans (hB.out.mono HBd.out.size))) (i : Int) (by omega) (by omega)
        cases e1
        rw [Int.toNat_natCast] at x0 x1 x2 x3
        have hF2 := hF.out
        rw [rd_T57_drop l i hlt, befL] at hF2
        obtain ⟨q, hq⟩ : ∃ q, rd_T57 l (i : Int) = q := ⟨_, rfl⟩
        rw [hq] at hF2 x0 x1 x2 x3
        have k3 : ∀ o, (wr.alloc o).cell? ⟨w.heap.size, 3, none⟩ = some (.int .i64 d) := fun o => (blk_cell (blk_alloc hKr o) 3).trans rfl
        have k6 : ∀ o, (wr.alloc o).cell? ⟨w.heap.size, 6, none⟩ = some (.int .i64 part) := fun o => (blk_cell (blk_alloc hKr o) 6).trans rfl
        clear hF hKr hq
        by_cases hp : q.f0 = part
        · rw [if_pos hp] at hF2
          have HF2 := Aside0.mk hF2
          have b0 : (q.f0 == part) = true := by rw [beq_iff_eq]; exact hp
          have z5 : ¬ d = 0 := by omega
          have z2 : Int.tmod tick d = tick % d := Int.tmod_eq_emod_of_nonneg ht0
          clear hF2 hp
          go_wp2_with fail
          obtain ⟨wy, hwy⟩ : ∃ wy, wr.alloc (.cells #[.int .i64 q.f0, .int .i64 q.f1, .int .i64 q.f2, .int .i64 q.f3] 57) = wy := ⟨_, rfl⟩
          have hY : wy.heap[wr.heap.size]? = some (.cells #[.int .i64 q.f0, .int .i64 q.f1, .int .i64 q.f2, .int .i64 q.f3] 57 (0, 0)) := by rw [← hwy]; exact heap_alloc_new wr _
          have hBy : Below wd.heap.size wd wy := by rw [← hwy]; exact below_alloc hB.out _
          have k3 := k3 (.cells #[.int .i64 q.f0, .int .i64 q.f1, .int .i64 q.f2, .int .i64 q.f3] 57)
          obtain ⟨gy, hgy⟩ : ∃ gy, wr.heap.size = gy := ⟨_, rfl⟩
          rw [hwy] at k3
          rw [hgy] at hY
          rw [hwy, hgy]
          have y2 : wy.cell? ⟨gy, 2, none⟩ = some (.int .i64 q.f2) := (blk_cell hY 2).trans rfl
          have y3 : wy.cell? ⟨gy, 3, none⟩ = some (.int .i64 q.f3) := (blk_cell hY 3).trans rfl
          have HBy := Aside0.mk hBy
          clear hwy hY hBy hgy hB k6 x0 x1 x2 x3
          -- REGION7
          refine start_ (n := 15) (S := fun w' => w'.cell? ⟨w.heap.size, 3, none⟩ = some (.int .i64 d) ∧ w'.cell? ⟨gy, 2, none⟩ = some (.int .i64 q.f2) ∧ w'.cell? ⟨gy, 3, none⟩ = some (.int .i64 q.f3)) (ds := []) #[false, false, false, false, false, false, false, false, false, false, false, false, false, false, false] (by kernel_rfl) rfl rfl ⟨k3, y2, y3⟩ (fun hHeld => ?_)
          refine pure_ (i := 0) (N := some 25) (v := ?_) (a' := ?_) #[true, false, false, false, false, false, false, false, false, false, false, false, false, false, false] rfl rfl (by kernel_rfl) (fun _ _ _ h => h) (Or.inl ⟨by rfl, ?_⟩) ?_ ?_
          rotate_left
          · intro w'
            go_simp
            with_reducible rfl
          rotate_left
          · simp only [Act.put, List.setIfInBounds_toArray, List.set_cons_zero, List.set_cons_succ, i64_w, i32_w]
            rfl
          refine pure_ (i := 1) (N := some 26) (v := ?_) (a' := ?_) #[true, true, false, false, false, false, false, false, false, false, false, false, false, false, false] rfl rfl (by kernel_rfl) (fun _ _ _ h => h) (Or.inl ⟨by rfl, ?_⟩) ?_ ?_
          rotate_left
          · intro w'
            go_simp
            with_reducible rfl
          rotate_left
          · simp only [Act.put, List.setIfInBounds_toArray, List.set_cons_zero, List.set_cons_succ, i64_w, i32_w]
            rfl
          refine pure_ (i := 2) (N := some 27) (v := ?_) (a' := ?_) #[true, true, true, false, false, false, false, false, false, false, false, false, false, false, false] rfl rfl (by kernel_rfl) (fun _ _ _ h => h) (Or.inl ⟨by rfl, ?_⟩) ?_ ?_
          rotate_left
          · intro w'
            go_simp
            with_reducible rfl
          rotate_left
          · simp only [Act.put, List.setIfInBounds_toArray, List.set_cons_zero, List.set_cons_succ, i64_w, i32_w]
            rfl
          refine pure_ (i := 3) (N := some 28) (v := ?_) (a' := ?_) #[true, true, true, true, false, false, false, false, false, false, false, false, false, false, false] rfl rfl (by kernel_rfl) (fun _ _ _ h => h) (Or.inl ⟨by rfl, ?_⟩) ?_ ?_
          rotate_left
          · intro w'
            go_simp
            with_reducible rfl
          rotate_left
          · simp only [Act.put, List.setIfInBounds_toArray, List.set_cons_zero, List.set_cons_succ, i64_w, i32_w]
            rfl
          refine pure_ (i := 6) (N := some 31) (v := ?_) (a' := ?_) #[true, true, true, true, false, false, true, false, false, false, false, false, false, false, false] rfl rfl (by kernel_rfl) (fun _ _ _ h => h) (Or.inl ⟨by rfl, ?_⟩) ?_ ?_
          rotate_left
          · intro w'
            go_simp
            with_reducible rfl
          rotate_left
          · simp only [Act.put, List.setIfInBounds_toArray, List.set_cons_zero, List.set_cons_succ, i64_w, i32_w]
            rfl
          refine pure_ (i := 10) (N := some 35) (v := ?_) (a' := ?_) #[true, true, true, true, false, false, true, false, false, false, true, false, false, false, false] rfl rfl (by kernel_rfl) (fun _ _ _ h => h) (Or.inl ⟨by rfl, ?_⟩) ?_ ?_
          rotate_left
          · intro w'
            go_simp
            with_reducible rfl
          rotate_left
          · simp only [Act.put, List.setIfInBounds_toArray, List.set_cons_zero, List.set_cons_succ, i64_w, i32_w]
            rfl
          refine take_ (i := 4) (N := some 29) (v := ?_) (a' := ?_) #[true, true, true, true, true, false, true, false, false, false, true, false, false, false, false] rfl rfl (by kernel_rfl) (fun _ _ _ h => h) (Or.inl ⟨by rfl, ?_⟩) hHeld ?_ ?_
          rotate_left
          · rintro w' ⟨s0, s1, s2⟩
            go_simp
            with_reducible rfl
          rotate_left
          · simp only [Act.put, List.setIfInBounds_toArray, List.set_cons_zero, List.set_cons_succ, i64_w, i32_w]
            rfl
          refine pure_ (i := 5) (N := some 30) (v := ?_) (a' := ?_) #[true, true, true, true, true, true, true, false, false, false, true, false, false, false, false] rfl rfl (by kernel_rfl) (fun _ _ _ h => h) (Or.inl ⟨by rfl, ?_⟩) ?_ ?_
          rotate_left
          · intro w'
            go_simp
            with_reducible rfl
          rotate_left
          · simp only [Act.put, List.setIfInBounds_toArray, List.set_cons_zero, List.set_cons_succ, i64_w, i32_w]
            rfl
          refine take_ (i := 7) (N := some 32) (v := ?_) (a' := ?_) #[true, true, true, true, true, true, true, true, false, false, true, false, false, false, false] rfl rfl (by kernel_rfl) (fun _ _ _ h => h) (Or.inl ⟨by rfl, ?_⟩) hHeld ?_ ?_
          rotate_left
          · rintro w' ⟨s0, s1, s2⟩
            go_simp
            with_reducible rfl
          rotate_left
          · simp only [Act.put, List.setIfInBounds_toArray, List.set_cons_zero, List.set_cons_succ, i64_w, i32_w]
            rfl
          refine pure_ (i := 8) (N := some 33) (v := ?_) (a' := ?_) #[true, true, true, true, true, true, true, true, true, false, true, false, false, false, false] rfl rfl (by kernel_rfl) (fun _ _ _ h => h) (Or.inl ⟨by rfl, ?_⟩) ?_ ?_
          rotate_left
          · intro w'
            go_simp
            with_reducible rfl
          rotate_left
          · simp only [Act.put, List.setIfInBounds_toArray, List.set_cons_zero, List.set_cons_succ, i64_w, i32_w]
            rfl
          refine pure_ (i := 9) (N := some 34) (v := ?_) (a' := ?_) #[true, true, true, true, true, true, true, true, true, true, true, false, false, false, false] rfl rfl (by kernel_rfl) (fun _ _ _ h => h) (Or.inl ⟨by rfl, ?_⟩) ?_ ?_
          rotate_left
          · intro w'
            go_simp
            with_reducible rfl
          rotate_left
          · simp only [Act.put, List.setIfInBounds_toArray, List.set_cons_zero, List.set_cons_succ, i64_w, i32_w]
            rfl
          refine take_ (i := 11) (N := some 36) (v := ?_) (a' := ?_) #[true, true, true, true, true, true, true, true, true, true, true, true, false, false, false] rfl rfl (by kernel_rfl) (fun _ _ _ h => h) (Or.inl ⟨by rfl, ?_⟩) hHeld ?_ ?_
          rotate_left
          · rintro w' ⟨s0, s1, s2⟩
            go_simp
            with_reducible rfl
          rotate_left
          · simp only [Act.put, List.setIfInBounds_toArray, List.set_cons_zero, List.set_cons_succ, i64_w, i32_w]
            rfl
          refine pure_ (i := 12) (N := some 37) (v := ?_) (a' := ?_) #[true, true, true, true, true, true, true, true, true, true, true, true, true, false, false] rfl rfl (by kernel_rfl) (fun _ _ _ h => h) (Or.inl ⟨by rfl, ?_⟩) ?_ ?_
          rotate_left
          · intro w'
            go_simp
            with_reducible rfl
          rotate_left
          · simp only [Act.put, List.setIfInBounds_toArray, List.set_cons_zero, List.set_cons_succ, i64_w, i32_w]
            rfl
          refine pure_ (i := 13) (N := some 38) (v := ?_) (a' := ?_) #[true, true, true, true, true, true, true, true, true, true, true, true, true, true, false] rfl rfl (by kernel_rfl) (fun _ _ _ h => h) (Or.inl ⟨by rfl, ?_⟩) ?_ ?_
          rotate_left
          · intro w'
            go_simp
            with_reducible rfl
          rotate_left
          · simp only [Act.put, List.setIfInBounds_toArray, List.set_cons_zero, List.set_cons_succ, i64_w, i32_w]
            rfl
          refine pure_ (i := 14) (N := some 6) (v := ?_) (a' := ?_) #[true, true, true, true, true, true, true, true, true, true, true, true, true, true, true] rfl rfl (by kernel_rfl) (fun _ _ _ h => h) (Or.inl ⟨by rfl, ?_⟩) ?_ ?_
          rotate_left
          · intro w'
            go_simp
            with_reducible rfl
          rotate_left
          · simp only [Act.put, List.setIfInBounds_toArray, List.set_cons_zero, List.set_cons_succ, i64_w, i32_w]
            rfl
          refine done_ (by kernel_rfl) ?_
          -- END7
          (try simp only [Exit.inBlock, Exit.then])
          go_wp2_with fail
          go_roundw
          case rel => exact ⟨i + 1, _, _, by simp, rfl, rfl, by omega, HF2, ⟨by repeat (first | exact HBy.out | apply below_drew1 | apply pw_below_drewN)⟩⟩
          case measure => simp [intOf]; omega
        · rw [if_neg hp] at hF2
          have HF2 := Aside0.mk hF2
          have b0 : (q.f0 == part) = false := by rw [beq_eq_false_iff_ne]; exact hp
          clear hF2 hp
          go_wp2_with fail
          go_roundw
          case rel => exact ⟨i + 1, _, _, by simp, rfl, rfl, by omega, HF2, ⟨below_alloc hB.out _⟩⟩
          case measure => simp [intOf]; omega
      · have k3 : wr.cell? ⟨w.heap.size, 3, none⟩ = some (.int .i64 d) := (blk_cell hKr 3).trans rfl
        have z5 : ¬ d = 0 := by omega
        have z3 : Int.tdiv tick d = tick / d := Int.tdiv_eq_ediv_of_nonneg ht0
        have hF2 := hF.out
        rw [List.drop_eq_nil_of_le (by omega), befL] at hF2
        have HF2 := Aside0.mk hF2
        clear hF2 hF hKr
        go_wp2_with fail
        go_ret
        refine ⟨?_, HBd.out.trans (hB.out.mono HBd.out.size)⟩
        rw [← H.out, ← HF2.out]
        rfl
  · rw [if_neg hc] at h; cases h

set_option maxHeartbeats 1000000 in
set_option maxRecDepth 100000 in
theorem between_any (cv : Value) (x y rx ry : Int) (w : World) (hy : ∀ W, Below w.heap.size w W → Calls Try.prog 51 #[cv, .int .i64 y] W fun e w' => e = .returned (.int .i64 ry) ∧ Below W.heap.size W w')
    (hx : ∀ W, Below w.heap.size w W → Calls Try.prog 51 #[cv, .int .i64 x] W fun e w' => e = .returned (.int .i64 rx) ∧ Below W.heap.size W w') :
    Calls Try.prog 50 #[.func (.func 51) #[cv] #[], .int .i64 x, .int .i64 y] w fun e w' => e = .returned (.int .i64 (wrap64 (ry - rx))) ∧ Below w.heap.size w w' := by
  have HX := Aside0.mk hx
  have HY := Aside0.mk hy
  clear hx hy
  go_enter Try.func50, Try.ntmps50
  go_wp2_with fail
  refine (HY.out _ (Below.refl _ _)).mono ?_
  rintro e w1 ⟨rfl, hb1⟩
  go_wp2_with fail
  refine (HX.out _ hb1).mono ?_
  rintro e w2 ⟨rfl, hb2⟩
  go_wp2
  go_ret
  exact ⟨rfl, hb1.trans (hb2.mono hb1.size)⟩

end Go.Proofs.Ytlfeiadmkoocgaa.S
