/- phase.Of, walked: the phase of a tick, found by sort.Search over the parts. -/
import Derived.Outline
import Derived.RangeFuncBox
import Derived.RangeFuncNested
import Derived.Test.YtlfeiadmkoocgaaHsearch
import Derived.Test.YtlfeiadmkoocgaaHpieces
import Derived.Test.YtlfeiadmkoocgaaS7
import Derived.Test.YtlfeiadmkoocgaaS2
namespace Go.Proofs.Ytlfeiadmkoocgaa.S
open Go.RowKit Go.Proofs.YtlfeiadmkoocgaaW.PrintWords Go.Proofs.YtlfeiadmkoocgaaW.PrintLast Go.Proofs.YtlfeiadmkoocgaaW.PrintMore
set_option linter.unusedVariables false
set_option linter.unusedSimpArgs false

/-- Does the i-th part begin behind a tick? -/
def laterQ (l : List S57) (u : Int) (i : Int) : Option Bool := if 0 ≤ i ∧ i < l.length then some (decide ((rd_T57 l i).f2 > u)) else none
/-- The part that is found: it exists. -/
def foundP (l : List S57) (u : Int) : Option S57 := (searchF (laterQ l u) 64 0 l.length).bind fun r => if 1 ≤ r ∧ r ≤ l.length ∧ l.length ≤ 1000000 then some (rd_T57 l (r - 1)) else none
def phase_Of.f (k : Nat) (a0_0 a0_1 a0_2 a0_3 a0_4 a1 : Int) : Option (Int × Int × Int × Int × Int) :=
  (phase_ticks.f k a0_0 a0_1 a0_2 a0_3 a0_4 a1).bind fun e => if e = 0 then
    (phase_trips.f a0_0 a0_1 a0_2 a0_3 a0_4).bind fun n => (phase_pieces.f a0_0 a0_1 a0_2 a0_3 a0_4 n).bind fun l =>
      if 0 < a0_3 ∧ 0 ≤ a1 ∧ a1 ≤ 1099511627776 then (foundP l (a1 % a0_3)).bind fun p => some (wrap64 (a1 / a0_3), p.f0, p.f1, wrap64 (a1 % a0_3 - p.f2), 0) else none
    else some (0, 0, 0, 0, e)
theorem phase_Of.mono : ∀ a0_0 a0_1 a0_2 a0_3 a0_4 a1 k, LeO (phase_Of.f k a0_0 a0_1 a0_2 a0_3 a0_4 a1) (phase_Of.f (k + 1) a0_0 a0_1 a0_2 a0_3 a0_4 a1) := fun a0_0 a0_1 a0_2 a0_3 a0_4 a1 k =>
  LeO.bind (phase_ticks.mono a0_0 a0_1 a0_2 a0_3 a0_4 a1 k) (fun _ => LeO.refl _)

set_option maxHeartbeats 1000000 in
set_option maxRecDepth 100000 in
theorem later_any (l : List S57) (u i : Int) (b : Bool) (A : Option Addr) (c Bl Bu : Nat) (w : World) (hl : Boxed w Bl 53 (.slice A l.length c)) (hu : Boxed w Bu 3 (.int .i64 u)) (hC : Kd.C k57 w A l.length l) (h : laterQ l u i = some b) :
    Calls Try.prog 47 #[.int .i64 i, .pointer (some ⟨Bl, 0, none⟩), .pointer (some ⟨Bu, 0, none⟩)] w fun e w' => e = .returned (.bool b) ∧ Below w.heap.size w w' := by
  unfold laterQ at h
  by_cases hi : 0 ≤ i ∧ i < l.length
  · rw [if_pos hi] at h
    obtain ⟨h0, h1⟩ := hi
    have HB := Aside0.mk (Option.some.inj h)
    clear h
    have hu57 := Try.underlying57
    have cl := hl.cell
    have cu := hu.cell
    obtain ⟨ad, e1, x0, x1, x2, x3⟩ := at_T57 hC i h0 h1
    cases e1
    clear x0 x1 x3
    go_enter Try.func47, Try.ntmps47
    go_wp2
    go_region
    all_goals
      go_wp2
      go_ret
      exact ⟨by rw [← HB.out]; rfl, by repeat (first | exact Below.refl _ _ | apply below_drew1)⟩
  · rw [if_neg hi] at h; cases h

theorem ticks_any (k : Nat) (a b c d e x r : Int) (h : phase_ticks.f k a b c d e x = some r) (w : World) : Calls Try.prog 45 #[.agg #[.int .i64 a, .int .i64 b, .int .i64 c, .int .i64 d, .int .i64 e], .int .i64 x] w fun e w' => e = .returned (.int .i64 r) ∧ Below w.heap.size w w' := phase_ticks.calls k a b c d e x r w h
theorem trips_any (a b c d e r : Int) (h : phase_trips.f a b c d e = some r) (w : World) : Calls Try.prog 39 #[.agg #[.int .i64 a, .int .i64 b, .int .i64 c, .int .i64 d, .int .i64 e]] w fun e w' => e = .returned (.int .i64 r) ∧ Below w.heap.size w w' := phase_trips.calls a b c d e r w h

theorem TB.below {w w' : World} {B n : Nat} {a b c d e : Int} (h : TB w B a b c d e) (hb : Below n w w') (hn : B < n) : TB w' B a b c d e := (hb.block B hn).trans h
theorem TB.lt {w : World} {B : Nat} {a b c d e : Int} (h : TB w B a b c d e) : B < w.heap.size := (Array.getElem?_eq_some_iff.1 h).1

/-- The block of a Phase. -/
def PB (w : World) (B : Nat) (a b c d : Int) : Prop := w.heap[B]? = some (.cells #[.int .i64 a, .int .i64 b, .int .i64 c, .int .i64 d] 25 (0, 0))
theorem PB.c0 {w : World} {B : Nat} {a b c d : Int} (h : PB w B a b c d) : w.cell? ⟨B, 0, none⟩ = some (.int .i64 a) := (blk_cell h 0).trans rfl
theorem PB.c1 {w : World} {B : Nat} {a b c d : Int} (h : PB w B a b c d) : w.cell? ⟨B, 1, none⟩ = some (.int .i64 b) := (blk_cell h 1).trans rfl
theorem PB.c2 {w : World} {B : Nat} {a b c d : Int} (h : PB w B a b c d) : w.cell? ⟨B, 2, none⟩ = some (.int .i64 c) := (blk_cell h 2).trans rfl
theorem PB.c3 {w : World} {B : Nat} {a b c d : Int} (h : PB w B a b c d) : w.cell? ⟨B, 3, none⟩ = some (.int .i64 d) := (blk_cell h 3).trans rfl
theorem PB.below {w w' : World} {B n : Nat} {a b c d : Int} (h : PB w B a b c d) (hb : Below n w w') (hn : B < n) : PB w' B a b c d := (hb.block B hn).trans h
theorem PB.lt {w : World} {B : Nat} {a b c d : Int} (h : PB w B a b c d) : B < w.heap.size := (Array.getElem?_eq_some_iff.1 h).1

theorem cell_old (W : World) (x : Value) (t : TypeId) (o : Obj) (n : Nat) (h : W.heap.size = n) : ((W.alloc (.cells #[x] t)).alloc o).cell? ⟨n, 0, none⟩ = some x := by
  subst h; exact ((Boxed.new W t x).alloc o).cell
theorem frozen_old (W : World) (x : Value) (t : TypeId) (o : Obj) (n : Nat) (h : W.heap.size = n) : ((W.alloc (.cells #[x] t)).alloc o).frozen? ⟨n, 0, none⟩ = false := by
  subst h; exact ((Boxed.new W t x).alloc o).frozen

set_option maxHeartbeats 2000000 in
set_option maxRecDepth 100000 in
theorem phase_Of.calls (k : Nat) (a0_0 : Int) (a0_1 : Int) (a0_2 : Int) (a0_3 : Int) (a0_4 : Int) (a1 : Int) (r1 : Int) (r2 : Int) (r3 : Int) (r4 : Int) (r5 : Int) (w : World) (h : phase_Of.f k a0_0 a0_1 a0_2 a0_3 a0_4 a1 = some (r1, r2, r3, r4, r5)) :
    Calls Try.prog 15 #[.agg #[.int .i64 a0_0, .int .i64 a0_1, .int .i64 a0_2, .int .i64 a0_3, .int .i64 a0_4], .int .i64 a1] w fun e w' => e = .returned (.tuple #[.agg #[.int .i64 r1, .int .i64 r2, .int .i64 r3, .int .i64 r4], .int .i64 r5]) ∧ Below w.heap.size w w' := by
  have hu := Try.underlying23
  have hu25 := Try.underlying25
  have hu57 := Try.underlying57
  have hmf : ∀ (fn : Fn) (first cap : Array Value) (w : World), (Instr.makeFunc fn first cap).run Try.prog w = .ok (.func fn first cap) w := fun _ _ _ _ => rfl
  unfold phase_Of.f at h
  obtain ⟨er, he, h⟩ := Option.bind_eq_some_iff.1 h
  have HE := Aside0.mk he
  have H := Aside0.mk h
  clear he h
  go_enter Try.func15, Try.ntmps15
  go_wp2_with fail
  refine (ticks_any k _ _ _ _ _ _ er HE.out _).mono ?_
  rintro e w' ⟨rfl, hb⟩
  obtain ⟨wd, hwd⟩ : ∃ wd, (w.alloc (.cells #[.int .i64 a0_0, .int .i64 a0_1, .int .i64 a0_2, .int .i64 a0_3, .int .i64 a0_4] 23)).alloc (.cells #[.int .i64 0, .int .i64 0, .int .i64 0, .int .i64 0] 25) = wd := ⟨_, rfl⟩
  have hT : TB wd w.heap.size a0_0 a0_1 a0_2 a0_3 a0_4 := by rw [← hwd]; exact blk_alloc (heap_alloc_new w _) _
  have hP : PB wd (w.heap.size + 1) 0 0 0 0 := by rw [← hwd]; have := heap_alloc_new (w.alloc (.cells #[.int .i64 a0_0, .int .i64 a0_1, .int .i64 a0_2, .int .i64 a0_3, .int .i64 a0_4] 23)) (.cells #[.int .i64 0, .int .i64 0, .int .i64 0, .int .i64 0] 25); rw [World.size_alloc] at this; exact this
  have hBd : Below w.heap.size w wd := by rw [← hwd]; exact ((Below.refl _ w).alloc (Nat.le_refl _) _).alloc (by simp) _
  rw [hwd] at hb
  have hT' := hT.below hb hT.lt
  have hP' := hP.below hb hP.lt
  have hB' : Below w.heap.size w w' := hBd.trans (hb.mono hBd.size)
  have HT := Aside0.mk hT'
  have HP := Aside0.mk hP'
  have HB := Aside0.mk hB'
  clear hT hP hBd hb hwd hT' hP' hB'
  by_cases he0 : er = 0
  · have h := H.out
    rw [if_pos he0] at h
    obtain ⟨n, hn, h⟩ := Option.bind_eq_some_iff.1 h
    obtain ⟨l, hl, h⟩ := Option.bind_eq_some_iff.1 h
    by_cases hc : 0 < a0_3 ∧ 0 ≤ a1 ∧ a1 ≤ 1099511627776
    · rw [if_pos hc] at h
      obtain ⟨p, hp, h⟩ := Option.bind_eq_some_iff.1 h
      simp only [Option.some.injEq, Prod.mk.injEq] at h
      obtain ⟨rfl, rfl, rfl, rfl, rfl⟩ := h
      unfold foundP at hp
      obtain ⟨i, hi, hp⟩ := Option.bind_eq_some_iff.1 hp
      by_cases hr : 1 ≤ i ∧ i ≤ l.length ∧ l.length ≤ 1000000
      · obtain ⟨j, rfl⟩ : ∃ j : Nat, i = (j : Int) + 1 := ⟨(i - 1).toNat, by omega⟩
        rw [if_pos hr, show ((j : Int) + 1 - 1) = (j : Int) by omega] at hp
        obtain rfl := Option.some.inj hp
        have n1 : (er != 0) = false := by rw [he0]; rfl
        have z1 : (a0_3 == 0) = false := by rw [beq_eq_false_iff_ne]; omega
        have z4 : (a0_3 != 0) = true := by rw [bne_iff_ne]; omega
        have z5 : ¬ a0_3 = 0 := by omega
        have z2 : Int.tmod a1 a0_3 = a1 % a0_3 := Int.tmod_eq_emod_of_nonneg hc.2.1
        have z3 : Int.tdiv a1 a0_3 = a1 / a0_3 := Int.tdiv_eq_ediv_of_nonneg hc.2.1
        have HN := Aside0.mk hn
        have HL0 := Aside0.mk hl
        have HI := Aside0.mk hi
        have HC := Aside0.mk hc
        have HR := Aside0.mk hr
        clear hn hl hi hc hr hp H HE he0
        have q0 := HT.out.c0
        have q1 := HT.out.c1
        have q2 := HT.out.c2
        have q3 := HT.out.c3
        have q4 := HT.out.c4
        go_wp2_with fail
        -- REGION4
        refine start_ (n := 12) (S := fun w' => w'.cell? ⟨w.heap.size, 0, none⟩ = some (.int .i64 a0_0) ∧ w'.cell? ⟨w.heap.size, 1, none⟩ = some (.int .i64 a0_1) ∧ w'.cell? ⟨w.heap.size, 2, none⟩ = some (.int .i64 a0_2) ∧ w'.cell? ⟨w.heap.size, 3, none⟩ = some (.int .i64 a0_3) ∧ w'.cell? ⟨w.heap.size, 4, none⟩ = some (.int .i64 a0_4)) (ds := []) #[false, false, false, false, false, false, false, false, false, false, false, false] (by kernel_rfl) rfl rfl ⟨(show TB _ _ _ _ _ _ _ from HT.out).c0, (show TB _ _ _ _ _ _ _ from HT.out).c1, (show TB _ _ _ _ _ _ _ from HT.out).c2, (show TB _ _ _ _ _ _ _ from HT.out).c3, (show TB _ _ _ _ _ _ _ from HT.out).c4⟩ (fun hHeld => ?_)
        refine pure_ (i := 4) (N := some 21) (v := ?_) (a' := ?_) #[false, false, false, false, true, false, false, false, false, false, false, false] rfl rfl (by kernel_rfl) (fun _ _ _ h => h) (Or.inl ⟨by rfl, ?_⟩) ?_ ?_
        rotate_left
        · intro w'
          go_simp
          with_reducible rfl
        rotate_left
        · simp only [Act.put, List.setIfInBounds_toArray, List.set_cons_zero, List.set_cons_succ, i64_w, i32_w]
          rfl
        refine pure_ (i := 5) (N := some 22) (v := ?_) (a' := ?_) #[false, false, false, false, true, true, false, false, false, false, false, false] rfl rfl (by kernel_rfl) (fun _ _ _ h => h) (Or.inl ⟨by rfl, ?_⟩) ?_ ?_
        rotate_left
        · intro w'
          go_simp
          with_reducible rfl
        rotate_left
        · simp only [Act.put, List.setIfInBounds_toArray, List.set_cons_zero, List.set_cons_succ, i64_w, i32_w]
          rfl
        refine take_ (i := 0) (N := some 17) (v := ?_) (a' := ?_) #[true, false, false, false, true, true, false, false, false, false, false, false] rfl rfl (by kernel_rfl) (fun _ _ _ h => h) (Or.inl ⟨by rfl, ?_⟩) hHeld ?_ ?_
        rotate_left
        · rintro w' ⟨s0, s1, s2, s3, s4⟩
          go_simp
          with_reducible rfl
        rotate_left
        · simp only [Act.put, List.setIfInBounds_toArray, List.set_cons_zero, List.set_cons_succ, i64_w, i32_w]
          rfl
        refine take_ (i := 1) (N := some 18) (v := ?_) (a' := ?_) #[true, true, false, false, true, true, false, false, false, false, false, false] rfl rfl (by kernel_rfl) (fun _ _ _ h => h) (Or.inl ⟨by rfl, ?_⟩) hHeld ?_ ?_
        rotate_left
        · rintro w' ⟨s0, s1, s2, s3, s4⟩
          go_simp
          with_reducible rfl
        rotate_left
        · simp only [Act.put, List.setIfInBounds_toArray, List.set_cons_zero, List.set_cons_succ, i64_w, i32_w]
          rfl
        refine take_ (i := 6) (N := some 23) (v := ?_) (a' := ?_) #[true, true, false, false, true, true, true, false, false, false, false, false] rfl rfl (by kernel_rfl) (fun _ _ _ h => h) (Or.inl ⟨by rfl, ?_⟩) hHeld ?_ ?_
        rotate_left
        · rintro w' ⟨s0, s1, s2, s3, s4⟩
          go_simp
          with_reducible rfl
        rotate_left
        · simp only [Act.put, List.setIfInBounds_toArray, List.set_cons_zero, List.set_cons_succ, i64_w, i32_w]
          rfl
        refine pure_ (i := 7) (N := some 24) (v := ?_) (a' := ?_) #[true, true, false, false, true, true, true, true, false, false, false, false] rfl rfl (by kernel_rfl) (fun _ _ _ h => h) (Or.inl ⟨by rfl, ?_⟩) ?_ ?_
        rotate_left
        · intro w'
          go_simp
          with_reducible rfl
        rotate_left
        · simp only [Act.put, List.setIfInBounds_toArray, List.set_cons_zero, List.set_cons_succ, i64_w, i32_w]
          rfl
        refine join_ (σ := Nat × Nat × Nat × Nat) 2 #[true, true, true, true, true, true, true, true, true, true, false, false] (fun | (gl, gu, g, cap) => [(19, .int .i64 n), (20, .slice (some ⟨g, 0, none⟩) l.length cap), (7, .pointer (some ⟨gl, 0, none⟩)), (8, .pointer (some ⟨gu, 0, none⟩))]) (fun | (gl, gu, g, cap) => fun w' => Aside0 (TB w' w.heap.size a0_0 a0_1 a0_2 a0_3 a0_4) ∧ Aside0 (PB w' (w.heap.size + 1) 0 0 0 0) ∧ Aside0 (Below w.heap.size w w') ∧ Aside0 (Boxed w' gl 53 (.slice none 0 0)) ∧ Aside0 (w.heap.size < gl ∧ w.heap.size + 1 < gl) ∧ Aside0 (Boxed w' gu 3 (.int .i64 0)) ∧ Aside0 (w.heap.size < gu ∧ w.heap.size + 1 < gu) ∧ Aside0 (gl ≠ gu) ∧ Aside0 (Kd.R k57 57 w' w.heap.size (fun _ => True) (.slice (some ⟨g, 0, none⟩) l.length cap) l)) ?_ ?_
        rotate_left
        · intro hJ2_3_8_9
          refine join_ (σ := Nat × Nat × Nat × Nat) 3 #[true, true, true, true, true, true, true, true, true, false, false, false] (fun | (gl, gu, g, cap) => [(19, .int .i64 n), (20, .slice (some ⟨g, 0, none⟩) l.length cap), (7, .pointer (some ⟨gl, 0, none⟩))]) (fun | (gl, gu, g, cap) => fun w' => Aside0 (TB w' w.heap.size a0_0 a0_1 a0_2 a0_3 a0_4) ∧ Aside0 (PB w' (w.heap.size + 1) 0 0 0 0) ∧ Aside0 (Below w.heap.size w w') ∧ Aside0 (Boxed w' gl 53 (.slice none 0 0)) ∧ Aside0 (w.heap.size < gl ∧ w.heap.size + 1 < gl) ∧ Aside0 (Kd.R k57 57 w' w.heap.size (fun _ => True) (.slice (some ⟨g, 0, none⟩) l.length cap) l)) ?_ ?_
          rotate_left
          · intro hJ2_3_8
            refine join_ (σ := Nat × Nat × Nat × Nat) 3 #[true, true, true, true, true, true, true, true, false, true, false, false] (fun | (gl, gu, g, cap) => [(19, .int .i64 n), (20, .slice (some ⟨g, 0, none⟩) l.length cap), (8, .pointer (some ⟨gu, 0, none⟩))]) (fun | (gl, gu, g, cap) => fun w' => Aside0 (TB w' w.heap.size a0_0 a0_1 a0_2 a0_3 a0_4) ∧ Aside0 (PB w' (w.heap.size + 1) 0 0 0 0) ∧ Aside0 (Below w.heap.size w w') ∧ Aside0 (Boxed w' gu 3 (.int .i64 0)) ∧ Aside0 (w.heap.size < gu ∧ w.heap.size + 1 < gu) ∧ Aside0 (Kd.R k57 57 w' w.heap.size (fun _ => True) (.slice (some ⟨g, 0, none⟩) l.length cap) l)) ?_ ?_
            rotate_left
            · intro hJ2_3_9
              refine join_ (σ := Nat × Nat × Nat × Nat) 3 #[true, true, true, false, true, true, true, true, true, true, false, false] (fun | (gl, gu, g, cap) => [(19, .int .i64 n), (7, .pointer (some ⟨gl, 0, none⟩)), (8, .pointer (some ⟨gu, 0, none⟩))]) (fun | (gl, gu, g, cap) => fun w' => Aside0 (TB w' w.heap.size a0_0 a0_1 a0_2 a0_3 a0_4) ∧ Aside0 (PB w' (w.heap.size + 1) 0 0 0 0) ∧ Aside0 (Below w.heap.size w w') ∧ Aside0 (Boxed w' gl 53 (.slice none 0 0)) ∧ Aside0 (w.heap.size < gl ∧ w.heap.size + 1 < gl) ∧ Aside0 (Boxed w' gu 3 (.int .i64 0)) ∧ Aside0 (w.heap.size < gu ∧ w.heap.size + 1 < gu) ∧ Aside0 (gl ≠ gu)) ?_ ?_
              rotate_left
              · intro hJ2_8_9
                refine join_ (σ := Nat × Nat × Nat × Nat) 4 #[true, true, true, true, true, true, true, true, false, false, false, false] (fun | (gl, gu, g, cap) => [(19, .int .i64 n), (20, .slice (some ⟨g, 0, none⟩) l.length cap)]) (fun | (gl, gu, g, cap) => fun w' => Aside0 (TB w' w.heap.size a0_0 a0_1 a0_2 a0_3 a0_4) ∧ Aside0 (PB w' (w.heap.size + 1) 0 0 0 0) ∧ Aside0 (Below w.heap.size w w') ∧ Aside0 (Kd.R k57 57 w' w.heap.size (fun _ => True) (.slice (some ⟨g, 0, none⟩) l.length cap) l)) ?_ ?_
                rotate_left
                · intro hJ2_3
                  refine join_ (σ := Nat × Nat × Nat × Nat) 4 #[true, true, true, false, true, true, true, true, true, false, false, false] (fun | (gl, gu, g, cap) => [(19, .int .i64 n), (7, .pointer (some ⟨gl, 0, none⟩))]) (fun | (gl, gu, g, cap) => fun w' => Aside0 (TB w' w.heap.size a0_0 a0_1 a0_2 a0_3 a0_4) ∧ Aside0 (PB w' (w.heap.size + 1) 0 0 0 0) ∧ Aside0 (Below w.heap.size w w') ∧ Aside0 (Boxed w' gl 53 (.slice none 0 0)) ∧ Aside0 (w.heap.size < gl ∧ w.heap.size + 1 < gl)) ?_ ?_
                  rotate_left
                  · intro hJ2_8
                    refine join_ (σ := Nat × Nat × Nat × Nat) 4 #[true, true, true, false, true, true, true, true, false, true, false, false] (fun | (gl, gu, g, cap) => [(19, .int .i64 n), (8, .pointer (some ⟨gu, 0, none⟩))]) (fun | (gl, gu, g, cap) => fun w' => Aside0 (TB w' w.heap.size a0_0 a0_1 a0_2 a0_3 a0_4) ∧ Aside0 (PB w' (w.heap.size + 1) 0 0 0 0) ∧ Aside0 (Below w.heap.size w w') ∧ Aside0 (Boxed w' gu 3 (.int .i64 0)) ∧ Aside0 (w.heap.size < gu ∧ w.heap.size + 1 < gu)) ?_ ?_
                    rotate_left
                    · intro hJ2_9
                      refine join_ (σ := Nat × Nat × Nat × Nat) 4 #[true, true, false, false, true, true, true, true, true, true, false, false] (fun | (gl, gu, g, cap) => [(7, .pointer (some ⟨gl, 0, none⟩)), (8, .pointer (some ⟨gu, 0, none⟩))]) (fun | (gl, gu, g, cap) => fun w' => Aside0 (TB w' w.heap.size a0_0 a0_1 a0_2 a0_3 a0_4) ∧ Aside0 (PB w' (w.heap.size + 1) 0 0 0 0) ∧ Aside0 (Below w.heap.size w w') ∧ Aside0 (Boxed w' gl 53 (.slice none 0 0)) ∧ Aside0 (w.heap.size < gl ∧ w.heap.size + 1 < gl) ∧ Aside0 (Boxed w' gu 3 (.int .i64 0)) ∧ Aside0 (w.heap.size < gu ∧ w.heap.size + 1 < gu) ∧ Aside0 (gl ≠ gu)) ?_ ?_
                      rotate_left
                      · intro hJ8_9
                        refine join_ (σ := Nat × Nat × Nat × Nat) 5 #[true, true, true, false, true, true, true, true, false, false, false, false] (fun | (gl, gu, g, cap) => [(19, .int .i64 n)]) (fun | (gl, gu, g, cap) => fun w' => Aside0 (TB w' w.heap.size a0_0 a0_1 a0_2 a0_3 a0_4) ∧ Aside0 (PB w' (w.heap.size + 1) 0 0 0 0) ∧ Aside0 (Below w.heap.size w w')) ?_ ?_
                        rotate_left
                        · intro hJ2
                          refine join_ (σ := Nat × Nat × Nat × Nat) 5 #[true, true, false, false, true, true, true, true, true, false, false, false] (fun | (gl, gu, g, cap) => [(7, .pointer (some ⟨gl, 0, none⟩))]) (fun | (gl, gu, g, cap) => fun w' => Aside0 (TB w' w.heap.size a0_0 a0_1 a0_2 a0_3 a0_4) ∧ Aside0 (PB w' (w.heap.size + 1) 0 0 0 0) ∧ Aside0 (Below w.heap.size w w') ∧ Aside0 (Boxed w' gl 53 (.slice none 0 0)) ∧ Aside0 (w.heap.size < gl ∧ w.heap.size + 1 < gl)) ?_ ?_
                          rotate_left
                          · intro hJ8
                            refine join_ (σ := Nat × Nat × Nat × Nat) 5 #[true, true, false, false, true, true, true, true, false, true, false, false] (fun | (gl, gu, g, cap) => [(8, .pointer (some ⟨gu, 0, none⟩))]) (fun | (gl, gu, g, cap) => fun w' => Aside0 (TB w' w.heap.size a0_0 a0_1 a0_2 a0_3 a0_4) ∧ Aside0 (PB w' (w.heap.size + 1) 0 0 0 0) ∧ Aside0 (Below w.heap.size w w') ∧ Aside0 (Boxed w' gu 3 (.int .i64 0)) ∧ Aside0 (w.heap.size < gu ∧ w.heap.size + 1 < gu)) ?_ ?_
                            rotate_left
                            · intro hJ9
                              refine three_ (i := 2) (j := 8) (k := 9) (Ni := some 19) (Nj := some 7) (Nk := some 8) #[true, true, true, false, true, true, true, true, false, false, false, false] #[true, true, false, false, true, true, true, true, true, false, false, false] #[true, true, false, false, true, true, true, true, false, true, false, false] rfl rfl rfl rfl rfl rfl (by kernel_rfl) (by decide) (by decide) (by decide) (fun K hK => ?_) (fun K hK => ?_) (fun K hK => ?_)
                              · skip
                                refine goes_ Try.func39 (by kernel_rfl) rfl #[.agg #[.int .i64 a0_0, .int .i64 a0_1, .int .i64 a0_2, .int .i64 a0_3, .int .i64 a0_4]] (by rfl) rfl rfl (by simp only [List.map_toArray, List.map_cons, List.map_nil]; rfl) ?_
                                with_reducible refine (trips_any _ _ _ _ _ n HN.out _).mono ?_
                                rintro e w3 ⟨rfl, hb⟩
                                refine ⟨_, rfl, ?_⟩
                                have HT3 : Aside0 (TB w3 w.heap.size a0_0 a0_1 a0_2 a0_3 a0_4) := ⟨blk_below (by (with_reducible repeat (first | refine blk_drewN ?_ _ | refine blk_drew ?_ | refine blk_alloc ?_ _)); exact HT.out) hb⟩
                                have HP3 : Aside0 (PB w3 (w.heap.size + 1) 0 0 0 0) := ⟨blk_below (by (with_reducible repeat (first | refine blk_drewN ?_ _ | refine blk_drew ?_ | refine blk_alloc ?_ _)); exact HP.out) hb⟩
                                have HB3 : Aside0 (Below w.heap.size w w3) := ⟨below_step (by repeat (first | (with_reducible first | exact HB.out | apply below_alloc | apply pw_below_drewN | apply below_drew1) | exact HB.out)) hb⟩
                                refine hK.out _ _ ⟨HT3.out.c0, HT3.out.c1, HT3.out.c2, HT3.out.c3, HT3.out.c4⟩ (fun hHeld => ?_)
                                clear hK K
                                refine norm_ (a' := ?_) ?_ ?_
                                rotate_left
                                · show Act.put _ (some 19) _ = _
                                  simp only [Act.put, List.setIfInBounds_toArray, List.set_cons_zero, List.set_cons_succ, i64_w, i32_w]
                                  rfl
                                exact norm_ (by first | (simp only [putAll, Act.put, List.setIfInBounds_toArray, List.set_cons_zero, List.set_cons_succ]; done) | (simp only [putAll, Act.put, List.setIfInBounds_toArray, List.set_cons_zero, List.set_cons_succ]; rfl)) (hJ2 (0, 0, 0, 0) _ ⟨HT3, HP3, HB3⟩)
                              · skip
                                refine box_step ?hw (N := 7) ?hd (cs := #[.slice none 0 0]) (t := 53) ?hr ?_
                                (case hd => rfl)
                                (case hw => rfl)
                                (case hr => first | (go_simp; done) | (go_simp; rfl))
                                intro gl3 hg_ w3 hbx hb
                                have HT3 : Aside0 (TB w3 w.heap.size a0_0 a0_1 a0_2 a0_3 a0_4) := ⟨blk_below (by (with_reducible repeat (first | refine blk_drewN ?_ _ | refine blk_drew ?_ | refine blk_alloc ?_ _)); exact HT.out) hb⟩
                                have HP3 : Aside0 (PB w3 (w.heap.size + 1) 0 0 0 0) := ⟨blk_below (by (with_reducible repeat (first | refine blk_drewN ?_ _ | refine blk_drew ?_ | refine blk_alloc ?_ _)); exact HP.out) hb⟩
                                have HB3 : Aside0 (Below w.heap.size w w3) := ⟨below_step (by repeat (first | (with_reducible first | exact HB.out | apply below_alloc | apply pw_below_drewN | apply below_drew1) | exact HB.out)) hb⟩
                                have HL3 : Aside0 (Boxed w3 gl3 53 (.slice none 0 0)) := ⟨hbx⟩
                                have NL3 : Aside0 (w.heap.size < gl3 ∧ w.heap.size + 1 < gl3) := ⟨by rw [hg_]; exact ⟨blk_lt (by (with_reducible repeat (first | refine blk_drewN ?_ _ | refine blk_drew ?_ | refine blk_alloc ?_ _)); exact HT.out), blk_lt (by (with_reducible repeat (first | refine blk_drewN ?_ _ | refine blk_drew ?_ | refine blk_alloc ?_ _)); exact HP.out)⟩⟩
                                refine hK.out _ _ ⟨HT3.out.c0, HT3.out.c1, HT3.out.c2, HT3.out.c3, HT3.out.c4⟩ (fun hHeld => ?_)
                                clear hK K
                                refine norm_ (a' := ?_) ?_ ?_
                                rotate_left
                                · show Act.put _ (some 7) _ = _
                                  simp only [Act.put, List.setIfInBounds_toArray, List.set_cons_zero, List.set_cons_succ, i64_w, i32_w]
                                  rfl
                                exact norm_ (by first | (simp only [putAll, Act.put, List.setIfInBounds_toArray, List.set_cons_zero, List.set_cons_succ]; done) | (simp only [putAll, Act.put, List.setIfInBounds_toArray, List.set_cons_zero, List.set_cons_succ]; rfl)) (hJ8 (gl3, 0, 0, 0) _ ⟨HT3, HP3, HB3, HL3, NL3⟩)
                              · skip
                                refine box_step ?hw (N := 8) ?hd (cs := #[.int .i64 0]) (t := 3) ?hr ?_
                                (case hd => rfl)
                                (case hw => rfl)
                                (case hr => first | (go_simp; done) | (go_simp; rfl))
                                intro gu3 hg_ w3 hbx hb
                                have HT3 : Aside0 (TB w3 w.heap.size a0_0 a0_1 a0_2 a0_3 a0_4) := ⟨blk_below (by (with_reducible repeat (first | refine blk_drewN ?_ _ | refine blk_drew ?_ | refine blk_alloc ?_ _)); exact HT.out) hb⟩
                                have HP3 : Aside0 (PB w3 (w.heap.size + 1) 0 0 0 0) := ⟨blk_below (by (with_reducible repeat (first | refine blk_drewN ?_ _ | refine blk_drew ?_ | refine blk_alloc ?_ _)); exact HP.out) hb⟩
                                have HB3 : Aside0 (Below w.heap.size w w3) := ⟨below_step (by repeat (first | (with_reducible first | exact HB.out | apply below_alloc | apply pw_below_drewN | apply below_drew1) | exact HB.out)) hb⟩
                                have HU3 : Aside0 (Boxed w3 gu3 3 (.int .i64 0)) := ⟨hbx⟩
                                have NU3 : Aside0 (w.heap.size < gu3 ∧ w.heap.size + 1 < gu3) := ⟨by rw [hg_]; exact ⟨blk_lt (by (with_reducible repeat (first | refine blk_drewN ?_ _ | refine blk_drew ?_ | refine blk_alloc ?_ _)); exact HT.out), blk_lt (by (with_reducible repeat (first | refine blk_drewN ?_ _ | refine blk_drew ?_ | refine blk_alloc ?_ _)); exact HP.out)⟩⟩
                                refine hK.out _ _ ⟨HT3.out.c0, HT3.out.c1, HT3.out.c2, HT3.out.c3, HT3.out.c4⟩ (fun hHeld => ?_)
                                clear hK K
                                refine norm_ (a' := ?_) ?_ ?_
                                rotate_left
                                · show Act.put _ (some 8) _ = _
                                  simp only [Act.put, List.setIfInBounds_toArray, List.set_cons_zero, List.set_cons_succ, i64_w, i32_w]
                                  rfl
                                exact norm_ (by first | (simp only [putAll, Act.put, List.setIfInBounds_toArray, List.set_cons_zero, List.set_cons_succ]; done) | (simp only [putAll, Act.put, List.setIfInBounds_toArray, List.set_cons_zero, List.set_cons_succ]; rfl)) (hJ9 (0, gu3, 0, 0) _ ⟨HT3, HP3, HB3, HU3, NU3⟩)
                            · skip
                              rintro ⟨gl, gu, g, cap⟩ w' ⟨HT, HP, HB, HU, NU⟩
                              have hHeld := (⟨HT.out.c0, HT.out.c1, HT.out.c2, HT.out.c3, HT.out.c4⟩ : w'.cell? ⟨w.heap.size, 0, none⟩ = some (.int .i64 a0_0) ∧ w'.cell? ⟨w.heap.size, 1, none⟩ = some (.int .i64 a0_1) ∧ w'.cell? ⟨w.heap.size, 2, none⟩ = some (.int .i64 a0_2) ∧ w'.cell? ⟨w.heap.size, 3, none⟩ = some (.int .i64 a0_3) ∧ w'.cell? ⟨w.heap.size, 4, none⟩ = some (.int .i64 a0_4))
                              refine norm_ (a' := ?_) ?_ ?_
                              rotate_left
                              · simp only [putAll, Act.put, List.setIfInBounds_toArray, List.set_cons_zero, List.set_cons_succ]
                                rfl
                              refine two_ (i := 2) (j := 8) (Ni := some 19) (Nj := some 7) #[true, true, true, false, true, true, true, true, false, true, false, false] #[true, true, false, false, true, true, true, true, true, true, false, false] rfl rfl rfl rfl (by kernel_rfl) (by decide) (by decide) (fun K hK => ?_) (fun K hK => ?_)
                              · skip
                                refine goes_ Try.func39 (by kernel_rfl) rfl #[.agg #[.int .i64 a0_0, .int .i64 a0_1, .int .i64 a0_2, .int .i64 a0_3, .int .i64 a0_4]] (by rfl) rfl rfl (by simp only [List.map_toArray, List.map_cons, List.map_nil]; rfl) ?_
                                with_reducible refine (trips_any _ _ _ _ _ n HN.out _).mono ?_
                                rintro e w3 ⟨rfl, hb⟩
                                refine ⟨_, rfl, ?_⟩
                                have HT3 : Aside0 (TB w3 w.heap.size a0_0 a0_1 a0_2 a0_3 a0_4) := ⟨blk_below (by (with_reducible repeat (first | refine blk_drewN ?_ _ | refine blk_drew ?_ | refine blk_alloc ?_ _)); exact HT.out) hb⟩
                                have HP3 : Aside0 (PB w3 (w.heap.size + 1) 0 0 0 0) := ⟨blk_below (by (with_reducible repeat (first | refine blk_drewN ?_ _ | refine blk_drew ?_ | refine blk_alloc ?_ _)); exact HP.out) hb⟩
                                have HB3 : Aside0 (Below w.heap.size w w3) := ⟨below_step (by repeat (first | (with_reducible first | exact HB.out | apply below_alloc | apply pw_below_drewN | apply below_drew1) | exact HB.out)) hb⟩
                                have HU3 : Aside0 (Boxed w3 gu 3 (.int .i64 0)) := ⟨blk_below (by (with_reducible repeat (first | refine blk_drewN ?_ _ | refine blk_drew ?_ | refine blk_alloc ?_ _)); exact HU.out) hb⟩
                                refine hK.out _ _ ⟨HT3.out.c0, HT3.out.c1, HT3.out.c2, HT3.out.c3, HT3.out.c4⟩ (fun hHeld => ?_)
                                clear hK K
                                refine norm_ (a' := ?_) ?_ ?_
                                rotate_left
                                · show Act.put _ (some 19) _ = _
                                  simp only [Act.put, List.setIfInBounds_toArray, List.set_cons_zero, List.set_cons_succ, i64_w, i32_w]
                                  rfl
                                exact norm_ (by first | (simp only [putAll, Act.put, List.setIfInBounds_toArray, List.set_cons_zero, List.set_cons_succ]; done) | (simp only [putAll, Act.put, List.setIfInBounds_toArray, List.set_cons_zero, List.set_cons_succ]; rfl)) (hJ2_9 (0, gu, 0, 0) _ ⟨HT3, HP3, HB3, HU3, NU⟩)
                              · skip
                                refine box_step ?hw (N := 7) ?hd (cs := #[.slice none 0 0]) (t := 53) ?hr ?_
                                (case hd => rfl)
                                (case hw => rfl)
                                (case hr => first | (go_simp; done) | (go_simp; rfl))
                                intro gl3 hg_ w3 hbx hb
                                have HT3 : Aside0 (TB w3 w.heap.size a0_0 a0_1 a0_2 a0_3 a0_4) := ⟨blk_below (by (with_reducible repeat (first | refine blk_drewN ?_ _ | refine blk_drew ?_ | refine blk_alloc ?_ _)); exact HT.out) hb⟩
                                have HP3 : Aside0 (PB w3 (w.heap.size + 1) 0 0 0 0) := ⟨blk_below (by (with_reducible repeat (first | refine blk_drewN ?_ _ | refine blk_drew ?_ | refine blk_alloc ?_ _)); exact HP.out) hb⟩
                                have HB3 : Aside0 (Below w.heap.size w w3) := ⟨below_step (by repeat (first | (with_reducible first | exact HB.out | apply below_alloc | apply pw_below_drewN | apply below_drew1) | exact HB.out)) hb⟩
                                have HU3 : Aside0 (Boxed w3 gu 3 (.int .i64 0)) := ⟨blk_below (by (with_reducible repeat (first | refine blk_drewN ?_ _ | refine blk_drew ?_ | refine blk_alloc ?_ _)); exact HU.out) hb⟩
                                have HL3 : Aside0 (Boxed w3 gl3 53 (.slice none 0 0)) := ⟨hbx⟩
                                have NL3 : Aside0 (w.heap.size < gl3 ∧ w.heap.size + 1 < gl3) := ⟨by rw [hg_]; exact ⟨blk_lt (by (with_reducible repeat (first | refine blk_drewN ?_ _ | refine blk_drew ?_ | refine blk_alloc ?_ _)); exact HT.out), blk_lt (by (with_reducible repeat (first | refine blk_drewN ?_ _ | refine blk_drew ?_ | refine blk_alloc ?_ _)); exact HP.out)⟩⟩
                                have NLU3 : Aside0 (gl3 ≠ gu) := ⟨by rw [hg_]; exact Nat.ne_of_gt (blk_lt (by (with_reducible repeat (first | refine blk_drewN ?_ _ | refine blk_drew ?_ | refine blk_alloc ?_ _)); exact HU.out))⟩
                                refine hK.out _ _ ⟨HT3.out.c0, HT3.out.c1, HT3.out.c2, HT3.out.c3, HT3.out.c4⟩ (fun hHeld => ?_)
                                clear hK K
                                refine norm_ (a' := ?_) ?_ ?_
                                rotate_left
                                · show Act.put _ (some 7) _ = _
                                  simp only [Act.put, List.setIfInBounds_toArray, List.set_cons_zero, List.set_cons_succ, i64_w, i32_w]
                                  rfl
                                exact norm_ (by first | (simp only [putAll, Act.put, List.setIfInBounds_toArray, List.set_cons_zero, List.set_cons_succ]; done) | (simp only [putAll, Act.put, List.setIfInBounds_toArray, List.set_cons_zero, List.set_cons_succ]; rfl)) (hJ8_9 (gl3, gu, 0, 0) _ ⟨HT3, HP3, HB3, HL3, NL3, HU3, NU, NLU3⟩)
                          · skip
                            rintro ⟨gl, gu, g, cap⟩ w' ⟨HT, HP, HB, HL, NL⟩
                            have hHeld := (⟨HT.out.c0, HT.out.c1, HT.out.c2, HT.out.c3, HT.out.c4⟩ : w'.cell? ⟨w.heap.size, 0, none⟩ = some (.int .i64 a0_0) ∧ w'.cell? ⟨w.heap.size, 1, none⟩ = some (.int .i64 a0_1) ∧ w'.cell? ⟨w.heap.size, 2, none⟩ = some (.int .i64 a0_2) ∧ w'.cell? ⟨w.heap.size, 3, none⟩ = some (.int .i64 a0_3) ∧ w'.cell? ⟨w.heap.size, 4, none⟩ = some (.int .i64 a0_4))
                            refine norm_ (a' := ?_) ?_ ?_
                            rotate_left
                            · simp only [putAll, Act.put, List.setIfInBounds_toArray, List.set_cons_zero, List.set_cons_succ]
                              rfl
                            refine two_ (i := 2) (j := 9) (Ni := some 19) (Nj := some 8) #[true, true, true, false, true, true, true, true, true, false, false, false] #[true, true, false, false, true, true, true, true, true, true, false, false] rfl rfl rfl rfl (by kernel_rfl) (by decide) (by decide) (fun K hK => ?_) (fun K hK => ?_)
                            · skip
                              refine goes_ Try.func39 (by kernel_rfl) rfl #[.agg #[.int .i64 a0_0, .int .i64 a0_1, .int .i64 a0_2, .int .i64 a0_3, .int .i64 a0_4]] (by rfl) rfl rfl (by simp only [List.map_toArray, List.map_cons, List.map_nil]; rfl) ?_
                              with_reducible refine (trips_any _ _ _ _ _ n HN.out _).mono ?_
                              rintro e w3 ⟨rfl, hb⟩
                              refine ⟨_, rfl, ?_⟩
                              have HT3 : Aside0 (TB w3 w.heap.size a0_0 a0_1 a0_2 a0_3 a0_4) := ⟨blk_below (by (with_reducible repeat (first | refine blk_drewN ?_ _ | refine blk_drew ?_ | refine blk_alloc ?_ _)); exact HT.out) hb⟩
                              have HP3 : Aside0 (PB w3 (w.heap.size + 1) 0 0 0 0) := ⟨blk_below (by (with_reducible repeat (first | refine blk_drewN ?_ _ | refine blk_drew ?_ | refine blk_alloc ?_ _)); exact HP.out) hb⟩
                              have HB3 : Aside0 (Below w.heap.size w w3) := ⟨below_step (by repeat (first | (with_reducible first | exact HB.out | apply below_alloc | apply pw_below_drewN | apply below_drew1) | exact HB.out)) hb⟩
                              have HL3 : Aside0 (Boxed w3 gl 53 (.slice none 0 0)) := ⟨blk_below (by (with_reducible repeat (first | refine blk_drewN ?_ _ | refine blk_drew ?_ | refine blk_alloc ?_ _)); exact HL.out) hb⟩
                              refine hK.out _ _ ⟨HT3.out.c0, HT3.out.c1, HT3.out.c2, HT3.out.c3, HT3.out.c4⟩ (fun hHeld => ?_)
                              clear hK K
                              refine norm_ (a' := ?_) ?_ ?_
                              rotate_left
                              · show Act.put _ (some 19) _ = _
                                simp only [Act.put, List.setIfInBounds_toArray, List.set_cons_zero, List.set_cons_succ, i64_w, i32_w]
                                rfl
                              exact norm_ (by first | (simp only [putAll, Act.put, List.setIfInBounds_toArray, List.set_cons_zero, List.set_cons_succ]; done) | (simp only [putAll, Act.put, List.setIfInBounds_toArray, List.set_cons_zero, List.set_cons_succ]; rfl)) (hJ2_8 (gl, 0, 0, 0) _ ⟨HT3, HP3, HB3, HL3, NL⟩)
                            · skip
                              refine box_step ?hw (N := 8) ?hd (cs := #[.int .i64 0]) (t := 3) ?hr ?_
                              (case hd => rfl)
                              (case hw => rfl)
                              (case hr => first | (go_simp; done) | (go_simp; rfl))
                              intro gu3 hg_ w3 hbx hb
                              have HT3 : Aside0 (TB w3 w.heap.size a0_0 a0_1 a0_2 a0_3 a0_4) := ⟨blk_below (by (with_reducible repeat (first | refine blk_drewN ?_ _ | refine blk_drew ?_ | refine blk_alloc ?_ _)); exact HT.out) hb⟩
                              have HP3 : Aside0 (PB w3 (w.heap.size + 1) 0 0 0 0) := ⟨blk_below (by (with_reducible repeat (first | refine blk_drewN ?_ _ | refine blk_drew ?_ | refine blk_alloc ?_ _)); exact HP.out) hb⟩
                              have HB3 : Aside0 (Below w.heap.size w w3) := ⟨below_step (by repeat (first | (with_reducible first | exact HB.out | apply below_alloc | apply pw_below_drewN | apply below_drew1) | exact HB.out)) hb⟩
                              have HL3 : Aside0 (Boxed w3 gl 53 (.slice none 0 0)) := ⟨blk_below (by (with_reducible repeat (first | refine blk_drewN ?_ _ | refine blk_drew ?_ | refine blk_alloc ?_ _)); exact HL.out) hb⟩
                              have HU3 : Aside0 (Boxed w3 gu3 3 (.int .i64 0)) := ⟨hbx⟩
                              have NU3 : Aside0 (w.heap.size < gu3 ∧ w.heap.size + 1 < gu3) := ⟨by rw [hg_]; exact ⟨blk_lt (by (with_reducible repeat (first | refine blk_drewN ?_ _ | refine blk_drew ?_ | refine blk_alloc ?_ _)); exact HT.out), blk_lt (by (with_reducible repeat (first | refine blk_drewN ?_ _ | refine blk_drew ?_ | refine blk_alloc ?_ _)); exact HP.out)⟩⟩
                              have NLU3 : Aside0 (gl ≠ gu3) := ⟨by rw [hg_]; exact Nat.ne_of_lt (blk_lt (by (with_reducible repeat (first | refine blk_drewN ?_ _ | refine blk_drew ?_ | refine blk_alloc ?_ _)); exact HL.out))⟩
                              refine hK.out _ _ ⟨HT3.out.c0, HT3.out.c1, HT3.out.c2, HT3.out.c3, HT3.out.c4⟩ (fun hHeld => ?_)
                              clear hK K
                              refine norm_ (a' := ?_) ?_ ?_
                              rotate_left
                              · show Act.put _ (some 8) _ = _
                                simp only [Act.put, List.setIfInBounds_toArray, List.set_cons_zero, List.set_cons_succ, i64_w, i32_w]
                                rfl
                              exact norm_ (by first | (simp only [putAll, Act.put, List.setIfInBounds_toArray, List.set_cons_zero, List.set_cons_succ]; done) | (simp only [putAll, Act.put, List.setIfInBounds_toArray, List.set_cons_zero, List.set_cons_succ]; rfl)) (hJ8_9 (gl, gu3, 0, 0) _ ⟨HT3, HP3, HB3, HL3, NL, HU3, NU3, NLU3⟩)
                        · skip
                          rintro ⟨gl, gu, g, cap⟩ w' ⟨HT, HP, HB⟩
                          have hHeld := (⟨HT.out.c0, HT.out.c1, HT.out.c2, HT.out.c3, HT.out.c4⟩ : w'.cell? ⟨w.heap.size, 0, none⟩ = some (.int .i64 a0_0) ∧ w'.cell? ⟨w.heap.size, 1, none⟩ = some (.int .i64 a0_1) ∧ w'.cell? ⟨w.heap.size, 2, none⟩ = some (.int .i64 a0_2) ∧ w'.cell? ⟨w.heap.size, 3, none⟩ = some (.int .i64 a0_3) ∧ w'.cell? ⟨w.heap.size, 4, none⟩ = some (.int .i64 a0_4))
                          refine norm_ (a' := ?_) ?_ ?_
                          rotate_left
                          · simp only [putAll, Act.put, List.setIfInBounds_toArray, List.set_cons_zero, List.set_cons_succ]
                            rfl
                          refine three_ (i := 3) (j := 8) (k := 9) (Ni := some 20) (Nj := some 7) (Nk := some 8) #[true, true, true, true, true, true, true, true, false, false, false, false] #[true, true, true, false, true, true, true, true, true, false, false, false] #[true, true, true, false, true, true, true, true, false, true, false, false] rfl rfl rfl rfl rfl rfl (by kernel_rfl) (by decide) (by decide) (by decide) (fun K hK => ?_) (fun K hK => ?_) (fun K hK => ?_)
                          · skip
                            refine goes_ Try.func38 (by kernel_rfl) rfl #[.agg #[.int .i64 a0_0, .int .i64 a0_1, .int .i64 a0_2, .int .i64 a0_3, .int .i64 a0_4], .int .i64 n] (by rfl) rfl rfl (by simp only [List.map_toArray, List.map_cons, List.map_nil]; rfl) ?_
                            with_reducible refine (phase_pieces.calls _ _ _ _ _ _ l _ HL0.out).mono ?_
                            rintro e w3 ⟨v, rfl, hR, hb⟩
                            obtain ⟨g3, cap3, rfl, _, _, _⟩ := Kd.R_form hR (by have := HR.out; omega)
                            refine ⟨_, rfl, ?_⟩
                            have HR33 : Aside0 (Kd.R k57 57 w3 w.heap.size (fun _ => True) (.slice (some ⟨g3, 0, none⟩) l.length cap3) l) := ⟨Kd.R_lower hR (below_size (by repeat (first | (with_reducible first | exact HB.out | apply below_alloc | apply pw_below_drewN | apply below_drew1) | exact HB.out)))⟩
                            have HT3 : Aside0 (TB w3 w.heap.size a0_0 a0_1 a0_2 a0_3 a0_4) := ⟨blk_below (by (with_reducible repeat (first | refine blk_drewN ?_ _ | refine blk_drew ?_ | refine blk_alloc ?_ _)); exact HT.out) hb⟩
                            have HP3 : Aside0 (PB w3 (w.heap.size + 1) 0 0 0 0) := ⟨blk_below (by (with_reducible repeat (first | refine blk_drewN ?_ _ | refine blk_drew ?_ | refine blk_alloc ?_ _)); exact HP.out) hb⟩
                            have HB3 : Aside0 (Below w.heap.size w w3) := ⟨below_step (by repeat (first | (with_reducible first | exact HB.out | apply below_alloc | apply pw_below_drewN | apply below_drew1) | exact HB.out)) hb⟩
                            refine hK.out _ _ ⟨HT3.out.c0, HT3.out.c1, HT3.out.c2, HT3.out.c3, HT3.out.c4⟩ (fun hHeld => ?_)
                            clear hK K
                            refine norm_ (a' := ?_) ?_ ?_
                            rotate_left
                            · show Act.put _ (some 20) _ = _
                              simp only [Act.put, List.setIfInBounds_toArray, List.set_cons_zero, List.set_cons_succ, i64_w, i32_w]
                              rfl
                            exact norm_ (by first | (simp only [putAll, Act.put, List.setIfInBounds_toArray, List.set_cons_zero, List.set_cons_succ]; done) | (simp only [putAll, Act.put, List.setIfInBounds_toArray, List.set_cons_zero, List.set_cons_succ]; rfl)) (hJ2_3 (0, 0, g3, cap3) _ ⟨HT3, HP3, HB3, HR33⟩)
                          · skip
                            refine box_step ?hw (N := 7) ?hd (cs := #[.slice none 0 0]) (t := 53) ?hr ?_
                            (case hd => rfl)
                            (case hw => rfl)
                            (case hr => first | (go_simp; done) | (go_simp; rfl))
                            intro gl3 hg_ w3 hbx hb
                            have HT3 : Aside0 (TB w3 w.heap.size a0_0 a0_1 a0_2 a0_3 a0_4) := ⟨blk_below (by (with_reducible repeat (first | refine blk_drewN ?_ _ | refine blk_drew ?_ | refine blk_alloc ?_ _)); exact HT.out) hb⟩
                            have HP3 : Aside0 (PB w3 (w.heap.size + 1) 0 0 0 0) := ⟨blk_below (by (with_reducible repeat (first | refine blk_drewN ?_ _ | refine blk_drew ?_ | refine blk_alloc ?_ _)); exact HP.out) hb⟩
                            have HB3 : Aside0 (Below w.heap.size w w3) := ⟨below_step (by repeat (first | (with_reducible first | exact HB.out | apply below_alloc | apply pw_below_drewN | apply below_drew1) | exact HB.out)) hb⟩
                            have HL3 : Aside0 (Boxed w3 gl3 53 (.slice none 0 0)) := ⟨hbx⟩
                            have NL3 : Aside0 (w.heap.size < gl3 ∧ w.heap.size + 1 < gl3) := ⟨by rw [hg_]; exact ⟨blk_lt (by (with_reducible repeat (first | refine blk_drewN ?_ _ | refine blk_drew ?_ | refine blk_alloc ?_ _)); exact HT.out), blk_lt (by (with_reducible repeat (first | refine blk_drewN ?_ _ | refine blk_drew ?_ | refine blk_alloc ?_ _)); exact HP.out)⟩⟩
                            refine hK.out _ _ ⟨HT3.out.c0, HT3.out.c1, HT3.out.c2, HT3.out.c3, HT3.out.c4⟩ (fun hHeld => ?_)
                            clear hK K
                            refine norm_ (a' := ?_) ?_ ?_
                            rotate_left
                            · show Act.put _ (some 7) _ = _
                              simp only [Act.put, List.setIfInBounds_toArray, List.set_cons_zero, List.set_cons_succ, i64_w, i32_w]
                              rfl
                            exact norm_ (by first | (simp only [putAll, Act.put, List.setIfInBounds_toArray, List.set_cons_zero, List.set_cons_succ]; done) | (simp only [putAll, Act.put, List.setIfInBounds_toArray, List.set_cons_zero, List.set_cons_succ]; rfl)) (hJ2_8 (gl3, 0, 0, 0) _ ⟨HT3, HP3, HB3, HL3, NL3⟩)
                          · skip
                            refine box_step ?hw (N := 8) ?hd (cs := #[.int .i64 0]) (t := 3) ?hr ?_
                            (case hd => rfl)
                            (case hw => rfl)
                            (case hr => first | (go_simp; done) | (go_simp; rfl))
                            intro gu3 hg_ w3 hbx hb
                            have HT3 : Aside0 (TB w3 w.heap.size a0_0 a0_1 a0_2 a0_3 a0_4) := ⟨blk_below (by (with_reducible repeat (first | refine blk_drewN ?_ _ | refine blk_drew ?_ | refine blk_alloc ?_ _)); exact HT.out) hb⟩
                            have HP3 : Aside0 (PB w3 (w.heap.size + 1) 0 0 0 0) := ⟨blk_below (by (with_reducible repeat (first | refine blk_drewN ?_ _ | refine blk_drew ?_ | refine blk_alloc ?_ _)); exact HP.out) hb⟩
                            have HB3 : Aside0 (Below w.heap.size w w3) := ⟨below_step (by repeat (first | (with_reducible first | exact HB.out | apply below_alloc | apply pw_below_drewN | apply below_drew1) | exact HB.out)) hb⟩
                            have HU3 : Aside0 (Boxed w3 gu3 3 (.int .i64 0)) := ⟨hbx⟩
                            have NU3 : Aside0 (w.heap.size < gu3 ∧ w.heap.size + 1 < gu3) := ⟨by rw [hg_]; exact ⟨blk_lt (by (with_reducible repeat (first | refine blk_drewN ?_ _ | refine blk_drew ?_ | refine blk_alloc ?_ _)); exact HT.out), blk_lt (by (with_reducible repeat (first | refine blk_drewN ?_ _ | refine blk_drew ?_ | refine blk_alloc ?_ _)); exact HP.out)⟩⟩
                            refine hK.out _ _ ⟨HT3.out.c0, HT3.out.c1, HT3.out.c2, HT3.out.c3, HT3.out.c4⟩ (fun hHeld => ?_)
                            clear hK K
                            refine norm_ (a' := ?_) ?_ ?_
                            rotate_left
                            · show Act.put _ (some 8) _ = _
                              simp only [Act.put, List.setIfInBounds_toArray, List.set_cons_zero, List.set_cons_succ, i64_w, i32_w]
                              rfl
                            exact norm_ (by first | (simp only [putAll, Act.put, List.setIfInBounds_toArray, List.set_cons_zero, List.set_cons_succ]; done) | (simp only [putAll, Act.put, List.setIfInBounds_toArray, List.set_cons_zero, List.set_cons_succ]; rfl)) (hJ2_9 (0, gu3, 0, 0) _ ⟨HT3, HP3, HB3, HU3, NU3⟩)
                      · skip
                        rintro ⟨gl, gu, g, cap⟩ w' ⟨HT, HP, HB, HL, NL, HU, NU, NLU⟩
                        have hHeld := (⟨HT.out.c0, HT.out.c1, HT.out.c2, HT.out.c3, HT.out.c4⟩ : w'.cell? ⟨w.heap.size, 0, none⟩ = some (.int .i64 a0_0) ∧ w'.cell? ⟨w.heap.size, 1, none⟩ = some (.int .i64 a0_1) ∧ w'.cell? ⟨w.heap.size, 2, none⟩ = some (.int .i64 a0_2) ∧ w'.cell? ⟨w.heap.size, 3, none⟩ = some (.int .i64 a0_3) ∧ w'.cell? ⟨w.heap.size, 4, none⟩ = some (.int .i64 a0_4))
                        refine norm_ (a' := ?_) ?_ ?_
                        rotate_left
                        · simp only [putAll, Act.put, List.setIfInBounds_toArray, List.set_cons_zero, List.set_cons_succ]
                          rfl
                        refine one_ (i := 2) (N := some 19) #[true, true, true, false, true, true, true, true, true, true, false, false] rfl rfl (by kernel_rfl) (by decide) (fun K hK => ?_)
                        refine goes_ Try.func39 (by kernel_rfl) rfl #[.agg #[.int .i64 a0_0, .int .i64 a0_1, .int .i64 a0_2, .int .i64 a0_3, .int .i64 a0_4]] (by rfl) rfl rfl (by simp only [List.map_toArray, List.map_cons, List.map_nil]; rfl) ?_
                        with_reducible refine (trips_any _ _ _ _ _ n HN.out _).mono ?_
                        rintro e w3 ⟨rfl, hb⟩
                        refine ⟨_, rfl, ?_⟩
                        have HT3 : Aside0 (TB w3 w.heap.size a0_0 a0_1 a0_2 a0_3 a0_4) := ⟨blk_below (by (with_reducible repeat (first | refine blk_drewN ?_ _ | refine blk_drew ?_ | refine blk_alloc ?_ _)); exact HT.out) hb⟩
                        have HP3 : Aside0 (PB w3 (w.heap.size + 1) 0 0 0 0) := ⟨blk_below (by (with_reducible repeat (first | refine blk_drewN ?_ _ | refine blk_drew ?_ | refine blk_alloc ?_ _)); exact HP.out) hb⟩
                        have HB3 : Aside0 (Below w.heap.size w w3) := ⟨below_step (by repeat (first | (with_reducible first | exact HB.out | apply below_alloc | apply pw_below_drewN | apply below_drew1) | exact HB.out)) hb⟩
                        have HL3 : Aside0 (Boxed w3 gl 53 (.slice none 0 0)) := ⟨blk_below (by (with_reducible repeat (first | refine blk_drewN ?_ _ | refine blk_drew ?_ | refine blk_alloc ?_ _)); exact HL.out) hb⟩
                        have HU3 : Aside0 (Boxed w3 gu 3 (.int .i64 0)) := ⟨blk_below (by (with_reducible repeat (first | refine blk_drewN ?_ _ | refine blk_drew ?_ | refine blk_alloc ?_ _)); exact HU.out) hb⟩
                        refine hK.out _ _ ⟨HT3.out.c0, HT3.out.c1, HT3.out.c2, HT3.out.c3, HT3.out.c4⟩ (fun hHeld => ?_)
                        clear hK K
                        refine norm_ (a' := ?_) ?_ ?_
                        rotate_left
                        · show Act.put _ (some 19) _ = _
                          simp only [Act.put, List.setIfInBounds_toArray, List.set_cons_zero, List.set_cons_succ, i64_w, i32_w]
                          rfl
                        exact norm_ (by first | (simp only [putAll, Act.put, List.setIfInBounds_toArray, List.set_cons_zero, List.set_cons_succ]; done) | (simp only [putAll, Act.put, List.setIfInBounds_toArray, List.set_cons_zero, List.set_cons_succ]; rfl)) (hJ2_8_9 (gl, gu, 0, 0) _ ⟨HT3, HP3, HB3, HL3, NL, HU3, NU, NLU⟩)
                    · skip
                      rintro ⟨gl, gu, g, cap⟩ w' ⟨HT, HP, HB, HU, NU⟩
                      have hHeld := (⟨HT.out.c0, HT.out.c1, HT.out.c2, HT.out.c3, HT.out.c4⟩ : w'.cell? ⟨w.heap.size, 0, none⟩ = some (.int .i64 a0_0) ∧ w'.cell? ⟨w.heap.size, 1, none⟩ = some (.int .i64 a0_1) ∧ w'.cell? ⟨w.heap.size, 2, none⟩ = some (.int .i64 a0_2) ∧ w'.cell? ⟨w.heap.size, 3, none⟩ = some (.int .i64 a0_3) ∧ w'.cell? ⟨w.heap.size, 4, none⟩ = some (.int .i64 a0_4))
                      refine norm_ (a' := ?_) ?_ ?_
                      rotate_left
                      · simp only [putAll, Act.put, List.setIfInBounds_toArray, List.set_cons_zero, List.set_cons_succ]
                        rfl
                      refine two_ (i := 3) (j := 8) (Ni := some 20) (Nj := some 7) #[true, true, true, true, true, true, true, true, false, true, false, false] #[true, true, true, false, true, true, true, true, true, true, false, false] rfl rfl rfl rfl (by kernel_rfl) (by decide) (by decide) (fun K hK => ?_) (fun K hK => ?_)
                      · skip
                        refine goes_ Try.func38 (by kernel_rfl) rfl #[.agg #[.int .i64 a0_0, .int .i64 a0_1, .int .i64 a0_2, .int .i64 a0_3, .int .i64 a0_4], .int .i64 n] (by rfl) rfl rfl (by simp only [List.map_toArray, List.map_cons, List.map_nil]; rfl) ?_
                        with_reducible refine (phase_pieces.calls _ _ _ _ _ _ l _ HL0.out).mono ?_
                        rintro e w3 ⟨v, rfl, hR, hb⟩
                        obtain ⟨g3, cap3, rfl, _, _, _⟩ := Kd.R_form hR (by have := HR.out; omega)
                        refine ⟨_, rfl, ?_⟩
                        have HR33 : Aside0 (Kd.R k57 57 w3 w.heap.size (fun _ => True) (.slice (some ⟨g3, 0, none⟩) l.length cap3) l) := ⟨Kd.R_lower hR (below_size (by repeat (first | (with_reducible first | exact HB.out | apply below_alloc | apply pw_below_drewN | apply below_drew1) | exact HB.out)))⟩
                        have HT3 : Aside0 (TB w3 w.heap.size a0_0 a0_1 a0_2 a0_3 a0_4) := ⟨blk_below (by (with_reducible repeat (first | refine blk_drewN ?_ _ | refine blk_drew ?_ | refine blk_alloc ?_ _)); exact HT.out) hb⟩
                        have HP3 : Aside0 (PB w3 (w.heap.size + 1) 0 0 0 0) := ⟨blk_below (by (with_reducible repeat (first | refine blk_drewN ?_ _ | refine blk_drew ?_ | refine blk_alloc ?_ _)); exact HP.out) hb⟩
                        have HB3 : Aside0 (Below w.heap.size w w3) := ⟨below_step (by repeat (first | (with_reducible first | exact HB.out | apply below_alloc | apply pw_below_drewN | apply below_drew1) | exact HB.out)) hb⟩
                        have HU3 : Aside0 (Boxed w3 gu 3 (.int .i64 0)) := ⟨blk_below (by (with_reducible repeat (first | refine blk_drewN ?_ _ | refine blk_drew ?_ | refine blk_alloc ?_ _)); exact HU.out) hb⟩
                        refine hK.out _ _ ⟨HT3.out.c0, HT3.out.c1, HT3.out.c2, HT3.out.c3, HT3.out.c4⟩ (fun hHeld => ?_)
                        clear hK K
                        refine norm_ (a' := ?_) ?_ ?_
                        rotate_left
                        · show Act.put _ (some 20) _ = _
                          simp only [Act.put, List.setIfInBounds_toArray, List.set_cons_zero, List.set_cons_succ, i64_w, i32_w]
                          rfl
                        exact norm_ (by first | (simp only [putAll, Act.put, List.setIfInBounds_toArray, List.set_cons_zero, List.set_cons_succ]; done) | (simp only [putAll, Act.put, List.setIfInBounds_toArray, List.set_cons_zero, List.set_cons_succ]; rfl)) (hJ2_3_9 (0, gu, g3, cap3) _ ⟨HT3, HP3, HB3, HU3, NU, HR33⟩)
                      · skip
                        refine box_step ?hw (N := 7) ?hd (cs := #[.slice none 0 0]) (t := 53) ?hr ?_
                        (case hd => rfl)
                        (case hw => rfl)
                        (case hr => first | (go_simp; done) | (go_simp; rfl))
                        intro gl3 hg_ w3 hbx hb
                        have HT3 : Aside0 (TB w3 w.heap.size a0_0 a0_1 a0_2 a0_3 a0_4) := ⟨blk_below (by (with_reducible repeat (first | refine blk_drewN ?_ _ | refine blk_drew ?_ | refine blk_alloc ?_ _)); exact HT.out) hb⟩
                        have HP3 : Aside0 (PB w3 (w.heap.size + 1) 0 0 0 0) := ⟨blk_below (by (with_reducible repeat (first | refine blk_drewN ?_ _ | refine blk_drew ?_ | refine blk_alloc ?_ _)); exact HP.out) hb⟩
                        have HB3 : Aside0 (Below w.heap.size w w3) := ⟨below_step (by repeat (first | (with_reducible first | exact HB.out | apply below_alloc | apply pw_below_drewN | apply below_drew1) | exact HB.out)) hb⟩
                        have HU3 : Aside0 (Boxed w3 gu 3 (.int .i64 0)) := ⟨blk_below (by (with_reducible repeat (first | refine blk_drewN ?_ _ | refine blk_drew ?_ | refine blk_alloc ?_ _)); exact HU.out) hb⟩
                        have HL3 : Aside0 (Boxed w3 gl3 53 (.slice none 0 0)) := ⟨hbx⟩
                        have NL3 : Aside0 (w.heap.size < gl3 ∧ w.heap.size + 1 < gl3) := ⟨by rw [hg_]; exact ⟨blk_lt (by (with_reducible repeat (first | refine blk_drewN ?_ _ | refine blk_drew ?_ | refine blk_alloc ?_ _)); exact HT.out), blk_lt (by (with_reducible repeat (first | refine blk_drewN ?_ _ | refine blk_drew ?_ | refine blk_alloc ?_ _)); exact HP.out)⟩⟩
                        have NLU3 : Aside0 (gl3 ≠ gu) := ⟨by rw [hg_]; exact Nat.ne_of_gt (blk_lt (by (with_reducible repeat (first | refine blk_drewN ?_ _ | refine blk_drew ?_ | refine blk_alloc ?_ _)); exact HU.out))⟩
                        refine hK.out _ _ ⟨HT3.out.c0, HT3.out.c1, HT3.out.c2, HT3.out.c3, HT3.out.c4⟩ (fun hHeld => ?_)
                        clear hK K
                        refine norm_ (a' := ?_) ?_ ?_
                        rotate_left
                        · show Act.put _ (some 7) _ = _
                          simp only [Act.put, List.setIfInBounds_toArray, List.set_cons_zero, List.set_cons_succ, i64_w, i32_w]
                          rfl
                        exact norm_ (by first | (simp only [putAll, Act.put, List.setIfInBounds_toArray, List.set_cons_zero, List.set_cons_succ]; done) | (simp only [putAll, Act.put, List.setIfInBounds_toArray, List.set_cons_zero, List.set_cons_succ]; rfl)) (hJ2_8_9 (gl3, gu, 0, 0) _ ⟨HT3, HP3, HB3, HL3, NL3, HU3, NU, NLU3⟩)
                  · skip
                    rintro ⟨gl, gu, g, cap⟩ w' ⟨HT, HP, HB, HL, NL⟩
                    have hHeld := (⟨HT.out.c0, HT.out.c1, HT.out.c2, HT.out.c3, HT.out.c4⟩ : w'.cell? ⟨w.heap.size, 0, none⟩ = some (.int .i64 a0_0) ∧ w'.cell? ⟨w.heap.size, 1, none⟩ = some (.int .i64 a0_1) ∧ w'.cell? ⟨w.heap.size, 2, none⟩ = some (.int .i64 a0_2) ∧ w'.cell? ⟨w.heap.size, 3, none⟩ = some (.int .i64 a0_3) ∧ w'.cell? ⟨w.heap.size, 4, none⟩ = some (.int .i64 a0_4))
                    refine norm_ (a' := ?_) ?_ ?_
                    rotate_left
                    · simp only [putAll, Act.put, List.setIfInBounds_toArray, List.set_cons_zero, List.set_cons_succ]
                      rfl
                    refine two_ (i := 3) (j := 9) (Ni := some 20) (Nj := some 8) #[true, true, true, true, true, true, true, true, true, false, false, false] #[true, true, true, false, true, true, true, true, true, true, false, false] rfl rfl rfl rfl (by kernel_rfl) (by decide) (by decide) (fun K hK => ?_) (fun K hK => ?_)
                    · skip
                      refine goes_ Try.func38 (by kernel_rfl) rfl #[.agg #[.int .i64 a0_0, .int .i64 a0_1, .int .i64 a0_2, .int .i64 a0_3, .int .i64 a0_4], .int .i64 n] (by rfl) rfl rfl (by simp only [List.map_toArray, List.map_cons, List.map_nil]; rfl) ?_
                      with_reducible refine (phase_pieces.calls _ _ _ _ _ _ l _ HL0.out).mono ?_
                      rintro e w3 ⟨v, rfl, hR, hb⟩
                      obtain ⟨g3, cap3, rfl, _, _, _⟩ := Kd.R_form hR (by have := HR.out; omega)
                      refine ⟨_, rfl, ?_⟩
                      have HR33 : Aside0 (Kd.R k57 57 w3 w.heap.size (fun _ => True) (.slice (some ⟨g3, 0, none⟩) l.length cap3) l) := ⟨Kd.R_lower hR (below_size (by repeat (first | (with_reducible first | exact HB.out | apply below_alloc | apply pw_below_drewN | apply below_drew1) | exact HB.out)))⟩
                      have HT3 : Aside0 (TB w3 w.heap.size a0_0 a0_1 a0_2 a0_3 a0_4) := ⟨blk_below (by (with_reducible repeat (first | refine blk_drewN ?_ _ | refine blk_drew ?_ | refine blk_alloc ?_ _)); exact HT.out) hb⟩
                      have HP3 : Aside0 (PB w3 (w.heap.size + 1) 0 0 0 0) := ⟨blk_below (by (with_reducible repeat (first | refine blk_drewN ?_ _ | refine blk_drew ?_ | refine blk_alloc ?_ _)); exact HP.out) hb⟩
                      have HB3 : Aside0 (Below w.heap.size w w3) := ⟨below_step (by repeat (first | (with_reducible first | exact HB.out | apply below_alloc | apply pw_below_drewN | apply below_drew1) | exact HB.out)) hb⟩
                      have HL3 : Aside0 (Boxed w3 gl 53 (.slice none 0 0)) := ⟨blk_below (by (with_reducible repeat (first | refine blk_drewN ?_ _ | refine blk_drew ?_ | refine blk_alloc ?_ _)); exact HL.out) hb⟩
                      refine hK.out _ _ ⟨HT3.out.c0, HT3.out.c1, HT3.out.c2, HT3.out.c3, HT3.out.c4⟩ (fun hHeld => ?_)
                      clear hK K
                      refine norm_ (a' := ?_) ?_ ?_
                      rotate_left
                      · show Act.put _ (some 20) _ = _
                        simp only [Act.put, List.setIfInBounds_toArray, List.set_cons_zero, List.set_cons_succ, i64_w, i32_w]
                        rfl
                      exact norm_ (by first | (simp only [putAll, Act.put, List.setIfInBounds_toArray, List.set_cons_zero, List.set_cons_succ]; done) | (simp only [putAll, Act.put, List.setIfInBounds_toArray, List.set_cons_zero, List.set_cons_succ]; rfl)) (hJ2_3_8 (gl, 0, g3, cap3) _ ⟨HT3, HP3, HB3, HL3, NL, HR33⟩)
                    · skip
                      refine box_step ?hw (N := 8) ?hd (cs := #[.int .i64 0]) (t := 3) ?hr ?_
                      (case hd => rfl)
                      (case hw => rfl)
                      (case hr => first | (go_simp; done) | (go_simp; rfl))
                      intro gu3 hg_ w3 hbx hb
                      have HT3 : Aside0 (TB w3 w.heap.size a0_0 a0_1 a0_2 a0_3 a0_4) := ⟨blk_below (by (with_reducible repeat (first | refine blk_drewN ?_ _ | refine blk_drew ?_ | refine blk_alloc ?_ _)); exact HT.out) hb⟩
                      have HP3 : Aside0 (PB w3 (w.heap.size + 1) 0 0 0 0) := ⟨blk_below (by (with_reducible repeat (first | refine blk_drewN ?_ _ | refine blk_drew ?_ | refine blk_alloc ?_ _)); exact HP.out) hb⟩
                      have HB3 : Aside0 (Below w.heap.size w w3) := ⟨below_step (by repeat (first | (with_reducible first | exact HB.out | apply below_alloc | apply pw_below_drewN | apply below_drew1) | exact HB.out)) hb⟩
                      have HL3 : Aside0 (Boxed w3 gl 53 (.slice none 0 0)) := ⟨blk_below (by (with_reducible repeat (first | refine blk_drewN ?_ _ | refine blk_drew ?_ | refine blk_alloc ?_ _)); exact HL.out) hb⟩
                      have HU3 : Aside0 (Boxed w3 gu3 3 (.int .i64 0)) := ⟨hbx⟩
                      have NU3 : Aside0 (w.heap.size < gu3 ∧ w.heap.size + 1 < gu3) := ⟨by rw [hg_]; exact ⟨blk_lt (by (with_reducible repeat (first | refine blk_drewN ?_ _ | refine blk_drew ?_ | refine blk_alloc ?_ _)); exact HT.out), blk_lt (by (with_reducible repeat (first | refine blk_drewN ?_ _ | refine blk_drew ?_ | refine blk_alloc ?_ _)); exact HP.out)⟩⟩
                      have NLU3 : Aside0 (gl ≠ gu3) := ⟨by rw [hg_]; exact Nat.ne_of_lt (blk_lt (by (with_reducible repeat (first | refine blk_drewN ?_ _ | refine blk_drew ?_ | refine blk_alloc ?_ _)); exact HL.out))⟩
                      refine hK.out _ _ ⟨HT3.out.c0, HT3.out.c1, HT3.out.c2, HT3.out.c3, HT3.out.c4⟩ (fun hHeld => ?_)
                      clear hK K
                      refine norm_ (a' := ?_) ?_ ?_
                      rotate_left
                      · show Act.put _ (some 8) _ = _
                        simp only [Act.put, List.setIfInBounds_toArray, List.set_cons_zero, List.set_cons_succ, i64_w, i32_w]
                        rfl
                      exact norm_ (by first | (simp only [putAll, Act.put, List.setIfInBounds_toArray, List.set_cons_zero, List.set_cons_succ]; done) | (simp only [putAll, Act.put, List.setIfInBounds_toArray, List.set_cons_zero, List.set_cons_succ]; rfl)) (hJ2_8_9 (gl, gu3, 0, 0) _ ⟨HT3, HP3, HB3, HL3, NL, HU3, NU3, NLU3⟩)
                · skip
                  rintro ⟨gl, gu, g, cap⟩ w' ⟨HT, HP, HB, HR3⟩
                  have hHeld := (⟨HT.out.c0, HT.out.c1, HT.out.c2, HT.out.c3, HT.out.c4⟩ : w'.cell? ⟨w.heap.size, 0, none⟩ = some (.int .i64 a0_0) ∧ w'.cell? ⟨w.heap.size, 1, none⟩ = some (.int .i64 a0_1) ∧ w'.cell? ⟨w.heap.size, 2, none⟩ = some (.int .i64 a0_2) ∧ w'.cell? ⟨w.heap.size, 3, none⟩ = some (.int .i64 a0_3) ∧ w'.cell? ⟨w.heap.size, 4, none⟩ = some (.int .i64 a0_4))
                  refine norm_ (a' := ?_) ?_ ?_
                  rotate_left
                  · simp only [putAll, Act.put, List.setIfInBounds_toArray, List.set_cons_zero, List.set_cons_succ]
                    rfl
                  refine two_ (i := 8) (j := 9) (Ni := some 7) (Nj := some 8) #[true, true, true, true, true, true, true, true, true, false, false, false] #[true, true, true, true, true, true, true, true, false, true, false, false] rfl rfl rfl rfl (by kernel_rfl) (by decide) (by decide) (fun K hK => ?_) (fun K hK => ?_)
                  · skip
                    refine box_step ?hw (N := 7) ?hd (cs := #[.slice none 0 0]) (t := 53) ?hr ?_
                    (case hd => rfl)
                    (case hw => rfl)
                    (case hr => first | (go_simp; done) | (go_simp; rfl))
                    intro gl3 hg_ w3 hbx hb
                    have HT3 : Aside0 (TB w3 w.heap.size a0_0 a0_1 a0_2 a0_3 a0_4) := ⟨blk_below (by (with_reducible repeat (first | refine blk_drewN ?_ _ | refine blk_drew ?_ | refine blk_alloc ?_ _)); exact HT.out) hb⟩
                    have HP3 : Aside0 (PB w3 (w.heap.size + 1) 0 0 0 0) := ⟨blk_below (by (with_reducible repeat (first | refine blk_drewN ?_ _ | refine blk_drew ?_ | refine blk_alloc ?_ _)); exact HP.out) hb⟩
                    have HB3 : Aside0 (Below w.heap.size w w3) := ⟨below_step (by repeat (first | (with_reducible first | exact HB.out | apply below_alloc | apply pw_below_drewN | apply below_drew1) | exact HB.out)) hb⟩
                    have HR33 : Aside0 (Kd.R k57 57 w3 w.heap.size (fun _ => True) (.slice (some ⟨g, 0, none⟩) l.length cap) l) := ⟨Kd.R_below (by (with_reducible repeat (first | apply Kd.R_alloc | apply Kd.R_drewN | apply Kd.R_drew)); exact HR3.out) hb⟩
                    have HL3 : Aside0 (Boxed w3 gl3 53 (.slice none 0 0)) := ⟨hbx⟩
                    have NL3 : Aside0 (w.heap.size < gl3 ∧ w.heap.size + 1 < gl3) := ⟨by rw [hg_]; exact ⟨blk_lt (by (with_reducible repeat (first | refine blk_drewN ?_ _ | refine blk_drew ?_ | refine blk_alloc ?_ _)); exact HT.out), blk_lt (by (with_reducible repeat (first | refine blk_drewN ?_ _ | refine blk_drew ?_ | refine blk_alloc ?_ _)); exact HP.out)⟩⟩
                    refine hK.out _ _ ⟨HT3.out.c0, HT3.out.c1, HT3.out.c2, HT3.out.c3, HT3.out.c4⟩ (fun hHeld => ?_)
                    clear hK K
                    refine norm_ (a' := ?_) ?_ ?_
                    rotate_left
                    · show Act.put _ (some 7) _ = _
                      simp only [Act.put, List.setIfInBounds_toArray, List.set_cons_zero, List.set_cons_succ, i64_w, i32_w]
                      rfl
                    exact norm_ (by first | (simp only [putAll, Act.put, List.setIfInBounds_toArray, List.set_cons_zero, List.set_cons_succ]; done) | (simp only [putAll, Act.put, List.setIfInBounds_toArray, List.set_cons_zero, List.set_cons_succ]; rfl)) (hJ2_3_8 (gl3, 0, g, cap) _ ⟨HT3, HP3, HB3, HL3, NL3, HR33⟩)
                  · skip
                    refine box_step ?hw (N := 8) ?hd (cs := #[.int .i64 0]) (t := 3) ?hr ?_
                    (case hd => rfl)
                    (case hw => rfl)
                    (case hr => first | (go_simp; done) | (go_simp; rfl))
                    intro gu3 hg_ w3 hbx hb
                    have HT3 : Aside0 (TB w3 w.heap.size a0_0 a0_1 a0_2 a0_3 a0_4) := ⟨blk_below (by (with_reducible repeat (first | refine blk_drewN ?_ _ | refine blk_drew ?_ | refine blk_alloc ?_ _)); exact HT.out) hb⟩
                    have HP3 : Aside0 (PB w3 (w.heap.size + 1) 0 0 0 0) := ⟨blk_below (by (with_reducible repeat (first | refine blk_drewN ?_ _ | refine blk_drew ?_ | refine blk_alloc ?_ _)); exact HP.out) hb⟩
                    have HB3 : Aside0 (Below w.heap.size w w3) := ⟨below_step (by repeat (first | (with_reducible first | exact HB.out | apply below_alloc | apply pw_below_drewN | apply below_drew1) | exact HB.out)) hb⟩
                    have HR33 : Aside0 (Kd.R k57 57 w3 w.heap.size (fun _ => True) (.slice (some ⟨g, 0, none⟩) l.length cap) l) := ⟨Kd.R_below (by (with_reducible repeat (first | apply Kd.R_alloc | apply Kd.R_drewN | apply Kd.R_drew)); exact HR3.out) hb⟩
                    have HU3 : Aside0 (Boxed w3 gu3 3 (.int .i64 0)) := ⟨hbx⟩
                    have NU3 : Aside0 (w.heap.size < gu3 ∧ w.heap.size + 1 < gu3) := ⟨by rw [hg_]; exact ⟨blk_lt (by (with_reducible repeat (first | refine blk_drewN ?_ _ | refine blk_drew ?_ | refine blk_alloc ?_ _)); exact HT.out), blk_lt (by (with_reducible repeat (first | refine blk_drewN ?_ _ | refine blk_drew ?_ | refine blk_alloc ?_ _)); exact HP.out)⟩⟩
                    refine hK.out _ _ ⟨HT3.out.c0, HT3.out.c1, HT3.out.c2, HT3.out.c3, HT3.out.c4⟩ (fun hHeld => ?_)
                    clear hK K
                    refine norm_ (a' := ?_) ?_ ?_
                    rotate_left
                    · show Act.put _ (some 8) _ = _
                      simp only [Act.put, List.setIfInBounds_toArray, List.set_cons_zero, List.set_cons_succ, i64_w, i32_w]
                      rfl
                    exact norm_ (by first | (simp only [putAll, Act.put, List.setIfInBounds_toArray, List.set_cons_zero, List.set_cons_succ]; done) | (simp only [putAll, Act.put, List.setIfInBounds_toArray, List.set_cons_zero, List.set_cons_succ]; rfl)) (hJ2_3_9 (0, gu3, g, cap) _ ⟨HT3, HP3, HB3, HU3, NU3, HR33⟩)
              · skip
                rintro ⟨gl, gu, g, cap⟩ w' ⟨HT, HP, HB, HL, NL, HU, NU, NLU⟩
                have hHeld := (⟨HT.out.c0, HT.out.c1, HT.out.c2, HT.out.c3, HT.out.c4⟩ : w'.cell? ⟨w.heap.size, 0, none⟩ = some (.int .i64 a0_0) ∧ w'.cell? ⟨w.heap.size, 1, none⟩ = some (.int .i64 a0_1) ∧ w'.cell? ⟨w.heap.size, 2, none⟩ = some (.int .i64 a0_2) ∧ w'.cell? ⟨w.heap.size, 3, none⟩ = some (.int .i64 a0_3) ∧ w'.cell? ⟨w.heap.size, 4, none⟩ = some (.int .i64 a0_4))
                refine norm_ (a' := ?_) ?_ ?_
                rotate_left
                · simp only [putAll, Act.put, List.setIfInBounds_toArray, List.set_cons_zero, List.set_cons_succ]
                  rfl
                refine one_ (i := 3) (N := some 20) #[true, true, true, true, true, true, true, true, true, true, false, false] rfl rfl (by kernel_rfl) (by decide) (fun K hK => ?_)
                refine goes_ Try.func38 (by kernel_rfl) rfl #[.agg #[.int .i64 a0_0, .int .i64 a0_1, .int .i64 a0_2, .int .i64 a0_3, .int .i64 a0_4], .int .i64 n] (by rfl) rfl rfl (by simp only [List.map_toArray, List.map_cons, List.map_nil]; rfl) ?_
                with_reducible refine (phase_pieces.calls _ _ _ _ _ _ l _ HL0.out).mono ?_
                rintro e w3 ⟨v, rfl, hR, hb⟩
                obtain ⟨g3, cap3, rfl, _, _, _⟩ := Kd.R_form hR (by have := HR.out; omega)
                refine ⟨_, rfl, ?_⟩
                have HR33 : Aside0 (Kd.R k57 57 w3 w.heap.size (fun _ => True) (.slice (some ⟨g3, 0, none⟩) l.length cap3) l) := ⟨Kd.R_lower hR (below_size (by repeat (first | (with_reducible first | exact HB.out | apply below_alloc | apply pw_below_drewN | apply below_drew1) | exact HB.out)))⟩
                have HT3 : Aside0 (TB w3 w.heap.size a0_0 a0_1 a0_2 a0_3 a0_4) := ⟨blk_below (by (with_reducible repeat (first | refine blk_drewN ?_ _ | refine blk_drew ?_ | refine blk_alloc ?_ _)); exact HT.out) hb⟩
                have HP3 : Aside0 (PB w3 (w.heap.size + 1) 0 0 0 0) := ⟨blk_below (by (with_reducible repeat (first | refine blk_drewN ?_ _ | refine blk_drew ?_ | refine blk_alloc ?_ _)); exact HP.out) hb⟩
                have HB3 : Aside0 (Below w.heap.size w w3) := ⟨below_step (by repeat (first | (with_reducible first | exact HB.out | apply below_alloc | apply pw_below_drewN | apply below_drew1) | exact HB.out)) hb⟩
                have HL3 : Aside0 (Boxed w3 gl 53 (.slice none 0 0)) := ⟨blk_below (by (with_reducible repeat (first | refine blk_drewN ?_ _ | refine blk_drew ?_ | refine blk_alloc ?_ _)); exact HL.out) hb⟩
                have HU3 : Aside0 (Boxed w3 gu 3 (.int .i64 0)) := ⟨blk_below (by (with_reducible repeat (first | refine blk_drewN ?_ _ | refine blk_drew ?_ | refine blk_alloc ?_ _)); exact HU.out) hb⟩
                refine hK.out _ _ ⟨HT3.out.c0, HT3.out.c1, HT3.out.c2, HT3.out.c3, HT3.out.c4⟩ (fun hHeld => ?_)
                clear hK K
                refine norm_ (a' := ?_) ?_ ?_
                rotate_left
                · show Act.put _ (some 20) _ = _
                  simp only [Act.put, List.setIfInBounds_toArray, List.set_cons_zero, List.set_cons_succ, i64_w, i32_w]
                  rfl
                exact norm_ (by first | (simp only [putAll, Act.put, List.setIfInBounds_toArray, List.set_cons_zero, List.set_cons_succ]; done) | (simp only [putAll, Act.put, List.setIfInBounds_toArray, List.set_cons_zero, List.set_cons_succ]; rfl)) (hJ2_3_8_9 (gl, gu, g3, cap3) _ ⟨HT3, HP3, HB3, HL3, NL, HU3, NU, NLU, HR33⟩)
            · skip
              rintro ⟨gl, gu, g, cap⟩ w' ⟨HT, HP, HB, HU, NU, HR3⟩
              have hHeld := (⟨HT.out.c0, HT.out.c1, HT.out.c2, HT.out.c3, HT.out.c4⟩ : w'.cell? ⟨w.heap.size, 0, none⟩ = some (.int .i64 a0_0) ∧ w'.cell? ⟨w.heap.size, 1, none⟩ = some (.int .i64 a0_1) ∧ w'.cell? ⟨w.heap.size, 2, none⟩ = some (.int .i64 a0_2) ∧ w'.cell? ⟨w.heap.size, 3, none⟩ = some (.int .i64 a0_3) ∧ w'.cell? ⟨w.heap.size, 4, none⟩ = some (.int .i64 a0_4))
              refine norm_ (a' := ?_) ?_ ?_
              rotate_left
              · simp only [putAll, Act.put, List.setIfInBounds_toArray, List.set_cons_zero, List.set_cons_succ]
                rfl
              refine one_ (i := 8) (N := some 7) #[true, true, true, true, true, true, true, true, true, true, false, false] rfl rfl (by kernel_rfl) (by decide) (fun K hK => ?_)
              refine box_step ?hw (N := 7) ?hd (cs := #[.slice none 0 0]) (t := 53) ?hr ?_
              (case hd => rfl)
              (case hw => rfl)
              (case hr => first | (go_simp; done) | (go_simp; rfl))
              intro gl3 hg_ w3 hbx hb
              have HT3 : Aside0 (TB w3 w.heap.size a0_0 a0_1 a0_2 a0_3 a0_4) := ⟨blk_below (by (with_reducible repeat (first | refine blk_drewN ?_ _ | refine blk_drew ?_ | refine blk_alloc ?_ _)); exact HT.out) hb⟩
              have HP3 : Aside0 (PB w3 (w.heap.size + 1) 0 0 0 0) := ⟨blk_below (by (with_reducible repeat (first | refine blk_drewN ?_ _ | refine blk_drew ?_ | refine blk_alloc ?_ _)); exact HP.out) hb⟩
              have HB3 : Aside0 (Below w.heap.size w w3) := ⟨below_step (by repeat (first | (with_reducible first | exact HB.out | apply below_alloc | apply pw_below_drewN | apply below_drew1) | exact HB.out)) hb⟩
              have HU3 : Aside0 (Boxed w3 gu 3 (.int .i64 0)) := ⟨blk_below (by (with_reducible repeat (first | refine blk_drewN ?_ _ | refine blk_drew ?_ | refine blk_alloc ?_ _)); exact HU.out) hb⟩
              have HR33 : Aside0 (Kd.R k57 57 w3 w.heap.size (fun _ => True) (.slice (some ⟨g, 0, none⟩) l.length cap) l) := ⟨Kd.R_below (by (with_reducible repeat (first | apply Kd.R_alloc | apply Kd.R_drewN | apply Kd.R_drew)); exact HR3.out) hb⟩
              have HL3 : Aside0 (Boxed w3 gl3 53 (.slice none 0 0)) := ⟨hbx⟩
              have NL3 : Aside0 (w.heap.size < gl3 ∧ w.heap.size + 1 < gl3) := ⟨by rw [hg_]; exact ⟨blk_lt (by (with_reducible repeat (first | refine blk_drewN ?_ _ | refine blk_drew ?_ | refine blk_alloc ?_ _)); exact HT.out), blk_lt (by (with_reducible repeat (first | refine blk_drewN ?_ _ | refine blk_drew ?_ | refine blk_alloc ?_ _)); exact HP.out)⟩⟩
              have NLU3 : Aside0 (gl3 ≠ gu) := ⟨by rw [hg_]; exact Nat.ne_of_gt (blk_lt (by (with_reducible repeat (first | refine blk_drewN ?_ _ | refine blk_drew ?_ | refine blk_alloc ?_ _)); exact HU.out))⟩
              refine hK.out _ _ ⟨HT3.out.c0, HT3.out.c1, HT3.out.c2, HT3.out.c3, HT3.out.c4⟩ (fun hHeld => ?_)
              clear hK K
              refine norm_ (a' := ?_) ?_ ?_
              rotate_left
              · show Act.put _ (some 7) _ = _
                simp only [Act.put, List.setIfInBounds_toArray, List.set_cons_zero, List.set_cons_succ, i64_w, i32_w]
                rfl
              exact norm_ (by first | (simp only [putAll, Act.put, List.setIfInBounds_toArray, List.set_cons_zero, List.set_cons_succ]; done) | (simp only [putAll, Act.put, List.setIfInBounds_toArray, List.set_cons_zero, List.set_cons_succ]; rfl)) (hJ2_3_8_9 (gl3, gu, g, cap) _ ⟨HT3, HP3, HB3, HL3, NL3, HU3, NU, NLU3, HR33⟩)
          · skip
            rintro ⟨gl, gu, g, cap⟩ w' ⟨HT, HP, HB, HL, NL, HR3⟩
            have hHeld := (⟨HT.out.c0, HT.out.c1, HT.out.c2, HT.out.c3, HT.out.c4⟩ : w'.cell? ⟨w.heap.size, 0, none⟩ = some (.int .i64 a0_0) ∧ w'.cell? ⟨w.heap.size, 1, none⟩ = some (.int .i64 a0_1) ∧ w'.cell? ⟨w.heap.size, 2, none⟩ = some (.int .i64 a0_2) ∧ w'.cell? ⟨w.heap.size, 3, none⟩ = some (.int .i64 a0_3) ∧ w'.cell? ⟨w.heap.size, 4, none⟩ = some (.int .i64 a0_4))
            refine norm_ (a' := ?_) ?_ ?_
            rotate_left
            · simp only [putAll, Act.put, List.setIfInBounds_toArray, List.set_cons_zero, List.set_cons_succ]
              rfl
            refine one_ (i := 9) (N := some 8) #[true, true, true, true, true, true, true, true, true, true, false, false] rfl rfl (by kernel_rfl) (by decide) (fun K hK => ?_)
            refine box_step ?hw (N := 8) ?hd (cs := #[.int .i64 0]) (t := 3) ?hr ?_
            (case hd => rfl)
            (case hw => rfl)
            (case hr => first | (go_simp; done) | (go_simp; rfl))
            intro gu3 hg_ w3 hbx hb
            have HT3 : Aside0 (TB w3 w.heap.size a0_0 a0_1 a0_2 a0_3 a0_4) := ⟨blk_below (by (with_reducible repeat (first | refine blk_drewN ?_ _ | refine blk_drew ?_ | refine blk_alloc ?_ _)); exact HT.out) hb⟩
            have HP3 : Aside0 (PB w3 (w.heap.size + 1) 0 0 0 0) := ⟨blk_below (by (with_reducible repeat (first | refine blk_drewN ?_ _ | refine blk_drew ?_ | refine blk_alloc ?_ _)); exact HP.out) hb⟩
            have HB3 : Aside0 (Below w.heap.size w w3) := ⟨below_step (by repeat (first | (with_reducible first | exact HB.out | apply below_alloc | apply pw_below_drewN | apply below_drew1) | exact HB.out)) hb⟩
            have HL3 : Aside0 (Boxed w3 gl 53 (.slice none 0 0)) := ⟨blk_below (by (with_reducible repeat (first | refine blk_drewN ?_ _ | refine blk_drew ?_ | refine blk_alloc ?_ _)); exact HL.out) hb⟩
            have HR33 : Aside0 (Kd.R k57 57 w3 w.heap.size (fun _ => True) (.slice (some ⟨g, 0, none⟩) l.length cap) l) := ⟨Kd.R_below (by (with_reducible repeat (first | apply Kd.R_alloc | apply Kd.R_drewN | apply Kd.R_drew)); exact HR3.out) hb⟩
            have HU3 : Aside0 (Boxed w3 gu3 3 (.int .i64 0)) := ⟨hbx⟩
            have NU3 : Aside0 (w.heap.size < gu3 ∧ w.heap.size + 1 < gu3) := ⟨by rw [hg_]; exact ⟨blk_lt (by (with_reducible repeat (first | refine blk_drewN ?_ _ | refine blk_drew ?_ | refine blk_alloc ?_ _)); exact HT.out), blk_lt (by (with_reducible repeat (first | refine blk_drewN ?_ _ | refine blk_drew ?_ | refine blk_alloc ?_ _)); exact HP.out)⟩⟩
            have NLU3 : Aside0 (gl ≠ gu3) := ⟨by rw [hg_]; exact Nat.ne_of_lt (blk_lt (by (with_reducible repeat (first | refine blk_drewN ?_ _ | refine blk_drew ?_ | refine blk_alloc ?_ _)); exact HL.out))⟩
            refine hK.out _ _ ⟨HT3.out.c0, HT3.out.c1, HT3.out.c2, HT3.out.c3, HT3.out.c4⟩ (fun hHeld => ?_)
            clear hK K
            refine norm_ (a' := ?_) ?_ ?_
            rotate_left
            · show Act.put _ (some 8) _ = _
              simp only [Act.put, List.setIfInBounds_toArray, List.set_cons_zero, List.set_cons_succ, i64_w, i32_w]
              rfl
            exact norm_ (by first | (simp only [putAll, Act.put, List.setIfInBounds_toArray, List.set_cons_zero, List.set_cons_succ]; done) | (simp only [putAll, Act.put, List.setIfInBounds_toArray, List.set_cons_zero, List.set_cons_succ]; rfl)) (hJ2_3_8_9 (gl, gu3, g, cap) _ ⟨HT3, HP3, HB3, HL3, NL, HU3, NU3, NLU3, HR33⟩)
        rintro ⟨gl, gu, g, cap⟩ w' ⟨HT, HP, HB, HL, NL, HU, NU, NLU, HR3⟩
        have hHeld := (⟨HT.out.c0, HT.out.c1, HT.out.c2, HT.out.c3, HT.out.c4⟩ : w'.cell? ⟨w.heap.size, 0, none⟩ = some (.int .i64 a0_0) ∧ w'.cell? ⟨w.heap.size, 1, none⟩ = some (.int .i64 a0_1) ∧ w'.cell? ⟨w.heap.size, 2, none⟩ = some (.int .i64 a0_2) ∧ w'.cell? ⟨w.heap.size, 3, none⟩ = some (.int .i64 a0_3) ∧ w'.cell? ⟨w.heap.size, 4, none⟩ = some (.int .i64 a0_4))
        refine norm_ (a' := ?_) ?_ ?_
        rotate_left
        · simp only [putAll, Act.put, List.setIfInBounds_toArray, List.set_cons_zero, List.set_cons_succ]
          rfl
        refine one_ (i := 10) (N := none) #[true, true, true, true, true, true, true, true, true, true, true, false] rfl rfl (by kernel_rfl) (by decide) (fun K hK => ?_)
        have cl := HL.out.cell
        have fl := HL.out.frozen
        refine skip_ (w1 := ?_) (by rfl) rfl ?_ ?_
        rotate_left
        · go_simp
          rfl
        have HL3 := Aside0.mk (HL.out.set (.slice (some ⟨g, 0, none⟩) l.length cap))
        have HU3 := Aside0.mk (HU.out.other (Ne.symm NLU.out) (.slice (some ⟨g, 0, none⟩) l.length cap))
        have HT3 : Aside0 (TB _ w.heap.size a0_0 a0_1 a0_2 a0_3 a0_4) := ⟨blk_far HT.out (p := ⟨gl, 0, none⟩) (by have := NL.out; show w.heap.size ≠ gl; omega) (.slice (some ⟨g, 0, none⟩) l.length cap)⟩
        refine hK.out _ _ ⟨HT3.out.c0, HT3.out.c1, HT3.out.c2, HT3.out.c3, HT3.out.c4⟩ (fun hHeld => ?_)
        clear hK K
        refine one_ (i := 11) (N := none) #[true, true, true, true, true, true, true, true, true, true, true, true] rfl rfl (by kernel_rfl) (by decide) (fun K hK => ?_)
        have cu := HU3.out.cell
        have fu := HU3.out.frozen
        refine skip_ (w1 := ?_) (by rfl) rfl ?_ ?_
        rotate_left
        · go_simp
          rfl
        have HL4 := Aside0.mk (HL3.out.other NLU.out (.int .i64 (a1 % a0_3)))
        have HU4 := Aside0.mk (HU3.out.set (.int .i64 (a1 % a0_3)))
        have HT4 : Aside0 (TB _ w.heap.size a0_0 a0_1 a0_2 a0_3 a0_4) := ⟨blk_far HT3.out (p := ⟨gu, 0, none⟩) (by have := NU.out; show w.heap.size ≠ gu; omega) (.int .i64 (a1 % a0_3))⟩
        refine hK.out _ _ ⟨HT4.out.c0, HT4.out.c1, HT4.out.c2, HT4.out.c3, HT4.out.c4⟩ (fun hHeld => ?_)
        clear hK K
        refine done_ (by kernel_rfl) ?_
        -- END4
        obtain ⟨w5, hw5⟩ : ∃ w5, (w'.setCell ⟨gl, 0, none⟩ (.slice (some ⟨g, 0, none⟩) l.length cap)).setCell ⟨gu, 0, none⟩ (.int .i64 (a1 % a0_3)) = w5 := ⟨_, rfl⟩
        have hP5 : PB w5 (w.heap.size + 1) 0 0 0 0 := by rw [← hw5]; exact blk_far (blk_far HP.out (p := ⟨gl, 0, none⟩) (by have := NL.out; show w.heap.size + 1 ≠ gl; omega) _) (p := ⟨gu, 0, none⟩) (by have := NU.out; show w.heap.size + 1 ≠ gu; omega) _
        have hB5 : Below w.heap.size w w5 := by rw [← hw5]; exact (HB.out.setCell (p := ⟨gl, 0, none⟩) (by have := NL.out; show w.heap.size ≤ gl; omega) _).setCell (p := ⟨gu, 0, none⟩) (by have := NU.out; show w.heap.size ≤ gu; omega) _
        have hR5 : Kd.R k57 57 w5 w.heap.size (fun _ => True) (.slice (some ⟨g, 0, none⟩) l.length cap) l := by
          have hE : k57.E = [] := rfl
          rw [← hw5]
          exact Kd.R_set (Kd.R_set HR3.out HL.out (fun q hq => by rw [hE] at hq; simp at hq; omega) 0 _) HU3.out (fun q hq => by rw [hE] at hq; simp at hq; omega) 0 _
        rw [hw5] at HT4 HL4 HU4
        rw [hw5]
        have HP5 := Aside0.mk hP5
        have HB5 := Aside0.mk hB5
        have HR5 := Aside0.mk hR5
        clear hw5 hP5 hB5 hR5 HT HP HB HL HU HR3 HT3 HL3 HU3 cl fl cu fu hHeld
        have NG : Aside0 (g < w5.heap.size) := ⟨Kd.R_lt HR5.out g rfl⟩
        have hC5 : ∀ W, Below w5.heap.size w5 W → Kd.C k57 W (some ⟨g, 0, none⟩) l.length l := fun W hW => Kd.C_below (Kd.R_reads' HR5.out).2.2 hW
        have hat : ∀ W, Below w5.heap.size w5 W → W.cell? ⟨gl, 0, none⟩ = some (.slice (some ⟨g, 0, none⟩) l.length cap) ∧ W.cell? ⟨g, j * 4, none⟩ = some (.int .i64 (rd_T57 l (j : Int)).f0) ∧ W.cell? ⟨g, j * 4 + 1, none⟩ = some (.int .i64 (rd_T57 l (j : Int)).f1) ∧ W.cell? ⟨g, j * 4 + 2, none⟩ = some (.int .i64 (rd_T57 l (j : Int)).f2) ∧ W.cell? ⟨g, j * 4 + 3, none⟩ = some (.int .i64 (rd_T57 l (j : Int)).f3) := fun W hW => by
          obtain ⟨ad, e1, x0, x1, x2, x3⟩ := at_T57 (hC5 W hW) (j : Int) (by omega) (by have := HR.out; omega)
          cases e1
          rw [Int.toNat_natCast, add_plain] at x0 x1 x2 x3
          exact ⟨Boxed.cell ((hW.block _ HL4.out.lt).trans HL4.out), x0, x1, x2, x3⟩
        have hs : ∀ W, Below w5.heap.size w5 W → Calls Try.prog 46 #[.int .i64 l.length, .func (.func 47) #[] #[.pointer (some ⟨gl, 0, none⟩), .pointer (some ⟨gu, 0, none⟩)]] W fun e w' => e = .returned (.int .i64 ((j : Int) + 1)) ∧ Below W.heap.size W w' := fun W hW =>
          search_any 47 #[.pointer (some ⟨gl, 0, none⟩), .pointer (some ⟨gu, 0, none⟩)] (laterQ l (a1 % a0_3)) l.length ((j : Int) + 1) 64 W (enters_of Try.func47 (by kernel_rfl) rfl) (by omega) (by have := HR.out; omega)
            (fun W' i b h0 h1 hq hb => later_any l (a1 % a0_3) i b (some ⟨g, 0, none⟩) cap gl gu W' (((hW.trans (hb.mono hW.size)).block _ HL4.out.lt).trans HL4.out) (((hW.trans (hb.mono hW.size)).block _ HU4.out.lt).trans HU4.out) (hC5 W' (hW.trans (hb.mono hW.size))) hq) HI.out
        have HAT := Aside0.mk hat
        have HS := Aside0.mk hs
        have H5 := Aside0.mk (Below.refl w5.heap.size w5)
        have hr := HR.out
        obtain ⟨hr1, hr2, hr3⟩ := hr
        have hjl : j < l.length := by omega
        have wj : wrap64 (j : Int) = (j : Int) := by unfold wrap64; omega
        have p_ : (0 ≤ (j : Int)) = True := eq_true (by omega)
        have q_ : ((j : Int) < (l.length : Int)) = True := eq_true (by omega)
        clear hat hs hC5
        go_wp2_with fail
        -- REGION5
        refine start_ (n := 10) (S := fun w' => w'.cell? ⟨gl, 0, none⟩ = some (.slice (some ⟨g, 0, none⟩) l.length cap) ∧ w'.cell? ⟨g, j * 4, none⟩ = some (.int .i64 (rd_T57 l (j : Int)).f0) ∧ w'.cell? ⟨g, j * 4 + 1, none⟩ = some (.int .i64 (rd_T57 l (j : Int)).f1) ∧ w'.cell? ⟨g, j * 4 + 2, none⟩ = some (.int .i64 (rd_T57 l (j : Int)).f2) ∧ w'.cell? ⟨g, j * 4 + 3, none⟩ = some (.int .i64 (rd_T57 l (j : Int)).f3)) (ds := []) #[false, false, false, false, false, false, false, false, false, false] (by kernel_rfl) rfl rfl ⟨(HAT.out _ H5.out).1, (HAT.out _ H5.out).2.1, (HAT.out _ H5.out).2.2.1, (HAT.out _ H5.out).2.2.2.1, (HAT.out _ H5.out).2.2.2.2⟩ (fun hHeld => ?_)
        refine pure_ (i := 3) (N := some 28) (v := ?_) (a' := ?_) #[false, false, false, true, false, false, false, false, false, false] rfl rfl (by kernel_rfl) (fun _ _ _ h => h) (Or.inl ⟨by rfl, ?_⟩) ?_ ?_
        rotate_left
        · intro w'
          go_simp
          with_reducible rfl
        rotate_left
        · simp only [Act.put, List.setIfInBounds_toArray, List.set_cons_zero, List.set_cons_succ, i64_w, i32_w]
          rfl
        refine take_ (i := 0) (N := some 25) (v := ?_) (a' := ?_) #[true, false, false, true, false, false, false, false, false, false] rfl rfl (by kernel_rfl) (fun _ _ _ h => h) (Or.inl ⟨by rfl, ?_⟩) hHeld ?_ ?_
        rotate_left
        · rintro w' ⟨s0, s1, s2, s3, s4⟩
          go_simp
          with_reducible rfl
        rotate_left
        · simp only [Act.put, List.setIfInBounds_toArray, List.set_cons_zero, List.set_cons_succ, i64_w, i32_w]
          rfl
        refine take_ (i := 1) (N := some 26) (v := ?_) (a' := ?_) #[true, true, false, true, false, false, false, false, false, false] rfl rfl (by kernel_rfl) (fun _ _ _ h => h) (Or.inl ⟨by rfl, ?_⟩) hHeld ?_ ?_
        rotate_left
        · rintro w' ⟨s0, s1, s2, s3, s4⟩
          go_simp
          with_reducible rfl
        rotate_left
        · simp only [Act.put, List.setIfInBounds_toArray, List.set_cons_zero, List.set_cons_succ, i64_w, i32_w]
          rfl
        refine pure_ (i := 2) (N := some 27) (v := ?_) (a' := ?_) #[true, true, true, true, false, false, false, false, false, false] rfl rfl (by kernel_rfl) (fun _ _ _ h => h) (Or.inl ⟨by rfl, ?_⟩) ?_ ?_
        rotate_left
        · intro w'
          go_simp
          with_reducible rfl
        rotate_left
        · simp only [Act.put, List.setIfInBounds_toArray, List.set_cons_zero, List.set_cons_succ, i64_w, i32_w]
          rfl
        refine join_ (σ := Nat) 1 #[true, true, true, true, true, true, true, true, true, false] (fun gx => [(29, .int .i64 ((j : Int) + 1)), (30, .int .i64 (wrap64 (j : Int))), (31, .pointer (some ⟨g, j * 4, none⟩)), (32, .agg #[.int .i64 (rd_T57 l (j : Int)).f0, .int .i64 (rd_T57 l (j : Int)).f1, .int .i64 (rd_T57 l (j : Int)).f2, .int .i64 (rd_T57 l (j : Int)).f3]), (9, .pointer (some ⟨gx, 0, none⟩))]) (fun gx => fun w' => Aside0 (True) ∧ Aside0 (Below w5.heap.size w5 w') ∧ Aside0 (w'.heap[gx]? = some (.cells #[.int .i64 0, .int .i64 0, .int .i64 0, .int .i64 0] 57 (0, 0))) ∧ Aside0 (w5.heap.size ≤ gx)) ?_ ?_
        rotate_left
        · intro hJ4_8
          refine join_ (σ := Nat) 2 #[true, true, true, true, true, true, true, true, false, false] (fun gx => [(29, .int .i64 ((j : Int) + 1)), (30, .int .i64 (wrap64 (j : Int))), (31, .pointer (some ⟨g, j * 4, none⟩)), (32, .agg #[.int .i64 (rd_T57 l (j : Int)).f0, .int .i64 (rd_T57 l (j : Int)).f1, .int .i64 (rd_T57 l (j : Int)).f2, .int .i64 (rd_T57 l (j : Int)).f3])]) (fun gx => fun w' => Aside0 (True) ∧ Aside0 (Below w5.heap.size w5 w')) ?_ ?_
          rotate_left
          · intro hJ4
            refine join_ (σ := Nat) 5 #[true, true, true, true, false, false, false, false, true, false] (fun gx => [(9, .pointer (some ⟨gx, 0, none⟩))]) (fun gx => fun w' => Aside0 (True) ∧ Aside0 (Below w5.heap.size w5 w') ∧ Aside0 (w'.heap[gx]? = some (.cells #[.int .i64 0, .int .i64 0, .int .i64 0, .int .i64 0] 57 (0, 0))) ∧ Aside0 (w5.heap.size ≤ gx)) ?_ ?_
            rotate_left
            · intro hJ8
              refine two_ (i := 4) (j := 8) (Ni := some 29) (Nj := some 9) #[true, true, true, true, true, false, false, false, false, false] #[true, true, true, true, false, false, false, false, true, false] rfl rfl rfl rfl (by kernel_rfl) (by decide) (by decide) (fun K hK => ?_) (fun K hK => ?_)
              · skip
                refine goes_ Try.func46 (by kernel_rfl) rfl #[.int .i64 l.length, .func (.func 47) #[] #[.pointer (some ⟨gl, 0, none⟩), .pointer (some ⟨gu, 0, none⟩)]] (by rfl) rfl rfl (by simp only [List.map_toArray, List.map_cons, List.map_nil]; rfl) ?_
                with_reducible refine (HS.out _ (by repeat (first | (with_reducible first | exact H5.out | apply below_alloc | apply pw_below_drewN | apply below_drew1) | exact H5.out))).mono ?_
                rintro e w3 ⟨rfl, hb⟩
                refine ⟨_, rfl, ?_⟩
                have HZ3 : Aside0 True := ⟨trivial⟩
                have H53 : Aside0 (Below w5.heap.size w5 w3) := ⟨below_step (by repeat (first | (with_reducible first | exact H5.out | apply below_alloc | apply pw_below_drewN | apply below_drew1) | exact H5.out)) hb⟩
                refine hK.out _ _ ⟨(HAT.out _ H53.out).1, (HAT.out _ H53.out).2.1, (HAT.out _ H53.out).2.2.1, (HAT.out _ H53.out).2.2.2.1, (HAT.out _ H53.out).2.2.2.2⟩ (fun hHeld => ?_)
                clear hK K
                refine norm_ (a' := ?_) ?_ ?_
                rotate_left
                · show Act.put _ (some 29) _ = _
                  simp only [Act.put, List.setIfInBounds_toArray, List.set_cons_zero, List.set_cons_succ, i64_w, i32_w]
                  rfl
                refine pure_ (i := 5) (N := some 30) (v := ?_) (a' := ?_) #[true, true, true, true, true, true, false, false, false, false] rfl rfl (by kernel_rfl) (fun _ _ _ h => h) (Or.inl ⟨by rfl, ?_⟩) ?_ ?_
                rotate_left
                · intro w'
                  go_simp
                  with_reducible rfl
                rotate_left
                · simp only [Act.put, List.setIfInBounds_toArray, List.set_cons_zero, List.set_cons_succ, i64_w, i32_w]
                  rfl
                refine pure_ (i := 6) (N := some 31) (v := ?_) (a' := ?_) #[true, true, true, true, true, true, true, false, false, false] rfl rfl (by kernel_rfl) (fun _ _ _ h => h) (Or.inl ⟨by rfl, ?_⟩) ?_ ?_
                rotate_left
                · intro w'
                  go_simp
                  with_reducible rfl
                rotate_left
                · simp only [Act.put, List.setIfInBounds_toArray, List.set_cons_zero, List.set_cons_succ, i64_w, i32_w]
                  rfl
                refine take_ (i := 7) (N := some 32) (v := ?_) (a' := ?_) #[true, true, true, true, true, true, true, true, false, false] rfl rfl (by kernel_rfl) (fun _ _ _ h => h) (Or.inl ⟨by rfl, ?_⟩) hHeld ?_ ?_
                rotate_left
                · rintro w' ⟨s0, s1, s2, s3, s4⟩
                  go_simp
                  with_reducible rfl
                rotate_left
                · simp only [Act.put, List.setIfInBounds_toArray, List.set_cons_zero, List.set_cons_succ, i64_w, i32_w]
                  rfl
                exact norm_ (by first | (simp only [putAll, Act.put, List.setIfInBounds_toArray, List.set_cons_zero, List.set_cons_succ]; done) | (simp only [putAll, Act.put, List.setIfInBounds_toArray, List.set_cons_zero, List.set_cons_succ]; rfl)) (hJ4 0 _ ⟨HZ3, H53⟩)
              · skip
                refine box_step ?hw (N := 9) ?hd (cs := #[.int .i64 0, .int .i64 0, .int .i64 0, .int .i64 0]) (t := 57) ?hr ?_
                (case hd => rfl)
                (case hw => rfl)
                (case hr => first | (go_simp; done) | (go_simp; rfl))
                intro gx3 hg_ w3 hbx hb
                have HZ3 : Aside0 True := ⟨trivial⟩
                have H53 : Aside0 (Below w5.heap.size w5 w3) := ⟨below_step (by repeat (first | (with_reducible first | exact H5.out | apply below_alloc | apply pw_below_drewN | apply below_drew1) | exact H5.out)) hb⟩
                have HX3 : Aside0 (w3.heap[gx3]? = some (.cells #[.int .i64 0, .int .i64 0, .int .i64 0, .int .i64 0] 57 (0, 0))) := ⟨hbx⟩
                have NX3 : Aside0 (w5.heap.size ≤ gx3) := ⟨by rw [hg_]; exact Below.size (by repeat (first | (with_reducible first | exact H5.out | apply below_alloc | apply pw_below_drewN | apply below_drew1) | exact H5.out))⟩
                refine hK.out _ _ ⟨(HAT.out _ H53.out).1, (HAT.out _ H53.out).2.1, (HAT.out _ H53.out).2.2.1, (HAT.out _ H53.out).2.2.2.1, (HAT.out _ H53.out).2.2.2.2⟩ (fun hHeld => ?_)
                clear hK K
                refine norm_ (a' := ?_) ?_ ?_
                rotate_left
                · show Act.put _ (some 9) _ = _
                  simp only [Act.put, List.setIfInBounds_toArray, List.set_cons_zero, List.set_cons_succ, i64_w, i32_w]
                  rfl
                exact norm_ (by first | (simp only [putAll, Act.put, List.setIfInBounds_toArray, List.set_cons_zero, List.set_cons_succ]; done) | (simp only [putAll, Act.put, List.setIfInBounds_toArray, List.set_cons_zero, List.set_cons_succ]; rfl)) (hJ8 gx3 _ ⟨HZ3, H53, HX3, NX3⟩)
            · skip
              rintro gx w' ⟨HZ, H5, HX, NX⟩
              have hHeld := (⟨(HAT.out _ H5.out).1, (HAT.out _ H5.out).2.1, (HAT.out _ H5.out).2.2.1, (HAT.out _ H5.out).2.2.2.1, (HAT.out _ H5.out).2.2.2.2⟩ : w'.cell? ⟨gl, 0, none⟩ = some (.slice (some ⟨g, 0, none⟩) l.length cap) ∧ w'.cell? ⟨g, j * 4, none⟩ = some (.int .i64 (rd_T57 l (j : Int)).f0) ∧ w'.cell? ⟨g, j * 4 + 1, none⟩ = some (.int .i64 (rd_T57 l (j : Int)).f1) ∧ w'.cell? ⟨g, j * 4 + 2, none⟩ = some (.int .i64 (rd_T57 l (j : Int)).f2) ∧ w'.cell? ⟨g, j * 4 + 3, none⟩ = some (.int .i64 (rd_T57 l (j : Int)).f3))
              refine norm_ (a' := ?_) ?_ ?_
              rotate_left
              · simp only [putAll, Act.put, List.setIfInBounds_toArray, List.set_cons_zero, List.set_cons_succ]
                rfl
              refine one_ (i := 4) (N := some 29) #[true, true, true, true, true, false, false, false, true, false] rfl rfl (by kernel_rfl) (by decide) (fun K hK => ?_)
              refine goes_ Try.func46 (by kernel_rfl) rfl #[.int .i64 l.length, .func (.func 47) #[] #[.pointer (some ⟨gl, 0, none⟩), .pointer (some ⟨gu, 0, none⟩)]] (by rfl) rfl rfl (by simp only [List.map_toArray, List.map_cons, List.map_nil]; rfl) ?_
              with_reducible refine (HS.out _ (by repeat (first | (with_reducible first | exact H5.out | apply below_alloc | apply pw_below_drewN | apply below_drew1) | exact H5.out))).mono ?_
              rintro e w3 ⟨rfl, hb⟩
              refine ⟨_, rfl, ?_⟩
              have HZ3 : Aside0 True := ⟨trivial⟩
              have H53 : Aside0 (Below w5.heap.size w5 w3) := ⟨below_step (by repeat (first | (with_reducible first | exact H5.out | apply below_alloc | apply pw_below_drewN | apply below_drew1) | exact H5.out)) hb⟩
              have HX3 : Aside0 (w3.heap[gx]? = some (.cells #[.int .i64 0, .int .i64 0, .int .i64 0, .int .i64 0] 57 (0, 0))) := ⟨blk_below (by (with_reducible repeat (first | refine blk_drewN ?_ _ | refine blk_drew ?_ | refine blk_alloc ?_ _)); exact HX.out) hb⟩
              refine hK.out _ _ ⟨(HAT.out _ H53.out).1, (HAT.out _ H53.out).2.1, (HAT.out _ H53.out).2.2.1, (HAT.out _ H53.out).2.2.2.1, (HAT.out _ H53.out).2.2.2.2⟩ (fun hHeld => ?_)
              clear hK K
              refine norm_ (a' := ?_) ?_ ?_
              rotate_left
              · show Act.put _ (some 29) _ = _
                simp only [Act.put, List.setIfInBounds_toArray, List.set_cons_zero, List.set_cons_succ, i64_w, i32_w]
                rfl
              refine pure_ (i := 5) (N := some 30) (v := ?_) (a' := ?_) #[true, true, true, true, true, true, false, false, true, false] rfl rfl (by kernel_rfl) (fun _ _ _ h => h) (Or.inl ⟨by rfl, ?_⟩) ?_ ?_
              rotate_left
              · intro w'
                go_simp
                with_reducible rfl
              rotate_left
              · simp only [Act.put, List.setIfInBounds_toArray, List.set_cons_zero, List.set_cons_succ, i64_w, i32_w]
                rfl
              refine pure_ (i := 6) (N := some 31) (v := ?_) (a' := ?_) #[true, true, true, true, true, true, true, false, true, false] rfl rfl (by kernel_rfl) (fun _ _ _ h => h) (Or.inl ⟨by rfl, ?_⟩) ?_ ?_
              rotate_left
              · intro w'
                go_simp
                with_reducible rfl
              rotate_left
              · simp only [Act.put, List.setIfInBounds_toArray, List.set_cons_zero, List.set_cons_succ, i64_w, i32_w]
                rfl
              refine take_ (i := 7) (N := some 32) (v := ?_) (a' := ?_) #[true, true, true, true, true, true, true, true, true, false] rfl rfl (by kernel_rfl) (fun _ _ _ h => h) (Or.inl ⟨by rfl, ?_⟩) hHeld ?_ ?_
              rotate_left
              · rintro w' ⟨s0, s1, s2, s3, s4⟩
                go_simp
                with_reducible rfl
              rotate_left
              · simp only [Act.put, List.setIfInBounds_toArray, List.set_cons_zero, List.set_cons_succ, i64_w, i32_w]
                rfl
              exact norm_ (by first | (simp only [putAll, Act.put, List.setIfInBounds_toArray, List.set_cons_zero, List.set_cons_succ]; done) | (simp only [putAll, Act.put, List.setIfInBounds_toArray, List.set_cons_zero, List.set_cons_succ]; rfl)) (hJ4_8 gx _ ⟨HZ3, H53, HX3, NX⟩)
          · skip
            rintro gx w' ⟨HZ, H5⟩
            have hHeld := (⟨(HAT.out _ H5.out).1, (HAT.out _ H5.out).2.1, (HAT.out _ H5.out).2.2.1, (HAT.out _ H5.out).2.2.2.1, (HAT.out _ H5.out).2.2.2.2⟩ : w'.cell? ⟨gl, 0, none⟩ = some (.slice (some ⟨g, 0, none⟩) l.length cap) ∧ w'.cell? ⟨g, j * 4, none⟩ = some (.int .i64 (rd_T57 l (j : Int)).f0) ∧ w'.cell? ⟨g, j * 4 + 1, none⟩ = some (.int .i64 (rd_T57 l (j : Int)).f1) ∧ w'.cell? ⟨g, j * 4 + 2, none⟩ = some (.int .i64 (rd_T57 l (j : Int)).f2) ∧ w'.cell? ⟨g, j * 4 + 3, none⟩ = some (.int .i64 (rd_T57 l (j : Int)).f3))
            refine norm_ (a' := ?_) ?_ ?_
            rotate_left
            · simp only [putAll, Act.put, List.setIfInBounds_toArray, List.set_cons_zero, List.set_cons_succ]
              rfl
            refine one_ (i := 8) (N := some 9) #[true, true, true, true, true, true, true, true, true, false] rfl rfl (by kernel_rfl) (by decide) (fun K hK => ?_)
            refine box_step ?hw (N := 9) ?hd (cs := #[.int .i64 0, .int .i64 0, .int .i64 0, .int .i64 0]) (t := 57) ?hr ?_
            (case hd => rfl)
            (case hw => rfl)
            (case hr => first | (go_simp; done) | (go_simp; rfl))
            intro gx3 hg_ w3 hbx hb
            have HZ3 : Aside0 True := ⟨trivial⟩
            have H53 : Aside0 (Below w5.heap.size w5 w3) := ⟨below_step (by repeat (first | (with_reducible first | exact H5.out | apply below_alloc | apply pw_below_drewN | apply below_drew1) | exact H5.out)) hb⟩
            have HX3 : Aside0 (w3.heap[gx3]? = some (.cells #[.int .i64 0, .int .i64 0, .int .i64 0, .int .i64 0] 57 (0, 0))) := ⟨hbx⟩
            have NX3 : Aside0 (w5.heap.size ≤ gx3) := ⟨by rw [hg_]; exact Below.size (by repeat (first | (with_reducible first | exact H5.out | apply below_alloc | apply pw_below_drewN | apply below_drew1) | exact H5.out))⟩
            refine hK.out _ _ ⟨(HAT.out _ H53.out).1, (HAT.out _ H53.out).2.1, (HAT.out _ H53.out).2.2.1, (HAT.out _ H53.out).2.2.2.1, (HAT.out _ H53.out).2.2.2.2⟩ (fun hHeld => ?_)
            clear hK K
            refine norm_ (a' := ?_) ?_ ?_
            rotate_left
            · show Act.put _ (some 9) _ = _
              simp only [Act.put, List.setIfInBounds_toArray, List.set_cons_zero, List.set_cons_succ, i64_w, i32_w]
              rfl
            exact norm_ (by first | (simp only [putAll, Act.put, List.setIfInBounds_toArray, List.set_cons_zero, List.set_cons_succ]; done) | (simp only [putAll, Act.put, List.setIfInBounds_toArray, List.set_cons_zero, List.set_cons_succ]; rfl)) (hJ4_8 gx3 _ ⟨HZ3, H53, HX3, NX3⟩)
        rintro gx w' ⟨HZ, H5, HX, NX⟩
        have hHeld := (⟨(HAT.out _ H5.out).1, (HAT.out _ H5.out).2.1, (HAT.out _ H5.out).2.2.1, (HAT.out _ H5.out).2.2.2.1, (HAT.out _ H5.out).2.2.2.2⟩ : w'.cell? ⟨gl, 0, none⟩ = some (.slice (some ⟨g, 0, none⟩) l.length cap) ∧ w'.cell? ⟨g, j * 4, none⟩ = some (.int .i64 (rd_T57 l (j : Int)).f0) ∧ w'.cell? ⟨g, j * 4 + 1, none⟩ = some (.int .i64 (rd_T57 l (j : Int)).f1) ∧ w'.cell? ⟨g, j * 4 + 2, none⟩ = some (.int .i64 (rd_T57 l (j : Int)).f2) ∧ w'.cell? ⟨g, j * 4 + 3, none⟩ = some (.int .i64 (rd_T57 l (j : Int)).f3))
        refine norm_ (a' := ?_) ?_ ?_
        rotate_left
        · simp only [putAll, Act.put, List.setIfInBounds_toArray, List.set_cons_zero, List.set_cons_succ]
          rfl
        refine one_ (i := 9) (N := none) #[true, true, true, true, true, true, true, true, true, true] rfl rfl (by kernel_rfl) (by decide) (fun K hK => ?_)
        have cx0 := (blk_cell HX.out 0).trans rfl
        have cx1 := (blk_cell HX.out 1).trans rfl
        have cx2 := (blk_cell HX.out 2).trans rfl
        have cx3 := (blk_cell HX.out 3).trans rfl
        have fx0 := blk_frozen HX.out 0
        have fx1 := blk_frozen HX.out 1
        have fx2 := blk_frozen HX.out 2
        have fx3 := blk_frozen HX.out 3
        refine skip_ (w1 := ?_) (by rfl) rfl ?_ ?_
        rotate_left
        · go_simp
          rfl
        have H53 : Aside0 (Below w5.heap.size w5 ((((w'.setCell ⟨gx, 0, none⟩ (.int .i64 (rd_T57 l (j : Int)).f0)).setCell ⟨gx, 1, none⟩ (.int .i64 (rd_T57 l (j : Int)).f1)).setCell ⟨gx, 2, none⟩ (.int .i64 (rd_T57 l (j : Int)).f2)).setCell ⟨gx, 3, none⟩ (.int .i64 (rd_T57 l (j : Int)).f3))) := ⟨(((H5.out.setCell (p := ⟨gx, 0, none⟩) NX.out _).setCell (p := ⟨gx, 1, none⟩) NX.out _).setCell (p := ⟨gx, 2, none⟩) NX.out _).setCell (p := ⟨gx, 3, none⟩) NX.out _⟩
        have HX3 := Aside0.mk (blk_set (blk_set (blk_set (blk_set HX.out 0 (.int .i64 (rd_T57 l (j : Int)).f0)) 1 (.int .i64 (rd_T57 l (j : Int)).f1)) 2 (.int .i64 (rd_T57 l (j : Int)).f2)) 3 (.int .i64 (rd_T57 l (j : Int)).f3))
        refine hK.out _ _ ⟨(HAT.out _ H53.out).1, (HAT.out _ H53.out).2.1, (HAT.out _ H53.out).2.2.1, (HAT.out _ H53.out).2.2.2.1, (HAT.out _ H53.out).2.2.2.2⟩ (fun hHeld => ?_)
        clear hK K
        refine done_ (by kernel_rfl) ?_
        -- END5
        obtain ⟨w6, hw6⟩ : ∃ w6, ((((w'.setCell ⟨gx, 0, none⟩ (.int .i64 (rd_T57 l (j : Int)).f0)).setCell ⟨gx, 1, none⟩ (.int .i64 (rd_T57 l (j : Int)).f1)).setCell ⟨gx, 2, none⟩ (.int .i64 (rd_T57 l (j : Int)).f2)).setCell ⟨gx, 3, none⟩ (.int .i64 (rd_T57 l (j : Int)).f3)) = w6 := ⟨_, rfl⟩
        rw [hw6] at H53 HX3
        rw [hw6]
        have HT6 : Aside0 (TB w6 w.heap.size a0_0 a0_1 a0_2 a0_3 a0_4) := ⟨(H53.out.block _ HT4.out.lt).trans HT4.out⟩
        have HP6 : Aside0 (PB w6 (w.heap.size + 1) 0 0 0 0) := ⟨(H53.out.block _ HP5.out.lt).trans HP5.out⟩
        have HU6 : Aside0 (Boxed w6 gu 3 (.int .i64 (a1 % a0_3))) := ⟨(H53.out.block _ HU4.out.lt).trans HU4.out⟩
        have HB6 : Aside0 (Below w.heap.size w w6) := ⟨HB5.out.trans (H53.out.mono HB5.out.size)⟩
        have HX6 : Aside0 (w6.heap[gx]? = some (.cells #[.int .i64 (rd_T57 l (j : Int)).f0, .int .i64 (rd_T57 l (j : Int)).f1, .int .i64 (rd_T57 l (j : Int)).f2, .int .i64 (rd_T57 l (j : Int)).f3] 57 (0, 0))) := ⟨HX3.out⟩
        clear hw6 cx0 cx1 cx2 cx3 fx0 fx1 fx2 fx3 hHeld H5 H53 HX HX3
        go_wp2_with fail
        -- REGION6
        refine start_ (n := 15) (S := fun w' => w'.cell? ⟨w.heap.size, 3, none⟩ = some (.int .i64 a0_3) ∧ w'.cell? ⟨gx, 0, none⟩ = some (.int .i64 (rd_T57 l (j : Int)).f0) ∧ w'.cell? ⟨gx, 1, none⟩ = some (.int .i64 (rd_T57 l (j : Int)).f1) ∧ w'.cell? ⟨gx, 2, none⟩ = some (.int .i64 (rd_T57 l (j : Int)).f2) ∧ w'.cell? ⟨gu, 0, none⟩ = some (.int .i64 (a1 % a0_3))) (ds := [13]) #[false, false, false, false, false, false, false, false, false, false, false, false, false, false, false] (by kernel_rfl) rfl rfl ⟨HT6.out.c3, (blk_cell HX6.out 0).trans rfl, (blk_cell HX6.out 1).trans rfl, (blk_cell HX6.out 2).trans rfl, HU6.out.cell⟩ (fun hHeld => ?_)
        refine pure_ (i := 0) (N := some 33) (v := ?_) (a' := ?_) #[true, false, false, false, false, false, false, false, false, false, false, false, false, false, false] rfl rfl (by kernel_rfl) (fun _ _ _ h => h) (Or.inl ⟨by rfl, ?_⟩) ?_ ?_
        rotate_left
        · intro w'
          go_simp
          with_reducible rfl
        rotate_left
        · simp only [Act.put, List.setIfInBounds_toArray, List.set_cons_zero, List.set_cons_succ, i64_w, i32_w]
          rfl
        refine pure_ (i := 1) (N := some 34) (v := ?_) (a' := ?_) #[true, true, false, false, false, false, false, false, false, false, false, false, false, false, false] rfl rfl (by kernel_rfl) (fun _ _ _ h => h) (Or.inl ⟨by rfl, ?_⟩) ?_ ?_
        rotate_left
        · intro w'
          go_simp
          with_reducible rfl
        rotate_left
        · simp only [Act.put, List.setIfInBounds_toArray, List.set_cons_zero, List.set_cons_succ, i64_w, i32_w]
          rfl
        refine pure_ (i := 4) (N := some 37) (v := ?_) (a' := ?_) #[true, true, false, false, true, false, false, false, false, false, false, false, false, false, false] rfl rfl (by kernel_rfl) (fun _ _ _ h => h) (Or.inl ⟨by rfl, ?_⟩) ?_ ?_
        rotate_left
        · intro w'
          go_simp
          with_reducible rfl
        rotate_left
        · simp only [Act.put, List.setIfInBounds_toArray, List.set_cons_zero, List.set_cons_succ, i64_w, i32_w]
          rfl
        refine pure_ (i := 6) (N := some 39) (v := ?_) (a' := ?_) #[true, true, false, false, true, false, true, false, false, false, false, false, false, false, false] rfl rfl (by kernel_rfl) (fun _ _ _ h => h) (Or.inl ⟨by rfl, ?_⟩) ?_ ?_
        rotate_left
        · intro w'
          go_simp
          with_reducible rfl
        rotate_left
        · simp only [Act.put, List.setIfInBounds_toArray, List.set_cons_zero, List.set_cons_succ, i64_w, i32_w]
          rfl
        refine pure_ (i := 9) (N := some 42) (v := ?_) (a' := ?_) #[true, true, false, false, true, false, true, false, false, true, false, false, false, false, false] rfl rfl (by kernel_rfl) (fun _ _ _ h => h) (Or.inl ⟨by rfl, ?_⟩) ?_ ?_
        rotate_left
        · intro w'
          go_simp
          with_reducible rfl
        rotate_left
        · simp only [Act.put, List.setIfInBounds_toArray, List.set_cons_zero, List.set_cons_succ, i64_w, i32_w]
          rfl
        refine take_ (i := 2) (N := some 35) (v := ?_) (a' := ?_) #[true, true, true, false, true, false, true, false, false, true, false, false, false, false, false] rfl rfl (by kernel_rfl) (fun _ _ _ h => h) (Or.inl ⟨by rfl, ?_⟩) hHeld ?_ ?_
        rotate_left
        · rintro w' ⟨s0, s1, s2, s3, s4⟩
          go_simp
          with_reducible rfl
        rotate_left
        · simp only [Act.put, List.setIfInBounds_toArray, List.set_cons_zero, List.set_cons_succ, i64_w, i32_w]
          rfl
        refine pure_ (i := 3) (N := some 36) (v := ?_) (a' := ?_) #[true, true, true, true, true, false, true, false, false, true, false, false, false, false, false] rfl rfl (by kernel_rfl) (fun _ _ _ h => h) (Or.inl ⟨by rfl, ?_⟩) ?_ ?_
        rotate_left
        · intro w'
          go_simp
          with_reducible rfl
        rotate_left
        · simp only [Act.put, List.setIfInBounds_toArray, List.set_cons_zero, List.set_cons_succ, i64_w, i32_w]
          rfl
        refine take_ (i := 5) (N := some 38) (v := ?_) (a' := ?_) #[true, true, true, true, true, true, true, false, false, true, false, false, false, false, false] rfl rfl (by kernel_rfl) (fun _ _ _ h => h) (Or.inl ⟨by rfl, ?_⟩) hHeld ?_ ?_
        rotate_left
        · rintro w' ⟨s0, s1, s2, s3, s4⟩
          go_simp
          with_reducible rfl
        rotate_left
        · simp only [Act.put, List.setIfInBounds_toArray, List.set_cons_zero, List.set_cons_succ, i64_w, i32_w]
          rfl
        refine take_ (i := 7) (N := some 40) (v := ?_) (a' := ?_) #[true, true, true, true, true, true, true, true, false, true, false, false, false, false, false] rfl rfl (by kernel_rfl) (fun _ _ _ h => h) (Or.inl ⟨by rfl, ?_⟩) hHeld ?_ ?_
        rotate_left
        · rintro w' ⟨s0, s1, s2, s3, s4⟩
          go_simp
          with_reducible rfl
        rotate_left
        · simp only [Act.put, List.setIfInBounds_toArray, List.set_cons_zero, List.set_cons_succ, i64_w, i32_w]
          rfl
        refine take_ (i := 8) (N := some 41) (v := ?_) (a' := ?_) #[true, true, true, true, true, true, true, true, true, true, false, false, false, false, false] rfl rfl (by kernel_rfl) (fun _ _ _ h => h) (Or.inl ⟨by rfl, ?_⟩) hHeld ?_ ?_
        rotate_left
        · rintro w' ⟨s0, s1, s2, s3, s4⟩
          go_simp
          with_reducible rfl
        rotate_left
        · simp only [Act.put, List.setIfInBounds_toArray, List.set_cons_zero, List.set_cons_succ, i64_w, i32_w]
          rfl
        refine take_ (i := 10) (N := some 43) (v := ?_) (a' := ?_) #[true, true, true, true, true, true, true, true, true, true, true, false, false, false, false] rfl rfl (by kernel_rfl) (fun _ _ _ h => h) (Or.inl ⟨by rfl, ?_⟩) hHeld ?_ ?_
        rotate_left
        · rintro w' ⟨s0, s1, s2, s3, s4⟩
          go_simp
          with_reducible rfl
        rotate_left
        · simp only [Act.put, List.setIfInBounds_toArray, List.set_cons_zero, List.set_cons_succ, i64_w, i32_w]
          rfl
        refine pure_ (i := 11) (N := some 44) (v := ?_) (a' := ?_) #[true, true, true, true, true, true, true, true, true, true, true, true, false, false, false] rfl rfl (by kernel_rfl) (fun _ _ _ h => h) (Or.inl ⟨by rfl, ?_⟩) ?_ ?_
        rotate_left
        · intro w'
          go_simp
          with_reducible rfl
        rotate_left
        · simp only [Act.put, List.setIfInBounds_toArray, List.set_cons_zero, List.set_cons_succ, i64_w, i32_w]
          rfl
        refine pure_ (i := 12) (N := some 45) (v := ?_) (a' := ?_) #[true, true, true, true, true, true, true, true, true, true, true, true, true, false, false] rfl rfl (by kernel_rfl) (fun _ _ _ h => h) (Or.inl ⟨by rfl, ?_⟩) ?_ ?_
        rotate_left
        · intro w'
          go_simp
          with_reducible rfl
        rotate_left
        · simp only [Act.put, List.setIfInBounds_toArray, List.set_cons_zero, List.set_cons_succ, i64_w, i32_w]
          rfl
        refine last_ (i := 13) (N := none) #[true, true, true, true, true, true, true, true, true, true, true, true, true, true, false] rfl rfl (by kernel_rfl) (by decide) (fun K hK => ?_)
        have cp0 := HP6.out.c0
        have cp1 := HP6.out.c1
        have cp2 := HP6.out.c2
        have cp3 := HP6.out.c3
        have fp0 := blk_frozen HP6.out 0
        have fp1 := blk_frozen HP6.out 1
        have fp2 := blk_frozen HP6.out 2
        have fp3 := blk_frozen HP6.out 3
        refine skip_ (w1 := ?_) (by rfl) rfl ?_ ?_
        rotate_left
        · go_simp
          rfl
        have HP7 := Aside0.mk (blk_set (blk_set (blk_set (blk_set HP6.out 0 (.int .i64 (wrap64 (a1 / a0_3)))) 1 (.int .i64 (rd_T57 l (j : Int)).f0)) 2 (.int .i64 (rd_T57 l (j : Int)).f1)) 3 (.int .i64 (wrap64 (a1 % a0_3 - (rd_T57 l (j : Int)).f2))))
        have HB7 : Aside0 (Below w.heap.size w ((((w6.setCell ⟨w.heap.size + 1, 0, none⟩ (.int .i64 (wrap64 (a1 / a0_3)))).setCell ⟨w.heap.size + 1, 1, none⟩ (.int .i64 (rd_T57 l (j : Int)).f0)).setCell ⟨w.heap.size + 1, 2, none⟩ (.int .i64 (rd_T57 l (j : Int)).f1)).setCell ⟨w.heap.size + 1, 3, none⟩ (.int .i64 (wrap64 (a1 % a0_3 - (rd_T57 l (j : Int)).f2))))) := ⟨(((HB6.out.setCell (p := ⟨w.heap.size + 1, 0, none⟩) (Nat.le_succ _) _).setCell (p := ⟨w.heap.size + 1, 1, none⟩) (Nat.le_succ _) _).setCell (p := ⟨w.heap.size + 1, 2, none⟩) (Nat.le_succ _) _).setCell (p := ⟨w.heap.size + 1, 3, none⟩) (Nat.le_succ _) _⟩
        refine hK.out _ _ ?_
        clear hK K
        refine pure_ (i := 14) (N := some 5) (v := ?_) (a' := ?_) #[true, true, true, true, true, true, true, true, true, true, true, true, true, true, true] rfl rfl (by kernel_rfl) (fun _ _ _ h => h) (Or.inl ⟨by rfl, ?_⟩) ?_ ?_
        rotate_left
        · intro w'
          go_simp
          with_reducible rfl
        rotate_left
        · simp only [Act.put, List.setIfInBounds_toArray, List.set_cons_zero, List.set_cons_succ, i64_w, i32_w]
          rfl
        refine done_ (by kernel_rfl) ?_
        -- END6
        obtain ⟨w7, hw7⟩ : ∃ w7, ((((w6.setCell ⟨w.heap.size + 1, 0, none⟩ (.int .i64 (wrap64 (a1 / a0_3)))).setCell ⟨w.heap.size + 1, 1, none⟩ (.int .i64 (rd_T57 l (j : Int)).f0)).setCell ⟨w.heap.size + 1, 2, none⟩ (.int .i64 (rd_T57 l (j : Int)).f1)).setCell ⟨w.heap.size + 1, 3, none⟩ (.int .i64 (wrap64 (a1 % a0_3 - (rd_T57 l (j : Int)).f2)))) = w7 := ⟨_, rfl⟩
        rw [hw7] at HP7 HB7
        rw [hw7]
        have hp7 : w7.heap[w.heap.size + 1]? = some (.cells #[.int .i64 (wrap64 (a1 / a0_3)), .int .i64 (rd_T57 l (j : Int)).f0, .int .i64 (rd_T57 l (j : Int)).f1, .int .i64 (wrap64 (a1 % a0_3 - (rd_T57 l (j : Int)).f2))] 25 (0, 0)) := by have := HP7.out; simpa using this
        clear hw7 HP7 cp0 cp1 cp2 cp3 fp0 fp1 fp2 fp3 hHeld
        go_wp2_with fail
        (try simp only [Exit.inBlock, Exit.then])
        refine bodyPost_ret (results_ct rfl _ _ (w.heap.size + 1) 25 #[.int .i64 (wrap64 (a1 / a0_3)), .int .i64 (rd_T57 l (j : Int)).f0, .int .i64 (rd_T57 l (j : Int)).f1, .int .i64 (wrap64 (a1 % a0_3 - (rd_T57 l (j : Int)).f2))] (0, 0) _ rfl hp7 Try.underlying25 rfl (by kernel_rfl)) rfl ?_
        exact ⟨rfl, by repeat (first | exact HB7.out | apply below_drew1 | apply pw_below_drewN)⟩
      · rw [if_neg hr] at hp; cases hp
    · rw [if_neg hc] at h; cases h
  · have h := H.out
    rw [if_neg he0] at h
    simp only [Option.some.injEq, Prod.mk.injEq] at h
    obtain ⟨rfl, rfl, rfl, rfl, rfl⟩ := h
    have n1 : (er != 0) = true := by rw [bne_iff_ne]; exact he0
    have q0 := HP.out.c0
    have q1 := HP.out.c1
    have q2 := HP.out.c2
    have q3 := HP.out.c3
    have f0 := blk_frozen HP.out 0
    have f1 := blk_frozen HP.out 1
    have f2 := blk_frozen HP.out 2
    have f3 := blk_frozen HP.out 3
    clear H HE he0
    go_wp2_with fail
    have HP7 := blk_set (blk_set (blk_set (blk_set HP.out 0 (.int .i64 0)) 1 (.int .i64 0)) 2 (.int .i64 0)) 3 (.int .i64 0)
    have hp7 := HP7
    simp only [List.setIfInBounds_toArray, List.set_cons_zero, List.set_cons_succ] at hp7
    refine bodyPost_ret (results_ct rfl _ _ (w.heap.size + 1) 25 #[.int .i64 0, .int .i64 0, .int .i64 0, .int .i64 0] (0, 0) _ rfl hp7 Try.underlying25 rfl (by kernel_rfl)) rfl ?_
    exact ⟨rfl, (((HB.out.setCell (p := ⟨w.heap.size + 1, 0, none⟩) (Nat.le_succ _) _).setCell (p := ⟨w.heap.size + 1, 1, none⟩) (Nat.le_succ _) _).setCell (p := ⟨w.heap.size + 1, 2, none⟩) (Nat.le_succ _) _).setCell (p := ⟨w.heap.size + 1, 3, none⟩) (Nat.le_succ _) _⟩

end Go.Proofs.Ytlfeiadmkoocgaa.S
