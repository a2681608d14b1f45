/- motion.Step, Stop and Run, walked. -/
import Derived.Test.YtocbjclflabmcaaHpos
namespace Go.Proofs.Ytocbjclflabmcaa.S
open Go.RowKit Go.Proofs.YtocbjclflabmcaaW.PrintWords Go.Proofs.YtocbjclflabmcaaW.PrintLast Go.Proofs.YtocbjclflabmcaaW.PrintMore
set_option linter.unusedVariables false
set_option linter.unusedSimpArgs false

theorem mot_resAt {w : World} {B : Nat} {p g s m : Int} (h : Mot w B p g s m) (e : Value) (i j : Nat) (fn : Func) (hr : fn.results = #[.cell i 23, .tmp j]) (tmps : Array Value) (h4 : tmps[i]? = some (.pointer (some ⟨B, 0, none⟩))) (h5 : tmps[j]? = some e) :
    (results fn tmps).run Try.prog w = .ok (.tuple #[.agg #[.int .i64 p, .int .i64 g, .int .i64 s, .int .i64 m], e]) w := by
  have hu := Try.underlying23
  have c0 := h.c0
  have c1 := h.c1
  have c2 := h.c2
  have c3 := h.c3
  simp [results, hr, go_sem, h4, h5, c0, c1, c2, c3, hu]

theorem below_set4 {n : Nat} {w W : World} (h : Below n w W) {B : Nat} (hB : n ≤ B) (x y z u : Value) : Below n w ((((W.setCell ⟨B, 0, none⟩ x).setCell ⟨B, 1, none⟩ y).setCell ⟨B, 2, none⟩ z).setCell ⟨B, 3, none⟩ u) :=
  (((h.setCell (p := ⟨B, 0, none⟩) hB _).setCell (p := ⟨B, 1, none⟩) hB _).setCell (p := ⟨B, 2, none⟩) hB _).setCell (p := ⟨B, 3, none⟩) hB _

set_option maxHeartbeats 1000000 in
set_option maxRecDepth 100000 in
theorem stop_any (B : Nat) (p g s m : Int) (w : World) (h : Car w B p g s m) : Calls Try.prog 49 #[.pointer (some ⟨B, 0, none⟩)] w fun e w' => e = .returned (.tuple #[]) ∧ Car w' B p p 0 m ∧ w.grownBy w' (some B) := by
  have hu := Try.underlying48
  have c0 := h.c0
  have c1 := h.c1
  have c2 := h.c2
  have f1 := h.fr 1
  have f2 := h.fr 2
  have H := Aside0.mk h
  clear h
  go_enter Try.func49, Try.ntmps49
  go_wp2_with fail
  go_end0
  exact ⟨rfl, (H.out.setGoal p).setSpeed 0, grown_ext (grown_set _ _ _ _) (grown_set _ _ _ _) (fun r e => .inr (by cases e; rfl))⟩

def motion_Step.f (p g s m : Int) : Option (Int × Int × Int × Int × Int) :=
  (motion_Check.f p g s m).map fun e => if e = 0 then ((tickV p g s m).1, g, (tickV p g s m).2, m, 0) else (0, 0, 0, 0, e)
def motion_Stop.f (p g s m : Int) : Option (Int × Int × Int × Int × Int) :=
  (motion_Check.f p g s m).map fun e => if e = 0 then (p, p, 0, m, 0) else (0, 0, 0, 0, e)

set_option maxHeartbeats 1000000 in
set_option maxRecDepth 100000 in
theorem motion_Step.calls (a0_0 a0_1 a0_2 a0_3 : Int) (r1 r2 r3 r4 r5 : Int) (w : World) (h : motion_Step.f a0_0 a0_1 a0_2 a0_3 = some (r1, r2, r3, r4, r5)) :
    Calls Try.prog 13 #[.agg #[.int .i64 a0_0, .int .i64 a0_1, .int .i64 a0_2, .int .i64 a0_3]] w fun e w' => e = .returned (.tuple #[.agg #[.int .i64 r1, .int .i64 r2, .int .i64 r3, .int .i64 r4], .int .i64 r5]) ∧ Below w.heap.size w w' := by
  have hu := Try.underlying48
  have hu23 := Try.underlying23
  have hd : ∀ (A : Nat) (W : World), A < W.heap.size → W.cell? ⟨A, 0, none⟩ = some (.func (.func 42) #[] #[]) → Calls Try.prog 41 #[.agg #[.int .i64 a0_0, .int .i64 a0_1, .int .i64 a0_2, .int .i64 a0_3], .slice (some ⟨A, 0, none⟩) 1 1] W fun e w' => e = .returned (.tuple #[.agg #[.int .i64 r1, .int .i64 r2, .int .i64 r3, .int .i64 r4], .int .i64 r5]) ∧ Below W.heap.size W w' := by
    intro A W hA hc
    obtain ⟨e, he, hr⟩ := Option.map_eq_some_iff.1 h
    by_cases h0 : e = 0
    · rw [if_pos h0] at hr
      subst h0
      simp only [Prod.mk.injEq] at hr
      obtain ⟨rfl, rfl, rfl, rfl, rfl⟩ := hr
      exact do_yes a0_0 a0_1 a0_2 a0_3 _ _ _ A _ #[] W he hA hc (enters_of Try.func42 (by kernel_rfl) rfl) (fun B W _ _ hcar => step_any B _ _ _ _ W hcar)
    · rw [if_neg h0] at hr
      simp only [Prod.mk.injEq] at hr
      obtain ⟨rfl, rfl, rfl, rfl, rfl⟩ := hr
      exact do_no a0_0 a0_1 a0_2 a0_3 e A W he h0
  have HD := Aside0.mk hd
  clear hd h
  go_enter Try.func13, Try.ntmps13
  go_wp2_with fail
  have hc := (Boxed.new ((w.alloc (.cells #[.int .i64 a0_0, .int .i64 a0_1, .int .i64 a0_2, .int .i64 a0_3] 23)).alloc (.cells #[.int .i64 0, .int .i64 0, .int .i64 0, .int .i64 0] 23)) 53 (.func (.func 42) #[] #[])).cell
  rw [World.size_alloc, World.size_alloc] at hc
  refine (HD.out _ _ (by simp) hc).mono ?_
  rintro e w1 ⟨rfl, hb⟩
  have hn := Mot.new (w.alloc (.cells #[.int .i64 a0_0, .int .i64 a0_1, .int .i64 a0_2, .int .i64 a0_3] 23)) 0 0 0 0
  rw [World.size_alloc] at hn
  have hM := (hn.alloc (.cells #[.func (.func 42) #[] #[]] 53)).below hb (by simp)
  have HM := Aside0.mk hM
  have HB := Aside0.mk (((((Below.refl _ w).alloc (Nat.le_refl _) (.cells #[.int .i64 a0_0, .int .i64 a0_1, .int .i64 a0_2, .int .i64 a0_3] 23)).alloc (by simp) (.cells #[.int .i64 0, .int .i64 0, .int .i64 0, .int .i64 0] 23)).alloc (by simp; omega) (.cells #[.func (.func 42) #[] #[]] 53)).trans (hb.mono (by simp; omega)))
  have c0 := hM.c0
  have c1 := hM.c1
  have c2 := hM.c2
  have c3 := hM.c3
  have f0 := hM.fr 0
  have f1 := hM.fr 1
  have f2 := hM.fr 2
  have f3 := hM.fr 3
  clear hn hM hb hc
  go_wp2_with fail
  refine bodyPost_ret (v := .tuple #[.agg #[.int .i64 r1, .int .i64 r2, .int .i64 r3, .int .i64 r4], .int .i64 r5]) (mot_resAt (HM.out.set4 r1 r2 r3 r4) (.int .i64 r5) 2 3 _ rfl _ rfl rfl) rfl ⟨rfl, ?_⟩
  exact below_set4 HB.out (by omega) _ _ _ _

set_option maxHeartbeats 1000000 in
set_option maxRecDepth 100000 in
theorem motion_Stop.calls (a0_0 a0_1 a0_2 a0_3 : Int) (r1 r2 r3 r4 r5 : Int) (w : World) (h : motion_Stop.f a0_0 a0_1 a0_2 a0_3 = some (r1, r2, r3, r4, r5)) :
    Calls Try.prog 25 #[.agg #[.int .i64 a0_0, .int .i64 a0_1, .int .i64 a0_2, .int .i64 a0_3]] w fun e w' => e = .returned (.tuple #[.agg #[.int .i64 r1, .int .i64 r2, .int .i64 r3, .int .i64 r4], .int .i64 r5]) ∧ Below w.heap.size w w' := by
  have hu := Try.underlying48
  have hu23 := Try.underlying23
  have hd : ∀ (A : Nat) (W : World), A < W.heap.size → W.cell? ⟨A, 0, none⟩ = some (.func (.func 49) #[] #[]) → Calls Try.prog 41 #[.agg #[.int .i64 a0_0, .int .i64 a0_1, .int .i64 a0_2, .int .i64 a0_3], .slice (some ⟨A, 0, none⟩) 1 1] W fun e w' => e = .returned (.tuple #[.agg #[.int .i64 r1, .int .i64 r2, .int .i64 r3, .int .i64 r4], .int .i64 r5]) ∧ Below W.heap.size W w' := by
    intro A W hA hc
    obtain ⟨e, he, hr⟩ := Option.map_eq_some_iff.1 h
    by_cases h0 : e = 0
    · rw [if_pos h0] at hr
      subst h0
      simp only [Prod.mk.injEq] at hr
      obtain ⟨rfl, rfl, rfl, rfl, rfl⟩ := hr
      exact do_yes a0_0 a0_1 a0_2 a0_3 _ _ _ A _ #[] W he hA hc (enters_of Try.func49 (by kernel_rfl) rfl) (fun B W _ _ hcar => stop_any B _ _ _ _ W hcar)
    · rw [if_neg h0] at hr
      simp only [Prod.mk.injEq] at hr
      obtain ⟨rfl, rfl, rfl, rfl, rfl⟩ := hr
      exact do_no a0_0 a0_1 a0_2 a0_3 e A W he h0
  have HD := Aside0.mk hd
  clear hd h
  go_enter Try.func25, Try.ntmps25
  go_wp2_with fail
  have hc := (Boxed.new ((w.alloc (.cells #[.int .i64 a0_0, .int .i64 a0_1, .int .i64 a0_2, .int .i64 a0_3] 23)).alloc (.cells #[.int .i64 0, .int .i64 0, .int .i64 0, .int .i64 0] 23)) 53 (.func (.func 49) #[] #[])).cell
  rw [World.size_alloc, World.size_alloc] at hc
  refine (HD.out _ _ (by simp) hc).mono ?_
  rintro e w1 ⟨rfl, hb⟩
  have hn := Mot.new (w.alloc (.cells #[.int .i64 a0_0, .int .i64 a0_1, .int .i64 a0_2, .int .i64 a0_3] 23)) 0 0 0 0
  rw [World.size_alloc] at hn
  have hM := (hn.alloc (.cells #[.func (.func 49) #[] #[]] 53)).below hb (by simp)
  have HM := Aside0.mk hM
  have HB := Aside0.mk (((((Below.refl _ w).alloc (Nat.le_refl _) (.cells #[.int .i64 a0_0, .int .i64 a0_1, .int .i64 a0_2, .int .i64 a0_3] 23)).alloc (by simp) (.cells #[.int .i64 0, .int .i64 0, .int .i64 0, .int .i64 0] 23)).alloc (by simp; omega) (.cells #[.func (.func 49) #[] #[]] 53)).trans (hb.mono (by simp; omega)))
  have c0 := hM.c0
  have c1 := hM.c1
  have c2 := hM.c2
  have c3 := hM.c3
  have f0 := hM.fr 0
  have f1 := hM.fr 1
  have f2 := hM.fr 2
  have f3 := hM.fr 3
  clear hn hM hb hc
  go_wp2_with fail
  refine bodyPost_ret (v := .tuple #[.agg #[.int .i64 r1, .int .i64 r2, .int .i64 r3, .int .i64 r4], .int .i64 r5]) (mot_resAt (HM.out.set4 r1 r2 r3 r4) (.int .i64 r5) 2 3 _ rfl _ rfl rfl) rfl ⟨rfl, ?_⟩
  exact below_set4 HB.out (by omega) _ _ _ _

/-- A car, so many ticks on at most. -/
def runN : Nat → Int → Int → Int → Int → Int × Int
  | 0, p, _, s, _ => (p, s)
  | k + 1, p, g, s, m => if restV p g > 0 then runN k (tickV p g s m).1 g (tickV p g s m).2 m else (p, s)

set_option maxHeartbeats 1000000 in
set_option maxRecDepth 100000 in
theorem run1_any (B Bt : Nat) (p g s m n : Int) (h0 : 0 ≤ n) (h1 : n ≤ 100000) (hne : ¬ Bt = B) (w : World) (h : Car w B p g s m) (ht : Boxed w Bt 3 (.int .i64 n)) :
    Calls Try.prog 44 #[.pointer (some ⟨B, 0, none⟩), .pointer (some ⟨Bt, 0, none⟩)] w fun e w' => e = .returned (.tuple #[]) ∧ Car w' B (runN n.toNat p g s m).1 g (runN n.toNat p g s m).2 m ∧ w.grownBy w' (some B) := by
  obtain ⟨N, rfl⟩ : ∃ N : Nat, n = N := ⟨n.toNat, by omega⟩
  simp only [Int.toNat_natCast]
  have H := Aside0.mk h
  have HT := Aside0.mk ht
  clear h ht
  go_enter Try.func44, Try.ntmps44
  go_wp2_with fail
  go_loopw [3] (fun v wr => ∃ (i : Nat) (p1 s1 : Int), v = .int .i64 i ∧ i ≤ N ∧ Aside0 (runN (N - i) p1 g s1 m = runN N p g s m) ∧ Aside0 (Car wr B p1 g s1 m ∧ Boxed wr Bt 3 (.int .i64 N) ∧ w.grownBy wr (some B))) (fun v _ => N - (intOf v).toNat)
  case atStart => exact ⟨0, p, s, rfl, by omega, ⟨rfl⟩, ⟨H.out, HT.out, grown_refl _ _⟩⟩
  case round =>
    obtain ⟨i, p1, s1, rfl, hi, hrun, hs⟩ := hrel
    have ct := hs.out.2.1.cell
    by_cases hlt : i < N
    · have hd1 : decide ((i : Int) < (N : Int)) = true := decide_eq_true (by omega)
      cases hp : decide (0 < restV p1 g) with
      | true =>
        have hr2 : runN (N - (i + 1)) (tickV p1 g s1 m).1 g (tickV p1 g s1 m).2 m = runN N p g s m := by
          have h := hrun.out
          rw [show N - i = (N - (i + 1)) + 1 by omega, runN, if_pos (of_decide_eq_true hp)] at h
          exact h
        have HR2 := Aside0.mk hr2
        clear hr2
        go_wp2_with fail
        refine (rest_any B p1 g s1 m _ hs.out.1).mono ?_
        rintro e w1 ⟨rfl, ⟨nd, rfl⟩⟩
        go_wp2_with fail
        refine (step_any B p1 g s1 m _ (hs.out.1.drewN nd)).mono ?_
        rintro e w2 ⟨rfl, hc2, hg2⟩
        have HC2 := Aside0.mk hc2
        have HG2 := Aside0.mk hg2
        clear hc2 hg2
        go_wp2_with fail
        go_roundw
        case rel =>
          refine ⟨i + 1, _, _, by go_num, by omega, HR2, ⟨HC2.out, ?_, ?_⟩⟩
          · exact (HG2.out.block Bt hs.out.2.1.lt (fun e => hne (Option.some.inj e))).trans hs.out.2.1
          · exact grown_ext (grown_ext hs.out.2.2 (grown_drewN _ nd none) (fun r e => by cases e)) HG2.out (fun r e => .inr (by cases e; rfl))
        case measure => simp [intOf]; omega
      | false =>
        have hr2 : runN N p g s m = (p1, s1) := by
          have h := hrun.out
          rw [show N - i = (N - (i + 1)) + 1 by omega, runN, if_neg (of_decide_eq_false hp)] at h
          exact h.symm
        have HR2 := Aside0.mk hr2
        clear hr2
        go_wp2_with fail
        refine (rest_any B p1 g s1 m _ hs.out.1).mono ?_
        rintro e w1 ⟨rfl, ⟨nd, rfl⟩⟩
        go_wp2_with fail
        go_end0
        exact ⟨rfl, by rw [HR2.out]; exact hs.out.1.drewN nd, grown_ext hs.out.2.2 (grown_drewN _ nd none) (fun r e => by cases e)⟩
    · have hd1 : decide ((i : Int) < (N : Int)) = false := decide_eq_false (by omega)
      have hr2 : runN N p g s m = (p1, s1) := by
        have h := hrun.out
        rw [show N - i = 0 by omega, runN] at h
        exact h.symm
      have HR2 := Aside0.mk hr2
      clear hr2
      go_wp2_with fail
      go_end0
      exact ⟨rfl, by rw [HR2.out]; exact hs.out.1, hs.out.2.2⟩

def motion_Run.f (p g s m n : Int) : Option (Int × Int × Int × Int × Int) :=
  (motion_Check.f p g s m).map fun e => if e = 0 then (if n < 0 ∨ 100000 < n then (0, 0, 0, 0, 2) else ((runN n.toNat p g s m).1, g, (runN n.toNat p g s m).2, m, 0)) else (0, 0, 0, 0, e)

set_option maxHeartbeats 4000000 in
set_option maxRecDepth 100000 in
theorem motion_Run.calls (a0_0 a0_1 a0_2 a0_3 a1 : Int) (r1 r2 r3 r4 r5 : Int) (w : World) (h : motion_Run.f a0_0 a0_1 a0_2 a0_3 a1 = some (r1, r2, r3, r4, r5)) :
    Calls Try.prog 15 #[.agg #[.int .i64 a0_0, .int .i64 a0_1, .int .i64 a0_2, .int .i64 a0_3], .int .i64 a1] w fun e w' => e = .returned (.tuple #[.agg #[.int .i64 r1, .int .i64 r2, .int .i64 r3, .int .i64 r4], .int .i64 r5]) ∧ Below w.heap.size w w' := by
  have hu := Try.underlying48
  have hu23 := Try.underlying23
  have hmf : ∀ (fn : Fn) (first cap : Array Value) (w : World), (Instr.makeFunc fn first cap).run Try.prog w = .ok (.func fn first cap) w := fun _ _ _ _ => rfl
  obtain ⟨e, he, hr⟩ := Option.map_eq_some_iff.1 h
  have HE := Aside0.mk he
  have HR := Aside0.mk hr
  clear h he hr
  go_enter Try.func15, Try.ntmps15
  go_wp2_with fail
  refine (motion_Check.calls a0_0 a0_1 a0_2 a0_3 e _ HE.out).mono ?_
  rintro e0 w1 ⟨rfl, hb⟩
  have hm0 := ((Mot.new w a0_0 a0_1 a0_2 a0_3).alloc (.cells #[.int .i64 a1] 3)).alloc (.cells #[.int .i64 0, .int .i64 0, .int .i64 0, .int .i64 0] 23)
  have ht0 := (Boxed.new (w.alloc (.cells #[.int .i64 a0_0, .int .i64 a0_1, .int .i64 a0_2, .int .i64 a0_3] 23)) 3 (.int .i64 a1)).alloc (.cells #[.int .i64 0, .int .i64 0, .int .i64 0, .int .i64 0] 23)
  have hn := Mot.new ((w.alloc (.cells #[.int .i64 a0_0, .int .i64 a0_1, .int .i64 a0_2, .int .i64 a0_3] 23)).alloc (.cells #[.int .i64 a1] 3)) 0 0 0 0
  rw [World.size_alloc] at ht0
  rw [World.size_alloc, World.size_alloc] at hn
  have hM0 := hm0.below hb (by simp; omega)
  have hT : Boxed w1 (w.heap.size + 1) 3 (.int .i64 a1) := (hb.block _ (by simp)).trans ht0
  have hM := hn.below hb (by simp)
  have HB := Aside0.mk (((((Below.refl _ w).alloc (Nat.le_refl _) (.cells #[.int .i64 a0_0, .int .i64 a0_1, .int .i64 a0_2, .int .i64 a0_3] 23)).alloc (by simp) (.cells #[.int .i64 a1] 3)).alloc (by simp; omega) (.cells #[.int .i64 0, .int .i64 0, .int .i64 0, .int .i64 0] 23)).trans (hb.mono (by simp; omega)))
  have hsz : w.heap.size + 1 + 1 + 1 ≤ w1.heap.size := by have := hb.size; simp at this; omega
  have k0 := hM0.c0
  have k1 := hM0.c1
  have k2 := hM0.c2
  have k3 := hM0.c3
  have ct := hT.cell
  have HM := Aside0.mk hM
  have HT := Aside0.mk hT
  clear hm0 ht0 hn hM0 hM hT hb
  by_cases h0 : e = 0
  · subst h0
    have hr := HR.out
    rw [if_pos rfl] at hr
    have HR2 := Aside0.mk hr
    clear hr HR
    cases d1 : decide (a1 < 0) with
    | true =>
      have hr := HR2.out
      rw [if_pos (.inl (of_decide_eq_true d1))] at hr
      simp only [Prod.mk.injEq] at hr
      obtain ⟨rfl, rfl, rfl, rfl, rfl⟩ := hr
      have c0 := HM.out.c0
      have c1 := HM.out.c1
      have c2 := HM.out.c2
      have c3 := HM.out.c3
      have f0 := HM.out.fr 0
      have f1 := HM.out.fr 1
      have f2 := HM.out.fr 2
      have f3 := HM.out.fr 3
      go_wp2_with fail
      refine bodyPost_ret (v := .tuple #[.agg #[.int .i64 0, .int .i64 0, .int .i64 0, .int .i64 0], .int .i64 2]) (mot_resAt (HM.out.set4 0 0 0 0) (.int .i64 2) 4 5 _ rfl _ rfl rfl) rfl ⟨rfl, ?_⟩
      exact below_set4 HB.out (by omega) _ _ _ _
    | false =>
      cases d2 : decide (100000 < a1) with
      | true =>
        have hr := HR2.out
        rw [if_pos (.inr (of_decide_eq_true d2))] at hr
        simp only [Prod.mk.injEq] at hr
        obtain ⟨rfl, rfl, rfl, rfl, rfl⟩ := hr
        have c0 := HM.out.c0
        have c1 := HM.out.c1
        have c2 := HM.out.c2
        have c3 := HM.out.c3
        have f0 := HM.out.fr 0
        have f1 := HM.out.fr 1
        have f2 := HM.out.fr 2
        have f3 := HM.out.fr 3
        go_wp2_with fail
        refine bodyPost_ret (v := .tuple #[.agg #[.int .i64 0, .int .i64 0, .int .i64 0, .int .i64 0], .int .i64 2]) (mot_resAt (HM.out.set4 0 0 0 0) (.int .i64 2) 4 5 _ rfl _ rfl rfl) rfl ⟨rfl, ?_⟩
        exact below_set4 HB.out (by omega) _ _ _ _
      | false =>
        have hr := HR2.out
        have hlo : 0 ≤ a1 := by have := of_decide_eq_false d1; omega
        have hhi : a1 ≤ 100000 := by have := of_decide_eq_false d2; omega
        rw [if_neg (by omega)] at hr
        simp only [Prod.mk.injEq] at hr
        obtain ⟨rfl, rfl, rfl, rfl, rfl⟩ := hr
        clear HR2
        go_wp2_with fail
        have hc := (Boxed.new w1 53 (.func (.func 44) #[] #[.pointer (some ⟨w.heap.size + 1, 0, none⟩)])).cell
        have HT2 := Aside0.mk (HT.out.alloc (.cells #[.func (.func 44) #[] #[.pointer (some ⟨w.heap.size + 1, 0, none⟩)]] 53))
        refine (do_yes a0_0 a0_1 a0_2 a0_3 _ _ _ w1.heap.size _ #[.pointer (some ⟨w.heap.size + 1, 0, none⟩)] _ HE.out (by simp) hc (enters_of Try.func44 (by kernel_rfl) rfl) (fun B W hB hbW hcar => run1_any B (w.heap.size + 1) _ _ _ _ a1 hlo hhi (by simp at hB; omega) W hcar ((hbW.block _ (by simp; omega)).trans HT2.out))).mono ?_
        rintro e w2 ⟨rfl, hb2⟩
        have hM2 := (HM.out.alloc (.cells #[.func (.func 44) #[] #[.pointer (some ⟨w.heap.size + 1, 0, none⟩)]] 53)).below hb2 (by simp; omega)
        have HM2 := Aside0.mk hM2
        have HB2 := Aside0.mk ((HB.out.alloc (by omega) (.cells #[.func (.func 44) #[] #[.pointer (some ⟨w.heap.size + 1, 0, none⟩)]] 53)).trans (hb2.mono (by simp; omega)))
        clear hM2 hb2 hc k0 k1 k2 k3 ct
        have c0 := HM2.out.c0
        have c1 := HM2.out.c1
        have c2 := HM2.out.c2
        have c3 := HM2.out.c3
        have f0 := HM2.out.fr 0
        have f1 := HM2.out.fr 1
        have f2 := HM2.out.fr 2
        have f3 := HM2.out.fr 3
        obtain ⟨q, hq⟩ : ∃ q, runN a1.toNat a0_0 a0_1 a0_2 a0_3 = q := ⟨_, rfl⟩
        rw [hq]
        have HQ := Aside0.mk hq
        clear hq
        go_wp2_with fail
        refine bodyPost_ret (v := .tuple #[.agg #[.int .i64 q.1, .int .i64 a0_1, .int .i64 q.2, .int .i64 a0_3], .int .i64 0]) (mot_resAt (HM2.out.set4 q.1 a0_1 q.2 a0_3) (.int .i64 0) 4 5 _ rfl _ rfl rfl) rfl ⟨by rw [HQ.out], ?_⟩
        exact below_set4 HB2.out (by omega) _ _ _ _
  · have n4 : (e != 0) = true := bne_iff_ne.mpr h0
    have hr := HR.out
    rw [if_neg h0] at hr
    simp only [Prod.mk.injEq] at hr
    obtain ⟨rfl, rfl, rfl, rfl, rfl⟩ := hr
    clear h0 HR k0 k1 k2 k3 ct
    have c0 := HM.out.c0
    have c1 := HM.out.c1
    have c2 := HM.out.c2
    have c3 := HM.out.c3
    have f0 := HM.out.fr 0
    have f1 := HM.out.fr 1
    have f2 := HM.out.fr 2
    have f3 := HM.out.fr 3
    go_wp2_with fail
    refine bodyPost_ret (v := .tuple #[.agg #[.int .i64 0, .int .i64 0, .int .i64 0, .int .i64 0], .int .i64 e]) (mot_resAt (HM.out.set4 0 0 0 0) (.int .i64 e) 4 5 _ rfl _ rfl rfl) rfl ⟨rfl, ?_⟩
    exact below_set4 HB.out (by omega) _ _ _ _

end Go.Proofs.Ytocbjclflabmcaa.S
