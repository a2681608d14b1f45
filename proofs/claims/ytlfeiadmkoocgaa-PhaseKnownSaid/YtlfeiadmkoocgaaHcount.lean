/- phase.Count, walked. -/
import Derived.Test.YtlfeiadmkoocgaaHbefore
namespace Go.Proofs.Ytlfeiadmkoocgaa.S
open Go.RowKit Go.Proofs.YtlfeiadmkoocgaaW.PrintWords Go.Proofs.YtlfeiadmkoocgaaW.PrintLast Go.Proofs.YtlfeiadmkoocgaaW.PrintMore
set_option linter.unusedVariables false
set_option linter.unusedSimpArgs false

def phase_Count.f (k : Nat) (a0_0 a0_1 a0_2 a0_3 a0_4 a1 a2 a3 : Int) : Option (Int × Int) :=
  (phase_Check.f k a0_0 a0_1 a0_2 a0_3 a0_4).bind fun e => (if e = 0 then phase_kinds.f a3 else some e).bind fun e =>
    if e = 0 then (if a1 < 0 ∨ a2 < a1 ∨ a2 > 1099511627776 then some (0, 2) else
      (phase_trips.f a0_0 a0_1 a0_2 a0_3 a0_4).bind fun n => (phase_pieces.f a0_0 a0_1 a0_2 a0_3 a0_4 n).bind fun l => (beforeF l a0_3 a3 a2).bind fun y => (beforeF l a0_3 a3 a1).bind fun x => if 0 < l.length then some (wrap64 (y - x), 0) else none)
    else some (0, e)
theorem phase_Count.mono : ∀ a0_0 a0_1 a0_2 a0_3 a0_4 a1 a2 a3 k, LeO (phase_Count.f k a0_0 a0_1 a0_2 a0_3 a0_4 a1 a2 a3) (phase_Count.f (k + 1) a0_0 a0_1 a0_2 a0_3 a0_4 a1 a2 a3) := fun a0_0 a0_1 a0_2 a0_3 a0_4 a1 a2 a3 k =>
  LeO.bind (phase_Check.mono a0_0 a0_1 a0_2 a0_3 a0_4 k) (fun _ => LeO.refl _)

theorem check_any (k : Nat) (a b c d e r : Int) (h : phase_Check.f k a b c d e = some r) (w : World) : Calls Try.prog 20 #[.agg #[.int .i64 a, .int .i64 b, .int .i64 c, .int .i64 d, .int .i64 e]] w fun e w' => e = .returned (.int .i64 r) ∧ Below w.heap.size w w' := phase_Check.calls k a b c d e r w h
theorem kinds_any (a r : Int) (h : phase_kinds.f a = some r) (w : World) : Calls Try.prog 37 #[.int .i64 a] w fun e w' => e = .returned (.int .i64 r) ∧ Drawn0 w w' := phase_kinds.calls a r w h

set_option maxHeartbeats 2000000 in
set_option maxRecDepth 100000 in
theorem phase_Count.calls (k : Nat) (a0_0 : Int) (a0_1 : Int) (a0_2 : Int) (a0_3 : Int) (a0_4 : Int) (a1 : Int) (a2 : Int) (a3 : Int) (r1 : Int) (r2 : Int) (w : World) (h : phase_Count.f k a0_0 a0_1 a0_2 a0_3 a0_4 a1 a2 a3 = some (r1, r2)) :
    Calls Try.prog 28 #[.agg #[.int .i64 a0_0, .int .i64 a0_1, .int .i64 a0_2, .int .i64 a0_3, .int .i64 a0_4], .int .i64 a1, .int .i64 a2, .int .i64 a3] w fun e w' => e = .returned (.tuple #[.int .i64 r1, .int .i64 r2]) ∧ Below w.heap.size w w' := by
  have hu := Try.underlying23
  have hu65 := Try.underlying65
  have hmf : ∀ (fn : Fn) (first cap : Array Value) (w : World), (Instr.makeFunc fn first cap).run Try.prog w = .ok (.func fn first cap) w := fun _ _ _ _ => rfl
  unfold phase_Count.f at h
  obtain ⟨e1, he1, h⟩ := Option.bind_eq_some_iff.1 h
  obtain ⟨e2, he2, h⟩ := Option.bind_eq_some_iff.1 h
  have HE1 := Aside0.mk he1
  have H := Aside0.mk h
  clear he1 h
  go_enter Try.func28, Try.ntmps28
  go_wp2_with fail
  refine (check_any k _ _ _ _ _ e1 HE1.out _).mono ?_
  rintro e w' ⟨rfl, hb⟩
  obtain ⟨wd, hwd⟩ : ∃ wd, w.alloc (.cells #[.int .i64 a0_0, .int .i64 a0_1, .int .i64 a0_2, .int .i64 a0_3, .int .i64 a0_4] 23) = wd := ⟨_, rfl⟩
  have hT : TB wd w.heap.size a0_0 a0_1 a0_2 a0_3 a0_4 := by rw [← hwd]; exact heap_alloc_new w _
  have hBd : Below w.heap.size w wd := by rw [← hwd]; exact (Below.refl _ w).alloc (Nat.le_refl _) _
  rw [hwd] at hb
  have HT := Aside0.mk (hT.below hb hT.lt)
  have HB := Aside0.mk (hBd.trans (hb.mono hBd.size))
  clear hT hBd hb hwd
  by_cases h1 : e1 = 0
  · rw [if_pos h1] at he2
    have HE2 := Aside0.mk he2
    have n1 : (e1 == 0) = true := by rw [h1]; rfl
    clear he2 h1
    go_wp2_with fail
    refine (kinds_any a3 e2 HE2.out _).mono ?_
    rintro e w2 ⟨rfl, m, rfl⟩
    have HT2 : Aside0 (TB (w'.drewN m) w.heap.size a0_0 a0_1 a0_2 a0_3 a0_4) := ⟨HT.out⟩
    have HB2 := Aside0.mk (pw_below_drewN HB.out m)
    obtain ⟨wk, hwk⟩ : ∃ wk, w'.drewN m = wk := ⟨_, rfl⟩
    rw [hwk] at HT2 HB2
    rw [hwk]
    clear hwk HT HB n1
    have h := H.out
    by_cases h2 : e2 = 0
    · rw [if_pos h2] at h
      have n2 : (e2 == 0) = true := by rw [h2]; rfl
      by_cases hr : a1 < 0 ∨ a2 < a1 ∨ a2 > 1099511627776
      · rw [if_pos hr] at h
        simp only [Option.some.injEq, Prod.mk.injEq] at h
        obtain ⟨rfl, rfl⟩ := h
        clear H HE1 HE2 h2
        by_cases q1 : a1 < 0
        · have d1 : decide (a1 < 0) = true := decide_eq_true q1
          clear q1 hr
          go_wp2
          go_ret2
          exact ⟨rfl, HB2.out⟩
        · have d1 : decide (a1 < 0) = false := decide_eq_false q1
          by_cases q2 : a2 < a1
          · have d2 : decide (a2 < a1) = true := decide_eq_true q2
            clear q1 q2 hr
            go_wp2
            go_ret2
            exact ⟨rfl, HB2.out⟩
          · have d2 : decide (a2 < a1) = false := decide_eq_false q2
            have d3 : decide (1099511627776 < a2) = true := decide_eq_true (by omega)
            clear q1 q2 hr
            go_wp2
            go_ret2
            exact ⟨rfl, HB2.out⟩
      · rw [if_neg hr] at h
        have d1 : decide (a1 < 0) = false := decide_eq_false (by omega)
        have d2 : decide (a2 < a1) = false := decide_eq_false (by omega)
        have d3 : decide (1099511627776 < a2) = false := decide_eq_false (by omega)
        have n3 : (e2 != 0) = false := by rw [h2]; rfl
        have H3 := Aside0.mk h
        clear hr H HE1 HE2 h2 H3
        obtain ⟨n, hn, h⟩ := Option.bind_eq_some_iff.1 h
        obtain ⟨l, hl, h⟩ := Option.bind_eq_some_iff.1 h
        obtain ⟨y, hy, h⟩ := Option.bind_eq_some_iff.1 h
        obtain ⟨x, hx, h⟩ := Option.bind_eq_some_iff.1 h
        by_cases hp : 0 < l.length
        · rw [if_pos hp] at h
          simp only [Option.some.injEq, Prod.mk.injEq] at h
          obtain ⟨rfl, rfl⟩ := h
          have HN := Aside0.mk hn
          have HL0 := Aside0.mk hl
          have HY := Aside0.mk hy
          have HX0 := Aside0.mk hx
          have HP := Aside0.mk hp
          have HT := HT2
          have HB := HB2
          clear hn hl hy hx hp HT2 HB2
          have HT2 := HT
          go_wp2_with fail
        -- REGION8
          refine start_ (n := 9) (S := fun w' => w'.cell? ⟨w.heap.size, 0, none⟩ = some (.int .i64 a0_0) ∧ w'.cell? ⟨w.heap.size, 1, none⟩ = some (.int .i64 a0_1) ∧ w'.cell? ⟨w.heap.size, 2, none⟩ = some (.int .i64 a0_2) ∧ w'.cell? ⟨w.heap.size, 3, none⟩ = some (.int .i64 a0_3) ∧ w'.cell? ⟨w.heap.size, 4, none⟩ = some (.int .i64 a0_4)) (ds := [8]) #[false, false, false, false, false, false, false, false, false] (by kernel_rfl) rfl rfl ⟨(show TB _ _ _ _ _ _ _ from HT2.out).c0, (show TB _ _ _ _ _ _ _ from HT2.out).c1, (show TB _ _ _ _ _ _ _ from HT2.out).c2, (show TB _ _ _ _ _ _ _ from HT2.out).c3, (show TB _ _ _ _ _ _ _ from HT2.out).c4⟩ (fun hHeld => ?_)
          refine pure_ (i := 5) (N := some 41) (v := ?_) (a' := ?_) #[false, false, false, false, false, true, false, false, false] rfl rfl (by kernel_rfl) (fun _ _ _ h => h) (Or.inl ⟨by rfl, ?_⟩) ?_ ?_
          rotate_left
          · intro w'
            go_simp
            with_reducible rfl
          rotate_left
          · simp only [Act.put, List.setIfInBounds_toArray, List.set_cons_zero, List.set_cons_succ, i64_w, i32_w]
            rfl
          refine take_ (i := 0) (N := some 36) (v := ?_) (a' := ?_) #[true, false, false, false, false, true, false, false, false] rfl rfl (by kernel_rfl) (fun _ _ _ h => h) (Or.inl ⟨by rfl, ?_⟩) hHeld ?_ ?_
          rotate_left
          · rintro w' ⟨s0, s1, s2, s3, s4⟩
            go_simp
            with_reducible rfl
          rotate_left
          · simp only [Act.put, List.setIfInBounds_toArray, List.set_cons_zero, List.set_cons_succ, i64_w, i32_w]
            rfl
          refine take_ (i := 1) (N := some 37) (v := ?_) (a' := ?_) #[true, true, false, false, false, true, false, false, false] rfl rfl (by kernel_rfl) (fun _ _ _ h => h) (Or.inl ⟨by rfl, ?_⟩) hHeld ?_ ?_
          rotate_left
          · rintro w' ⟨s0, s1, s2, s3, s4⟩
            go_simp
            with_reducible rfl
          rotate_left
          · simp only [Act.put, List.setIfInBounds_toArray, List.set_cons_zero, List.set_cons_succ, i64_w, i32_w]
            rfl
          refine take_ (i := 2) (N := some 38) (v := ?_) (a' := ?_) #[true, true, true, false, false, true, false, false, false] rfl rfl (by kernel_rfl) (fun _ _ _ h => h) (Or.inl ⟨by rfl, ?_⟩) hHeld ?_ ?_
          rotate_left
          · rintro w' ⟨s0, s1, s2, s3, s4⟩
            go_simp
            with_reducible rfl
          rotate_left
          · simp only [Act.put, List.setIfInBounds_toArray, List.set_cons_zero, List.set_cons_succ, i64_w, i32_w]
            rfl
          refine join_ (σ := Nat × Nat × Nat) 1 #[true, true, true, true, true, true, true, true, false] (fun | (gc, g, cap) => [(39, .int .i64 n), (40, .slice (some ⟨g, 0, none⟩) l.length cap), (42, .agg #[.int .i64 a0_0, .int .i64 a0_1, .int .i64 a0_2, .int .i64 a0_3, .int .i64 a0_4, .slice (some ⟨g, 0, none⟩) l.length cap, .int .i64 a3]), (11, .pointer (some ⟨gc, 0, none⟩))]) (fun | (gc, g, cap) => fun w' => Aside0 (TB w' w.heap.size a0_0 a0_1 a0_2 a0_3 a0_4) ∧ Aside0 (Below w.heap.size w w') ∧ Aside0 (Kd.R k57 57 w' w.heap.size (fun _ => True) (.slice (some ⟨g, 0, none⟩) l.length cap) l) ∧ Aside0 (w'.heap[gc]? = some (.cells #[.int .i64 0, .int .i64 0, .int .i64 0, .int .i64 0, .int .i64 0, .slice none 0 0, .int .i64 0] 65 (0, 0))) ∧ Aside0 (w.heap.size < gc)) ?_ ?_
          rotate_left
          · intro hJ3_4_7
            refine join_ (σ := Nat × Nat × Nat) 2 #[true, true, true, true, true, true, true, false, false] (fun | (gc, g, cap) => [(39, .int .i64 n), (40, .slice (some ⟨g, 0, none⟩) l.length cap), (42, .agg #[.int .i64 a0_0, .int .i64 a0_1, .int .i64 a0_2, .int .i64 a0_3, .int .i64 a0_4, .slice (some ⟨g, 0, none⟩) l.length cap, .int .i64 a3])]) (fun | (gc, g, cap) => fun w' => Aside0 (TB w' w.heap.size a0_0 a0_1 a0_2 a0_3 a0_4) ∧ Aside0 (Below w.heap.size w w') ∧ Aside0 (Kd.R k57 57 w' w.heap.size (fun _ => True) (.slice (some ⟨g, 0, none⟩) l.length cap) l)) ?_ ?_
            rotate_left
            · intro hJ3_4
              refine join_ (σ := Nat × Nat × Nat) 3 #[true, true, true, true, false, true, false, true, false] (fun | (gc, g, cap) => [(39, .int .i64 n), (11, .pointer (some ⟨gc, 0, none⟩))]) (fun | (gc, g, cap) => fun w' => Aside0 (TB w' w.heap.size a0_0 a0_1 a0_2 a0_3 a0_4) ∧ Aside0 (Below w.heap.size w w') ∧ Aside0 (w'.heap[gc]? = some (.cells #[.int .i64 0, .int .i64 0, .int .i64 0, .int .i64 0, .int .i64 0, .slice none 0 0, .int .i64 0] 65 (0, 0))) ∧ Aside0 (w.heap.size < gc)) ?_ ?_
              rotate_left
              · intro hJ3_7
                refine join_ (σ := Nat × Nat × Nat) 4 #[true, true, true, true, false, true, false, false, false] (fun | (gc, g, cap) => [(39, .int .i64 n)]) (fun | (gc, g, cap) => fun w' => Aside0 (TB w' w.heap.size a0_0 a0_1 a0_2 a0_3 a0_4) ∧ Aside0 (Below w.heap.size w w')) ?_ ?_
                rotate_left
                · intro hJ3
                  refine join_ (σ := Nat × Nat × Nat) 4 #[true, true, true, false, false, true, false, true, false] (fun | (gc, g, cap) => [(11, .pointer (some ⟨gc, 0, none⟩))]) (fun | (gc, g, cap) => fun w' => Aside0 (TB w' w.heap.size a0_0 a0_1 a0_2 a0_3 a0_4) ∧ Aside0 (Below w.heap.size w w') ∧ Aside0 (w'.heap[gc]? = some (.cells #[.int .i64 0, .int .i64 0, .int .i64 0, .int .i64 0, .int .i64 0, .slice none 0 0, .int .i64 0] 65 (0, 0))) ∧ Aside0 (w.heap.size < gc)) ?_ ?_
                  rotate_left
                  · intro hJ7
                    refine two_ (i := 3) (j := 7) (Ni := some 39) (Nj := some 11) #[true, true, true, true, false, true, false, false, false] #[true, true, true, false, false, true, false, true, false] rfl rfl rfl rfl (by kernel_rfl) (by decide) (by decide) (fun K hK => ?_) (fun K hK => ?_)
                    · skip
                      refine goes_ Try.func39 (by kernel_rfl) rfl #[.agg #[.int .i64 a0_0, .int .i64 a0_1, .int .i64 a0_2, .int .i64 a0_3, .int .i64 a0_4]] (by rfl) rfl rfl (by simp only [List.map_toArray, List.map_cons, List.map_nil]; rfl) ?_
                      with_reducible refine (trips_any _ _ _ _ _ n HN.out _).mono ?_
                      rintro e w3 ⟨rfl, hb⟩
                      refine ⟨_, rfl, ?_⟩
                      have HT3 : Aside0 (TB w3 w.heap.size a0_0 a0_1 a0_2 a0_3 a0_4) := ⟨blk_below (by (with_reducible repeat (first | refine blk_drewN ?_ _ | refine blk_drew ?_ | refine blk_alloc ?_ _)); exact HT.out) hb⟩
                      have HB3 : Aside0 (Below w.heap.size w w3) := ⟨below_step (by repeat (first | (with_reducible first | exact HB.out | apply below_alloc | apply pw_below_drewN | apply below_drew1) | exact HB.out)) hb⟩
                      refine hK.out _ _ ⟨HT3.out.c0, HT3.out.c1, HT3.out.c2, HT3.out.c3, HT3.out.c4⟩ (fun hHeld => ?_)
                      clear hK K
                      refine norm_ (a' := ?_) ?_ ?_
                      rotate_left
                      · show Act.put _ (some 39) _ = _
                        simp only [Act.put, List.setIfInBounds_toArray, List.set_cons_zero, List.set_cons_succ, i64_w, i32_w]
                        rfl
                      exact norm_ (by first | (simp only [putAll, Act.put, List.setIfInBounds_toArray, List.set_cons_zero, List.set_cons_succ]; done) | (simp only [putAll, Act.put, List.setIfInBounds_toArray, List.set_cons_zero, List.set_cons_succ]; rfl)) (hJ3 (0, 0, 0) _ ⟨HT3, HB3⟩)
                    · skip
                      refine box_step ?hw (N := 11) ?hd (cs := #[.int .i64 0, .int .i64 0, .int .i64 0, .int .i64 0, .int .i64 0, .slice none 0 0, .int .i64 0]) (t := 65) ?hr ?_
                      (case hd => rfl)
                      (case hw => rfl)
                      (case hr => first | (go_simp; done) | (go_simp; rfl))
                      intro gc3 hg_ w3 hbx hb
                      have HT3 : Aside0 (TB w3 w.heap.size a0_0 a0_1 a0_2 a0_3 a0_4) := ⟨blk_below (by (with_reducible repeat (first | refine blk_drewN ?_ _ | refine blk_drew ?_ | refine blk_alloc ?_ _)); exact HT.out) hb⟩
                      have HB3 : Aside0 (Below w.heap.size w w3) := ⟨below_step (by repeat (first | (with_reducible first | exact HB.out | apply below_alloc | apply pw_below_drewN | apply below_drew1) | exact HB.out)) hb⟩
                      have HX3 : Aside0 (w3.heap[gc3]? = some (.cells #[.int .i64 0, .int .i64 0, .int .i64 0, .int .i64 0, .int .i64 0, .slice none 0 0, .int .i64 0] 65 (0, 0))) := ⟨hbx⟩
                      have NX3 : Aside0 (w.heap.size < gc3) := ⟨by rw [hg_]; exact blk_lt (by (with_reducible repeat (first | refine blk_drewN ?_ _ | refine blk_drew ?_ | refine blk_alloc ?_ _)); exact HT.out)⟩
                      refine hK.out _ _ ⟨HT3.out.c0, HT3.out.c1, HT3.out.c2, HT3.out.c3, HT3.out.c4⟩ (fun hHeld => ?_)
                      clear hK K
                      refine norm_ (a' := ?_) ?_ ?_
                      rotate_left
                      · show Act.put _ (some 11) _ = _
                        simp only [Act.put, List.setIfInBounds_toArray, List.set_cons_zero, List.set_cons_succ, i64_w, i32_w]
                        rfl
                      exact norm_ (by first | (simp only [putAll, Act.put, List.setIfInBounds_toArray, List.set_cons_zero, List.set_cons_succ]; done) | (simp only [putAll, Act.put, List.setIfInBounds_toArray, List.set_cons_zero, List.set_cons_succ]; rfl)) (hJ7 (gc3, 0, 0) _ ⟨HT3, HB3, HX3, NX3⟩)
                  · skip
                    rintro ⟨gc, g, cap⟩ w' ⟨HT, HB, HX, NX⟩
                    have hHeld := (⟨HT.out.c0, HT.out.c1, HT.out.c2, HT.out.c3, HT.out.c4⟩ : w'.cell? ⟨w.heap.size, 0, none⟩ = some (.int .i64 a0_0) ∧ w'.cell? ⟨w.heap.size, 1, none⟩ = some (.int .i64 a0_1) ∧ w'.cell? ⟨w.heap.size, 2, none⟩ = some (.int .i64 a0_2) ∧ w'.cell? ⟨w.heap.size, 3, none⟩ = some (.int .i64 a0_3) ∧ w'.cell? ⟨w.heap.size, 4, none⟩ = some (.int .i64 a0_4))
                    refine norm_ (a' := ?_) ?_ ?_
                    rotate_left
                    · simp only [putAll, Act.put, List.setIfInBounds_toArray, List.set_cons_zero, List.set_cons_succ]
                      rfl
                    refine one_ (i := 3) (N := some 39) #[true, true, true, true, false, true, false, true, false] rfl rfl (by kernel_rfl) (by decide) (fun K hK => ?_)
                    refine goes_ Try.func39 (by kernel_rfl) rfl #[.agg #[.int .i64 a0_0, .int .i64 a0_1, .int .i64 a0_2, .int .i64 a0_3, .int .i64 a0_4]] (by rfl) rfl rfl (by simp only [List.map_toArray, List.map_cons, List.map_nil]; rfl) ?_
                    with_reducible refine (trips_any _ _ _ _ _ n HN.out _).mono ?_
                    rintro e w3 ⟨rfl, hb⟩
                    refine ⟨_, rfl, ?_⟩
                    have HT3 : Aside0 (TB w3 w.heap.size a0_0 a0_1 a0_2 a0_3 a0_4) := ⟨blk_below (by (with_reducible repeat (first | refine blk_drewN ?_ _ | refine blk_drew ?_ | refine blk_alloc ?_ _)); exact HT.out) hb⟩
                    have HB3 : Aside0 (Below w.heap.size w w3) := ⟨below_step (by repeat (first | (with_reducible first | exact HB.out | apply below_alloc | apply pw_below_drewN | apply below_drew1) | exact HB.out)) hb⟩
                    have HX3 : Aside0 (w3.heap[gc]? = some (.cells #[.int .i64 0, .int .i64 0, .int .i64 0, .int .i64 0, .int .i64 0, .slice none 0 0, .int .i64 0] 65 (0, 0))) := ⟨blk_below (by (with_reducible repeat (first | refine blk_drewN ?_ _ | refine blk_drew ?_ | refine blk_alloc ?_ _)); exact HX.out) hb⟩
                    refine hK.out _ _ ⟨HT3.out.c0, HT3.out.c1, HT3.out.c2, HT3.out.c3, HT3.out.c4⟩ (fun hHeld => ?_)
                    clear hK K
                    refine norm_ (a' := ?_) ?_ ?_
                    rotate_left
                    · show Act.put _ (some 39) _ = _
                      simp only [Act.put, List.setIfInBounds_toArray, List.set_cons_zero, List.set_cons_succ, i64_w, i32_w]
                      rfl
                    exact norm_ (by first | (simp only [putAll, Act.put, List.setIfInBounds_toArray, List.set_cons_zero, List.set_cons_succ]; done) | (simp only [putAll, Act.put, List.setIfInBounds_toArray, List.set_cons_zero, List.set_cons_succ]; rfl)) (hJ3_7 (gc, 0, 0) _ ⟨HT3, HB3, HX3, NX⟩)
                · skip
                  rintro ⟨gc, g, cap⟩ w' ⟨HT, HB⟩
                  have hHeld := (⟨HT.out.c0, HT.out.c1, HT.out.c2, HT.out.c3, HT.out.c4⟩ : w'.cell? ⟨w.heap.size, 0, none⟩ = some (.int .i64 a0_0) ∧ w'.cell? ⟨w.heap.size, 1, none⟩ = some (.int .i64 a0_1) ∧ w'.cell? ⟨w.heap.size, 2, none⟩ = some (.int .i64 a0_2) ∧ w'.cell? ⟨w.heap.size, 3, none⟩ = some (.int .i64 a0_3) ∧ w'.cell? ⟨w.heap.size, 4, none⟩ = some (.int .i64 a0_4))
                  refine norm_ (a' := ?_) ?_ ?_
                  rotate_left
                  · simp only [putAll, Act.put, List.setIfInBounds_toArray, List.set_cons_zero, List.set_cons_succ]
                    rfl
                  refine two_ (i := 4) (j := 7) (Ni := some 40) (Nj := some 11) #[true, true, true, true, true, true, false, false, false] #[true, true, true, true, false, true, false, true, false] rfl rfl rfl rfl (by kernel_rfl) (by decide) (by decide) (fun K hK => ?_) (fun K hK => ?_)
                  · skip
                    refine goes_ Try.func38 (by kernel_rfl) rfl #[.agg #[.int .i64 a0_0, .int .i64 a0_1, .int .i64 a0_2, .int .i64 a0_3, .int .i64 a0_4], .int .i64 n] (by rfl) rfl rfl (by simp only [List.map_toArray, List.map_cons, List.map_nil]; rfl) ?_
                    with_reducible refine (phase_pieces.calls _ _ _ _ _ _ l _ HL0.out).mono ?_
                    rintro e w3 ⟨v, rfl, hR, hb⟩
                    obtain ⟨g3, cap3, rfl, _, _, _⟩ := Kd.R_form hR HP.out
                    refine ⟨_, rfl, ?_⟩
                    have HR33 : Aside0 (Kd.R k57 57 w3 w.heap.size (fun _ => True) (.slice (some ⟨g3, 0, none⟩) l.length cap3) l) := ⟨Kd.R_lower hR (below_size (by repeat (first | (with_reducible first | exact HB.out | apply below_alloc | apply pw_below_drewN | apply below_drew1) | exact HB.out)))⟩
                    have HT3 : Aside0 (TB w3 w.heap.size a0_0 a0_1 a0_2 a0_3 a0_4) := ⟨blk_below (by (with_reducible repeat (first | refine blk_drewN ?_ _ | refine blk_drew ?_ | refine blk_alloc ?_ _)); exact HT.out) hb⟩
                    have HB3 : Aside0 (Below w.heap.size w w3) := ⟨below_step (by repeat (first | (with_reducible first | exact HB.out | apply below_alloc | apply pw_below_drewN | apply below_drew1) | exact HB.out)) hb⟩
                    refine hK.out _ _ ⟨HT3.out.c0, HT3.out.c1, HT3.out.c2, HT3.out.c3, HT3.out.c4⟩ (fun hHeld => ?_)
                    clear hK K
                    refine norm_ (a' := ?_) ?_ ?_
                    rotate_left
                    · show Act.put _ (some 40) _ = _
                      simp only [Act.put, List.setIfInBounds_toArray, List.set_cons_zero, List.set_cons_succ, i64_w, i32_w]
                      rfl
                    refine pure_ (i := 6) (N := some 42) (v := ?_) (a' := ?_) #[true, true, true, true, true, true, true, false, false] rfl rfl (by kernel_rfl) (fun _ _ _ h => h) (Or.inl ⟨by rfl, ?_⟩) ?_ ?_
                    rotate_left
                    · intro w'
                      go_simp
                      with_reducible rfl
                    rotate_left
                    · simp only [Act.put, List.setIfInBounds_toArray, List.set_cons_zero, List.set_cons_succ, i64_w, i32_w]
                      rfl
                    exact norm_ (by first | (simp only [putAll, Act.put, List.setIfInBounds_toArray, List.set_cons_zero, List.set_cons_succ]; done) | (simp only [putAll, Act.put, List.setIfInBounds_toArray, List.set_cons_zero, List.set_cons_succ]; rfl)) (hJ3_4 (0, g3, cap3) _ ⟨HT3, HB3, HR33⟩)
                  · skip
                    refine box_step ?hw (N := 11) ?hd (cs := #[.int .i64 0, .int .i64 0, .int .i64 0, .int .i64 0, .int .i64 0, .slice none 0 0, .int .i64 0]) (t := 65) ?hr ?_
                    (case hd => rfl)
                    (case hw => rfl)
                    (case hr => first | (go_simp; done) | (go_simp; rfl))
                    intro gc3 hg_ w3 hbx hb
                    have HT3 : Aside0 (TB w3 w.heap.size a0_0 a0_1 a0_2 a0_3 a0_4) := ⟨blk_below (by (with_reducible repeat (first | refine blk_drewN ?_ _ | refine blk_drew ?_ | refine blk_alloc ?_ _)); exact HT.out) hb⟩
                    have HB3 : Aside0 (Below w.heap.size w w3) := ⟨below_step (by repeat (first | (with_reducible first | exact HB.out | apply below_alloc | apply pw_below_drewN | apply below_drew1) | exact HB.out)) hb⟩
                    have HX3 : Aside0 (w3.heap[gc3]? = some (.cells #[.int .i64 0, .int .i64 0, .int .i64 0, .int .i64 0, .int .i64 0, .slice none 0 0, .int .i64 0] 65 (0, 0))) := ⟨hbx⟩
                    have NX3 : Aside0 (w.heap.size < gc3) := ⟨by rw [hg_]; exact blk_lt (by (with_reducible repeat (first | refine blk_drewN ?_ _ | refine blk_drew ?_ | refine blk_alloc ?_ _)); exact HT.out)⟩
                    refine hK.out _ _ ⟨HT3.out.c0, HT3.out.c1, HT3.out.c2, HT3.out.c3, HT3.out.c4⟩ (fun hHeld => ?_)
                    clear hK K
                    refine norm_ (a' := ?_) ?_ ?_
                    rotate_left
                    · show Act.put _ (some 11) _ = _
                      simp only [Act.put, List.setIfInBounds_toArray, List.set_cons_zero, List.set_cons_succ, i64_w, i32_w]
                      rfl
                    exact norm_ (by first | (simp only [putAll, Act.put, List.setIfInBounds_toArray, List.set_cons_zero, List.set_cons_succ]; done) | (simp only [putAll, Act.put, List.setIfInBounds_toArray, List.set_cons_zero, List.set_cons_succ]; rfl)) (hJ3_7 (gc3, 0, 0) _ ⟨HT3, HB3, HX3, NX3⟩)
              · skip
                rintro ⟨gc, g, cap⟩ w' ⟨HT, HB, HX, NX⟩
                have hHeld := (⟨HT.out.c0, HT.out.c1, HT.out.c2, HT.out.c3, HT.out.c4⟩ : w'.cell? ⟨w.heap.size, 0, none⟩ = some (.int .i64 a0_0) ∧ w'.cell? ⟨w.heap.size, 1, none⟩ = some (.int .i64 a0_1) ∧ w'.cell? ⟨w.heap.size, 2, none⟩ = some (.int .i64 a0_2) ∧ w'.cell? ⟨w.heap.size, 3, none⟩ = some (.int .i64 a0_3) ∧ w'.cell? ⟨w.heap.size, 4, none⟩ = some (.int .i64 a0_4))
                refine norm_ (a' := ?_) ?_ ?_
                rotate_left
                · simp only [putAll, Act.put, List.setIfInBounds_toArray, List.set_cons_zero, List.set_cons_succ]
                  rfl
                refine one_ (i := 4) (N := some 40) #[true, true, true, true, true, true, false, true, false] rfl rfl (by kernel_rfl) (by decide) (fun K hK => ?_)
                refine goes_ Try.func38 (by kernel_rfl) rfl #[.agg #[.int .i64 a0_0, .int .i64 a0_1, .int .i64 a0_2, .int .i64 a0_3, .int .i64 a0_4], .int .i64 n] (by rfl) rfl rfl (by simp only [List.map_toArray, List.map_cons, List.map_nil]; rfl) ?_
                with_reducible refine (phase_pieces.calls _ _ _ _ _ _ l _ HL0.out).mono ?_
                rintro e w3 ⟨v, rfl, hR, hb⟩
                obtain ⟨g3, cap3, rfl, _, _, _⟩ := Kd.R_form hR HP.out
                refine ⟨_, rfl, ?_⟩
                have HR33 : Aside0 (Kd.R k57 57 w3 w.heap.size (fun _ => True) (.slice (some ⟨g3, 0, none⟩) l.length cap3) l) := ⟨Kd.R_lower hR (below_size (by repeat (first | (with_reducible first | exact HB.out | apply below_alloc | apply pw_below_drewN | apply below_drew1) | exact HB.out)))⟩
                have HT3 : Aside0 (TB w3 w.heap.size a0_0 a0_1 a0_2 a0_3 a0_4) := ⟨blk_below (by (with_reducible repeat (first | refine blk_drewN ?_ _ | refine blk_drew ?_ | refine blk_alloc ?_ _)); exact HT.out) hb⟩
                have HB3 : Aside0 (Below w.heap.size w w3) := ⟨below_step (by repeat (first | (with_reducible first | exact HB.out | apply below_alloc | apply pw_below_drewN | apply below_drew1) | exact HB.out)) hb⟩
                have HX3 : Aside0 (w3.heap[gc]? = some (.cells #[.int .i64 0, .int .i64 0, .int .i64 0, .int .i64 0, .int .i64 0, .slice none 0 0, .int .i64 0] 65 (0, 0))) := ⟨blk_below (by (with_reducible repeat (first | refine blk_drewN ?_ _ | refine blk_drew ?_ | refine blk_alloc ?_ _)); exact HX.out) hb⟩
                refine hK.out _ _ ⟨HT3.out.c0, HT3.out.c1, HT3.out.c2, HT3.out.c3, HT3.out.c4⟩ (fun hHeld => ?_)
                clear hK K
                refine norm_ (a' := ?_) ?_ ?_
                rotate_left
                · show Act.put _ (some 40) _ = _
                  simp only [Act.put, List.setIfInBounds_toArray, List.set_cons_zero, List.set_cons_succ, i64_w, i32_w]
                  rfl
                refine pure_ (i := 6) (N := some 42) (v := ?_) (a' := ?_) #[true, true, true, true, true, true, true, true, false] rfl rfl (by kernel_rfl) (fun _ _ _ h => h) (Or.inl ⟨by rfl, ?_⟩) ?_ ?_
                rotate_left
                · intro w'
                  go_simp
                  with_reducible rfl
                rotate_left
                · simp only [Act.put, List.setIfInBounds_toArray, List.set_cons_zero, List.set_cons_succ, i64_w, i32_w]
                  rfl
                exact norm_ (by first | (simp only [putAll, Act.put, List.setIfInBounds_toArray, List.set_cons_zero, List.set_cons_succ]; done) | (simp only [putAll, Act.put, List.setIfInBounds_toArray, List.set_cons_zero, List.set_cons_succ]; rfl)) (hJ3_4_7 (gc, g3, cap3) _ ⟨HT3, HB3, HR33, HX3, NX⟩)
            · skip
              rintro ⟨gc, g, cap⟩ w' ⟨HT, HB, HR3⟩
              have hHeld := (⟨HT.out.c0, HT.out.c1, HT.out.c2, HT.out.c3, HT.out.c4⟩ : w'.cell? ⟨w.heap.size, 0, none⟩ = some (.int .i64 a0_0) ∧ w'.cell? ⟨w.heap.size, 1, none⟩ = some (.int .i64 a0_1) ∧ w'.cell? ⟨w.heap.size, 2, none⟩ = some (.int .i64 a0_2) ∧ w'.cell? ⟨w.heap.size, 3, none⟩ = some (.int .i64 a0_3) ∧ w'.cell? ⟨w.heap.size, 4, none⟩ = some (.int .i64 a0_4))
              refine norm_ (a' := ?_) ?_ ?_
              rotate_left
              · simp only [putAll, Act.put, List.setIfInBounds_toArray, List.set_cons_zero, List.set_cons_succ]
                rfl
              refine one_ (i := 7) (N := some 11) #[true, true, true, true, true, true, true, true, false] rfl rfl (by kernel_rfl) (by decide) (fun K hK => ?_)
              refine box_step ?hw (N := 11) ?hd (cs := #[.int .i64 0, .int .i64 0, .int .i64 0, .int .i64 0, .int .i64 0, .slice none 0 0, .int .i64 0]) (t := 65) ?hr ?_
              (case hd => rfl)
              (case hw => rfl)
              (case hr => first | (go_simp; done) | (go_simp; rfl))
              intro gc3 hg_ w3 hbx hb
              have HT3 : Aside0 (TB w3 w.heap.size a0_0 a0_1 a0_2 a0_3 a0_4) := ⟨blk_below (by (with_reducible repeat (first | refine blk_drewN ?_ _ | refine blk_drew ?_ | refine blk_alloc ?_ _)); exact HT.out) hb⟩
              have HB3 : Aside0 (Below w.heap.size w w3) := ⟨below_step (by repeat (first | (with_reducible first | exact HB.out | apply below_alloc | apply pw_below_drewN | apply below_drew1) | exact HB.out)) hb⟩
              have HR33 : Aside0 (Kd.R k57 57 w3 w.heap.size (fun _ => True) (.slice (some ⟨g, 0, none⟩) l.length cap) l) := ⟨Kd.R_below (by (with_reducible repeat (first | apply Kd.R_alloc | apply Kd.R_drewN | apply Kd.R_drew)); exact HR3.out) hb⟩
              have HX3 : Aside0 (w3.heap[gc3]? = some (.cells #[.int .i64 0, .int .i64 0, .int .i64 0, .int .i64 0, .int .i64 0, .slice none 0 0, .int .i64 0] 65 (0, 0))) := ⟨hbx⟩
              have NX3 : Aside0 (w.heap.size < gc3) := ⟨by rw [hg_]; exact blk_lt (by (with_reducible repeat (first | refine blk_drewN ?_ _ | refine blk_drew ?_ | refine blk_alloc ?_ _)); exact HT.out)⟩
              refine hK.out _ _ ⟨HT3.out.c0, HT3.out.c1, HT3.out.c2, HT3.out.c3, HT3.out.c4⟩ (fun hHeld => ?_)
              clear hK K
              refine norm_ (a' := ?_) ?_ ?_
              rotate_left
              · show Act.put _ (some 11) _ = _
                simp only [Act.put, List.setIfInBounds_toArray, List.set_cons_zero, List.set_cons_succ, i64_w, i32_w]
                rfl
              exact norm_ (by first | (simp only [putAll, Act.put, List.setIfInBounds_toArray, List.set_cons_zero, List.set_cons_succ]; done) | (simp only [putAll, Act.put, List.setIfInBounds_toArray, List.set_cons_zero, List.set_cons_succ]; rfl)) (hJ3_4_7 (gc3, g, cap) _ ⟨HT3, HB3, HR33, HX3, NX3⟩)
          rintro ⟨gc, g, cap⟩ w' ⟨HT, HB, HR3, HX, NX⟩
          have hHeld := (⟨HT.out.c0, HT.out.c1, HT.out.c2, HT.out.c3, HT.out.c4⟩ : w'.cell? ⟨w.heap.size, 0, none⟩ = some (.int .i64 a0_0) ∧ w'.cell? ⟨w.heap.size, 1, none⟩ = some (.int .i64 a0_1) ∧ w'.cell? ⟨w.heap.size, 2, none⟩ = some (.int .i64 a0_2) ∧ w'.cell? ⟨w.heap.size, 3, none⟩ = some (.int .i64 a0_3) ∧ w'.cell? ⟨w.heap.size, 4, none⟩ = some (.int .i64 a0_4))
          refine norm_ (a' := ?_) ?_ ?_
          rotate_left
          · simp only [putAll, Act.put, List.setIfInBounds_toArray, List.set_cons_zero, List.set_cons_succ]
            rfl
          refine last_ (i := 8) (N := none) #[true, true, true, true, true, true, true, true, true] rfl rfl (by kernel_rfl) (by decide) (fun K hK => ?_)
          have cx0 := (blk_cell HX.out 0).trans rfl
          have cx1 := (blk_cell HX.out 1).trans rfl
          have cx2 := (blk_cell HX.out 2).trans rfl
          have cx3 := (blk_cell HX.out 3).trans rfl
          have cx4 := (blk_cell HX.out 4).trans rfl
          have cx5 := (blk_cell HX.out 5).trans rfl
          have cx6 := (blk_cell HX.out 6).trans rfl
          have fx0 := blk_frozen HX.out 0
          have fx1 := blk_frozen HX.out 1
          have fx2 := blk_frozen HX.out 2
          have fx3 := blk_frozen HX.out 3
          have fx4 := blk_frozen HX.out 4
          have fx5 := blk_frozen HX.out 5
          have fx6 := blk_frozen HX.out 6
          refine skip_ (w1 := ?_) (by rfl) rfl ?_ ?_
          rotate_left
          · go_simp
            rfl
          refine hK.out _ _ ?_
          clear hK K
          refine done_ (by kernel_rfl) ?_
        -- END8
          obtain ⟨w9, hw9⟩ : ∃ w9, (((((((w'.setCell ⟨gc, 0, none⟩ (.int .i64 a0_0)).setCell ⟨gc, 1, none⟩ (.int .i64 a0_1)).setCell ⟨gc, 2, none⟩ (.int .i64 a0_2)).setCell ⟨gc, 3, none⟩ (.int .i64 a0_3)).setCell ⟨gc, 4, none⟩ (.int .i64 a0_4)).setCell ⟨gc, 5, none⟩ (.slice (some ⟨g, 0, none⟩) l.length cap)).setCell ⟨gc, 6, none⟩ (.int .i64 a3)) = w9 := ⟨_, rfl⟩
          have h9 := (blk_set (blk_set (blk_set (blk_set (blk_set (blk_set (blk_set HX.out 0 (.int .i64 a0_0)) 1 (.int .i64 a0_1)) 2 (.int .i64 a0_2)) 3 (.int .i64 a0_3)) 4 (.int .i64 a0_4)) 5 (.slice (some ⟨g, 0, none⟩) l.length cap)) 6 (.int .i64 a3))
          have hR9 := (Kd.R_far (Kd.R_far (Kd.R_far (Kd.R_far (Kd.R_far (Kd.R_far (Kd.R_far (Kd.R_types HR3.out HX.out (fun q hq => by have hE : k57.E = [] := rfl; rw [hE] at hq; simp at hq; omega)) (p := ⟨gc, 0, none⟩) (fun _ hk => hk.2) (.int .i64 a0_0)) (p := ⟨gc, 1, none⟩) (fun _ hk => hk.2) (.int .i64 a0_1)) (p := ⟨gc, 2, none⟩) (fun _ hk => hk.2) (.int .i64 a0_2)) (p := ⟨gc, 3, none⟩) (fun _ hk => hk.2) (.int .i64 a0_3)) (p := ⟨gc, 4, none⟩) (fun _ hk => hk.2) (.int .i64 a0_4)) (p := ⟨gc, 5, none⟩) (fun _ hk => hk.2) (.slice (some ⟨g, 0, none⟩) l.length cap)) (p := ⟨gc, 6, none⟩) (fun _ hk => hk.2) (.int .i64 a3))
          have hB9 := (((((((HB.out.setCell (p := ⟨gc, 0, none⟩) (Nat.le_of_lt NX.out) (.int .i64 a0_0)).setCell (p := ⟨gc, 1, none⟩) (Nat.le_of_lt NX.out) (.int .i64 a0_1)).setCell (p := ⟨gc, 2, none⟩) (Nat.le_of_lt NX.out) (.int .i64 a0_2)).setCell (p := ⟨gc, 3, none⟩) (Nat.le_of_lt NX.out) (.int .i64 a0_3)).setCell (p := ⟨gc, 4, none⟩) (Nat.le_of_lt NX.out) (.int .i64 a0_4)).setCell (p := ⟨gc, 5, none⟩) (Nat.le_of_lt NX.out) (.slice (some ⟨g, 0, none⟩) l.length cap)).setCell (p := ⟨gc, 6, none⟩) (Nat.le_of_lt NX.out) (.int .i64 a3))
          rw [hw9] at h9 hR9 hB9
          simp only [List.setIfInBounds_toArray, List.set_cons_zero, List.set_cons_succ] at h9
          rw [hw9]
          have hC9 := (Kd.R_reads' hR9).2.2
          have HB9 := Aside0.mk hB9
          have hbt := between_any (.agg #[.int .i64 a0_0, .int .i64 a0_1, .int .i64 a0_2, .int .i64 a0_3, .int .i64 a0_4, .slice (some ⟨g, 0, none⟩) l.length cap, .int .i64 a3]) a1 a2 x y w9 (fun W hW => before_any _ _ _ _ _ _ _ cap l a2 y W (Kd.C_below hC9 hW) HY.out) (fun W hW => before_any _ _ _ _ _ _ _ cap l a1 x W (Kd.C_below hC9 hW) HX0.out)
          have HBT := Aside0.mk hbt
          have g0 := (blk_cell h9 0).trans rfl
          have g1 := (blk_cell h9 1).trans rfl
          have g2 := (blk_cell h9 2).trans rfl
          have g3 := (blk_cell h9 3).trans rfl
          have g4 := (blk_cell h9 4).trans rfl
          have g5 := (blk_cell h9 5).trans rfl
          have g6 := (blk_cell h9 6).trans rfl
          clear hw9 h9 hR9 hB9 hC9 hbt cx0 cx1 cx2 cx3 cx4 cx5 cx6 fx0 fx1 fx2 fx3 fx4 fx5 fx6 hHeld HX
          go_wp2_with fail
          refine HBT.out.mono ?_
          rintro e w10 ⟨rfl, hb10⟩
          go_wp2
          go_ret2
          exact ⟨rfl, HB9.out.trans (hb10.mono HB9.out.size)⟩
        · rw [if_neg hp] at h; cases h
    · rw [if_neg h2] at h
      simp only [Option.some.injEq, Prod.mk.injEq] at h
      obtain ⟨rfl, rfl⟩ := h
      have n2 : (e2 == 0) = false := by rw [beq_eq_false_iff_ne]; exact h2
      have n3 : (e2 != 0) = true := by rw [bne_iff_ne]; exact h2
      clear h2 H HE1 HE2
      go_wp2
      go_ret2
      exact ⟨rfl, HB2.out⟩
  · rw [if_neg h1] at he2
    obtain rfl := Option.some.inj he2
    have h := H.out
    rw [if_neg h1] at h
    simp only [Option.some.injEq, Prod.mk.injEq] at h
    obtain ⟨rfl, rfl⟩ := h
    have n1 : (e1 == 0) = false := by rw [beq_eq_false_iff_ne]; exact h1
    have n2 : (e1 != 0) = true := by rw [bne_iff_ne]; exact h1
    clear he2 h1 H
    go_wp2
    go_ret2
    exact ⟨rfl, HB.out⟩

end Go.Proofs.Ytlfeiadmkoocgaa.S
