/- Joined: ReportKnown, walked: the chapter's examples hold. ReportParts, walked. ReportSums, walked. -/
import Derived.Test.YtenlokaaloenmaaDoorHawake
import Derived.Test.YtenlokaaloenmaaDoorHlongest
import Derived.Test.YtenlokaaloenmaaDoorS5
import Derived.Test.YtenlokaaloenmaaDoorS6
import Derived.Test.YtenlokaaloenmaaDoorS2
import Derived.Test.YtenlokaaloenmaaDoorM4
import Derived.Test.YtenlokaaloenmaaDoorM3

section
namespace Go.Proofs.YtenlokaaloenmaaDoor.S
open Go.RowKit Go.Proofs.YtenlokaaloenmaaDoorW.PrintWords Go.Proofs.YtenlokaaloenmaaDoorW.PrintLast Go.Proofs.YtenlokaaloenmaaDoorW.PrintMore
set_option linter.unusedVariables false
set_option linter.unusedSimpArgs false

theorem longest_val : report_Longest.f 100 shownL = some (2, true, 7, 9, 0) := by decide +kernel
theorem changes_val : report_Changes.f 100 shownL = some ([0, 1, 2], 0) := by decide +kernel
theorem visits_val0 : report_Visits.f 100 shownL 2 0 1 = some (0, 2) := by decide +kernel
theorem visits_val1 : tipstafflaw43_visits.f 100 3 1 = some true := by decide +kernel
theorem visits_val2 : tipstafflaw43_visits.f 100 2 1 = some true := by decide +kernel
theorem spell_val1 : tipstafflaw43_spell.f 100 0 false [⟨8, 10⟩] = some true := by decide +kernel
theorem spell_val2 : tipstafflaw43_spell.f 100 2 false [] = some true := by decide +kernel
theorem count_val0 : report_Count.f 100 [] 1 = some (num0, 0) := by decide +kernel
theorem same_val0 : tipstafflaw43_same.f 100 num0 num0 = some true := by decide +kernel
theorem ints_val0 : tipstaffkit_SameInts.f 100 [0, 1, 2] [0, 1, 2] = some true := by decide +kernel
/-- The chapter's views, changed at three places. -/
def shownX (c0 t1 : Int) (s1 : List S43) : List S41 := [⟨7, [⟨1, c0⟩], [⟨2, 2, false⟩], 4, 0, -1⟩, ⟨t1, [⟨1, 2⟩], s1, 4, 1, -1⟩, ⟨9, [], [⟨-1, 0, true⟩], 0, 1, -1⟩]
def shownA : List S41 := [⟨7, [⟨1, 1⟩], [⟨2, 2, false⟩], 4, 0, -1⟩, ⟨9, [⟨1, 2⟩], [⟨2, 3, false⟩], 4, 1, -1⟩]
theorem check_a : report_Check.f 100 shownA = some (8, 1) := by decide +kernel
theorem check_b : report_Check.f 100 (shownX 7 8 [⟨2, 3, false⟩]) = some (11, 0) := by decide +kernel
theorem check_c : report_Check.f 100 (shownX 1 8 []) = some (3, 1) := by decide +kernel

theorem blk_C66 {W : World} {g : Nat} {a b : Int} (h : Blk W g #[.int .i64 a, .int .i64 b] 66) : Kd.C k66 W (some ⟨g, 0, none⟩) 1 [⟨a, b⟩] :=
  ⟨rfl, by decide, fun _ => ⟨_, rfl, fun j p hj => by
    match j, hj with
    | 0, hj =>
      cases hj
      refine ⟨[.int .i64 a, .int .i64 b], rfl, k66_mk W ⟨a, b⟩, fun i u hu => ?_⟩
      match i, hu with
      | 0, hu => cases hu; exact h.cell 0 rfl
      | 1, hu => cases hu; exact h.cell 1 rfl
    | j + 1, hj => simp at hj⟩⟩
theorem blk_C43 {W : World} {g : Nat} {a b : Int} {o : Bool} (h : Blk W g #[.int .i64 a, .int .i64 b, .bool o] 43) : Kd.C k43 W (some ⟨g, 0, none⟩) 1 [⟨a, b, o⟩] :=
  ⟨rfl, by decide, fun _ => ⟨_, rfl, fun j p hj => by
    match j, hj with
    | 0, hj =>
      cases hj
      refine ⟨[.int .i64 a, .int .i64 b, .bool o], rfl, k43_mk W ⟨a, b, o⟩, fun i u hu => ?_⟩
      match i, hu with
      | 0, hu => cases hu; exact h.cell 0 rfl
      | 1, hu => cases hu; exact h.cell 1 rfl
      | 2, hu => cases hu; exact h.cell 2 rfl
    | j + 1, hj => simp at hj⟩⟩
theorem nil_C {α : Type} (d : Kd α) (W : World) : Kd.C d W none 0 [] := ⟨rfl, by decide, fun h => absurd h (by decide)⟩
/-- A row of views in a block. -/
theorem blk_C41 {W : World} {g : Nat} {cells : List Value} {xs : List S41} (h : Blk W g cells.toArray 41) (hx : xs.length ≤ 100) (hk : ∀ j p, xs[j]? = some p → ((cells.drop (j * 6)).take 6).length = 6 ∧ k41.K W p ((cells.drop (j * 6)).take 6)) : Kd.C k41 W (some ⟨g, 0, none⟩) xs.length xs :=
  ⟨rfl, by omega, fun _ => ⟨_, rfl, fun j p hj => ⟨(cells.drop (j * 6)).take 6, (hk j p hj).1, (hk j p hj).2, fun i u hu => by
    have h2 : cells[j * 6 + i]? = some u := by
      rw [List.getElem?_take] at hu
      split at hu
      · rw [List.getElem?_drop] at hu; exact hu
      · cases hu
    rw [add_plain]
    exact h.cell (j * 6 + i) (by simpa using h2)⟩⟩⟩

/-- What shown has made, from block n on. -/
structure ShW (n : Nat) (c0 t1 : Int) (v1 : Value) (W : World) : Prop where
  r0 : Blk W n #[.int .i64 1, .int .i64 c0] 66
  s0 : Blk W (n + 1) #[.int .i64 2, .int .i64 2, .bool false] 43
  r1 : Blk W (n + 3) #[.int .i64 1, .int .i64 2] 66
  s1 : Blk W (n + 4) #[.int .i64 2, .int .i64 3, .bool false] 43
  s2 : Blk W (n + 6) #[.int .i64 (-1), .int .i64 0, .bool true] 43
  o : Blk W (n + 7) #[.int .i64 7, .slice (some ⟨n, 0, none⟩) 1 1, .slice (some ⟨n + 1, 0, none⟩) 1 1, .int .u64 4, .int .u64 0, .int .i64 (-1), .int .i64 t1, .slice (some ⟨n + 3, 0, none⟩) 1 1, v1, .int .u64 4, .int .u64 1, .int .i64 (-1), .int .i64 9, .slice none 0 0, .slice (some ⟨n + 6, 0, none⟩) 1 1, .int .u64 0, .int .u64 1, .int .i64 (-1)] 41
theorem ShW.below {n : Nat} {c0 t1 : Int} {v1 : Value} {W W' : World} (h : ShW n c0 t1 v1 W) (hb : Below W.heap.size W W') : ShW n c0 t1 v1 W' :=
  ⟨h.r0.below hb h.r0.lt, h.s0.below hb h.s0.lt, h.r1.below hb h.r1.lt, h.s1.below hb h.s1.lt, h.s2.below hb h.s2.lt, h.o.below hb h.o.lt⟩
theorem ShW.far {n : Nat} {c0 t1 : Int} {v1 : Value} {W : World} (h : ShW n c0 t1 v1 W) (a : Addr) (u : Value) (hn : a.block < n ∨ n + 7 < a.block) : ShW n c0 t1 v1 (W.setCell a u) :=
  ⟨h.r0.far a u (by omega), h.s0.far a u (by omega), h.r1.far a u (by omega), h.s1.far a u (by omega), h.s2.far a u (by omega), h.o.far a u (by omega)⟩
theorem ShW.C {n : Nat} {c0 t1 : Int} {v1 : Value} {W : World} (h : ShW n c0 t1 v1 W) (s1 : List S43) {A : Option Addr} {c : Nat} (hv : v1 = .slice A s1.length c) (hc : s1.length ≤ c) (hC : Kd.C k43 W A s1.length s1) : Kd.C k41 W (some ⟨n + 7, 0, none⟩) 3 (shownX c0 t1 s1) := by
  subst hv
  refine blk_C41 (xs := shownX c0 t1 s1) h.o (by simp [shownX]) (fun j p hj => ?_)
  match j, hj with
  | 0, hj =>
    obtain rfl : _ = p := Option.some.inj hj
    exact ⟨rfl, k41_mk W ⟨7, [⟨1, c0⟩], [⟨2, 2, false⟩], 4, 0, -1⟩ (Nat.le_refl _) (blk_C66 h.r0) (Nat.le_refl _) (blk_C43 h.s0)⟩
  | 1, hj =>
    obtain rfl : _ = p := Option.some.inj hj
    exact ⟨rfl, k41_mk W ⟨t1, [⟨1, 2⟩], s1, 4, 1, -1⟩ (Nat.le_refl _) (blk_C66 h.r1) hc hC⟩
  | 2, hj =>
    obtain rfl : _ = p := Option.some.inj hj
    exact ⟨rfl, k41_mk W ⟨9, [], [⟨-1, 0, true⟩], 0, 1, -1⟩ (Nat.le_refl _) (nil_C _ _) (Nat.le_refl _) (blk_C43 h.s2)⟩
  | j + 3, hj => simp [shownX] at hj
theorem ShW.C2 {n : Nat} {W : World} (h : ShW n 1 9 (.slice (some ⟨n + 4, 0, none⟩) 1 1) W) : Kd.C k41 W (some ⟨n + 7, 0, none⟩) 2 shownA := by
  refine blk_C41 (xs := shownA) h.o (by simp [shownA]) (fun j p hj => ?_)
  match j, hj with
  | 0, hj =>
    obtain rfl : _ = p := Option.some.inj hj
    exact ⟨rfl, k41_mk W ⟨7, [⟨1, 1⟩], [⟨2, 2, false⟩], 4, 0, -1⟩ (Nat.le_refl _) (blk_C66 h.r0) (Nat.le_refl _) (blk_C43 h.s0)⟩
  | 1, hj =>
    obtain rfl : _ = p := Option.some.inj hj
    exact ⟨rfl, k41_mk W ⟨9, [⟨1, 2⟩], [⟨2, 3, false⟩], 4, 1, -1⟩ (Nat.le_refl _) (blk_C66 h.r1) (Nat.le_refl _) (blk_C43 h.s1)⟩
  | j + 2, hj => simp [shownA] at hj

theorem blk_at {w : World} {n : Nat} {cs : Array Value} {t : TypeId} (h : w.heap.size = n) : Blk (w.alloc (.cells cs t)) n cs t := by
  rw [← h]; exact Blk.new w cs t
set_option maxHeartbeats 4000000 in
set_option maxRecDepth 100000 in
theorem shown_blk (w : World) : Calls Tryd.prog 33 #[] w fun e w' => e = .returned (.slice (some ⟨w.heap.size + 7, 0, none⟩) 3 3) ∧ ShW w.heap.size 1 8 (.slice (some ⟨w.heap.size + 4, 0, none⟩) 1 1) w' ∧ w'.heap.size = w.heap.size + 8 ∧ Below w.heap.size w w' := by
  have hu66 := Tryd.underlying66
  have hu43 := Tryd.underlying43
  have hu41 := Tryd.underlying41
  go_enter Tryd.func33, Tryd.ntmps33
  go_wp2_with fail
  go_ret
  refine ⟨rfl, ⟨(by repeat (first | exact blk_at (by simp only [World.size_alloc]; first | done | rfl | omega) | apply Blk.alloc)), (by repeat (first | exact blk_at (by simp only [World.size_alloc]; first | done | rfl | omega) | apply Blk.alloc)), (by repeat (first | exact blk_at (by simp only [World.size_alloc]; first | done | rfl | omega) | apply Blk.alloc)), (by repeat (first | exact blk_at (by simp only [World.size_alloc]; first | done | rfl | omega) | apply Blk.alloc)), (by repeat (first | exact blk_at (by simp only [World.size_alloc]; first | done | rfl | omega) | apply Blk.alloc)), (by repeat (first | exact blk_at (by simp only [World.size_alloc]; first | done | rfl | omega) | apply Blk.alloc))⟩, by simp only [World.size_alloc], ?_⟩
  exact below_alloc (below_alloc (below_alloc (below_alloc (below_alloc (below_alloc (below_alloc (below_alloc (Below.refl _ w) _) _) _) _) _) _) _) _

def tipstafflaw43_ReportKnown.f : Option Bool := some true
set_option maxHeartbeats 8000000 in
set_option maxRecDepth 100000 in
theorem known_calls (w : World) (HL : LaidAt w) : Calls Tryd.prog 7 #[] w fun e w' => e = .returned (.bool true) ∧ Below w.heap.size w w' := by
  have hu29 := Tryd.underlying29
  have hu27 := Tryd.underlying27
  have hu57 := Tryd.underlying57
  have hu41 := Tryd.underlying41
  have HLA := Aside0.mk HL
  clear HL
  go_enter Tryd.func7, Tryd.ntmps7
  go_wp2_with fail
  refine (tipstafflaw43_shown.calls shownL _ shown_val).mono ?_
  rintro e w1 ⟨v1, rfl, hN, hb1⟩
  obtain ⟨A1, c1, rfl, hc1, hC1⟩ := Kd.N_reads hN
  have HB := Aside0.mk hb1
  have hL1 := HLA.out.below hb1
  clear hN hb1
  go_wp2_with fail
  refine (report_Longest.calls 100 A1 c1 shownL 2 true 7 9 0 w1 hL1 hC1 hc1 longest_val).mono ?_
  rintro e w2 ⟨rfl, hb2⟩
  have HB2 := Aside0.mk (below_step HB.out hb2)
  clear hb2 hL1 hC1 HB
  go_upto_region 2 with (fail)
  obtain ⟨bt, hbt⟩ : ∃ X_, w2.heap.size = X_ := ⟨_, rfl⟩
  obtain ⟨w3, hw3⟩ : ∃ X_, w2.alloc (.cells #[.int .i64 7, .int .i64 9] 57) = X_ := ⟨_, rfl⟩
  have hT : Blk w3 bt #[.int .i64 7, .int .i64 9] 57 := by rw [← hw3, ← hbt]; exact Blk.new w2 _ _
  have hB3 : Below w.heap.size w w3 := by rw [← hw3]; exact HB2.out.alloc HB2.out.size _
  rw [hw3, hbt]
  have HT3 := Aside0.mk hT
  have HB3 := Aside0.mk hB3
  have NT := Aside0.mk (show w.heap.size ≤ bt by rw [← hbt]; exact HB2.out.size)
  clear hT hB3 hw3 hbt HB2
  go_wp2_with fail
  refine (tipstafflaw43_shown.calls shownL _ shown_val).mono ?_
  rintro e w4 ⟨v4, rfl, hN, hb4⟩
  obtain ⟨A4, c4, rfl, hc4, hC4⟩ := Kd.N_reads hN
  have HT4 := Aside0.mk (HT3.out.below hb4 HT3.out.lt)
  have HB4 := Aside0.mk (below_step HB3.out hb4)
  clear hN hb4 HT3 HB3
  go_wp2_with fail
  refine (report_Changes.calls 100 A4 c4 shownL [0, 1, 2] 0 w4 hC4 hc4 changes_val).mono ?_
  rintro e w5 ⟨v5, rfl, hR5, hb5⟩
  obtain ⟨A5, c5, rfl, hc5, hC5⟩ := Kd.R_reads hR5
  have HT5 := Aside0.mk (HT4.out.below hb5 HT4.out.lt)
  have HB5 := Aside0.mk (below_step HB4.out hb5)
  have R5 := Aside0.mk hC5
  clear hR5 hb5 hC5 hC4 HT4 HB4
  go_wp2_with fail
  refine (tipstafflaw43_shown.calls shownL _ shown_val).mono ?_
  rintro e w6 ⟨v6, rfl, hN, hb6⟩
  obtain ⟨A6, c6, rfl, hc6, hC6⟩ := Kd.N_reads hN
  have HT6 := Aside0.mk (HT5.out.below hb6 HT5.out.lt)
  have HB6 := Aside0.mk (below_step HB5.out hb6)
  have R6 := Aside0.mk (Kd.C_below R5.out hb6)
  clear hN hb6 HT5 HB5 R5
  go_wp2_with fail
  refine (report_Visits.calls 100 A6 c6 shownL 2 0 1 0 2 w6 hC6 hc6 visits_val0).mono ?_
  rintro e w7 ⟨rfl, hb7⟩
  have HT7 := Aside0.mk (HT6.out.below hb7 HT6.out.lt)
  have HB := Aside0.mk (below_step HB6.out hb7)
  have R7 := Aside0.mk (Kd.C_below R6.out hb7)
  clear hb7 hC6 HT6 HB6 R6
  have HW7 := Aside0.mk (Below.refl w7.heap.size w7)
  go_upto_region 4 with (fail)
  -- REGION4
  refine start_ (n := 7) (S := fun w' => True) (ds := []) #[false, false, false, false, false, false, false] (by kernel_rfl) rfl rfl trivial (fun hHeld => ?_)
  refine one_ (i := 0) (N := some 37) #[true, false, false, false, false, false, false] rfl rfl (by kernel_rfl) (by decide) (fun K hK => ?_)
  refine goes_ Tryd.func33 (by kernel_rfl) rfl #[] (by rfl) rfl rfl (by simp only [List.map_toArray, List.map_nil]) ?_
  with_reducible refine (shown_blk _).mono ?_
  rintro e wA ⟨rfl, hS, hz, hb⟩
  refine ⟨_, rfl, ?_⟩
  have HSa := Aside0.mk hS
  have HZa := Aside0.mk hz
  have HBn := Aside0.mk (below_step (by repeat (first | (with_reducible first | exact HB.out | apply pw_below_drewN | apply below_drew1) | exact HB.out)) hb)
  have HW7' : Aside0 (Below w7.heap.size w7 wA) := ⟨(below_drew (Below.refl w7.heap.size w7)).trans hb⟩
  clear HW7
  have HW7 := HW7'
  clear HW7'
  clear hS hz hb HB
  have HB := HBn
  clear HBn
  refine hK.out _ _ trivial (fun hHeld => ?_)
  clear hK K
  refine norm_ (a' := ?_) ?_ ?_
  rotate_left
  · show Act.put _ (some 37) _ = _
    simp only [Act.put, List.setIfInBounds_toArray, List.set_cons_zero, List.set_cons_succ, i64_w, i32_w]
    rfl
  refine pure_ (i := 1) (N := some 38) (v := ?_) (a' := ?_) #[true, true, false, false, false, false, false] rfl rfl (by kernel_rfl) (fun _ _ _ h => h) (Or.inl ⟨by rfl, ?_⟩) ?_ ?_
  rotate_left
  · intro w'
    go_simp
    with_reducible rfl
  rotate_left
  · simp only [Act.put, List.setIfInBounds_toArray, List.set_cons_zero, List.set_cons_succ, i64_w, i32_w]
    rfl
  refine one_ (i := 2) (N := some 39) #[true, true, true, false, false, false, false] rfl rfl (by kernel_rfl) (by decide) (fun K hK => ?_)
  refine goes_ Tryd.func33 (by kernel_rfl) rfl #[] (by rfl) rfl rfl (by simp only [List.map_toArray, List.map_nil]) ?_
  with_reducible refine (shown_blk _).mono ?_
  rintro e wB ⟨rfl, hS, hz, hb⟩
  refine ⟨_, rfl, ?_⟩
  have HSb := Aside0.mk hS
  have HZb := Aside0.mk hz
  have HBn := Aside0.mk (below_step (by repeat (first | (with_reducible first | exact HB.out | apply pw_below_drewN | apply below_drew1) | exact HB.out)) hb)
  have HSa' := Aside0.mk (HSa.out.below hb)
  clear HSa
  have HSa := HSa'
  clear HSa'
  have HW7' : Aside0 (Below w7.heap.size w7 wB) := ⟨below_step HW7.out hb⟩
  clear HW7
  have HW7 := HW7'
  clear HW7'
  clear hS hz hb HB
  have HB := HBn
  clear HBn
  refine hK.out _ _ trivial (fun hHeld => ?_)
  clear hK K
  refine norm_ (a' := ?_) ?_ ?_
  rotate_left
  · show Act.put _ (some 39) _ = _
    simp only [Act.put, List.setIfInBounds_toArray, List.set_cons_zero, List.set_cons_succ, i64_w, i32_w]
    rfl
  refine one_ (i := 3) (N := some 40) #[true, true, true, true, false, false, false] rfl rfl (by kernel_rfl) (by decide) (fun K hK => ?_)
  refine goes_ Tryd.func33 (by kernel_rfl) rfl #[] (by rfl) rfl rfl (by simp only [List.map_toArray, List.map_nil]) ?_
  with_reducible refine (shown_blk _).mono ?_
  rintro e wC ⟨rfl, hS, hz, hb⟩
  refine ⟨_, rfl, ?_⟩
  have HSc := Aside0.mk hS
  have HZc := Aside0.mk hz
  have HBn := Aside0.mk (below_step (by repeat (first | (with_reducible first | exact HB.out | apply pw_below_drewN | apply below_drew1) | exact HB.out)) hb)
  have HSa' := Aside0.mk (HSa.out.below hb)
  clear HSa
  have HSa := HSa'
  clear HSa'
  have HSb' := Aside0.mk (HSb.out.below hb)
  clear HSb
  have HSb := HSb'
  clear HSb'
  have HW7' : Aside0 (Below w7.heap.size w7 wC) := ⟨below_step HW7.out hb⟩
  clear HW7
  have HW7 := HW7'
  clear HW7'
  clear hS hz hb HB
  have HB := HBn
  clear HBn
  refine hK.out _ _ trivial (fun hHeld => ?_)
  clear hK K
  refine norm_ (a' := ?_) ?_ ?_
  rotate_left
  · show Act.put _ (some 40) _ = _
    simp only [Act.put, List.setIfInBounds_toArray, List.set_cons_zero, List.set_cons_succ, i64_w, i32_w]
    rfl
  refine pure_ (i := 4) (N := some 9) (v := ?_) (a' := ?_) #[true, true, true, true, true, false, false] rfl rfl (by kernel_rfl) (fun _ _ _ h => h) (Or.inl ⟨by rfl, ?_⟩) ?_ ?_
  rotate_left
  · intro w'
    go_simp
    with_reducible rfl
  rotate_left
  · simp only [Act.put, List.setIfInBounds_toArray, List.set_cons_zero, List.set_cons_succ, i64_w, i32_w]
    rfl
  refine pure_ (i := 5) (N := some 10) (v := ?_) (a' := ?_) #[true, true, true, true, true, true, false] rfl rfl (by kernel_rfl) (fun _ _ _ h => h) (Or.inl ⟨by rfl, ?_⟩) ?_ ?_
  rotate_left
  · intro w'
    go_simp
    with_reducible rfl
  rotate_left
  · simp only [Act.put, List.setIfInBounds_toArray, List.set_cons_zero, List.set_cons_succ, i64_w, i32_w]
    rfl
  refine pure_ (i := 6) (N := some 11) (v := ?_) (a' := ?_) #[true, true, true, true, true, true, true] rfl rfl (by kernel_rfl) (fun _ _ _ h => h) (Or.inl ⟨by rfl, ?_⟩) ?_ ?_
  rotate_left
  · intro w'
    go_simp
    with_reducible rfl
  rotate_left
  · simp only [Act.put, List.setIfInBounds_toArray, List.set_cons_zero, List.set_cons_succ, i64_w, i32_w]
    rfl
  refine done_ (by kernel_rfl) ?_
  -- END4
  obtain ⟨na, hna⟩ : ∃ X_, w7.heap.size = X_ := ⟨_, rfl⟩
  obtain ⟨nb, hnb⟩ : ∃ X_, wA.heap.size = X_ := ⟨_, rfl⟩
  obtain ⟨nc, hnc⟩ : ∃ X_, wB.heap.size = X_ := ⟨_, rfl⟩
  have za := HZa.out
  have zb := HZb.out
  have hsa := HSa.out
  have hsb := HSb.out
  have hsc := HSc.out
  simp only [World.size_drew] at za hsa
  rw [hnb, hna] at za
  rw [hnc, hnb] at zb
  rw [hna] at hsa
  rw [hnb] at hsb
  rw [hnc] at hsc
  rw [hna, hnb, hnc]
  have HN7 := Aside0.mk hna.symm
  have hw7 : Below na w7 wC := by rw [← hna]; exact HW7.out
  have hnaw : w.heap.size ≤ na := by rw [← hna]; have := HB.out.size; have := NT.out; have := HT7.out.lt; omega
  clear HSa HSb HSc HZa HZb HZc hHeld hna hnb hnc
  have ca := hsa.o.cell 6 rfl
  have fa := hsa.o.fr 6
  have cb1 := hsb.o.cell 1 rfl
  have cb := hsb.r0.cell 1 rfl
  have fb := hsb.r0.fr 1
  have cc := hsc.o.cell 8 rfl
  have fc := hsc.o.fr 8
  have HSA := Aside0.mk hsa
  have HSB := Aside0.mk hsb
  have HSC := Aside0.mk hsc
  have HW7' := Aside0.mk hw7
  have n1 : ¬ nb + 7 = na + 7 := by omega
  have n2 : ¬ nb = na + 7 := by omega
  have n3 : ¬ nc + 7 = na + 7 := by omega
  have n4 : ¬ nc + 7 = nb := by omega
  have ZA := Aside0.mk za
  have ZB := Aside0.mk zb
  clear hsa hsb hsc hw7 HW7 za zb
  go_upto_region 8 with (fail)
  obtain ⟨w8, hw8⟩ : ∃ X_, ((wC.setCell ⟨na + 7, 6, none⟩ (.int .i64 9)).setCell ⟨nb, 1, none⟩ (.int .i64 7)).setCell ⟨nc + 7, 8, none⟩ (.slice none 0 0) = X_ := ⟨_, rfl⟩
  have za := ZA.out
  have zb := ZB.out
  have hsa : ShW na 1 9 (.slice (some ⟨na + 4, 0, none⟩) 1 1) w8 := by
    rw [← hw8]
    refine ShW.far (ShW.far ?_ _ _ (Or.inr (by show na + 7 < nb; omega))) _ _ (Or.inr (by show na + 7 < nc + 7; omega))
    have h := HSA.out
    exact ⟨h.r0.far _ _ (by show ¬ na = na + 7; omega), h.s0.far _ _ (by show ¬ na + 1 = na + 7; omega), h.r1.far _ _ (by show ¬ na + 3 = na + 7; omega), h.s1.far _ _ (by show ¬ na + 4 = na + 7; omega), h.s2.far _ _ (by show ¬ na + 6 = na + 7; omega), h.o.set 6 _⟩
  have hsb : ShW nb 7 8 (.slice (some ⟨nb + 4, 0, none⟩) 1 1) w8 := by
    rw [← hw8]
    refine ShW.far ?_ _ _ (Or.inr (by show nb + 7 < nc + 7; omega))
    have h := HSB.out.far ⟨na + 7, 6, none⟩ (.int .i64 9) (Or.inl (by show na + 7 < nb; omega))
    exact ⟨h.r0.set 1 _, h.s0.far _ _ (by show ¬ nb + 1 = nb; omega), h.r1.far _ _ (by show ¬ nb + 3 = nb; omega), h.s1.far _ _ (by show ¬ nb + 4 = nb; omega), h.s2.far _ _ (by show ¬ nb + 6 = nb; omega), h.o.far _ _ (by show ¬ nb + 7 = nb; omega)⟩
  have hsc : ShW nc 1 8 (.slice none 0 0) w8 := by
    rw [← hw8]
    have h := (HSC.out.far ⟨na + 7, 6, none⟩ (.int .i64 9) (Or.inl (by show na + 7 < nc; omega))).far ⟨nb, 1, none⟩ (.int .i64 7) (Or.inl (by show nb < nc; omega))
    exact ⟨h.r0.far _ _ (by show ¬ nc = nc + 7; omega), h.s0.far _ _ (by show ¬ nc + 1 = nc + 7; omega), h.r1.far _ _ (by show ¬ nc + 3 = nc + 7; omega), h.s1.far _ _ (by show ¬ nc + 4 = nc + 7; omega), h.s2.far _ _ (by show ¬ nc + 6 = nc + 7; omega), h.o.set 8 _⟩
  have hb78 : Below na w7 w8 := by
    rw [← hw8]
    exact ((HW7'.out.setCell (p := ⟨na + 7, 6, none⟩) (by show na ≤ na + 7; omega) _).setCell (p := ⟨nb, 1, none⟩) (by show na ≤ nb; omega) _).setCell (p := ⟨nc + 7, 8, none⟩) (by show na ≤ nc + 7; omega) _
  have hbw8 : Below w.heap.size w w8 := by
    rw [← hw8]
    exact ((HB.out.setCell (p := ⟨na + 7, 6, none⟩) (by show w.heap.size ≤ na + 7; omega) _).setCell (p := ⟨nb, 1, none⟩) (by show w.heap.size ≤ nb; omega) _).setCell (p := ⟨nc + 7, 8, none⟩) (by show w.heap.size ≤ nc + 7; omega) _
  rw [hw8]
  have HR8 := Aside0.mk (Kd.C_below R7.out (HN7.out ▸ hb78))
  have HT8 : Aside0 (Blk w8 bt #[.int .i64 7, .int .i64 9] 57) := ⟨HT7.out.below hb78 (by rw [HN7.out]; exact HT7.out.lt)⟩
  have HSA := Aside0.mk hsa
  have HSB := Aside0.mk hsb
  have HSC := Aside0.mk hsc
  have HB8 := Aside0.mk hbw8
  clear hw8 za zb hsa hsb hsc hb78 hbw8 ca fa cb1 cb fb cc fc n1 n2 n3 n4 HT7 R7 HW7'
  go_wp2_with fail
  refine (report_Check.calls 100 _ 3 shownA 8 1 w8 HSA.out.C2 (by decide) check_a).mono ?_
  rintro e w9 ⟨rfl, hb⟩
  have HSB9 := Aside0.mk (HSB.out.below hb)
  have HSC9 := Aside0.mk (HSC.out.below hb)
  have HT9 := Aside0.mk (HT8.out.below hb HT8.out.lt)
  have HR9 := Aside0.mk (Kd.C_below HR8.out hb)
  have HB9 := Aside0.mk (below_step HB8.out hb)
  clear hb HSA HSB HSC HT8 HR8 HB8
  go_wp2_with fail
  refine (report_Check.calls 100 _ 3 (shownX 7 8 [⟨2, 3, false⟩]) 11 0 w9 (HSB9.out.C _ rfl (Nat.le_refl _) (blk_C43 HSB9.out.s1)) (by decide) check_b).mono ?_
  rintro e w10 ⟨rfl, hb⟩
  have HSC10 := Aside0.mk (HSC9.out.below hb)
  have HT10 := Aside0.mk (HT9.out.below hb HT9.out.lt)
  have HR10 := Aside0.mk (Kd.C_below HR9.out hb)
  have HB10 := Aside0.mk (below_step HB9.out hb)
  clear hb HSB9 HSC9 HT9 HR9 HB9
  go_wp2_with fail
  refine (report_Check.calls 100 _ 3 (shownX 1 8 []) 3 1 w10 (HSC10.out.C [] rfl (Nat.le_refl _) (nil_C _ _)) (by decide) check_c).mono ?_
  rintro e w11 ⟨rfl, hb⟩
  have HT11 := Aside0.mk (HT10.out.below hb HT10.out.lt)
  have HR11 := Aside0.mk (Kd.C_below HR10.out hb)
  have HB11 := Aside0.mk (below_step HB10.out hb)
  clear hb HSC10 HT10 HR10 HB10
  have hL11 := HLA.out.below HB11.out
  go_wp2_with fail
  refine (report_Count.calls 100 none 0 [] 1 num0 0 w11 hL11 (fun v hv => by cases hv) (nil_C _ _) (Nat.le_refl _) count_val0).mono ?_
  rintro e w12 ⟨v12, rfl, hN12, hb⟩
  obtain ⟨va, vb, vc, rfl, hr, ha, hbb, hc⟩ := hN12
  have ra := ha.C (by decide)
  have rb := hbb.C (by decide)
  have rc := hc.C (by decide)
  obtain ⟨Aa, ia, ja, rfl⟩ := ha.sl
  obtain ⟨Ab, ib, jb, rfl⟩ := hbb.sl
  obtain ⟨Ac, ic, jc, rfl⟩ := hc.sl
  have RA12 := Aside0.mk ra
  have RB12 := Aside0.mk rb
  have RC12 := Aside0.mk rc
  have HT12 := Aside0.mk (HT11.out.below hb HT11.out.lt)
  have HR12 := Aside0.mk (Kd.C_below HR11.out hb)
  have HB12 := Aside0.mk (below_step HB11.out hb)
  clear hr ha hbb hc ra rb rc hb HT11 HR11 HB11 hL11
  simp only [numV, num0, zer6, numC, nums, List.map_cons, List.map_nil, List.cons_append, List.nil_append]
  go_upto_region 12 with (fail)
  obtain ⟨bz, hbz⟩ : ∃ X_, w12.heap.size = X_ := ⟨_, rfl⟩
  obtain ⟨w13, hw13⟩ : ∃ X_, w12.alloc (.cells #[.int .i64 0, .int .i64 0, .int .i64 0, .int .i64 0, .int .i64 0, .int .i64 0, .int .i64 0, .int .i64 0, .int .i64 0, .int .i64 0, .slice Aa ia ja, .slice Ab ib jb, .slice Ac ic jc] 29) = X_ := ⟨_, rfl⟩
  have hZ13 : Blk w13 bz #[.int .i64 0, .int .i64 0, .int .i64 0, .int .i64 0, .int .i64 0, .int .i64 0, .int .i64 0, .int .i64 0, .int .i64 0, .int .i64 0, .slice Aa ia ja, .slice Ab ib jb, .slice Ac ic jc] 29 := by rw [← hw13, ← hbz]; exact Blk.new w12 _ _
  have hb : Below w12.heap.size w12 w13 := by rw [← hw13]; exact below_alloc (Below.refl _ _) _
  rw [hw13, hbz]
  have HT13 := Aside0.mk (HT12.out.below hb HT12.out.lt)
  have HR13 := Aside0.mk (Kd.C_below HR12.out hb)
  have HZ13 := Aside0.mk hZ13
  have RA13 := Aside0.mk (RA12.out.below hb)
  have RB13 := Aside0.mk (RB12.out.below hb)
  have RC13 := Aside0.mk (RC12.out.below hb)
  have HB13 := Aside0.mk (below_step HB12.out hb)
  clear hb HT12 HR12 RA12 RB12 RC12 HB12 hZ13 hw13 hbz
  have hL13 := HLA.out.below HB13.out
  go_wp2_with fail
  refine (tipstafflaw43_awake.calls true w13 hL13 rfl).mono ?_
  rintro e w14 ⟨rfl, hb⟩
  clear hL13
  have HT14 := Aside0.mk (HT13.out.below hb HT13.out.lt)
  have HR14 := Aside0.mk (Kd.C_below HR13.out hb)
  have HZ14 := Aside0.mk (HZ13.out.below hb HZ13.out.lt)
  have RA14 := Aside0.mk (RA13.out.below hb)
  have RB14 := Aside0.mk (RB13.out.below hb)
  have RC14 := Aside0.mk (RC13.out.below hb)
  have HB14 := Aside0.mk (below_step HB13.out hb)
  clear hb HT13 HR13 HZ13 RA13 RB13 RC13 HB13
  go_wp2_with fail
  obtain ⟨N14, hN14⟩ : ∃ X_, w14.heap.size = X_ := ⟨_, rfl⟩
  obtain ⟨w15, hw15⟩ : ∃ X_, w14.alloc (.cells #[.int .i64 8, .int .i64 10] 57) = X_ := ⟨_, rfl⟩
  have h15 : Blk w15 N14 (cellsS [⟨8, 10⟩]).toArray 57 := by rw [← hw15, ← hN14]; exact Blk.new w14 _ _
  have hb : Below w14.heap.size w14 w15 := by rw [← hw15]; exact below_alloc (Below.refl _ _) _
  rw [hw15, hN14]
  have HT15 := Aside0.mk (HT14.out.below hb HT14.out.lt)
  have HR15 := Aside0.mk (Kd.C_below HR14.out hb)
  have HZ15 := Aside0.mk (HZ14.out.below hb HZ14.out.lt)
  have RA15 := Aside0.mk (RA14.out.below hb)
  have RB15 := Aside0.mk (RB14.out.below hb)
  have RC15 := Aside0.mk (RC14.out.below hb)
  have HB15 := Aside0.mk (below_step HB14.out hb)
  clear hb HT14 HR14 HZ14 RA14 RB14 RC14 HB14
  clear hw15 hN14
  refine (tipstafflaw43_spell.calls 100 0 false (some ⟨N14, 0, none⟩) 1 [⟨8, 10⟩] true w15 (lit_C57 _ _ _ h15 (by decide)) (by decide) spell_val1).mono ?_
  rintro e w16 ⟨rfl, hb⟩
  clear h15
  have HT16 := Aside0.mk (HT15.out.below hb HT15.out.lt)
  have HR16 := Aside0.mk (Kd.C_below HR15.out hb)
  have HZ16 := Aside0.mk (HZ15.out.below hb HZ15.out.lt)
  have RA16 := Aside0.mk (RA15.out.below hb)
  have RB16 := Aside0.mk (RB15.out.below hb)
  have RC16 := Aside0.mk (RC15.out.below hb)
  have HB16 := Aside0.mk (below_step HB15.out hb)
  clear hb HT15 HR15 HZ15 RA15 RB15 RC15 HB15
  go_wp2_with fail
  refine (tipstafflaw43_spell.calls 100 2 false none 0 [] true w16 (nil_C _ _) (Nat.le_refl _) spell_val2).mono ?_
  rintro e w17 ⟨rfl, hb⟩
  have HT17 := Aside0.mk (HT16.out.below hb HT16.out.lt)
  have HR17 := Aside0.mk (Kd.C_below HR16.out hb)
  have HZ17 := Aside0.mk (HZ16.out.below hb HZ16.out.lt)
  have RA17 := Aside0.mk (RA16.out.below hb)
  have RB17 := Aside0.mk (RB16.out.below hb)
  have RC17 := Aside0.mk (RC16.out.below hb)
  have HB17 := Aside0.mk (below_step HB16.out hb)
  clear hb HT16 HR16 HZ16 RA16 RB16 RC16 HB16
  have t0 : w17.cell? ⟨bt, 0, none⟩ = some (.int .i64 7) := HT17.out.cell 0 rfl
  have t1 : w17.cell? ⟨bt, 1, none⟩ = some (.int .i64 9) := HT17.out.cell 1 rfl
  go_wp2_with fail
  clear t0 t1
  obtain ⟨N17, hN17⟩ : ∃ X_, w17.heap.size = X_ := ⟨_, rfl⟩
  obtain ⟨w18, hw18⟩ : ∃ X_, w17.alloc (.cells #[.int .i64 0, .int .i64 1, .int .i64 2] 3) = X_ := ⟨_, rfl⟩
  have h18 : Blk w18 N17 (nums .i64 [0, 1, 2]).toArray 3 := by rw [← hw18, ← hN17]; exact Blk.new w17 _ _
  have hb : Below w17.heap.size w17 w18 := by rw [← hw18]; exact below_alloc (Below.refl _ _) _
  rw [hw18, hN17]
  have HT18 := Aside0.mk (HT17.out.below hb HT17.out.lt)
  have HR18 := Aside0.mk (Kd.C_below HR17.out hb)
  have HZ18 := Aside0.mk (HZ17.out.below hb HZ17.out.lt)
  have RA18 := Aside0.mk (RA17.out.below hb)
  have RB18 := Aside0.mk (RB17.out.below hb)
  have RC18 := Aside0.mk (RC17.out.below hb)
  have HB18 := Aside0.mk (below_step HB17.out hb)
  clear hb HT17 HR17 HZ17 RA17 RB17 RC17 HB17
  clear hw18 hN17
  refine (tipstaffkit_SameInts.calls 100 A5 c5 [0, 1, 2] (some ⟨N17, 0, none⟩) 3 [0, 1, 2] true w18 HR18.out hc5 (lit_C _ _ _ h18 (by decide)) (by decide) ints_val0).mono ?_
  rintro e w19 ⟨rfl, hd⟩
  have hb := hd.below
  clear hd h18
  have HT19 := Aside0.mk (HT18.out.below hb HT18.out.lt)
  have HR19 := Aside0.mk (Kd.C_below HR18.out hb)
  have HZ19 := Aside0.mk (HZ18.out.below hb HZ18.out.lt)
  have RA19 := Aside0.mk (RA18.out.below hb)
  have RB19 := Aside0.mk (RB18.out.below hb)
  have RC19 := Aside0.mk (RC18.out.below hb)
  have HB19 := Aside0.mk (below_step HB18.out hb)
  clear hb HT18 HR18 HZ18 RA18 RB18 RC18 HB18
  go_wp2_with fail
  refine (tipstafflaw43_visits.calls 100 3 1 true w19 visits_val1).mono ?_
  rintro e w20 ⟨rfl, hb⟩
  have HT20 := Aside0.mk (HT19.out.below hb HT19.out.lt)
  have HR20 := Aside0.mk (Kd.C_below HR19.out hb)
  have HZ20 := Aside0.mk (HZ19.out.below hb HZ19.out.lt)
  have RA20 := Aside0.mk (RA19.out.below hb)
  have RB20 := Aside0.mk (RB19.out.below hb)
  have RC20 := Aside0.mk (RC19.out.below hb)
  have HB20 := Aside0.mk (below_step HB19.out hb)
  clear hb HT19 HR19 HZ19 RA19 RB19 RC19 HB19
  go_wp2_with fail
  refine (tipstafflaw43_visits.calls 100 2 1 true w20 visits_val2).mono ?_
  rintro e w21 ⟨rfl, hb⟩
  have HT21 := Aside0.mk (HT20.out.below hb HT20.out.lt)
  have HR21 := Aside0.mk (Kd.C_below HR20.out hb)
  have HZ21 := Aside0.mk (HZ20.out.below hb HZ20.out.lt)
  have RA21 := Aside0.mk (RA20.out.below hb)
  have RB21 := Aside0.mk (RB20.out.below hb)
  have RC21 := Aside0.mk (RC20.out.below hb)
  have HB21 := Aside0.mk (below_step HB20.out hb)
  clear hb HT20 HR20 HZ20 RA20 RB20 RC20 HB20
  have z0_ : w21.cell? ⟨bz, 0, none⟩ = some (.int .i64 0) := HZ21.out.cell 0 rfl
  have z1_ : w21.cell? ⟨bz, 1, none⟩ = some (.int .i64 0) := HZ21.out.cell 1 rfl
  have z2_ : w21.cell? ⟨bz, 2, none⟩ = some (.int .i64 0) := HZ21.out.cell 2 rfl
  have z3_ : w21.cell? ⟨bz, 3, none⟩ = some (.int .i64 0) := HZ21.out.cell 3 rfl
  have z4_ : w21.cell? ⟨bz, 4, none⟩ = some (.int .i64 0) := HZ21.out.cell 4 rfl
  have z5_ : w21.cell? ⟨bz, 5, none⟩ = some (.int .i64 0) := HZ21.out.cell 5 rfl
  have z6_ : w21.cell? ⟨bz, 6, none⟩ = some (.int .i64 0) := HZ21.out.cell 6 rfl
  have z7_ : w21.cell? ⟨bz, 7, none⟩ = some (.int .i64 0) := HZ21.out.cell 7 rfl
  have z8_ : w21.cell? ⟨bz, 8, none⟩ = some (.int .i64 0) := HZ21.out.cell 8 rfl
  have z9_ : w21.cell? ⟨bz, 9, none⟩ = some (.int .i64 0) := HZ21.out.cell 9 rfl
  have z10_ : w21.cell? ⟨bz, 10, none⟩ = some (.slice Aa ia ja) := HZ21.out.cell 10 rfl
  have z11_ : w21.cell? ⟨bz, 11, none⟩ = some (.slice Ab ib jb) := HZ21.out.cell 11 rfl
  have z12_ : w21.cell? ⟨bz, 12, none⟩ = some (.slice Ac ic jc) := HZ21.out.cell 12 rfl
  go_wp2_with fail
  clear z0_ z1_ z2_ z3_ z4_ z5_ z6_ z7_ z8_ z9_ z10_ z11_ z12_
  refine (tipstafflaw43_same.calls 100 _ _ num0 num0 true w21 ⟨_, _, _, rfl, rfl, RA21.out, RB21.out, RC21.out⟩ ⟨_, _, _, rfl, rfl, ⟨none, 0, rfl, Nat.le_refl _, nil_C _ _⟩, ⟨none, 0, rfl, Nat.le_refl _, nil_C _ _⟩, ⟨none, 0, rfl, Nat.le_refl _, nil_C _ _⟩⟩ same_val0).mono ?_
  rintro e w22 ⟨rfl, hb⟩
  have HB22 := Aside0.mk (below_step HB21.out hb)
  clear hb
  go_wp2_with fail
  go_ret
  exact ⟨rfl, HB22.out⟩
theorem tipstafflaw43_ReportKnown.calls (r : Bool) (w : World) (HL : LaidAt w) (h : tipstafflaw43_ReportKnown.f = some r) : Calls Tryd.prog 7 #[] w fun e w' => e = .returned (.bool r) ∧ Below w.heap.size w w' := by
  obtain rfl : true = r := Option.some.inj h
  exact known_calls w HL

end Go.Proofs.YtenlokaaloenmaaDoor.S
end

section
namespace Go.Proofs.YtenlokaaloenmaaDoor.S
open Go.RowKit Go.Proofs.YtenlokaaloenmaaDoorW.PrintWords Go.Proofs.YtenlokaaloenmaaDoorW.PrintLast Go.Proofs.YtenlokaaloenmaaDoorW.PrintMore
set_option linter.unusedVariables false
set_option linter.unusedSimpArgs false
set_option linter.unusedVariables false

/-- The three sets of numbers in memory, with their rows. -/
structure PtI (w0 W : World) (bx by_ bz : Nat) (cx cy cz : Array Value) (rows : List (Option Addr × List Int)) : Prop where
  x : Blk W bx cx 29
  y : Blk W by_ cy 29
  z : Blk W bz cz 29
  rows : ∀ p ∈ rows, Kd.C (Kd.int .i64) W p.1 p.2.length p.2
  b : Below w0.heap.size w0 W
theorem PtI.below {w0 W W' : World} {bx by_ bz : Nat} {cx cy cz : Array Value} {rows : List (Option Addr × List Int)} (h : PtI w0 W bx by_ bz cx cy cz rows) (hb : Below W.heap.size W W') : PtI w0 W' bx by_ bz cx cy cz rows :=
  ⟨h.x.below hb h.x.lt, h.y.below hb h.y.lt, h.z.below hb h.z.lt, fun p hp => Kd.C_below (h.rows p hp) hb, below_step h.b hb⟩
end Go.Proofs.YtenlokaaloenmaaDoor.S
end

section
namespace Go.Proofs.YtenlokaaloenmaaDoor.S
open Go.RowKit Go.Proofs.YtenlokaaloenmaaDoorW.PrintWords Go.Proofs.YtenlokaaloenmaaDoorW.PrintLast Go.Proofs.YtenlokaaloenmaaDoorW.PrintMore
set_option linter.unusedVariables false
set_option linter.unusedSimpArgs false
set_option linter.unusedVariables false

theorem has_q (k : Nat) (A : Option Addr) (c : Nat) (l : List Int) (i : Int) (r : Bool) (w : World) (n : Nat) (hC : Kd.C (Kd.int .i64) w A l.length l) (hc : l.length ≤ c) (h : tipstaffkit_Has.f k l i = some r) :
    Calls Tryd.prog 36 #[.slice A l.length c, .int .i64 i] (w.drewN n) fun e w'' => e = .returned (.bool r) ∧ ∃ k, w'' = w.drewN k :=
  Calls.quiet_of ((tipstaffkit_Has.calls k A c l i r _ (Kd.C_drewN hC n) hc h).mono fun _ _ ⟨he, hd⟩ => ⟨he, hd.out⟩)

/-- The lengths of the first spells added to a number. -/
def PT (sp : List S57) (t : Int) : Nat → Int
  | 0 => t
  | j + 1 => wrap64 (PT sp t j + wrap64 ((rd_T57 sp (j : Int)).f1 - (rd_T57 sp (j : Int)).f0))
/-- The lengths and the number of the spells of the first lights. -/
def TT (sp : Nat → List S57) : Nat → Int
  | 0 => 0
  | n + 1 => PT (sp n) (TT sp n) (sp n).length
def MM (sp : Nat → List S57) : Nat → Int
  | 0 => 0
  | n + 1 => wrap64 (MM sp n + ((sp n).length : Int))
/-- What a spell must fulfil. -/
structure SpOk (k : Nat) (sp : List S57) (s t t0 : Int) (n : Nat) (ch : List Int) (q : Nat) : Prop where
  lo : ¬ wrap64 ((rd_T57 sp (q : Int)).f1 - (rd_T57 sp (q : Int)).f0) < 1
  hi : ¬ wrap64 ((rd_T57 sp (q : Int)).f1 - (rd_T57 sp (q : Int)).f0) > wrap64 (t - s)
  ap : 0 < q → ¬ (rd_T57 sp (q : Int)).f0 ≤ (rd_T57 sp ((q : Int) - 1)).f1
  b : tipstaffkit_Has.f k ch (wrap64 ((rd_T57 sp (q : Int)).f0 - t0)) = some true
  e : wrap64 ((rd_T57 sp (q : Int)).f1 - t0) < (n : Int) → tipstaffkit_Has.f k ch (wrap64 ((rd_T57 sp (q : Int)).f1 - t0)) = some true
/-- What the walk keeps in memory. -/
structure SmI (w0 W : World) (bz bg : Nat) (cz : Array Value) (s t : Int) (A4 : Option Addr) (li : List Int) (A6 : Option Addr) (ch : List Int) (A3 : Option Addr) (l : List S41) : Prop where
  z : Blk W bz cz 29
  g : Blk W bg #[.int .i64 s, .int .i64 t] 57
  li : Kd.C (Kd.int .i64) W A4 li.length li
  ch : Kd.C (Kd.int .i64) W A6 ch.length ch
  l : Kd.C k41 W A3 l.length l
  b : Below w0.heap.size w0 W
theorem SmI.below {w0 W W' : World} {bz bg : Nat} {cz : Array Value} {s t : Int} {A4 : Option Addr} {li : List Int} {A6 : Option Addr} {ch : List Int} {A3 : Option Addr} {l : List S41} (h : SmI w0 W bz bg cz s t A4 li A6 ch A3 l) (hb : Below W.heap.size W W') : SmI w0 W' bz bg cz s t A4 li A6 ch A3 l :=
  ⟨h.z.below hb h.z.lt, h.g.below hb h.g.lt, Kd.C_below h.li hb, Kd.C_below h.ch hb, Kd.C_below h.l hb, below_step h.b hb⟩

set_option maxHeartbeats 16000000 in
set_option maxRecDepth 100000 in
theorem rsums_yes (k : Nat) (a0 a1 : Int) (A2 : Option Addr) (c2 : Nat) (l2 : List Int) (w : World) (HL : LaidAt w) (hr0 : Kd.C (Kd.int .i64) w A2 l2.length l2) (hc0 : l2.length ≤ c2)
    (l : List S41) (hmade : tipstafflaw43_made.f k a0 a1 l2 = some l) (hl : l.length ≤ 40) (li : List Int) (hli : report_Lights.f k l = some (li, 0))
    (bf : Int) (bu : Bool) (s t : Int) (hlon : report_Longest.f k l = some (bf, bu, s, t, 0)) (ch : List Int) (hch : report_Changes.f k l = some (ch, 0))
    (zr0 zr1 zr2 zr3 zr4 zr5 zl zo zs zm : Int) (za zb zc : List Int) (hcc : report_Count.f k l 2 = some (⟨[zr0, zr1, zr2, zr3, zr4, zr5], zl, zo, zs, zm, za, zb, zc⟩, 0)) (hv : ∀ v ∈ l, Pure.WV v) (h8c : Num8 ⟨[zr0, zr1, zr2, zr3, zr4, zr5], zl, zo, zs, zm, za, zb, zc⟩)
    (sp : Nat → List S57) (hsp : ∀ i j : Nat, i < 5 → j < 2 → report_Spells.f k l (i : Int) ((j : Int) == 0) = some (sp (2 * i + j), 0)) (hlen : ∀ n, (sp n).length ≤ 1000)
    (hok : ∀ n q, n < 10 → q < (sp n).length → 0 < l.length ∧ SpOk k (sp n) s t (rd_T41 l 0).f0 l.length ch q)
    (hsum : tipstafflaw43_sum.f k li = some (TT sp 10)) (hlit : zl = MM sp 10) (h1 : zo ≤ zl) (h2 : zs ≤ TT sp 10) (h3 : zm ≤ wrap64 (t - s)) :
    Calls Tryd.prog 8 #[.int .i64 a0, .int .i64 a1, .slice A2 l2.length c2] w fun e w' => e = .returned (.bool true) ∧ Below w.heap.size w w' := by
  have hu29 := Tryd.underlying29
  have hu27 := Tryd.underlying27
  have hu57 := Tryd.underlying57
  have hu41 := Tryd.underlying41
  have HLA := Aside0.mk HL
  have R0 := Aside0.mk hr0
  have HMA := Aside0.mk hmade
  have HLI := Aside0.mk hli
  have HLO := Aside0.mk hlon
  have HCH := Aside0.mk hch
  have HCC := Aside0.mk hcc
  have HV := Aside0.mk hv
  have H8C := Aside0.mk h8c
  have HSP := Aside0.mk hsp
  have HLE := Aside0.mk hlen
  have HOK := Aside0.mk hok
  have HSU := Aside0.mk hsum
  have HLT := Aside0.mk hlit
  have H1 := Aside0.mk h1
  have H2 := Aside0.mk h2
  have H3 := Aside0.mk h3
  have HLN := Aside0.mk hl
  clear HL hr0 hmade hli hlon hch hcc hv h8c hsp hlen hok hsum hlit h1 h2 h3 hl
  go_enter Tryd.func8, Tryd.ntmps8
  go_wp2_with fail
  refine (tipstafflaw43_ReportKnown.calls true w HLA.out rfl).mono ?_
  rintro e w1 ⟨rfl, hb1⟩
  have HB1 := Aside0.mk hb1
  clear hb1
  go_wp2_with fail
  refine (tipstafflaw43_made.calls k a0 a1 A2 c2 l2 l w1 (Kd.C_below R0.out HB1.out) hc0 HMA.out).mono ?_
  rintro e w2 ⟨v2, rfl, hS2, hb2⟩
  have HB2 := Aside0.mk (below_step HB1.out hb2)
  obtain ⟨A3, c3, rfl, hc3, hC3⟩ := Kd.S_reads hS2
  have R2 := Aside0.mk hC3
  have HC3 := Aside0.mk hc3
  clear hb2 hS2 hC3 hc3 HB1
  go_wp2_with fail
  refine (report_Lights.calls k A3 c3 l li 0 w2 R2.out HC3.out HLI.out).mono ?_
  rintro e w3 ⟨v3, rfl, hR3, hb3⟩
  obtain ⟨A4, c4, rfl, hc4, hC4⟩ := Kd.R_reads hR3
  have R3 := Aside0.mk (Kd.C_below R2.out hb3)
  have L3 := Aside0.mk hC4
  have HC4 := Aside0.mk hc4
  have HB3 := Aside0.mk (below_step HB2.out hb3)
  clear hb3 hR3 hC4 hc4 R2 HB2
  go_wp2_with fail
  refine (report_Longest.calls k A3 c3 l bf bu s t 0 w3 (HLA.out.below HB3.out) R3.out HC3.out HLO.out).mono ?_
  rintro e w4 ⟨rfl, hb4⟩
  have R4 := Aside0.mk (Kd.C_below R3.out hb4)
  have L4 := Aside0.mk (Kd.C_below L3.out hb4)
  have HB4 := Aside0.mk (below_step HB3.out hb4)
  clear hb4 R3 L3 HB3
  go_upto_region 5 with (fail)
  obtain ⟨bg, hbg⟩ : ∃ X_, w4.heap.size = X_ := ⟨_, rfl⟩
  obtain ⟨w5, hw5⟩ : ∃ X_, w4.alloc (.cells #[.int .i64 s, .int .i64 t] 57) = X_ := ⟨_, rfl⟩
  have hG : Blk w5 bg #[.int .i64 s, .int .i64 t] 57 := by rw [← hw5, ← hbg]; exact Blk.new w4 _ _
  have hb5 : Below w4.heap.size w4 w5 := by rw [← hw5]; exact below_alloc (Below.refl _ _) _
  rw [hw5, hbg]
  have G5 := Aside0.mk hG
  have R5 := Aside0.mk (Kd.C_below R4.out hb5)
  have L5 := Aside0.mk (Kd.C_below L4.out hb5)
  have HB5 := Aside0.mk (below_step HB4.out hb5)
  clear hG hb5 hw5 hbg R4 L4 HB4
  go_wp2_with fail
  refine (report_Changes.calls k A3 c3 l ch 0 w5 R5.out HC3.out HCH.out).mono ?_
  rintro e w6 ⟨v6, rfl, hR6, hb6⟩
  obtain ⟨A6, c6, rfl, hc6, hC6⟩ := Kd.R_reads hR6
  have C6 := Aside0.mk hC6
  have HC6 := Aside0.mk hc6
  have G6 := Aside0.mk (G5.out.below hb6 G5.out.lt)
  have R6 := Aside0.mk (Kd.C_below R5.out hb6)
  have L6 := Aside0.mk (Kd.C_below L5.out hb6)
  have HB6 := Aside0.mk (below_step HB5.out hb6)
  clear hb6 hR6 hC6 hc6 G5 R5 L5 HB5
  go_wp2_with fail
  refine (report_Count.calls k A3 c3 l 2 ⟨[zr0, zr1, zr2, zr3, zr4, zr5], zl, zo, zs, zm, za, zb, zc⟩ 0 w6 (HLA.out.below HB6.out) HV.out R6.out HC3.out HCC.out).mono ?_
  rintro e w7 ⟨v7, rfl, hN7, hb7⟩
  obtain ⟨va_, vb_, vc_, rfl, hr6_, ⟨zB1, zd1, rfl, zm1, g1_⟩, ⟨zB2, zd2, rfl, zm2, g2_⟩, ⟨zB3, zd3, rfl, zm3, g3_⟩⟩ := hN7.C H8C.out
  have C7 := Aside0.mk (Kd.C_below C6.out hb7)
  have G7 := Aside0.mk (G6.out.below hb7 G6.out.lt)
  have R7 := Aside0.mk (Kd.C_below R6.out hb7)
  have L7 := Aside0.mk (Kd.C_below L6.out hb7)
  have HB7 := Aside0.mk (below_step HB6.out hb7)
  clear g1_ g2_ g3_ hN7 hb7 hr6_ zm1 zm2 zm3 C6 G6 R6 L6 HB6
  simp only [numV, numC, nums, List.map_cons, List.map_nil, List.cons_append, List.nil_append]
  go_upto_region 7 with (fail)
  obtain ⟨zz, hbz⟩ : ∃ X_, w7.heap.size = X_ := ⟨_, rfl⟩
  obtain ⟨w8, hw8⟩ : ∃ X_, w7.alloc (.cells #[.int .i64 zr0, .int .i64 zr1, .int .i64 zr2, .int .i64 zr3, .int .i64 zr4, .int .i64 zr5, .int .i64 zl, .int .i64 zo, .int .i64 zs, .int .i64 zm, .slice zB1 za.length zd1, .slice zB2 zb.length zd2, .slice zB3 zc.length zd3] 29) = X_ := ⟨_, rfl⟩
  have hZ : Blk w8 zz #[.int .i64 zr0, .int .i64 zr1, .int .i64 zr2, .int .i64 zr3, .int .i64 zr4, .int .i64 zr5, .int .i64 zl, .int .i64 zo, .int .i64 zs, .int .i64 zm, .slice zB1 za.length zd1, .slice zB2 zb.length zd2, .slice zB3 zc.length zd3] 29 := by rw [← hw8, ← hbz]; exact Blk.new w7 _ _
  have hb8 : Below w7.heap.size w7 w8 := by rw [← hw8]; exact below_alloc (Below.refl _ _) _
  rw [hw8, hbz]
  generalize Value.agg #[.int .i64 zr0, .int .i64 zr1, .int .i64 zr2, .int .i64 zr3, .int .i64 zr4, .int .i64 zr5, .int .i64 zl, .int .i64 zo, .int .i64 zs, .int .i64 zm, .slice zB1 za.length zd1, .slice zB2 zb.length zd2, .slice zB3 zc.length zd3] = Vz_
  have PI := Aside0.mk (SmI.mk hZ (G7.out.below hb8 G7.out.lt) (Kd.C_below L7.out hb8) (Kd.C_below C7.out hb8) (Kd.C_below R7.out hb8) (below_step HB7.out hb8))
  clear hZ hb8 hw8 hbz C7 G7 R7 L7 HB7
  go_wp2_with fail
  go_loopw [19, 20, 21] (fun v19 v20 v21 wr => ∃ i : Nat, v21 = .int .i64 i ∧ i ≤ 5 ∧ v19 = .int .i64 (TT sp (2 * i)) ∧ v20 = .int .i64 (MM sp (2 * i)) ∧ Aside0 (SmI w wr zz bg #[.int .i64 zr0, .int .i64 zr1, .int .i64 zr2, .int .i64 zr3, .int .i64 zr4, .int .i64 zr5, .int .i64 zl, .int .i64 zo, .int .i64 zs, .int .i64 zm, .slice zB1 za.length zd1, .slice zB2 zb.length zd2, .slice zB3 zc.length zd3] s t A4 li A6 ch A3 l)) (fun _ _ v21 _ => 5 - (intOf v21).toNat)
  case atStart => exact ⟨0, rfl, by omega, rfl, rfl, PI⟩
  case round =>
    clear PI
    obtain ⟨i, rfl, hi, rfl, rfl, hP⟩ := hrel
    by_cases hlt : i < 5
    · have q1 : ((i : Int) < 5) = True := eq_true (by omega)
      have q1d : decide ((i : Int) < 5) = true := decide_eq_true (by omega)
      go_wp2_with fail
      go_loopw [19, 20, 22] (fun v19 v20 v22 wr => ∃ j : Nat, v22 = .int .i64 j ∧ j ≤ 2 ∧ v19 = .int .i64 (TT sp (2 * i + j)) ∧ v20 = .int .i64 (MM sp (2 * i + j)) ∧ Aside0 (SmI w wr zz bg #[.int .i64 zr0, .int .i64 zr1, .int .i64 zr2, .int .i64 zr3, .int .i64 zr4, .int .i64 zr5, .int .i64 zl, .int .i64 zo, .int .i64 zs, .int .i64 zm, .slice zB1 za.length zd1, .slice zB2 zb.length zd2, .slice zB3 zc.length zd3] s t A4 li A6 ch A3 l)) (fun _ _ v22 _ => 2 - (intOf v22).toNat)
      case atStart => exact ⟨0, rfl, by omega, rfl, rfl, hP⟩
      case round =>
        clear hP
        obtain ⟨j, rfl, hj, rfl, rfl, hP⟩ := hrel
        by_cases hjl : j < 2
        · have r1 : ((j : Int) < 2) = True := eq_true (by omega)
          have r1d : decide ((j : Int) < 2) = true := decide_eq_true (by omega)
          have SPJ := Aside0.mk (HSP.out i j hlt hjl)
          have LEJ := Aside0.mk (HLE.out (2 * i + j))
          have OKJ := Aside0.mk (fun q => HOK.out (2 * i + j) q (by omega))
          have TJ := Aside0.mk (show TT sp (2 * i + (j + 1)) = PT (sp (2 * i + j)) (TT sp (2 * i + j)) (sp (2 * i + j)).length from rfl)
          have MJ := Aside0.mk (show MM sp (2 * i + (j + 1)) = wrap64 (MM sp (2 * i + j) + ((sp (2 * i + j)).length : Int)) from rfl)
          obtain ⟨S, hS⟩ : ∃ X_, sp (2 * i + j) = X_ := ⟨_, rfl⟩
          obtain ⟨T0, hT0⟩ : ∃ X_, TT sp (2 * i + j) = X_ := ⟨_, rfl⟩
          obtain ⟨M0, hM0⟩ : ∃ X_, MM sp (2 * i + j) = X_ := ⟨_, rfl⟩
          rw [hS] at SPJ LEJ OKJ TJ MJ
          rw [hT0] at TJ ⊢
          rw [hM0] at MJ ⊢
          clear hS hT0 hM0
          go_wp2_with fail
          refine (report_Spells.calls k A3 c3 l (i : Int) ((j : Int) == 0) S 0 wr hP.out.l HC3.out SPJ.out).mono ?_
          rintro e wa ⟨va, rfl, hRa, hba⟩
          obtain ⟨A8, c8, rfl, hc8, hC8⟩ := Kd.R_reads hRa
          have hPa := Aside0.mk (hP.out.below hba)
          have S8 := Aside0.mk hC8
          clear hRa hba hC8 hP
          go_wp2_with fail
          go_loopw [19, 25] (fun v19 v25 wr => ∃ q : Nat, v25 = .int .i64 q ∧ q ≤ S.length ∧ v19 = .int .i64 (PT S T0 q) ∧ Aside0 (SmI w wr zz bg #[.int .i64 zr0, .int .i64 zr1, .int .i64 zr2, .int .i64 zr3, .int .i64 zr4, .int .i64 zr5, .int .i64 zl, .int .i64 zo, .int .i64 zs, .int .i64 zm, .slice zB1 za.length zd1, .slice zB2 zb.length zd2, .slice zB3 zc.length zd3] s t A4 li A6 ch A3 l) ∧ Aside0 (Kd.C k57 wr A8 S.length S)) (fun _ v25 _ => S.length - (intOf v25).toNat)
          case atStart => exact ⟨0, rfl, by omega, rfl, hPa, S8⟩
          case round =>
            clear hPa S8
            obtain ⟨q, rfl, hq, rfl, hPq, hSq⟩ := hrel
            by_cases hql : q < S.length
            · have t1 : ((q : Int) < (S.length : Int)) = True := eq_true (by omega)
              have t1d : decide ((q : Int) < (S.length : Int)) = true := decide_eq_true (by omega)
              obtain ⟨hn0, ok⟩ := OKJ.out q hql
              obtain ⟨ae, e1, x0, x1⟩ := at_T57 hSq.out (q : Int) (by omega) (by omega)
              obtain ⟨ad, B1, b1, B2, b2, e2, y0, _, _, _, _, _, _, _, _, _⟩ := at_T41 hPq.out.l 0 (by omega) (by omega)
              cases e1
              cases e2
              rw [Int.toNat_natCast] at x0 x1
              have y0' : wr.cell? ad = some (.int .i64 (rd_T41 l 0).f0) := by simpa [Addr.add_zero'] using y0
              clear y0
              have g0 : wr.cell? ⟨bg, 0, none⟩ = some (.int .i64 s) := hPq.out.g.cell 0 rfl
              have g1 : wr.cell? ⟨bg, 1, none⟩ = some (.int .i64 t) := hPq.out.g.cell 1 rfl
              have l0_ : ((0 : Int) < (l.length : Int)) = True := eq_true (by omega)
              have q0_ : (0 ≤ (q : Int)) = True := eq_true (by omega)
              have LEQ := LEJ.out
              have hq8 : q < 1000000 := by omega
              clear LEQ
              have nlo : decide (wrap64 ((rd_T57 S (q : Int)).f1 - (rd_T57 S (q : Int)).f0) < 1) = false := decide_eq_false ok.lo
              have nhi : decide (wrap64 ((rd_T57 S (q : Int)).f1 - (rd_T57 S (q : Int)).f0) > wrap64 (t - s)) = false := decide_eq_false ok.hi
              have HAP := Aside0.mk ok.ap
              have HB0 := Aside0.mk ok.b
              have HEE := Aside0.mk ok.e
              have PTS := Aside0.mk (show PT S T0 (q + 1) = wrap64 (PT S T0 q + wrap64 ((rd_T57 S (q : Int)).f1 - (rd_T57 S (q : Int)).f0)) from rfl)
              obtain ⟨P0, hP0⟩ : ∃ X_, PT S T0 q = X_ := ⟨_, rfl⟩
              rw [hP0] at PTS ⊢
              clear ok hP0
              go_wp2_with fail
              go_big_quiet (fail)
              generalize nq = n1_
              go_wp2_with fail
              go_big_quiet (fail)
              generalize nq = n2_
              go_wp2_with fail
              go_big_quiet (fail)
              generalize nq = n3_
              go_wp2_with fail
              obtain ⟨wq, hwq⟩ : ∃ X_, ((wr.drewN n1_).drewN n2_).drewN n3_ = X_ := ⟨_, rfl⟩
              rw [hwq]
              have hbq : Below wr.heap.size wr wq := by rw [← hwq]; exact pw_below_drewN (pw_below_drewN (pw_below_drewN (Below.refl _ _) _) _) _
              have hPw := Aside0.mk (hPq.out.below hbq)
              have hSw := Aside0.mk (Kd.C_below hSq.out hbq)
              have CHq := Aside0.mk hPw.out.ch
              have gq0 : wq.cell? ⟨bg, 0, none⟩ = some (.int .i64 s) := hPw.out.g.cell 0 rfl
              have gq1 : wq.cell? ⟨bg, 1, none⟩ = some (.int .i64 t) := hPw.out.g.cell 1 rfl
              obtain ⟨_, e1, x0, x1⟩ := at_T57 hSw.out (q : Int) (by omega) (by omega)
              cases e1
              rw [Int.toNat_natCast] at x0 x1
              clear hwq hbq y0' g0 g1 hPq hSq
              have L1 : ∀ b : Bool, decide (wrap64 ((rd_T57 S (q : Int)).f1 - (rd_T41 l 0).f0) < (l.length : Int)) = b → b = true → tipstaffkit_Has.f k ch (wrap64 ((rd_T57 S (q : Int)).f1 - (rd_T41 l 0).f0)) = some true := fun b hb ht => HEE.out (of_decide_eq_true (hb.trans ht))
              have LL := Aside0.mk L1
              clear L1
              by_cases hq0 : q = 0
              · have hgt : decide ((q : Int) > 0) = false := decide_eq_false (by omega)
                have hgtN : decide (0 < q) = false := decide_eq_false (by omega)
                clear hq0
                cases hend : decide (wrap64 ((rd_T57 S (q : Int)).f1 - (rd_T41 l 0).f0) < (l.length : Int)) with
                | true =>
                  have HE0 := Aside0.mk (LL.out _ hend rfl)
                  go_big_quiet (first | (go_at_call 36; with_reducible exact has_q k A6 c6 ch _ true _ _ CHq.out HC6.out HB0.out) | (go_at_call 36; with_reducible exact has_q k A6 c6 ch _ true _ _ CHq.out HC6.out HE0.out))
                  go_wp2_with fail
                  go_roundw
                  case rel => exact ⟨q + 1, by first | (go_num; done) | simp [Pure.wrap_succ q (by omega)], by omega, by rw [PTS.out], ⟨hPw.out.below (pw_below_drewN (Below.refl _ _) _)⟩, ⟨Kd.C_drewN hSw.out _⟩⟩
                  case measure => first | (simp [intOf, Pure.wrap_succ q (by omega)]; omega; done) | (simp [intOf]; omega)
                | false =>
                  have HE0 := HB0
                  go_big_quiet (first | (go_at_call 36; with_reducible exact has_q k A6 c6 ch _ true _ _ CHq.out HC6.out HB0.out) | (go_at_call 36; with_reducible exact has_q k A6 c6 ch _ true _ _ CHq.out HC6.out HE0.out))
                  go_wp2_with fail
                  go_roundw
                  case rel => exact ⟨q + 1, by first | (go_num; done) | simp [Pure.wrap_succ q (by omega)], by omega, by rw [PTS.out], ⟨hPw.out.below (pw_below_drewN (Below.refl _ _) _)⟩, ⟨Kd.C_drewN hSw.out _⟩⟩
                  case measure => first | (simp [intOf, Pure.wrap_succ q (by omega)]; omega; done) | (simp [intOf]; omega)
              · have hgt : decide ((q : Int) > 0) = true := decide_eq_true (by omega)
                have hgtN : decide (0 < q) = true := decide_eq_true (by omega)
                have hgt' : (0 < (q : Int)) = True := eq_true (by omega)
                have nap : decide ((rd_T57 S (q : Int)).f0 ≤ (rd_T57 S ((q : Int) - 1)).f1) = false := decide_eq_false (Int.not_le.2 (HAP.out (by omega)))
                have m0_ : (0 ≤ (q : Int) - 1) = True := eq_true (by omega)
                have m1_ : ((q : Int) - 1 < (S.length : Int)) = True := eq_true (by omega)
                have hq1_ : 1 ≤ (q : Int) := by omega
                obtain ⟨_, e1, z0, z1⟩ := at_T57 hSw.out ((q : Int) - 1) (by omega) (by omega)
                cases e1
                rw [show ((q : Int) - 1).toNat = q - 1 by omega] at z0 z1
                clear hq0
                cases hend : decide (wrap64 ((rd_T57 S (q : Int)).f1 - (rd_T41 l 0).f0) < (l.length : Int)) with
                | true =>
                  have HE0 := Aside0.mk (LL.out _ hend rfl)
                  go_big_quiet (first | (go_at_call 36; with_reducible exact has_q k A6 c6 ch _ true _ _ CHq.out HC6.out HB0.out) | (go_at_call 36; with_reducible exact has_q k A6 c6 ch _ true _ _ CHq.out HC6.out HE0.out))
                  go_wp2_with fail
                  go_roundw
                  case rel => exact ⟨q + 1, by first | (go_num; done) | simp [Pure.wrap_succ q (by omega)], by omega, by rw [PTS.out], ⟨hPw.out.below (pw_below_drewN (Below.refl _ _) _)⟩, ⟨Kd.C_drewN hSw.out _⟩⟩
                  case measure => first | (simp [intOf, Pure.wrap_succ q (by omega)]; omega; done) | (simp [intOf]; omega)
                | false =>
                  have HE0 := HB0
                  go_big_quiet (first | (go_at_call 36; with_reducible exact has_q k A6 c6 ch _ true _ _ CHq.out HC6.out HB0.out) | (go_at_call 36; with_reducible exact has_q k A6 c6 ch _ true _ _ CHq.out HC6.out HE0.out))
                  go_wp2_with fail
                  go_roundw
                  case rel => exact ⟨q + 1, by first | (go_num; done) | simp [Pure.wrap_succ q (by omega)], by omega, by rw [PTS.out], ⟨hPw.out.below (pw_below_drewN (Below.refl _ _) _)⟩, ⟨Kd.C_drewN hSw.out _⟩⟩
                  case measure => first | (simp [intOf, Pure.wrap_succ q (by omega)]; omega; done) | (simp [intOf]; omega)
            · have hqe : q = S.length := by omega
              subst hqe
              have t1 : ((S.length : Int) < (S.length : Int)) = False := eq_false (by omega)
              have t1d : decide ((S.length : Int) < (S.length : Int)) = false := decide_eq_false (by omega)
              have hj8 : j < 1000000 := by omega
              go_wp2_with fail
              go_roundw
              case rel => exact ⟨j + 1, by first | (go_num; done) | simp [Pure.wrap_succ j (by omega)], by omega, by rw [TJ.out], by rw [MJ.out], hPq⟩
              case measure => first | (simp [intOf, Pure.wrap_succ j (by omega)]; omega; done) | (simp [intOf]; omega)
        · have hj2 : j = 2 := by omega
          subst hj2
          have r1 : (((2 : Nat) : Int) < 2) = False := eq_false (by omega)
          have r1d : decide (((2 : Nat) : Int) < 2) = false := decide_eq_false (by omega)
          have hi8 : i < 1000000 := by omega
          go_wp2_with fail
          go_roundw
          case rel => exact ⟨i + 1, by first | (go_num; done) | simp [Pure.wrap_succ i (by omega)], by omega, rfl, rfl, hP⟩
          case measure => first | (simp [intOf, Pure.wrap_succ i (by omega)]; omega; done) | (simp [intOf]; omega)
    · have hi5 : i = 5 := by omega
      subst hi5
      have q1 : (((5 : Nat) : Int) < 5) = False := eq_false (by omega)
      have q1d : decide (((5 : Nat) : Int) < 5) = false := decide_eq_false (by omega)
      obtain ⟨T, hT⟩ : ∃ X_, TT sp 10 = X_ := ⟨_, rfl⟩
      have HSU' := Aside0.mk (hT ▸ HSU.out : tipstafflaw43_sum.f k li = some T)
      have e1_ : TT sp (2 * 5) = T := hT
      have e2_ : MM sp (2 * 5) = zl := HLT.out.symm
      rw [e1_, e2_]
      have k1 : decide (zo ≤ zl) = true := decide_eq_true H1.out
      have k2 : decide (zs ≤ T) = true := decide_eq_true (by rw [← hT]; exact H2.out)
      have k3 : decide (zm ≤ wrap64 (t - s)) = true := decide_eq_true H3.out
      have k4 : (T == T) = true := by simp
      have k5 : (zl == zl) = true := by simp
      clear e1_ e2_ hT
      go_wp2_with fail
      refine (tipstafflaw43_sum.calls k A4 c4 li T wr hP.out.li HC4.out HSU'.out).mono ?_
      rintro e wf ⟨rfl, hbf⟩
      have hPf := hP.out.below hbf.below
      have z6_ : wf.cell? ⟨zz, 6, none⟩ = some (.int .i64 zl) := hPf.z.cell 6 rfl
      have z7_ : wf.cell? ⟨zz, 7, none⟩ = some (.int .i64 zo) := hPf.z.cell 7 rfl
      have z8_ : wf.cell? ⟨zz, 8, none⟩ = some (.int .i64 zs) := hPf.z.cell 8 rfl
      have z9_ : wf.cell? ⟨zz, 9, none⟩ = some (.int .i64 zm) := hPf.z.cell 9 rfl
      have g0_ : wf.cell? ⟨bg, 0, none⟩ = some (.int .i64 s) := hPf.g.cell 0 rfl
      have g1_ : wf.cell? ⟨bg, 1, none⟩ = some (.int .i64 t) := hPf.g.cell 1 rfl
      have PF := Aside0.mk hPf
      clear hbf hPf
      go_wp2_with fail
      go_ret
      exact ⟨rfl, PF.out.b⟩

/-- The spells of the n-th light of the first five floors. -/
noncomputable def spN (k : Nat) (l : List S41) (n : Nat) : List S57 := ((report_Spells.f k l ((n / 2 : Nat) : Int) (((n % 2 : Nat) : Int) == 0)).getD ([], 0)).1
theorem cntV_r6s (w : Int) : ∀ (l : List S41) (st : List Int × R3), (cntV w l st).1.length = st.1.length
  | [], _ => rfl
  | v :: l, st => (cntV_r6s w l (vwF w st v)).trans (repF_len v.f1 st.1)
theorem count_r6s {k : Nat} {l : List S41} {wd : Int} {n : Num} {e : Int} (h : report_Count.f k l wd = some (n, e)) : n.r.length = 6 := by
  obtain ⟨⟨e0, i⟩, he, h⟩ := Option.bind_eq_some_iff.1 h
  by_cases h0 : e0 = 0
  · rw [if_pos h0] at h
    by_cases h1 : wd < 1 ∨ 20 < wd
    · rw [if_pos h1] at h
      rw [← (Prod.mk.inj (Option.some.inj h)).1]; rfl
    · rw [if_neg h1] at h
      obtain ⟨xs, _, h⟩ := Option.map_eq_some_iff.1 h
      rw [← (Prod.mk.inj h).1]
      exact cntV_r6s wd l _
  · rw [if_neg h0] at h
    rw [← (Prod.mk.inj (Option.some.inj h)).1]; rfl
/-- What must hold of a run for the statement. -/
structure SumsOk (k : Nat) (l : List S41) (li : List Int × Int) (lo : Int × Bool × Int × Int × Int) (ch : List Int × Int) (n : Num × Int) : Prop where
  len : l.length ≤ 40
  wv : ∀ v ∈ l, Pure.WV v
  zli : li.2 = 0
  zlo : lo.2.2.2.2 = 0
  zch : ch.2 = 0
  zn : n.2 = 0
  n8 : Num8 n.1
  sp : ∀ i j : Nat, i < 5 → j < 2 → report_Spells.f k l (i : Int) ((j : Int) == 0) = some (spN k l (2 * i + j), 0)
  sl : ∀ m, (spN k l m).length ≤ 1000
  ok : ∀ m q, m < 10 → q < (spN k l m).length → 0 < l.length ∧ SpOk k (spN k l m) lo.2.2.1 lo.2.2.2.1 (rd_T41 l 0).f0 l.length ch.1 q
  sum : tipstafflaw43_sum.f k li.1 = some (TT (spN k l) 10)
  lit : n.1.lit = MM (spN k l) 10
  h1 : n.1.out ≤ n.1.lit
  h2 : n.1.sum ≤ TT (spN k l) 10
  h3 : n.1.most ≤ wrap64 (lo.2.2.2.1 - lo.2.2.1)
open Classical in
noncomputable def tipstafflaw43_ReportSums.f (k : Nat) (a0 a1 : Int) (l2 : List Int) : Option Bool :=
  (tipstafflaw43_made.f k a0 a1 l2).bind fun l => (report_Lights.f k l).bind fun li => (report_Longest.f k l).bind fun lo => (report_Changes.f k l).bind fun ch => (report_Count.f k l 2).bind fun n =>
    if SumsOk k l li lo ch n then some true else none
theorem tipstafflaw43_ReportSums.calls (k : Nat) (a0 a1 : Int) (A2 : Option Addr) (c2 : Nat) (l2 : List Int) (r : Bool) (w : World) (HL_ : LaidAt w) (hr2 : Kd.C (Kd.int .i64) w A2 l2.length l2) (hc2 : l2.length ≤ c2) (h : tipstafflaw43_ReportSums.f k a0 a1 l2 = some r) :
    Calls Tryd.prog 8 #[.int .i64 a0, .int .i64 a1, .slice A2 l2.length c2] w fun e w' => e = .returned (.bool r) ∧ Below w.heap.size w w' := by
  obtain ⟨l, hl, h⟩ := Option.bind_eq_some_iff.1 h
  obtain ⟨⟨li, e1⟩, h1, h⟩ := Option.bind_eq_some_iff.1 h
  obtain ⟨⟨bf, bu, s, t, e2⟩, h2, h⟩ := Option.bind_eq_some_iff.1 h
  obtain ⟨⟨ch, e3⟩, h3, h⟩ := Option.bind_eq_some_iff.1 h
  obtain ⟨⟨z, e4⟩, h4, h⟩ := Option.bind_eq_some_iff.1 h
  by_cases hc : SumsOk k l (li, e1) (bf, bu, s, t, e2) (ch, e3) (z, e4)
  · rw [if_pos hc] at h
    obtain rfl := Option.some.inj h
    obtain ⟨g1, g2, rfl, rfl, rfl, rfl, g3, g4, g5, g6, g7, g8, g9, g10, g11⟩ := hc
    obtain ⟨zr, zl, zo, zs, zm, za, zb, zc⟩ := z
    obtain ⟨z0, z1, z2, z3, z4, z5, rfl⟩ := len6 (count_r6s h4)
    exact rsums_yes k a0 a1 A2 c2 l2 w HL_ hr2 hc2 l hl g1 li h1 bf bu s t h2 ch h3 _ _ _ _ _ _ _ _ _ _ _ _ _ h4 g2 g3 (spN k l) g4 g5 g6 g7 g8 g9 g10 g11
  · rw [if_neg hc] at h; cases h
end Go.Proofs.YtenlokaaloenmaaDoor.S
end
