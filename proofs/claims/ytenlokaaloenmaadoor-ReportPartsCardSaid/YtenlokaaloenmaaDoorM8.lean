/- Joined: ReportKnown, walked: the chapter's examples hold. ReportParts, walked. -/
import Derived.Test.YtenlokaaloenmaaDoorHawake
import Derived.Test.YtenlokaaloenmaaDoorHlongest
import Derived.Test.YtenlokaaloenmaaDoorS5
import Derived.Test.YtenlokaaloenmaaDoorS6
import Derived.Test.YtenlokaaloenmaaDoorS2

section
namespace Go.Proofs.YtenlokaaloenmaaDoor.S
open Go.RowKit Go.Proofs.YtenlokaaloenmaaDoorW.PrintWords Go.Proofs.YtenlokaaloenmaaDoorW.PrintLast Go.Proofs.YtenlokaaloenmaaDoorW.PrintMore
set_option linter.unusedVariables false
set_option linter.unusedSimpArgs false

theorem longest_val : report_Longest.f 100 shownL = some (2, true, 7, 9, 0) := by decide +kernel
theorem changes_val : report_Changes.f 100 shownL = some ([0, 1, 2], 0) := by decide +kernel
theorem visits_val0 : report_Visits.f 100 shownL 2 0 1 = some (0, 2) := by decide +kernel
theorem visits_val1 : tipstafflaw43_visits.f 100 3 1 = some true := by decide +kernel
theorem visits_val2 : tipstafflaw43_visits.f 100 2 1 = some true := by decide +kernel
theorem spell_val1 : tipstafflaw43_spell.f 100 0 false [⟨8, 10⟩] = some true := by decide +kernel
theorem spell_val2 : tipstafflaw43_spell.f 100 2 false [] = some true := by decide +kernel
theorem count_val0 : report_Count.f 100 [] 1 = some (num0, 0) := by decide +kernel
theorem same_val0 : tipstafflaw43_same.f 100 num0 num0 = some true := by decide +kernel
theorem ints_val0 : tipstaffkit_SameInts.f 100 [0, 1, 2] [0, 1, 2] = some true := by decide +kernel
/-- The chapter's views, changed at three places. -/
def shownX (c0 t1 : Int) (s1 : List S43) : List S41 := [⟨7, [⟨1, c0⟩], [⟨2, 2, false⟩], 4, 0, -1⟩, ⟨t1, [⟨1, 2⟩], s1, 4, 1, -1⟩, ⟨9, [], [⟨-1, 0, true⟩], 0, 1, -1⟩]
def shownA : List S41 := [⟨7, [⟨1, 1⟩], [⟨2, 2, false⟩], 4, 0, -1⟩, ⟨9, [⟨1, 2⟩], [⟨2, 3, false⟩], 4, 1, -1⟩]
theorem check_a : report_Check.f 100 shownA = some (8, 1) := by decide +kernel
theorem check_b : report_Check.f 100 (shownX 7 8 [⟨2, 3, false⟩]) = some (11, 0) := by decide +kernel
theorem check_c : report_Check.f 100 (shownX 1 8 []) = some (3, 1) := by decide +kernel

theorem blk_C66 {W : World} {g : Nat} {a b : Int} (h : Blk W g #[.int .i64 a, .int .i64 b] 66) : Kd.C k66 W (some ⟨g, 0, none⟩) 1 [⟨a, b⟩] :=
  ⟨rfl, by decide, fun _ => ⟨_, rfl, fun j p hj => by
    match j, hj with
    | 0, hj =>
      cases hj
      refine ⟨[.int .i64 a, .int .i64 b], rfl, k66_mk W ⟨a, b⟩, fun i u hu => ?_⟩
      match i, hu with
      | 0, hu => cases hu; exact h.cell 0 rfl
      | 1, hu => cases hu; exact h.cell 1 rfl
    | j + 1, hj => simp at hj⟩⟩
theorem blk_C43 {W : World} {g : Nat} {a b : Int} {o : Bool} (h : Blk W g #[.int .i64 a, .int .i64 b, .bool o] 43) : Kd.C k43 W (some ⟨g, 0, none⟩) 1 [⟨a, b, o⟩] :=
  ⟨rfl, by decide, fun _ => ⟨_, rfl, fun j p hj => by
    match j, hj with
    | 0, hj =>
      cases hj
      refine ⟨[.int .i64 a, .int .i64 b, .bool o], rfl, k43_mk W ⟨a, b, o⟩, fun i u hu => ?_⟩
      match i, hu with
      | 0, hu => cases hu; exact h.cell 0 rfl
      | 1, hu => cases hu; exact h.cell 1 rfl
      | 2, hu => cases hu; exact h.cell 2 rfl
    | j + 1, hj => simp at hj⟩⟩
theorem nil_C {α : Type} (d : Kd α) (W : World) : Kd.C d W none 0 [] := ⟨rfl, by decide, fun h => absurd h (by decide)⟩
/-- A row of views in a block. -/
theorem blk_C41 {W : World} {g : Nat} {cells : List Value} {xs : List S41} (h : Blk W g cells.toArray 41) (hx : xs.length ≤ 100) (hk : ∀ j p, xs[j]? = some p → ((cells.drop (j * 6)).take 6).length = 6 ∧ k41.K W p ((cells.drop (j * 6)).take 6)) : Kd.C k41 W (some ⟨g, 0, none⟩) xs.length xs :=
  ⟨rfl, by omega, fun _ => ⟨_, rfl, fun j p hj => ⟨(cells.drop (j * 6)).take 6, (hk j p hj).1, (hk j p hj).2, fun i u hu => by
    have h2 : cells[j * 6 + i]? = some u := by
      rw [List.getElem?_take] at hu
      split at hu
      · rw [List.getElem?_drop] at hu; exact hu
      · cases hu
    rw [add_plain]
    exact h.cell (j * 6 + i) (by simpa using h2)⟩⟩⟩

/-- What shown has made, from block n on. -/
structure ShW (n : Nat) (c0 t1 : Int) (v1 : Value) (W : World) : Prop where
  r0 : Blk W n #[.int .i64 1, .int .i64 c0] 66
  s0 : Blk W (n + 1) #[.int .i64 2, .int .i64 2, .bool false] 43
  r1 : Blk W (n + 3) #[.int .i64 1, .int .i64 2] 66
  s1 : Blk W (n + 4) #[.int .i64 2, .int .i64 3, .bool false] 43
  s2 : Blk W (n + 6) #[.int .i64 (-1), .int .i64 0, .bool true] 43
  o : Blk W (n + 7) #[.int .i64 7, .slice (some ⟨n, 0, none⟩) 1 1, .slice (some ⟨n + 1, 0, none⟩) 1 1, .int .u64 4, .int .u64 0, .int .i64 (-1), .int .i64 t1, .slice (some ⟨n + 3, 0, none⟩) 1 1, v1, .int .u64 4, .int .u64 1, .int .i64 (-1), .int .i64 9, .slice none 0 0, .slice (some ⟨n + 6, 0, none⟩) 1 1, .int .u64 0, .int .u64 1, .int .i64 (-1)] 41
theorem ShW.below {n : Nat} {c0 t1 : Int} {v1 : Value} {W W' : World} (h : ShW n c0 t1 v1 W) (hb : Below W.heap.size W W') : ShW n c0 t1 v1 W' :=
  ⟨h.r0.below hb h.r0.lt, h.s0.below hb h.s0.lt, h.r1.below hb h.r1.lt, h.s1.below hb h.s1.lt, h.s2.below hb h.s2.lt, h.o.below hb h.o.lt⟩
theorem ShW.far {n : Nat} {c0 t1 : Int} {v1 : Value} {W : World} (h : ShW n c0 t1 v1 W) (a : Addr) (u : Value) (hn : a.block < n ∨ n + 7 < a.block) : ShW n c0 t1 v1 (W.setCell a u) :=
  ⟨h.r0.far a u (by omega), h.s0.far a u (by omega), h.r1.far a u (by omega), h.s1.far a u (by omega), h.s2.far a u (by omega), h.o.far a u (by omega)⟩
theorem ShW.C {n : Nat} {c0 t1 : Int} {v1 : Value} {W : World} (h : ShW n c0 t1 v1 W) (s1 : List S43) {A : Option Addr} {c : Nat} (hv : v1 = .slice A s1.length c) (hc : s1.length ≤ c) (hC : Kd.C k43 W A s1.length s1) : Kd.C k41 W (some ⟨n + 7, 0, none⟩) 3 (shownX c0 t1 s1) := by
  subst hv
  refine blk_C41 (xs := shownX c0 t1 s1) h.o (by simp [shownX]) (fun j p hj => ?_)
  match j, hj with
  | 0, hj =>
    obtain rfl : _ = p := Option.some.inj hj
    exact ⟨rfl, k41_mk W ⟨7, [⟨1, c0⟩], [⟨2, 2, false⟩], 4, 0, -1⟩ (Nat.le_refl _) (blk_C66 h.r0) (Nat.le_refl _) (blk_C43 h.s0)⟩
  | 1, hj =>
    obtain rfl : _ = p := Option.some.inj hj
    exact ⟨rfl, k41_mk W ⟨t1, [⟨1, 2⟩], s1, 4, 1, -1⟩ (Nat.le_refl _) (blk_C66 h.r1) hc hC⟩
  | 2, hj =>
    obtain rfl : _ = p := Option.some.inj hj
    exact ⟨rfl, k41_mk W ⟨9, [], [⟨-1, 0, true⟩], 0, 1, -1⟩ (Nat.le_refl _) (nil_C _ _) (Nat.le_refl _) (blk_C43 h.s2)⟩
  | j + 3, hj => simp [shownX] at hj
theorem ShW.C2 {n : Nat} {W : World} (h : ShW n 1 9 (.slice (some ⟨n + 4, 0, none⟩) 1 1) W) : Kd.C k41 W (some ⟨n + 7, 0, none⟩) 2 shownA := by
  refine blk_C41 (xs := shownA) h.o (by simp [shownA]) (fun j p hj => ?_)
  match j, hj with
  | 0, hj =>
    obtain rfl : _ = p := Option.some.inj hj
    exact ⟨rfl, k41_mk W ⟨7, [⟨1, 1⟩], [⟨2, 2, false⟩], 4, 0, -1⟩ (Nat.le_refl _) (blk_C66 h.r0) (Nat.le_refl _) (blk_C43 h.s0)⟩
  | 1, hj =>
    obtain rfl : _ = p := Option.some.inj hj
    exact ⟨rfl, k41_mk W ⟨9, [⟨1, 2⟩], [⟨2, 3, false⟩], 4, 1, -1⟩ (Nat.le_refl _) (blk_C66 h.r1) (Nat.le_refl _) (blk_C43 h.s1)⟩
  | j + 2, hj => simp [shownA] at hj

theorem blk_at {w : World} {n : Nat} {cs : Array Value} {t : TypeId} (h : w.heap.size = n) : Blk (w.alloc (.cells cs t)) n cs t := by
  rw [← h]; exact Blk.new w cs t
set_option maxHeartbeats 4000000 in
set_option maxRecDepth 100000 in
theorem shown_blk (w : World) : Calls Tryd.prog 33 #[] w fun e w' => e = .returned (.slice (some ⟨w.heap.size + 7, 0, none⟩) 3 3) ∧ ShW w.heap.size 1 8 (.slice (some ⟨w.heap.size + 4, 0, none⟩) 1 1) w' ∧ w'.heap.size = w.heap.size + 8 ∧ Below w.heap.size w w' := by
  have hu66 := Tryd.underlying66
  have hu43 := Tryd.underlying43
  have hu41 := Tryd.underlying41
  go_enter Tryd.func33, Tryd.ntmps33
  go_wp2_with fail
  go_ret
  refine ⟨rfl, ⟨(by repeat (first | exact blk_at (by simp only [World.size_alloc]; first | done | rfl | omega) | apply Blk.alloc)), (by repeat (first | exact blk_at (by simp only [World.size_alloc]; first | done | rfl | omega) | apply Blk.alloc)), (by repeat (first | exact blk_at (by simp only [World.size_alloc]; first | done | rfl | omega) | apply Blk.alloc)), (by repeat (first | exact blk_at (by simp only [World.size_alloc]; first | done | rfl | omega) | apply Blk.alloc)), (by repeat (first | exact blk_at (by simp only [World.size_alloc]; first | done | rfl | omega) | apply Blk.alloc)), (by repeat (first | exact blk_at (by simp only [World.size_alloc]; first | done | rfl | omega) | apply Blk.alloc))⟩, by simp only [World.size_alloc], ?_⟩
  exact below_alloc (below_alloc (below_alloc (below_alloc (below_alloc (below_alloc (below_alloc (below_alloc (Below.refl _ w) _) _) _) _) _) _) _) _

def tipstafflaw43_ReportKnown.f : Option Bool := some true
set_option maxHeartbeats 8000000 in
set_option maxRecDepth 100000 in
theorem known_calls (w : World) (HL : LaidAt w) : Calls Tryd.prog 7 #[] w fun e w' => e = .returned (.bool true) ∧ Below w.heap.size w w' := by
  have hu29 := Tryd.underlying29
  have hu27 := Tryd.underlying27
  have hu57 := Tryd.underlying57
  have hu41 := Tryd.underlying41
  have HLA := Aside0.mk HL
  clear HL
  go_enter Tryd.func7, Tryd.ntmps7
  go_wp2_with fail
  refine (tipstafflaw43_shown.calls shownL _ shown_val).mono ?_
  rintro e w1 ⟨v1, rfl, hN, hb1⟩
  obtain ⟨A1, c1, rfl, hc1, hC1⟩ := Kd.N_reads hN
  have HB := Aside0.mk hb1
  have hL1 := HLA.out.below hb1
  clear hN hb1
  go_wp2_with fail
  refine (report_Longest.calls 100 A1 c1 shownL 2 true 7 9 0 w1 hL1 hC1 hc1 longest_val).mono ?_
  rintro e w2 ⟨rfl, hb2⟩
  have HB2 := Aside0.mk (below_step HB.out hb2)
  clear hb2 hL1 hC1 HB
  go_upto_region 2 with (fail)
  obtain ⟨bt, hbt⟩ : ∃ X_, w2.heap.size = X_ := ⟨_, rfl⟩
  obtain ⟨w3, hw3⟩ : ∃ X_, w2.alloc (.cells #[.int .i64 7, .int .i64 9] 57) = X_ := ⟨_, rfl⟩
  have hT : Blk w3 bt #[.int .i64 7, .int .i64 9] 57 := by rw [← hw3, ← hbt]; exact Blk.new w2 _ _
  have hB3 : Below w.heap.size w w3 := by rw [← hw3]; exact HB2.out.alloc HB2.out.size _
  rw [hw3, hbt]
  have HT3 := Aside0.mk hT
  have HB3 := Aside0.mk hB3
  have NT := Aside0.mk (show w.heap.size ≤ bt by rw [← hbt]; exact HB2.out.size)
  clear hT hB3 hw3 hbt HB2
  go_wp2_with fail
  refine (tipstafflaw43_shown.calls shownL _ shown_val).mono ?_
  rintro e w4 ⟨v4, rfl, hN, hb4⟩
  obtain ⟨A4, c4, rfl, hc4, hC4⟩ := Kd.N_reads hN
  have HT4 := Aside0.mk (HT3.out.below hb4 HT3.out.lt)
  have HB4 := Aside0.mk (below_step HB3.out hb4)
  clear hN hb4 HT3 HB3
  go_wp2_with fail
  refine (report_Changes.calls 100 A4 c4 shownL [0, 1, 2] 0 w4 hC4 hc4 changes_val).mono ?_
  rintro e w5 ⟨v5, rfl, hR5, hb5⟩
  obtain ⟨A5, c5, rfl, hc5, hC5⟩ := Kd.R_reads hR5
  have HT5 := Aside0.mk (HT4.out.below hb5 HT4.out.lt)
  have HB5 := Aside0.mk (below_step HB4.out hb5)
  have R5 := Aside0.mk hC5
  clear hR5 hb5 hC5 hC4 HT4 HB4
  go_wp2_with fail
  refine (tipstafflaw43_shown.calls shownL _ shown_val).mono ?_
  rintro e w6 ⟨v6, rfl, hN, hb6⟩
  obtain ⟨A6, c6, rfl, hc6, hC6⟩ := Kd.N_reads hN
  have HT6 := Aside0.mk (HT5.out.below hb6 HT5.out.lt)
  have HB6 := Aside0.mk (below_step HB5.out hb6)
  have R6 := Aside0.mk (Kd.C_below R5.out hb6)
  clear hN hb6 HT5 HB5 R5
  go_wp2_with fail
  refine (report_Visits.calls 100 A6 c6 shownL 2 0 1 0 2 w6 hC6 hc6 visits_val0).mono ?_
  rintro e w7 ⟨rfl, hb7⟩
  have HT7 := Aside0.mk (HT6.out.below hb7 HT6.out.lt)
  have HB := Aside0.mk (below_step HB6.out hb7)
  have R7 := Aside0.mk (Kd.C_below R6.out hb7)
  clear hb7 hC6 HT6 HB6 R6
  have HW7 := Aside0.mk (Below.refl w7.heap.size w7)
  go_upto_region 4 with (fail)
  -- REGION4
  refine start_ (n := 7) (S := fun w' => True) (ds := []) #[false, false, false, false, false, false, false] (by kernel_rfl) rfl rfl trivial (fun hHeld => ?_)
  refine one_ (i := 0) (N := some 37) #[true, false, false, false, false, false, false] rfl rfl (by kernel_rfl) (by decide) (fun K hK => ?_)
  refine goes_ Tryd.func33 (by kernel_rfl) rfl #[] (by rfl) rfl rfl (by simp only [List.map_toArray, List.map_nil]) ?_
  with_reducible refine (shown_blk _).mono ?_
  rintro e wA ⟨rfl, hS, hz, hb⟩
  refine ⟨_, rfl, ?_⟩
  have HSa := Aside0.mk hS
  have HZa := Aside0.mk hz
  have HBn := Aside0.mk (below_step (by repeat (first | (with_reducible first | exact HB.out | apply pw_below_drewN | apply below_drew1) | exact HB.out)) hb)
  have HW7' : Aside0 (Below w7.heap.size w7 wA) := ⟨(below_drew (Below.refl w7.heap.size w7)).trans hb⟩
  clear HW7
  have HW7 := HW7'
  clear HW7'
  clear hS hz hb HB
  have HB := HBn
  clear HBn
  refine hK.out _ _ trivial (fun hHeld => ?_)
  clear hK K
  refine norm_ (a' := ?_) ?_ ?_
  rotate_left
  · show Act.put _ (some 37) _ = _
    simp only [Act.put, List.setIfInBounds_toArray, List.set_cons_zero, List.set_cons_succ, i64_w, i32_w]
    rfl
  refine pure_ (i := 1) (N := some 38) (v := ?_) (a' := ?_) #[true, true, false, false, false, false, false] rfl rfl (by kernel_rfl) (fun _ _ _ h => h) (Or.inl ⟨by rfl, ?_⟩) ?_ ?_
  rotate_left
  · intro w'
    go_simp
    with_reducible rfl
  rotate_left
  · simp only [Act.put, List.setIfInBounds_toArray, List.set_cons_zero, List.set_cons_succ, i64_w, i32_w]
    rfl
  refine one_ (i := 2) (N := some 39) #[true, true, true, false, false, false, false] rfl rfl (by kernel_rfl) (by decide) (fun K hK => ?_)
  refine goes_ Tryd.func33 (by kernel_rfl) rfl #[] (by rfl) rfl rfl (by simp only [List.map_toArray, List.map_nil]) ?_
  with_reducible refine (shown_blk _).mono ?_
  rintro e wB ⟨rfl, hS, hz, hb⟩
  refine ⟨_, rfl, ?_⟩
  have HSb := Aside0.mk hS
  have HZb := Aside0.mk hz
  have HBn := Aside0.mk (below_step (by repeat (first | (with_reducible first | exact HB.out | apply pw_below_drewN | apply below_drew1) | exact HB.out)) hb)
  have HSa' := Aside0.mk (HSa.out.below hb)
  clear HSa
  have HSa := HSa'
  clear HSa'
  have HW7' : Aside0 (Below w7.heap.size w7 wB) := ⟨below_step HW7.out hb⟩
  clear HW7
  have HW7 := HW7'
  clear HW7'
  clear hS hz hb HB
  have HB := HBn
  clear HBn
  refine hK.out _ _ trivial (fun hHeld => ?_)
  clear hK K
  refine norm_ (a' := ?_) ?_ ?_
  rotate_left
  · show Act.put _ (some 39) _ = _
    simp only [Act.put, List.setIfInBounds_toArray, List.set_cons_zero, List.set_cons_succ, i64_w, i32_w]
    rfl
  refine one_ (i := 3) (N := some 40) #[true, true, true, true, false, false, false] rfl rfl (by kernel_rfl) (by decide) (fun K hK => ?_)
  refine goes_ Tryd.func33 (by kernel_rfl) rfl #[] (by rfl) rfl rfl (by simp only [List.map_toArray, List.map_nil]) ?_
  with_reducible refine (shown_blk _).mono ?_
  rintro e wC ⟨rfl, hS, hz, hb⟩
  refine ⟨_, rfl, ?_⟩
  have HSc := Aside0.mk hS
  have HZc := Aside0.mk hz
  have HBn := Aside0.mk (below_step (by repeat (first | (with_reducible first | exact HB.out | apply pw_below_drewN | apply below_drew1) | exact HB.out)) hb)
  have HSa' := Aside0.mk (HSa.out.below hb)
  clear HSa
  have HSa := HSa'
  clear HSa'
  have HSb' := Aside0.mk (HSb.out.below hb)
  clear HSb
  have HSb := HSb'
  clear HSb'
  have HW7' : Aside0 (Below w7.heap.size w7 wC) := ⟨below_step HW7.out hb⟩
  clear HW7
  have HW7 := HW7'
  clear HW7'
  clear hS hz hb HB
  have HB := HBn
  clear HBn
  refine hK.out _ _ trivial (fun hHeld => ?_)
  clear hK K
  refine norm_ (a' := ?_) ?_ ?_
  rotate_left
  · show Act.put _ (some 40) _ = _
    simp only [Act.put, List.setIfInBounds_toArray, List.set_cons_zero, List.set_cons_succ, i64_w, i32_w]
    rfl
  refine pure_ (i := 4) (N := some 9) (v := ?_) (a' := ?_) #[true, true, true, true, true, false, false] rfl rfl (by kernel_rfl) (fun _ _ _ h => h) (Or.inl ⟨by rfl, ?_⟩) ?_ ?_
  rotate_left
  · intro w'
    go_simp
    with_reducible rfl
  rotate_left
  · simp only [Act.put, List.setIfInBounds_toArray, List.set_cons_zero, List.set_cons_succ, i64_w, i32_w]
    rfl
  refine pure_ (i := 5) (N := some 10) (v := ?_) (a' := ?_) #[true, true, true, true, true, true, false] rfl rfl (by kernel_rfl) (fun _ _ _ h => h) (Or.inl ⟨by rfl, ?_⟩) ?_ ?_
  rotate_left
  · intro w'
    go_simp
    with_reducible rfl
  rotate_left
  · simp only [Act.put, List.setIfInBounds_toArray, List.set_cons_zero, List.set_cons_succ, i64_w, i32_w]
    rfl
  refine pure_ (i := 6) (N := some 11) (v := ?_) (a' := ?_) #[true, true, true, true, true, true, true] rfl rfl (by kernel_rfl) (fun _ _ _ h => h) (Or.inl ⟨by rfl, ?_⟩) ?_ ?_
  rotate_left
  · intro w'
    go_simp
    with_reducible rfl
  rotate_left
  · simp only [Act.put, List.setIfInBounds_toArray, List.set_cons_zero, List.set_cons_succ, i64_w, i32_w]
    rfl
  refine done_ (by kernel_rfl) ?_
  -- END4
  obtain ⟨na, hna⟩ : ∃ X_, w7.heap.size = X_ := ⟨_, rfl⟩
  obtain ⟨nb, hnb⟩ : ∃ X_, wA.heap.size = X_ := ⟨_, rfl⟩
  obtain ⟨nc, hnc⟩ : ∃ X_, wB.heap.size = X_ := ⟨_, rfl⟩
  have za := HZa.out
  have zb := HZb.out
  have hsa := HSa.out
  have hsb := HSb.out
  have hsc := HSc.out
  simp only [World.size_drew] at za hsa
  rw [hnb, hna] at za
  rw [hnc, hnb] at zb
  rw [hna] at hsa
  rw [hnb] at hsb
  rw [hnc] at hsc
  rw [hna, hnb, hnc]
  have HN7 := Aside0.mk hna.symm
  have hw7 : Below na w7 wC := by rw [← hna]; exact HW7.out
  have hnaw : w.heap.size ≤ na := by rw [← hna]; have := HB.out.size; have := NT.out; have := HT7.out.lt; omega
  clear HSa HSb HSc HZa HZb HZc hHeld hna hnb hnc
  have ca := hsa.o.cell 6 rfl
  have fa := hsa.o.fr 6
  have cb1 := hsb.o.cell 1 rfl
  have cb := hsb.r0.cell 1 rfl
  have fb := hsb.r0.fr 1
  have cc := hsc.o.cell 8 rfl
  have fc := hsc.o.fr 8
  have HSA := Aside0.mk hsa
  have HSB := Aside0.mk hsb
  have HSC := Aside0.mk hsc
  have HW7' := Aside0.mk hw7
  have n1 : ¬ nb + 7 = na + 7 := by omega
  have n2 : ¬ nb = na + 7 := by omega
  have n3 : ¬ nc + 7 = na + 7 := by omega
  have n4 : ¬ nc + 7 = nb := by omega
  have ZA := Aside0.mk za
  have ZB := Aside0.mk zb
  clear hsa hsb hsc hw7 HW7 za zb
  go_upto_region 8 with (fail)
  obtain ⟨w8, hw8⟩ : ∃ X_, ((wC.setCell ⟨na + 7, 6, none⟩ (.int .i64 9)).setCell ⟨nb, 1, none⟩ (.int .i64 7)).setCell ⟨nc + 7, 8, none⟩ (.slice none 0 0) = X_ := ⟨_, rfl⟩
  have za := ZA.out
  have zb := ZB.out
  have hsa : ShW na 1 9 (.slice (some ⟨na + 4, 0, none⟩) 1 1) w8 := by
    rw [← hw8]
    refine ShW.far (ShW.far ?_ _ _ (Or.inr (by show na + 7 < nb; omega))) _ _ (Or.inr (by show na + 7 < nc + 7; omega))
    have h := HSA.out
    exact ⟨h.r0.far _ _ (by show ¬ na = na + 7; omega), h.s0.far _ _ (by show ¬ na + 1 = na + 7; omega), h.r1.far _ _ (by show ¬ na + 3 = na + 7; omega), h.s1.far _ _ (by show ¬ na + 4 = na + 7; omega), h.s2.far _ _ (by show ¬ na + 6 = na + 7; omega), h.o.set 6 _⟩
  have hsb : ShW nb 7 8 (.slice (some ⟨nb + 4, 0, none⟩) 1 1) w8 := by
    rw [← hw8]
    refine ShW.far ?_ _ _ (Or.inr (by show nb + 7 < nc + 7; omega))
    have h := HSB.out.far ⟨na + 7, 6, none⟩ (.int .i64 9) (Or.inl (by show na + 7 < nb; omega))
    exact ⟨h.r0.set 1 _, h.s0.far _ _ (by show ¬ nb + 1 = nb; omega), h.r1.far _ _ (by show ¬ nb + 3 = nb; omega), h.s1.far _ _ (by show ¬ nb + 4 = nb; omega), h.s2.far _ _ (by show ¬ nb + 6 = nb; omega), h.o.far _ _ (by show ¬ nb + 7 = nb; omega)⟩
  have hsc : ShW nc 1 8 (.slice none 0 0) w8 := by
    rw [← hw8]
    have h := (HSC.out.far ⟨na + 7, 6, none⟩ (.int .i64 9) (Or.inl (by show na + 7 < nc; omega))).far ⟨nb, 1, none⟩ (.int .i64 7) (Or.inl (by show nb < nc; omega))
    exact ⟨h.r0.far _ _ (by show ¬ nc = nc + 7; omega), h.s0.far _ _ (by show ¬ nc + 1 = nc + 7; omega), h.r1.far _ _ (by show ¬ nc + 3 = nc + 7; omega), h.s1.far _ _ (by show ¬ nc + 4 = nc + 7; omega), h.s2.far _ _ (by show ¬ nc + 6 = nc + 7; omega), h.o.set 8 _⟩
  have hb78 : Below na w7 w8 := by
    rw [← hw8]
    exact ((HW7'.out.setCell (p := ⟨na + 7, 6, none⟩) (by show na ≤ na + 7; omega) _).setCell (p := ⟨nb, 1, none⟩) (by show na ≤ nb; omega) _).setCell (p := ⟨nc + 7, 8, none⟩) (by show na ≤ nc + 7; omega) _
  have hbw8 : Below w.heap.size w w8 := by
    rw [← hw8]
    exact ((HB.out.setCell (p := ⟨na + 7, 6, none⟩) (by show w.heap.size ≤ na + 7; omega) _).setCell (p := ⟨nb, 1, none⟩) (by show w.heap.size ≤ nb; omega) _).setCell (p := ⟨nc + 7, 8, none⟩) (by show w.heap.size ≤ nc + 7; omega) _
  rw [hw8]
  have HR8 := Aside0.mk (Kd.C_below R7.out (HN7.out ▸ hb78))
  have HT8 : Aside0 (Blk w8 bt #[.int .i64 7, .int .i64 9] 57) := ⟨HT7.out.below hb78 (by rw [HN7.out]; exact HT7.out.lt)⟩
  have HSA := Aside0.mk hsa
  have HSB := Aside0.mk hsb
  have HSC := Aside0.mk hsc
  have HB8 := Aside0.mk hbw8
  clear hw8 za zb hsa hsb hsc hb78 hbw8 ca fa cb1 cb fb cc fc n1 n2 n3 n4 HT7 R7 HW7'
  go_wp2_with fail
  refine (report_Check.calls 100 _ 3 shownA 8 1 w8 HSA.out.C2 (by decide) check_a).mono ?_
  rintro e w9 ⟨rfl, hb⟩
  have HSB9 := Aside0.mk (HSB.out.below hb)
  have HSC9 := Aside0.mk (HSC.out.below hb)
  have HT9 := Aside0.mk (HT8.out.below hb HT8.out.lt)
  have HR9 := Aside0.mk (Kd.C_below HR8.out hb)
  have HB9 := Aside0.mk (below_step HB8.out hb)
  clear hb HSA HSB HSC HT8 HR8 HB8
  go_wp2_with fail
  refine (report_Check.calls 100 _ 3 (shownX 7 8 [⟨2, 3, false⟩]) 11 0 w9 (HSB9.out.C _ rfl (Nat.le_refl _) (blk_C43 HSB9.out.s1)) (by decide) check_b).mono ?_
  rintro e w10 ⟨rfl, hb⟩
  have HSC10 := Aside0.mk (HSC9.out.below hb)
  have HT10 := Aside0.mk (HT9.out.below hb HT9.out.lt)
  have HR10 := Aside0.mk (Kd.C_below HR9.out hb)
  have HB10 := Aside0.mk (below_step HB9.out hb)
  clear hb HSB9 HSC9 HT9 HR9 HB9
  go_wp2_with fail
  refine (report_Check.calls 100 _ 3 (shownX 1 8 []) 3 1 w10 (HSC10.out.C [] rfl (Nat.le_refl _) (nil_C _ _)) (by decide) check_c).mono ?_
  rintro e w11 ⟨rfl, hb⟩
  have HT11 := Aside0.mk (HT10.out.below hb HT10.out.lt)
  have HR11 := Aside0.mk (Kd.C_below HR10.out hb)
  have HB11 := Aside0.mk (below_step HB10.out hb)
  clear hb HSC10 HT10 HR10 HB10
  have hL11 := HLA.out.below HB11.out
  go_wp2_with fail
  refine (report_Count.calls 100 none 0 [] 1 num0 0 w11 hL11 (fun v hv => by cases hv) (nil_C _ _) (Nat.le_refl _) count_val0).mono ?_
  rintro e w12 ⟨v12, rfl, hN12, hb⟩
  obtain ⟨va, vb, vc, rfl, hr, ha, hbb, hc⟩ := hN12
  have ra := ha.C (by decide)
  have rb := hbb.C (by decide)
  have rc := hc.C (by decide)
  obtain ⟨Aa, ia, ja, rfl⟩ := ha.sl
  obtain ⟨Ab, ib, jb, rfl⟩ := hbb.sl
  obtain ⟨Ac, ic, jc, rfl⟩ := hc.sl
  have RA12 := Aside0.mk ra
  have RB12 := Aside0.mk rb
  have RC12 := Aside0.mk rc
  have HT12 := Aside0.mk (HT11.out.below hb HT11.out.lt)
  have HR12 := Aside0.mk (Kd.C_below HR11.out hb)
  have HB12 := Aside0.mk (below_step HB11.out hb)
  clear hr ha hbb hc ra rb rc hb HT11 HR11 HB11 hL11
  simp only [numV, num0, zer6, numC, nums, List.map_cons, List.map_nil, List.cons_append, List.nil_append]
  go_upto_region 12 with (fail)
  obtain ⟨bz, hbz⟩ : ∃ X_, w12.heap.size = X_ := ⟨_, rfl⟩
  obtain ⟨w13, hw13⟩ : ∃ X_, w12.alloc (.cells #[.int .i64 0, .int .i64 0, .int .i64 0, .int .i64 0, .int .i64 0, .int .i64 0, .int .i64 0, .int .i64 0, .int .i64 0, .int .i64 0, .slice Aa ia ja, .slice Ab ib jb, .slice Ac ic jc] 29) = X_ := ⟨_, rfl⟩
  have hZ13 : Blk w13 bz #[.int .i64 0, .int .i64 0, .int .i64 0, .int .i64 0, .int .i64 0, .int .i64 0, .int .i64 0, .int .i64 0, .int .i64 0, .int .i64 0, .slice Aa ia ja, .slice Ab ib jb, .slice Ac ic jc] 29 := by rw [← hw13, ← hbz]; exact Blk.new w12 _ _
  have hb : Below w12.heap.size w12 w13 := by rw [← hw13]; exact below_alloc (Below.refl _ _) _
  rw [hw13, hbz]
  have HT13 := Aside0.mk (HT12.out.below hb HT12.out.lt)
  have HR13 := Aside0.mk (Kd.C_below HR12.out hb)
  have HZ13 := Aside0.mk hZ13
  have RA13 := Aside0.mk (RA12.out.below hb)
  have RB13 := Aside0.mk (RB12.out.below hb)
  have RC13 := Aside0.mk (RC12.out.below hb)
  have HB13 := Aside0.mk (below_step HB12.out hb)
  clear hb HT12 HR12 RA12 RB12 RC12 HB12 hZ13 hw13 hbz
  have hL13 := HLA.out.below HB13.out
  go_wp2_with fail
  refine (tipstafflaw43_awake.calls true w13 hL13 rfl).mono ?_
  rintro e w14 ⟨rfl, hb⟩
  clear hL13
  have HT14 := Aside0.mk (HT13.out.below hb HT13.out.lt)
  have HR14 := Aside0.mk (Kd.C_below HR13.out hb)
  have HZ14 := Aside0.mk (HZ13.out.below hb HZ13.out.lt)
  have RA14 := Aside0.mk (RA13.out.below hb)
  have RB14 := Aside0.mk (RB13.out.below hb)
  have RC14 := Aside0.mk (RC13.out.below hb)
  have HB14 := Aside0.mk (below_step HB13.out hb)
  clear hb HT13 HR13 HZ13 RA13 RB13 RC13 HB13
  go_wp2_with fail
  obtain ⟨N14, hN14⟩ : ∃ X_, w14.heap.size = X_ := ⟨_, rfl⟩
  obtain ⟨w15, hw15⟩ : ∃ X_, w14.alloc (.cells #[.int .i64 8, .int .i64 10] 57) = X_ := ⟨_, rfl⟩
  have h15 : Blk w15 N14 (cellsS [⟨8, 10⟩]).toArray 57 := by rw [← hw15, ← hN14]; exact Blk.new w14 _ _
  have hb : Below w14.heap.size w14 w15 := by rw [← hw15]; exact below_alloc (Below.refl _ _) _
  rw [hw15, hN14]
  have HT15 := Aside0.mk (HT14.out.below hb HT14.out.lt)
  have HR15 := Aside0.mk (Kd.C_below HR14.out hb)
  have HZ15 := Aside0.mk (HZ14.out.below hb HZ14.out.lt)
  have RA15 := Aside0.mk (RA14.out.below hb)
  have RB15 := Aside0.mk (RB14.out.below hb)
  have RC15 := Aside0.mk (RC14.out.below hb)
  have HB15 := Aside0.mk (below_step HB14.out hb)
  clear hb HT14 HR14 HZ14 RA14 RB14 RC14 HB14
  clear hw15 hN14
  refine (tipstafflaw43_spell.calls 100 0 false (some ⟨N14, 0, none⟩) 1 [⟨8, 10⟩] true w15 (lit_C57 _ _ _ h15 (by decide)) (by decide) spell_val1).mono ?_
  rintro e w16 ⟨rfl, hb⟩
  clear h15
  have HT16 := Aside0.mk (HT15.out.below hb HT15.out.lt)
  have HR16 := Aside0.mk (Kd.C_below HR15.out hb)
  have HZ16 := Aside0.mk (HZ15.out.below hb HZ15.out.lt)
  have RA16 := Aside0.mk (RA15.out.below hb)
  have RB16 := Aside0.mk (RB15.out.below hb)
  have RC16 := Aside0.mk (RC15.out.below hb)
  have HB16 := Aside0.mk (below_step HB15.out hb)
  clear hb HT15 HR15 HZ15 RA15 RB15 RC15 HB15
  go_wp2_with fail
  refine (tipstafflaw43_spell.calls 100 2 false none 0 [] true w16 (nil_C _ _) (Nat.le_refl _) spell_val2).mono ?_
  rintro e w17 ⟨rfl, hb⟩
  have HT17 := Aside0.mk (HT16.out.below hb HT16.out.lt)
  have HR17 := Aside0.mk (Kd.C_below HR16.out hb)
  have HZ17 := Aside0.mk (HZ16.out.below hb HZ16.out.lt)
  have RA17 := Aside0.mk (RA16.out.below hb)
  have RB17 := Aside0.mk (RB16.out.below hb)
  have RC17 := Aside0.mk (RC16.out.below hb)
  have HB17 := Aside0.mk (below_step HB16.out hb)
  clear hb HT16 HR16 HZ16 RA16 RB16 RC16 HB16
  have t0 : w17.cell? ⟨bt, 0, none⟩ = some (.int .i64 7) := HT17.out.cell 0 rfl
  have t1 : w17.cell? ⟨bt, 1, none⟩ = some (.int .i64 9) := HT17.out.cell 1 rfl
  go_wp2_with fail
  clear t0 t1
  obtain ⟨N17, hN17⟩ : ∃ X_, w17.heap.size = X_ := ⟨_, rfl⟩
  obtain ⟨w18, hw18⟩ : ∃ X_, w17.alloc (.cells #[.int .i64 0, .int .i64 1, .int .i64 2] 3) = X_ := ⟨_, rfl⟩
  have h18 : Blk w18 N17 (nums .i64 [0, 1, 2]).toArray 3 := by rw [← hw18, ← hN17]; exact Blk.new w17 _ _
  have hb : Below w17.heap.size w17 w18 := by rw [← hw18]; exact below_alloc (Below.refl _ _) _
  rw [hw18, hN17]
  have HT18 := Aside0.mk (HT17.out.below hb HT17.out.lt)
  have HR18 := Aside0.mk (Kd.C_below HR17.out hb)
  have HZ18 := Aside0.mk (HZ17.out.below hb HZ17.out.lt)
  have RA18 := Aside0.mk (RA17.out.below hb)
  have RB18 := Aside0.mk (RB17.out.below hb)
  have RC18 := Aside0.mk (RC17.out.below hb)
  have HB18 := Aside0.mk (below_step HB17.out hb)
  clear hb HT17 HR17 HZ17 RA17 RB17 RC17 HB17
  clear hw18 hN17
  refine (tipstaffkit_SameInts.calls 100 A5 c5 [0, 1, 2] (some ⟨N17, 0, none⟩) 3 [0, 1, 2] true w18 HR18.out hc5 (lit_C _ _ _ h18 (by decide)) (by decide) ints_val0).mono ?_
  rintro e w19 ⟨rfl, hd⟩
  have hb := hd.below
  clear hd h18
  have HT19 := Aside0.mk (HT18.out.below hb HT18.out.lt)
  have HR19 := Aside0.mk (Kd.C_below HR18.out hb)
  have HZ19 := Aside0.mk (HZ18.out.below hb HZ18.out.lt)
  have RA19 := Aside0.mk (RA18.out.below hb)
  have RB19 := Aside0.mk (RB18.out.below hb)
  have RC19 := Aside0.mk (RC18.out.below hb)
  have HB19 := Aside0.mk (below_step HB18.out hb)
  clear hb HT18 HR18 HZ18 RA18 RB18 RC18 HB18
  go_wp2_with fail
  refine (tipstafflaw43_visits.calls 100 3 1 true w19 visits_val1).mono ?_
  rintro e w20 ⟨rfl, hb⟩
  have HT20 := Aside0.mk (HT19.out.below hb HT19.out.lt)
  have HR20 := Aside0.mk (Kd.C_below HR19.out hb)
  have HZ20 := Aside0.mk (HZ19.out.below hb HZ19.out.lt)
  have RA20 := Aside0.mk (RA19.out.below hb)
  have RB20 := Aside0.mk (RB19.out.below hb)
  have RC20 := Aside0.mk (RC19.out.below hb)
  have HB20 := Aside0.mk (below_step HB19.out hb)
  clear hb HT19 HR19 HZ19 RA19 RB19 RC19 HB19
  go_wp2_with fail
  refine (tipstafflaw43_visits.calls 100 2 1 true w20 visits_val2).mono ?_
  rintro e w21 ⟨rfl, hb⟩
  have HT21 := Aside0.mk (HT20.out.below hb HT20.out.lt)
  have HR21 := Aside0.mk (Kd.C_below HR20.out hb)
  have HZ21 := Aside0.mk (HZ20.out.below hb HZ20.out.lt)
  have RA21 := Aside0.mk (RA20.out.below hb)
  have RB21 := Aside0.mk (RB20.out.below hb)
  have RC21 := Aside0.mk (RC20.out.below hb)
  have HB21 := Aside0.mk (below_step HB20.out hb)
  clear hb HT20 HR20 HZ20 RA20 RB20 RC20 HB20
  have z0_ : w21.cell? ⟨bz, 0, none⟩ = some (.int .i64 0) := HZ21.out.cell 0 rfl
  have z1_ : w21.cell? ⟨bz, 1, none⟩ = some (.int .i64 0) := HZ21.out.cell 1 rfl
  have z2_ : w21.cell? ⟨bz, 2, none⟩ = some (.int .i64 0) := HZ21.out.cell 2 rfl
  have z3_ : w21.cell? ⟨bz, 3, none⟩ = some (.int .i64 0) := HZ21.out.cell 3 rfl
  have z4_ : w21.cell? ⟨bz, 4, none⟩ = some (.int .i64 0) := HZ21.out.cell 4 rfl
  have z5_ : w21.cell? ⟨bz, 5, none⟩ = some (.int .i64 0) := HZ21.out.cell 5 rfl
  have z6_ : w21.cell? ⟨bz, 6, none⟩ = some (.int .i64 0) := HZ21.out.cell 6 rfl
  have z7_ : w21.cell? ⟨bz, 7, none⟩ = some (.int .i64 0) := HZ21.out.cell 7 rfl
  have z8_ : w21.cell? ⟨bz, 8, none⟩ = some (.int .i64 0) := HZ21.out.cell 8 rfl
  have z9_ : w21.cell? ⟨bz, 9, none⟩ = some (.int .i64 0) := HZ21.out.cell 9 rfl
  have z10_ : w21.cell? ⟨bz, 10, none⟩ = some (.slice Aa ia ja) := HZ21.out.cell 10 rfl
  have z11_ : w21.cell? ⟨bz, 11, none⟩ = some (.slice Ab ib jb) := HZ21.out.cell 11 rfl
  have z12_ : w21.cell? ⟨bz, 12, none⟩ = some (.slice Ac ic jc) := HZ21.out.cell 12 rfl
  go_wp2_with fail
  clear z0_ z1_ z2_ z3_ z4_ z5_ z6_ z7_ z8_ z9_ z10_ z11_ z12_
  refine (tipstafflaw43_same.calls 100 _ _ num0 num0 true w21 ⟨_, _, _, rfl, rfl, RA21.out, RB21.out, RC21.out⟩ ⟨_, _, _, rfl, rfl, ⟨none, 0, rfl, Nat.le_refl _, nil_C _ _⟩, ⟨none, 0, rfl, Nat.le_refl _, nil_C _ _⟩, ⟨none, 0, rfl, Nat.le_refl _, nil_C _ _⟩⟩ same_val0).mono ?_
  rintro e w22 ⟨rfl, hb⟩
  have HB22 := Aside0.mk (below_step HB21.out hb)
  clear hb
  go_wp2_with fail
  go_ret
  exact ⟨rfl, HB22.out⟩
theorem tipstafflaw43_ReportKnown.calls (r : Bool) (w : World) (HL : LaidAt w) (h : tipstafflaw43_ReportKnown.f = some r) : Calls Tryd.prog 7 #[] w fun e w' => e = .returned (.bool r) ∧ Below w.heap.size w w' := by
  obtain rfl : true = r := Option.some.inj h
  exact known_calls w HL

end Go.Proofs.YtenlokaaloenmaaDoor.S
end

section
namespace Go.Proofs.YtenlokaaloenmaaDoor.S
open Go.RowKit Go.Proofs.YtenlokaaloenmaaDoorW.PrintWords Go.Proofs.YtenlokaaloenmaaDoorW.PrintLast Go.Proofs.YtenlokaaloenmaaDoorW.PrintMore
set_option linter.unusedVariables false
set_option linter.unusedSimpArgs false
set_option linter.unusedVariables false

theorem drop_count (k : Nat) (A3 : Option Addr) (c3 m : Nat) (l : List S41) (n : Num) (w : World) (HL : LaidAt w) (hv : ∀ v ∈ l, Pure.WV v) (hC : Kd.C k41 w A3 l.length l) (hm : m ≤ l.length) (hc : l.length ≤ c3) (h : report_Count.f k (l.drop m) 2 = some (n, 0)) :
    (¬ c3 = m → Calls Tryd.prog 11 #[.slice (Option.map (fun x => x.add (m * 6)) A3) (l.length - m) (c3 - m), .int .i64 2] w fun e w' => ∃ v, e = .returned (.tuple #[v, .int .i64 0]) ∧ NumR w' w.heap.size v n ∧ Below w.heap.size w w') ∧
    (c3 = m → Calls Tryd.prog 11 #[.slice A3 (l.length - m) 0, .int .i64 2] w fun e w' => ∃ v, e = .returned (.tuple #[v, .int .i64 0]) ∧ NumR w' w.heap.size v n ∧ Below w.heap.size w w') := by
  have hd := Kd.C_drop hC hm hc
  have hl : (l.drop m).length = l.length - m := List.length_drop
  have hv' : ∀ v ∈ l.drop m, Pure.WV v := fun v h => hv v (List.mem_of_mem_drop h)
  constructor
  · intro hne
    rw [if_neg hne] at hd
    have := report_Count.calls k _ (c3 - m) (l.drop m) 2 n 0 w HL hv' hd (by omega) h
    rw [hl] at this
    exact this
  · intro he
    rw [if_pos he] at hd
    have := report_Count.calls k _ 0 (l.drop m) 2 n 0 w HL hv' hd (by omega) h
    rw [hl] at this
    exact this

/-- What the numbers of the parts and of the whole must fulfil. -/
structure PartsOk (x y z : Num) (n : Nat) : Prop where
  lit : ¬ z.lit > wrap64 (x.lit + y.lit)
  r : ∀ i : Nat, i < 6 → wrap64 (rd x.r (i : Int) + rd y.r (i : Int)) = rd z.r (i : Int)
  lb : z.b.length = z.a.length
  lc : z.c.length = z.a.length
  a : ∀ i : Nat, i < z.a.length → ∃ u v, tipstaffkit_At.f x.a (i : Int) = some u ∧ tipstaffkit_At.f y.a (i : Int) = some v ∧ wrap64 (u + v) = rd z.a (i : Int)
  b : ∀ i : Nat, i < z.a.length → ∃ u v, tipstaffkit_At.f x.b (i : Int) = some u ∧ tipstaffkit_At.f y.b (i : Int) = some v ∧ wrap64 (u + v) = rd z.b (i : Int)
  c : ∀ i : Nat, i < z.a.length → ∃ u v, tipstaffkit_At.f x.c (i : Int) = some u ∧ tipstaffkit_At.f y.c (i : Int) = some v ∧ wrap64 (u + v) = rd z.c (i : Int)
  ca : ∀ i : Nat, i < z.a.length → ¬ rd z.c (i : Int) > rd z.a (i : Int)
  ab : ∀ i : Nat, i < z.a.length → ¬ wrap64 (rd z.a (i : Int) + rd z.b (i : Int)) > (n : Int)
  z : ((n : Int) == 0) = ((z.a.length : Int) == 0)

theorem at_q (A : Option Addr) (c : Nat) (l : List Int) (i r : Int) (w : World) (n : Nat) (hC : Kd.C (Kd.int .i64) w A l.length l) (hc : l.length ≤ c) (h : tipstaffkit_At.f l i = some r) :
    Calls Tryd.prog 12 #[.slice A l.length c, .int .i64 i] (w.drewN n) fun e w'' => e = .returned (.int .i64 r) ∧ ∃ k, w'' = w.drewN k :=
  Calls.quiet_of ((tipstaffkit_At.calls A c l i r _ (Kd.C_drewN hC n) hc h).mono fun _ _ ⟨he, hd⟩ => ⟨he, hd.out⟩)
/-- The three sets of numbers in memory, with their rows. -/
structure PtI (w0 W : World) (bx by_ bz : Nat) (cx cy cz : Array Value) (rows : List (Option Addr × List Int)) : Prop where
  x : Blk W bx cx 29
  y : Blk W by_ cy 29
  z : Blk W bz cz 29
  rows : ∀ p ∈ rows, Kd.C (Kd.int .i64) W p.1 p.2.length p.2
  b : Below w0.heap.size w0 W
theorem PtI.below {w0 W W' : World} {bx by_ bz : Nat} {cx cy cz : Array Value} {rows : List (Option Addr × List Int)} (h : PtI w0 W bx by_ bz cx cy cz rows) (hb : Below W.heap.size W W') : PtI w0 W' bx by_ bz cx cy cz rows :=
  ⟨h.x.below hb h.x.lt, h.y.below hb h.y.lt, h.z.below hb h.z.lt, fun p hp => Kd.C_below (h.rows p hp) hb, below_step h.b hb⟩
theorem cells13_at (r0 r1 r2 r3 r4 r5 l o s m : Int) (va vb vc : Value) (i : Nat) (h : i < 6) : (#[.int .i64 r0, .int .i64 r1, .int .i64 r2, .int .i64 r3, .int .i64 r4, .int .i64 r5, .int .i64 l, .int .i64 o, .int .i64 s, .int .i64 m, va, vb, vc] : Array Value)[i]? = some (.int .i64 (rd [r0, r1, r2, r3, r4, r5] (i : Int))) :=
  numC_at [r0, r1, r2, r3, r4, r5] l o s m va vb vc i h

set_option maxHeartbeats 16000000 in
set_option maxRecDepth 100000 in
theorem rparts_yes (k : Nat) (a0 a1 : Int) (A2 : Option Addr) (c2 : Nat) (l2 : List Int) (a3 : Int) (w : World) (HL : LaidAt w) (hr0 : Kd.C (Kd.int .i64) w A2 l2.length l2) (hc0 : l2.length ≤ c2)
    (l : List S41) (hmade : tipstafflaw43_made.f k a0 a1 l2 = some l) (m : Nat) (hm : m ≤ l.length) (hl : l.length ≤ 40) (hmod : tipstaffkit_Mod.f a3 ((l.length : Int) + 1) = some (m : Int))
    (xr0 xr1 xr2 xr3 xr4 xr5 xl xo xs xm : Int) (xa xb xc : List Int) (yr0 yr1 yr2 yr3 yr4 yr5 yl yo ys ym : Int) (ya yb yc : List Int) (zr0 zr1 zr2 zr3 zr4 zr5 zl zo zs zm : Int) (za zb zc : List Int) (hca : report_Count.f k (l.take m) 2 = some (⟨[xr0, xr1, xr2, xr3, xr4, xr5], xl, xo, xs, xm, xa, xb, xc⟩, 0)) (hcb : report_Count.f k (l.drop m) 2 = some (⟨[yr0, yr1, yr2, yr3, yr4, yr5], yl, yo, ys, ym, ya, yb, yc⟩, 0)) (hcc : report_Count.f k l 2 = some (⟨[zr0, zr1, zr2, zr3, zr4, zr5], zl, zo, zs, zm, za, zb, zc⟩, 0))
    (hv : ∀ v ∈ l, Pure.WV v) (h8a : Num8 ⟨[xr0, xr1, xr2, xr3, xr4, xr5], xl, xo, xs, xm, xa, xb, xc⟩) (h8b : Num8 ⟨[yr0, yr1, yr2, yr3, yr4, yr5], yl, yo, ys, ym, ya, yb, yc⟩) (h8c : Num8 ⟨[zr0, zr1, zr2, zr3, zr4, zr5], zl, zo, zs, zm, za, zb, zc⟩) (hok : PartsOk ⟨[xr0, xr1, xr2, xr3, xr4, xr5], xl, xo, xs, xm, xa, xb, xc⟩ ⟨[yr0, yr1, yr2, yr3, yr4, yr5], yl, yo, ys, ym, ya, yb, yc⟩ ⟨[zr0, zr1, zr2, zr3, zr4, zr5], zl, zo, zs, zm, za, zb, zc⟩ l.length) :
    Calls Tryd.prog 3 #[.int .i64 a0, .int .i64 a1, .slice A2 l2.length c2, .int .i64 a3] w fun e w' => e = .returned (.bool true) ∧ Below w.heap.size w w' := by
  have hu29 := Tryd.underlying29
  have hu27 := Tryd.underlying27
  have HLA := Aside0.mk HL
  have R0 := Aside0.mk hr0
  have HMA := Aside0.mk hmade
  have HMO := Aside0.mk hmod
  have HCA := Aside0.mk hca
  have HCB := Aside0.mk hcb
  have HCC := Aside0.mk hcc
  have HV := Aside0.mk hv
  have H8A := Aside0.mk h8a
  have H8B := Aside0.mk h8b
  have H8C := Aside0.mk h8c
  have HM := Aside0.mk hm
  have HLN := Aside0.mk hl
  have OK := Aside0.mk hok
  clear HL hr0 hmade hmod hca hcb hcc hv h8a h8b h8c hm hl hok
  go_enter Tryd.func3, Tryd.ntmps3
  go_wp2_with fail
  refine (tipstafflaw43_ReportKnown.calls true w HLA.out rfl).mono ?_
  rintro e w1 ⟨rfl, hb1⟩
  have HB1 := Aside0.mk hb1
  clear hb1
  go_wp2_with fail
  refine (tipstafflaw43_made.calls k a0 a1 A2 c2 l2 l w1 (Kd.C_below R0.out HB1.out) hc0 HMA.out).mono ?_
  rintro e w2 ⟨v2, rfl, hS2, hb2⟩
  have HB2 := Aside0.mk (below_step HB1.out hb2)
  obtain ⟨A3, c3, rfl, hc3, hC3⟩ := Kd.S_reads hS2
  have R2 := Aside0.mk hC3
  have HC3 := Aside0.mk hc3
  clear hb2 hS2 hC3 hc3
  have w1_ : wrap64 ((l.length : Int) + 1) = (l.length : Int) + 1 := Pure.wrap_id _ (by omega) (by have := HLN.out; omega)
  go_wp2_with fail
  refine (tipstaffkit_Mod.calls a3 ((l.length : Int) + 1) (m : Int) w2 HMO.out).mono ?_
  rintro e w3 ⟨rfl, hb3⟩
  have HB3 := Aside0.mk (below_step HB2.out hb3.below)
  have R3 := Aside0.mk (Kd.C_below R2.out hb3.below)
  clear hb3 w1_ R2 HB2
  have i0 : (0 ≤ (m : Int)) = True := eq_true (by omega)
  have i1 : ((m : Int) ≤ (c3 : Int)) = True := eq_true (by have := HM.out; have := HC3.out; omega)
  have i2 : ((m : Int) ≤ (l.length : Int)) = True := eq_true (by have := HM.out; omega)
  go_wp2_with fail
  have lt_ : (l.take m).length = m := by rw [List.length_take]; have := HM.out; omega
  have ct := report_Count.calls k A3 c3 (l.take m) 2 ⟨[xr0, xr1, xr2, xr3, xr4, xr5], xl, xo, xs, xm, xa, xb, xc⟩ 0 w3 (HLA.out.below HB3.out) (fun v hv => HV.out v (List.mem_of_mem_take hv)) (Kd.C_take R3.out HM.out) (by have := HM.out; have := HC3.out; omega) HCA.out
  rw [lt_] at ct
  refine ct.mono ?_
  clear ct lt_
  rintro e w4 ⟨v_x, rfl, hN_, hb_⟩
  obtain ⟨va_, vb_, vc_, rfl, hr6_, ⟨xB1, xd1, rfl, xm1, g1_⟩, ⟨xB2, xd2, rfl, xm2, g2_⟩, ⟨xB3, xd3, rfl, xm3, g3_⟩⟩ := hN_.C H8A.out
  simp only at xm1 xm2 xm3 g1_ g2_ g3_ hr6_
  have xG1 := Aside0.mk g1_
  have xG2 := Aside0.mk g2_
  have xG3 := Aside0.mk g3_
  have R_ := Aside0.mk (Kd.C_below R3.out hb_)
  have HB_ := Aside0.mk (below_step HB3.out hb_)
  clear g1_ g2_ g3_ hN_ hb_ hr6_ R3 HB3
  simp only [numV, numC, nums, List.map_cons, List.map_nil, List.cons_append, List.nil_append]
  go_upto_region 5 with (fail)
  obtain ⟨xz, hbz_⟩ : ∃ X_, w4.heap.size = X_ := ⟨_, rfl⟩
  obtain ⟨w5, hw_⟩ : ∃ X_, w4.alloc (.cells #[.int .i64 xr0, .int .i64 xr1, .int .i64 xr2, .int .i64 xr3, .int .i64 xr4, .int .i64 xr5, .int .i64 xl, .int .i64 xo, .int .i64 xs, .int .i64 xm, .slice xB1 xa.length xd1, .slice xB2 xb.length xd2, .slice xB3 xc.length xd3] 29) = X_ := ⟨_, rfl⟩
  have hZ_ : Blk w5 xz #[.int .i64 xr0, .int .i64 xr1, .int .i64 xr2, .int .i64 xr3, .int .i64 xr4, .int .i64 xr5, .int .i64 xl, .int .i64 xo, .int .i64 xs, .int .i64 xm, .slice xB1 xa.length xd1, .slice xB2 xb.length xd2, .slice xB3 xc.length xd3] 29 := by rw [← hw_, ← hbz_]; exact Blk.new w4 _ _
  have hb_ : Below w4.heap.size w4 w5 := by rw [← hw_]; exact below_alloc (Below.refl _ _) _
  rw [hw_, hbz_]
  generalize Value.agg #[.int .i64 xr0, .int .i64 xr1, .int .i64 xr2, .int .i64 xr3, .int .i64 xr4, .int .i64 xr5, .int .i64 xl, .int .i64 xo, .int .i64 xs, .int .i64 xm, .slice xB1 xa.length xd1, .slice xB2 xb.length xd2, .slice xB3 xc.length xd3] = Vx_
  have xZ := Aside0.mk hZ_
  have R3 := Aside0.mk (Kd.C_below R_.out hb_)
  have HB3 := Aside0.mk (below_step HB_.out hb_)
  replace xG1 := Aside0.mk (Kd.C_below xG1.out hb_)
  replace xG2 := Aside0.mk (Kd.C_below xG2.out hb_)
  replace xG3 := Aside0.mk (Kd.C_below xG3.out hb_)
  clear hZ_ hb_ hw_ hbz_ R_ HB_
  by_cases hcm : c3 = m
  all_goals go_wp2_with fail
  all_goals try (exact absurd rfl hcm)
  all_goals first | refine ((drop_count k A3 c3 m l ⟨[yr0, yr1, yr2, yr3, yr4, yr5], yl, yo, ys, ym, ya, yb, yc⟩ w5 (HLA.out.below HB3.out) HV.out R3.out HM.out HC3.out HCB.out).1 hcm).mono ?_ | refine ((drop_count k A3 c3 m l ⟨[yr0, yr1, yr2, yr3, yr4, yr5], yl, yo, ys, ym, ya, yb, yc⟩ w5 (HLA.out.below HB3.out) HV.out R3.out HM.out HC3.out HCB.out).2 hcm).mono ?_
  all_goals clear hcm
  all_goals (
    rintro e w6 ⟨v_y, rfl, hN_, hb_⟩
    obtain ⟨va_, vb_, vc_, rfl, hr6_, ⟨yB1, yd1, rfl, ym1, g1_⟩, ⟨yB2, yd2, rfl, ym2, g2_⟩, ⟨yB3, yd3, rfl, ym3, g3_⟩⟩ := hN_.C H8B.out
    simp only at ym1 ym2 ym3 g1_ g2_ g3_ hr6_
    have yG1 := Aside0.mk g1_
    have yG2 := Aside0.mk g2_
    have yG3 := Aside0.mk g3_
    have R_ := Aside0.mk (Kd.C_below R3.out hb_)
    have HB_ := Aside0.mk (below_step HB3.out hb_)
    have xZ_ := Aside0.mk (xZ.out.below hb_ xZ.out.lt)
    have xG1_ := Aside0.mk (Kd.C_below xG1.out hb_)
    have xG2_ := Aside0.mk (Kd.C_below xG2.out hb_)
    have xG3_ := Aside0.mk (Kd.C_below xG3.out hb_)
    clear g1_ g2_ g3_ hN_ hb_ hr6_ R3 HB3 xZ xG1 xG2 xG3
    simp only [numV, numC, nums, List.map_cons, List.map_nil, List.cons_append, List.nil_append]
    go_upto_region 6 with (fail)
    obtain ⟨yz, hbz_⟩ : ∃ X_, w6.heap.size = X_ := ⟨_, rfl⟩
    obtain ⟨w7, hw_⟩ : ∃ X_, w6.alloc (.cells #[.int .i64 yr0, .int .i64 yr1, .int .i64 yr2, .int .i64 yr3, .int .i64 yr4, .int .i64 yr5, .int .i64 yl, .int .i64 yo, .int .i64 ys, .int .i64 ym, .slice yB1 ya.length yd1, .slice yB2 yb.length yd2, .slice yB3 yc.length yd3] 29) = X_ := ⟨_, rfl⟩
    have hZ_ : Blk w7 yz #[.int .i64 yr0, .int .i64 yr1, .int .i64 yr2, .int .i64 yr3, .int .i64 yr4, .int .i64 yr5, .int .i64 yl, .int .i64 yo, .int .i64 ys, .int .i64 ym, .slice yB1 ya.length yd1, .slice yB2 yb.length yd2, .slice yB3 yc.length yd3] 29 := by rw [← hw_, ← hbz_]; exact Blk.new w6 _ _
    have hb_ : Below w6.heap.size w6 w7 := by rw [← hw_]; exact below_alloc (Below.refl _ _) _
    rw [hw_, hbz_]
    generalize Value.agg #[.int .i64 yr0, .int .i64 yr1, .int .i64 yr2, .int .i64 yr3, .int .i64 yr4, .int .i64 yr5, .int .i64 yl, .int .i64 yo, .int .i64 ys, .int .i64 ym, .slice yB1 ya.length yd1, .slice yB2 yb.length yd2, .slice yB3 yc.length yd3] = Vy_
    have yZ := Aside0.mk hZ_
    have R3 := Aside0.mk (Kd.C_below R_.out hb_)
    have HB3 := Aside0.mk (below_step HB_.out hb_)
    replace yG1 := Aside0.mk (Kd.C_below yG1.out hb_)
    replace yG2 := Aside0.mk (Kd.C_below yG2.out hb_)
    replace yG3 := Aside0.mk (Kd.C_below yG3.out hb_)
    have xZ := Aside0.mk (xZ_.out.below hb_ xZ_.out.lt)
    have xG1 := Aside0.mk (Kd.C_below xG1_.out hb_)
    have xG2 := Aside0.mk (Kd.C_below xG2_.out hb_)
    have xG3 := Aside0.mk (Kd.C_below xG3_.out hb_)
    clear hZ_ hb_ hw_ hbz_ R_ HB_ xZ_ xG1_ xG2_ xG3_
    go_wp2_with fail
    refine (report_Count.calls k A3 c3 l 2 ⟨[zr0, zr1, zr2, zr3, zr4, zr5], zl, zo, zs, zm, za, zb, zc⟩ 0 w7 (HLA.out.below HB3.out) HV.out R3.out HC3.out HCC.out).mono ?_
    rintro e w8 ⟨v_z, rfl, hN_, hb_⟩
    obtain ⟨va_, vb_, vc_, rfl, hr6_, ⟨zB1, zd1, rfl, zm1, g1_⟩, ⟨zB2, zd2, rfl, zm2, g2_⟩, ⟨zB3, zd3, rfl, zm3, g3_⟩⟩ := hN_.C H8C.out
    simp only at zm1 zm2 zm3 g1_ g2_ g3_ hr6_
    have zG1 := Aside0.mk g1_
    have zG2 := Aside0.mk g2_
    have zG3 := Aside0.mk g3_
    have R_ := Aside0.mk (Kd.C_below R3.out hb_)
    have HB_ := Aside0.mk (below_step HB3.out hb_)
    have xZ_ := Aside0.mk (xZ.out.below hb_ xZ.out.lt)
    have xG1_ := Aside0.mk (Kd.C_below xG1.out hb_)
    have xG2_ := Aside0.mk (Kd.C_below xG2.out hb_)
    have xG3_ := Aside0.mk (Kd.C_below xG3.out hb_)
    have yZ_ := Aside0.mk (yZ.out.below hb_ yZ.out.lt)
    have yG1_ := Aside0.mk (Kd.C_below yG1.out hb_)
    have yG2_ := Aside0.mk (Kd.C_below yG2.out hb_)
    have yG3_ := Aside0.mk (Kd.C_below yG3.out hb_)
    clear g1_ g2_ g3_ hN_ hb_ hr6_ R3 HB3 xZ xG1 xG2 xG3 yZ yG1 yG2 yG3
    simp only [numV, numC, nums, List.map_cons, List.map_nil, List.cons_append, List.nil_append]
    go_upto_region 7 with (fail)
    obtain ⟨zz, hbz_⟩ : ∃ X_, w8.heap.size = X_ := ⟨_, rfl⟩
    obtain ⟨w9, hw_⟩ : ∃ X_, w8.alloc (.cells #[.int .i64 zr0, .int .i64 zr1, .int .i64 zr2, .int .i64 zr3, .int .i64 zr4, .int .i64 zr5, .int .i64 zl, .int .i64 zo, .int .i64 zs, .int .i64 zm, .slice zB1 za.length zd1, .slice zB2 zb.length zd2, .slice zB3 zc.length zd3] 29) = X_ := ⟨_, rfl⟩
    have hZ_ : Blk w9 zz #[.int .i64 zr0, .int .i64 zr1, .int .i64 zr2, .int .i64 zr3, .int .i64 zr4, .int .i64 zr5, .int .i64 zl, .int .i64 zo, .int .i64 zs, .int .i64 zm, .slice zB1 za.length zd1, .slice zB2 zb.length zd2, .slice zB3 zc.length zd3] 29 := by rw [← hw_, ← hbz_]; exact Blk.new w8 _ _
    have hb_ : Below w8.heap.size w8 w9 := by rw [← hw_]; exact below_alloc (Below.refl _ _) _
    rw [hw_, hbz_]
    generalize Value.agg #[.int .i64 zr0, .int .i64 zr1, .int .i64 zr2, .int .i64 zr3, .int .i64 zr4, .int .i64 zr5, .int .i64 zl, .int .i64 zo, .int .i64 zs, .int .i64 zm, .slice zB1 za.length zd1, .slice zB2 zb.length zd2, .slice zB3 zc.length zd3] = Vz_
    have zZ := Aside0.mk hZ_
    have R3 := Aside0.mk (Kd.C_below R_.out hb_)
    have HB3 := Aside0.mk (below_step HB_.out hb_)
    replace zG1 := Aside0.mk (Kd.C_below zG1.out hb_)
    replace zG2 := Aside0.mk (Kd.C_below zG2.out hb_)
    replace zG3 := Aside0.mk (Kd.C_below zG3.out hb_)
    have xZ := Aside0.mk (xZ_.out.below hb_ xZ_.out.lt)
    have xG1 := Aside0.mk (Kd.C_below xG1_.out hb_)
    have xG2 := Aside0.mk (Kd.C_below xG2_.out hb_)
    have xG3 := Aside0.mk (Kd.C_below xG3_.out hb_)
    have yZ := Aside0.mk (yZ_.out.below hb_ yZ_.out.lt)
    have yG1 := Aside0.mk (Kd.C_below yG1_.out hb_)
    have yG2 := Aside0.mk (Kd.C_below yG2_.out hb_)
    have yG3 := Aside0.mk (Kd.C_below yG3_.out hb_)
    clear hZ_ hb_ hw_ hbz_ R_ HB_ xZ_ xG1_ xG2_ xG3_ yZ_ yG1_ yG2_ yG3_
    have nlit_ := OK.out.lit
    have b7_ : decide (zl > wrap64 (xl + yl)) = false := decide_eq_false nlit_
    have x6_ : w9.cell? ⟨xz, 6, none⟩ = some (.int .i64 xl) := xZ.out.cell 6 rfl
    have y6_ : w9.cell? ⟨yz, 6, none⟩ = some (.int .i64 yl) := yZ.out.cell 6 rfl
    have z6_ : w9.cell? ⟨zz, 6, none⟩ = some (.int .i64 zl) := zZ.out.cell 6 rfl
    go_wp2_with fail
    have PR : ∀ p ∈ ([(xB1, xa), (xB2, xb), (xB3, xc), (yB1, ya), (yB2, yb), (yB3, yc), (zB1, za), (zB2, zb), (zB3, zc)] : List (Option Addr × List Int)), Kd.C (Kd.int .i64) w9 p.1 p.2.length p.2 := by
      intro p hp
      simp only [List.mem_cons, List.not_mem_nil, or_false] at hp
      rcases hp with rfl | rfl | rfl | rfl | rfl | rfl | rfl | rfl | rfl
      all_goals first | exact xG1.out | exact xG2.out | exact xG3.out | exact yG1.out | exact yG2.out | exact yG3.out | exact zG1.out | exact zG2.out | exact zG3.out
    have PI := Aside0.mk (PtI.mk xZ.out yZ.out zZ.out PR HB3.out)
    clear PR
    clear xZ yZ zZ xG1 xG2 xG3 yG1 yG2 yG3 zG1 zG2 zG3 HB3 R3 x6_ y6_ z6_ b7_ nlit_
    go_loopw [17] (fun v17 wr => ∃ i : Nat, v17 = .int .i64 i ∧ i ≤ 6 ∧ Aside0 (PtI w wr xz yz zz #[.int .i64 xr0, .int .i64 xr1, .int .i64 xr2, .int .i64 xr3, .int .i64 xr4, .int .i64 xr5, .int .i64 xl, .int .i64 xo, .int .i64 xs, .int .i64 xm, .slice xB1 xa.length xd1, .slice xB2 xb.length xd2, .slice xB3 xc.length xd3] #[.int .i64 yr0, .int .i64 yr1, .int .i64 yr2, .int .i64 yr3, .int .i64 yr4, .int .i64 yr5, .int .i64 yl, .int .i64 yo, .int .i64 ys, .int .i64 ym, .slice yB1 ya.length yd1, .slice yB2 yb.length yd2, .slice yB3 yc.length yd3] #[.int .i64 zr0, .int .i64 zr1, .int .i64 zr2, .int .i64 zr3, .int .i64 zr4, .int .i64 zr5, .int .i64 zl, .int .i64 zo, .int .i64 zs, .int .i64 zm, .slice zB1 za.length zd1, .slice zB2 zb.length zd2, .slice zB3 zc.length zd3] [(xB1, xa), (xB2, xb), (xB3, xc), (yB1, ya), (yB2, yb), (yB3, yc), (zB1, za), (zB2, zb), (zB3, zc)])) (fun v17 _ => 6 - (intOf v17).toNat)
    case atStart => exact ⟨0, rfl, by omega, PI⟩
    case round =>
      obtain ⟨i, rfl, hi, hP⟩ := hrel
      by_cases hlt : i < 6
      · have p1 : (0 ≤ (i : Int)) = True := eq_true (by omega)
        have q1 : ((i : Int) < 6) = True := eq_true (by omega)
        have fx : wr.cell? ⟨xz, i, none⟩ = some (.int .i64 (rd [xr0, xr1, xr2, xr3, xr4, xr5] (i : Int))) := hP.out.x.cell i (cells13_at _ _ _ _ _ _ _ _ _ _ _ _ _ i hlt)
        have fy : wr.cell? ⟨yz, i, none⟩ = some (.int .i64 (rd [yr0, yr1, yr2, yr3, yr4, yr5] (i : Int))) := hP.out.y.cell i (cells13_at _ _ _ _ _ _ _ _ _ _ _ _ _ i hlt)
        have fz : wr.cell? ⟨zz, i, none⟩ = some (.int .i64 (rd [zr0, zr1, zr2, zr3, zr4, zr5] (i : Int))) := hP.out.z.cell i (cells13_at _ _ _ _ _ _ _ _ _ _ _ _ _ i hlt)
        have hr_ : wrap64 (rd [xr0, xr1, xr2, xr3, xr4, xr5] (i : Int) + rd [yr0, yr1, yr2, yr3, yr4, yr5] (i : Int)) = rd [zr0, zr1, zr2, zr3, zr4, zr5] (i : Int) := OK.out.r i hlt
        have hbz : (wrap64 (rd [xr0, xr1, xr2, xr3, xr4, xr5] (i : Int) + rd [yr0, yr1, yr2, yr3, yr4, yr5] (i : Int)) != rd [zr0, zr1, zr2, zr3, zr4, zr5] (i : Int)) = false := by rw [hr_]; simp
        clear hr_
        go_wp2_with fail
        go_quiet (fail)
        go_wp2_with fail
        go_roundw
        case rel => exact ⟨i + 1, by simp [Pure.wrap_succ i (by omega)], by omega, ⟨hP.out.below (pw_below_drewN (Below.refl _ _) _)⟩⟩
        case measure => simp [intOf, Pure.wrap_succ i (by omega)]; omega
      · have p1 : (0 ≤ (i : Int)) = True := eq_true (by omega)
        have q1 : ((i : Int) < 6) = False := eq_false (by omega)
        clear p1
        have PI2 := hP
        clear hP hi PI
        go_wp2_with fail
        clear q1 hlt
        go_loopw [18] (fun v18 wr => ∃ i : Nat, v18 = .int .i64 i ∧ i ≤ za.length ∧ Aside0 (PtI w wr xz yz zz #[.int .i64 xr0, .int .i64 xr1, .int .i64 xr2, .int .i64 xr3, .int .i64 xr4, .int .i64 xr5, .int .i64 xl, .int .i64 xo, .int .i64 xs, .int .i64 xm, .slice xB1 xa.length xd1, .slice xB2 xb.length xd2, .slice xB3 xc.length xd3] #[.int .i64 yr0, .int .i64 yr1, .int .i64 yr2, .int .i64 yr3, .int .i64 yr4, .int .i64 yr5, .int .i64 yl, .int .i64 yo, .int .i64 ys, .int .i64 ym, .slice yB1 ya.length yd1, .slice yB2 yb.length yd2, .slice yB3 yc.length yd3] #[.int .i64 zr0, .int .i64 zr1, .int .i64 zr2, .int .i64 zr3, .int .i64 zr4, .int .i64 zr5, .int .i64 zl, .int .i64 zo, .int .i64 zs, .int .i64 zm, .slice zB1 za.length zd1, .slice zB2 zb.length zd2, .slice zB3 zc.length zd3] [(xB1, xa), (xB2, xb), (xB3, xc), (yB1, ya), (yB2, yb), (yB3, yc), (zB1, za), (zB2, zb), (zB3, zc)])) (fun v18 _ => za.length - (intOf v18).toNat)
        case atStart => exact ⟨0, rfl, by omega, PI2⟩
        case round =>
          clear PI2
          obtain ⟨i, rfl, hi, hP⟩ := hrel
          have fx10 : wr.cell? ⟨xz, 10, none⟩ = some (.slice xB1 xa.length xd1) := hP.out.x.cell 10 rfl
          have fx11 : wr.cell? ⟨xz, 11, none⟩ = some (.slice xB2 xb.length xd2) := hP.out.x.cell 11 rfl
          have fx12 : wr.cell? ⟨xz, 12, none⟩ = some (.slice xB3 xc.length xd3) := hP.out.x.cell 12 rfl
          have fy10 : wr.cell? ⟨yz, 10, none⟩ = some (.slice yB1 ya.length yd1) := hP.out.y.cell 10 rfl
          have fy11 : wr.cell? ⟨yz, 11, none⟩ = some (.slice yB2 yb.length yd2) := hP.out.y.cell 11 rfl
          have fy12 : wr.cell? ⟨yz, 12, none⟩ = some (.slice yB3 yc.length yd3) := hP.out.y.cell 12 rfl
          have fz10 : wr.cell? ⟨zz, 10, none⟩ = some (.slice zB1 za.length zd1) := hP.out.z.cell 10 rfl
          have fz11 : wr.cell? ⟨zz, 11, none⟩ = some (.slice zB2 zb.length zd2) := hP.out.z.cell 11 rfl
          have fz12 : wr.cell? ⟨zz, 12, none⟩ = some (.slice zB3 zc.length zd3) := hP.out.z.cell 12 rfl
          by_cases hlt : i < za.length
          · have q1 : ((i : Int) < (za.length : Int)) = True := eq_true (by omega)
            have q1d : decide ((i : Int) < (za.length : Int)) = true := decide_eq_true (by omega)
            have hx1 : Kd.C (Kd.int .i64) wr xB1 xa.length xa := hP.out.rows (xB1, xa) (by simp)
            have hx2 : Kd.C (Kd.int .i64) wr xB2 xb.length xb := hP.out.rows (xB2, xb) (by simp)
            have hx3 : Kd.C (Kd.int .i64) wr xB3 xc.length xc := hP.out.rows (xB3, xc) (by simp)
            have hy1 : Kd.C (Kd.int .i64) wr yB1 ya.length ya := hP.out.rows (yB1, ya) (by simp)
            have hy2 : Kd.C (Kd.int .i64) wr yB2 yb.length yb := hP.out.rows (yB2, yb) (by simp)
            have hy3 : Kd.C (Kd.int .i64) wr yB3 yc.length yc := hP.out.rows (yB3, yc) (by simp)
            have hz1 : Kd.C (Kd.int .i64) wr zB1 za.length za := hP.out.rows (zB1, za) (by simp)
            have hz2 : Kd.C (Kd.int .i64) wr zB2 zb.length zb := hP.out.rows (zB2, zb) (by simp)
            have hz3 : Kd.C (Kd.int .i64) wr zB3 zc.length zc := hP.out.rows (zB3, zc) (by simp)
            obtain ⟨xu1, yu1, hA1, hA2, hA3⟩ := OK.out.a i hlt
            obtain ⟨xu2, yu2, hB1, hB2, hB3⟩ := OK.out.b i hlt
            obtain ⟨xu3, yu3, hC1, hC2, hC3⟩ := OK.out.c i hlt
            have nl1 : ((zb.length : Int) != (za.length : Int)) = false := by have := OK.out.lb; rw [bne_eq_false_iff_eq]; exact congrArg Int.ofNat this
            have nl2 : ((zc.length : Int) != (za.length : Int)) = false := by have := OK.out.lc; rw [bne_eq_false_iff_eq]; exact congrArg Int.ofNat this
            have lb_ : zb.length = za.length := OK.out.lb
            have lc_ : zc.length = za.length := OK.out.lc
            have nca : decide (rd zc (i : Int) > rd za (i : Int)) = false := decide_eq_false (OK.out.ca i hlt)
            have nab : decide (wrap64 (rd za (i : Int) + rd zb (i : Int)) > (l.length : Int)) = false := decide_eq_false (OK.out.ab i hlt)
            obtain ⟨ad1, ea1, za1⟩ := Kd.at_int hz1 (i : Int) (by omega) (by omega)
            obtain ⟨ad2, ea2, za2⟩ := Kd.at_int hz2 (i : Int) (by omega) (by omega)
            obtain ⟨ad3, ea3, za3⟩ := Kd.at_int hz3 (i : Int) (by omega) (by omega)
            rw [Int.toNat_natCast] at za1 za2 za3
            cases ea1
            cases ea2
            cases ea3
            have ib : ((i : Int) < (zb.length : Int)) = True := eq_true (by omega)
            have ic : ((i : Int) < (zc.length : Int)) = True := eq_true (by omega)
            have i0_ : (0 ≤ (i : Int)) = True := eq_true (by omega)
            have na1 : (wrap64 (xu1 + yu1) != rd za (i : Int)) = false := by rw [hA3]; simp
            have nb1 : (wrap64 (xu2 + yu2) != rd zb (i : Int)) = false := by rw [hB3]; simp
            have nc1 : (wrap64 (xu3 + yu3) != rd zc (i : Int)) = false := by rw [hC3]; simp
            have X1 := Aside0.mk hx1
            have X2 := Aside0.mk hx2
            have X3 := Aside0.mk hx3
            have Y1 := Aside0.mk hy1
            have Y2 := Aside0.mk hy2
            have Y3 := Aside0.mk hy3
            have HA1 := Aside0.mk hA1
            have HA2 := Aside0.mk hA2
            have HB1' := Aside0.mk hB1
            have HB2' := Aside0.mk hB2
            have HC1' := Aside0.mk hC1
            have HC2' := Aside0.mk hC2
            clear hx1 hx2 hx3 hy1 hy2 hy3 hz1 hz2 hz3 hA1 hA2 hA3 hB1 hB2 hB3 hC1 hC2 hC3 lb_ lc_
            go_wp2_with fail
            refine wp_region_quiet_lit (by kernel_rfl) (by kernel_rfl) ?_
            repeat (go_big_quiet_step (first | (go_at_call 12; with_reducible exact at_q xB1 xd1 xa _ xu1 wr _ X1.out xm1 HA1.out) | (go_at_call 12; with_reducible exact at_q yB1 yd1 ya _ yu1 wr _ Y1.out ym1 HA2.out) | (go_at_call 12; with_reducible exact at_q xB2 xd2 xb _ xu2 wr _ X2.out xm2 HB1'.out) | (go_at_call 12; with_reducible exact at_q yB2 yd2 yb _ yu2 wr _ Y2.out ym2 HB2'.out) | (go_at_call 12; with_reducible exact at_q xB3 xd3 xc _ xu3 wr _ X3.out xm3 HC1'.out) | (go_at_call 12; with_reducible exact at_q yB3 yd3 yc _ yu3 wr _ Y3.out ym3 HC2'.out)))
            refine wpQuiet_nil ?_
            intro _ hw'
            obtain ⟨nq, hw''⟩ := hw'
            subst hw''
            clear X1 X2 X3 Y1 Y2 Y3 HA1 HA2 HB1' HB2' HC1' HC2' nl1 nl2 na1 nb1 nc1
            go_wp2_with fail
            obtain ⟨wq, hwq⟩ : ∃ X_, wr.drewN nq = X_ := ⟨_, rfl⟩
            rw [hwq]
            have hPq : Aside0 (PtI w wq xz yz zz #[.int .i64 xr0, .int .i64 xr1, .int .i64 xr2, .int .i64 xr3, .int .i64 xr4, .int .i64 xr5, .int .i64 xl, .int .i64 xo, .int .i64 xs, .int .i64 xm, .slice xB1 xa.length xd1, .slice xB2 xb.length xd2, .slice xB3 xc.length xd3] #[.int .i64 yr0, .int .i64 yr1, .int .i64 yr2, .int .i64 yr3, .int .i64 yr4, .int .i64 yr5, .int .i64 yl, .int .i64 yo, .int .i64 ys, .int .i64 ym, .slice yB1 ya.length yd1, .slice yB2 yb.length yd2, .slice yB3 yc.length yd3] #[.int .i64 zr0, .int .i64 zr1, .int .i64 zr2, .int .i64 zr3, .int .i64 zr4, .int .i64 zr5, .int .i64 zl, .int .i64 zo, .int .i64 zs, .int .i64 zm, .slice (some ad1) za.length zd1, .slice (some ad2) zb.length zd2, .slice (some ad3) zc.length zd3] [(xB1, xa), (xB2, xb), (xB3, xc), (yB1, ya), (yB2, yb), (yB3, yc), (some ad1, za), (some ad2, zb), (some ad3, zc)]) := ⟨by rw [← hwq]; exact hP.out.below (pw_below_drewN (Below.refl _ _) nq)⟩
            have gz10 : wq.cell? ⟨zz, 10, none⟩ = some (.slice (some ad1) za.length zd1) := hPq.out.z.cell 10 rfl
            have gz11 : wq.cell? ⟨zz, 11, none⟩ = some (.slice (some ad2) zb.length zd2) := hPq.out.z.cell 11 rfl
            have gz12 : wq.cell? ⟨zz, 12, none⟩ = some (.slice (some ad3) zc.length zd3) := hPq.out.z.cell 12 rfl
            have ga1 : wq.cell? (ad1.add i) = some (.int .i64 (rd za (i : Int))) := by rw [← hwq]; exact za1
            have ga2 : wq.cell? (ad2.add i) = some (.int .i64 (rd zb (i : Int))) := by rw [← hwq]; exact za2
            have ga3 : wq.cell? (ad3.add i) = some (.int .i64 (rd zc (i : Int))) := by rw [← hwq]; exact za3
            clear hwq hP fx10 fx11 fx12 fy10 fy11 fy12 fz10 fz11 fz12 za1 za2 za3
            go_big_quiet (fail)
            have hz8 : za.length ≤ 8 := H8C.out.1
            have hi8 : i < 1000000 := by omega
            go_wp2_with fail
            go_roundw
            case rel => exact ⟨i + 1, by first | (go_num; done) | simp [Pure.wrap_succ i (by omega)], by omega, ⟨hPq.out.below (pw_below_drewN (Below.refl _ _) _)⟩⟩
            case measure => first | (simp [intOf, Pure.wrap_succ i (by omega)]; omega; done) | (simp [intOf]; omega)
          · have q1 : ((i : Int) < (za.length : Int)) = False := eq_false (by omega)
            have q1d : decide ((i : Int) < (za.length : Int)) = false := decide_eq_false (by omega)
            have hz_ : ((l.length : Int) == 0) = ((za.length : Int) == 0) := OK.out.z
            have hzz : (((l.length : Int) == 0) == ((za.length : Int) == 0)) = true := by rw [hz_]; simp
            clear hz_
            go_wp2_with fail
            go_ret
            exact ⟨rfl, hP.out.b⟩
   )

theorem cntV_r6 (w : Int) : ∀ (l : List S41) (st : List Int × R3), (cntV w l st).1.length = st.1.length
  | [], _ => rfl
  | v :: l, st => (cntV_r6 w l (vwF w st v)).trans (repF_len v.f1 st.1)
theorem count_r6 {k : Nat} {l : List S41} {wd : Int} {n : Num} {e : Int} (h : report_Count.f k l wd = some (n, e)) : n.r.length = 6 := by
  obtain ⟨⟨e0, i⟩, he, h⟩ := Option.bind_eq_some_iff.1 h
  by_cases h0 : e0 = 0
  · rw [if_pos h0] at h
    by_cases h1 : wd < 1 ∨ 20 < wd
    · rw [if_pos h1] at h
      rw [← (Prod.mk.inj (Option.some.inj h)).1]; rfl
    · rw [if_neg h1] at h
      obtain ⟨xs, _, h⟩ := Option.map_eq_some_iff.1 h
      rw [← (Prod.mk.inj h).1]
      exact cntV_r6 wd l _
  · rw [if_neg h0] at h
    rw [← (Prod.mk.inj (Option.some.inj h)).1]; rfl
open Classical in
noncomputable def tipstafflaw43_ReportParts.f (k : Nat) (a0 a1 : Int) (l2 : List Int) (a3 : Int) : Option Bool :=
  (tipstafflaw43_made.f k a0 a1 l2).bind fun l => (tipstaffkit_Mod.f a3 ((l.length : Int) + 1)).bind fun m => (report_Count.f k (l.take m.toNat) 2).bind fun x => (report_Count.f k (l.drop m.toNat) 2).bind fun y => (report_Count.f k l 2).bind fun z =>
    if (0 ≤ m ∧ m ≤ (l.length : Int)) ∧ l.length ≤ 40 ∧ (∀ v ∈ l, Pure.WV v) ∧ (Num8 x.1 ∧ Num8 y.1 ∧ Num8 z.1) ∧ (x.2 = 0 ∧ y.2 = 0 ∧ z.2 = 0) ∧ PartsOk x.1 y.1 z.1 l.length then some true else none
theorem tipstafflaw43_ReportParts.calls (k : Nat) (a0 a1 : Int) (A2 : Option Addr) (c2 : Nat) (l2 : List Int) (a3 : Int) (r : Bool) (w : World) (HL_ : LaidAt w) (hr2 : Kd.C (Kd.int .i64) w A2 l2.length l2) (hc2 : l2.length ≤ c2) (h : tipstafflaw43_ReportParts.f k a0 a1 l2 a3 = some r) :
    Calls Tryd.prog 3 #[.int .i64 a0, .int .i64 a1, .slice A2 l2.length c2, .int .i64 a3] w fun e w' => e = .returned (.bool r) ∧ Below w.heap.size w w' := by
  obtain ⟨l, hl, h⟩ := Option.bind_eq_some_iff.1 h
  obtain ⟨m, hm, h⟩ := Option.bind_eq_some_iff.1 h
  obtain ⟨⟨x, ex⟩, hx, h⟩ := Option.bind_eq_some_iff.1 h
  obtain ⟨⟨y, ey⟩, hy, h⟩ := Option.bind_eq_some_iff.1 h
  obtain ⟨⟨z, ez⟩, hz, h⟩ := Option.bind_eq_some_iff.1 h
  by_cases hc : (0 ≤ m ∧ m ≤ (l.length : Int)) ∧ l.length ≤ 40 ∧ (∀ v ∈ l, Pure.WV v) ∧ (Num8 x ∧ Num8 y ∧ Num8 z) ∧ (ex = 0 ∧ ey = 0 ∧ ez = 0) ∧ PartsOk x y z l.length
  · rw [if_pos hc] at h
    obtain rfl := Option.some.inj h
    obtain ⟨⟨h0, h1⟩, h2, h3, ⟨h4, h5, h6⟩, ⟨rfl, rfl, rfl⟩, h7⟩ := hc
    obtain ⟨n, rfl⟩ : ∃ n : Nat, m = n := ⟨m.toNat, by omega⟩
    rw [Int.toNat_natCast] at hx hy
    obtain ⟨xr, xl, xo, xs, xm, xa, xb, xc⟩ := x
    obtain ⟨yr, yl, yo, ys, ym, ya, yb, yc⟩ := y
    obtain ⟨zr, zl, zo, zs, zm, za, zb, zc⟩ := z
    obtain ⟨x0, x1, x2, x3, x4, x5, rfl⟩ := len6 (count_r6 hx)
    obtain ⟨y0, y1, y2, y3, y4, y5, rfl⟩ := len6 (count_r6 hy)
    obtain ⟨z0, z1, z2, z3, z4, z5, rfl⟩ := len6 (count_r6 hz)
    exact rparts_yes k a0 a1 A2 c2 l2 a3 w HL_ hr2 hc2 l hl n (by omega) h2 hm _ _ _ _ _ _ _ _ _ _ _ _ _ _ _ _ _ _ _ _ _ _ _ _ _ _ _ _ _ _ _ _ _ _ _ _ _ _ _ hx hy hz h3 h4 h5 h6 h7
  · rw [if_neg hc] at h; cases h
end Go.Proofs.YtenlokaaloenmaaDoor.S
end
