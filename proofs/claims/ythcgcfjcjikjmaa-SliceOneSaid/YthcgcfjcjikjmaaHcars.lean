/- slice.Cars, walked: the cars that belong to a domain in a slot. -/
import Derived.Deep.RegionHeld3
import Derived.Test.YthcgcfjcjikjmaaHslots
import Derived.Test.YthcgcfjcjikjmaaLits
import Derived.Test.YthcgcfjcjikjmaaS1
namespace Go.Proofs.Ythcgcfjcjikjmaa.S
open Go.RowKit Go.Proofs.YthcgcfjcjikjmaaW.PrintWords Go.Proofs.YthcgcfjcjikjmaaW.PrintLast Go.Proofs.YthcgcfjcjikjmaaW.PrintMore
set_option linter.unusedVariables false
set_option linter.unusedSimpArgs false

/-- Does the i-th car belong to a domain in a slot? -/
def inD (l0 : List (List Int)) (slot d i : Int) : Option Bool :=
  if 0 ≤ i ∧ i < l0.length ∧ 0 ≤ slot ∧ slot ≤ 1099511627776 ∧ 0 < (rd_L1 l0 i).length then some (rd (rd_L1 l0 i) (slot % (rd_L1 l0 i).length) == d) else none
def slice_Cars.f (k : Nat) (l0 : List (List Int)) (a1 a2 : Int) : Option (List Int × Int) :=
  (slice_tick.f a1).bind fun t => (slice_domain.f a2).bind fun u => (slice_valid.f k l0 [t, u]).bind fun v =>
    if v = 0 then (if l0.length ≤ 1000000 then (whereF (inD l0 a1 a2) 1 l0.length 0).map fun r => (r, 0) else none) else some ([], v)
theorem slice_Cars.mono : ∀ l0 a1 a2 k, LeO (slice_Cars.f k l0 a1 a2) (slice_Cars.f (k + 1) l0 a1 a2) := fun l0 a1 a2 k =>
  LeO.bind (LeO.refl _) (fun _ => LeO.bind (LeO.refl _) (fun _ => LeO.bind (slice_valid.mono _ _ k) (fun _ => LeO.refl _)))

set_option maxHeartbeats 1000000 in
set_option maxRecDepth 100000 in
theorem cars_closure (l0 : List (List Int)) (slot d i : Int) (b : Bool) (A : Option Addr) (c Br Bs Bd : Nat) (w : World) (hr : Boxed w Br 22 (.slice A l0.length c)) (hs : Boxed w Bs 3 (.int .i64 slot)) (hd : Boxed w Bd 3 (.int .i64 d))
    (hC : Kd.C (Kd.slice 3 (Kd.int .i64)) w A l0.length l0) (h : inD l0 slot d i = some b) :
    Calls Try.prog 47 #[.int .i64 i, .pointer (some ⟨Br, 0, none⟩), .pointer (some ⟨Bs, 0, none⟩), .pointer (some ⟨Bd, 0, none⟩)] w fun e w' => e = .returned (.bool b) ∧ Below w.heap.size w w' := by
  unfold inD at h
  by_cases hi : 0 ≤ i ∧ i < l0.length ∧ 0 ≤ slot ∧ slot ≤ 1099511627776 ∧ 0 < (rd_L1 l0 i).length
  · rw [if_pos hi] at h
    obtain ⟨h0, h1, h2, h2', h3⟩ := hi
    have HB := Aside0.mk (Option.some.inj h)
    clear h
    have cr := hr.cell
    have cs := hs.cell
    have cd := hd.cell
    obtain ⟨ad, A1, c1, e1, hc, hlc, hC1⟩ := at_L1 hC i h0 h1
    cases e1
    obtain ⟨l, hl⟩ : ∃ l, rd_L1 l0 i = l := ⟨_, rfl⟩
    rw [hl] at hc hlc hC1 h3 HB
    have hm0 : 0 ≤ slot % (l.length : Int) := Int.emod_nonneg _ (by omega)
    have hm1 : slot % (l.length : Int) < (l.length : Int) := Int.emod_lt_of_pos _ (by omega)
    obtain ⟨ad1, e2, hc1⟩ := Kd.at_int hC1 _ hm0 hm1
    cases e2
    have hz : ((l.length : Int) == 0) = false := by rw [beq_eq_false_iff_ne]; omega
    have ht : slot.tmod (l.length : Int) = slot % (l.length : Int) := Int.tmod_eq_emod_of_nonneg h2
    have hlm := Kd.C_max hC1
    clear hl
    go_enter Try.func47, Try.ntmps47
    go_wp2
    go_region
    all_goals
      go_wp2
      go_ret
      exact ⟨by rw [← HB.out]; rfl, by repeat (first | exact Below.refl _ _ | apply below_drew1)⟩
  · rw [if_neg hi] at h; cases h

theorem tick_any (a : Int) (b : Bool) (h : slice_tick.f a = some b) (w : World) : Calls Try.prog 40 #[.int .i64 a] w fun e w' => e = .returned (.bool b) ∧ Drawn0 w w' := slice_tick.calls a b w h
theorem domain_any (a : Int) (b : Bool) (h : slice_domain.f a = some b) (w : World) : Calls Try.prog 39 #[.int .i64 a] w fun e w' => e = .returned (.bool b) ∧ Drawn0 w w' := slice_domain.calls a b w h

set_option maxHeartbeats 2000000 in
set_option maxRecDepth 100000 in
theorem slice_Cars.calls (k : Nat) (A0 : Option Addr) (c0 : Nat) (l0 : List (List Int)) (a1 : Int) (a2 : Int) (r1 : List Int) (r2 : Int) (w : World) (hr0 : Kd.C (Kd.slice 3 (Kd.int .i64)) w A0 l0.length l0) (hc0 : l0.length ≤ c0) (h : slice_Cars.f k l0 a1 a2 = some (r1, r2)) :
    Calls Try.prog 21 #[.slice A0 l0.length c0, .int .i64 a1, .int .i64 a2] w fun e w' => ∃ v0_ : Value, e = .returned (.tuple #[v0_, .int .i64 r2]) ∧ Kd.R (Kd.int .i64) 3 w' w.heap.size (fun _ => True) v0_ r1 ∧ Below w.heap.size w w' := by
  unfold slice_Cars.f at h
  have hmf : ∀ (fn : Fn) (first cap : Array Value) (w : World), (Instr.makeFunc fn first cap).run Try.prog w = .ok (.func fn first cap) w := fun _ _ _ _ => rfl
  obtain ⟨t, ht, h⟩ := Option.bind_eq_some_iff.1 h
  obtain ⟨u, hu, h⟩ := Option.bind_eq_some_iff.1 h
  obtain ⟨v, hv, h⟩ := Option.bind_eq_some_iff.1 h
  have HT := Aside0.mk ht
  have HU := Aside0.mk hu
  have HV := Aside0.mk hv
  have H := Aside0.mk h
  have HR0 := Aside0.mk hr0
  clear ht hu hv h hr0
  go_enter Try.func21, Try.ntmps21
  go_wp2_with fail
  obtain ⟨wd, hwd⟩ : ∃ wd, ((w.alloc (.cells #[.slice A0 l0.length c0] 22)).alloc (.cells #[.int .i64 a1] 3)).alloc (.cells #[.int .i64 a2] 3) = wd := ⟨_, rfl⟩
  have hb0 : Boxed wd w.heap.size 22 (.slice A0 l0.length c0) := by rw [← hwd]; exact ((Boxed.new w 22 _).alloc _).alloc _
  have hb1 : Boxed wd (w.heap.size + 1) 3 (.int .i64 a1) := by rw [← hwd]; have := Boxed.new (w.alloc (.cells #[.slice A0 l0.length c0] 22)) 3 (.int .i64 a1); rw [World.size_alloc] at this; exact this.alloc _
  have hb2 : Boxed wd (w.heap.size + 1 + 1) 3 (.int .i64 a2) := by rw [← hwd]; have := Boxed.new ((w.alloc (.cells #[.slice A0 l0.length c0] 22)).alloc (.cells #[.int .i64 a1] 3)) 3 (.int .i64 a2); rw [World.size_alloc, World.size_alloc] at this; exact this
  have hBd : Below w.heap.size w wd := by rw [← hwd]; exact (((Below.refl _ w).alloc (Nat.le_refl _) _).alloc (by simp) _).alloc (by simp; omega) _
  have hrd := Kd.C_below HR0.out hBd
  rw [hwd]
  have HBd := Aside0.mk hBd
  have HB0 := Aside0.mk hb0
  have HB1 := Aside0.mk hb1
  have HB2 := Aside0.mk hb2
  have HRd := Aside0.mk hrd
  have q0 := hb0.cell
  have q1 := hb1.cell
  have q2 := hb2.cell
  clear hwd hBd hb0 hb1 hb2 hrd
  go_region_held3 (fun W => W.cell? ⟨w.heap.size, 0, none⟩ = some (.slice A0 l0.length c0) ∧ W.cell? ⟨w.heap.size + 1, 0, none⟩ = some (.int .i64 a1) ∧ W.cell? ⟨w.heap.size + 1 + 1, 0, none⟩ = some (.int .i64 a2)) (first | exact ⟨q0, q1, q2⟩ | go_keep) (first | (go_at_call 40; refine (tick_any _ _ HT.out _).mono ?_; rintro e w' ⟨rfl, m, rfl⟩) | (go_at_call 39; refine (domain_any _ _ HU.out _).mono ?_; rintro e w' ⟨rfl, m2, rfl⟩) | (go_at_call 42; refine (slice_valid.calls k A0 c0 l0 _ 2 [t, u] v _ (Kd.C_below HRd.out (by repeat (first | exact Below.refl _ _ | apply below_alloc | apply pw_below_drewN | apply below_drew1))) hc0 (by (with_reducible repeat (first | apply Kd.C_drewN | apply Kd.C_drew)); exact C_bools2 _ _ _ _) (Nat.le_refl _) HV.out).mono ?_; rintro e w' ⟨rfl, m3, rfl⟩))
  obtain ⟨we, hwe⟩ : ∃ we, ((wd.drewN (1 + m + m2)).alloc (.cells #[.bool t, .bool u] 4)).drewN m3 = we := ⟨_, rfl⟩
  have hBe : Below wd.heap.size wd we := by rw [← hwe]; exact pw_below_drewN (below_alloc (pw_below_drewN (Below.refl _ _) _) _) _
  have HB0' : Aside0 (Boxed we w.heap.size 22 _) := ⟨(hBe.block _ HB0.out.lt).trans HB0.out⟩
  have HB1' : Aside0 (Boxed we (w.heap.size + 1) 3 _) := ⟨(hBe.block _ HB1.out.lt).trans HB1.out⟩
  have HB2' : Aside0 (Boxed we (w.heap.size + 1 + 1) 3 _) := ⟨(hBe.block _ HB2.out.lt).trans HB2.out⟩
  have HBe := Aside0.mk (HBd.out.trans (hBe.mono HBd.out.size))
  have HRe := Aside0.mk (Kd.C_below HRd.out hBe)
  rw [hwe]
  clear hwe hBe HB0 HB1 HB2 HBd HRd q0 q1 q2
  by_cases hv0 : v = 0
  · have h := H.out
    rw [if_pos hv0] at h
    by_cases hl : l0.length ≤ 1000000
    · rw [if_pos hl] at h
      obtain ⟨rr, hw, h⟩ := Option.map_eq_some_iff.1 h
      simp only [Prod.mk.injEq] at h
      obtain ⟨rfl, rfl⟩ := h
      have n1 : (v != 0) = false := by rw [hv0]; rfl
      have q0 := HB0'.out.cell
      have hw := where_any 47 #[.pointer (some ⟨w.heap.size, 0, none⟩), .pointer (some ⟨w.heap.size + 1, 0, none⟩), .pointer (some ⟨w.heap.size + 1 + 1, 0, none⟩)] (inD l0 a1 a2) l0.length 1 rr we (enters_of Try.func47 (by kernel_rfl) rfl) hl
        (fun W i b h0 h1 hq hb => cars_closure l0 a1 a2 i b A0 c0 _ _ _ W ((hb.block _ HB0'.out.lt).trans HB0'.out) ((hb.block _ HB1'.out.lt).trans HB1'.out) ((hb.block _ HB2'.out.lt).trans HB2'.out) (Kd.C_below HRe.out hb) hq) hw
      have HW := Aside0.mk hw
      clear hw hv0
      go_wp2_with fail
      refine HW.out.mono ?_
      rintro e w' ⟨vv, rfl, hR, hb⟩
      have HB := Aside0.mk (HBe.out.trans (hb.mono HBe.out.size))
      have HR2 : Aside0 (Kd.R (Kd.int .i64) 3 w' w.heap.size (fun _ => True) vv rr) := ⟨Kd.R_lower hR HBe.out.size⟩
      clear hR hb
      go_wp2
      go_ret2
      exact ⟨_, rfl, HR2.out, HB.out⟩
    · rw [if_neg hl] at h; cases h
  · have h := H.out
    rw [if_neg hv0] at h
    simp only [Option.some.injEq, Prod.mk.injEq] at h
    obtain ⟨rfl, rfl⟩ := h
    have n1 : (v != 0) = true := bne_iff_ne.2 hv0
    have HV0 := Aside0.mk hv0
    clear hv0
    go_wp2
    go_ret2
    exact ⟨_, rfl, Kd.R_nil _ _ _ _ _, HBe.out⟩

end Go.Proofs.Ythcgcfjcjikjmaa.S
