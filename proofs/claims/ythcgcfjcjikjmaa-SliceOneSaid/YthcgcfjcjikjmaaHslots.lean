/- slice.slots, walked: the slots of a cycle in which a car belongs to a domain. -/
import Derived.Outline
import Derived.RangeFuncBox
import Derived.RangeFuncNested
import Derived.Test.YthcgcfjcjikjmaaHwhere
import Derived.Test.YthcgcfjcjikjmaaNums
namespace Go.Proofs.Ythcgcfjcjikjmaa.S
open Go.RowKit Go.Proofs.YthcgcfjcjikjmaaW.PrintWords Go.Proofs.YthcgcfjcjikjmaaW.PrintLast Go.Proofs.YthcgcfjcjikjmaaW.PrintMore
set_option linter.unusedVariables false
set_option linter.unusedSimpArgs false

/-- Does a car belong to a domain in a slot of its own? -/
def isD (l : List Int) (d : Int) (i : Int) : Option Bool := if 0 ≤ i ∧ i < l.length then some (rd l i == d) else none
def slice_slots.f (l0 : List (List Int)) (a1 a2 : Int) : Option (List Int) :=
  if 1 ≤ a1 ∧ a1 ≤ l0.length then (if (rd_L1 l0 (a1 - 1)).length ≤ 1000000 then whereF (isD (rd_L1 l0 (a1 - 1)) a2) 0 (rd_L1 l0 (a1 - 1)).length 0 else none) else none

theorem boxed_far' {W : World} {B : Nat} {t : TypeId} {v : Value} (h : Boxed W B t v) (p : Addr) (u : Value) (hne : B ≠ p.block) : Boxed (W.setCell p u) B t v := (Below.heap_setCell W p u B hne).trans h

set_option maxHeartbeats 1000000 in
set_option maxRecDepth 100000 in
theorem slots_closure (l : List Int) (d i : Int) (b : Bool) (A : Option Addr) (c Bl Bd : Nat) (w : World) (hl : Boxed w Bl 33 (.slice A l.length c)) (hd : Boxed w Bd 3 (.int .i64 d)) (hC : (Kd.int .i64).C w A l.length l) (h : isD l d i = some b) :
    Calls Try.prog 51 #[.int .i64 i, .pointer (some ⟨Bl, 0, none⟩), .pointer (some ⟨Bd, 0, none⟩)] w fun e w' => e = .returned (.bool b) ∧ Below w.heap.size w w' := by
  unfold isD at h
  by_cases hi : 0 ≤ i ∧ i < l.length
  · rw [if_pos hi] at h
    obtain ⟨h0, h1⟩ := hi
    have HB := Aside0.mk (Option.some.inj h)
    clear h
    have cl := hl.cell
    have cd := hd.cell
    obtain ⟨ad, e1, hc⟩ := Kd.at_int hC i h0 h1
    cases e1
    go_enter Try.func51, Try.ntmps51
    go_wp2
    go_region
    all_goals
      go_wp2
      go_ret
      exact ⟨by rw [← HB.out]; rfl, by repeat (first | exact Below.refl _ _ | apply below_drew1)⟩
  · rw [if_neg hi] at h; cases h

set_option maxHeartbeats 1000000 in
set_option maxRecDepth 100000 in
theorem slice_slots.calls (A0 : Option Addr) (c0 : Nat) (l0 : List (List Int)) (a1 : Int) (a2 : Int) (r : List Int) (w : World) (hr0 : Kd.C (Kd.slice 3 (Kd.int .i64)) w A0 l0.length l0) (hc0 : l0.length ≤ c0) (h : slice_slots.f l0 a1 a2 = some r) :
    Calls Try.prog 48 #[.slice A0 l0.length c0, .int .i64 a1, .int .i64 a2] w fun e w' => ∃ v0_ : Value, e = .returned v0_ ∧ Kd.R (Kd.int .i64) 3 w' w.heap.size (fun _ => True) v0_ r ∧ Below w.heap.size w w' := by
  unfold slice_slots.f at h
  have hmf : ∀ (fn : Fn) (first cap : Array Value) (w : World), (Instr.makeFunc fn first cap).run Try.prog w = .ok (.func fn first cap) w := fun _ _ _ _ => rfl
  by_cases hi : 1 ≤ a1 ∧ a1 ≤ l0.length
  · rw [if_pos hi] at h
    obtain ⟨h0, h1⟩ := hi
    have hm := Kd.C_max hr0
    obtain ⟨ad, A1, c1, e1, hc, hlc, hC1⟩ := at_L1 hr0 (a1 - 1) (by omega) (by omega)
    cases e1
    obtain ⟨l, hl⟩ : ∃ l, rd_L1 l0 (a1 - 1) = l := ⟨_, rfl⟩
    rw [hl] at h hc hlc hC1
    rw [show (a1 - 1).toNat = a1.toNat - 1 by omega] at hc
    by_cases hs : l.length ≤ 1000000
    · rw [if_pos hs] at h
      have H := Aside0.mk h
      have HR0 := Aside0.mk hr0
      have HC1 := Aside0.mk hC1
      have hcA : ∀ o, (w.alloc o).cell? (ad.add (a1.toNat - 1)) = some (.slice A1 l.length c1) := fun o => pw_cell_below (below_alloc (Below.refl _ _) o) hc
      clear h hl hr0 hC1
      go_enter Try.func48, Try.ntmps48
      go_wp2_with fail
      obtain ⟨wd, hwd⟩ : ∃ wd, (w.alloc (.cells #[.int .i64 a2] 3)).alloc (.cells #[.slice A1 l.length c1] 33) = wd := ⟨_, rfl⟩
      have hbd : Boxed wd w.heap.size 3 (.int .i64 a2) := by rw [← hwd]; exact (Boxed.new w 3 _).alloc _
      have hbl : Boxed wd (w.heap.size + 1) 33 (.slice A1 l.length c1) := by rw [← hwd]; have := Boxed.new (w.alloc (.cells #[.int .i64 a2] 3)) 33 (.slice A1 l.length c1); rwa [World.size_alloc] at this
      have hBd : Below w.heap.size w wd := by rw [← hwd]; exact ((Below.refl _ w).alloc (Nat.le_refl _) _).alloc (by simp) _
      have hCd : (Kd.int .i64).C wd A1 l.length l := Kd.C_below HC1.out hBd
      rw [hwd]
      have hw := where_any 51 #[.pointer (some ⟨w.heap.size + 1, 0, none⟩), .pointer (some ⟨w.heap.size, 0, none⟩)] (isD l a2) l.length 0 r wd (enters_of Try.func51 (by kernel_rfl) rfl) hs
        (fun W i b h0 h1 hq hb => slots_closure l a2 i b A1 c1 _ _ W ((hb.block _ hbl.lt).trans hbl) ((hb.block _ hbd.lt).trans hbd) (Kd.C_below hCd hb) hq) H.out
      have HW := Aside0.mk hw
      have HBD := Aside0.mk hBd
      clear hwd hbd hbl hBd hCd hw hcA
      refine HW.out.mono ?_
      rintro e w' ⟨v, rfl, hR, hb⟩
      have HR := Aside0.mk hR
      have HB := Aside0.mk (HBD.out.trans (hb.mono HBD.out.size))
      have hle := HBD.out.size
      have HR2 : Aside0 (Kd.R (Kd.int .i64) 3 w' w.heap.size (fun _ => True) v r) := ⟨Kd.R_lower hR hle⟩
      clear hR hb HR
      go_wp2
      go_ret
      exact ⟨_, rfl, HR2.out, HB.out⟩
    · rw [if_neg hs] at h; cases h
  · rw [if_neg hi] at h; cases h

end Go.Proofs.Ythcgcfjcjikjmaa.S
