/- slice.Share, walked: how many slots of a cycle belong to each domain; the row that is handed back is an array's (type 60). -/
import Derived.Outline
import Derived.RangeFuncBox
import Derived.Test.YthcgcfjcjikjmaaXtra
import Derived.Test.YthcgcfjcjikjmaaNums
import Derived.Test.YthcgcfjcjikjmaaS1
namespace Go.Proofs.Ythcgcfjcjikjmaa.S
open Go.RowKit Go.Proofs.YthcgcfjcjikjmaaW.PrintWords Go.Proofs.YthcgcfjcjikjmaaW.PrintLast Go.Proofs.YthcgcfjcjikjmaaW.PrintMore
set_option linter.unusedVariables false
set_option linter.unusedSimpArgs false

def tallyL : List Int → List Int → Option (List Int)
  | [], acc => some acc
  | d :: ds, acc => if 0 ≤ d ∧ d ≤ 3 then tallyL ds (acc.set d.toNat (wrap64 (rd acc d + 1))) else none
def shareL : List (List Int) → List Int → Option (List Int)
  | [], acc => some acc
  | r :: rs, acc => (tallyL r acc).bind (shareL rs)
def slice_Share.f (k : Nat) (l0 : List (List Int)) : Option (List Int × Int) :=
  (slice_valid.f k l0 []).bind fun v => if v = 0 then (shareL l0 [0, 0, 0, 0]).map fun r => (r, 0) else some ([], v)
theorem slice_Share.mono : ∀ l0 k, LeO (slice_Share.f k l0) (slice_Share.f (k + 1) l0) := fun l0 k => LeO.bind (slice_valid.mono _ _ k) (fun _ => LeO.refl _)

/-- A block of four numbers. -/
def Four (w : World) (B : Nat) (acc : List Int) : Prop := acc.length = 4 ∧ w.heap[B]? = some (.cells (acc.map (Value.int .i64)).toArray 60 (0, 0))
theorem Four.cell {w : World} {B : Nat} {acc : List Int} (h : Four w B acc) (d : Nat) (hd : d < 4) : w.cell? ⟨B, d, none⟩ = some (.int .i64 (rd acc (d : Int))) := by
  rw [blk_cell h.2 d]
  have hl : d < acc.length := by rw [h.1]; exact hd
  simp [rd, List.getElem?_eq_getElem hl]
theorem Four.frozen {w : World} {B : Nat} {acc : List Int} (h : Four w B acc) (d : Nat) : w.frozen? ⟨B, d, none⟩ = false := blk_frozen h.2 d
theorem Four.set {w : World} {B : Nat} {acc : List Int} (h : Four w B acc) (d : Nat) (v : Int) : Four (w.setCell ⟨B, d, none⟩ (.int .i64 v)) B (acc.set d v) := by
  refine ⟨by rw [List.length_set]; exact h.1, ?_⟩
  rw [blk_set h.2 d]
  simp [List.map_set]
theorem Four.own {w : World} {B base : Nat} {acc : List Int} (h : Four w B acc) (hB : base ≤ B) : Kd.R (Kd.int .i64) 60 w base (fun _ => True) (.slice (some ⟨B, 0, none⟩) 4 4) acc := by
  refine ⟨fun _ _ => trivial, acc.map (Value.int .i64), ⟨by rw [List.length_map, show (Kd.int .i64).sz = 1 from rfl, Nat.mul_one], .inr ⟨B, 4, _, by rw [h.1], hB, h.2, by rw [h.1]; exact Nat.le_refl _, by decide, by simp [h.1]; rfl, ?_⟩⟩, by rw [List.length_map, show (Kd.int .i64).sz = 1 from rfl, Nat.mul_one], fun j p hj => ?_⟩
  · rw [show (Kd.int .i64).sz = 1 from rfl, Nat.mul_one]
    exact List.take_of_length_le (by simp)
  · show ((acc.map (Value.int .i64)).drop (j * 1)).take 1 = [.int .i64 p]
    have hl := (List.getElem?_eq_some_iff.1 hj)
    obtain ⟨hlt, he⟩ := hl
    rw [Nat.mul_one, ← List.map_drop, List.drop_eq_getElem_cons hlt, he]
    rfl
theorem rd_L1_drop (l : List (List Int)) (i : Nat) (h : i < l.length) : l.drop i = rd_L1 l (i : Int) :: l.drop (i + 1) := by
  unfold rd_L1
  rw [Int.toNat_natCast, List.getD_eq_getElem?_getD, List.getElem?_eq_getElem h, Option.getD_some]
  exact List.drop_eq_getElem_cons h

set_option maxHeartbeats 2000000 in
set_option maxRecDepth 100000 in
theorem slice_Share.calls (k : Nat) (A0 : Option Addr) (c0 : Nat) (l0 : List (List Int)) (r1 : List Int) (r2 : Int) (w : World) (hr0 : Kd.C (Kd.slice 3 (Kd.int .i64)) w A0 l0.length l0) (hc0 : l0.length ≤ c0) (h : slice_Share.f k l0 = some (r1, r2)) :
    Calls Try.prog 17 #[.slice A0 l0.length c0] w fun e w' => ∃ v0_ : Value, e = .returned (.tuple #[v0_, .int .i64 r2]) ∧ Kd.R (Kd.int .i64) 60 w' w.heap.size (fun _ => True) v0_ r1 ∧ Below w.heap.size w w' := by
  unfold slice_Share.f at h
  obtain ⟨v, hv, h⟩ := Option.bind_eq_some_iff.1 h
  have hval : ∀ W, Kd.C (Kd.slice 3 (Kd.int .i64)) W A0 l0.length l0 → Calls Try.prog 42 #[.slice A0 l0.length c0, .slice none 0 0] W fun e w' => e = .returned (.int .i64 v) ∧ Drawn0 W w' := fun W hW =>
    slice_valid.calls k A0 c0 l0 none 0 [] v W hW hc0 ⟨rfl, by decide, fun h => absurd h (Nat.lt_irrefl 0)⟩ (Nat.le_refl _) hv
  have HV := Aside0.mk hval
  have hm0 := Kd.C_max hr0
  have HR0 := Aside0.mk hr0
  clear hv hval hr0
  by_cases hv0 : v = 0
  · rw [if_pos hv0] at h
    obtain ⟨rr, hw, h⟩ := Option.map_eq_some_iff.1 h
    simp only [Prod.mk.injEq] at h
    obtain ⟨rfl, rfl⟩ := h
    have n1 : (v != 0) = false := by rw [hv0]; rfl
    have HW := Aside0.mk hw
    clear hw hv0
    go_enter Try.func17, Try.ntmps17
    go_wp2_with fail
    refine (HV.out _ HR0.out).mono ?_
    rintro e w' ⟨rfl, m, rfl⟩
    go_wp2_with fail
    obtain ⟨wa, hwa⟩ : ∃ wa, (w.drewN m).alloc (.cells #[.int .i64 0, .int .i64 0, .int .i64 0, .int .i64 0] 60) = wa := ⟨_, rfl⟩
    have h4 : Four wa w.heap.size [0, 0, 0, 0] := by rw [← hwa]; exact ⟨rfl, heap_alloc_new (w.drewN m) _⟩
    have hBa : Below w.heap.size w wa := by rw [← hwa]; exact (pw_below_drewN (Below.refl _ w) m).alloc (Nat.le_refl _) _
    rw [hwa]
    have H4 := Aside0.mk h4
    have HBa := Aside0.mk hBa
    clear hwa h4 hBa
    go_loopw [17] (fun v17 wr => ∃ (i : Nat) (acc : List Int), v17 = .int .i64 i ∧ Aside0 (i ≤ l0.length) ∧ Aside0 (shareL (l0.drop i) acc = some rr) ∧ Aside0 (Four wr w.heap.size acc) ∧ Aside0 (Below w.heap.size w wr)) (fun v17 _ => l0.length - (intOf v17).toNat)
    case atStart => exact ⟨0, [0, 0, 0, 0], rfl, ⟨by omega⟩, HW, H4, HBa⟩
    case round =>
      obtain ⟨i, acc, rfl, hi, hS, hF, hB⟩ := hrel
      by_cases hlt : i < l0.length
      · obtain ⟨l, hl⟩ : ∃ l, rd_L1 l0 (i : Int) = l := ⟨_, rfl⟩
        have hS2 := hS.out
        rw [rd_L1_drop l0 i hlt, hl, shareL] at hS2
        obtain ⟨acc2, ht, hS2⟩ := Option.bind_eq_some_iff.1 hS2
        obtain ⟨ad, A1, c1, e1, hc, hlc, hC1⟩ := at_L1 HR0.out (i : Int) (by omega) (by omega)
        cases e1
        rw [hl] at hc hlc hC1
        rw [Int.toNat_natCast] at hc
        have hcw := (hB.out.cell (World.block_lt_of_cell? w _ hc)).trans hc
        have hm1 := Kd.C_max hC1
        have HT := Aside0.mk ht
        have HS2 := Aside0.mk hS2
        have HC1 := Aside0.mk hC1
        have HFo := hF
        have HBo := hB
        clear hl ht hS2 hS hc hC1 hF hB
        go_wp2_with fail
        obtain ⟨wo, rfl⟩ : ∃ wo : World, wo = wr := ⟨_, rfl⟩
        go_loopw [9, 23] (fun v9 v23 wx => ∃ (j : Nat) (a : List Int), v23 = .int .i64 j ∧ Aside0 (j ≤ l.length) ∧ Aside0 (tallyL (l.drop j) a = some acc2) ∧ Aside0 (Four wx w.heap.size a) ∧ Aside0 (Below w.heap.size w wx)) (fun _ v23 _ => l.length - (intOf v23).toNat)
        case atStart => exact ⟨0, acc, rfl, ⟨by omega⟩, HT, HFo, HBo⟩
        case round =>
          obtain ⟨j, a, rfl, hj, hT, hF, hB⟩ := hrel
          by_cases hlj : j < l.length
          · obtain ⟨d, hd⟩ : ∃ d, rd l (j : Int) = d := ⟨_, rfl⟩
            have hT2 := hT.out
            rw [Pure.drop_rd l j hlj, hd, tallyL] at hT2
            by_cases hr : 0 ≤ d ∧ d ≤ 3
            · rw [if_pos hr] at hT2
              obtain ⟨n, rfl⟩ := Int.eq_ofNat_of_zero_le hr.1
              have hn : n < 4 := by omega
              have hC := Kd.C_below HC1.out hB.out
              obtain ⟨ad1, e2, hx⟩ := Kd.at_int hC (j : Int) (by omega) (by omega)
              cases e2
              rw [Int.toNat_natCast, hd] at hx
              have hcell := hF.out.cell n hn
              have hfr := hF.out.frozen n
              have hF2 := hF.out.set n (wrap64 (rd a (n : Int) + 1))
              obtain ⟨x, hxx⟩ : ∃ x, rd a (n : Int) = x := ⟨_, rfl⟩
              rw [hxx] at hcell hF2 hT2
              rw [Int.toNat_natCast] at hT2
              have HT2 := Aside0.mk hT2
              have HF2 := Aside0.mk hF2
              clear hd hT2 hF2 hxx hC hT
              go_wp2
              go_roundw
              case rel => exact ⟨j + 1, _, by go_num, ⟨by omega⟩, HT2, HF2, ⟨hB.out.setCell (p := ⟨w.heap.size, n, none⟩) (Nat.le_refl _) _⟩⟩
              case measure => simp [intOf]; omega
            · rw [if_neg hr] at hT2; cases hT2
          · have he : a = acc2 := by
              have := hT.out
              rw [List.drop_eq_nil_of_le (by omega), tallyL] at this
              exact Option.some.inj this
            have HE := Aside0.mk he
            clear he hT
            go_wp2
            go_roundw
            case rel => exact ⟨i + 1, acc2, by go_num, ⟨by omega⟩, HS2, ⟨by rw [← HE.out]; exact hF.out⟩, hB⟩
            case measure => simp [intOf]; omega
      · have he : acc = rr := by
          have := hS.out
          rw [List.drop_eq_nil_of_le (by omega), shareL] at this
          exact Option.some.inj this
        have HE := Aside0.mk he
        clear he hS
        go_wp2
        go_ret2
        exact ⟨_, rfl, by rw [← HE.out]; exact hF.out.own (Nat.le_refl _), hB.out⟩
  · rw [if_neg hv0] at h
    simp only [Option.some.injEq, Prod.mk.injEq] at h
    obtain ⟨rfl, rfl⟩ := h
    have n1 : (v != 0) = true := bne_iff_ne.2 hv0
    have HV0 := Aside0.mk hv0
    clear hv0
    go_enter Try.func17, Try.ntmps17
    go_wp2_with fail
    refine (HV.out _ HR0.out).mono ?_
    rintro e w' ⟨rfl, m, rfl⟩
    go_wp2
    go_ret2
    exact ⟨_, rfl, Kd.R_nil _ _ _ _ _, pw_below_drewN (Below.refl _ _) m⟩

end Go.Proofs.Ythcgcfjcjikjmaa.S
