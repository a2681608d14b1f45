/- limit.causes, walked: the watches are an array of closures. -/
import Derived.Outline
import Derived.RangeFuncBox
import Derived.Shelf.Abstract
import Derived.Laws.EntriesVeiled
import Derived.Test.YtlpdoieokgeikaaS0
import Derived.Test.YtlpdoieokgeikaaXtra
import Derived.Test.YtlpdoieokgeikaaNums
namespace Go.Proofs.Ytlpdoieokgeikaa.S
open Go.RowKit Go.Proofs.YtlpdoieokgeikaaW.PrintWords Go.Proofs.YtlpdoieokgeikaaW.PrintLast Go.Proofs.YtlpdoieokgeikaaW.PrintMore Go.Shelf
set_option linter.unusedVariables false
set_option linter.unusedSimpArgs false

/-- Is a cause there? -/
def causeB (p s : Int) (m b : Bool) (pn h spd : Int) : Nat → Bool
  | 0 => decide (spd < s)
  | 1 => decide (p < 0) || decide (h < p)
  | 2 => decide (0 < s) && b
  | 3 => decide (0 < s) && !m
  | 4 => m && decide (0 < pn)
  | _ => false
/-- The first causes. -/
def causesL (p s : Int) (m b : Bool) (pn h spd : Int) : Nat → List Int
  | 0 => []
  | i + 1 => causesL p s m b pn h spd i ++ (if causeB p s m b pn h spd i = true then [(i : Int) + 1] else [])
def limit_causes.f (a0_0 a0_1 : Int) (a0_2 a0_3 : Bool) (a0_4 a1 a2 : Int) : Option (List Int) := some (causesL a0_0 a0_1 a0_2 a0_3 a0_4 a1 a2 5)

/-- The array of watches. -/
def watchV (Bh Bs : Nat) : Value := .agg #[.int .i64 1, .func (.func 46) #[] #[.pointer (some ⟨Bs, 0, none⟩)], .int .i64 2, .func (.func 47) #[] #[.pointer (some ⟨Bh, 0, none⟩)],
  .int .i64 3, .func (.func 48) #[] #[], .int .i64 4, .func (.func 49) #[] #[], .int .i64 5, .func (.func 50) #[] #[]]

set_option maxHeartbeats 1000000 in
set_option maxRecDepth 100000 in
theorem watches_any (h spd : Int) (w : World) :
    Calls Try.prog 43 #[.int .i64 h, .int .i64 spd] w fun e w' => ∃ Bh Bs, e = .returned (watchV Bh Bs) ∧ Boxed w' Bh 3 (.int .i64 h) ∧ Boxed w' Bs 3 (.int .i64 spd) ∧ Below w.heap.size w w' := by
  have hmf : ∀ (fn : Fn) (first cap : Array Value) (w : World), (Instr.makeFunc fn first cap).run Try.prog w = .ok (.func fn first cap) w := fun _ _ _ _ => rfl
  have hu61 := Try.underlying61
  have hu62 := Try.underlying62
  go_enter Try.func43, Try.ntmps43
  go_wp2
  have hn := heap_alloc_new ((w.alloc (.cells #[.int .i64 h] 3)).alloc (.cells #[.int .i64 spd] 3)) (.cells #[.int .i64 1, .func (.func 46) #[] #[.pointer (some ⟨w.heap.size + 1, 0, none⟩)], .int .i64 2, .func (.func 47) #[] #[.pointer (some ⟨w.heap.size, 0, none⟩)],
    .int .i64 3, .func (.func 48) #[] #[], .int .i64 4, .func (.func 49) #[] #[], .int .i64 5, .func (.func 50) #[] #[]] 62)
  rw [World.size_alloc, World.size_alloc] at hn
  refine bodyPost_ret (v := watchV w.heap.size (w.heap.size + 1)) ?_ rfl ⟨_, _, rfl, ((Boxed.new w 3 _).alloc _).alloc _, ?_, (((Below.refl _ w).alloc (Nat.le_refl _) _).alloc (by simp) _).alloc (by simp; omega) _⟩
  · have hr := run_loadVar_row (P := Try.prog) _ _ 62 62 _ (0, 0) _ hn hu62 rfl (by kernel_rfl)
    simp [results, Try.results43, asAddr, hr, watchV]
  · have := (Boxed.new (w.alloc (.cells #[.int .i64 h] 3)) 3 (.int .i64 spd))
    rw [World.size_alloc] at this
    exact this.alloc _

/-- What a closure of a watch says. -/
def isPost (w : World) (r : Bool) (e : Ending) (w' : World) : Prop := e = .returned (.bool r) ∧ Below w.heap.size w w'

set_option maxHeartbeats 1000000 in
set_option maxRecDepth 100000 in
theorem is1_any (p s : Int) (m b : Bool) (pn h spd : Int) (B : Nat) (w : World) (hB : Boxed w B 3 (.int .i64 spd)) :
    Calls Try.prog 46 #[.agg #[.int .i64 p, .int .i64 s, .bool m, .bool b, .int .i64 pn], .pointer (some ⟨B, 0, none⟩)] w (isPost w (causeB p s m b pn h spd 0)) := by
  have hu38 := Try.underlying38
  have cb : ∀ o, (w.alloc o).cell? ⟨B, 0, none⟩ = some (.int .i64 spd) := fun o => (hB.alloc o).cell
  clear hB
  go_enter Try.func46, Try.ntmps46
  go_wp2
  go_ret
  exact ⟨rfl, (Below.refl _ w).alloc (Nat.le_refl _) _⟩

set_option maxHeartbeats 1000000 in
set_option maxRecDepth 100000 in
theorem is2_any (p s : Int) (m b : Bool) (pn h spd : Int) (B : Nat) (w : World) (hB : Boxed w B 3 (.int .i64 h)) :
    Calls Try.prog 47 #[.agg #[.int .i64 p, .int .i64 s, .bool m, .bool b, .int .i64 pn], .pointer (some ⟨B, 0, none⟩)] w (isPost w (causeB p s m b pn h spd 1)) := by
  have hu38 := Try.underlying38
  have cb : ∀ o, (w.alloc o).cell? ⟨B, 0, none⟩ = some (.int .i64 h) := fun o => (hB.alloc o).cell
  clear hB
  by_cases c : p < 0
  · have c1 : decide (p < 0) = true := decide_eq_true c
    have HC := Aside0.mk c1
    clear c
    go_enter Try.func47, Try.ntmps47
    go_wp2
    go_ret
    exact ⟨by unfold causeB; rw [HC.out]; rfl, (Below.refl _ w).alloc (Nat.le_refl _) _⟩
  · have c1 : decide (p < 0) = false := decide_eq_false c
    have HC := Aside0.mk c1
    clear c
    go_enter Try.func47, Try.ntmps47
    go_wp2
    go_ret
    exact ⟨by unfold causeB; rw [HC.out]; rfl, (Below.refl _ w).alloc (Nat.le_refl _) _⟩

set_option maxHeartbeats 1000000 in
set_option maxRecDepth 100000 in
theorem is3_any (p s : Int) (m b : Bool) (pn h spd : Int) (w : World) :
    Calls Try.prog 48 #[.agg #[.int .i64 p, .int .i64 s, .bool m, .bool b, .int .i64 pn]] w (isPost w (causeB p s m b pn h spd 2)) := by
  have hu38 := Try.underlying38
  by_cases c : 0 < s
  · have c1 : decide (0 < s) = true := decide_eq_true c
    have HC := Aside0.mk c1
    clear c
    go_enter Try.func48, Try.ntmps48
    go_wp2
    go_ret
    exact ⟨by unfold causeB; rw [HC.out]; rfl, (Below.refl _ w).alloc (Nat.le_refl _) _⟩
  · have c1 : decide (0 < s) = false := decide_eq_false c
    have HC := Aside0.mk c1
    clear c
    go_enter Try.func48, Try.ntmps48
    go_wp2
    go_ret
    exact ⟨by unfold causeB; rw [HC.out]; rfl, (Below.refl _ w).alloc (Nat.le_refl _) _⟩

set_option maxHeartbeats 1000000 in
set_option maxRecDepth 100000 in
theorem is4_any (p s : Int) (m b : Bool) (pn h spd : Int) (w : World) :
    Calls Try.prog 49 #[.agg #[.int .i64 p, .int .i64 s, .bool m, .bool b, .int .i64 pn]] w (isPost w (causeB p s m b pn h spd 3)) := by
  have hu38 := Try.underlying38
  have hnot : ∀ (x : Bool) (w : World), (Op.unary .not (.bool x)).run Try.prog w = .ok (.bool (!x)) w := fun _ _ => rfl
  by_cases c : 0 < s
  · have c1 : decide (0 < s) = true := decide_eq_true c
    have HC := Aside0.mk c1
    clear c
    go_enter Try.func49, Try.ntmps49
    go_wp2
    go_ret
    exact ⟨by unfold causeB; rw [HC.out]; rfl, (Below.refl _ w).alloc (Nat.le_refl _) _⟩
  · have c1 : decide (0 < s) = false := decide_eq_false c
    have HC := Aside0.mk c1
    clear c
    go_enter Try.func49, Try.ntmps49
    go_wp2
    go_ret
    exact ⟨by unfold causeB; rw [HC.out]; rfl, (Below.refl _ w).alloc (Nat.le_refl _) _⟩

set_option maxHeartbeats 1000000 in
set_option maxRecDepth 100000 in
theorem is5_any (p s : Int) (m b : Bool) (pn h spd : Int) (w : World) :
    Calls Try.prog 50 #[.agg #[.int .i64 p, .int .i64 s, .bool m, .bool b, .int .i64 pn]] w (isPost w (causeB p s m b pn h spd 4)) := by
  have hu38 := Try.underlying38
  cases m with
  | true =>
    go_enter Try.func50, Try.ntmps50
    go_wp2
    go_ret
    exact ⟨rfl, (Below.refl _ w).alloc (Nat.le_refl _) _⟩
  | false =>
    go_enter Try.func50, Try.ntmps50
    go_wp2
    go_ret
    exact ⟨rfl, (Below.refl _ w).alloc (Nat.le_refl _) _⟩

theorem idx0 (Bh Bs : Nat) (w : World) : (Instr.index 62 (watchV Bh Bs) (.int .i64 0)).run Try.prog w = .ok (.agg #[.int .i64 1, .func (.func 46) #[] #[.pointer (some ⟨Bs, 0, none⟩)]]) w := by kernel_rfl
theorem idx1 (Bh Bs : Nat) (w : World) : (Instr.index 62 (watchV Bh Bs) (.int .i64 1)).run Try.prog w = .ok (.agg #[.int .i64 2, .func (.func 47) #[] #[.pointer (some ⟨Bh, 0, none⟩)]]) w := by kernel_rfl
theorem idx2 (Bh Bs : Nat) (w : World) : (Instr.index 62 (watchV Bh Bs) (.int .i64 2)).run Try.prog w = .ok (.agg #[.int .i64 3, .func (.func 48) #[] #[]]) w := by kernel_rfl
theorem idx3 (Bh Bs : Nat) (w : World) : (Instr.index 62 (watchV Bh Bs) (.int .i64 3)).run Try.prog w = .ok (.agg #[.int .i64 4, .func (.func 49) #[] #[]]) w := by kernel_rfl
theorem idx4 (Bh Bs : Nat) (w : World) : (Instr.index 62 (watchV Bh Bs) (.int .i64 4)).run Try.prog w = .ok (.agg #[.int .i64 5, .func (.func 50) #[] #[]]) w := by kernel_rfl

theorem boxed_below {w w' : World} {B n : Nat} {t : TypeId} {v : Value} (h : Boxed w B t v) (hb : Below n w w') (hn : B < n) : Boxed w' B t v := (hb.block B hn).trans h

/-- The i-th watch: what is at its place, and what its closure says. -/
theorem watch_at (p s : Int) (m b : Bool) (pn h spd : Int) (Bh Bs : Nat) (w1 : World) (hh : Boxed w1 Bh 3 (.int .i64 h)) (hs : Boxed w1 Bs 3 (.int .i64 spd)) (i : Nat) (hi : i < 5) :
    ∃ (f : Nat) (cb : Array Value), (∀ w, (Instr.index 62 (watchV Bh Bs) (.int .i64 (i : Int))).run Try.prog w = .ok (.agg #[.int .i64 ((i : Int) + 1), .func (.func f) #[] cb]) w) ∧ (∀ args w, (callFunc f args).run Try.prog w = .ok (.enter f args) w) ∧
      ∀ W, Below w1.heap.size w1 W → Calls Try.prog f (#[.agg #[.int .i64 p, .int .i64 s, .bool m, .bool b, .int .i64 pn]] ++ cb) W (isPost W (causeB p s m b pn h spd i)) := by
  have hi5 : i = 0 ∨ i = 1 ∨ i = 2 ∨ i = 3 ∨ i = 4 := by omega
  rcases hi5 with rfl | rfl | rfl | rfl | rfl
  · exact ⟨46, #[.pointer (some ⟨Bs, 0, none⟩)], idx0 Bh Bs, enters_of Try.func46 (by kernel_rfl) rfl, fun W hW => is1_any p s m b pn h spd Bs W (boxed_below hs hW hs.lt)⟩
  · exact ⟨47, #[.pointer (some ⟨Bh, 0, none⟩)], idx1 Bh Bs, enters_of Try.func47 (by kernel_rfl) rfl, fun W hW => is2_any p s m b pn h spd Bh W (boxed_below hh hW hh.lt)⟩
  · exact ⟨48, #[], idx2 Bh Bs, enters_of Try.func48 (by kernel_rfl) rfl, fun W hW => is3_any p s m b pn h spd W⟩
  · exact ⟨49, #[], idx3 Bh Bs, enters_of Try.func49 (by kernel_rfl) rfl, fun W hW => is4_any p s m b pn h spd W⟩
  · exact ⟨50, #[], idx4 Bh Bs, enters_of Try.func50 (by kernel_rfl) rfl, fun W hW => is5_any p s m b pn h spd W⟩

theorem causesL_len (p s : Int) (m b : Bool) (pn h spd : Int) : ∀ i, (causesL p s m b pn h spd i).length ≤ i
  | 0 => by simp [causesL]
  | i + 1 => by
    have := causesL_len p s m b pn h spd i
    rw [causesL, List.length_append]; split <;> simp <;> omega

set_option maxHeartbeats 2000000 in
set_option maxRecDepth 100000 in
theorem limit_causes.calls (a0_0 : Int) (a0_1 : Int) (a0_2 : Bool) (a0_3 : Bool) (a0_4 : Int) (a1 : Int) (a2 : Int) (r : List Int) (w : World) (h : limit_causes.f a0_0 a0_1 a0_2 a0_3 a0_4 a1 a2 = some r) :
    Calls Try.prog 34 #[.agg #[.int .i64 a0_0, .int .i64 a0_1, .bool a0_2, .bool a0_3, .int .i64 a0_4], .int .i64 a1, .int .i64 a2] w fun e w' => ∃ v0_ : Value, e = .returned v0_ ∧ Kd.R (Kd.int .i64) 3 w' w.heap.size (fun _ => True) v0_ r ∧ Below w.heap.size w w' := by
  have hu38 := Try.underlying38
  have hu61 := Try.underlying61
  have H := Aside0.mk (Option.some.inj h)
  clear h
  go_enter Try.func34, Try.ntmps34
  go_wp2_with fail
  refine (watches_any a1 a2 _).mono ?_
  rintro e w1 ⟨Bh, Bs, rfl, hh, hs, hb⟩
  have hB : Below w.heap.size w w1 := below_step (below_alloc (Below.refl _ w) _) hb
  have hM : w1.heap[w.heap.size]? = some (.cells #[.int .i64 a0_0, .int .i64 a0_1, .bool a0_2, .bool a0_3, .int .i64 a0_4] 38 (0, 0)) := (hb.block _ (by simp)).trans (heap_alloc_new w _)
  have HB := Aside0.mk hB
  have HM := Aside0.mk hM
  have HW := Aside0.mk (watch_at a0_0 a0_1 a0_2 a0_3 a0_4 a1 a2 Bh Bs w1 hh hs)
  clear hB hM hb hh hs
  go_wp2_with fail
  go_loopw [7, 13] (fun v7 v13 wr => ∃ i : Nat, v13 = .int .i64 i ∧ i ≤ 5 ∧ Aside0 (Kd.R (Kd.int .i64) 3 wr w1.heap.size (fun _ => True) v7 (causesL a0_0 a0_1 a0_2 a0_3 a0_4 a1 a2 i)) ∧ Aside0 (Below w1.heap.size w1 wr)) (fun _ v13 _ => 5 - (intOf v13).toNat)
  case atStart => exact ⟨0, rfl, by omega, ⟨Kd.R_nil _ _ _ _ _⟩, ⟨Below.refl _ _⟩⟩
  case round =>
    obtain ⟨i, rfl, hi, hR, hBr⟩ := hrel
    by_cases hlt : i < 5
    · obtain ⟨f, cb, hidx, eg, hf⟩ := HW.out i hlt
      have HF := Aside0.mk hf
      clear hf
      have hc : decide ((i : Int) < 5) = true := decide_eq_true (by omega)
      have bm := (hBr.out.block _ (blk_lt HM.out)).trans HM.out
      have m0 : ∀ o, (wr.alloc o).cell? ⟨w.heap.size, 0, none⟩ = some (.int .i64 a0_0) := fun o => (blk_cell (blk_alloc bm o) 0).trans rfl
      have m1 : ∀ o, (wr.alloc o).cell? ⟨w.heap.size, 1, none⟩ = some (.int .i64 a0_1) := fun o => (blk_cell (blk_alloc bm o) 1).trans rfl
      have m2 : ∀ o, (wr.alloc o).cell? ⟨w.heap.size, 2, none⟩ = some (.bool a0_2) := fun o => (blk_cell (blk_alloc bm o) 2).trans rfl
      have m3 : ∀ o, (wr.alloc o).cell? ⟨w.heap.size, 3, none⟩ = some (.bool a0_3) := fun o => (blk_cell (blk_alloc bm o) 3).trans rfl
      have m4 : ∀ o, (wr.alloc o).cell? ⟨w.heap.size, 4, none⟩ = some (.int .i64 a0_4) := fun o => (blk_cell (blk_alloc bm o) 4).trans rfl
      clear bm
      go_wp2_with fail
      refine (HF.out _ (below_alloc hBr.out _)).mono ?_
      rintro e w2 ⟨rfl, hb2⟩
      have c20 : w2.cell? ⟨wr.heap.size, 0, none⟩ = some (.int .i64 ((i : Int) + 1)) := (blk_cell ((hb2.block _ (by simp)).trans (heap_alloc_new wr _)) 0).trans rfl
      have B2 : Aside0 (Below w1.heap.size w1 w2) := ⟨below_step (below_alloc hBr.out _) hb2⟩
      have R2 : Aside0 (Kd.R (Kd.int .i64) 3 w2 w1.heap.size (fun _ => True) u7 (causesL a0_0 a0_1 a0_2 a0_3 a0_4 a1 a2 i)) := ⟨Kd.R_below (Kd.R_alloc hR.out _) hb2⟩
      have hl := causesL_len a0_0 a0_1 a0_2 a0_3 a0_4 a1 a2 i
      clear hb2 hBr hR m0 m1 m2 m3 m4 hidx HF
      obtain ⟨bb, hbb⟩ : ∃ bb, causeB a0_0 a0_1 a0_2 a0_3 a0_4 a1 a2 i = bb := ⟨_, rfl⟩
      rw [hbb]
      have HBB := Aside0.mk hbb
      clear hbb
      cases bb with
      | true =>
        go_wp2_with (at_builtin; refine Kd.R_append (Kd.int .i64) (w0 := w1) w1.heap.size rfl (.tmp 20) (.tmp 23) 31 3 (.int .i64 0) 8 rfl Try.underlying31 info3 rfl (by decide) (by omega) u7 (causesL a0_0 a0_1 a0_2 a0_3 a0_4 a1 a2 i) ((i : Int) + 1) [.int .i64 ((i : Int) + 1)] (fun _ => True) (fun _ => False) rfl rfl rfl (fun _ hk => hk.elim) (fun _ _ => trivial) R2.out B2.out B2.out.size (by omega) ?_; intro v1 w3 ho hb3 _ _; have R3 := Aside0.mk ho; have B3 := Aside0.mk hb3; clear ho hb3)
        go_roundw
        case rel => exact ⟨i + 1, by simp, by omega, ⟨by rw [causesL, HBB.out, if_pos rfl]; exact R3.out⟩, B3⟩
        case measure => simp [intOf]; omega
      | false =>
        go_wp2
        go_roundw
        case rel => exact ⟨i + 1, by simp, by omega, ⟨by rw [causesL, HBB.out, if_neg (by decide), List.append_nil]; exact R2.out⟩, B2⟩
        case measure => simp [intOf]; omega
    · obtain rfl : i = 5 := by omega
      go_wp2
      go_ret
      exact ⟨_, rfl, by rw [← H.out]; exact Kd.R_lower hR.out HB.out.size, HB.out.trans (hBr.out.mono HB.out.size)⟩

end Go.Proofs.Ytlpdoieokgeikaa.S
