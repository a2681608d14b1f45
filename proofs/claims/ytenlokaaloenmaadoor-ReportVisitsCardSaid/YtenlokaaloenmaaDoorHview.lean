/- report.lights, place and on, walked: the lights of a view. The iterator of (light).spells: it yields the spells of a light, and whether they have ended. -/
import Derived.Outline
import Derived.Defers
import Derived.Recover
import Derived.StillTailTactics
import Derived.Test.YtenlokaaloenmaaDoorQuiet
import Derived.Test.YtenlokaaloenmaaDoorS0
import Derived.Test.YtenlokaaloenmaaDoorNums
import Derived.RangeFuncNested
import Derived.RangeFuncBound
import Derived.RangeFuncCalls
import Derived.RangeFuncLeaves
import Derived.RangeFuncFrom
import Derived.RangeFuncBox
import Derived.OwnWalkIn
import Derived.TacticsInMore
import Derived.LoopNIn
import Derived.LoopIn
import Derived.Sort.CutIn
set_option linter.unusedVariables false
set_option linter.unusedSimpArgs false
namespace Go.Proofs.YtenlokaaloenmaaDoor.S
open Go.RowKit Go.Proofs.YtenlokaaloenmaaDoorW.PrintWords Go.Proofs.YtenlokaaloenmaaDoorW.PrintLast Go.Proofs.YtenlokaaloenmaaDoorW.PrintMore
set_option linter.unusedVariables false
set_option linter.unusedSimpArgs false
attribute [local go_sem] Oper.semAt_some wide_fn wideR_fn
attribute [local simp] wide_fn wideR_fn

/-- A block of known cells. -/
def Blk (w : World) (B : Nat) (cs : Array Value) (t : TypeId) : Prop := w.heap[B]? = some (.cells cs t (0, 0))
theorem Blk.cell {w : World} {B : Nat} {cs : Array Value} {t : TypeId} (h : Blk w B cs t) (i : Nat) {v : Value} (hv : cs[i]? = some v) : w.cell? ⟨B, i, none⟩ = some v := by unfold Blk at h; simp [World.cell?, h, hv]
theorem Blk.fr {w : World} {B : Nat} {cs : Array Value} {t : TypeId} (h : Blk w B cs t) (o : Nat) : w.frozen? ⟨B, o, none⟩ = false := by unfold Blk at h; simp [World.frozen?, h]
theorem Blk.lt {w : World} {B : Nat} {cs : Array Value} {t : TypeId} (h : Blk w B cs t) : B < w.heap.size := (Array.getElem?_eq_some_iff.1 h).1
theorem Blk.below {w w' : World} {B n : Nat} {cs : Array Value} {t : TypeId} (h : Blk w B cs t) (hb : Below n w w') (hn : B < n) : Blk w' B cs t := (hb.block B hn).trans h
theorem Blk.alloc {w : World} {B : Nat} {cs : Array Value} {t : TypeId} (h : Blk w B cs t) (o : Obj) : Blk (w.alloc o) B cs t := (Below.heap_alloc w o B h.lt).trans h
theorem Blk.drewN {w : World} {B : Nat} {cs : Array Value} {t : TypeId} (h : Blk w B cs t) (n : Nat) : Blk (w.drewN n) B cs t := h
theorem Blk.new (w : World) (cs : Array Value) (t : TypeId) : Blk (w.alloc (.cells cs t)) w.heap.size cs t := heap_alloc_new w _
theorem Blk.far {w : World} {B : Nat} {cs : Array Value} {t : TypeId} (h : Blk w B cs t) (a : Addr) (u : Value) (hne : ¬ B = a.block) : Blk (w.setCell a u) B cs t := (Below.heap_setCell w a u B hne).trans h
theorem Blk.set {w : World} {B : Nat} {cs : Array Value} {t : TypeId} (h : Blk w B cs t) (i : Nat) (u : Value) : Blk (w.setCell ⟨B, i, none⟩ u) B (cs.setIfInBounds i u) t := by
  unfold Blk at h ⊢
  obtain ⟨hl, he⟩ := Array.getElem?_eq_some_iff.1 h
  simp [World.setCell, hl, Array.getElem_modify, he, Array.getElem_modify]

set_option maxHeartbeats 1000000 in
set_option maxRecDepth 100000 in
theorem lights_any (t u d wd : Int) (A1 : Option Addr) (n1 c1 : Nat) (A2 : Option Addr) (n2 c2 : Nat) (w : World) :
    Calls Tryd.prog 48 #[.agg #[.int .i64 t, .slice A1 n1 c1, .slice A2 n2 c2, .int .u64 u, .int .u64 d, .int .i64 wd]] w fun e w' => e = .returned (.agg #[.int .u64 u, .int .u64 d]) ∧ Below w.heap.size w w' := by
  have hu41 := Tryd.underlying41
  have hu85 := Tryd.underlying85
  go_enter Tryd.func48, Tryd.ntmps48
  go_wp2_with fail
  have hn := Blk.new (w.alloc (.cells #[.int .i64 t, .slice A1 n1 c1, .slice A2 n2 c2, .int .u64 u, .int .u64 d, .int .i64 wd] 41)) #[.int .u64 u, .int .u64 d] 85
  rw [World.size_alloc] at hn
  have c0 := hn.cell 0 rfl
  have c1 := hn.cell 1 rfl
  refine bodyPost_ret (v := .agg #[.int .u64 u, .int .u64 d]) ?_ rfl ⟨rfl, ((Below.refl _ w).alloc (Nat.le_refl _) _).alloc (by simp) _⟩
  simp [results, Tryd.results48, go_sem, c0, c1, hu85]

set_option maxHeartbeats 1000000 in
set_option maxRecDepth 100000 in
theorem place_any (f : Int) (u : Bool) (w : World) :
    Calls Tryd.prog 54 #[.agg #[.int .i64 f, .bool u]] w fun e w' => e = .returned (.int .i64 (if u = true then 0 else 1)) ∧ Below w.heap.size w w' := by
  have hu77 := Tryd.underlying77
  cases u with
  | true =>
    go_enter Tryd.func54, Tryd.ntmps54
    go_wp2_with fail
    go_ret
    exact ⟨rfl, (Below.refl _ w).alloc (Nat.le_refl _) _⟩
  | false =>
    go_enter Tryd.func54, Tryd.ntmps54
    go_wp2_with fail
    go_ret
    exact ⟨rfl, (Below.refl _ w).alloc (Nat.le_refl _) _⟩

theorem place_true (f : Int) (w : World) : Calls Tryd.prog 54 #[.agg #[.int .i64 f, .bool true]] w fun e w' => e = .returned (.int .i64 0) ∧ Below w.heap.size w w' := place_any f true w
theorem place_false (f : Int) (w : World) : Calls Tryd.prog 54 #[.agg #[.int .i64 f, .bool false]] w fun e w' => e = .returned (.int .i64 1) ∧ Below w.heap.size w w' := place_any f false w

/-- Whether a light is on in two sets of lights. -/
def onV (f : Int) (up : Bool) (u d : Int) : Bool := (Go.bits .and .u64 ((if up = true then u else d) / 2 ^ f.toNat) 1) == 1

theorem index0 (u d : Int) (w : World) : (Instr.index 85 (.agg #[.int .u64 u, .int .u64 d]) (.int .i64 0)).run Tryd.prog w = .ok (.int .u64 u) w := by
  have hz : (sizeOf 39).run Tryd.prog w = .ok 1 w := by kernel_rfl
  simp [Instr.index, run_underlying Tryd.underlying85, asIntOf, hz, part, go_sem]
theorem index1 (u d : Int) (w : World) : (Instr.index 85 (.agg #[.int .u64 u, .int .u64 d]) (.int .i64 1)).run Tryd.prog w = .ok (.int .u64 d) w := by
  have hz : (sizeOf 39).run Tryd.prog w = .ok 1 w := by kernel_rfl
  simp [Instr.index, run_underlying Tryd.underlying85, asIntOf, hz, part, go_sem]

set_option maxHeartbeats 4000000 in
set_option maxRecDepth 100000 in
theorem on_any (f : Int) (up : Bool) (t u d wd : Int) (A1 : Option Addr) (n1 c1 : Nat) (A2 : Option Addr) (n2 c2 : Nat) (h0 : 0 ≤ f) (h1 : f ≤ 63) (w : World) :
    Calls Tryd.prog 52 #[.agg #[.int .i64 f, .bool up], .agg #[.int .i64 t, .slice A1 n1 c1, .slice A2 n2 c2, .int .u64 u, .int .u64 d, .int .i64 wd]] w fun e w' => e = .returned (.bool (onV f up u d)) ∧ Below w.heap.size w w' := by
  have hu41 := Tryd.underlying41
  have hu77 := Tryd.underlying77
  have hu85 := Tryd.underlying85
  go_enter Tryd.func52, Tryd.ntmps52
  go_wp2_with fail
  obtain ⟨wa, hwa⟩ : ∃ x, (w.alloc (.cells #[.int .i64 f, .bool up] 77)).alloc (.cells #[.int .i64 t, .slice A1 n1 c1, .slice A2 n2 c2, .int .u64 u, .int .u64 d, .int .i64 wd] 41) = x := ⟨_, rfl⟩
  have ha1 : Blk wa w.heap.size #[.int .i64 f, .bool up] 77 := by rw [← hwa]; exact (Blk.new w _ _).alloc _
  have ha2 : Blk wa (w.heap.size + 1) #[.int .i64 t, .slice A1 n1 c1, .slice A2 n2 c2, .int .u64 u, .int .u64 d, .int .i64 wd] 41 := by
    have := Blk.new (w.alloc (.cells #[.int .i64 f, .bool up] 77)) #[.int .i64 t, .slice A1 n1 c1, .slice A2 n2 c2, .int .u64 u, .int .u64 d, .int .i64 wd] 41
    rw [World.size_alloc] at this; rw [← hwa]; exact this
  have hB : Below w.heap.size w wa := by rw [← hwa]; exact ((Below.refl _ w).alloc (Nat.le_refl _) _).alloc (by simp) _
  rw [hwa]
  clear hwa
  have f0 := ha1.cell 0 rfl
  have f1 := ha1.cell 1 rfl
  have v0 := ha2.cell 0 rfl
  have v1 := ha2.cell 1 rfl
  have v2 := ha2.cell 2 rfl
  have v3 := ha2.cell 3 rfl
  have v4 := ha2.cell 4 rfl
  have v5 := ha2.cell 5 rfl
  have l1 := ha1.lt
  have l2 := ha2.lt
  have HB := Aside0.mk hB
  clear hB
  have f0 : ∀ p : GB, (mkW wa p).cell? ⟨w.heap.size, 0, none⟩ = some (.int .i64 f) := mkW_cell (ha1.cell 0 rfl)
  have f1 : ∀ p : GB, (mkW wa p).cell? ⟨w.heap.size, 1, none⟩ = some (.bool up) := mkW_cell (ha1.cell 1 rfl)
  have v0 : ∀ p : GB, (mkW wa p).cell? ⟨w.heap.size + 1, 0, none⟩ = some (.int .i64 t) := mkW_cell (ha2.cell 0 rfl)
  have v1 : ∀ p : GB, (mkW wa p).cell? ⟨w.heap.size + 1, 1, none⟩ = some (.slice A1 n1 c1) := mkW_cell (ha2.cell 1 rfl)
  have v2 : ∀ p : GB, (mkW wa p).cell? ⟨w.heap.size + 1, 2, none⟩ = some (.slice A2 n2 c2) := mkW_cell (ha2.cell 2 rfl)
  have v3 : ∀ p : GB, (mkW wa p).cell? ⟨w.heap.size + 1, 3, none⟩ = some (.int .u64 u) := mkW_cell (ha2.cell 3 rfl)
  have v4 : ∀ p : GB, (mkW wa p).cell? ⟨w.heap.size + 1, 4, none⟩ = some (.int .u64 d) := mkW_cell (ha2.cell 4 rfl)
  have v5 : ∀ p : GB, (mkW wa p).cell? ⟨w.heap.size + 1, 5, none⟩ = some (.int .i64 wd) := mkW_cell (ha2.cell 5 rfl)
  clear ha1 ha2
  have i0 := index0 u d
  have i1 := index1 u d
  rw [← wpIn_wide (n := 9)]
  cases up with
  | true =>
    refine wpIn_region_below (by kernel_rfl) (by kernel_rfl) (by kernel_rfl) ?_
    repeat (first | gi_big_quiet_step (first | (gi_at_call 48; exact CallsIn.below_of (callsIn_wide.2 (lights_any t u d wd A1 n1 c1 A2 n2 c2 _))) | (gi_at_call 54; exact CallsIn.below_of (callsIn_wide.2 (place_true f _)))) | quiet_step_in (fail))
    refine wpQuietIn_nil ?_
    rintro _ ⟨p, rfl⟩
    go_wp2_with fail
    go_ret
    exact ⟨rfl, HB.out.trans ((mkW_below wa p).mono HB.out.size)⟩
  | false =>
    refine wpIn_region_below (by kernel_rfl) (by kernel_rfl) (by kernel_rfl) ?_
    repeat (first | gi_big_quiet_step (first | (gi_at_call 48; exact CallsIn.below_of (callsIn_wide.2 (lights_any t u d wd A1 n1 c1 A2 n2 c2 _))) | (gi_at_call 54; exact CallsIn.below_of (callsIn_wide.2 (place_false f _)))) | quiet_step_in (fail))
    refine wpQuietIn_nil ?_
    rintro _ ⟨p, rfl⟩
    go_wp2_with fail
    go_ret
    exact ⟨rfl, HB.out.trans ((mkW_below wa p).mono HB.out.size)⟩

end Go.Proofs.YtenlokaaloenmaaDoor.S

namespace Go.Proofs.YtenlokaaloenmaaDoor.S
open Go.RowKit Go.Proofs.YtenlokaaloenmaaDoorW.PrintWords Go.Proofs.YtenlokaaloenmaaDoorW.PrintLast Go.Proofs.YtenlokaaloenmaaDoorW.PrintMore
attribute [local go_sem] Oper.semAt_some wide_fn wideR_fn
attribute [local simp] wide_fn wideR_fn

/-- The spells of a light, from a view on: so many views are left, this is the next one, since when the light is on (-1: it is off). -/
def spF (l : List S41) (f : Int) (up : Bool) : Nat → Nat → Int → List (S57 × Bool)
  | 0, _, frm => if frm ≥ 0 then [(⟨(rd_T41 l frm).f0, wrap64 ((rd_T41 l ((l.length : Int) - 1)).f0 + 1)⟩, false)] else []
  | d + 1, i, frm =>
    if onV f up (rd_T41 l i).f3 (rd_T41 l i).f4 = true then (if frm < 0 then spF l f up d (i + 1) i else spF l f up d (i + 1) frm)
    else if frm ≥ 0 then (⟨(rd_T41 l frm).f0, (rd_T41 l i).f0⟩, true) :: spF l f up d (i + 1) (-1) else spF l f up d (i + 1) frm

def encS (x : S57 × Bool) : Array Value := #[.agg #[.int .i64 x.1.f0, .int .i64 x.1.f1], .bool x.2]

/-- What a round must keep: the two variables of the iterator, and whatever lay when the caller began. -/
def Keep3 (n0 b1 b2 : Nat) (W W' : World) : Prop := W'.heap[b1]? = W.heap[b1]? ∧ W'.heap[b2]? = W.heap[b2]? ∧ Below n0 W W'
theorem grown_below {w w' : World} {n : Nat} (h : Below n w w') (hn : w.heap.size ≤ n) (row : Option Nat) : w.grownBy w' row := ⟨h.os, h.tape, h.output, h.size, fun k hk _ => h.block k (by omega)⟩

theorem spells_any (f : Int) (up : Bool) (A : Option Addr) (n c : Nat) (w : World) : Calls Tryd.prog 40 #[.agg #[.int .i64 f, .bool up], .slice A n c] w fun e w' =>
    e = .returned (.func (.func 51) #[] #[.pointer (some ⟨w.heap.size + 1, 0, none⟩), .pointer (some ⟨w.heap.size, 0, none⟩)]) ∧ w' = (w.alloc (.cells #[.int .i64 f, .bool up] 77)).alloc (.cells #[.slice A n c] 24) := by
  have hmf : ∀ (fn : Fn) (first cap : Array Value) (w : World), (Instr.makeFunc fn first cap).run Tryd.prog w = .ok (.func fn first cap) w := fun _ _ _ _ => rfl
  go_enter Tryd.func40, Tryd.ntmps40
  go_wp2
  go_ret
  exact ⟨rfl, rfl⟩

theorem on_at {f : Int} {up : Bool} {u d : Int} {b : Bool} (hb : onV f up u d = b) (t wd : Int) (A1 : Option Addr) (n1 c1 : Nat) (A2 : Option Addr) (n2 c2 : Nat) (h0 : 0 ≤ f) (h1 : f ≤ 63) (w : World) :
    Calls Tryd.prog 52 #[.agg #[.int .i64 f, .bool up], .agg #[.int .i64 t, .slice A1 n1 c1, .slice A2 n2 c2, .int .u64 u, .int .u64 d, .int .i64 wd]] w fun e w' => e = .returned (.bool b) ∧ Below w.heap.size w w' := by
  rw [← hb]; exact on_any f up t u d wd A1 n1 c1 A2 n2 c2 h0 h1 w

/-- The view in memory. -/
abbrev vcs (v : S41) (A1 : Option Addr) (c1 : Nat) (A2 : Option Addr) (c2 : Nat) : Array Value := #[.int .i64 v.f0, .slice A1 v.f1.length c1, .slice A2 v.f2.length c2, .int .u64 v.f3, .int .u64 v.f4, .int .i64 v.f5]
/-- What holds in a round. -/
structure SpW (n0 Bl Bx bv : Nat) (A : Option Addr) (n c : Nat) (f : Int) (up : Bool) (cv : Array Value) (w00 W : World) : Prop where
  bl : Boxed W Bl 24 (.slice A n c)
  bx : Blk W Bx #[.int .i64 f, .bool up] 77
  bv : Blk W bv cv 41
  bw : Below n0 w00 W
  sz : n0 ≤ W.heap.size
theorem SpW.below {n0 Bl Bx bv : Nat} {A : Option Addr} {n c : Nat} {f : Int} {up : Bool} {cv : Array Value} {w00 W W' : World} (h : SpW n0 Bl Bx bv A n c f up cv w00 W) (hb : Below W.heap.size W W') : SpW n0 Bl Bx bv A n c f up cv w00 W' :=
  ⟨(hb.block Bl h.bl.lt).trans h.bl, h.bx.below hb h.bx.lt, h.bv.below hb h.bv.lt, h.bw.trans (hb.mono h.sz), Nat.le_trans h.sz hb.size⟩

set_option maxHeartbeats 4000000 in
set_option maxRecDepth 100000 in
theorem spells_stops (n : Nat) (hn : 2 ≤ n) (n0 Bl Bx : Nat) (hl : n0 ≤ Bl) (hx : n0 ≤ Bx) (A : Option Addr) (c : Nat) (l : List S41) (hc : l.length ≤ c) (f : Int) (up : Bool) (h0 : 0 ≤ f) (h1 : f ≤ 63) (w00 : World) (h00 : w00.heap.size = n0) (hC : k41.C w00 A l.length l)
    (xs : List (S57 × Bool)) (hxs : spF l f up l.length 0 (-1) = xs) (w : World) (hBl : Boxed w Bl 24 (.slice A l.length c)) (hBx : Blk w Bx #[.int .i64 f, .bool up] 77) (hw : Below n0 w00 w) :
    SeqStopsK Fence.wide n Tryd.prog 51 #[.pointer (some ⟨Bl, 0, none⟩), .pointer (some ⟨Bx, 0, none⟩)] encS (Keep3 n0 Bl Bx) (fun ys => ys = xs) (fun pre => pre <+: xs) xs.length w := by
  intro lp J Jx W hW hJ hJx hY hj0
  have hu41 := Tryd.underlying41
  have hu77 := Tryd.underlying77
  have bBl : Boxed W Bl 24 (.slice A l.length c) := (hW.block Bl hBl.lt).trans hBl
  have bBx : Blk W Bx #[.int .i64 f, .bool up] 77 := (hW.block Bx hBx.lt).trans hBx
  have bW : Below n0 w00 W := hw.trans (hW.mono (by have := hw.size; omega))
  have hmax := Kd.C_max hC
  have cBl := bBl.cell
  have HJ := Aside0.mk hJ
  have HY := Aside0.mk hY
  have HCC := Aside0.mk hC
  have HXS := Aside0.mk hxs
  have BW := Aside0.mk bW
  have BL := Aside0.mk bBl
  have BX := Aside0.mk bBx
  clear hJ hJx hY hC hxs bW bBl bBx hW hBl hBx hw
  refine callsIn_of_wp Tryd.func51 rfl trivial ?_ rfl
  simp only [Tryd.ntmps51, List.size_toArray, List.length_cons, List.length_nil, Nat.reduceAdd, Nat.reduceSub, Array.replicate_succ, Array.replicate_zero, List.push_toArray, List.append_toArray, List.nil_append, List.cons_append]
  gi_wp2
  clear cBl
  gi_loopw [4, 9] (fun v4 v9 wr => ∃ (i : Nat) (frm : Int) (pre rest : List (S57 × Bool)), v4 = .int .i64 frm ∧ v9 = .int .i64 i ∧ Aside0 (i ≤ l.length ∧ (frm = -1 ∨ (0 ≤ frm ∧ frm < i))) ∧ Aside0 (xs = pre ++ rest) ∧ Aside0 (spF l f up (l.length - i) i frm = rest) ∧ J pre wr ∧ Aside0 (Boxed wr Bl 24 (.slice A l.length c)) ∧ Aside0 (Blk wr Bx #[.int .i64 f, .bool up] 77) ∧ Aside0 (Below n0 w00 wr))
    (fun _ v9 _ => l.length - (intOf v9).toNat)
  case atStart => exact ⟨0, -1, [], xs, rfl, rfl, ⟨by omega, .inl rfl⟩, ⟨rfl⟩, HXS, hj0, BL, BX, BW⟩
  case round =>
    obtain ⟨i, frm, pre, rest, rfl, rfl, hi, hp1, hr, hj, hb1, hb2, hbw⟩ := hrel
    by_cases hlt : i < l.length
    · obtain ⟨ad, A1, c1, A2, c2, e, x0, x1, x2, x3, x4, x5, hl1, hi1, hl2, hi2⟩ := at_T41 (Kd.C_below HCC.out (by rw [h00]; exact hbw.out)) (i : Int) (by omega) (by omega)
      cases e
      clear hl1 hi1 hl2 hi2
      have p1 : (0 ≤ (i : Int)) = True := eq_true (by omega)
      have q1 : ((i : Int) < (l.length : Int)) = True := eq_true (by omega)
      obtain ⟨v, hv⟩ : ∃ v, rd_T41 l (i : Int) = v := ⟨_, rfl⟩
      rw [hv, Int.toNat_natCast] at x0 x1 x2 x3 x4 x5
      have HV := Aside0.mk hv
      clear hv
      gi_upto_region 4 with (fail)
      obtain ⟨w1, hw1⟩ : ∃ x, wr.alloc (.cells #[.int .i64 v.f0, .slice A1 v.f1.length c1, .slice A2 v.f2.length c2, .int .u64 v.f3, .int .u64 v.f4, .int .i64 v.f5] 41) = x := ⟨_, rfl⟩
      obtain ⟨bv, hbv⟩ : ∃ x, wr.heap.size = x := ⟨_, rfl⟩
      have hj1 : J pre w1 := by rw [← hw1]; exact HJ.out pre wr _ none hj (World.grownBy_alloc wr _ none) (fun r e => by cases e)
      have bl1 : Boxed w1 Bl 24 (.slice (some ad) l.length c) := by rw [← hw1]; exact hb1.out.alloc _
      have bx1 : Blk w1 Bx #[.int .i64 f, .bool up] 77 := by rw [← hw1]; exact hb2.out.alloc _
      have bv1 : Blk w1 bv #[.int .i64 v.f0, .slice A1 v.f1.length c1, .slice A2 v.f2.length c2, .int .u64 v.f3, .int .u64 v.f4, .int .i64 v.f5] 41 := by rw [← hw1, ← hbv]; exact Blk.new wr _ _
      have bw1 : Below n0 w00 w1 := by rw [← hw1]; exact hbw.out.alloc (by have := hbw.out.size; omega) _
      rw [hw1, hbv]
      clear hw1 hbv hj x0 x1 x2 x3 x4 x5
      have S1 := Aside0.mk (SpW.mk bl1 bx1 bv1 bw1 (by have := bw1.size; omega))
      clear bl1 bx1 bv1 bw1
      have cx0 := S1.out.bx.cell 0 rfl
      have cx1 := S1.out.bx.cell 1 rfl
      have cv0 := S1.out.bv.cell 0 rfl
      have cv1 := S1.out.bv.cell 1 rfl
      have cv2 := S1.out.bv.cell 2 rfl
      have cv3 := S1.out.bv.cell 3 rfl
      have cv4 := S1.out.bv.cell 4 rfl
      have cv5 := S1.out.bv.cell 5 rfl
      cases hon : onV f up v.f3 v.f4 with
      | true =>
        have HON := Aside0.mk hon
        clear hon
        cases hf : decide (frm < 0) with
        | true =>
          have hfi := of_decide_eq_true hf
          have hr2 : spF l f up (l.length - (i + 1)) (i + 1) i = rest := by
            have h := hr.out
            rw [show l.length - i = (l.length - (i + 1)) + 1 by omega, spF, HV.out, if_pos HON.out, if_pos hfi] at h
            exact h
          have HR2 := Aside0.mk hr2
          clear hr2
          gi_wp2_with fail
          refine ⟨fun _ => by omega, ?_⟩
          refine (callsIn_wide.2 (on_at HON.out _ _ _ _ _ _ _ _ h0 h1 _)).mono ?_
          rintro e w2 ⟨rfl, hb⟩
          have S2 := Aside0.mk (S1.out.below hb)
          have hj2 := HJ.out pre w1 w2 none hj1 (grown_below hb (Nat.le_refl _) _) (fun r e => by cases e)
          clear hb hj1
          gi_wp2_with fail
          go_roundw
          case rel => exact ⟨i + 1, i, pre, rest, rfl, by go_num, ⟨by omega, .inr ⟨by omega, by omega⟩⟩, hp1, HR2, hj2, ⟨S2.out.bl⟩, ⟨S2.out.bx⟩, ⟨S2.out.bw⟩⟩
          case measure => simp [intOf]; omega
        | false =>
          have hfi := of_decide_eq_false hf
          have hr2 : spF l f up (l.length - (i + 1)) (i + 1) frm = rest := by
            have h := hr.out
            rw [show l.length - i = (l.length - (i + 1)) + 1 by omega, spF, HV.out, if_pos HON.out, if_neg hfi] at h
            exact h
          have HR2 := Aside0.mk hr2
          clear hr2
          gi_wp2_with fail
          refine ⟨fun _ => by omega, ?_⟩
          refine (callsIn_wide.2 (on_at HON.out _ _ _ _ _ _ _ _ h0 h1 _)).mono ?_
          rintro e w2 ⟨rfl, hb⟩
          have S2 := Aside0.mk (S1.out.below hb)
          have hj2 := HJ.out pre w1 w2 none hj1 (grown_below hb (Nat.le_refl _) _) (fun r e => by cases e)
          clear hb hj1 cx0 cx1 cv0 cv1 cv2 cv3 cv4 cv5
          have cx0 := S2.out.bx.cell 0 rfl
          have cx1 := S2.out.bx.cell 1 rfl
          have cv0 := S2.out.bv.cell 0 rfl
          have cv1 := S2.out.bv.cell 1 rfl
          have cv2 := S2.out.bv.cell 2 rfl
          have cv3 := S2.out.bv.cell 3 rfl
          have cv4 := S2.out.bv.cell 4 rfl
          have cv5 := S2.out.bv.cell 5 rfl
          gi_wp2_with fail
          refine ⟨fun _ => by omega, ?_⟩
          refine (callsIn_wide.2 (on_at HON.out _ _ _ _ _ _ _ _ h0 h1 _)).mono ?_
          rintro e w3 ⟨rfl, hb⟩
          have S3 := Aside0.mk (S2.out.below hb)
          have hj3 := HJ.out pre w2 w3 none hj2 (grown_below hb (Nat.le_refl _) _) (fun r e => by cases e)
          clear hb hj2
          gi_wp2_with fail
          go_roundw
          case rel => exact ⟨i + 1, frm, pre, rest, rfl, by go_num, ⟨by omega, by have := hi.out.2; omega⟩, hp1, HR2, hj3, ⟨S3.out.bl⟩, ⟨S3.out.bx⟩, ⟨S3.out.bw⟩⟩
          case measure => simp [intOf]; omega
      | false =>
        have HON := Aside0.mk hon
        clear hon
        gi_wp2_with fail
        refine ⟨fun _ => by omega, ?_⟩
        refine (callsIn_wide.2 (on_at HON.out _ _ _ _ _ _ _ _ h0 h1 _)).mono ?_
        rintro e w2 ⟨rfl, hb⟩
        have S2 := Aside0.mk (S1.out.below hb)
        have hj2 := HJ.out pre w1 w2 none hj1 (grown_below hb (Nat.le_refl _) _) (fun r e => by cases e)
        clear hb hj1 cx0 cx1 cv0 cv1 cv2 cv3 cv4 cv5
        have cx0 := S2.out.bx.cell 0 rfl
        have cx1 := S2.out.bx.cell 1 rfl
        have cv0 := S2.out.bv.cell 0 rfl
        have cv1 := S2.out.bv.cell 1 rfl
        have cv2 := S2.out.bv.cell 2 rfl
        have cv3 := S2.out.bv.cell 3 rfl
        have cv4 := S2.out.bv.cell 4 rfl
        have cv5 := S2.out.bv.cell 5 rfl
        cases hf : decide (frm ≥ 0) with
        | false =>
          have hfi := of_decide_eq_false hf
          have hr2 : spF l f up (l.length - (i + 1)) (i + 1) frm = rest := by
            have h := hr.out
            rw [show l.length - i = (l.length - (i + 1)) + 1 by omega, spF, HV.out, if_neg (by rw [HON.out]; decide), if_neg hfi] at h
            exact h
          have HR2 := Aside0.mk hr2
          clear hr2
          gi_wp2_with fail
          refine ⟨fun _ => by omega, ?_⟩
          refine (callsIn_wide.2 (on_at HON.out _ _ _ _ _ _ _ _ h0 h1 _)).mono ?_
          rintro e w3 ⟨rfl, hb⟩
          have S3 := Aside0.mk (S2.out.below hb)
          have hj3 := HJ.out pre w2 w3 none hj2 (grown_below hb (Nat.le_refl _) _) (fun r e => by cases e)
          clear hb hj2
          gi_wp2_with fail
          go_roundw
          case rel => exact ⟨i + 1, frm, pre, rest, rfl, by go_num, ⟨by omega, by have := hi.out.2; omega⟩, hp1, HR2, hj3, ⟨S3.out.bl⟩, ⟨S3.out.bx⟩, ⟨S3.out.bw⟩⟩
          case measure => simp [intOf]; omega
        | true =>
          have hfi := of_decide_eq_true hf
          gi_wp2_with fail
          refine ⟨fun _ => by omega, ?_⟩
          refine (callsIn_wide.2 (on_at HON.out _ _ _ _ _ _ _ _ h0 h1 _)).mono ?_
          rintro e w3 ⟨rfl, hb⟩
          have S3 := Aside0.mk (S2.out.below hb)
          have hj3 := HJ.out pre w2 w3 none hj2 (grown_below hb (Nat.le_refl _) _) (fun r e => by cases e)
          clear hb hj2 cx0 cx1 cv0 cv1 cv2 cv3 cv4 cv5
          obtain ⟨m, rfl⟩ : ∃ m : Nat, frm = m := ⟨frm.toNat, by omega⟩
          have hmi : m < i := by have := hi.out.2; omega
          obtain ⟨rest2, hr2, rfl⟩ : ∃ rest2, spF l f up (l.length - (i + 1)) (i + 1) (-1) = rest2 ∧ rest = (⟨(rd_T41 l (m : Int)).f0, v.f0⟩, true) :: rest2 := by
            have h := hr.out
            rw [show l.length - i = (l.length - (i + 1)) + 1 by omega, spF, HV.out, if_neg (by rw [HON.out]; decide), if_pos hfi] at h
            exact ⟨_, rfl, h.symm⟩
          have HR2 := Aside0.mk hr2
          have hlen : pre.length < xs.length := by rw [hp1.out]; simp
          clear hr2 p1 q1
          gi_wp2_with fail
          obtain ⟨ad2, A1', c1', A2', c2', e2, x0, x1, x2, x3, x4, x5, hl1, hi1, hl2, hi2⟩ := at_T41 (Kd.C_below HCC.out (by rw [h00]; exact S3.out.bw)) (m : Int) (by omega) (by omega)
          cases e2
          clear hl1 hi1 hl2 hi2 x1 x2 x3 x4 x5
          have p1 : (0 ≤ (m : Int)) = True := eq_true (by omega)
          have q1 : ((m : Int) < (l.length : Int)) = True := eq_true (by omega)
          obtain ⟨ft, hft⟩ : ∃ y, (rd_T41 l (m : Int)).f0 = y := ⟨_, rfl⟩
          rw [hft, Int.toNat_natCast] at x0
          have HFT := Aside0.mk hft
          clear hft
          have cl := S3.out.bl.cell
          have cv0 := S3.out.bv.cell 0 rfl
          refine wpIn_region_quiet_tail 9 (by kernel_rfl) (by kernel_rfl) (by kernel_rfl) ?_
          simp only [List.take_succ_cons, List.take_zero, List.drop_succ_cons, List.drop_zero]
          repeat (gi_big_quiet_step (fail))
          refine wpQuietIn_nil ?_
          rintro _ ⟨nr, rfl⟩
          have hj4 := HJ.out pre w3 (w3.drewN nr) none hj3 ⟨rfl, rfl, rfl, Nat.le_refl _, fun _ _ _ => rfl⟩ (fun r e => by cases e)
          obtain ⟨fn, tmps, assign, body, hyy, hR⟩ := HY.out pre (⟨ft, v.f0⟩, true) (w3.drewN nr) hj4 hlen
          simp only [encS] at hyy
          gi_wp2
          refine ⟨fun _ => by omega, hR.mono ?_⟩
          rintro e W4 (⟨rfl, hJ4, hk4⟩ | ⟨rfl, hJx4⟩)
          · gi_wp2
            go_roundw
            case rel => exact ⟨i + 1, -1, _, rest2, rfl, by go_num, ⟨by omega, .inl rfl⟩, ⟨by rw [hp1.out, HFT.out]; simp⟩, HR2, hJ4, ⟨hk4.1.trans S3.out.bl⟩, ⟨hk4.2.1.trans S3.out.bx⟩, ⟨(pw_below_drewN S3.out.bw nr).trans hk4.2.2⟩⟩
            case measure => simp [intOf]; omega
          · gi_wp2
            refine bodyPost_ret (results_none rfl _ _ _) rfl ?_
            exact ⟨⟨_, rfl⟩, .inr ⟨_, ⟨rest2, by rw [hp1.out, HFT.out]; simp⟩, hJx4⟩⟩
    · have hle : i = l.length := by have := hi.out.1; omega
      subst hle
      have hr0 : (if frm ≥ 0 then [((⟨(rd_T41 l frm).f0, wrap64 ((rd_T41 l ((l.length : Int) - 1)).f0 + 1)⟩ : S57), false)] else []) = rest := by
        have h := hr.out
        rw [Nat.sub_self, spF] at h
        exact h
      have HR0 := Aside0.mk hr0
      clear hr0 hr
      cases hf : decide (frm ≥ 0) with
      | false =>
        gi_wp2_with fail
        go_end0
        have hn : rest = [] := by rw [← HR0.out, if_neg (of_decide_eq_false hf)]
        exact ⟨⟨_, rfl⟩, .inl ⟨xs, rfl, by rw [hp1.out, hn, List.append_nil]; exact hj⟩⟩
      | true =>
        have hfi := of_decide_eq_true hf
        obtain ⟨m, rfl⟩ : ∃ m : Nat, frm = m := ⟨frm.toNat, by omega⟩
        have hmi : m < l.length := by have := hi.out.2; omega
        have hn : rest = [(⟨(rd_T41 l (m : Int)).f0, wrap64 ((rd_T41 l ((l.length : Int) - 1)).f0 + 1)⟩, false)] := by rw [← HR0.out, if_pos hfi]
        have hlen : pre.length < xs.length := by rw [hp1.out, hn]; simp
        have HN := Aside0.mk hn
        clear hn
        gi_wp2_with fail
        obtain ⟨ad2, A1', c1', A2', c2', e2, x0, x1, x2, x3, x4, x5, hl1, hi1, hl2, hi2⟩ := at_T41 (Kd.C_below HCC.out (by rw [h00]; exact hbw.out)) (m : Int) (by omega) (by omega)
        obtain ⟨ad3, A1', c1', A2', c2', e3, y0, y1, y2, y3, y4, y5, gl1, gi1, gl2, gi2⟩ := at_T41 (Kd.C_below HCC.out (by rw [h00]; exact hbw.out)) ((l.length : Int) - 1) (by omega) (by omega)
        cases e2
        cases e3
        clear hl1 hi1 hl2 hi2 x1 x2 x3 x4 x5 y1 y2 y3 y4 y5 gl1 gi1 gl2 gi2
        have p1 : (0 ≤ (m : Int)) = True := eq_true (by omega)
        have q1 : ((m : Int) < (l.length : Int)) = True := eq_true (by omega)
        have p2 : (0 ≤ (l.length : Int) - 1) = True := eq_true (by omega)
        have p3 : (1 ≤ (l.length : Int)) = True := eq_true (by omega)
        have q2 : ((l.length : Int) - 1 < (l.length : Int)) = True := eq_true (by omega)
        obtain ⟨ft, hft⟩ : ∃ y, (rd_T41 l (m : Int)).f0 = y := ⟨_, rfl⟩
        obtain ⟨gt, hgt⟩ : ∃ y, (rd_T41 l ((l.length : Int) - 1)).f0 = y := ⟨_, rfl⟩
        rw [hft, Int.toNat_natCast] at x0
        rw [hgt] at y0
        have y1 := y0
        rw [show ((l.length : Int) - 1).toNat = l.length - 1 by omega] at y1
        have HFT := Aside0.mk hft
        have HGT := Aside0.mk hgt
        clear hft hgt
        have cl := hb1.out.cell
        refine wpIn_region_quiet_tail 15 (by kernel_rfl) (by kernel_rfl) (by kernel_rfl) ?_
        simp only [List.take_succ_cons, List.take_zero, List.drop_succ_cons, List.drop_zero]
        repeat (gi_big_quiet_step (fail))
        refine wpQuietIn_nil ?_
        rintro _ ⟨nr, rfl⟩
        have hj4 := HJ.out pre wr (wr.drewN nr) none hj ⟨rfl, rfl, rfl, Nat.le_refl _, fun _ _ _ => rfl⟩ (fun r e => by cases e)
        obtain ⟨fn, tmps, assign, body, hyy, hR⟩ := HY.out pre (⟨ft, wrap64 (gt + 1)⟩, false) (wr.drewN nr) hj4 hlen
        simp only [encS] at hyy
        gi_wp2
        refine ⟨fun _ => by omega, hR.mono ?_⟩
        rintro e W4 (⟨rfl, hJ4, hk4⟩ | ⟨rfl, hJx4⟩)
        · gi_wp2
          go_end0
          exact ⟨⟨_, rfl⟩, .inl ⟨xs, rfl, by rw [hp1.out, HN.out, HFT.out, HGT.out]; exact hJ4⟩⟩
        · gi_wp2
          go_end0
          exact ⟨⟨_, rfl⟩, .inr ⟨_, ⟨[], by rw [hp1.out, HN.out, HFT.out, HGT.out]; simp⟩, hJx4⟩⟩

end Go.Proofs.YtenlokaaloenmaaDoor.S
