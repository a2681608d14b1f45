/- Joined: report.lights, place and on, walked: the lights of a view. The iterator of (light).spells: it yields the spells of a light, and whether they have ended. The spells of a light: the reference's are the program's. The numbers of a run: lists of counts, and how they lie in memory. The reference's Count, walked: the numbers of a run. -/
import Derived.Outline
import Derived.Defers
import Derived.Recover
import Derived.StillTailTactics
import Derived.Test.YtenlokaaloenmaaDoorQuiet
import Derived.Test.YtenlokaaloenmaaDoorM3
import Derived.Test.YtenlokaaloenmaaDoorM2
import Derived.RangeFuncNested
import Derived.RangeFuncBound
import Derived.RangeFuncCalls
import Derived.RangeFuncLeaves
import Derived.RangeFuncFrom
import Derived.RangeFuncBox
import Derived.OwnWalkIn
import Derived.TacticsInMore
import Derived.LoopNIn
import Derived.LoopIn
import Derived.Sort.CutIn
import Derived.Test.YtenlokaaloenmaaDoorM4

section
set_option linter.unusedVariables false
set_option linter.unusedSimpArgs false
namespace Go.Proofs.YtenlokaaloenmaaDoor.S
open Go.RowKit Go.Proofs.YtenlokaaloenmaaDoorW.PrintWords Go.Proofs.YtenlokaaloenmaaDoorW.PrintLast Go.Proofs.YtenlokaaloenmaaDoorW.PrintMore
set_option linter.unusedVariables false
set_option linter.unusedSimpArgs false
attribute [local go_sem] Oper.semAt_some wide_fn wideR_fn
attribute [local simp] wide_fn wideR_fn

/-- A block of known cells. -/
def Blk (w : World) (B : Nat) (cs : Array Value) (t : TypeId) : Prop := w.heap[B]? = some (.cells cs t (0, 0))
theorem Blk.cell {w : World} {B : Nat} {cs : Array Value} {t : TypeId} (h : Blk w B cs t) (i : Nat) {v : Value} (hv : cs[i]? = some v) : w.cell? ⟨B, i, none⟩ = some v := by unfold Blk at h; simp [World.cell?, h, hv]
theorem Blk.fr {w : World} {B : Nat} {cs : Array Value} {t : TypeId} (h : Blk w B cs t) (o : Nat) : w.frozen? ⟨B, o, none⟩ = false := by unfold Blk at h; simp [World.frozen?, h]
theorem Blk.lt {w : World} {B : Nat} {cs : Array Value} {t : TypeId} (h : Blk w B cs t) : B < w.heap.size := (Array.getElem?_eq_some_iff.1 h).1
theorem Blk.below {w w' : World} {B n : Nat} {cs : Array Value} {t : TypeId} (h : Blk w B cs t) (hb : Below n w w') (hn : B < n) : Blk w' B cs t := (hb.block B hn).trans h
theorem Blk.alloc {w : World} {B : Nat} {cs : Array Value} {t : TypeId} (h : Blk w B cs t) (o : Obj) : Blk (w.alloc o) B cs t := (Below.heap_alloc w o B h.lt).trans h
theorem Blk.drewN {w : World} {B : Nat} {cs : Array Value} {t : TypeId} (h : Blk w B cs t) (n : Nat) : Blk (w.drewN n) B cs t := h
theorem Blk.new (w : World) (cs : Array Value) (t : TypeId) : Blk (w.alloc (.cells cs t)) w.heap.size cs t := heap_alloc_new w _
theorem Blk.far {w : World} {B : Nat} {cs : Array Value} {t : TypeId} (h : Blk w B cs t) (a : Addr) (u : Value) (hne : ¬ B = a.block) : Blk (w.setCell a u) B cs t := (Below.heap_setCell w a u B hne).trans h
theorem Blk.set {w : World} {B : Nat} {cs : Array Value} {t : TypeId} (h : Blk w B cs t) (i : Nat) (u : Value) : Blk (w.setCell ⟨B, i, none⟩ u) B (cs.setIfInBounds i u) t := by
  unfold Blk at h ⊢
  obtain ⟨hl, he⟩ := Array.getElem?_eq_some_iff.1 h
  simp [World.setCell, hl, Array.getElem_modify, he, Array.getElem_modify]

set_option maxHeartbeats 1000000 in
set_option maxRecDepth 100000 in
theorem lights_any (t u d wd : Int) (A1 : Option Addr) (n1 c1 : Nat) (A2 : Option Addr) (n2 c2 : Nat) (w : World) :
    Calls Tryd.prog 48 #[.agg #[.int .i64 t, .slice A1 n1 c1, .slice A2 n2 c2, .int .u64 u, .int .u64 d, .int .i64 wd]] w fun e w' => e = .returned (.agg #[.int .u64 u, .int .u64 d]) ∧ Below w.heap.size w w' := by
  have hu41 := Tryd.underlying41
  have hu85 := Tryd.underlying85
  go_enter Tryd.func48, Tryd.ntmps48
  go_wp2_with fail
  have hn := Blk.new (w.alloc (.cells #[.int .i64 t, .slice A1 n1 c1, .slice A2 n2 c2, .int .u64 u, .int .u64 d, .int .i64 wd] 41)) #[.int .u64 u, .int .u64 d] 85
  rw [World.size_alloc] at hn
  have c0 := hn.cell 0 rfl
  have c1 := hn.cell 1 rfl
  refine bodyPost_ret (v := .agg #[.int .u64 u, .int .u64 d]) ?_ rfl ⟨rfl, ((Below.refl _ w).alloc (Nat.le_refl _) _).alloc (by simp) _⟩
  simp [results, Tryd.results48, go_sem, c0, c1, hu85]

set_option maxHeartbeats 1000000 in
set_option maxRecDepth 100000 in
theorem place_any (f : Int) (u : Bool) (w : World) :
    Calls Tryd.prog 54 #[.agg #[.int .i64 f, .bool u]] w fun e w' => e = .returned (.int .i64 (if u = true then 0 else 1)) ∧ Below w.heap.size w w' := by
  have hu77 := Tryd.underlying77
  cases u with
  | true =>
    go_enter Tryd.func54, Tryd.ntmps54
    go_wp2_with fail
    go_ret
    exact ⟨rfl, (Below.refl _ w).alloc (Nat.le_refl _) _⟩
  | false =>
    go_enter Tryd.func54, Tryd.ntmps54
    go_wp2_with fail
    go_ret
    exact ⟨rfl, (Below.refl _ w).alloc (Nat.le_refl _) _⟩

theorem place_true (f : Int) (w : World) : Calls Tryd.prog 54 #[.agg #[.int .i64 f, .bool true]] w fun e w' => e = .returned (.int .i64 0) ∧ Below w.heap.size w w' := place_any f true w
theorem place_false (f : Int) (w : World) : Calls Tryd.prog 54 #[.agg #[.int .i64 f, .bool false]] w fun e w' => e = .returned (.int .i64 1) ∧ Below w.heap.size w w' := place_any f false w

/-- Whether a light is on in two sets of lights. -/
def onV (f : Int) (up : Bool) (u d : Int) : Bool := (Go.bits .and .u64 ((if up = true then u else d) / 2 ^ f.toNat) 1) == 1

theorem index0 (u d : Int) (w : World) : (Instr.index 85 (.agg #[.int .u64 u, .int .u64 d]) (.int .i64 0)).run Tryd.prog w = .ok (.int .u64 u) w := by
  have hz : (sizeOf 39).run Tryd.prog w = .ok 1 w := by kernel_rfl
  simp [Instr.index, run_underlying Tryd.underlying85, asIntOf, hz, part, go_sem]
theorem index1 (u d : Int) (w : World) : (Instr.index 85 (.agg #[.int .u64 u, .int .u64 d]) (.int .i64 1)).run Tryd.prog w = .ok (.int .u64 d) w := by
  have hz : (sizeOf 39).run Tryd.prog w = .ok 1 w := by kernel_rfl
  simp [Instr.index, run_underlying Tryd.underlying85, asIntOf, hz, part, go_sem]

set_option maxHeartbeats 4000000 in
set_option maxRecDepth 100000 in
theorem on_any (f : Int) (up : Bool) (t u d wd : Int) (A1 : Option Addr) (n1 c1 : Nat) (A2 : Option Addr) (n2 c2 : Nat) (h0 : 0 ≤ f) (h1 : f ≤ 63) (w : World) :
    Calls Tryd.prog 52 #[.agg #[.int .i64 f, .bool up], .agg #[.int .i64 t, .slice A1 n1 c1, .slice A2 n2 c2, .int .u64 u, .int .u64 d, .int .i64 wd]] w fun e w' => e = .returned (.bool (onV f up u d)) ∧ Below w.heap.size w w' := by
  have hu41 := Tryd.underlying41
  have hu77 := Tryd.underlying77
  have hu85 := Tryd.underlying85
  go_enter Tryd.func52, Tryd.ntmps52
  go_wp2_with fail
  obtain ⟨wa, hwa⟩ : ∃ x, (w.alloc (.cells #[.int .i64 f, .bool up] 77)).alloc (.cells #[.int .i64 t, .slice A1 n1 c1, .slice A2 n2 c2, .int .u64 u, .int .u64 d, .int .i64 wd] 41) = x := ⟨_, rfl⟩
  have ha1 : Blk wa w.heap.size #[.int .i64 f, .bool up] 77 := by rw [← hwa]; exact (Blk.new w _ _).alloc _
  have ha2 : Blk wa (w.heap.size + 1) #[.int .i64 t, .slice A1 n1 c1, .slice A2 n2 c2, .int .u64 u, .int .u64 d, .int .i64 wd] 41 := by
    have := Blk.new (w.alloc (.cells #[.int .i64 f, .bool up] 77)) #[.int .i64 t, .slice A1 n1 c1, .slice A2 n2 c2, .int .u64 u, .int .u64 d, .int .i64 wd] 41
    rw [World.size_alloc] at this; rw [← hwa]; exact this
  have hB : Below w.heap.size w wa := by rw [← hwa]; exact ((Below.refl _ w).alloc (Nat.le_refl _) _).alloc (by simp) _
  rw [hwa]
  clear hwa
  have f0 := ha1.cell 0 rfl
  have f1 := ha1.cell 1 rfl
  have v0 := ha2.cell 0 rfl
  have v1 := ha2.cell 1 rfl
  have v2 := ha2.cell 2 rfl
  have v3 := ha2.cell 3 rfl
  have v4 := ha2.cell 4 rfl
  have v5 := ha2.cell 5 rfl
  have l1 := ha1.lt
  have l2 := ha2.lt
  have HB := Aside0.mk hB
  clear hB
  have f0 : ∀ p : GB, (mkW wa p).cell? ⟨w.heap.size, 0, none⟩ = some (.int .i64 f) := mkW_cell (ha1.cell 0 rfl)
  have f1 : ∀ p : GB, (mkW wa p).cell? ⟨w.heap.size, 1, none⟩ = some (.bool up) := mkW_cell (ha1.cell 1 rfl)
  have v0 : ∀ p : GB, (mkW wa p).cell? ⟨w.heap.size + 1, 0, none⟩ = some (.int .i64 t) := mkW_cell (ha2.cell 0 rfl)
  have v1 : ∀ p : GB, (mkW wa p).cell? ⟨w.heap.size + 1, 1, none⟩ = some (.slice A1 n1 c1) := mkW_cell (ha2.cell 1 rfl)
  have v2 : ∀ p : GB, (mkW wa p).cell? ⟨w.heap.size + 1, 2, none⟩ = some (.slice A2 n2 c2) := mkW_cell (ha2.cell 2 rfl)
  have v3 : ∀ p : GB, (mkW wa p).cell? ⟨w.heap.size + 1, 3, none⟩ = some (.int .u64 u) := mkW_cell (ha2.cell 3 rfl)
  have v4 : ∀ p : GB, (mkW wa p).cell? ⟨w.heap.size + 1, 4, none⟩ = some (.int .u64 d) := mkW_cell (ha2.cell 4 rfl)
  have v5 : ∀ p : GB, (mkW wa p).cell? ⟨w.heap.size + 1, 5, none⟩ = some (.int .i64 wd) := mkW_cell (ha2.cell 5 rfl)
  clear ha1 ha2
  have i0 := index0 u d
  have i1 := index1 u d
  rw [← wpIn_wide (n := 9)]
  cases up with
  | true =>
    refine wpIn_region_below (by kernel_rfl) (by kernel_rfl) (by kernel_rfl) ?_
    repeat (first | gi_big_quiet_step (first | (gi_at_call 48; exact CallsIn.below_of (callsIn_wide.2 (lights_any t u d wd A1 n1 c1 A2 n2 c2 _))) | (gi_at_call 54; exact CallsIn.below_of (callsIn_wide.2 (place_true f _)))) | quiet_step_in (fail))
    refine wpQuietIn_nil ?_
    rintro _ ⟨p, rfl⟩
    go_wp2_with fail
    go_ret
    exact ⟨rfl, HB.out.trans ((mkW_below wa p).mono HB.out.size)⟩
  | false =>
    refine wpIn_region_below (by kernel_rfl) (by kernel_rfl) (by kernel_rfl) ?_
    repeat (first | gi_big_quiet_step (first | (gi_at_call 48; exact CallsIn.below_of (callsIn_wide.2 (lights_any t u d wd A1 n1 c1 A2 n2 c2 _))) | (gi_at_call 54; exact CallsIn.below_of (callsIn_wide.2 (place_false f _)))) | quiet_step_in (fail))
    refine wpQuietIn_nil ?_
    rintro _ ⟨p, rfl⟩
    go_wp2_with fail
    go_ret
    exact ⟨rfl, HB.out.trans ((mkW_below wa p).mono HB.out.size)⟩

end Go.Proofs.YtenlokaaloenmaaDoor.S

namespace Go.Proofs.YtenlokaaloenmaaDoor.S
open Go.RowKit Go.Proofs.YtenlokaaloenmaaDoorW.PrintWords Go.Proofs.YtenlokaaloenmaaDoorW.PrintLast Go.Proofs.YtenlokaaloenmaaDoorW.PrintMore
attribute [local go_sem] Oper.semAt_some wide_fn wideR_fn
attribute [local simp] wide_fn wideR_fn

/-- The spells of a light, from a view on: so many views are left, this is the next one, since when the light is on (-1: it is off). -/
def spF (l : List S41) (f : Int) (up : Bool) : Nat → Nat → Int → List (S57 × Bool)
  | 0, _, frm => if frm ≥ 0 then [(⟨(rd_T41 l frm).f0, wrap64 ((rd_T41 l ((l.length : Int) - 1)).f0 + 1)⟩, false)] else []
  | d + 1, i, frm =>
    if onV f up (rd_T41 l i).f3 (rd_T41 l i).f4 = true then (if frm < 0 then spF l f up d (i + 1) i else spF l f up d (i + 1) frm)
    else if frm ≥ 0 then (⟨(rd_T41 l frm).f0, (rd_T41 l i).f0⟩, true) :: spF l f up d (i + 1) (-1) else spF l f up d (i + 1) frm

def encS (x : S57 × Bool) : Array Value := #[.agg #[.int .i64 x.1.f0, .int .i64 x.1.f1], .bool x.2]

/-- What a round must keep: the two variables of the iterator, and whatever lay when the caller began. -/
def Keep3 (n0 b1 b2 : Nat) (W W' : World) : Prop := W'.heap[b1]? = W.heap[b1]? ∧ W'.heap[b2]? = W.heap[b2]? ∧ Below n0 W W'
theorem grown_below {w w' : World} {n : Nat} (h : Below n w w') (hn : w.heap.size ≤ n) (row : Option Nat) : w.grownBy w' row := ⟨h.os, h.tape, h.output, h.size, fun k hk _ => h.block k (by omega)⟩

theorem spells_any (f : Int) (up : Bool) (A : Option Addr) (n c : Nat) (w : World) : Calls Tryd.prog 40 #[.agg #[.int .i64 f, .bool up], .slice A n c] w fun e w' =>
    e = .returned (.func (.func 51) #[] #[.pointer (some ⟨w.heap.size + 1, 0, none⟩), .pointer (some ⟨w.heap.size, 0, none⟩)]) ∧ w' = (w.alloc (.cells #[.int .i64 f, .bool up] 77)).alloc (.cells #[.slice A n c] 24) := by
  have hmf : ∀ (fn : Fn) (first cap : Array Value) (w : World), (Instr.makeFunc fn first cap).run Tryd.prog w = .ok (.func fn first cap) w := fun _ _ _ _ => rfl
  go_enter Tryd.func40, Tryd.ntmps40
  go_wp2
  go_ret
  exact ⟨rfl, rfl⟩

theorem on_at {f : Int} {up : Bool} {u d : Int} {b : Bool} (hb : onV f up u d = b) (t wd : Int) (A1 : Option Addr) (n1 c1 : Nat) (A2 : Option Addr) (n2 c2 : Nat) (h0 : 0 ≤ f) (h1 : f ≤ 63) (w : World) :
    Calls Tryd.prog 52 #[.agg #[.int .i64 f, .bool up], .agg #[.int .i64 t, .slice A1 n1 c1, .slice A2 n2 c2, .int .u64 u, .int .u64 d, .int .i64 wd]] w fun e w' => e = .returned (.bool b) ∧ Below w.heap.size w w' := by
  rw [← hb]; exact on_any f up t u d wd A1 n1 c1 A2 n2 c2 h0 h1 w

/-- What holds in a round. -/
structure SpW (n0 Bl Bx bv : Nat) (A : Option Addr) (n c : Nat) (f : Int) (up : Bool) (cv : Array Value) (w00 W : World) : Prop where
  bl : Boxed W Bl 24 (.slice A n c)
  bx : Blk W Bx #[.int .i64 f, .bool up] 77
  bv : Blk W bv cv 41
  bw : Below n0 w00 W
  sz : n0 ≤ W.heap.size
theorem SpW.below {n0 Bl Bx bv : Nat} {A : Option Addr} {n c : Nat} {f : Int} {up : Bool} {cv : Array Value} {w00 W W' : World} (h : SpW n0 Bl Bx bv A n c f up cv w00 W) (hb : Below W.heap.size W W') : SpW n0 Bl Bx bv A n c f up cv w00 W' :=
  ⟨(hb.block Bl h.bl.lt).trans h.bl, h.bx.below hb h.bx.lt, h.bv.below hb h.bv.lt, h.bw.trans (hb.mono h.sz), Nat.le_trans h.sz hb.size⟩

set_option maxHeartbeats 4000000 in
set_option maxRecDepth 100000 in
theorem spells_stops (n : Nat) (hn : 2 ≤ n) (n0 Bl Bx : Nat) (hl : n0 ≤ Bl) (hx : n0 ≤ Bx) (A : Option Addr) (c : Nat) (l : List S41) (hc : l.length ≤ c) (f : Int) (up : Bool) (h0 : 0 ≤ f) (h1 : f ≤ 63) (w00 : World) (h00 : w00.heap.size = n0) (hC : k41.C w00 A l.length l)
    (xs : List (S57 × Bool)) (hxs : spF l f up l.length 0 (-1) = xs) (w : World) (hBl : Boxed w Bl 24 (.slice A l.length c)) (hBx : Blk w Bx #[.int .i64 f, .bool up] 77) (hw : Below n0 w00 w) :
    SeqStopsK Fence.wide n Tryd.prog 51 #[.pointer (some ⟨Bl, 0, none⟩), .pointer (some ⟨Bx, 0, none⟩)] encS (Keep3 n0 Bl Bx) (fun ys => ys = xs) (fun pre => pre <+: xs) xs.length w := by
  intro lp J Jx W hW hJ hJx hY hj0
  have hu41 := Tryd.underlying41
  have hu77 := Tryd.underlying77
  have bBl : Boxed W Bl 24 (.slice A l.length c) := (hW.block Bl hBl.lt).trans hBl
  have bBx : Blk W Bx #[.int .i64 f, .bool up] 77 := (hW.block Bx hBx.lt).trans hBx
  have bW : Below n0 w00 W := hw.trans (hW.mono (by have := hw.size; omega))
  have hmax := Kd.C_max hC
  have cBl := bBl.cell
  have HJ := Aside0.mk hJ
  have HY := Aside0.mk hY
  have HCC := Aside0.mk hC
  have HXS := Aside0.mk hxs
  have BW := Aside0.mk bW
  have BL := Aside0.mk bBl
  have BX := Aside0.mk bBx
  clear hJ hJx hY hC hxs bW bBl bBx hW hBl hBx hw
  refine callsIn_of_wp Tryd.func51 rfl trivial ?_ rfl
  simp only [Tryd.ntmps51, List.size_toArray, List.length_cons, List.length_nil, Nat.reduceAdd, Nat.reduceSub, Array.replicate_succ, Array.replicate_zero, List.push_toArray, List.append_toArray, List.nil_append, List.cons_append]
  gi_wp2
  clear cBl
  gi_loopw [4, 9] (fun v4 v9 wr => ∃ (i : Nat) (frm : Int) (pre rest : List (S57 × Bool)), v4 = .int .i64 frm ∧ v9 = .int .i64 i ∧ Aside0 (i ≤ l.length ∧ (frm = -1 ∨ (0 ≤ frm ∧ frm < i))) ∧ Aside0 (xs = pre ++ rest) ∧ Aside0 (spF l f up (l.length - i) i frm = rest) ∧ J pre wr ∧ Aside0 (Boxed wr Bl 24 (.slice A l.length c)) ∧ Aside0 (Blk wr Bx #[.int .i64 f, .bool up] 77) ∧ Aside0 (Below n0 w00 wr))
    (fun _ v9 _ => l.length - (intOf v9).toNat)
  case atStart => exact ⟨0, -1, [], xs, rfl, rfl, ⟨by omega, .inl rfl⟩, ⟨rfl⟩, HXS, hj0, BL, BX, BW⟩
  case round =>
    obtain ⟨i, frm, pre, rest, rfl, rfl, hi, hp1, hr, hj, hb1, hb2, hbw⟩ := hrel
    by_cases hlt : i < l.length
    · obtain ⟨ad, A1, c1, A2, c2, e, x0, x1, x2, x3, x4, x5, hl1, hi1, hl2, hi2⟩ := at_T41 (Kd.C_below HCC.out (by rw [h00]; exact hbw.out)) (i : Int) (by omega) (by omega)
      cases e
      clear hl1 hi1 hl2 hi2
      have p1 : (0 ≤ (i : Int)) = True := eq_true (by omega)
      have q1 : ((i : Int) < (l.length : Int)) = True := eq_true (by omega)
      obtain ⟨v, hv⟩ : ∃ v, rd_T41 l (i : Int) = v := ⟨_, rfl⟩
      rw [hv, Int.toNat_natCast] at x0 x1 x2 x3 x4 x5
      have HV := Aside0.mk hv
      clear hv
      gi_upto_region 4 with (fail)
      obtain ⟨w1, hw1⟩ : ∃ x, wr.alloc (.cells #[.int .i64 v.f0, .slice A1 v.f1.length c1, .slice A2 v.f2.length c2, .int .u64 v.f3, .int .u64 v.f4, .int .i64 v.f5] 41) = x := ⟨_, rfl⟩
      obtain ⟨bv, hbv⟩ : ∃ x, wr.heap.size = x := ⟨_, rfl⟩
      have hj1 : J pre w1 := by rw [← hw1]; exact HJ.out pre wr _ none hj (World.grownBy_alloc wr _ none) (fun r e => by cases e)
      have bl1 : Boxed w1 Bl 24 (.slice (some ad) l.length c) := by rw [← hw1]; exact hb1.out.alloc _
      have bx1 : Blk w1 Bx #[.int .i64 f, .bool up] 77 := by rw [← hw1]; exact hb2.out.alloc _
      have bv1 : Blk w1 bv #[.int .i64 v.f0, .slice A1 v.f1.length c1, .slice A2 v.f2.length c2, .int .u64 v.f3, .int .u64 v.f4, .int .i64 v.f5] 41 := by rw [← hw1, ← hbv]; exact Blk.new wr _ _
      have bw1 : Below n0 w00 w1 := by rw [← hw1]; exact hbw.out.alloc (by have := hbw.out.size; omega) _
      rw [hw1, hbv]
      clear hw1 hbv hj x0 x1 x2 x3 x4 x5
      have S1 := Aside0.mk (SpW.mk bl1 bx1 bv1 bw1 (by have := bw1.size; omega))
      clear bl1 bx1 bv1 bw1
      have cx0 := S1.out.bx.cell 0 rfl
      have cx1 := S1.out.bx.cell 1 rfl
      have cv0 := S1.out.bv.cell 0 rfl
      have cv1 := S1.out.bv.cell 1 rfl
      have cv2 := S1.out.bv.cell 2 rfl
      have cv3 := S1.out.bv.cell 3 rfl
      have cv4 := S1.out.bv.cell 4 rfl
      have cv5 := S1.out.bv.cell 5 rfl
      cases hon : onV f up v.f3 v.f4 with
      | true =>
        have HON := Aside0.mk hon
        clear hon
        cases hf : decide (frm < 0) with
        | true =>
          have hfi := of_decide_eq_true hf
          have hr2 : spF l f up (l.length - (i + 1)) (i + 1) i = rest := by
            have h := hr.out
            rw [show l.length - i = (l.length - (i + 1)) + 1 by omega, spF, HV.out, if_pos HON.out, if_pos hfi] at h
            exact h
          have HR2 := Aside0.mk hr2
          clear hr2
          gi_wp2_with fail
          refine ⟨fun _ => by omega, ?_⟩
          refine (callsIn_wide.2 (on_at HON.out _ _ _ _ _ _ _ _ h0 h1 _)).mono ?_
          rintro e w2 ⟨rfl, hb⟩
          have S2 := Aside0.mk (S1.out.below hb)
          have hj2 := HJ.out pre w1 w2 none hj1 (grown_below hb (Nat.le_refl _) _) (fun r e => by cases e)
          clear hb hj1
          gi_wp2_with fail
          go_roundw
          case rel => exact ⟨i + 1, i, pre, rest, rfl, by go_num, ⟨by omega, .inr ⟨by omega, by omega⟩⟩, hp1, HR2, hj2, ⟨S2.out.bl⟩, ⟨S2.out.bx⟩, ⟨S2.out.bw⟩⟩
          case measure => simp [intOf]; omega
        | false =>
          have hfi := of_decide_eq_false hf
          have hr2 : spF l f up (l.length - (i + 1)) (i + 1) frm = rest := by
            have h := hr.out
            rw [show l.length - i = (l.length - (i + 1)) + 1 by omega, spF, HV.out, if_pos HON.out, if_neg hfi] at h
            exact h
          have HR2 := Aside0.mk hr2
          clear hr2
          gi_wp2_with fail
          refine ⟨fun _ => by omega, ?_⟩
          refine (callsIn_wide.2 (on_at HON.out _ _ _ _ _ _ _ _ h0 h1 _)).mono ?_
          rintro e w2 ⟨rfl, hb⟩
          have S2 := Aside0.mk (S1.out.below hb)
          have hj2 := HJ.out pre w1 w2 none hj1 (grown_below hb (Nat.le_refl _) _) (fun r e => by cases e)
          clear hb hj1 cx0 cx1 cv0 cv1 cv2 cv3 cv4 cv5
          have cx0 := S2.out.bx.cell 0 rfl
          have cx1 := S2.out.bx.cell 1 rfl
          have cv0 := S2.out.bv.cell 0 rfl
          have cv1 := S2.out.bv.cell 1 rfl
          have cv2 := S2.out.bv.cell 2 rfl
          have cv3 := S2.out.bv.cell 3 rfl
          have cv4 := S2.out.bv.cell 4 rfl
          have cv5 := S2.out.bv.cell 5 rfl
          gi_wp2_with fail
          refine ⟨fun _ => by omega, ?_⟩
          refine (callsIn_wide.2 (on_at HON.out _ _ _ _ _ _ _ _ h0 h1 _)).mono ?_
          rintro e w3 ⟨rfl, hb⟩
          have S3 := Aside0.mk (S2.out.below hb)
          have hj3 := HJ.out pre w2 w3 none hj2 (grown_below hb (Nat.le_refl _) _) (fun r e => by cases e)
          clear hb hj2
          gi_wp2_with fail
          go_roundw
          case rel => exact ⟨i + 1, frm, pre, rest, rfl, by go_num, ⟨by omega, by have := hi.out.2; omega⟩, hp1, HR2, hj3, ⟨S3.out.bl⟩, ⟨S3.out.bx⟩, ⟨S3.out.bw⟩⟩
          case measure => simp [intOf]; omega
      | false =>
        have HON := Aside0.mk hon
        clear hon
        gi_wp2_with fail
        refine ⟨fun _ => by omega, ?_⟩
        refine (callsIn_wide.2 (on_at HON.out _ _ _ _ _ _ _ _ h0 h1 _)).mono ?_
        rintro e w2 ⟨rfl, hb⟩
        have S2 := Aside0.mk (S1.out.below hb)
        have hj2 := HJ.out pre w1 w2 none hj1 (grown_below hb (Nat.le_refl _) _) (fun r e => by cases e)
        clear hb hj1 cx0 cx1 cv0 cv1 cv2 cv3 cv4 cv5
        have cx0 := S2.out.bx.cell 0 rfl
        have cx1 := S2.out.bx.cell 1 rfl
        have cv0 := S2.out.bv.cell 0 rfl
        have cv1 := S2.out.bv.cell 1 rfl
        have cv2 := S2.out.bv.cell 2 rfl
        have cv3 := S2.out.bv.cell 3 rfl
        have cv4 := S2.out.bv.cell 4 rfl
        have cv5 := S2.out.bv.cell 5 rfl
        cases hf : decide (frm ≥ 0) with
        | false =>
          have hfi := of_decide_eq_false hf
          have hr2 : spF l f up (l.length - (i + 1)) (i + 1) frm = rest := by
            have h := hr.out
            rw [show l.length - i = (l.length - (i + 1)) + 1 by omega, spF, HV.out, if_neg (by rw [HON.out]; decide), if_neg hfi] at h
            exact h
          have HR2 := Aside0.mk hr2
          clear hr2
          gi_wp2_with fail
          refine ⟨fun _ => by omega, ?_⟩
          refine (callsIn_wide.2 (on_at HON.out _ _ _ _ _ _ _ _ h0 h1 _)).mono ?_
          rintro e w3 ⟨rfl, hb⟩
          have S3 := Aside0.mk (S2.out.below hb)
          have hj3 := HJ.out pre w2 w3 none hj2 (grown_below hb (Nat.le_refl _) _) (fun r e => by cases e)
          clear hb hj2
          gi_wp2_with fail
          go_roundw
          case rel => exact ⟨i + 1, frm, pre, rest, rfl, by go_num, ⟨by omega, by have := hi.out.2; omega⟩, hp1, HR2, hj3, ⟨S3.out.bl⟩, ⟨S3.out.bx⟩, ⟨S3.out.bw⟩⟩
          case measure => simp [intOf]; omega
        | true =>
          have hfi := of_decide_eq_true hf
          gi_wp2_with fail
          refine ⟨fun _ => by omega, ?_⟩
          refine (callsIn_wide.2 (on_at HON.out _ _ _ _ _ _ _ _ h0 h1 _)).mono ?_
          rintro e w3 ⟨rfl, hb⟩
          have S3 := Aside0.mk (S2.out.below hb)
          have hj3 := HJ.out pre w2 w3 none hj2 (grown_below hb (Nat.le_refl _) _) (fun r e => by cases e)
          clear hb hj2 cx0 cx1 cv0 cv1 cv2 cv3 cv4 cv5
          obtain ⟨m, rfl⟩ : ∃ m : Nat, frm = m := ⟨frm.toNat, by omega⟩
          have hmi : m < i := by have := hi.out.2; omega
          obtain ⟨rest2, hr2, rfl⟩ : ∃ rest2, spF l f up (l.length - (i + 1)) (i + 1) (-1) = rest2 ∧ rest = (⟨(rd_T41 l (m : Int)).f0, v.f0⟩, true) :: rest2 := by
            have h := hr.out
            rw [show l.length - i = (l.length - (i + 1)) + 1 by omega, spF, HV.out, if_neg (by rw [HON.out]; decide), if_pos hfi] at h
            exact ⟨_, rfl, h.symm⟩
          have HR2 := Aside0.mk hr2
          have hlen : pre.length < xs.length := by rw [hp1.out]; simp
          clear hr2 p1 q1
          gi_wp2_with fail
          obtain ⟨ad2, A1', c1', A2', c2', e2, x0, x1, x2, x3, x4, x5, hl1, hi1, hl2, hi2⟩ := at_T41 (Kd.C_below HCC.out (by rw [h00]; exact S3.out.bw)) (m : Int) (by omega) (by omega)
          cases e2
          clear hl1 hi1 hl2 hi2 x1 x2 x3 x4 x5
          have p1 : (0 ≤ (m : Int)) = True := eq_true (by omega)
          have q1 : ((m : Int) < (l.length : Int)) = True := eq_true (by omega)
          obtain ⟨ft, hft⟩ : ∃ y, (rd_T41 l (m : Int)).f0 = y := ⟨_, rfl⟩
          rw [hft, Int.toNat_natCast] at x0
          have HFT := Aside0.mk hft
          clear hft
          have cl := S3.out.bl.cell
          have cv0 := S3.out.bv.cell 0 rfl
          refine wpIn_region_quiet_tail 9 (by kernel_rfl) (by kernel_rfl) (by kernel_rfl) ?_
          simp only [List.take_succ_cons, List.take_zero, List.drop_succ_cons, List.drop_zero]
          repeat (gi_big_quiet_step (fail))
          refine wpQuietIn_nil ?_
          rintro _ ⟨nr, rfl⟩
          have hj4 := HJ.out pre w3 (w3.drewN nr) none hj3 ⟨rfl, rfl, rfl, Nat.le_refl _, fun _ _ _ => rfl⟩ (fun r e => by cases e)
          obtain ⟨fn, tmps, assign, body, hyy, hR⟩ := HY.out pre (⟨ft, v.f0⟩, true) (w3.drewN nr) hj4 hlen
          simp only [encS] at hyy
          gi_wp2
          refine ⟨fun _ => by omega, hR.mono ?_⟩
          rintro e W4 (⟨rfl, hJ4, hk4⟩ | ⟨rfl, hJx4⟩)
          · gi_wp2
            go_roundw
            case rel => exact ⟨i + 1, -1, _, rest2, rfl, by go_num, ⟨by omega, .inl rfl⟩, ⟨by rw [hp1.out, HFT.out]; simp⟩, HR2, hJ4, ⟨hk4.1.trans S3.out.bl⟩, ⟨hk4.2.1.trans S3.out.bx⟩, ⟨(pw_below_drewN S3.out.bw nr).trans hk4.2.2⟩⟩
            case measure => simp [intOf]; omega
          · gi_wp2
            refine bodyPost_ret (results_none rfl _ _ _) rfl ?_
            exact ⟨⟨_, rfl⟩, .inr ⟨_, ⟨rest2, by rw [hp1.out, HFT.out]; simp⟩, hJx4⟩⟩
    · have hle : i = l.length := by have := hi.out.1; omega
      subst hle
      have hr0 : (if frm ≥ 0 then [((⟨(rd_T41 l frm).f0, wrap64 ((rd_T41 l ((l.length : Int) - 1)).f0 + 1)⟩ : S57), false)] else []) = rest := by
        have h := hr.out
        rw [Nat.sub_self, spF] at h
        exact h
      have HR0 := Aside0.mk hr0
      clear hr0 hr
      cases hf : decide (frm ≥ 0) with
      | false =>
        gi_wp2_with fail
        go_end0
        have hn : rest = [] := by rw [← HR0.out, if_neg (of_decide_eq_false hf)]
        exact ⟨⟨_, rfl⟩, .inl ⟨xs, rfl, by rw [hp1.out, hn, List.append_nil]; exact hj⟩⟩
      | true =>
        have hfi := of_decide_eq_true hf
        obtain ⟨m, rfl⟩ : ∃ m : Nat, frm = m := ⟨frm.toNat, by omega⟩
        have hmi : m < l.length := by have := hi.out.2; omega
        have hn : rest = [(⟨(rd_T41 l (m : Int)).f0, wrap64 ((rd_T41 l ((l.length : Int) - 1)).f0 + 1)⟩, false)] := by rw [← HR0.out, if_pos hfi]
        have hlen : pre.length < xs.length := by rw [hp1.out, hn]; simp
        have HN := Aside0.mk hn
        clear hn
        gi_wp2_with fail
        obtain ⟨ad2, A1', c1', A2', c2', e2, x0, x1, x2, x3, x4, x5, hl1, hi1, hl2, hi2⟩ := at_T41 (Kd.C_below HCC.out (by rw [h00]; exact hbw.out)) (m : Int) (by omega) (by omega)
        obtain ⟨ad3, A1', c1', A2', c2', e3, y0, y1, y2, y3, y4, y5, gl1, gi1, gl2, gi2⟩ := at_T41 (Kd.C_below HCC.out (by rw [h00]; exact hbw.out)) ((l.length : Int) - 1) (by omega) (by omega)
        cases e2
        cases e3
        clear hl1 hi1 hl2 hi2 x1 x2 x3 x4 x5 y1 y2 y3 y4 y5 gl1 gi1 gl2 gi2
        have p1 : (0 ≤ (m : Int)) = True := eq_true (by omega)
        have q1 : ((m : Int) < (l.length : Int)) = True := eq_true (by omega)
        have p2 : (0 ≤ (l.length : Int) - 1) = True := eq_true (by omega)
        have p3 : (1 ≤ (l.length : Int)) = True := eq_true (by omega)
        have q2 : ((l.length : Int) - 1 < (l.length : Int)) = True := eq_true (by omega)
        obtain ⟨ft, hft⟩ : ∃ y, (rd_T41 l (m : Int)).f0 = y := ⟨_, rfl⟩
        obtain ⟨gt, hgt⟩ : ∃ y, (rd_T41 l ((l.length : Int) - 1)).f0 = y := ⟨_, rfl⟩
        rw [hft, Int.toNat_natCast] at x0
        rw [hgt] at y0
        have y1 := y0
        rw [show ((l.length : Int) - 1).toNat = l.length - 1 by omega] at y1
        have HFT := Aside0.mk hft
        have HGT := Aside0.mk hgt
        clear hft hgt
        have cl := hb1.out.cell
        refine wpIn_region_quiet_tail 15 (by kernel_rfl) (by kernel_rfl) (by kernel_rfl) ?_
        simp only [List.take_succ_cons, List.take_zero, List.drop_succ_cons, List.drop_zero]
        repeat (gi_big_quiet_step (fail))
        refine wpQuietIn_nil ?_
        rintro _ ⟨nr, rfl⟩
        have hj4 := HJ.out pre wr (wr.drewN nr) none hj ⟨rfl, rfl, rfl, Nat.le_refl _, fun _ _ _ => rfl⟩ (fun r e => by cases e)
        obtain ⟨fn, tmps, assign, body, hyy, hR⟩ := HY.out pre (⟨ft, wrap64 (gt + 1)⟩, false) (wr.drewN nr) hj4 hlen
        simp only [encS] at hyy
        gi_wp2
        refine ⟨fun _ => by omega, hR.mono ?_⟩
        rintro e W4 (⟨rfl, hJ4, hk4⟩ | ⟨rfl, hJx4⟩)
        · gi_wp2
          go_end0
          exact ⟨⟨_, rfl⟩, .inl ⟨xs, rfl, by rw [hp1.out, HN.out, HFT.out, HGT.out]; exact hJ4⟩⟩
        · gi_wp2
          go_end0
          exact ⟨⟨_, rfl⟩, .inr ⟨_, ⟨[], by rw [hp1.out, HN.out, HFT.out, HGT.out]; simp⟩, hJx4⟩⟩

end Go.Proofs.YtenlokaaloenmaaDoor.S
end

section
namespace Go.Proofs.YtenlokaaloenmaaDoor.Pure
open Go.RowKit Go.Proofs.YtenlokaaloenmaaDoor.S Go.Proofs.YtenlokaaloenmaaDoorW.PrintWords Go.Proofs.YtenlokaaloenmaaDoorW.PrintLast Go.Proofs.YtenlokaaloenmaaDoorW.PrintMore
set_option linter.unusedVariables false
set_option linter.unusedSimpArgs false
set_option linter.unusedVariables false

theorem tick_at {l : List S41} (ok : OkL l) : ∀ j : Nat, j < l.length → (rd_T41 l (j : Int)).f0 = (rd_T41 l 0).f0 + j
  | 0, _ => by simp
  | j + 1, h => by
    have ih := tick_at ok j (by omega)
    have h0 := ok.t 0 (by omega)
    have h1 := ok.t (j + 1) h
    have hl := ok.len
    unfold tickE at h0 h1
    rw [if_pos rfl] at h0
    rw [if_neg (by omega), show (((j + 1 : Nat) : Int) - 1) = (j : Int) by omega] at h1
    have b0 : 0 ≤ (rd_T41 l 0).f0 ∧ (rd_T41 l 0).f0 ≤ 1099511627776 := by
      refine Classical.byContradiction fun hb => ?_
      rw [if_neg hb] at h0; cases h0
    have b1 : (rd_T41 l ((j + 1 : Nat) : Int)).f0 = wrap64 ((rd_T41 l (j : Int)).f0 + 1) := by
      refine Classical.byContradiction fun hb => ?_
      rw [if_neg hb] at h1; cases h1
    rw [b1, ih, wrap_id _ (by omega) (by omega)]
    omega
theorem tick_lo {l : List S41} (ok : OkL l) (hn : 0 < l.length) : 0 ≤ (rd_T41 l 0).f0 ∧ (rd_T41 l 0).f0 ≤ 1099511627776 := by
  have h0 := ok.t 0 hn
  unfold tickE at h0
  rw [if_pos rfl] at h0
  refine Classical.byContradiction fun hb => ?_
  rw [if_neg hb] at h0; cases h0

/-- Whether a light is on in a view. -/
def onAt (l : List S41) (f : Int) (up : Bool) (i : Nat) : Bool := onV f up (rd_T41 l (i : Int)).f3 (rd_T41 l (i : Int)).f4
/-- The spells of a light. -/
def spl (l : List S41) (f : Int) (up : Bool) : List (S57 × Bool) := spF l f up l.length 0 (-1)
end Go.Proofs.YtenlokaaloenmaaDoor.Pure
end

section
namespace Go.Proofs.YtenlokaaloenmaaDoor.S
open Go.RowKit Go.Proofs.YtenlokaaloenmaaDoorW.PrintWords Go.Proofs.YtenlokaaloenmaaDoorW.PrintLast Go.Proofs.YtenlokaaloenmaaDoorW.PrintMore
set_option linter.unusedVariables false
set_option linter.unusedSimpArgs false

/-- One more at a place. -/
def incI (a : List Int) (i : Nat) : List Int := a.set i (wrap64 (rd a (i : Int) + 1))
theorem incI_len (a : List Int) (i : Nat) : (incI a i).length = a.length := by simp [incI]
def repF (r : List Int) (l : List S66) : List Int := l.foldl (fun r x => incI r (x.f1 - 1).toNat) r
theorem repF_len : ∀ (l : List S66) (r : List Int), (repF r l).length = r.length
  | [], _ => rfl
  | x :: l, r => by
    rw [show repF r (x :: l) = repF (incI r (x.f1 - 1).toNat) l from rfl, repF_len l, incI_len]
/-- Whether a car is open at a width. -/
def opn (s : S43) (w : Int) : Bool := if s.f0 ≥ 0 then s.f1 == w else false
abbrev R3 := List Int × List Int × List Int
def sgF (w : Int) (s : S43) (i : Nat) (st : R3) : R3 :=
  (if s.f0 ≥ 0 then incI st.1 i else st.1, if s.f2 = true then incI st.2.1 i else st.2.1, if opn s w = true then incI st.2.2 i else st.2.2)
def sgL (w : Int) : List S43 → Nat → R3 → R3
  | [], _, st => st
  | s :: l, i, st => sgL w l (i + 1) (sgF w s i st)
def vwF (w : Int) (st : List Int × R3) (v : S41) : List Int × R3 := (repF st.1 v.f1, sgL w v.f2 0 st.2)
def cntV (w : Int) (l : List S41) (st : List Int × R3) : List Int × R3 := l.foldl (vwF w) st
def len3 (st : R3) (m : Nat) : Prop := st.1.length = m ∧ st.2.1.length = m ∧ st.2.2.length = m
theorem sgF_len (w : Int) (s : S43) (i : Nat) {st : R3} {m : Nat} (h : len3 st m) : len3 (sgF w s i st) m := by
  obtain ⟨h1, h2, h3⟩ := h
  refine ⟨?_, ?_, ?_⟩ <;> (simp only [sgF]; split <;> simp [incI_len, *])
theorem sgL_len (w : Int) : ∀ (l : List S43) (i : Nat) {st : R3} {m : Nat}, len3 st m → len3 (sgL w l i st) m
  | [], _, _, _, h => h
  | s :: l, i, _, _, h => sgL_len w l (i + 1) (sgF_len w s i h)

/-- The cells of the numbers. -/
def numC (r : List Int) (a b c d : Int) (va vb vc : Value) : Array Value := (nums .i64 r ++ [.int .i64 a, .int .i64 b, .int .i64 c, .int .i64 d, va, vb, vc]).toArray
theorem len6 {r : List Int} (h : r.length = 6) : ∃ a b c d e f, r = [a, b, c, d, e, f] := by
  match r, h with
  | [a, b, c, d, e, f], _ => exact ⟨a, b, c, d, e, f, rfl⟩
def zer6 : List Int := [0, 0, 0, 0, 0, 0]
/-- The numbers as a value. -/
def numV (r : List Int) (a b c d : Int) (va vb vc : Value) : Value := .agg (numC r a b c d va vb vc)

theorem rowC_at (l : List Int) (i : Nat) (h : i < l.length) : ((nums .i64 l).toArray)[i]? = some (.int .i64 (rd l (i : Int))) := by
  simp [nums, rd, List.getElem?_eq_getElem h]
theorem rowC_set (l : List Int) (i : Nat) (x : Int) : ((nums .i64 l).toArray).setIfInBounds i (.int .i64 x) = (nums .i64 (l.set i x)).toArray := by
  simp [nums, List.map_set]
theorem Blk.inc {w : World} {B : Nat} {l : List Int} {t : TypeId} (h : Blk w B (nums .i64 l).toArray t) (i : Nat) : Blk (w.setCell ⟨B, i, none⟩ (.int .i64 (wrap64 (rd l (i : Int) + 1)))) B (nums .i64 (incI l i)).toArray t := by
  have h2 := h.set i (.int .i64 (wrap64 (rd l (i : Int) + 1)))
  rw [rowC_set] at h2
  exact h2
theorem Blk.ne {W : World} {b g : Nat} {cs cs' : Array Value} {t t' : TypeId} (h : Blk W b cs t) (h' : Blk W g cs' t') (ht : t ≠ t') : ¬ b = g := by
  rintro rfl
  unfold Blk at h h'
  rw [h] at h'
  injection h' with h'
  injection h' with _ e
  exact ht e

/-- A row of counts: none, or a block of its own. -/
def RowI (W : World) (base : Nat) (v : Value) (l : List Int) : Prop := (v = .slice none 0 0 ∧ l = []) ∨ ∃ g, v = .slice (some ⟨g, 0, none⟩) l.length l.length ∧ base ≤ g ∧ Blk W g (nums .i64 l).toArray 3
theorem RowI.R {W : World} {base : Nat} {v : Value} {l : List Int} (h : RowI W base v l) (hl : l.length ≤ 1000000) : Kd.R (Kd.int .i64) 3 W base (fun _ => True) v l := by
  rcases h with ⟨rfl, rfl⟩ | ⟨g, rfl, hb, hg⟩
  · exact Kd.R_nil _ _ _ _ _
  · refine Kd.R_of_own (enc := fun x => .int .i64 x) ?_ (fun _ _ => trivial)
    refine ⟨by simp [encs], .inr ⟨g, l.length, (nums .i64 l).toArray, rfl, hb, hg, Nat.le_refl _, by unfold maxLen; omega, by simp [nums], ?_⟩⟩
    simp only [nums, encs, Nat.mul_one]
    exact List.take_of_length_le (by simp)
theorem RowI.keep {W W' : World} {base : Nat} {v : Value} {l : List Int} (h : RowI W base v l) (hk : ∀ g, v = .slice (some ⟨g, 0, none⟩) l.length l.length → g < W.heap.size → W'.heap[g]? = W.heap[g]?) : RowI W' base v l := by
  rcases h with h | ⟨g, hv, hb, hg⟩
  · exact .inl h
  · exact .inr ⟨g, hv, hb, (hk g hv hg.lt).trans hg⟩
theorem RowI.below {W W' : World} {base : Nat} {v : Value} {l : List Int} (h : RowI W base v l) (hb : Below W.heap.size W W') : RowI W' base v l := h.keep fun g _ hl => hb.block g hl

abbrev X4 := Int × Int × Int × Int
/-- The numbers and their rows in memory, the counts of the views being known. -/
structure RsW (b0 : Nat) (w0 : World) (B : Nat) (zs : Array Value) (va vb vc : Value) (r : List Int) (s : R3) (x : X4) (W : World) : Prop where
  z : Blk W b0 zs 29
  n : Blk W B (numC r x.1 x.2.1 x.2.2.1 x.2.2.2 va vb vc) 29
  a : RowI W (B + 1) va s.1
  b : RowI W (B + 1) vb s.2.1
  c : RowI W (B + 1) vc s.2.2
  k : Below b0 w0 W
  o : b0 < B
theorem RsW.below {b0 : Nat} {w0 W W' : World} {B : Nat} {zs : Array Value} {va vb vc : Value} {r : List Int} {s : R3} {x : X4} (h : RsW b0 w0 B zs va vb vc r s x W) (hb : Below W.heap.size W W') : RsW b0 w0 B zs va vb vc r s x W' :=
  ⟨h.z.below hb h.z.lt, h.n.below hb h.n.lt, h.a.below hb, h.b.below hb, h.c.below hb, h.k.trans (hb.mono (by have := h.o; have := h.n.lt; omega)), h.o⟩
theorem RsW.alloc {b0 : Nat} {w0 W : World} {B : Nat} {zs : Array Value} {va vb vc : Value} {r : List Int} {s : R3} {x : X4} (h : RsW b0 w0 B zs va vb vc r s x W) (o : Obj) : RsW b0 w0 B zs va vb vc r s x (W.alloc o) := h.below (below_alloc (Below.refl _ _) o)
theorem RowI.far {W : World} {base : Nat} {v : Value} {l : List Int} (h : RowI W base v l) (a : Addr) (u : Value) (hb : a.block < base) : RowI (W.setCell a u) base v l := by
  rcases h with h | ⟨g, hv, hg, hk⟩
  · exact .inl h
  · exact .inr ⟨g, hv, hg, hk.far a u (by omega)⟩
theorem RsW.put {b0 : Nat} {w0 W : World} {B : Nat} {zs : Array Value} {va vb vc : Value} {r : List Int} {s : R3} {x y : X4} (h : RsW b0 w0 B zs va vb vc r s x W) (i : Nat) (u : Value)
    (he : (numC r x.1 x.2.1 x.2.2.1 x.2.2.2 va vb vc).setIfInBounds i u = numC r y.1 y.2.1 y.2.2.1 y.2.2.2 va vb vc) : RsW b0 w0 B zs va vb vc r s y (W.setCell ⟨B, i, none⟩ u) :=
  ⟨h.z.far _ _ (by have := h.o; show ¬ b0 = B; omega), by rw [← he]; exact h.n.set i u, h.a.far _ _ (by simp), h.b.far _ _ (by simp), h.c.far _ _ (by simp), h.k.setCell (p := ⟨B, i, none⟩) (Nat.le_of_lt h.o) u, h.o⟩
theorem numC_s6 {r : List Int} (hr : r.length = 6) (a b c d x : Int) (va vb vc : Value) : (numC r a b c d va vb vc).setIfInBounds 6 (.int .i64 x) = numC r x b c d va vb vc := by
  obtain ⟨_, _, _, _, _, _, rfl⟩ := len6 hr; rfl
theorem numC_s7 {r : List Int} (hr : r.length = 6) (a b c d x : Int) (va vb vc : Value) : (numC r a b c d va vb vc).setIfInBounds 7 (.int .i64 x) = numC r a x c d va vb vc := by
  obtain ⟨_, _, _, _, _, _, rfl⟩ := len6 hr; rfl
theorem numC_s8 {r : List Int} (hr : r.length = 6) (a b c d x : Int) (va vb vc : Value) : (numC r a b c d va vb vc).setIfInBounds 8 (.int .i64 x) = numC r a b x d va vb vc := by
  obtain ⟨_, _, _, _, _, _, rfl⟩ := len6 hr; rfl
theorem numC_s9 {r : List Int} (hr : r.length = 6) (a b c d x : Int) (va vb vc : Value) : (numC r a b c d va vb vc).setIfInBounds 9 (.int .i64 x) = numC r a b c x va vb vc := by
  obtain ⟨_, _, _, _, _, _, rfl⟩ := len6 hr; rfl

/-- Thirteen cells of a block stored one by one. -/
def put13 (W : World) (b : Nat) (v0 v1 v2 v3 v4 v5 v6 v7 v8 v9 v10 v11 v12 : Value) : World := (((((((((((((W.setCell ⟨b, 0, none⟩ v0).setCell ⟨b, 1, none⟩ v1).setCell ⟨b, 2, none⟩ v2).setCell ⟨b, 3, none⟩ v3).setCell ⟨b, 4, none⟩ v4).setCell ⟨b, 5, none⟩ v5).setCell ⟨b, 6, none⟩ v6).setCell ⟨b, 7, none⟩ v7).setCell ⟨b, 8, none⟩ v8).setCell ⟨b, 9, none⟩ v9).setCell ⟨b, 10, none⟩ v10).setCell ⟨b, 11, none⟩ v11).setCell ⟨b, 12, none⟩ v12)
theorem put13_blk {W : World} {b : Nat} {t : TypeId} {z0 z1 z2 z3 z4 z5 z6 z7 z8 z9 z10 z11 z12 : Value} (h : Blk W b #[z0, z1, z2, z3, z4, z5, z6, z7, z8, z9, z10, z11, z12] t) (v0 v1 v2 v3 v4 v5 v6 v7 v8 v9 v10 v11 v12 : Value) : Blk (put13 W b v0 v1 v2 v3 v4 v5 v6 v7 v8 v9 v10 v11 v12) b #[v0, v1, v2, v3, v4, v5, v6, v7, v8, v9, v10, v11, v12] t := by
  have h2 := (((((((((((((h.set 0 v0).set 1 v1).set 2 v2).set 3 v3).set 4 v4).set 5 v5).set 6 v6).set 7 v7).set 8 v8).set 9 v9).set 10 v10).set 11 v11).set 12 v12)
  simp only [List.setIfInBounds_toArray, List.set_cons_zero, List.set_cons_succ] at h2
  exact h2
theorem put13_far (W : World) (b : Nat) (v0 v1 v2 v3 v4 v5 v6 v7 v8 v9 v10 v11 v12 : Value) (j : Nat) (hj : j ≠ b) : (put13 W b v0 v1 v2 v3 v4 v5 v6 v7 v8 v9 v10 v11 v12).heap[j]? = W.heap[j]? := (Below.heap_setCell _ ⟨b, 12, none⟩ v12 j hj).trans ((Below.heap_setCell _ ⟨b, 11, none⟩ v11 j hj).trans ((Below.heap_setCell _ ⟨b, 10, none⟩ v10 j hj).trans ((Below.heap_setCell _ ⟨b, 9, none⟩ v9 j hj).trans ((Below.heap_setCell _ ⟨b, 8, none⟩ v8 j hj).trans ((Below.heap_setCell _ ⟨b, 7, none⟩ v7 j hj).trans ((Below.heap_setCell _ ⟨b, 6, none⟩ v6 j hj).trans ((Below.heap_setCell _ ⟨b, 5, none⟩ v5 j hj).trans ((Below.heap_setCell _ ⟨b, 4, none⟩ v4 j hj).trans ((Below.heap_setCell _ ⟨b, 3, none⟩ v3 j hj).trans ((Below.heap_setCell _ ⟨b, 2, none⟩ v2 j hj).trans ((Below.heap_setCell _ ⟨b, 1, none⟩ v1 j hj).trans (Below.heap_setCell _ ⟨b, 0, none⟩ v0 j hj))))))))))))
theorem put13_below (W : World) (b n : Nat) (v0 v1 v2 v3 v4 v5 v6 v7 v8 v9 v10 v11 v12 : Value) (hn : n ≤ b) : Below n W (put13 W b v0 v1 v2 v3 v4 v5 v6 v7 v8 v9 v10 v11 v12) := ((((((((((((((Below.refl n W).setCell (p := ⟨b, 0, none⟩) hn v0).setCell (p := ⟨b, 1, none⟩) hn v1).setCell (p := ⟨b, 2, none⟩) hn v2).setCell (p := ⟨b, 3, none⟩) hn v3).setCell (p := ⟨b, 4, none⟩) hn v4).setCell (p := ⟨b, 5, none⟩) hn v5).setCell (p := ⟨b, 6, none⟩) hn v6).setCell (p := ⟨b, 7, none⟩) hn v7).setCell (p := ⟨b, 8, none⟩) hn v8).setCell (p := ⟨b, 9, none⟩) hn v9).setCell (p := ⟨b, 10, none⟩) hn v10).setCell (p := ⟨b, 11, none⟩) hn v11).setCell (p := ⟨b, 12, none⟩) hn v12)

/-- Six cells stored one by one. -/
def put6 (W : World) (b : Nat) (v0 v1 v2 v3 v4 v5 : Value) : World := ((((((W.setCell ⟨b, 0, none⟩ v0).setCell ⟨b, 1, none⟩ v1).setCell ⟨b, 2, none⟩ v2).setCell ⟨b, 3, none⟩ v3).setCell ⟨b, 4, none⟩ v4).setCell ⟨b, 5, none⟩ v5)
theorem put6_far (W : World) (b : Nat) (v0 v1 v2 v3 v4 v5 : Value) (j : Nat) (hj : j ≠ b) : (put6 W b v0 v1 v2 v3 v4 v5).heap[j]? = W.heap[j]? := (Below.heap_setCell _ ⟨b, 5, none⟩ v5 j hj).trans ((Below.heap_setCell _ ⟨b, 4, none⟩ v4 j hj).trans ((Below.heap_setCell _ ⟨b, 3, none⟩ v3 j hj).trans ((Below.heap_setCell _ ⟨b, 2, none⟩ v2 j hj).trans ((Below.heap_setCell _ ⟨b, 1, none⟩ v1 j hj).trans (Below.heap_setCell _ ⟨b, 0, none⟩ v0 j hj)))))
theorem put6_below (W : World) (b n : Nat) (v0 v1 v2 v3 v4 v5 : Value) (hn : n ≤ b) : Below n W (put6 W b v0 v1 v2 v3 v4 v5) := (((((((Below.refl n W).setCell (p := ⟨b, 0, none⟩) hn v0).setCell (p := ⟨b, 1, none⟩) hn v1).setCell (p := ⟨b, 2, none⟩) hn v2).setCell (p := ⟨b, 3, none⟩) hn v3).setCell (p := ⟨b, 4, none⟩) hn v4).setCell (p := ⟨b, 5, none⟩) hn v5)
theorem put6_num {W : World} {b : Nat} {t : TypeId} {x0 x1 x2 x3 : Int} {va vb vc : Value} (h : Blk W b (numC zer6 x0 x1 x2 x3 va vb vc) t) (r0 r1 r2 r3 r4 r5 : Int) :
    Blk (put6 W b (.int .i64 r0) (.int .i64 r1) (.int .i64 r2) (.int .i64 r3) (.int .i64 r4) (.int .i64 r5)) b (numC [r0, r1, r2, r3, r4, r5] x0 x1 x2 x3 va vb vc) t := by
  have h2 := ((((((h.set 0 (.int .i64 r0)).set 1 (.int .i64 r1)).set 2 (.int .i64 r2)).set 3 (.int .i64 r3)).set 4 (.int .i64 r4)).set 5 (.int .i64 r5))
  simp only [numC, zer6, nums, List.map_cons, List.map_nil, List.cons_append, List.nil_append, List.setIfInBounds_toArray, List.set_cons_zero, List.set_cons_succ] at h2
  exact h2

/-- The numbers of a run. -/
structure Num where
  r : List Int
  lit : Int
  out : Int
  sum : Int
  most : Int
  a : List Int
  b : List Int
  c : List Int
def num0 : Num := ⟨zer6, 0, 0, 0, 0, [], [], []⟩
def numOf (st : List Int × R3) (x : X4) : Num := ⟨st.1, x.1, x.2.1, x.2.2.1, x.2.2.2, st.2.1, st.2.2.1, st.2.2.2⟩
/-- A value that holds these numbers, its rows the call's own. -/
def NumR (W : World) (base : Nat) (v : Value) (n : Num) : Prop := ∃ va vb vc, v = numV n.r n.lit n.out n.sum n.most va vb vc ∧ n.r.length = 6 ∧ RowI W base va n.a ∧ RowI W base vb n.b ∧ RowI W base vc n.c
theorem RowI.lower {W : World} {base base' : Nat} {v : Value} {l : List Int} (h : RowI W base v l) (hb : base' ≤ base) : RowI W base' v l := by
  rcases h with h | ⟨g, hv, hg, hk⟩
  · exact .inl h
  · exact .inr ⟨g, hv, by omega, hk⟩
theorem NumR.zero (W : World) (base : Nat) : NumR W base (numV zer6 0 0 0 0 (.slice none 0 0) (.slice none 0 0) (.slice none 0 0)) num0 := ⟨_, _, _, rfl, rfl, .inl ⟨rfl, rfl⟩, .inl ⟨rfl, rfl⟩, .inl ⟨rfl, rfl⟩⟩
theorem NumR.below {W W' : World} {base : Nat} {v : Value} {n : Num} (h : NumR W base v n) (hb : Below W.heap.size W W') : NumR W' base v n := by
  obtain ⟨va, vb, vc, hv, hr, h1, h2, h3⟩ := h
  exact ⟨va, vb, vc, hv, hr, h1.below hb, h2.below hb, h3.below hb⟩
/-- The numbers in memory, copied into the block of the result. -/
theorem RsW.done {b0 : Nat} {w0 W : World} {B : Nat} {zs : Array Value} {va vb vc : Value} {r : List Int} {s : R3} {x : X4} (h : RsW b0 w0 B zs va vb vc r s x W) (hr : r.length = 6) {W' : World} (hf : ∀ j, j ≠ b0 → W'.heap[j]? = W.heap[j]?) : NumR W' b0 (numV r x.1 x.2.1 x.2.2.1 x.2.2.2 va vb vc) (numOf (r, s) x) := by
  have hk : ∀ {v : Value} {l : List Int}, RowI W (B + 1) v l → RowI W' b0 v l := by
    intro v l hl
    rcases hl with hl | ⟨g, hv, hg, hk⟩
    · exact .inl hl
    · exact .inr ⟨g, hv, by have := h.o; omega, (hf g (by have := h.o; omega)).trans hk⟩
  exact ⟨va, vb, vc, rfl, hr, hk h.a, hk h.b, hk h.c⟩

theorem zer_made (m : Nat) : madeCells #[Value.int .i64 0] m = (nums .i64 (List.replicate m 0)).toArray := by
  apply Array.ext
  · simp [nums, madeCells]
  · intro i h1 h2
    simp [nums, madeCells, Nat.mod_one]

section
variable {P : Program} {ops : Array Oper} {o : Oper} {a : Act} {Q : Exit → Act → World → Prop} {Kc : Act → World → Prop}
theorem made_step {W : World} (hw : Region.wanted o (yielded ops a.tmps) = true) {N : Tmp} (_hd : o.dst = some N) {m : Nat}
    (hrun : (execOp a.eval o).run P W = .ok (.value (.slice (some ⟨W.heap.size, 0, none⟩) m m)) (W.alloc (.cells (madeCells #[.int .i64 0] m) 3 (0, 0))))
    (h : ∀ g, g = W.heap.size → ∀ w1, Blk w1 g (nums .i64 (List.replicate m 0)).toArray 3 → Below W.heap.size W w1 → Kc (a.put o.dst (.slice (some ⟨g, 0, none⟩) m m)) w1) : if Region.wanted o (yielded ops a.tmps) = true then Oper.wp P o a W Kc Q else Kc (a.put o.dst undef) W :=
  event_step hw hrun (h _ rfl _ (by rw [← zer_made]; exact Blk.new W _ _) (below_alloc (Below.refl _ _) _))
end

end Go.Proofs.YtenlokaaloenmaaDoor.S
end

section
namespace Go.Proofs.YtenlokaaloenmaaDoor.S
open Go.RowKit Go.Proofs.YtenlokaaloenmaaDoorW.PrintWords Go.Proofs.YtenlokaaloenmaaDoorW.PrintLast Go.Proofs.YtenlokaaloenmaaDoorW.PrintMore
set_option linter.unusedVariables false
set_option linter.unusedSimpArgs false
attribute [local go_sem] Go.Proofs.YtenlokaaloenmaaDoorW.PrintXtra.isSome_setCell max2_int max_two

/-- What lies in memory while the views are counted. -/
structure RcW (b0 : Nat) (w0 : World) (B g1 g2 g3 m : Nat) (st : List Int × R3) (W : World) : Prop where
  z : Blk W b0 #[.int .i64 0, .int .i64 0, .int .i64 0, .int .i64 0, .int .i64 0, .int .i64 0, .int .i64 0, .int .i64 0, .int .i64 0, .int .i64 0, .slice none 0 0, .slice none 0 0, .slice none 0 0] 29
  n : Blk W B (numC st.1 0 0 0 0 (.slice (some ⟨g1, 0, none⟩) m m) (.slice (some ⟨g2, 0, none⟩) m m) (.slice (some ⟨g3, 0, none⟩) m m)) 29
  a : Blk W g1 (nums .i64 st.2.1).toArray 3
  b : Blk W g2 (nums .i64 st.2.2.1).toArray 3
  c : Blk W g3 (nums .i64 st.2.2.2).toArray 3
  k : Below b0 w0 W
  o1 : b0 < B
  o2 : B < g1
  o3 : B < g2
  o4 : B < g3
  n1 : g1 ≠ g2
  n2 : g1 ≠ g3
  n3 : g2 ≠ g3
  e : st.1.length = 6 ∧ len3 st.2 m
theorem RcW.below {b0 : Nat} {w0 W W' : World} {B g1 g2 g3 m : Nat} {st : List Int × R3} (h : RcW b0 w0 B g1 g2 g3 m st W) (hb : Below W.heap.size W W') : RcW b0 w0 B g1 g2 g3 m st W' :=
  ⟨h.z.below hb h.z.lt, h.n.below hb h.n.lt, h.a.below hb h.a.lt, h.b.below hb h.b.lt, h.c.below hb h.c.lt, h.k.trans (hb.mono (by have := h.o1; have := h.n.lt; omega)), h.o1, h.o2, h.o3, h.o4, h.n1, h.n2, h.n3, h.e⟩
theorem RcW.alloc {b0 : Nat} {w0 W : World} {B g1 g2 g3 m : Nat} {st : List Int × R3} (h : RcW b0 w0 B g1 g2 g3 m st W) (o : Obj) : RcW b0 w0 B g1 g2 g3 m st (W.alloc o) := h.below (below_alloc (Below.refl _ _) o)
theorem RcW.incA {b0 : Nat} {w0 W : World} {B g1 g2 g3 m : Nat} {st : List Int × R3} (h : RcW b0 w0 B g1 g2 g3 m st W) (i : Nat) : RcW b0 w0 B g1 g2 g3 m (st.1, incI st.2.1 i, st.2.2) (W.setCell ⟨g1, i, none⟩ (.int .i64 (wrap64 (rd st.2.1 (i : Int) + 1)))) :=
  ⟨h.z.far _ _ (by have := h.o1; have := h.o2; show ¬ b0 = g1; omega), h.n.far _ _ (by have := h.o2; show ¬ B = g1; omega), h.a.inc i, h.b.far _ _ (fun e => h.n1 e.symm), h.c.far _ _ (fun e => h.n2 e.symm),
   h.k.setCell (p := ⟨g1, i, none⟩) (by have := h.o1; have := h.o2; show b0 ≤ g1; omega) _, h.o1, h.o2, h.o3, h.o4, h.n1, h.n2, h.n3, h.e.1, by rw [len3, incI_len]; exact h.e.2⟩
theorem RcW.incB {b0 : Nat} {w0 W : World} {B g1 g2 g3 m : Nat} {st : List Int × R3} (h : RcW b0 w0 B g1 g2 g3 m st W) (i : Nat) : RcW b0 w0 B g1 g2 g3 m (st.1, st.2.1, incI st.2.2.1 i, st.2.2.2) (W.setCell ⟨g2, i, none⟩ (.int .i64 (wrap64 (rd st.2.2.1 (i : Int) + 1)))) :=
  ⟨h.z.far _ _ (by have := h.o1; have := h.o3; show ¬ b0 = g2; omega), h.n.far _ _ (by have := h.o3; show ¬ B = g2; omega), h.a.far _ _ h.n1, h.b.inc i, h.c.far _ _ (fun e => h.n3 e.symm),
   h.k.setCell (p := ⟨g2, i, none⟩) (by have := h.o1; have := h.o3; show b0 ≤ g2; omega) _, h.o1, h.o2, h.o3, h.o4, h.n1, h.n2, h.n3, h.e.1, by rw [len3, incI_len]; exact h.e.2⟩
theorem RcW.incC {b0 : Nat} {w0 W : World} {B g1 g2 g3 m : Nat} {st : List Int × R3} (h : RcW b0 w0 B g1 g2 g3 m st W) (i : Nat) : RcW b0 w0 B g1 g2 g3 m (st.1, st.2.1, st.2.2.1, incI st.2.2.2 i) (W.setCell ⟨g3, i, none⟩ (.int .i64 (wrap64 (rd st.2.2.2 (i : Int) + 1)))) :=
  ⟨h.z.far _ _ (by have := h.o1; have := h.o4; show ¬ b0 = g3; omega), h.n.far _ _ (by have := h.o4; show ¬ B = g3; omega), h.a.far _ _ h.n2, h.b.far _ _ h.n3, h.c.inc i,
   h.k.setCell (p := ⟨g3, i, none⟩) (by have := h.o1; have := h.o4; show b0 ≤ g3; omega) _, h.o1, h.o2, h.o3, h.o4, h.n1, h.n2, h.n3, h.e.1, by rw [len3, incI_len]; exact h.e.2⟩

end Go.Proofs.YtenlokaaloenmaaDoor.S
end
