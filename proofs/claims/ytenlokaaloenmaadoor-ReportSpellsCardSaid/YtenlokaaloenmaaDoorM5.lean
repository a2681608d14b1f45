/- Joined: report.lights, place and on, walked: the lights of a view. The iterator of (light).spells: it yields the spells of a light, and whether they have ended. The numbers of a run: lists of counts, and how they lie in memory. own of the statements, walked: the same views in new memory. unchanged of the statements, walked: two lists with the same views. -/
import Derived.Outline
import Derived.Defers
import Derived.Recover
import Derived.StillTailTactics
import Derived.Test.YtenlokaaloenmaaDoorQuiet
import Derived.Test.YtenlokaaloenmaaDoorM3
import Derived.Test.YtenlokaaloenmaaDoorM2
import Derived.RangeFuncNested
import Derived.RangeFuncBound
import Derived.RangeFuncCalls
import Derived.RangeFuncLeaves
import Derived.RangeFuncFrom
import Derived.RangeFuncBox
import Derived.OwnWalkIn
import Derived.TacticsInMore
import Derived.LoopNIn
import Derived.LoopIn
import Derived.Sort.CutIn

section
set_option linter.unusedVariables false
set_option linter.unusedSimpArgs false
namespace Go.Proofs.YtenlokaaloenmaaDoor.S
open Go.RowKit Go.Proofs.YtenlokaaloenmaaDoorW.PrintWords Go.Proofs.YtenlokaaloenmaaDoorW.PrintLast Go.Proofs.YtenlokaaloenmaaDoorW.PrintMore
set_option linter.unusedVariables false
set_option linter.unusedSimpArgs false
attribute [local go_sem] Oper.semAt_some wide_fn wideR_fn
attribute [local simp] wide_fn wideR_fn

/-- A block of known cells. -/
def Blk (w : World) (B : Nat) (cs : Array Value) (t : TypeId) : Prop := w.heap[B]? = some (.cells cs t (0, 0))
theorem Blk.cell {w : World} {B : Nat} {cs : Array Value} {t : TypeId} (h : Blk w B cs t) (i : Nat) {v : Value} (hv : cs[i]? = some v) : w.cell? ⟨B, i, none⟩ = some v := by unfold Blk at h; simp [World.cell?, h, hv]
theorem Blk.fr {w : World} {B : Nat} {cs : Array Value} {t : TypeId} (h : Blk w B cs t) (o : Nat) : w.frozen? ⟨B, o, none⟩ = false := by unfold Blk at h; simp [World.frozen?, h]
theorem Blk.lt {w : World} {B : Nat} {cs : Array Value} {t : TypeId} (h : Blk w B cs t) : B < w.heap.size := (Array.getElem?_eq_some_iff.1 h).1
theorem Blk.below {w w' : World} {B n : Nat} {cs : Array Value} {t : TypeId} (h : Blk w B cs t) (hb : Below n w w') (hn : B < n) : Blk w' B cs t := (hb.block B hn).trans h
theorem Blk.alloc {w : World} {B : Nat} {cs : Array Value} {t : TypeId} (h : Blk w B cs t) (o : Obj) : Blk (w.alloc o) B cs t := (Below.heap_alloc w o B h.lt).trans h
theorem Blk.drewN {w : World} {B : Nat} {cs : Array Value} {t : TypeId} (h : Blk w B cs t) (n : Nat) : Blk (w.drewN n) B cs t := h
theorem Blk.new (w : World) (cs : Array Value) (t : TypeId) : Blk (w.alloc (.cells cs t)) w.heap.size cs t := heap_alloc_new w _
theorem Blk.far {w : World} {B : Nat} {cs : Array Value} {t : TypeId} (h : Blk w B cs t) (a : Addr) (u : Value) (hne : ¬ B = a.block) : Blk (w.setCell a u) B cs t := (Below.heap_setCell w a u B hne).trans h
theorem Blk.set {w : World} {B : Nat} {cs : Array Value} {t : TypeId} (h : Blk w B cs t) (i : Nat) (u : Value) : Blk (w.setCell ⟨B, i, none⟩ u) B (cs.setIfInBounds i u) t := by
  unfold Blk at h ⊢; obtain ⟨hl, he⟩ := Array.getElem?_eq_some_iff.1 h; simp [World.setCell, hl, Array.getElem_modify, he, Array.getElem_modify]

set_option maxHeartbeats 1000000 in
set_option maxRecDepth 100000 in
theorem lights_any (t u d wd : Int) (A1 : Option Addr) (n1 c1 : Nat) (A2 : Option Addr) (n2 c2 : Nat) (w : World) :
    Calls Tryd.prog 48 #[.agg #[.int .i64 t, .slice A1 n1 c1, .slice A2 n2 c2, .int .u64 u, .int .u64 d, .int .i64 wd]] w fun e w' => e = .returned (.agg #[.int .u64 u, .int .u64 d]) ∧ Below w.heap.size w w' := by
  have hu41 := Tryd.underlying41; have hu85 := Tryd.underlying85; go_enter Tryd.func48, Tryd.ntmps48
  go_wp2_with fail; have hn := Blk.new (w.alloc (.cells #[.int .i64 t, .slice A1 n1 c1, .slice A2 n2 c2, .int .u64 u, .int .u64 d, .int .i64 wd] 41)) #[.int .u64 u, .int .u64 d] 85; rw [World.size_alloc] at hn; have c0 := hn.cell 0 rfl; have c1 := hn.cell 1 rfl; refine bodyPost_ret (v := .agg #[.int .u64 u, .int .u64 d]) ?_ rfl ⟨rfl, ((Below.refl _ w).alloc (Nat.le_refl _) _).alloc (by simp) _⟩; simp [results, Tryd.results48, go_sem, c0, c1, hu85]

set_option maxHeartbeats 1000000 in
set_option maxRecDepth 100000 in
theorem place_any (f : Int) (u : Bool) (w : World) :
    Calls Tryd.prog 54 #[.agg #[.int .i64 f, .bool u]] w fun e w' => e = .returned (.int .i64 (if u = true then 0 else 1)) ∧ Below w.heap.size w w' := by
  have hu77 := Tryd.underlying77; cases u with
  | true =>
    go_enter Tryd.func54, Tryd.ntmps54
    go_wp2_with fail; go_ret; exact ⟨rfl, (Below.refl _ w).alloc (Nat.le_refl _) _⟩
  | false =>
    go_enter Tryd.func54, Tryd.ntmps54
    go_wp2_with fail; go_ret; exact ⟨rfl, (Below.refl _ w).alloc (Nat.le_refl _) _⟩

theorem place_true (f : Int) (w : World) : Calls Tryd.prog 54 #[.agg #[.int .i64 f, .bool true]] w fun e w' => e = .returned (.int .i64 0) ∧ Below w.heap.size w w' := place_any f true w
theorem place_false (f : Int) (w : World) : Calls Tryd.prog 54 #[.agg #[.int .i64 f, .bool false]] w fun e w' => e = .returned (.int .i64 1) ∧ Below w.heap.size w w' := place_any f false w

/-- Whether a light is on in two sets of lights. -/
def onV (f : Int) (up : Bool) (u d : Int) : Bool := (Go.bits .and .u64 ((if up = true then u else d) / 2 ^ f.toNat) 1) == 1

theorem index0 (u d : Int) (w : World) : (Instr.index 85 (.agg #[.int .u64 u, .int .u64 d]) (.int .i64 0)).run Tryd.prog w = .ok (.int .u64 u) w := by
  have hz : (sizeOf 39).run Tryd.prog w = .ok 1 w := by kernel_rfl
  simp [Instr.index, run_underlying Tryd.underlying85, asIntOf, hz, part, go_sem]
theorem index1 (u d : Int) (w : World) : (Instr.index 85 (.agg #[.int .u64 u, .int .u64 d]) (.int .i64 1)).run Tryd.prog w = .ok (.int .u64 d) w := by
  have hz : (sizeOf 39).run Tryd.prog w = .ok 1 w := by kernel_rfl
  simp [Instr.index, run_underlying Tryd.underlying85, asIntOf, hz, part, go_sem]

set_option maxHeartbeats 4000000 in
set_option maxRecDepth 100000 in
theorem on_any (f : Int) (up : Bool) (t u d wd : Int) (A1 : Option Addr) (n1 c1 : Nat) (A2 : Option Addr) (n2 c2 : Nat) (h0 : 0 ≤ f) (h1 : f ≤ 63) (w : World) :
    Calls Tryd.prog 52 #[.agg #[.int .i64 f, .bool up], .agg #[.int .i64 t, .slice A1 n1 c1, .slice A2 n2 c2, .int .u64 u, .int .u64 d, .int .i64 wd]] w fun e w' => e = .returned (.bool (onV f up u d)) ∧ Below w.heap.size w w' := by
  have hu41 := Tryd.underlying41; have hu77 := Tryd.underlying77; have hu85 := Tryd.underlying85; go_enter Tryd.func52, Tryd.ntmps52
  go_wp2_with fail; obtain ⟨wa, hwa⟩ : ∃ x, (w.alloc (.cells #[.int .i64 f, .bool up] 77)).alloc (.cells #[.int .i64 t, .slice A1 n1 c1, .slice A2 n2 c2, .int .u64 u, .int .u64 d, .int .i64 wd] 41) = x := ⟨_, rfl⟩; have ha1 : Blk wa w.heap.size #[.int .i64 f, .bool up] 77 := by rw [← hwa]; exact (Blk.new w _ _).alloc _
  have ha2 : Blk wa (w.heap.size + 1) #[.int .i64 t, .slice A1 n1 c1, .slice A2 n2 c2, .int .u64 u, .int .u64 d, .int .i64 wd] 41 := by
    have := Blk.new (w.alloc (.cells #[.int .i64 f, .bool up] 77)) #[.int .i64 t, .slice A1 n1 c1, .slice A2 n2 c2, .int .u64 u, .int .u64 d, .int .i64 wd] 41; rw [World.size_alloc] at this; rw [← hwa]; exact this
  have hB : Below w.heap.size w wa := by rw [← hwa]; exact ((Below.refl _ w).alloc (Nat.le_refl _) _).alloc (by simp) _
  rw [hwa]; clear hwa; have f0 := ha1.cell 0 rfl; have f1 := ha1.cell 1 rfl; have v0 := ha2.cell 0 rfl; have v1 := ha2.cell 1 rfl; have v2 := ha2.cell 2 rfl; have v3 := ha2.cell 3 rfl; have v4 := ha2.cell 4 rfl; have v5 := ha2.cell 5 rfl; have l1 := ha1.lt; have l2 := ha2.lt; have HB := Aside0.mk hB; clear hB; have f0 : ∀ p : GB, (mkW wa p).cell? ⟨w.heap.size, 0, none⟩ = some (.int .i64 f) := mkW_cell (ha1.cell 0 rfl); have f1 : ∀ p : GB, (mkW wa p).cell? ⟨w.heap.size, 1, none⟩ = some (.bool up) := mkW_cell (ha1.cell 1 rfl); have v0 : ∀ p : GB, (mkW wa p).cell? ⟨w.heap.size + 1, 0, none⟩ = some (.int .i64 t) := mkW_cell (ha2.cell 0 rfl); have v1 : ∀ p : GB, (mkW wa p).cell? ⟨w.heap.size + 1, 1, none⟩ = some (.slice A1 n1 c1) := mkW_cell (ha2.cell 1 rfl); have v2 : ∀ p : GB, (mkW wa p).cell? ⟨w.heap.size + 1, 2, none⟩ = some (.slice A2 n2 c2) := mkW_cell (ha2.cell 2 rfl); have v3 : ∀ p : GB, (mkW wa p).cell? ⟨w.heap.size + 1, 3, none⟩ = some (.int .u64 u) := mkW_cell (ha2.cell 3 rfl); have v4 : ∀ p : GB, (mkW wa p).cell? ⟨w.heap.size + 1, 4, none⟩ = some (.int .u64 d) := mkW_cell (ha2.cell 4 rfl); have v5 : ∀ p : GB, (mkW wa p).cell? ⟨w.heap.size + 1, 5, none⟩ = some (.int .i64 wd) := mkW_cell (ha2.cell 5 rfl); clear ha1 ha2; have i0 := index0 u d; have i1 := index1 u d; rw [← wpIn_wide (n := 9)]; cases up with
  | true =>
    refine wpIn_region_below (by kernel_rfl) (by kernel_rfl) (by kernel_rfl) ?_; repeat (gi_big_quiet_step (first | (gi_at_call 48; exact CallsIn.below_of (callsIn_wide.2 (lights_any t u d wd A1 n1 c1 A2 n2 c2 _))) | (gi_at_call 54; exact CallsIn.below_of (callsIn_wide.2 (place_true f _)))))
    refine wpQuietIn_nil ?_; rintro _ ⟨p, rfl⟩; go_wp2_with fail; go_ret; exact ⟨rfl, HB.out.trans ((mkW_below wa p).mono HB.out.size)⟩
  | false =>
    refine wpIn_region_below (by kernel_rfl) (by kernel_rfl) (by kernel_rfl) ?_; repeat (gi_big_quiet_step (first | (gi_at_call 48; exact CallsIn.below_of (callsIn_wide.2 (lights_any t u d wd A1 n1 c1 A2 n2 c2 _))) | (gi_at_call 54; exact CallsIn.below_of (callsIn_wide.2 (place_false f _)))))
    refine wpQuietIn_nil ?_; rintro _ ⟨p, rfl⟩; go_wp2_with fail; go_ret; exact ⟨rfl, HB.out.trans ((mkW_below wa p).mono HB.out.size)⟩

end Go.Proofs.YtenlokaaloenmaaDoor.S

namespace Go.Proofs.YtenlokaaloenmaaDoor.S
open Go.RowKit Go.Proofs.YtenlokaaloenmaaDoorW.PrintWords Go.Proofs.YtenlokaaloenmaaDoorW.PrintLast Go.Proofs.YtenlokaaloenmaaDoorW.PrintMore
attribute [local go_sem] Oper.semAt_some wide_fn wideR_fn
attribute [local simp] wide_fn wideR_fn

/-- The spells of a light, from a view on: so many views are left, this is the next one, since when the light is on (-1: it is off). -/
def spF (l : List S41) (f : Int) (up : Bool) : Nat → Nat → Int → List (S57 × Bool)
  | 0, _, frm => if frm ≥ 0 then [(⟨(rd_T41 l frm).f0, wrap64 ((rd_T41 l ((l.length : Int) - 1)).f0 + 1)⟩, false)] else []
  | d + 1, i, frm =>
    if onV f up (rd_T41 l i).f3 (rd_T41 l i).f4 = true then (if frm < 0 then spF l f up d (i + 1) i else spF l f up d (i + 1) frm)
    else if frm ≥ 0 then (⟨(rd_T41 l frm).f0, (rd_T41 l i).f0⟩, true) :: spF l f up d (i + 1) (-1) else spF l f up d (i + 1) frm

def encS (x : S57 × Bool) : Array Value := #[.agg #[.int .i64 x.1.f0, .int .i64 x.1.f1], .bool x.2]

/-- What a round must keep: the two variables of the iterator, and whatever lay when the caller began. -/
def Keep3 (n0 b1 b2 : Nat) (W W' : World) : Prop := W'.heap[b1]? = W.heap[b1]? ∧ W'.heap[b2]? = W.heap[b2]? ∧ Below n0 W W'
theorem grown_below {w w' : World} {n : Nat} (h : Below n w w') (hn : w.heap.size ≤ n) (row : Option Nat) : w.grownBy w' row := ⟨h.os, h.tape, h.output, h.size, fun k hk _ => h.block k (by omega)⟩

theorem spells_any (f : Int) (up : Bool) (A : Option Addr) (n c : Nat) (w : World) : Calls Tryd.prog 40 #[.agg #[.int .i64 f, .bool up], .slice A n c] w fun e w' =>
    e = .returned (.func (.func 51) #[] #[.pointer (some ⟨w.heap.size + 1, 0, none⟩), .pointer (some ⟨w.heap.size, 0, none⟩)]) ∧ w' = (w.alloc (.cells #[.int .i64 f, .bool up] 77)).alloc (.cells #[.slice A n c] 24) := by
  have hmf : ∀ (fn : Fn) (first cap : Array Value) (w : World), (Instr.makeFunc fn first cap).run Tryd.prog w = .ok (.func fn first cap) w := fun _ _ _ _ => rfl
  go_enter Tryd.func40, Tryd.ntmps40
  go_wp2; go_ret; exact ⟨rfl, rfl⟩

theorem on_at {f : Int} {up : Bool} {u d : Int} {b : Bool} (hb : onV f up u d = b) (t wd : Int) (A1 : Option Addr) (n1 c1 : Nat) (A2 : Option Addr) (n2 c2 : Nat) (h0 : 0 ≤ f) (h1 : f ≤ 63) (w : World) :
    Calls Tryd.prog 52 #[.agg #[.int .i64 f, .bool up], .agg #[.int .i64 t, .slice A1 n1 c1, .slice A2 n2 c2, .int .u64 u, .int .u64 d, .int .i64 wd]] w fun e w' => e = .returned (.bool b) ∧ Below w.heap.size w w' := by
  rw [← hb]; exact on_any f up t u d wd A1 n1 c1 A2 n2 c2 h0 h1 w

/-- What holds in a round. -/
structure SpW (n0 Bl Bx bv : Nat) (A : Option Addr) (n c : Nat) (f : Int) (up : Bool) (cv : Array Value) (w00 W : World) : Prop where
  bl : Boxed W Bl 24 (.slice A n c)
  bx : Blk W Bx #[.int .i64 f, .bool up] 77
  bv : Blk W bv cv 41
  bw : Below n0 w00 W
  sz : n0 ≤ W.heap.size
theorem SpW.below {n0 Bl Bx bv : Nat} {A : Option Addr} {n c : Nat} {f : Int} {up : Bool} {cv : Array Value} {w00 W W' : World} (h : SpW n0 Bl Bx bv A n c f up cv w00 W) (hb : Below W.heap.size W W') : SpW n0 Bl Bx bv A n c f up cv w00 W' :=
  ⟨(hb.block Bl h.bl.lt).trans h.bl, h.bx.below hb h.bx.lt, h.bv.below hb h.bv.lt, h.bw.trans (hb.mono h.sz), Nat.le_trans h.sz hb.size⟩

set_option maxHeartbeats 4000000 in
set_option maxRecDepth 100000 in
theorem spells_stops (n : Nat) (hn : 2 ≤ n) (n0 Bl Bx : Nat) (hl : n0 ≤ Bl) (hx : n0 ≤ Bx) (A : Option Addr) (c : Nat) (l : List S41) (hc : l.length ≤ c) (f : Int) (up : Bool) (h0 : 0 ≤ f) (h1 : f ≤ 63) (w00 : World) (h00 : w00.heap.size = n0) (hC : k41.C w00 A l.length l)
    (xs : List (S57 × Bool)) (hxs : spF l f up l.length 0 (-1) = xs) (w : World) (hBl : Boxed w Bl 24 (.slice A l.length c)) (hBx : Blk w Bx #[.int .i64 f, .bool up] 77) (hw : Below n0 w00 w) :
    SeqStopsK Fence.wide n Tryd.prog 51 #[.pointer (some ⟨Bl, 0, none⟩), .pointer (some ⟨Bx, 0, none⟩)] encS (Keep3 n0 Bl Bx) (fun ys => ys = xs) (fun pre => pre <+: xs) xs.length w := by
  intro lp J Jx W hW hJ hJx hY hj0; have hu41 := Tryd.underlying41; have hu77 := Tryd.underlying77; have bBl : Boxed W Bl 24 (.slice A l.length c) := (hW.block Bl hBl.lt).trans hBl; have bBx : Blk W Bx #[.int .i64 f, .bool up] 77 := (hW.block Bx hBx.lt).trans hBx; have bW : Below n0 w00 W := hw.trans (hW.mono (by have := hw.size; omega)); have hmax := Kd.C_max hC; have cBl := bBl.cell; have HJ := Aside0.mk hJ; have HY := Aside0.mk hY; have HCC := Aside0.mk hC; have HXS := Aside0.mk hxs; have BW := Aside0.mk bW; have BL := Aside0.mk bBl; have BX := Aside0.mk bBx; clear hJ hJx hY hC hxs bW bBl bBx hW hBl hBx hw; refine callsIn_of_wp Tryd.func51 rfl trivial ?_ rfl; simp only [Tryd.ntmps51, List.size_toArray, List.length_cons, List.length_nil, Nat.reduceAdd, Nat.reduceSub, Array.replicate_succ, Array.replicate_zero, List.push_toArray, List.append_toArray, List.nil_append, List.cons_append]; gi_wp2
  clear cBl
  gi_loopw [4, 9] (fun v4 v9 wr => ∃ (i : Nat) (frm : Int) (pre rest : List (S57 × Bool)), v4 = .int .i64 frm ∧ v9 = .int .i64 i ∧ Aside0 (i ≤ l.length ∧ (frm = -1 ∨ (0 ≤ frm ∧ frm < i))) ∧ Aside0 (xs = pre ++ rest) ∧ Aside0 (spF l f up (l.length - i) i frm = rest) ∧ J pre wr ∧ Aside0 (Boxed wr Bl 24 (.slice A l.length c)) ∧ Aside0 (Blk wr Bx #[.int .i64 f, .bool up] 77) ∧ Aside0 (Below n0 w00 wr))
    (fun _ v9 _ => l.length - (intOf v9).toNat)
  case atStart => exact ⟨0, -1, [], xs, rfl, rfl, ⟨by omega, .inl rfl⟩, ⟨rfl⟩, HXS, hj0, BL, BX, BW⟩
  obtain ⟨i, frm, pre, rest, rfl, rfl, hi, hp1, hr, hj, hb1, hb2, hbw⟩ := hrel; by_cases hlt : i < l.length
  · obtain ⟨ad, A1, c1, A2, c2, e, x0, x1, x2, x3, x4, x5, hl1, hi1, hl2, hi2⟩ := at_T41 (Kd.C_below HCC.out (by rw [h00]; exact hbw.out)) (i : Int) (by omega) (by omega); cases e; clear hl1 hi1 hl2 hi2; have p1 : (0 ≤ (i : Int)) = True := eq_true (by omega); have q1 : ((i : Int) < (l.length : Int)) = True := eq_true (by omega); obtain ⟨v, hv⟩ : ∃ v, rd_T41 l (i : Int) = v := ⟨_, rfl⟩; rw [hv, Int.toNat_natCast] at x0 x1 x2 x3 x4 x5; have HV := Aside0.mk hv; clear hv; gi_upto_region 4 with (fail)
    obtain ⟨w1, hw1⟩ : ∃ x, wr.alloc (.cells #[.int .i64 v.f0, .slice A1 v.f1.length c1, .slice A2 v.f2.length c2, .int .u64 v.f3, .int .u64 v.f4, .int .i64 v.f5] 41) = x := ⟨_, rfl⟩; obtain ⟨bv, hbv⟩ : ∃ x, wr.heap.size = x := ⟨_, rfl⟩; have hj1 : J pre w1 := by rw [← hw1]; exact HJ.out pre wr _ none hj (World.grownBy_alloc wr _ none) (fun r e => by cases e)
    have bl1 : Boxed w1 Bl 24 (.slice (some ad) l.length c) := by rw [← hw1]; exact hb1.out.alloc _
    have bx1 : Blk w1 Bx #[.int .i64 f, .bool up] 77 := by rw [← hw1]; exact hb2.out.alloc _
    have bv1 : Blk w1 bv #[.int .i64 v.f0, .slice A1 v.f1.length c1, .slice A2 v.f2.length c2, .int .u64 v.f3, .int .u64 v.f4, .int .i64 v.f5] 41 := by rw [← hw1, ← hbv]; exact Blk.new wr _ _
    have bw1 : Below n0 w00 w1 := by rw [← hw1]; exact hbw.out.alloc (by have := hbw.out.size; omega) _
    rw [hw1, hbv]; clear hw1 hbv hj x0 x1 x2 x3 x4 x5; have S1 := Aside0.mk (SpW.mk bl1 bx1 bv1 bw1 (by have := bw1.size; omega)); clear bl1 bx1 bv1 bw1; have cx0 := S1.out.bx.cell 0 rfl; have cx1 := S1.out.bx.cell 1 rfl; have cv0 := S1.out.bv.cell 0 rfl; have cv1 := S1.out.bv.cell 1 rfl; have cv2 := S1.out.bv.cell 2 rfl; have cv3 := S1.out.bv.cell 3 rfl; have cv4 := S1.out.bv.cell 4 rfl; have cv5 := S1.out.bv.cell 5 rfl; cases hon : onV f up v.f3 v.f4 with
    | true =>
      have HON := Aside0.mk hon; clear hon; cases hf : decide (frm < 0) with
      | true =>
        have hfi := of_decide_eq_true hf
        have hr2 : spF l f up (l.length - (i + 1)) (i + 1) i = rest := by
          have h := hr.out; rw [show l.length - i = (l.length - (i + 1)) + 1 by omega, spF, HV.out, if_pos HON.out, if_pos hfi] at h; exact h
        have HR2 := Aside0.mk hr2; clear hr2; gi_wp2_with fail
        refine ⟨fun _ => by omega, ?_⟩; refine (callsIn_wide.2 (on_at HON.out _ _ _ _ _ _ _ _ h0 h1 _)).mono ?_; rintro e w2 ⟨rfl, hb⟩; have S2 := Aside0.mk (S1.out.below hb); have hj2 := HJ.out pre w1 w2 none hj1 (grown_below hb (Nat.le_refl _) _) (fun r e => by cases e); clear hb hj1; gi_wp2_with fail
        go_roundw
        case rel => exact ⟨i + 1, i, pre, rest, rfl, by go_num, ⟨by omega, .inr ⟨by omega, by omega⟩⟩, hp1, HR2, hj2, ⟨S2.out.bl⟩, ⟨S2.out.bx⟩, ⟨S2.out.bw⟩⟩
        case measure => simp [intOf]; omega
      | false =>
        have hfi := of_decide_eq_false hf
        have hr2 : spF l f up (l.length - (i + 1)) (i + 1) frm = rest := by
          have h := hr.out; rw [show l.length - i = (l.length - (i + 1)) + 1 by omega, spF, HV.out, if_pos HON.out, if_neg hfi] at h; exact h
        have HR2 := Aside0.mk hr2; clear hr2; gi_wp2_with fail
        refine ⟨fun _ => by omega, ?_⟩; refine (callsIn_wide.2 (on_at HON.out _ _ _ _ _ _ _ _ h0 h1 _)).mono ?_; rintro e w2 ⟨rfl, hb⟩; have S2 := Aside0.mk (S1.out.below hb); have hj2 := HJ.out pre w1 w2 none hj1 (grown_below hb (Nat.le_refl _) _) (fun r e => by cases e); clear hb hj1 cx0 cx1 cv0 cv1 cv2 cv3 cv4 cv5; have cx0 := S2.out.bx.cell 0 rfl; have cx1 := S2.out.bx.cell 1 rfl; have cv0 := S2.out.bv.cell 0 rfl; have cv1 := S2.out.bv.cell 1 rfl; have cv2 := S2.out.bv.cell 2 rfl; have cv3 := S2.out.bv.cell 3 rfl; have cv4 := S2.out.bv.cell 4 rfl; have cv5 := S2.out.bv.cell 5 rfl; gi_wp2_with fail
        refine ⟨fun _ => by omega, ?_⟩; refine (callsIn_wide.2 (on_at HON.out _ _ _ _ _ _ _ _ h0 h1 _)).mono ?_; rintro e w3 ⟨rfl, hb⟩; have S3 := Aside0.mk (S2.out.below hb); have hj3 := HJ.out pre w2 w3 none hj2 (grown_below hb (Nat.le_refl _) _) (fun r e => by cases e); clear hb hj2; gi_wp2_with fail
        go_roundw
        case rel => exact ⟨i + 1, frm, pre, rest, rfl, by go_num, ⟨by omega, by have := hi.out.2; omega⟩, hp1, HR2, hj3, ⟨S3.out.bl⟩, ⟨S3.out.bx⟩, ⟨S3.out.bw⟩⟩
        case measure => simp [intOf]; omega
    | false =>
      have HON := Aside0.mk hon; clear hon; gi_wp2_with fail
      refine ⟨fun _ => by omega, ?_⟩; refine (callsIn_wide.2 (on_at HON.out _ _ _ _ _ _ _ _ h0 h1 _)).mono ?_; rintro e w2 ⟨rfl, hb⟩; have S2 := Aside0.mk (S1.out.below hb); have hj2 := HJ.out pre w1 w2 none hj1 (grown_below hb (Nat.le_refl _) _) (fun r e => by cases e); clear hb hj1 cx0 cx1 cv0 cv1 cv2 cv3 cv4 cv5; have cx0 := S2.out.bx.cell 0 rfl; have cx1 := S2.out.bx.cell 1 rfl; have cv0 := S2.out.bv.cell 0 rfl; have cv1 := S2.out.bv.cell 1 rfl; have cv2 := S2.out.bv.cell 2 rfl; have cv3 := S2.out.bv.cell 3 rfl; have cv4 := S2.out.bv.cell 4 rfl; have cv5 := S2.out.bv.cell 5 rfl; cases hf : decide (frm ≥ 0) with
      | false =>
        have hfi := of_decide_eq_false hf
        have hr2 : spF l f up (l.length - (i + 1)) (i + 1) frm = rest := by
          have h := hr.out; rw [show l.length - i = (l.length - (i + 1)) + 1 by omega, spF, HV.out, if_neg (by rw [HON.out]; decide), if_neg hfi] at h; exact h
        have HR2 := Aside0.mk hr2; clear hr2; gi_wp2_with fail
        refine ⟨fun _ => by omega, ?_⟩; refine (callsIn_wide.2 (on_at HON.out _ _ _ _ _ _ _ _ h0 h1 _)).mono ?_; rintro e w3 ⟨rfl, hb⟩; have S3 := Aside0.mk (S2.out.below hb); have hj3 := HJ.out pre w2 w3 none hj2 (grown_below hb (Nat.le_refl _) _) (fun r e => by cases e); clear hb hj2; gi_wp2_with fail
        go_roundw
        case rel => exact ⟨i + 1, frm, pre, rest, rfl, by go_num, ⟨by omega, by have := hi.out.2; omega⟩, hp1, HR2, hj3, ⟨S3.out.bl⟩, ⟨S3.out.bx⟩, ⟨S3.out.bw⟩⟩
        case measure => simp [intOf]; omega
      | true =>
        have hfi := of_decide_eq_true hf; gi_wp2_with fail
        refine ⟨fun _ => by omega, ?_⟩; refine (callsIn_wide.2 (on_at HON.out _ _ _ _ _ _ _ _ h0 h1 _)).mono ?_; rintro e w3 ⟨rfl, hb⟩; have S3 := Aside0.mk (S2.out.below hb); have hj3 := HJ.out pre w2 w3 none hj2 (grown_below hb (Nat.le_refl _) _) (fun r e => by cases e); clear hb hj2 cx0 cx1 cv0 cv1 cv2 cv3 cv4 cv5; obtain ⟨m, rfl⟩ : ∃ m : Nat, frm = m := ⟨frm.toNat, by omega⟩; have hmi : m < i := by have := hi.out.2; omega
        obtain ⟨rest2, hr2, rfl⟩ : ∃ rest2, spF l f up (l.length - (i + 1)) (i + 1) (-1) = rest2 ∧ rest = (⟨(rd_T41 l (m : Int)).f0, v.f0⟩, true) :: rest2 := by
          have h := hr.out; rw [show l.length - i = (l.length - (i + 1)) + 1 by omega, spF, HV.out, if_neg (by rw [HON.out]; decide), if_pos hfi] at h; exact ⟨_, rfl, h.symm⟩
        have HR2 := Aside0.mk hr2; have hlen : pre.length < xs.length := by rw [hp1.out]; simp
        clear hr2 p1 q1; gi_wp2_with fail
        obtain ⟨ad2, A1', c1', A2', c2', e2, x0, x1, x2, x3, x4, x5, hl1, hi1, hl2, hi2⟩ := at_T41 (Kd.C_below HCC.out (by rw [h00]; exact S3.out.bw)) (m : Int) (by omega) (by omega); cases e2; clear hl1 hi1 hl2 hi2 x1 x2 x3 x4 x5; have p1 : (0 ≤ (m : Int)) = True := eq_true (by omega); have q1 : ((m : Int) < (l.length : Int)) = True := eq_true (by omega); obtain ⟨ft, hft⟩ : ∃ y, (rd_T41 l (m : Int)).f0 = y := ⟨_, rfl⟩; rw [hft, Int.toNat_natCast] at x0; have HFT := Aside0.mk hft; clear hft; have cl := S3.out.bl.cell; have cv0 := S3.out.bv.cell 0 rfl; refine wpIn_region_quiet_tail 9 (by kernel_rfl) (by kernel_rfl) (by kernel_rfl) ?_; simp only [List.take_succ_cons, List.take_zero, List.drop_succ_cons, List.drop_zero]; repeat (gi_big_quiet_step (fail))
        refine wpQuietIn_nil ?_; rintro _ ⟨nr, rfl⟩; have hj4 := HJ.out pre w3 (w3.drewN nr) none hj3 ⟨rfl, rfl, rfl, Nat.le_refl _, fun _ _ _ => rfl⟩ (fun r e => by cases e); obtain ⟨fn, tmps, assign, body, hyy, hR⟩ := HY.out pre (⟨ft, v.f0⟩, true) (w3.drewN nr) hj4 hlen; simp only [encS] at hyy; gi_wp2
        refine ⟨fun _ => by omega, hR.mono ?_⟩; rintro e W4 (⟨rfl, hJ4, hk4⟩ | ⟨rfl, hJx4⟩)
        · gi_wp2
          go_roundw
          case rel => exact ⟨i + 1, -1, _, rest2, rfl, by go_num, ⟨by omega, .inl rfl⟩, ⟨by rw [hp1.out, HFT.out]; simp⟩, HR2, hJ4, ⟨hk4.1.trans S3.out.bl⟩, ⟨hk4.2.1.trans S3.out.bx⟩, ⟨(pw_below_drewN S3.out.bw nr).trans hk4.2.2⟩⟩
          case measure => simp [intOf]; omega
        gi_wp2
        refine bodyPost_ret (results_none rfl _ _ _) rfl ?_; exact ⟨⟨_, rfl⟩, .inr ⟨_, ⟨rest2, by rw [hp1.out, HFT.out]; simp⟩, hJx4⟩⟩
  have hle : i = l.length := by have := hi.out.1; omega
  subst hle
  have hr0 : (if frm ≥ 0 then [((⟨(rd_T41 l frm).f0, wrap64 ((rd_T41 l ((l.length : Int) - 1)).f0 + 1)⟩ : S57), false)] else []) = rest := by
    have h := hr.out; rw [Nat.sub_self, spF] at h; exact h
  have HR0 := Aside0.mk hr0; clear hr0 hr; cases hf : decide (frm ≥ 0) with
  | false =>
    gi_wp2_with fail
    go_end0
    have hn : rest = [] := by rw [← HR0.out, if_neg (of_decide_eq_false hf)]
    exact ⟨⟨_, rfl⟩, .inl ⟨xs, rfl, by rw [hp1.out, hn, List.append_nil]; exact hj⟩⟩
  | true =>
    have hfi := of_decide_eq_true hf; obtain ⟨m, rfl⟩ : ∃ m : Nat, frm = m := ⟨frm.toNat, by omega⟩; have hmi : m < l.length := by have := hi.out.2; omega
    have hn : rest = [(⟨(rd_T41 l (m : Int)).f0, wrap64 ((rd_T41 l ((l.length : Int) - 1)).f0 + 1)⟩, false)] := by rw [← HR0.out, if_pos hfi]
    have hlen : pre.length < xs.length := by rw [hp1.out, hn]; simp
    have HN := Aside0.mk hn; clear hn; gi_wp2_with fail
    obtain ⟨ad2, A1', c1', A2', c2', e2, x0, x1, x2, x3, x4, x5, hl1, hi1, hl2, hi2⟩ := at_T41 (Kd.C_below HCC.out (by rw [h00]; exact hbw.out)) (m : Int) (by omega) (by omega); obtain ⟨ad3, A1', c1', A2', c2', e3, y0, y1, y2, y3, y4, y5, gl1, gi1, gl2, gi2⟩ := at_T41 (Kd.C_below HCC.out (by rw [h00]; exact hbw.out)) ((l.length : Int) - 1) (by omega) (by omega); cases e2; cases e3; clear hl1 hi1 hl2 hi2 x1 x2 x3 x4 x5 y1 y2 y3 y4 y5 gl1 gi1 gl2 gi2; have p1 : (0 ≤ (m : Int)) = True := eq_true (by omega); have q1 : ((m : Int) < (l.length : Int)) = True := eq_true (by omega); have p2 : (0 ≤ (l.length : Int) - 1) = True := eq_true (by omega); have p3 : (1 ≤ (l.length : Int)) = True := eq_true (by omega); have q2 : ((l.length : Int) - 1 < (l.length : Int)) = True := eq_true (by omega); obtain ⟨ft, hft⟩ : ∃ y, (rd_T41 l (m : Int)).f0 = y := ⟨_, rfl⟩; obtain ⟨gt, hgt⟩ : ∃ y, (rd_T41 l ((l.length : Int) - 1)).f0 = y := ⟨_, rfl⟩; rw [hft, Int.toNat_natCast] at x0; rw [hgt] at y0; have y1 := y0; rw [show ((l.length : Int) - 1).toNat = l.length - 1 by omega] at y1; have HFT := Aside0.mk hft; have HGT := Aside0.mk hgt; clear hft hgt; have cl := hb1.out.cell; refine wpIn_region_quiet_tail 15 (by kernel_rfl) (by kernel_rfl) (by kernel_rfl) ?_; simp only [List.take_succ_cons, List.take_zero, List.drop_succ_cons, List.drop_zero]; repeat (gi_big_quiet_step (fail))
    refine wpQuietIn_nil ?_; rintro _ ⟨nr, rfl⟩; have hj4 := HJ.out pre wr (wr.drewN nr) none hj ⟨rfl, rfl, rfl, Nat.le_refl _, fun _ _ _ => rfl⟩ (fun r e => by cases e); obtain ⟨fn, tmps, assign, body, hyy, hR⟩ := HY.out pre (⟨ft, wrap64 (gt + 1)⟩, false) (wr.drewN nr) hj4 hlen; simp only [encS] at hyy; gi_wp2
    refine ⟨fun _ => by omega, hR.mono ?_⟩; rintro e W4 (⟨rfl, hJ4, hk4⟩ | ⟨rfl, hJx4⟩)
    · gi_wp2
      go_end0
      exact ⟨⟨_, rfl⟩, .inl ⟨xs, rfl, by rw [hp1.out, HN.out, HFT.out, HGT.out]; exact hJ4⟩⟩
    gi_wp2
    go_end0
    exact ⟨⟨_, rfl⟩, .inr ⟨_, ⟨[], by rw [hp1.out, HN.out, HFT.out, HGT.out]; simp⟩, hJx4⟩⟩

end Go.Proofs.YtenlokaaloenmaaDoor.S
end

section
namespace Go.Proofs.YtenlokaaloenmaaDoor.S
open Go.RowKit Go.Proofs.YtenlokaaloenmaaDoorW.PrintWords Go.Proofs.YtenlokaaloenmaaDoorW.PrintLast Go.Proofs.YtenlokaaloenmaaDoorW.PrintMore
set_option linter.unusedVariables false
set_option linter.unusedSimpArgs false

/-- One more at a place. -/
def incI (a : List Int) (i : Nat) : List Int := a.set i (wrap64 (rd a (i : Int) + 1))
theorem incI_len (a : List Int) (i : Nat) : (incI a i).length = a.length := by simp [incI]
def repF (r : List Int) (l : List S66) : List Int := l.foldl (fun r x => incI r (x.f1 - 1).toNat) r
/-- Whether a car is open at a width. -/
def opn (s : S43) (w : Int) : Bool := if s.f0 ≥ 0 then s.f1 == w else false
abbrev R3 := List Int × List Int × List Int
def sgF (w : Int) (s : S43) (i : Nat) (st : R3) : R3 :=
  (if s.f0 ≥ 0 then incI st.1 i else st.1, if s.f2 = true then incI st.2.1 i else st.2.1, if opn s w = true then incI st.2.2 i else st.2.2)
def sgL (w : Int) : List S43 → Nat → R3 → R3
  | [], _, st => st
  | s :: l, i, st => sgL w l (i + 1) (sgF w s i st)
def vwF (w : Int) (st : List Int × R3) (v : S41) : List Int × R3 := (repF st.1 v.f1, sgL w v.f2 0 st.2)
def cntV (w : Int) (l : List S41) (st : List Int × R3) : List Int × R3 := l.foldl (vwF w) st
def len3 (st : R3) (m : Nat) : Prop := st.1.length = m ∧ st.2.1.length = m ∧ st.2.2.length = m
/-- The cells of the numbers. -/
def numC (r : List Int) (a b c d : Int) (va vb vc : Value) : Array Value := (nums .i64 r ++ [.int .i64 a, .int .i64 b, .int .i64 c, .int .i64 d, va, vb, vc]).toArray
theorem len6 {r : List Int} (h : r.length = 6) : ∃ a b c d e f, r = [a, b, c, d, e, f] := by
  match r, h with
  | [a, b, c, d, e, f], _ => exact ⟨a, b, c, d, e, f, rfl⟩
def zer6 : List Int := [0, 0, 0, 0, 0, 0]
/-- The numbers as a value. -/
def numV (r : List Int) (a b c d : Int) (va vb vc : Value) : Value := .agg (numC r a b c d va vb vc)

theorem rowC_at (l : List Int) (i : Nat) (h : i < l.length) : ((nums .i64 l).toArray)[i]? = some (.int .i64 (rd l (i : Int))) := by
  simp [nums, rd, List.getElem?_eq_getElem h]
theorem rowC_set (l : List Int) (i : Nat) (x : Int) : ((nums .i64 l).toArray).setIfInBounds i (.int .i64 x) = (nums .i64 (l.set i x)).toArray := by
  simp [nums, List.map_set]
theorem Blk.inc {w : World} {B : Nat} {l : List Int} {t : TypeId} (h : Blk w B (nums .i64 l).toArray t) (i : Nat) : Blk (w.setCell ⟨B, i, none⟩ (.int .i64 (wrap64 (rd l (i : Int) + 1)))) B (nums .i64 (incI l i)).toArray t := by
  have h2 := h.set i (.int .i64 (wrap64 (rd l (i : Int) + 1)))
  rw [rowC_set] at h2
  exact h2
theorem Blk.ne {W : World} {b g : Nat} {cs cs' : Array Value} {t t' : TypeId} (h : Blk W b cs t) (h' : Blk W g cs' t') (ht : t ≠ t') : ¬ b = g := by
  rintro rfl
  unfold Blk at h h'
  rw [h] at h'
  injection h' with h'
  injection h' with _ e
  exact ht e

/-- A row of counts: none, or a block of its own. -/
def RowI (W : World) (base : Nat) (v : Value) (l : List Int) : Prop := (v = .slice none 0 0 ∧ l = []) ∨ ∃ g, v = .slice (some ⟨g, 0, none⟩) l.length l.length ∧ base ≤ g ∧ Blk W g (nums .i64 l).toArray 3
theorem RowI.R {W : World} {base : Nat} {v : Value} {l : List Int} (h : RowI W base v l) (hl : l.length ≤ 1000000) : Kd.R (Kd.int .i64) 3 W base (fun _ => True) v l := by
  rcases h with ⟨rfl, rfl⟩ | ⟨g, rfl, hb, hg⟩
  · exact Kd.R_nil _ _ _ _ _
  · refine Kd.R_of_own (enc := fun x => .int .i64 x) ?_ (fun _ _ => trivial)
    refine ⟨by simp [encs], .inr ⟨g, l.length, (nums .i64 l).toArray, rfl, hb, hg, Nat.le_refl _, by unfold maxLen; omega, by simp [nums], ?_⟩⟩
    simp only [nums, encs, Nat.mul_one]
    exact List.take_of_length_le (by simp)
theorem RowI.keep {W W' : World} {base : Nat} {v : Value} {l : List Int} (h : RowI W base v l) (hk : ∀ g, v = .slice (some ⟨g, 0, none⟩) l.length l.length → g < W.heap.size → W'.heap[g]? = W.heap[g]?) : RowI W' base v l := by
  rcases h with h | ⟨g, hv, hb, hg⟩
  · exact .inl h
  · exact .inr ⟨g, hv, hb, (hk g hv hg.lt).trans hg⟩
theorem RowI.below {W W' : World} {base : Nat} {v : Value} {l : List Int} (h : RowI W base v l) (hb : Below W.heap.size W W') : RowI W' base v l := h.keep fun g _ hl => hb.block g hl

abbrev X4 := Int × Int × Int × Int
/-- The numbers and their rows in memory, the counts of the views being known. -/
structure RsW (b0 : Nat) (w0 : World) (B : Nat) (zs : Array Value) (va vb vc : Value) (r : List Int) (s : R3) (x : X4) (W : World) : Prop where
  z : Blk W b0 zs 29
  n : Blk W B (numC r x.1 x.2.1 x.2.2.1 x.2.2.2 va vb vc) 29
  a : RowI W (B + 1) va s.1
  b : RowI W (B + 1) vb s.2.1
  c : RowI W (B + 1) vc s.2.2
  k : Below b0 w0 W
  o : b0 < B
theorem RsW.below {b0 : Nat} {w0 W W' : World} {B : Nat} {zs : Array Value} {va vb vc : Value} {r : List Int} {s : R3} {x : X4} (h : RsW b0 w0 B zs va vb vc r s x W) (hb : Below W.heap.size W W') : RsW b0 w0 B zs va vb vc r s x W' :=
  ⟨h.z.below hb h.z.lt, h.n.below hb h.n.lt, h.a.below hb, h.b.below hb, h.c.below hb, h.k.trans (hb.mono (by have := h.o; have := h.n.lt; omega)), h.o⟩
theorem RsW.alloc {b0 : Nat} {w0 W : World} {B : Nat} {zs : Array Value} {va vb vc : Value} {r : List Int} {s : R3} {x : X4} (h : RsW b0 w0 B zs va vb vc r s x W) (o : Obj) : RsW b0 w0 B zs va vb vc r s x (W.alloc o) := h.below (below_alloc (Below.refl _ _) o)
theorem RowI.far {W : World} {base : Nat} {v : Value} {l : List Int} (h : RowI W base v l) (a : Addr) (u : Value) (hb : a.block < base) : RowI (W.setCell a u) base v l := by
  rcases h with h | ⟨g, hv, hg, hk⟩
  · exact .inl h
  · exact .inr ⟨g, hv, hg, hk.far a u (by omega)⟩
theorem RsW.put {b0 : Nat} {w0 W : World} {B : Nat} {zs : Array Value} {va vb vc : Value} {r : List Int} {s : R3} {x y : X4} (h : RsW b0 w0 B zs va vb vc r s x W) (i : Nat) (u : Value)
    (he : (numC r x.1 x.2.1 x.2.2.1 x.2.2.2 va vb vc).setIfInBounds i u = numC r y.1 y.2.1 y.2.2.1 y.2.2.2 va vb vc) : RsW b0 w0 B zs va vb vc r s y (W.setCell ⟨B, i, none⟩ u) :=
  ⟨h.z.far _ _ (by have := h.o; show ¬ b0 = B; omega), by rw [← he]; exact h.n.set i u, h.a.far _ _ (by simp), h.b.far _ _ (by simp), h.c.far _ _ (by simp), h.k.setCell (p := ⟨B, i, none⟩) (Nat.le_of_lt h.o) u, h.o⟩
theorem numC_s6 {r : List Int} (hr : r.length = 6) (a b c d x : Int) (va vb vc : Value) : (numC r a b c d va vb vc).setIfInBounds 6 (.int .i64 x) = numC r x b c d va vb vc := by
  obtain ⟨_, _, _, _, _, _, rfl⟩ := len6 hr; rfl
theorem numC_s7 {r : List Int} (hr : r.length = 6) (a b c d x : Int) (va vb vc : Value) : (numC r a b c d va vb vc).setIfInBounds 7 (.int .i64 x) = numC r a x c d va vb vc := by
  obtain ⟨_, _, _, _, _, _, rfl⟩ := len6 hr; rfl
theorem numC_s8 {r : List Int} (hr : r.length = 6) (a b c d x : Int) (va vb vc : Value) : (numC r a b c d va vb vc).setIfInBounds 8 (.int .i64 x) = numC r a b x d va vb vc := by
  obtain ⟨_, _, _, _, _, _, rfl⟩ := len6 hr; rfl
theorem numC_s9 {r : List Int} (hr : r.length = 6) (a b c d x : Int) (va vb vc : Value) : (numC r a b c d va vb vc).setIfInBounds 9 (.int .i64 x) = numC r a b c x va vb vc := by
  obtain ⟨_, _, _, _, _, _, rfl⟩ := len6 hr; rfl

/-- Thirteen cells of a block stored one by one. -/
def put13 (W : World) (b : Nat) (v0 v1 v2 v3 v4 v5 v6 v7 v8 v9 v10 v11 v12 : Value) : World := (((((((((((((W.setCell ⟨b, 0, none⟩ v0).setCell ⟨b, 1, none⟩ v1).setCell ⟨b, 2, none⟩ v2).setCell ⟨b, 3, none⟩ v3).setCell ⟨b, 4, none⟩ v4).setCell ⟨b, 5, none⟩ v5).setCell ⟨b, 6, none⟩ v6).setCell ⟨b, 7, none⟩ v7).setCell ⟨b, 8, none⟩ v8).setCell ⟨b, 9, none⟩ v9).setCell ⟨b, 10, none⟩ v10).setCell ⟨b, 11, none⟩ v11).setCell ⟨b, 12, none⟩ v12)
theorem put13_blk {W : World} {b : Nat} {t : TypeId} {z0 z1 z2 z3 z4 z5 z6 z7 z8 z9 z10 z11 z12 : Value} (h : Blk W b #[z0, z1, z2, z3, z4, z5, z6, z7, z8, z9, z10, z11, z12] t) (v0 v1 v2 v3 v4 v5 v6 v7 v8 v9 v10 v11 v12 : Value) : Blk (put13 W b v0 v1 v2 v3 v4 v5 v6 v7 v8 v9 v10 v11 v12) b #[v0, v1, v2, v3, v4, v5, v6, v7, v8, v9, v10, v11, v12] t := by
  have h2 := (((((((((((((h.set 0 v0).set 1 v1).set 2 v2).set 3 v3).set 4 v4).set 5 v5).set 6 v6).set 7 v7).set 8 v8).set 9 v9).set 10 v10).set 11 v11).set 12 v12)
  simp only [List.setIfInBounds_toArray, List.set_cons_zero, List.set_cons_succ] at h2
  exact h2
theorem put13_far (W : World) (b : Nat) (v0 v1 v2 v3 v4 v5 v6 v7 v8 v9 v10 v11 v12 : Value) (j : Nat) (hj : j ≠ b) : (put13 W b v0 v1 v2 v3 v4 v5 v6 v7 v8 v9 v10 v11 v12).heap[j]? = W.heap[j]? := (Below.heap_setCell _ ⟨b, 12, none⟩ v12 j hj).trans ((Below.heap_setCell _ ⟨b, 11, none⟩ v11 j hj).trans ((Below.heap_setCell _ ⟨b, 10, none⟩ v10 j hj).trans ((Below.heap_setCell _ ⟨b, 9, none⟩ v9 j hj).trans ((Below.heap_setCell _ ⟨b, 8, none⟩ v8 j hj).trans ((Below.heap_setCell _ ⟨b, 7, none⟩ v7 j hj).trans ((Below.heap_setCell _ ⟨b, 6, none⟩ v6 j hj).trans ((Below.heap_setCell _ ⟨b, 5, none⟩ v5 j hj).trans ((Below.heap_setCell _ ⟨b, 4, none⟩ v4 j hj).trans ((Below.heap_setCell _ ⟨b, 3, none⟩ v3 j hj).trans ((Below.heap_setCell _ ⟨b, 2, none⟩ v2 j hj).trans ((Below.heap_setCell _ ⟨b, 1, none⟩ v1 j hj).trans (Below.heap_setCell _ ⟨b, 0, none⟩ v0 j hj))))))))))))
theorem put13_below (W : World) (b n : Nat) (v0 v1 v2 v3 v4 v5 v6 v7 v8 v9 v10 v11 v12 : Value) (hn : n ≤ b) : Below n W (put13 W b v0 v1 v2 v3 v4 v5 v6 v7 v8 v9 v10 v11 v12) := ((((((((((((((Below.refl n W).setCell (p := ⟨b, 0, none⟩) hn v0).setCell (p := ⟨b, 1, none⟩) hn v1).setCell (p := ⟨b, 2, none⟩) hn v2).setCell (p := ⟨b, 3, none⟩) hn v3).setCell (p := ⟨b, 4, none⟩) hn v4).setCell (p := ⟨b, 5, none⟩) hn v5).setCell (p := ⟨b, 6, none⟩) hn v6).setCell (p := ⟨b, 7, none⟩) hn v7).setCell (p := ⟨b, 8, none⟩) hn v8).setCell (p := ⟨b, 9, none⟩) hn v9).setCell (p := ⟨b, 10, none⟩) hn v10).setCell (p := ⟨b, 11, none⟩) hn v11).setCell (p := ⟨b, 12, none⟩) hn v12)

/-- Six cells stored one by one. -/
def put6 (W : World) (b : Nat) (v0 v1 v2 v3 v4 v5 : Value) : World := ((((((W.setCell ⟨b, 0, none⟩ v0).setCell ⟨b, 1, none⟩ v1).setCell ⟨b, 2, none⟩ v2).setCell ⟨b, 3, none⟩ v3).setCell ⟨b, 4, none⟩ v4).setCell ⟨b, 5, none⟩ v5)
theorem put6_far (W : World) (b : Nat) (v0 v1 v2 v3 v4 v5 : Value) (j : Nat) (hj : j ≠ b) : (put6 W b v0 v1 v2 v3 v4 v5).heap[j]? = W.heap[j]? := (Below.heap_setCell _ ⟨b, 5, none⟩ v5 j hj).trans ((Below.heap_setCell _ ⟨b, 4, none⟩ v4 j hj).trans ((Below.heap_setCell _ ⟨b, 3, none⟩ v3 j hj).trans ((Below.heap_setCell _ ⟨b, 2, none⟩ v2 j hj).trans ((Below.heap_setCell _ ⟨b, 1, none⟩ v1 j hj).trans (Below.heap_setCell _ ⟨b, 0, none⟩ v0 j hj)))))
theorem put6_below (W : World) (b n : Nat) (v0 v1 v2 v3 v4 v5 : Value) (hn : n ≤ b) : Below n W (put6 W b v0 v1 v2 v3 v4 v5) := (((((((Below.refl n W).setCell (p := ⟨b, 0, none⟩) hn v0).setCell (p := ⟨b, 1, none⟩) hn v1).setCell (p := ⟨b, 2, none⟩) hn v2).setCell (p := ⟨b, 3, none⟩) hn v3).setCell (p := ⟨b, 4, none⟩) hn v4).setCell (p := ⟨b, 5, none⟩) hn v5)
theorem put6_num {W : World} {b : Nat} {t : TypeId} {x0 x1 x2 x3 : Int} {va vb vc : Value} (h : Blk W b (numC zer6 x0 x1 x2 x3 va vb vc) t) (r0 r1 r2 r3 r4 r5 : Int) :
    Blk (put6 W b (.int .i64 r0) (.int .i64 r1) (.int .i64 r2) (.int .i64 r3) (.int .i64 r4) (.int .i64 r5)) b (numC [r0, r1, r2, r3, r4, r5] x0 x1 x2 x3 va vb vc) t := by
  have h2 := ((((((h.set 0 (.int .i64 r0)).set 1 (.int .i64 r1)).set 2 (.int .i64 r2)).set 3 (.int .i64 r3)).set 4 (.int .i64 r4)).set 5 (.int .i64 r5))
  simp only [numC, zer6, nums, List.map_cons, List.map_nil, List.cons_append, List.nil_append, List.setIfInBounds_toArray, List.set_cons_zero, List.set_cons_succ] at h2
  exact h2

/-- The numbers of a run. -/
structure Num where
  r : List Int
  lit : Int
  out : Int
  sum : Int
  most : Int
  a : List Int
  b : List Int
  c : List Int
def num0 : Num := ⟨zer6, 0, 0, 0, 0, [], [], []⟩
def numOf (st : List Int × R3) (x : X4) : Num := ⟨st.1, x.1, x.2.1, x.2.2.1, x.2.2.2, st.2.1, st.2.2.1, st.2.2.2⟩
/-- A value that holds these numbers, its rows the call's own. -/
def NumR (W : World) (base : Nat) (v : Value) (n : Num) : Prop := ∃ va vb vc, v = numV n.r n.lit n.out n.sum n.most va vb vc ∧ n.r.length = 6 ∧ RowI W base va n.a ∧ RowI W base vb n.b ∧ RowI W base vc n.c
theorem RowI.lower {W : World} {base base' : Nat} {v : Value} {l : List Int} (h : RowI W base v l) (hb : base' ≤ base) : RowI W base' v l := by
  rcases h with h | ⟨g, hv, hg, hk⟩
  · exact .inl h
  · exact .inr ⟨g, hv, by omega, hk⟩
theorem NumR.zero (W : World) (base : Nat) : NumR W base (numV zer6 0 0 0 0 (.slice none 0 0) (.slice none 0 0) (.slice none 0 0)) num0 := ⟨_, _, _, rfl, rfl, .inl ⟨rfl, rfl⟩, .inl ⟨rfl, rfl⟩, .inl ⟨rfl, rfl⟩⟩
theorem NumR.below {W W' : World} {base : Nat} {v : Value} {n : Num} (h : NumR W base v n) (hb : Below W.heap.size W W') : NumR W' base v n := by
  obtain ⟨va, vb, vc, hv, hr, h1, h2, h3⟩ := h
  exact ⟨va, vb, vc, hv, hr, h1.below hb, h2.below hb, h3.below hb⟩
/-- The numbers in memory, copied into the block of the result. -/
theorem RsW.done {b0 : Nat} {w0 W : World} {B : Nat} {zs : Array Value} {va vb vc : Value} {r : List Int} {s : R3} {x : X4} (h : RsW b0 w0 B zs va vb vc r s x W) (hr : r.length = 6) {W' : World} (hf : ∀ j, j ≠ b0 → W'.heap[j]? = W.heap[j]?) : NumR W' b0 (numV r x.1 x.2.1 x.2.2.1 x.2.2.2 va vb vc) (numOf (r, s) x) := by
  have hk : ∀ {v : Value} {l : List Int}, RowI W (B + 1) v l → RowI W' b0 v l := by
    intro v l hl
    rcases hl with hl | ⟨g, hv, hg, hk⟩
    · exact .inl hl
    · exact .inr ⟨g, hv, by have := h.o; omega, (hf g (by have := h.o; omega)).trans hk⟩
  exact ⟨va, vb, vc, rfl, hr, hk h.a, hk h.b, hk h.c⟩

theorem zer_made (m : Nat) : madeCells #[Value.int .i64 0] m = (nums .i64 (List.replicate m 0)).toArray := by
  apply Array.ext
  · simp [nums, madeCells]
  · intro i h1 h2
    simp [nums, madeCells, Nat.mod_one]

section
variable {P : Program} {ops : Array Oper} {o : Oper} {a : Act} {Q : Exit → Act → World → Prop} {Kc : Act → World → Prop}
theorem made_step {W : World} (hw : Region.wanted o (yielded ops a.tmps) = true) {N : Tmp} (_hd : o.dst = some N) {m : Nat}
    (hrun : (execOp a.eval o).run P W = .ok (.value (.slice (some ⟨W.heap.size, 0, none⟩) m m)) (W.alloc (.cells (madeCells #[.int .i64 0] m) 3 (0, 0))))
    (h : ∀ g, g = W.heap.size → ∀ w1, Blk w1 g (nums .i64 (List.replicate m 0)).toArray 3 → Below W.heap.size W w1 → Kc (a.put o.dst (.slice (some ⟨g, 0, none⟩) m m)) w1) : if Region.wanted o (yielded ops a.tmps) = true then Oper.wp P o a W Kc Q else Kc (a.put o.dst undef) W :=
  event_step hw hrun (h _ rfl _ (by rw [← zer_made]; exact Blk.new W _ _) (below_alloc (Below.refl _ _) _))
end

end Go.Proofs.YtenlokaaloenmaaDoor.S
end

section
namespace Go.Proofs.YtenlokaaloenmaaDoor.S
open Go.RowKit Go.Proofs.YtenlokaaloenmaaDoorW.PrintWords Go.Proofs.YtenlokaaloenmaaDoorW.PrintLast Go.Proofs.YtenlokaaloenmaaDoorW.PrintMore
set_option linter.unusedVariables false
set_option linter.unusedSimpArgs false

/-- A list without elements in a block of its own. -/
theorem empty_R {α : Type} (d : Kd α) (t : Nat) (w : World) (base : Nat) (ok : Nat → Prop) (g : Nat) (h : Blk w g #[] t) (hb : base ≤ g) (ho : ok g) : Kd.R d t w base ok (.slice (some ⟨g, 0, none⟩) 0 0) [] := by
  refine ⟨fun k hk => ?_, [], ⟨by simp, .inr ⟨g, 0, #[], rfl, hb, h, Nat.le_refl _, by decide, by simp, by simp⟩⟩, ⟨by simp, fun j p hj => by simp at hj⟩⟩; have : g = k := by simpa [Value.ownBlock] using hk
  rw [← this]; exact ho
theorem bytes12 {α : Type} {n b : Nat} (h : n ≤ 12) (hb : b ≤ 1000) : (([] : List α).length + n) * b ≤ 140737488355328 := by
  have h1 := Nat.mul_le_mul h hb; simp only [List.length_nil, Nat.zero_add]; omega
def Rr66 (x : S66) (cs : List Value) : Prop := cs = [.int .i64 x.f0, .int .i64 x.f1]
def Rr43 (x : S43) (cs : List Value) : Prop := cs = [.int .i64 x.f0, .int .i64 x.f1, .bool x.f2]
theorem reads66 {W : World} {A : Option Addr} {n : Nat} {xs : List S66} (h : Kd.C k66 W A n xs) : ReadsRow Rr66 k66.sz W A n xs :=
  ⟨h.1, h.2.1, fun hn => by
    obtain ⟨ad, e, hc⟩ := h.2.2 hn; exact ⟨ad, e, fun j p hj => by obtain ⟨c, h1, h2, h3⟩ := hc j p hj; exact ⟨c, h1, k66_open h2, h3⟩⟩⟩
theorem reads43 {W : World} {A : Option Addr} {n : Nat} {xs : List S43} (h : Kd.C k43 W A n xs) : ReadsRow Rr43 k43.sz W A n xs :=
  ⟨h.1, h.2.1, fun hn => by
    obtain ⟨ad, e, hc⟩ := h.2.2 hn; exact ⟨ad, e, fun j p hj => by obtain ⟨c, h1, h2, h3⟩ := hc j p hj; exact ⟨c, h1, k43_open h2, h3⟩⟩⟩
section
variable {P : Program} {ops : Array Oper} {o : Oper} {a : Act} {Q : Exit → Act → World → Prop} {Kc : Act → World → Prop}
theorem empty_step {W : World} (hw : Region.wanted o (yielded ops a.tmps) = true) {N : Tmp} (_hd : o.dst = some N) {t : TypeId}
    (hrun : (execOp a.eval o).run P W = .ok (.value (.slice (some ⟨W.heap.size, 0, none⟩) 0 0)) (W.alloc (.cells #[] t (0, 0))))
    (h : ∀ g, g = W.heap.size → ∀ w1, Blk w1 g #[] t → Below W.heap.size W w1 → Kc (a.put o.dst (.slice (some ⟨g, 0, none⟩) 0 0)) w1) : if Region.wanted o (yielded ops a.tmps) = true then Oper.wp P o a W Kc Q else Kc (a.put o.dst undef) W :=
  event_step hw hrun (h _ rfl _ (Blk.new W _ _) (below_alloc (Below.refl _ _) _))
end

set_option maxHeartbeats 8000000 in
set_option maxRecDepth 100000 in
theorem own_calls (A0 : Option Addr) (c0 : Nat) (l0 : List S41) (w : World) (hr0 : Kd.C k41 w A0 l0.length l0) (hc0 : l0.length ≤ c0) (hl : l0.length ≤ 20010) (h12 : ∀ v ∈ l0, v.f1.length ≤ 12 ∧ v.f2.length ≤ 12) :
    Calls Tryd.prog 16 #[.slice A0 l0.length c0] w fun e w' => ∃ v, e = .returned v ∧ Kd.S k41 41 w' w.heap.size (fun _ => True) v l0 ∧ Below w.heap.size w w' := by
  have hu41 := Tryd.underlying41; have HC := Aside0.mk hr0; have H12A := Aside0.mk h12; clear hr0 h12; go_enter Tryd.func16, Tryd.ntmps16
  go_wp2_with fail; go_loopw [3, 4] (fun v3 v4 wr => ∃ i : Nat, v4 = .int .i64 i ∧ i ≤ l0.length ∧ Aside0 (Kd.S k41 41 wr w.heap.size (fun _ => True) v3 (l0.take i)) ∧ Aside0 (Below w.heap.size w wr)) (fun _ v4 _ => l0.length - (intOf v4).toNat)
  case atStart => exact ⟨0, rfl, by omega, ⟨Kd.S_nil _ _ _ _ _⟩, ⟨Below.refl _ _⟩⟩
  obtain ⟨i, rfl, hi, hR, hBw⟩ := hrel; by_cases hlt : i < l0.length
  · have hc : decide ((i : Int) < (l0.length : Int)) = true := decide_eq_true (by omega); obtain ⟨ad, A1, c1, A2, c2, ea, x0, x1, x2, x3, x4, x5, l1, g1', l2, g2'⟩ := at_T41 HC.out (i : Int) (by omega) (by omega); replace x0 := kc_ hBw.out x0; replace x1 := kc_ hBw.out x1; replace x2 := kc_ hBw.out x2; replace x3 := kc_ hBw.out x3; replace x4 := kc_ hBw.out x4; replace x5 := kc_ hBw.out x5; have h12p := H12A.out _ (show rd_T41 l0 (i : Int) ∈ l0 by unfold rd_T41; simp [hlt])
    have htk : l0.take (i + 1) = l0.take i ++ [rd_T41 l0 (i : Int)] := by
      rw [List.take_add_one]; unfold rd_T41; simp [hlt]
    obtain ⟨p, hp⟩ : ∃ p, rd_T41 l0 (i : Int) = p := ⟨_, rfl⟩; rw [hp] at x0 x1 x2 x3 x4 x5 l1 l2 g1' g2' h12p htk; rw [Int.toNat_natCast] at x0 x1 x2 x3 x4 x5; cases ea; have G1 := Aside0.mk g1'; have G2 := Aside0.mk g2'; have H12 := Aside0.mk h12p; have HTK := Aside0.mk htk; clear g1' g2' h12p htk hp; go_upto_region 6 with (fail)
    obtain ⟨bv, hbv⟩ : ∃ X_, wr.heap.size = X_ := ⟨_, rfl⟩; obtain ⟨wv, hwv⟩ : ∃ X_, wr.alloc (.cells #[.int .i64 p.f0, .slice A1 p.f1.length c1, .slice A2 p.f2.length c2, .int .u64 p.f3, .int .u64 p.f4, .int .i64 p.f5] 41) = X_ := ⟨_, rfl⟩; rw [hwv, hbv]; have hV : Blk wv bv #[.int .i64 p.f0, .slice A1 p.f1.length c1, .slice A2 p.f2.length c2, .int .u64 p.f3, .int .u64 p.f4, .int .i64 p.f5] 41 := by rw [← hwv, ← hbv]; exact Blk.new wr _ _
    have hO : Kd.S k41 41 wv w.heap.size (fun k => k < bv) u3 (l0.take i) := by
      rw [← hwv, ← hbv]; exact Kd.S_alloc (Kd.S_mono (Kd.S_bound hR.out) (fun k hk => hk.2.2.1)) _
    have hB : Below w.heap.size w wv := by rw [← hwv]; exact hBw.out.alloc hBw.out.size _
    have HV := Aside0.mk hV; have HO := Aside0.mk hO; have HB := Aside0.mk hB; have HS := Aside0.mk hV.lt; have NBV : Aside0 (w.heap.size ≤ bv) := ⟨by rw [← hbv]; exact hBw.out.size⟩; clear hV hO hB hwv hbv hR hBw x0 x1 x2 x3 x4 x5
    -- REGION6
    refine start_ (n := 12) (S := fun w' => w'.cell? ⟨bv, 1, none⟩ = some (.slice A1 p.f1.length c1) ∧ w'.cell? ⟨bv, 2, none⟩ = some (.slice A2 p.f2.length c2)) (ds := [9, 11]) #[false, false, false, false, false, false, false, false, false, false, false, false] (by kernel_rfl) rfl rfl ⟨HV.out.cell 1 rfl, HV.out.cell 2 rfl⟩ (fun hHeld => ?_); refine pure_ (i := 1) (N := some 17) (v := ?_) (a' := ?_) #[false, true, false, false, false, false, false, false, false, false, false, false] rfl rfl (by kernel_rfl) (fun _ _ _ h => h) (Or.inl ⟨by rfl, ?_⟩) ?_ ?_; rotate_left
    · intro w'; go_simp; with_reducible rfl
    rotate_left
    · simp only [Act.put, List.setIfInBounds_toArray, List.set_cons_zero, List.set_cons_succ, i64_w, i32_w]; rfl
    refine pure_ (i := 5) (N := some 21) (v := ?_) (a' := ?_) #[false, true, false, false, false, true, false, false, false, false, false, false] rfl rfl (by kernel_rfl) (fun _ _ _ h => h) (Or.inl ⟨by rfl, ?_⟩) ?_ ?_; rotate_left
    · intro w'; go_simp; with_reducible rfl
    rotate_left
    · simp only [Act.put, List.setIfInBounds_toArray, List.set_cons_zero, List.set_cons_succ, i64_w, i32_w]; rfl
    refine take_ (i := 2) (N := some 18) (v := ?_) (a' := ?_) #[false, true, true, false, false, true, false, false, false, false, false, false] rfl rfl (by kernel_rfl) (fun _ _ _ h => h) (Or.inl ⟨by rfl, ?_⟩) hHeld ?_ ?_; rotate_left
    · rintro w' ⟨s0, s1⟩; go_simp; with_reducible rfl
    rotate_left
    · simp only [Act.put, List.setIfInBounds_toArray, List.set_cons_zero, List.set_cons_succ, i64_w, i32_w]; rfl
    refine take_ (i := 6) (N := some 22) (v := ?_) (a' := ?_) #[false, true, true, false, false, true, true, false, false, false, false, false] rfl rfl (by kernel_rfl) (fun _ _ _ h => h) (Or.inl ⟨by rfl, ?_⟩) hHeld ?_ ?_; rotate_left
    · rintro w' ⟨s0, s1⟩; go_simp; with_reducible rfl
    rotate_left
    · simp only [Act.put, List.setIfInBounds_toArray, List.set_cons_zero, List.set_cons_succ, i64_w, i32_w]; rfl
    refine join_ (σ := Nat × Nat × Option Addr × Nat) 4 #[true, true, true, true, true, true, true, false, true, false, false, false] (fun | (g0, g4, a19, c19) => [(16, .slice (some ⟨g0, 0, none⟩) 0 0), (19, .slice a19 p.f1.length c19), (20, .slice (some ⟨g4, 0, none⟩) 0 0), (24, .pointer (some ⟨bv, 1, none⟩))]) (fun | (g0, g4, a19, c19) => fun w' => Aside0 (Blk w' bv #[.int .i64 p.f0, .slice A1 p.f1.length c1, .slice A2 p.f2.length c2, .int .u64 p.f3, .int .u64 p.f4, .int .i64 p.f5] 41) ∧ Aside0 (Below w.heap.size w w') ∧ Aside0 (Kd.S k41 41 w' w.heap.size (fun k => k < bv) u3 (l0.take i)) ∧ Aside0 (bv < w'.heap.size) ∧ Aside0 (Blk w' g4 #[] 43) ∧ Aside0 (bv < g4) ∧ Aside0 (Kd.R k66 66 w' w.heap.size (fun k => bv < k) (.slice a19 p.f1.length c19) p.f1)) ?_ ?_; rotate_left
    · intro hJ0_3_4; refine join_ (σ := Nat × Nat × Option Addr × Nat) 5 #[true, true, true, true, false, true, true, false, true, false, false, false] (fun | (g0, g4, a19, c19) => [(16, .slice (some ⟨g0, 0, none⟩) 0 0), (19, .slice a19 p.f1.length c19), (24, .pointer (some ⟨bv, 1, none⟩))]) (fun | (g0, g4, a19, c19) => fun w' => Aside0 (Blk w' bv #[.int .i64 p.f0, .slice A1 p.f1.length c1, .slice A2 p.f2.length c2, .int .u64 p.f3, .int .u64 p.f4, .int .i64 p.f5] 41) ∧ Aside0 (Below w.heap.size w w') ∧ Aside0 (Kd.S k41 41 w' w.heap.size (fun k => k < bv) u3 (l0.take i)) ∧ Aside0 (bv < w'.heap.size) ∧ Aside0 (Kd.R k66 66 w' w.heap.size (fun k => bv < k) (.slice a19 p.f1.length c19) p.f1)) ?_ ?_; rotate_left
      · intro hJ0_3; refine join_ (σ := Nat × Nat × Option Addr × Nat) 6 #[true, true, true, false, true, true, true, false, false, false, false, false] (fun | (g0, g4, a19, c19) => [(16, .slice (some ⟨g0, 0, none⟩) 0 0), (20, .slice (some ⟨g4, 0, none⟩) 0 0)]) (fun | (g0, g4, a19, c19) => fun w' => Aside0 (Blk w' bv #[.int .i64 p.f0, .slice A1 p.f1.length c1, .slice A2 p.f2.length c2, .int .u64 p.f3, .int .u64 p.f4, .int .i64 p.f5] 41) ∧ Aside0 (Below w.heap.size w w') ∧ Aside0 (Kd.S k41 41 w' w.heap.size (fun k => k < bv) u3 (l0.take i)) ∧ Aside0 (bv < w'.heap.size) ∧ Aside0 (Blk w' g0 #[] 66) ∧ Aside0 (bv < g0) ∧ Aside0 (Blk w' g4 #[] 43) ∧ Aside0 (bv < g4)) ?_ ?_; rotate_left
        · intro hJ0_4; refine join_ (σ := Nat × Nat × Option Addr × Nat) 7 #[true, true, true, false, false, true, true, false, false, false, false, false] (fun | (g0, g4, a19, c19) => [(16, .slice (some ⟨g0, 0, none⟩) 0 0)]) (fun | (g0, g4, a19, c19) => fun w' => Aside0 (Blk w' bv #[.int .i64 p.f0, .slice A1 p.f1.length c1, .slice A2 p.f2.length c2, .int .u64 p.f3, .int .u64 p.f4, .int .i64 p.f5] 41) ∧ Aside0 (Below w.heap.size w w') ∧ Aside0 (Kd.S k41 41 w' w.heap.size (fun k => k < bv) u3 (l0.take i)) ∧ Aside0 (bv < w'.heap.size) ∧ Aside0 (Blk w' g0 #[] 66) ∧ Aside0 (bv < g0)) ?_ ?_; rotate_left
          · intro hJ0; refine join_ (σ := Nat × Nat × Option Addr × Nat) 7 #[false, true, true, false, true, true, true, false, false, false, false, false] (fun | (g0, g4, a19, c19) => [(20, .slice (some ⟨g4, 0, none⟩) 0 0)]) (fun | (g0, g4, a19, c19) => fun w' => Aside0 (Blk w' bv #[.int .i64 p.f0, .slice A1 p.f1.length c1, .slice A2 p.f2.length c2, .int .u64 p.f3, .int .u64 p.f4, .int .i64 p.f5] 41) ∧ Aside0 (Below w.heap.size w w') ∧ Aside0 (Kd.S k41 41 w' w.heap.size (fun k => k < bv) u3 (l0.take i)) ∧ Aside0 (bv < w'.heap.size) ∧ Aside0 (Blk w' g4 #[] 43) ∧ Aside0 (bv < g4)) ?_ ?_; rotate_left
            · intro hJ4; refine two_ (i := 0) (j := 4) (Ni := some 16) (Nj := some 20) #[true, true, true, false, false, true, true, false, false, false, false, false] #[false, true, true, false, true, true, true, false, false, false, false, false] rfl rfl rfl rfl (by kernel_rfl) (by decide) (by decide) (fun K hK => ?_) (fun K hK => ?_)
              · skip
                refine empty_step ?hw (N := 16) ?hd (t := 66) ?hr ?_; (case hd => rfl)
                (case hw => rfl)
                (case hr => (go_simp; done))
                intro g0n hg_ w3 hbx hb; have HV3 : Aside0 (Blk w3 bv #[.int .i64 p.f0, .slice A1 p.f1.length c1, .slice A2 p.f2.length c2, .int .u64 p.f3, .int .u64 p.f4, .int .i64 p.f5] 41) := ⟨blk_below (by (with_reducible repeat (refine blk_drew ?_)); exact HV.out) hb⟩; have HB3 : Aside0 (Below w.heap.size w w3) := ⟨below_step (by repeat ((with_reducible first | exact HB.out | apply below_drew1))) hb⟩; have HO3 : Aside0 (Kd.S k41 41 w3 w.heap.size (fun k => k < bv) u3 (l0.take i)) := ⟨Kd.S_below (by (with_reducible repeat (apply Kd.S_drew)); exact HO.out) hb⟩; have HS3 : Aside0 (bv < w3.heap.size) := ⟨Nat.lt_of_lt_of_le HS.out hb.size⟩; have B03 : Aside0 (Blk w3 g0n #[] 66) := ⟨hbx⟩; have G03 : Aside0 (bv < g0n) := ⟨by rw [hg_]; exact HS.out⟩; refine hK.out _ _ ⟨HV3.out.cell 1 rfl, HV3.out.cell 2 rfl⟩ (fun hHeld => ?_); clear hK K; refine norm_ (a' := ?_) ?_ ?_; rotate_left
                · show Act.put _ (some 16) _ = _
                  simp only [Act.put, List.setIfInBounds_toArray, List.set_cons_zero, List.set_cons_succ, i64_w, i32_w]; rfl
                exact norm_ (by (simp only [putAll, Act.put, List.setIfInBounds_toArray, List.set_cons_zero, List.set_cons_succ]; done)) (hJ0 (g0n, 0, none, 0) _ ⟨HV3, HB3, HO3, HS3, B03, G03⟩)
              skip
              refine empty_step ?hw (N := 20) ?hd (t := 43) ?hr ?_; (case hd => rfl)
              (case hw => rfl)
              (case hr => (go_simp; done))
              intro g4n hg_ w3 hbx hb; have HV3 : Aside0 (Blk w3 bv #[.int .i64 p.f0, .slice A1 p.f1.length c1, .slice A2 p.f2.length c2, .int .u64 p.f3, .int .u64 p.f4, .int .i64 p.f5] 41) := ⟨blk_below (by (with_reducible repeat (refine blk_drew ?_)); exact HV.out) hb⟩; have HB3 : Aside0 (Below w.heap.size w w3) := ⟨below_step (by repeat ((with_reducible first | exact HB.out | apply below_drew1))) hb⟩; have HO3 : Aside0 (Kd.S k41 41 w3 w.heap.size (fun k => k < bv) u3 (l0.take i)) := ⟨Kd.S_below (by (with_reducible repeat (apply Kd.S_drew)); exact HO.out) hb⟩; have HS3 : Aside0 (bv < w3.heap.size) := ⟨Nat.lt_of_lt_of_le HS.out hb.size⟩; have B43 : Aside0 (Blk w3 g4n #[] 43) := ⟨hbx⟩; have G43 : Aside0 (bv < g4n) := ⟨by rw [hg_]; exact HS.out⟩; refine hK.out _ _ ⟨HV3.out.cell 1 rfl, HV3.out.cell 2 rfl⟩ (fun hHeld => ?_); clear hK K; refine norm_ (a' := ?_) ?_ ?_; rotate_left
              · show Act.put _ (some 20) _ = _
                simp only [Act.put, List.setIfInBounds_toArray, List.set_cons_zero, List.set_cons_succ, i64_w, i32_w]; rfl
              exact norm_ (by (simp only [putAll, Act.put, List.setIfInBounds_toArray, List.set_cons_zero, List.set_cons_succ]; done)) (hJ4 (0, g4n, none, 0) _ ⟨HV3, HB3, HO3, HS3, B43, G43⟩)
            skip
            rintro ⟨g0, g4, a19, c19⟩ w' ⟨HV, HB, HO, HS, B4, G4⟩; have hHeld := (⟨HV.out.cell 1 rfl, HV.out.cell 2 rfl⟩ : w'.cell? ⟨bv, 1, none⟩ = some (.slice A1 p.f1.length c1) ∧ w'.cell? ⟨bv, 2, none⟩ = some (.slice A2 p.f2.length c2)); refine norm_ (a' := ?_) ?_ ?_; rotate_left
            · simp only [putAll, Act.put, List.setIfInBounds_toArray, List.set_cons_zero, List.set_cons_succ]; rfl
            refine one_ (i := 0) (N := some 16) #[true, true, true, false, true, true, true, false, false, false, false, false] rfl rfl (by kernel_rfl) (by decide) (fun K hK => ?_); refine empty_step ?hw (N := 16) ?hd (t := 66) ?hr ?_; (case hd => rfl)
            (case hw => rfl)
            (case hr => (go_simp; done))
            intro g0n hg_ w3 hbx hb; have HV3 : Aside0 (Blk w3 bv #[.int .i64 p.f0, .slice A1 p.f1.length c1, .slice A2 p.f2.length c2, .int .u64 p.f3, .int .u64 p.f4, .int .i64 p.f5] 41) := ⟨blk_below HV.out hb⟩; have HB3 : Aside0 (Below w.heap.size w w3) := ⟨below_step HB.out hb⟩; have HO3 : Aside0 (Kd.S k41 41 w3 w.heap.size (fun k => k < bv) u3 (l0.take i)) := ⟨Kd.S_below HO.out hb⟩; have HS3 : Aside0 (bv < w3.heap.size) := ⟨Nat.lt_of_lt_of_le HS.out hb.size⟩; have B43 : Aside0 (Blk w3 g4 #[] 43) := ⟨blk_below B4.out hb⟩; have B03 : Aside0 (Blk w3 g0n #[] 66) := ⟨hbx⟩; have G03 : Aside0 (bv < g0n) := ⟨by rw [hg_]; exact HS.out⟩; refine hK.out _ _ ⟨HV3.out.cell 1 rfl, HV3.out.cell 2 rfl⟩ (fun hHeld => ?_); clear hK K; refine norm_ (a' := ?_) ?_ ?_; rotate_left
            · show Act.put _ (some 16) _ = _
              simp only [Act.put, List.setIfInBounds_toArray, List.set_cons_zero, List.set_cons_succ, i64_w, i32_w]; rfl
            exact norm_ (by (simp only [putAll, Act.put, List.setIfInBounds_toArray, List.set_cons_zero, List.set_cons_succ]; done)) (hJ0_4 (g0n, g4, none, 0) _ ⟨HV3, HB3, HO3, HS3, B03, G03, B43, G4⟩)
          skip
          rintro ⟨g0, g4, a19, c19⟩ w' ⟨HV, HB, HO, HS, B0, G0⟩; have hHeld := (⟨HV.out.cell 1 rfl, HV.out.cell 2 rfl⟩ : w'.cell? ⟨bv, 1, none⟩ = some (.slice A1 p.f1.length c1) ∧ w'.cell? ⟨bv, 2, none⟩ = some (.slice A2 p.f2.length c2)); refine norm_ (a' := ?_) ?_ ?_; rotate_left
          · simp only [putAll, Act.put, List.setIfInBounds_toArray, List.set_cons_zero, List.set_cons_succ]; rfl
          refine two_ (i := 3) (j := 4) (Ni := some 19) (Nj := some 20) #[true, true, true, true, false, true, true, false, false, false, false, false] #[true, true, true, false, true, true, true, false, false, false, false, false] rfl rfl rfl rfl (by kernel_rfl) (by decide) (by decide) (fun K hK => ?_) (fun K hK => ?_)
          · skip
            refine Kd.R_append_rows_step k66 (Rr := Rr66) (w0 := w) w.heap.size ?hw (.tmp 16) (.tmp 18) 37 66 (.agg #[(.int .i64 0), (.int .i64 0)]) 16 ?ho Tryd.underlying37 info66 rfl (by decide) (by omega) (.slice (some ⟨g0, 0, none⟩) 0 0) [] p.f1 A1 p.f1.length c1 (fun k => bv < k) (fun _ => False) ?hs ?hx ?hO ?hR ?hKM (fun _ hk => hk.elim) ?hF ?hB ?hS ?hL ?_; (case hw => rfl)
            (case ho => rfl)
            (case hs => rfl)
            (case hx => rfl)
            (case hO => exact (empty_R k66 66 _ _ _ _ B0.out (by have := G0.out; have := NBV.out; omega) G0.out))
            (case hR => exact reads66 (Kd.C_below G1.out HB.out))
            (case hKM => exact fun x cs h => by obtain rfl := h; exact k66_mkM _ _ _ _)
            (case hF => exact fun k hk => Nat.lt_of_lt_of_le HS.out hk)
            (case hB => exact HB.out)
            (case hS => exact below_size HB.out)
            (case hL => exact bytes12 H12.out.1 (by decide))
            intro v1 w3 ho hb hg_ hat; obtain ⟨a19n, c19n, ev⟩ := Kd.R_slice ho; rw [List.nil_append] at ho ev; subst ev; have HV3 : Aside0 (Blk w3 bv #[.int .i64 p.f0, .slice A1 p.f1.length c1, .slice A2 p.f2.length c2, .int .u64 p.f3, .int .u64 p.f4, .int .i64 p.f5] 41) := ⟨blk_grown HV.out hg_ (by simp only [Value.ownBlock, ne_eq, Option.some.injEq]; have := G0.out; omega)⟩; have HB3 : Aside0 (Below w.heap.size w w3) := ⟨hb⟩; have HO3 : Aside0 (Kd.S k41 41 w3 w.heap.size (fun k => k < bv) u3 (l0.take i)) := ⟨Kd.S_grown HO.out hg_ (fun k hk e => by have := G0.out; simp only [Value.ownBlock, Option.some.injEq] at e; omega)⟩; have HS3 : Aside0 (bv < w3.heap.size) := ⟨Nat.lt_of_lt_of_le HS.out hg_.size⟩; have E33 : Aside0 (Kd.R k66 66 w3 w.heap.size (fun k => bv < k) (.slice a19n p.f1.length c19n) p.f1) := ⟨ho⟩; refine hK.out _ _ ⟨HV3.out.cell 1 rfl, HV3.out.cell 2 rfl⟩ (fun hHeld => ?_); clear hK K; refine norm_ (a' := ?_) ?_ ?_; rotate_left
            · show Act.put _ (some 19) _ = _
              simp only [Act.put, List.setIfInBounds_toArray, List.set_cons_zero, List.set_cons_succ, i64_w, i32_w]; rfl
            refine pure_ (i := 8) (N := some 24) (v := ?_) (a' := ?_) #[true, true, true, true, false, true, true, false, true, false, false, false] rfl rfl (by kernel_rfl) (fun _ _ _ h => h) (Or.inl ⟨by rfl, ?_⟩) ?_ ?_; rotate_left
            · intro w'; go_simp; with_reducible rfl
            rotate_left
            · simp only [Act.put, List.setIfInBounds_toArray, List.set_cons_zero, List.set_cons_succ, i64_w, i32_w]; rfl
            exact norm_ (by (simp only [putAll, Act.put, List.setIfInBounds_toArray, List.set_cons_zero, List.set_cons_succ]; done)) (hJ0_3 (g0, 0, a19n, c19n) _ ⟨HV3, HB3, HO3, HS3, E33⟩)
          skip
          refine empty_step ?hw (N := 20) ?hd (t := 43) ?hr ?_; (case hd => rfl)
          (case hw => rfl)
          (case hr => (go_simp; done))
          intro g4n hg_ w3 hbx hb; have HV3 : Aside0 (Blk w3 bv #[.int .i64 p.f0, .slice A1 p.f1.length c1, .slice A2 p.f2.length c2, .int .u64 p.f3, .int .u64 p.f4, .int .i64 p.f5] 41) := ⟨blk_below HV.out hb⟩; have HB3 : Aside0 (Below w.heap.size w w3) := ⟨below_step HB.out hb⟩; have HO3 : Aside0 (Kd.S k41 41 w3 w.heap.size (fun k => k < bv) u3 (l0.take i)) := ⟨Kd.S_below HO.out hb⟩; have HS3 : Aside0 (bv < w3.heap.size) := ⟨Nat.lt_of_lt_of_le HS.out hb.size⟩; have B03 : Aside0 (Blk w3 g0 #[] 66) := ⟨blk_below B0.out hb⟩; have B43 : Aside0 (Blk w3 g4n #[] 43) := ⟨hbx⟩; have G43 : Aside0 (bv < g4n) := ⟨by rw [hg_]; exact HS.out⟩; refine hK.out _ _ ⟨HV3.out.cell 1 rfl, HV3.out.cell 2 rfl⟩ (fun hHeld => ?_); clear hK K; refine norm_ (a' := ?_) ?_ ?_; rotate_left
          · show Act.put _ (some 20) _ = _
            simp only [Act.put, List.setIfInBounds_toArray, List.set_cons_zero, List.set_cons_succ, i64_w, i32_w]; rfl
          exact norm_ (by (simp only [putAll, Act.put, List.setIfInBounds_toArray, List.set_cons_zero, List.set_cons_succ]; done)) (hJ0_4 (g0, g4n, none, 0) _ ⟨HV3, HB3, HO3, HS3, B03, G0, B43, G43⟩)
        skip
        rintro ⟨g0, g4, a19, c19⟩ w' ⟨HV, HB, HO, HS, B0, G0, B4, G4⟩; have hHeld := (⟨HV.out.cell 1 rfl, HV.out.cell 2 rfl⟩ : w'.cell? ⟨bv, 1, none⟩ = some (.slice A1 p.f1.length c1) ∧ w'.cell? ⟨bv, 2, none⟩ = some (.slice A2 p.f2.length c2)); refine norm_ (a' := ?_) ?_ ?_; rotate_left
        · simp only [putAll, Act.put, List.setIfInBounds_toArray, List.set_cons_zero, List.set_cons_succ]; rfl
        refine one_ (i := 3) (N := some 19) #[true, true, true, true, true, true, true, false, false, false, false, false] rfl rfl (by kernel_rfl) (by decide) (fun K hK => ?_); refine Kd.R_append_rows_step k66 (Rr := Rr66) (w0 := w) w.heap.size ?hw (.tmp 16) (.tmp 18) 37 66 (.agg #[(.int .i64 0), (.int .i64 0)]) 16 ?ho Tryd.underlying37 info66 rfl (by decide) (by omega) (.slice (some ⟨g0, 0, none⟩) 0 0) [] p.f1 A1 p.f1.length c1 (fun k => bv < k) (fun _ => False) ?hs ?hx ?hO ?hR ?hKM (fun _ hk => hk.elim) ?hF ?hB ?hS ?hL ?_; (case hw => rfl)
        (case ho => rfl)
        (case hs => rfl)
        (case hx => rfl)
        (case hO => exact (empty_R k66 66 _ _ _ _ B0.out (by have := G0.out; have := NBV.out; omega) G0.out))
        (case hR => exact reads66 (Kd.C_below G1.out HB.out))
        (case hKM => exact fun x cs h => by obtain rfl := h; exact k66_mkM _ _ _ _)
        (case hF => exact fun k hk => Nat.lt_of_lt_of_le HS.out hk)
        (case hB => exact HB.out)
        (case hS => exact below_size HB.out)
        (case hL => exact bytes12 H12.out.1 (by decide))
        intro v1 w3 ho hb hg_ hat; obtain ⟨a19n, c19n, ev⟩ := Kd.R_slice ho; rw [List.nil_append] at ho ev; subst ev; have HV3 : Aside0 (Blk w3 bv #[.int .i64 p.f0, .slice A1 p.f1.length c1, .slice A2 p.f2.length c2, .int .u64 p.f3, .int .u64 p.f4, .int .i64 p.f5] 41) := ⟨blk_grown HV.out hg_ (by simp only [Value.ownBlock, ne_eq, Option.some.injEq]; have := G0.out; omega)⟩; have HB3 : Aside0 (Below w.heap.size w w3) := ⟨hb⟩; have HO3 : Aside0 (Kd.S k41 41 w3 w.heap.size (fun k => k < bv) u3 (l0.take i)) := ⟨Kd.S_grown HO.out hg_ (fun k hk e => by have := G0.out; simp only [Value.ownBlock, Option.some.injEq] at e; omega)⟩; have HS3 : Aside0 (bv < w3.heap.size) := ⟨Nat.lt_of_lt_of_le HS.out hg_.size⟩; have B43 : Aside0 (Blk w3 g4 #[] 43) := ⟨blk_grown B4.out hg_ (by simp only [Value.ownBlock, ne_eq, Option.some.injEq]; exact (Blk.ne B4.out B0.out (by decide)))⟩; have E33 : Aside0 (Kd.R k66 66 w3 w.heap.size (fun k => bv < k) (.slice a19n p.f1.length c19n) p.f1) := ⟨ho⟩; refine hK.out _ _ ⟨HV3.out.cell 1 rfl, HV3.out.cell 2 rfl⟩ (fun hHeld => ?_); clear hK K; refine norm_ (a' := ?_) ?_ ?_; rotate_left
        · show Act.put _ (some 19) _ = _
          simp only [Act.put, List.setIfInBounds_toArray, List.set_cons_zero, List.set_cons_succ, i64_w, i32_w]; rfl
        refine pure_ (i := 8) (N := some 24) (v := ?_) (a' := ?_) #[true, true, true, true, true, true, true, false, true, false, false, false] rfl rfl (by kernel_rfl) (fun _ _ _ h => h) (Or.inl ⟨by rfl, ?_⟩) ?_ ?_; rotate_left
        · intro w'; go_simp; with_reducible rfl
        rotate_left
        · simp only [Act.put, List.setIfInBounds_toArray, List.set_cons_zero, List.set_cons_succ, i64_w, i32_w]; rfl
        exact norm_ (by (simp only [putAll, Act.put, List.setIfInBounds_toArray, List.set_cons_zero, List.set_cons_succ]; done)) (hJ0_3_4 (g0, g4, a19n, c19n) _ ⟨HV3, HB3, HO3, HS3, B43, G4, E33⟩)
      skip
      rintro ⟨g0, g4, a19, c19⟩ w' ⟨HV, HB, HO, HS, E3⟩; have hHeld := (⟨HV.out.cell 1 rfl, HV.out.cell 2 rfl⟩ : w'.cell? ⟨bv, 1, none⟩ = some (.slice A1 p.f1.length c1) ∧ w'.cell? ⟨bv, 2, none⟩ = some (.slice A2 p.f2.length c2)); refine norm_ (a' := ?_) ?_ ?_; rotate_left
      · simp only [putAll, Act.put, List.setIfInBounds_toArray, List.set_cons_zero, List.set_cons_succ]; rfl
      refine one_ (i := 4) (N := some 20) #[true, true, true, true, true, true, true, false, true, false, false, false] rfl rfl (by kernel_rfl) (by decide) (fun K hK => ?_); refine empty_step ?hw (N := 20) ?hd (t := 43) ?hr ?_; (case hd => rfl)
      (case hw => rfl)
      (case hr => (go_simp; done))
      intro g4n hg_ w3 hbx hb; have HV3 : Aside0 (Blk w3 bv #[.int .i64 p.f0, .slice A1 p.f1.length c1, .slice A2 p.f2.length c2, .int .u64 p.f3, .int .u64 p.f4, .int .i64 p.f5] 41) := ⟨blk_below HV.out hb⟩; have HB3 : Aside0 (Below w.heap.size w w3) := ⟨below_step HB.out hb⟩; have HO3 : Aside0 (Kd.S k41 41 w3 w.heap.size (fun k => k < bv) u3 (l0.take i)) := ⟨Kd.S_below HO.out hb⟩; have HS3 : Aside0 (bv < w3.heap.size) := ⟨Nat.lt_of_lt_of_le HS.out hb.size⟩; have E33 : Aside0 (Kd.R k66 66 w3 w.heap.size (fun k => bv < k) (.slice a19 p.f1.length c19) p.f1) := ⟨Kd.R_below E3.out hb⟩; have B43 : Aside0 (Blk w3 g4n #[] 43) := ⟨hbx⟩; have G43 : Aside0 (bv < g4n) := ⟨by rw [hg_]; exact HS.out⟩; refine hK.out _ _ ⟨HV3.out.cell 1 rfl, HV3.out.cell 2 rfl⟩ (fun hHeld => ?_); clear hK K; refine norm_ (a' := ?_) ?_ ?_; rotate_left
      · show Act.put _ (some 20) _ = _
        simp only [Act.put, List.setIfInBounds_toArray, List.set_cons_zero, List.set_cons_succ, i64_w, i32_w]; rfl
      exact norm_ (by (simp only [putAll, Act.put, List.setIfInBounds_toArray, List.set_cons_zero, List.set_cons_succ]; done)) (hJ0_3_4 (g0, g4n, a19, c19) _ ⟨HV3, HB3, HO3, HS3, B43, G43, E33⟩)
    rintro ⟨g0, g4, a19, c19⟩ w' ⟨HV, HB, HO, HS, B4, G4, E3⟩; have hHeld := (⟨HV.out.cell 1 rfl, HV.out.cell 2 rfl⟩ : w'.cell? ⟨bv, 1, none⟩ = some (.slice A1 p.f1.length c1) ∧ w'.cell? ⟨bv, 2, none⟩ = some (.slice A2 p.f2.length c2)); refine norm_ (a' := ?_) ?_ ?_; rotate_left
    · simp only [putAll, Act.put, List.setIfInBounds_toArray, List.set_cons_zero, List.set_cons_succ]; rfl
    refine one_ (i := 7) (N := some 23) #[true, true, true, true, true, true, true, true, true, false, false, false] rfl rfl (by kernel_rfl) (by decide) (fun K hK => ?_); refine Kd.R_append_rows_step k43 (Rr := Rr43) (w0 := w) w.heap.size ?hw (.tmp 20) (.tmp 22) 38 43 (.agg #[(.int .i64 0), (.int .i64 0), (.bool false)]) 24 ?ho Tryd.underlying38 info43 rfl (by decide) (by omega) (.slice (some ⟨g4, 0, none⟩) 0 0) [] p.f2 A2 p.f2.length c2 (fun k => bv < k) (fun _ => False) ?hs ?hx ?hO ?hR ?hKM (fun _ hk => hk.elim) ?hF ?hB ?hS ?hL ?_; (case hw => rfl)
    (case ho => rfl)
    (case hs => rfl)
    (case hx => rfl)
    (case hO => exact (empty_R k43 43 _ _ _ _ B4.out (by have := G4.out; have := NBV.out; omega) G4.out))
    (case hR => exact reads43 (Kd.C_below G2.out HB.out))
    (case hKM => exact fun x cs h => by obtain rfl := h; exact k43_mkM _ _ _ _)
    (case hF => exact fun k hk => Nat.lt_of_lt_of_le HS.out hk)
    (case hB => exact HB.out)
    (case hS => exact below_size HB.out)
    (case hL => exact bytes12 H12.out.2 (by decide))
    intro v1 w3 ho hb hg_ hat; obtain ⟨a23, c23, ev⟩ := Kd.R_slice ho; rw [List.nil_append] at ho ev; subst ev; have HV3 : Aside0 (Blk w3 bv #[.int .i64 p.f0, .slice A1 p.f1.length c1, .slice A2 p.f2.length c2, .int .u64 p.f3, .int .u64 p.f4, .int .i64 p.f5] 41) := ⟨blk_grown HV.out hg_ (by simp only [Value.ownBlock, ne_eq, Option.some.injEq]; have := G4.out; omega)⟩; have HB3 : Aside0 (Below w.heap.size w w3) := ⟨hb⟩; have HO3 : Aside0 (Kd.S k41 41 w3 w.heap.size (fun k => k < bv) u3 (l0.take i)) := ⟨Kd.S_grown HO.out hg_ (fun k hk e => by have := G4.out; simp only [Value.ownBlock, Option.some.injEq] at e; omega)⟩; have HS3 : Aside0 (bv < w3.heap.size) := ⟨Nat.lt_of_lt_of_le HS.out hg_.size⟩; have E33 : Aside0 (Kd.R k66 66 w3 w.heap.size (fun k => bv < k) (.slice a19 p.f1.length c19) p.f1) := ⟨Kd.R_grown1 E3.out rfl hg_ (Kd.R_ne E3.out B4.out (by decide))⟩; have E73 : Aside0 (Kd.R k43 43 w3 w.heap.size (fun k => bv < k) (.slice a23 p.f2.length c23) p.f2) := ⟨ho⟩; clear HV; have HV := HV3; clear HV3; clear HB; have HB := HB3; clear HB3; clear HO; have HO := HO3; clear HO3; clear HS; have HS := HS3; clear HS3; clear E3; have E3 := E33; clear E33; have E7 := E73; clear E73; refine hK.out _ _ ⟨HV.out.cell 1 rfl, HV.out.cell 2 rfl⟩ (fun hHeld => ?_); clear hK K; refine norm_ (a' := ?_) ?_ ?_; rotate_left
    · show Act.put _ (some 23) _ = _
      simp only [Act.put, List.setIfInBounds_toArray, List.set_cons_zero, List.set_cons_succ, i64_w, i32_w]; rfl
    refine last_ (i := 9) (N := none) #[true, true, true, true, true, true, true, true, true, true, false, false] rfl rfl (by kernel_rfl) (by decide) (fun K hK => ?_); have cV := HV.out.cell 1 rfl; have fV := HV.out.fr 1; refine skip_ (w1 := ?_) (by rfl) rfl ?_ ?_; rotate_left
    · go_simp; rfl
    have HV3 : Aside0 (Blk _ bv #[.int .i64 p.f0, .slice a19 p.f1.length c19, .slice A2 p.f2.length c2, .int .u64 p.f3, .int .u64 p.f4, .int .i64 p.f5] 41) := ⟨HV.out.set 1 (.slice a19 p.f1.length c19)⟩; have HB3 : Aside0 (Below w.heap.size w _) := ⟨HB.out.setCell (p := ⟨bv, 1, none⟩) NBV.out (.slice a19 p.f1.length c19)⟩; have HO3 : Aside0 (Kd.S k41 41 _ w.heap.size (fun k => k < bv) u3 (l0.take i)) := ⟨Kd.S_far HO.out (p := ⟨bv, 1, none⟩) (fun k hk => Nat.ne_of_lt hk) (.slice a19 p.f1.length c19)⟩; have E33 : Aside0 (Kd.R k66 66 _ w.heap.size (fun k => bv < k) (.slice a19 p.f1.length c19) p.f1) := ⟨Kd.R_far E3.out (p := ⟨bv, 1, none⟩) (fun k hk => Nat.ne_of_gt hk) (.slice a19 p.f1.length c19)⟩; have E73 : Aside0 (Kd.R k43 43 _ w.heap.size (fun k => bv < k) (.slice a23 p.f2.length c23) p.f2) := ⟨Kd.R_far E7.out (p := ⟨bv, 1, none⟩) (fun k hk => Nat.ne_of_gt hk) (.slice a19 p.f1.length c19)⟩; clear HV; have HV := HV3; clear HV3; clear HB; have HB := HB3; clear HB3; clear HO; have HO := HO3; clear HO3; clear E3; have E3 := E33; clear E33; clear E7; have E7 := E73; clear E73; clear cV fV; refine hK.out _ _ ?_; clear hK K; refine pure_ (i := 10) (N := some 25) (v := ?_) (a' := ?_) #[true, true, true, true, true, true, true, true, true, true, true, false] rfl rfl (by kernel_rfl) (fun _ _ _ h => h) (Or.inl ⟨by rfl, ?_⟩) ?_ ?_; rotate_left
    · intro w'; go_simp; with_reducible rfl
    rotate_left
    · simp only [Act.put, List.setIfInBounds_toArray, List.set_cons_zero, List.set_cons_succ, i64_w, i32_w]; rfl
    refine last_ (i := 11) (N := none) #[true, true, true, true, true, true, true, true, true, true, true, true] rfl rfl (by kernel_rfl) (by decide) (fun K hK => ?_); have cV := HV.out.cell 2 rfl; have fV := HV.out.fr 2; refine skip_ (w1 := ?_) (by rfl) rfl ?_ ?_; rotate_left
    · go_simp; rfl
    have HV3 : Aside0 (Blk _ bv #[.int .i64 p.f0, .slice a19 p.f1.length c19, .slice a23 p.f2.length c23, .int .u64 p.f3, .int .u64 p.f4, .int .i64 p.f5] 41) := ⟨HV.out.set 2 (.slice a23 p.f2.length c23)⟩; have HB3 : Aside0 (Below w.heap.size w _) := ⟨HB.out.setCell (p := ⟨bv, 2, none⟩) NBV.out (.slice a23 p.f2.length c23)⟩; have HO3 : Aside0 (Kd.S k41 41 _ w.heap.size (fun k => k < bv) u3 (l0.take i)) := ⟨Kd.S_far HO.out (p := ⟨bv, 2, none⟩) (fun k hk => Nat.ne_of_lt hk) (.slice a23 p.f2.length c23)⟩; have E33 : Aside0 (Kd.R k66 66 _ w.heap.size (fun k => bv < k) (.slice a19 p.f1.length c19) p.f1) := ⟨Kd.R_far E3.out (p := ⟨bv, 2, none⟩) (fun k hk => Nat.ne_of_gt hk) (.slice a23 p.f2.length c23)⟩; have E73 : Aside0 (Kd.R k43 43 _ w.heap.size (fun k => bv < k) (.slice a23 p.f2.length c23) p.f2) := ⟨Kd.R_far E7.out (p := ⟨bv, 2, none⟩) (fun k hk => Nat.ne_of_gt hk) (.slice a23 p.f2.length c23)⟩; clear HV; have HV := HV3; clear HV3; clear HB; have HB := HB3; clear HB3; clear HO; have HO := HO3; clear HO3; clear E3; have E3 := E33; clear E33; clear E7; have E7 := E73; clear E73; clear cV fV; refine hK.out _ _ ?_; clear hK K; refine done_ (by kernel_rfl) ?_
    -- END6
    obtain ⟨wz, hwz⟩ : ∃ X_, (w3.setCell ⟨bv, 1, none⟩ (.slice a19 p.f1.length c19)).setCell ⟨bv, 2, none⟩ (.slice a23 p.f2.length c23) = X_ := ⟨_, rfl⟩; rw [hwz] at HV HO HB E3 E7 ⊢; clear hwz; have HOz : Aside0 (Kd.S k41 41 wz w.heap.size (fun k => k ≠ bv ∧ ¬ bv < k) u3 (l0.take i)) := ⟨Kd.S_mono HO.out (fun k hk => ⟨Nat.ne_of_lt hk, by omega⟩)⟩; have HNE : Aside0 (∀ k, bv < k → (fun k => k ≠ bv) k ∧ some k ≠ u3.ownBlock) := ⟨fun k hk => ⟨Nat.ne_of_gt hk, fun e => by have := (Kd.S_R HO.out).1 k e.symm; simp only at this; omega⟩⟩; have HFR : Aside0 (∀ k, wz.heap.size ≤ k → k ≠ bv) := ⟨fun k hk => by have := HV.out.lt; omega⟩; have htl : (l0.take i).length ≤ 20010 := by rw [List.length_take]; omega
    have v0 := HV.out.cell 0 rfl; have v1 := HV.out.cell 1 rfl; have v2 := HV.out.cell 2 rfl; have v3 := HV.out.cell 3 rfl; have v4 := HV.out.cell 4 rfl; have v5 := HV.out.cell 5 rfl; clear HO; go_wp2_with (at_builtin; refine Kd.S_append k41 (w0 := w) w.heap.size rfl (.tmp 26) (.tmp 28) 24 41 (.agg #[(.int .i64 0), (.slice none 0 0), (.slice none 0 0), (.int .u64 0), (.int .u64 0), (.int .i64 0)]) 80 rfl Tryd.underlying24 info41 rfl (by decide) (by omega) u3 (l0.take i) p [.int .i64 p.f0, .slice a19 p.f1.length c19, .slice a23 p.f2.length c23, .int .u64 p.f3, .int .u64 p.f4, .int .i64 p.f5] (fun k => k ≠ bv) (fun k => bv < k) rfl rfl (k41_mkM _ _ _ p E3.out E7.out) HNE.out HFR.out HOz.out HB.out HB.out.size (by omega) ?_; intro v1_ w4 ho hb4 _ _; have R4 := Aside0.mk ho; have B4_ := Aside0.mk hb4; clear ho hb4); go_roundw
    case rel => exact ⟨i + 1, by simp, by omega, ⟨by rw [HTK.out]; exact Kd.S_mono R4.out (fun _ _ => trivial)⟩, B4_⟩
    case measure => simp [intOf]; omega
  have hc : decide ((i : Int) < (l0.length : Int)) = false := decide_eq_false (by omega); obtain rfl : i = l0.length := by omega
  go_wp2_with fail; go_ret; refine ⟨_, rfl, ?_, hBw.out⟩; have h := hR.out; rwa [List.take_length] at h

def tipstafflaw43_own.f (l0 : List S41) : Option (List S41) := if l0.length ≤ 20010 ∧ (∀ v ∈ l0, v.f1.length ≤ 12 ∧ v.f2.length ≤ 12) then some l0 else none
theorem tipstafflaw43_own.calls (A0 : Option Addr) (c0 : Nat) (l0 : List S41) (r : List S41) (w : World) (hr0 : Kd.C k41 w A0 l0.length l0) (hc0 : l0.length ≤ c0) (h : tipstafflaw43_own.f l0 = some r) :
    Calls Tryd.prog 16 #[.slice A0 l0.length c0] w fun e w' => ∃ v0_ : Value, e = .returned v0_ ∧ Kd.S k41 41 w' w.heap.size (fun _ => True) v0_ r ∧ Below w.heap.size w w' := by
  unfold tipstafflaw43_own.f at h; by_cases hc : l0.length ≤ 20010 ∧ (∀ v ∈ l0, v.f1.length ≤ 12 ∧ v.f2.length ≤ 12)
  · rw [if_pos hc] at h; obtain rfl := Option.some.inj h; exact own_calls A0 c0 l0 w hr0 hc0 hc.1 hc.2
  rw [if_neg hc] at h; cases h

end Go.Proofs.YtenlokaaloenmaaDoor.S
end

section
namespace Go.Proofs.YtenlokaaloenmaaDoor.S
open Go.RowKit Go.Proofs.YtenlokaaloenmaaDoorW.PrintWords Go.Proofs.YtenlokaaloenmaaDoorW.PrintLast Go.Proofs.YtenlokaaloenmaaDoorW.PrintMore
set_option linter.unusedVariables false
set_option linter.unusedSimpArgs false

theorem put6_blk {W : World} {b : Nat} {t : TypeId} {z0 z1 z2 z3 z4 z5 : Value} (h : Blk W b #[z0, z1, z2, z3, z4, z5] t) (v0 v1 v2 v3 v4 v5 : Value) : Blk (put6 W b v0 v1 v2 v3 v4 v5) b #[v0, v1, v2, v3, v4, v5] t := by
  have h2 := ((((((h.set 0 v0).set 1 v1).set 2 v2).set 3 v3).set 4 v4).set 5 v5)
  simp only [List.setIfInBounds_toArray, List.set_cons_zero, List.set_cons_succ] at h2
  exact h2
set_option maxHeartbeats 8000000 in
set_option maxRecDepth 100000 in
theorem unchanged_calls (A0 : Option Addr) (c0 : Nat) (B0 : Option Addr) (c0' : Nat) (l : List S41) (w : World) (hr0 : Kd.C k41 w A0 l.length l) (hc0 : l.length ≤ c0) (hr1 : Kd.C k41 w B0 l.length l) (hc1 : l.length ≤ c0') :
    Calls Tryd.prog 21 #[.slice A0 l.length c0, .slice B0 l.length c0'] w fun e w' => e = .returned (.bool true) ∧ Below w.heap.size w w' := by
  have hu41 := Tryd.underlying41
  have hu66 := Tryd.underlying66
  have hu43 := Tryd.underlying43
  have HC := Aside0.mk hr0
  have HD := Aside0.mk hr1
  have hlm : l.length ≤ 9223372036854775807 := hr0.2.1
  clear hr0 hr1
  go_enter Tryd.func21, Tryd.ntmps21
  go_wp2_with fail
  go_loopw [5] (fun v5 wr => ∃ i : Nat, v5 = .int .i64 i ∧ i ≤ l.length ∧ Aside0 (Below w.heap.size w wr)) (fun v5 _ => l.length - (intOf v5).toNat)
  case atStart => exact ⟨0, rfl, by omega, ⟨Below.refl _ _⟩⟩
  case round =>
    obtain ⟨i, rfl, hi, HB⟩ := hrel
    by_cases hlt : i < l.length
    · have hc : decide ((i : Int) < (l.length : Int)) = true := decide_eq_true (by omega)
      have hcn : decide (i < l.length) = true := decide_eq_true hlt
      obtain ⟨ad, A1, c1, A2, c2, ea, x0, x1, x2, x3, x4, x5, l1, g1', l2, g2'⟩ := at_T41 HC.out (i : Int) (by omega) (by omega)
      obtain ⟨bd, B1, d1, B2, d2, eb, y0, y1, y2, y3, y4, y5, m1, k1', m2, k2'⟩ := at_T41 HD.out (i : Int) (by omega) (by omega)
      obtain ⟨p, hp⟩ : ∃ p, rd_T41 l (i : Int) = p := ⟨_, rfl⟩
      rw [hp] at x0 x1 x2 x3 x4 x5 y0 y1 y2 y3 y4 y5 l1 g1' l2 g2' m1 k1' m2 k2'
      rw [Int.toNat_natCast] at x0 x1 x2 x3 x4 x5 y0 y1 y2 y3 y4 y5
      cases ea
      cases eb
      have hl1 : p.f1.length ≤ 9223372036854775807 := g1'.2.1
      have hl2 : p.f2.length ≤ 9223372036854775807 := g2'.2.1
      have G1 := Aside0.mk g1'
      have G2 := Aside0.mk g2'
      have K1 := Aside0.mk k1'
      have K2 := Aside0.mk k2'
      have X0 := Aside0.mk x0
      have X1 := Aside0.mk x1
      have X2 := Aside0.mk x2
      have X3 := Aside0.mk x3
      have X4 := Aside0.mk x4
      have X5 := Aside0.mk x5
      have Y0 := Aside0.mk y0
      have Y1 := Aside0.mk y1
      have Y2 := Aside0.mk y2
      have Y3 := Aside0.mk y3
      have Y4 := Aside0.mk y4
      have Y5 := Aside0.mk y5
      clear x0 x1 x2 x3 x4 x5 y0 y1 y2 y3 y4 y5 g1' g2' k1' k2' hp
      go_upto_region 6 with (fail)
      -- REGION6
      refine start_ (n := 12) (S := fun w' => w'.cell? (ad.add (i * 6)) = some (.int .i64 p.f0) ∧ w'.cell? ⟨(ad.add (i * 6)).block, (ad.add (i * 6)).off + 1, none⟩ = some (.slice A1 p.f1.length c1) ∧ w'.cell? ⟨(ad.add (i * 6)).block, (ad.add (i * 6)).off + 2, none⟩ = some (.slice A2 p.f2.length c2) ∧ w'.cell? ⟨(ad.add (i * 6)).block, (ad.add (i * 6)).off + 3, none⟩ = some (.int .u64 p.f3) ∧ w'.cell? ⟨(ad.add (i * 6)).block, (ad.add (i * 6)).off + 4, none⟩ = some (.int .u64 p.f4) ∧ w'.cell? ⟨(ad.add (i * 6)).block, (ad.add (i * 6)).off + 5, none⟩ = some (.int .i64 p.f5) ∧ w'.cell? (bd.add (i * 6)) = some (.int .i64 p.f0) ∧ w'.cell? ⟨(bd.add (i * 6)).block, (bd.add (i * 6)).off + 1, none⟩ = some (.slice B1 p.f1.length d1) ∧ w'.cell? ⟨(bd.add (i * 6)).block, (bd.add (i * 6)).off + 2, none⟩ = some (.slice B2 p.f2.length d2) ∧ w'.cell? ⟨(bd.add (i * 6)).block, (bd.add (i * 6)).off + 3, none⟩ = some (.int .u64 p.f3) ∧ w'.cell? ⟨(bd.add (i * 6)).block, (bd.add (i * 6)).off + 4, none⟩ = some (.int .u64 p.f4) ∧ w'.cell? ⟨(bd.add (i * 6)).block, (bd.add (i * 6)).off + 5, none⟩ = some (.int .i64 p.f5)) (ds := [11]) #[false, false, false, false, false, false, false, false, false, false, false, false] (by kernel_rfl) rfl rfl ⟨(HB.out.cell (World.block_lt_of_cell? w _ X0.out)).trans X0.out, (HB.out.cell (World.block_lt_of_cell? w _ X1.out)).trans X1.out, (HB.out.cell (World.block_lt_of_cell? w _ X2.out)).trans X2.out, (HB.out.cell (World.block_lt_of_cell? w _ X3.out)).trans X3.out, (HB.out.cell (World.block_lt_of_cell? w _ X4.out)).trans X4.out, (HB.out.cell (World.block_lt_of_cell? w _ X5.out)).trans X5.out, (HB.out.cell (World.block_lt_of_cell? w _ Y0.out)).trans Y0.out, (HB.out.cell (World.block_lt_of_cell? w _ Y1.out)).trans Y1.out, (HB.out.cell (World.block_lt_of_cell? w _ Y2.out)).trans Y2.out, (HB.out.cell (World.block_lt_of_cell? w _ Y3.out)).trans Y3.out, (HB.out.cell (World.block_lt_of_cell? w _ Y4.out)).trans Y4.out, (HB.out.cell (World.block_lt_of_cell? w _ Y5.out)).trans Y5.out⟩ (fun hHeld => ?_)
      refine pure_ (i := 0) (N := some 21) (v := ?_) (a' := ?_) #[true, false, false, false, false, false, false, false, false, false, false, false] rfl rfl (by kernel_rfl) (fun _ _ _ h => h) (Or.inl ⟨by rfl, ?_⟩) ?_ ?_
      rotate_left
      · intro w'
        go_simp
        with_reducible rfl
      rotate_left
      · simp only [Act.put, List.setIfInBounds_toArray, List.set_cons_zero, List.set_cons_succ, i64_w, i32_w]
        rfl
      refine pure_ (i := 1) (N := some 22) (v := ?_) (a' := ?_) #[true, true, false, false, false, false, false, false, false, false, false, false] rfl rfl (by kernel_rfl) (fun _ _ _ h => h) (Or.inl ⟨by rfl, ?_⟩) ?_ ?_
      rotate_left
      · intro w'
        go_simp
        with_reducible rfl
      rotate_left
      · simp only [Act.put, List.setIfInBounds_toArray, List.set_cons_zero, List.set_cons_succ, i64_w, i32_w]
        rfl
      refine pure_ (i := 2) (N := some 23) (v := ?_) (a' := ?_) #[true, true, true, false, false, false, false, false, false, false, false, false] rfl rfl (by kernel_rfl) (fun _ _ _ h => h) (Or.inl ⟨by rfl, ?_⟩) ?_ ?_
      rotate_left
      · intro w'
        go_simp
        with_reducible rfl
      rotate_left
      · simp only [Act.put, List.setIfInBounds_toArray, List.set_cons_zero, List.set_cons_succ, i64_w, i32_w]
        rfl
      refine pure_ (i := 4) (N := some 25) (v := ?_) (a' := ?_) #[true, true, true, false, true, false, false, false, false, false, false, false] rfl rfl (by kernel_rfl) (fun _ _ _ h => h) (Or.inl ⟨by rfl, ?_⟩) ?_ ?_
      rotate_left
      · intro w'
        go_simp
        with_reducible rfl
      rotate_left
      · simp only [Act.put, List.setIfInBounds_toArray, List.set_cons_zero, List.set_cons_succ, i64_w, i32_w]
        rfl
      refine pure_ (i := 5) (N := some 26) (v := ?_) (a' := ?_) #[true, true, true, false, true, true, false, false, false, false, false, false] rfl rfl (by kernel_rfl) (fun _ _ _ h => h) (Or.inl ⟨by rfl, ?_⟩) ?_ ?_
      rotate_left
      · intro w'
        go_simp
        with_reducible rfl
      rotate_left
      · simp only [Act.put, List.setIfInBounds_toArray, List.set_cons_zero, List.set_cons_succ, i64_w, i32_w]
        rfl
      refine pure_ (i := 6) (N := some 27) (v := ?_) (a' := ?_) #[true, true, true, false, true, true, true, false, false, false, false, false] rfl rfl (by kernel_rfl) (fun _ _ _ h => h) (Or.inl ⟨by rfl, ?_⟩) ?_ ?_
      rotate_left
      · intro w'
        go_simp
        with_reducible rfl
      rotate_left
      · simp only [Act.put, List.setIfInBounds_toArray, List.set_cons_zero, List.set_cons_succ, i64_w, i32_w]
        rfl
      refine take_ (i := 3) (N := some 24) (v := ?_) (a' := ?_) #[true, true, true, true, true, true, true, false, false, false, false, false] rfl rfl (by kernel_rfl) (fun _ _ _ h => h) (Or.inl ⟨by rfl, ?_⟩) hHeld ?_ ?_
      rotate_left
      · rintro w' ⟨s0, s1, s2, s3, s4, s5, s6, s7, s8, s9, s10, s11⟩
        go_simp
        with_reducible rfl
      rotate_left
      · simp only [Act.put, List.setIfInBounds_toArray, List.set_cons_zero, List.set_cons_succ, i64_w, i32_w]
        rfl
      refine take_ (i := 7) (N := some 28) (v := ?_) (a' := ?_) #[true, true, true, true, true, true, true, true, false, false, false, false] rfl rfl (by kernel_rfl) (fun _ _ _ h => h) (Or.inl ⟨by rfl, ?_⟩) hHeld ?_ ?_
      rotate_left
      · rintro w' ⟨s0, s1, s2, s3, s4, s5, s6, s7, s8, s9, s10, s11⟩
        go_simp
        with_reducible rfl
      rotate_left
      · simp only [Act.put, List.setIfInBounds_toArray, List.set_cons_zero, List.set_cons_succ, i64_w, i32_w]
        rfl
      refine join_ (σ := Nat × Nat) 2 #[true, true, true, true, true, true, true, true, true, true, false, false] (fun | (bx, by_) => [(6, .pointer (some ⟨bx, 0, none⟩)), (7, .pointer (some ⟨by_, 0, none⟩))]) (fun | (bx, by_) => fun w' => Aside0 (Below w.heap.size w w') ∧ Aside0 (Blk w' bx #[.int .i64 0, .slice none 0 0, .slice none 0 0, .int .u64 0, .int .u64 0, .int .i64 0] 41) ∧ Aside0 (w.heap.size ≤ bx) ∧ Aside0 (Blk w' by_ #[.int .i64 0, .slice none 0 0, .slice none 0 0, .int .u64 0, .int .u64 0, .int .i64 0] 41) ∧ Aside0 (w.heap.size ≤ by_) ∧ Aside0 (¬ bx = by_)) ?_ ?_
      rotate_left
      · intro hJ8_9
        refine join_ (σ := Nat × Nat) 3 #[true, true, true, true, true, true, true, true, true, false, false, false] (fun | (bx, by_) => [(6, .pointer (some ⟨bx, 0, none⟩))]) (fun | (bx, by_) => fun w' => Aside0 (Below w.heap.size w w') ∧ Aside0 (Blk w' bx #[.int .i64 0, .slice none 0 0, .slice none 0 0, .int .u64 0, .int .u64 0, .int .i64 0] 41) ∧ Aside0 (w.heap.size ≤ bx)) ?_ ?_
        rotate_left
        · intro hJ8
          refine join_ (σ := Nat × Nat) 3 #[true, true, true, true, true, true, true, true, false, true, false, false] (fun | (bx, by_) => [(7, .pointer (some ⟨by_, 0, none⟩))]) (fun | (bx, by_) => fun w' => Aside0 (Below w.heap.size w w') ∧ Aside0 (Blk w' by_ #[.int .i64 0, .slice none 0 0, .slice none 0 0, .int .u64 0, .int .u64 0, .int .i64 0] 41) ∧ Aside0 (w.heap.size ≤ by_)) ?_ ?_
          rotate_left
          · intro hJ9
            refine two_ (i := 8) (j := 9) (Ni := some 6) (Nj := some 7) #[true, true, true, true, true, true, true, true, true, false, false, false] #[true, true, true, true, true, true, true, true, false, true, false, false] rfl rfl rfl rfl (by kernel_rfl) (by decide) (by decide) (fun K hK => ?_) (fun K hK => ?_)
            · skip
              refine box_step ?hw (N := 6) ?hd (cs := #[.int .i64 0, .slice none 0 0, .slice none 0 0, .int .u64 0, .int .u64 0, .int .i64 0]) (t := 41) ?hr ?_
              (case hd => rfl)
              (case hw => rfl)
              (case hr => (go_simp; done))
              intro bxn hg_ w3 hbx hb
              have HB3 : Aside0 (Below w.heap.size w w3) := ⟨below_step (by repeat ((with_reducible first | exact HB.out | apply below_drew1))) hb⟩
              have HX3 : Aside0 (Blk w3 bxn #[.int .i64 0, .slice none 0 0, .slice none 0 0, .int .u64 0, .int .u64 0, .int .i64 0] 41) := ⟨hbx⟩
              have GX3 : Aside0 (w.heap.size ≤ bxn) := ⟨by rw [hg_]; exact below_size (by repeat ((with_reducible first | exact HB.out | apply below_drew1)))⟩
              refine hK.out _ _ ⟨(HB3.out.cell (World.block_lt_of_cell? w _ X0.out)).trans X0.out, (HB3.out.cell (World.block_lt_of_cell? w _ X1.out)).trans X1.out, (HB3.out.cell (World.block_lt_of_cell? w _ X2.out)).trans X2.out, (HB3.out.cell (World.block_lt_of_cell? w _ X3.out)).trans X3.out, (HB3.out.cell (World.block_lt_of_cell? w _ X4.out)).trans X4.out, (HB3.out.cell (World.block_lt_of_cell? w _ X5.out)).trans X5.out, (HB3.out.cell (World.block_lt_of_cell? w _ Y0.out)).trans Y0.out, (HB3.out.cell (World.block_lt_of_cell? w _ Y1.out)).trans Y1.out, (HB3.out.cell (World.block_lt_of_cell? w _ Y2.out)).trans Y2.out, (HB3.out.cell (World.block_lt_of_cell? w _ Y3.out)).trans Y3.out, (HB3.out.cell (World.block_lt_of_cell? w _ Y4.out)).trans Y4.out, (HB3.out.cell (World.block_lt_of_cell? w _ Y5.out)).trans Y5.out⟩ (fun hHeld => ?_)
              clear hK K
              refine norm_ (a' := ?_) ?_ ?_
              rotate_left
              · show Act.put _ (some 6) _ = _
                simp only [Act.put, List.setIfInBounds_toArray, List.set_cons_zero, List.set_cons_succ, i64_w, i32_w]
                rfl
              exact norm_ (by (simp only [putAll, Act.put, List.setIfInBounds_toArray, List.set_cons_zero, List.set_cons_succ]; done)) (hJ8 (bxn, 0) _ ⟨HB3, HX3, GX3⟩)
            · skip
              refine box_step ?hw (N := 7) ?hd (cs := #[.int .i64 0, .slice none 0 0, .slice none 0 0, .int .u64 0, .int .u64 0, .int .i64 0]) (t := 41) ?hr ?_
              (case hd => rfl)
              (case hw => rfl)
              (case hr => (go_simp; done))
              intro by_n hg_ w3 hbx hb
              have HB3 : Aside0 (Below w.heap.size w w3) := ⟨below_step (by repeat ((with_reducible first | exact HB.out | apply below_drew1))) hb⟩
              have HY3 : Aside0 (Blk w3 by_n #[.int .i64 0, .slice none 0 0, .slice none 0 0, .int .u64 0, .int .u64 0, .int .i64 0] 41) := ⟨hbx⟩
              have GY3 : Aside0 (w.heap.size ≤ by_n) := ⟨by rw [hg_]; exact below_size (by repeat ((with_reducible first | exact HB.out | apply below_drew1)))⟩
              refine hK.out _ _ ⟨(HB3.out.cell (World.block_lt_of_cell? w _ X0.out)).trans X0.out, (HB3.out.cell (World.block_lt_of_cell? w _ X1.out)).trans X1.out, (HB3.out.cell (World.block_lt_of_cell? w _ X2.out)).trans X2.out, (HB3.out.cell (World.block_lt_of_cell? w _ X3.out)).trans X3.out, (HB3.out.cell (World.block_lt_of_cell? w _ X4.out)).trans X4.out, (HB3.out.cell (World.block_lt_of_cell? w _ X5.out)).trans X5.out, (HB3.out.cell (World.block_lt_of_cell? w _ Y0.out)).trans Y0.out, (HB3.out.cell (World.block_lt_of_cell? w _ Y1.out)).trans Y1.out, (HB3.out.cell (World.block_lt_of_cell? w _ Y2.out)).trans Y2.out, (HB3.out.cell (World.block_lt_of_cell? w _ Y3.out)).trans Y3.out, (HB3.out.cell (World.block_lt_of_cell? w _ Y4.out)).trans Y4.out, (HB3.out.cell (World.block_lt_of_cell? w _ Y5.out)).trans Y5.out⟩ (fun hHeld => ?_)
              clear hK K
              refine norm_ (a' := ?_) ?_ ?_
              rotate_left
              · show Act.put _ (some 7) _ = _
                simp only [Act.put, List.setIfInBounds_toArray, List.set_cons_zero, List.set_cons_succ, i64_w, i32_w]
                rfl
              exact norm_ (by (simp only [putAll, Act.put, List.setIfInBounds_toArray, List.set_cons_zero, List.set_cons_succ]; done)) (hJ9 (0, by_n) _ ⟨HB3, HY3, GY3⟩)
          · skip
            rintro ⟨bx, by_⟩ w' ⟨HB, HY, GY⟩
            have hHeld := (⟨(HB.out.cell (World.block_lt_of_cell? w _ X0.out)).trans X0.out, (HB.out.cell (World.block_lt_of_cell? w _ X1.out)).trans X1.out, (HB.out.cell (World.block_lt_of_cell? w _ X2.out)).trans X2.out, (HB.out.cell (World.block_lt_of_cell? w _ X3.out)).trans X3.out, (HB.out.cell (World.block_lt_of_cell? w _ X4.out)).trans X4.out, (HB.out.cell (World.block_lt_of_cell? w _ X5.out)).trans X5.out, (HB.out.cell (World.block_lt_of_cell? w _ Y0.out)).trans Y0.out, (HB.out.cell (World.block_lt_of_cell? w _ Y1.out)).trans Y1.out, (HB.out.cell (World.block_lt_of_cell? w _ Y2.out)).trans Y2.out, (HB.out.cell (World.block_lt_of_cell? w _ Y3.out)).trans Y3.out, (HB.out.cell (World.block_lt_of_cell? w _ Y4.out)).trans Y4.out, (HB.out.cell (World.block_lt_of_cell? w _ Y5.out)).trans Y5.out⟩ : w'.cell? (ad.add (i * 6)) = some (.int .i64 p.f0) ∧ w'.cell? ⟨(ad.add (i * 6)).block, (ad.add (i * 6)).off + 1, none⟩ = some (.slice A1 p.f1.length c1) ∧ w'.cell? ⟨(ad.add (i * 6)).block, (ad.add (i * 6)).off + 2, none⟩ = some (.slice A2 p.f2.length c2) ∧ w'.cell? ⟨(ad.add (i * 6)).block, (ad.add (i * 6)).off + 3, none⟩ = some (.int .u64 p.f3) ∧ w'.cell? ⟨(ad.add (i * 6)).block, (ad.add (i * 6)).off + 4, none⟩ = some (.int .u64 p.f4) ∧ w'.cell? ⟨(ad.add (i * 6)).block, (ad.add (i * 6)).off + 5, none⟩ = some (.int .i64 p.f5) ∧ w'.cell? (bd.add (i * 6)) = some (.int .i64 p.f0) ∧ w'.cell? ⟨(bd.add (i * 6)).block, (bd.add (i * 6)).off + 1, none⟩ = some (.slice B1 p.f1.length d1) ∧ w'.cell? ⟨(bd.add (i * 6)).block, (bd.add (i * 6)).off + 2, none⟩ = some (.slice B2 p.f2.length d2) ∧ w'.cell? ⟨(bd.add (i * 6)).block, (bd.add (i * 6)).off + 3, none⟩ = some (.int .u64 p.f3) ∧ w'.cell? ⟨(bd.add (i * 6)).block, (bd.add (i * 6)).off + 4, none⟩ = some (.int .u64 p.f4) ∧ w'.cell? ⟨(bd.add (i * 6)).block, (bd.add (i * 6)).off + 5, none⟩ = some (.int .i64 p.f5))
            refine norm_ (a' := ?_) ?_ ?_
            rotate_left
            · simp only [putAll, Act.put, List.setIfInBounds_toArray, List.set_cons_zero, List.set_cons_succ]
              rfl
            refine one_ (i := 8) (N := some 6) #[true, true, true, true, true, true, true, true, true, true, false, false] rfl rfl (by kernel_rfl) (by decide) (fun K hK => ?_)
            refine box_step ?hw (N := 6) ?hd (cs := #[.int .i64 0, .slice none 0 0, .slice none 0 0, .int .u64 0, .int .u64 0, .int .i64 0]) (t := 41) ?hr ?_
            (case hd => rfl)
            (case hw => rfl)
            (case hr => (go_simp; done))
            intro bxn hg_ w3 hbx hb
            have HB3 : Aside0 (Below w.heap.size w w3) := ⟨below_step HB.out hb⟩
            have HY3 : Aside0 (Blk w3 by_ #[.int .i64 0, .slice none 0 0, .slice none 0 0, .int .u64 0, .int .u64 0, .int .i64 0] 41) := ⟨blk_below HY.out hb⟩
            have HX3 : Aside0 (Blk w3 bxn #[.int .i64 0, .slice none 0 0, .slice none 0 0, .int .u64 0, .int .u64 0, .int .i64 0] 41) := ⟨hbx⟩
            have GX3 : Aside0 (w.heap.size ≤ bxn) := ⟨by rw [hg_]; exact below_size HB.out⟩
            have NE3 : Aside0 (¬ bxn = by_) := ⟨by rw [hg_]; exact Nat.ne_of_gt (blk_lt HY.out)⟩
            refine hK.out _ _ ⟨(HB3.out.cell (World.block_lt_of_cell? w _ X0.out)).trans X0.out, (HB3.out.cell (World.block_lt_of_cell? w _ X1.out)).trans X1.out, (HB3.out.cell (World.block_lt_of_cell? w _ X2.out)).trans X2.out, (HB3.out.cell (World.block_lt_of_cell? w _ X3.out)).trans X3.out, (HB3.out.cell (World.block_lt_of_cell? w _ X4.out)).trans X4.out, (HB3.out.cell (World.block_lt_of_cell? w _ X5.out)).trans X5.out, (HB3.out.cell (World.block_lt_of_cell? w _ Y0.out)).trans Y0.out, (HB3.out.cell (World.block_lt_of_cell? w _ Y1.out)).trans Y1.out, (HB3.out.cell (World.block_lt_of_cell? w _ Y2.out)).trans Y2.out, (HB3.out.cell (World.block_lt_of_cell? w _ Y3.out)).trans Y3.out, (HB3.out.cell (World.block_lt_of_cell? w _ Y4.out)).trans Y4.out, (HB3.out.cell (World.block_lt_of_cell? w _ Y5.out)).trans Y5.out⟩ (fun hHeld => ?_)
            clear hK K
            refine norm_ (a' := ?_) ?_ ?_
            rotate_left
            · show Act.put _ (some 6) _ = _
              simp only [Act.put, List.setIfInBounds_toArray, List.set_cons_zero, List.set_cons_succ, i64_w, i32_w]
              rfl
            exact norm_ (by (simp only [putAll, Act.put, List.setIfInBounds_toArray, List.set_cons_zero, List.set_cons_succ]; done)) (hJ8_9 (bxn, by_) _ ⟨HB3, HX3, GX3, HY3, GY, NE3⟩)
        · skip
          rintro ⟨bx, by_⟩ w' ⟨HB, HX, GX⟩
          have hHeld := (⟨(HB.out.cell (World.block_lt_of_cell? w _ X0.out)).trans X0.out, (HB.out.cell (World.block_lt_of_cell? w _ X1.out)).trans X1.out, (HB.out.cell (World.block_lt_of_cell? w _ X2.out)).trans X2.out, (HB.out.cell (World.block_lt_of_cell? w _ X3.out)).trans X3.out, (HB.out.cell (World.block_lt_of_cell? w _ X4.out)).trans X4.out, (HB.out.cell (World.block_lt_of_cell? w _ X5.out)).trans X5.out, (HB.out.cell (World.block_lt_of_cell? w _ Y0.out)).trans Y0.out, (HB.out.cell (World.block_lt_of_cell? w _ Y1.out)).trans Y1.out, (HB.out.cell (World.block_lt_of_cell? w _ Y2.out)).trans Y2.out, (HB.out.cell (World.block_lt_of_cell? w _ Y3.out)).trans Y3.out, (HB.out.cell (World.block_lt_of_cell? w _ Y4.out)).trans Y4.out, (HB.out.cell (World.block_lt_of_cell? w _ Y5.out)).trans Y5.out⟩ : w'.cell? (ad.add (i * 6)) = some (.int .i64 p.f0) ∧ w'.cell? ⟨(ad.add (i * 6)).block, (ad.add (i * 6)).off + 1, none⟩ = some (.slice A1 p.f1.length c1) ∧ w'.cell? ⟨(ad.add (i * 6)).block, (ad.add (i * 6)).off + 2, none⟩ = some (.slice A2 p.f2.length c2) ∧ w'.cell? ⟨(ad.add (i * 6)).block, (ad.add (i * 6)).off + 3, none⟩ = some (.int .u64 p.f3) ∧ w'.cell? ⟨(ad.add (i * 6)).block, (ad.add (i * 6)).off + 4, none⟩ = some (.int .u64 p.f4) ∧ w'.cell? ⟨(ad.add (i * 6)).block, (ad.add (i * 6)).off + 5, none⟩ = some (.int .i64 p.f5) ∧ w'.cell? (bd.add (i * 6)) = some (.int .i64 p.f0) ∧ w'.cell? ⟨(bd.add (i * 6)).block, (bd.add (i * 6)).off + 1, none⟩ = some (.slice B1 p.f1.length d1) ∧ w'.cell? ⟨(bd.add (i * 6)).block, (bd.add (i * 6)).off + 2, none⟩ = some (.slice B2 p.f2.length d2) ∧ w'.cell? ⟨(bd.add (i * 6)).block, (bd.add (i * 6)).off + 3, none⟩ = some (.int .u64 p.f3) ∧ w'.cell? ⟨(bd.add (i * 6)).block, (bd.add (i * 6)).off + 4, none⟩ = some (.int .u64 p.f4) ∧ w'.cell? ⟨(bd.add (i * 6)).block, (bd.add (i * 6)).off + 5, none⟩ = some (.int .i64 p.f5))
          refine norm_ (a' := ?_) ?_ ?_
          rotate_left
          · simp only [putAll, Act.put, List.setIfInBounds_toArray, List.set_cons_zero, List.set_cons_succ]
            rfl
          refine one_ (i := 9) (N := some 7) #[true, true, true, true, true, true, true, true, true, true, false, false] rfl rfl (by kernel_rfl) (by decide) (fun K hK => ?_)
          refine box_step ?hw (N := 7) ?hd (cs := #[.int .i64 0, .slice none 0 0, .slice none 0 0, .int .u64 0, .int .u64 0, .int .i64 0]) (t := 41) ?hr ?_
          (case hd => rfl)
          (case hw => rfl)
          (case hr => (go_simp; done))
          intro by_n hg_ w3 hbx hb
          have HB3 : Aside0 (Below w.heap.size w w3) := ⟨below_step HB.out hb⟩
          have HX3 : Aside0 (Blk w3 bx #[.int .i64 0, .slice none 0 0, .slice none 0 0, .int .u64 0, .int .u64 0, .int .i64 0] 41) := ⟨blk_below HX.out hb⟩
          have HY3 : Aside0 (Blk w3 by_n #[.int .i64 0, .slice none 0 0, .slice none 0 0, .int .u64 0, .int .u64 0, .int .i64 0] 41) := ⟨hbx⟩
          have GY3 : Aside0 (w.heap.size ≤ by_n) := ⟨by rw [hg_]; exact below_size HB.out⟩
          have NE3 : Aside0 (¬ bx = by_n) := ⟨by rw [hg_]; exact Nat.ne_of_lt (blk_lt HX.out)⟩
          refine hK.out _ _ ⟨(HB3.out.cell (World.block_lt_of_cell? w _ X0.out)).trans X0.out, (HB3.out.cell (World.block_lt_of_cell? w _ X1.out)).trans X1.out, (HB3.out.cell (World.block_lt_of_cell? w _ X2.out)).trans X2.out, (HB3.out.cell (World.block_lt_of_cell? w _ X3.out)).trans X3.out, (HB3.out.cell (World.block_lt_of_cell? w _ X4.out)).trans X4.out, (HB3.out.cell (World.block_lt_of_cell? w _ X5.out)).trans X5.out, (HB3.out.cell (World.block_lt_of_cell? w _ Y0.out)).trans Y0.out, (HB3.out.cell (World.block_lt_of_cell? w _ Y1.out)).trans Y1.out, (HB3.out.cell (World.block_lt_of_cell? w _ Y2.out)).trans Y2.out, (HB3.out.cell (World.block_lt_of_cell? w _ Y3.out)).trans Y3.out, (HB3.out.cell (World.block_lt_of_cell? w _ Y4.out)).trans Y4.out, (HB3.out.cell (World.block_lt_of_cell? w _ Y5.out)).trans Y5.out⟩ (fun hHeld => ?_)
          clear hK K
          refine norm_ (a' := ?_) ?_ ?_
          rotate_left
          · show Act.put _ (some 7) _ = _
            simp only [Act.put, List.setIfInBounds_toArray, List.set_cons_zero, List.set_cons_succ, i64_w, i32_w]
            rfl
          exact norm_ (by (simp only [putAll, Act.put, List.setIfInBounds_toArray, List.set_cons_zero, List.set_cons_succ]; done)) (hJ8_9 (bx, by_n) _ ⟨HB3, HX3, GX, HY3, GY3, NE3⟩)
      rintro ⟨bx, by_⟩ w' ⟨HB, HX, GX, HY, GY, NE⟩
      have hHeld := (⟨(HB.out.cell (World.block_lt_of_cell? w _ X0.out)).trans X0.out, (HB.out.cell (World.block_lt_of_cell? w _ X1.out)).trans X1.out, (HB.out.cell (World.block_lt_of_cell? w _ X2.out)).trans X2.out, (HB.out.cell (World.block_lt_of_cell? w _ X3.out)).trans X3.out, (HB.out.cell (World.block_lt_of_cell? w _ X4.out)).trans X4.out, (HB.out.cell (World.block_lt_of_cell? w _ X5.out)).trans X5.out, (HB.out.cell (World.block_lt_of_cell? w _ Y0.out)).trans Y0.out, (HB.out.cell (World.block_lt_of_cell? w _ Y1.out)).trans Y1.out, (HB.out.cell (World.block_lt_of_cell? w _ Y2.out)).trans Y2.out, (HB.out.cell (World.block_lt_of_cell? w _ Y3.out)).trans Y3.out, (HB.out.cell (World.block_lt_of_cell? w _ Y4.out)).trans Y4.out, (HB.out.cell (World.block_lt_of_cell? w _ Y5.out)).trans Y5.out⟩ : w'.cell? (ad.add (i * 6)) = some (.int .i64 p.f0) ∧ w'.cell? ⟨(ad.add (i * 6)).block, (ad.add (i * 6)).off + 1, none⟩ = some (.slice A1 p.f1.length c1) ∧ w'.cell? ⟨(ad.add (i * 6)).block, (ad.add (i * 6)).off + 2, none⟩ = some (.slice A2 p.f2.length c2) ∧ w'.cell? ⟨(ad.add (i * 6)).block, (ad.add (i * 6)).off + 3, none⟩ = some (.int .u64 p.f3) ∧ w'.cell? ⟨(ad.add (i * 6)).block, (ad.add (i * 6)).off + 4, none⟩ = some (.int .u64 p.f4) ∧ w'.cell? ⟨(ad.add (i * 6)).block, (ad.add (i * 6)).off + 5, none⟩ = some (.int .i64 p.f5) ∧ w'.cell? (bd.add (i * 6)) = some (.int .i64 p.f0) ∧ w'.cell? ⟨(bd.add (i * 6)).block, (bd.add (i * 6)).off + 1, none⟩ = some (.slice B1 p.f1.length d1) ∧ w'.cell? ⟨(bd.add (i * 6)).block, (bd.add (i * 6)).off + 2, none⟩ = some (.slice B2 p.f2.length d2) ∧ w'.cell? ⟨(bd.add (i * 6)).block, (bd.add (i * 6)).off + 3, none⟩ = some (.int .u64 p.f3) ∧ w'.cell? ⟨(bd.add (i * 6)).block, (bd.add (i * 6)).off + 4, none⟩ = some (.int .u64 p.f4) ∧ w'.cell? ⟨(bd.add (i * 6)).block, (bd.add (i * 6)).off + 5, none⟩ = some (.int .i64 p.f5))
      refine norm_ (a' := ?_) ?_ ?_
      rotate_left
      · simp only [putAll, Act.put, List.setIfInBounds_toArray, List.set_cons_zero, List.set_cons_succ]
        rfl
      refine one_ (i := 10) (N := none) #[true, true, true, true, true, true, true, true, true, true, true, false] rfl rfl (by kernel_rfl) (by decide) (fun K hK => ?_)
      have cV0_ := HX.out.cell 0 rfl
      have cV1_ := HX.out.cell 1 rfl
      have cV2_ := HX.out.cell 2 rfl
      have cV3_ := HX.out.cell 3 rfl
      have cV4_ := HX.out.cell 4 rfl
      have cV5_ := HX.out.cell 5 rfl
      have fV0_ := HX.out.fr 0
      have fV1_ := HX.out.fr 1
      have fV2_ := HX.out.fr 2
      have fV3_ := HX.out.fr 3
      have fV4_ := HX.out.fr 4
      have fV5_ := HX.out.fr 5
      refine skip_ (w1 := ?_) (by rfl) rfl ?_ ?_
      rotate_left
      · go_simp
        rfl
      obtain ⟨wx, hwn⟩ : ∃ X_, put6 w' bx (.int .i64 p.f0) (.slice A1 p.f1.length c1) (.slice A2 p.f2.length c2) (.int .u64 p.f3) (.int .u64 p.f4) (.int .i64 p.f5) = X_ := ⟨_, rfl⟩
      have HX3 : Aside0 (Blk wx bx #[.int .i64 p.f0, .slice A1 p.f1.length c1, .slice A2 p.f2.length c2, .int .u64 p.f3, .int .u64 p.f4, .int .i64 p.f5] 41) := ⟨by rw [← hwn]; exact put6_blk HX.out (.int .i64 p.f0) (.slice A1 p.f1.length c1) (.slice A2 p.f2.length c2) (.int .u64 p.f3) (.int .u64 p.f4) (.int .i64 p.f5)⟩
      have HY3 : Aside0 (Blk wx by_ #[.int .i64 0, .slice none 0 0, .slice none 0 0, .int .u64 0, .int .u64 0, .int .i64 0] 41) := ⟨by rw [← hwn]; exact (put6_far _ _ (.int .i64 p.f0) (.slice A1 p.f1.length c1) (.slice A2 p.f2.length c2) (.int .u64 p.f3) (.int .u64 p.f4) (.int .i64 p.f5) _ (fun e => NE.out e.symm)).trans HY.out⟩
      have HB3 : Aside0 (Below w.heap.size w wx) := ⟨by rw [← hwn]; exact HB.out.trans (put6_below _ _ _ (.int .i64 p.f0) (.slice A1 p.f1.length c1) (.slice A2 p.f2.length c2) (.int .u64 p.f3) (.int .u64 p.f4) (.int .i64 p.f5) GX.out)⟩
      unfold put6 at hwn
      rw [hwn]
      clear hwn HX HY HB cV0_ fV0_ cV1_ fV1_ cV2_ fV2_ cV3_ fV3_ cV4_ fV4_ cV5_ fV5_
      have HX := HX3
      have HY := HY3
      have HB := HB3
      clear HX3 HY3 HB3
      refine hK.out _ _ ⟨(HB.out.cell (World.block_lt_of_cell? w _ X0.out)).trans X0.out, (HB.out.cell (World.block_lt_of_cell? w _ X1.out)).trans X1.out, (HB.out.cell (World.block_lt_of_cell? w _ X2.out)).trans X2.out, (HB.out.cell (World.block_lt_of_cell? w _ X3.out)).trans X3.out, (HB.out.cell (World.block_lt_of_cell? w _ X4.out)).trans X4.out, (HB.out.cell (World.block_lt_of_cell? w _ X5.out)).trans X5.out, (HB.out.cell (World.block_lt_of_cell? w _ Y0.out)).trans Y0.out, (HB.out.cell (World.block_lt_of_cell? w _ Y1.out)).trans Y1.out, (HB.out.cell (World.block_lt_of_cell? w _ Y2.out)).trans Y2.out, (HB.out.cell (World.block_lt_of_cell? w _ Y3.out)).trans Y3.out, (HB.out.cell (World.block_lt_of_cell? w _ Y4.out)).trans Y4.out, (HB.out.cell (World.block_lt_of_cell? w _ Y5.out)).trans Y5.out⟩ (fun hHeld => ?_)
      clear hK K
      refine last_ (i := 11) (N := none) #[true, true, true, true, true, true, true, true, true, true, true, true] rfl rfl (by kernel_rfl) (by decide) (fun K hK => ?_)
      have cV0_ := HY.out.cell 0 rfl
      have cV1_ := HY.out.cell 1 rfl
      have cV2_ := HY.out.cell 2 rfl
      have cV3_ := HY.out.cell 3 rfl
      have cV4_ := HY.out.cell 4 rfl
      have cV5_ := HY.out.cell 5 rfl
      have fV0_ := HY.out.fr 0
      have fV1_ := HY.out.fr 1
      have fV2_ := HY.out.fr 2
      have fV3_ := HY.out.fr 3
      have fV4_ := HY.out.fr 4
      have fV5_ := HY.out.fr 5
      refine skip_ (w1 := ?_) (by rfl) rfl ?_ ?_
      rotate_left
      · go_simp
        rfl
      obtain ⟨wy, hwn⟩ : ∃ X_, put6 wx by_ (.int .i64 p.f0) (.slice B1 p.f1.length d1) (.slice B2 p.f2.length d2) (.int .u64 p.f3) (.int .u64 p.f4) (.int .i64 p.f5) = X_ := ⟨_, rfl⟩
      have HY3 : Aside0 (Blk wy by_ #[.int .i64 p.f0, .slice B1 p.f1.length d1, .slice B2 p.f2.length d2, .int .u64 p.f3, .int .u64 p.f4, .int .i64 p.f5] 41) := ⟨by rw [← hwn]; exact put6_blk HY.out (.int .i64 p.f0) (.slice B1 p.f1.length d1) (.slice B2 p.f2.length d2) (.int .u64 p.f3) (.int .u64 p.f4) (.int .i64 p.f5)⟩
      have HX3 : Aside0 (Blk wy bx #[.int .i64 p.f0, .slice A1 p.f1.length c1, .slice A2 p.f2.length c2, .int .u64 p.f3, .int .u64 p.f4, .int .i64 p.f5] 41) := ⟨by rw [← hwn]; exact (put6_far _ _ (.int .i64 p.f0) (.slice B1 p.f1.length d1) (.slice B2 p.f2.length d2) (.int .u64 p.f3) (.int .u64 p.f4) (.int .i64 p.f5) _ NE.out).trans HX.out⟩
      have HB3 : Aside0 (Below w.heap.size w wy) := ⟨by rw [← hwn]; exact HB.out.trans (put6_below _ _ _ (.int .i64 p.f0) (.slice B1 p.f1.length d1) (.slice B2 p.f2.length d2) (.int .u64 p.f3) (.int .u64 p.f4) (.int .i64 p.f5) GY.out)⟩
      unfold put6 at hwn
      rw [hwn]
      clear hwn HX HY HB cV0_ fV0_ cV1_ fV1_ cV2_ fV2_ cV3_ fV3_ cV4_ fV4_ cV5_ fV5_
      have HX := HX3
      have HY := HY3
      have HB := HB3
      clear HX3 HY3 HB3
      refine hK.out _ _ ?_
      clear hK K
      refine done_ (by kernel_rfl) ?_
      -- END6
      have gx : wy.heap[bx]? = _ := HX.out
      clear hHeld
      have xa0 : wy.cell? ⟨bx, 0, none⟩ = some (.int .i64 p.f0) := HX.out.cell 0 rfl
      have xa1 : wy.cell? ⟨bx, 1, none⟩ = some (.slice A1 p.f1.length c1) := HX.out.cell 1 rfl
      have xa2 : wy.cell? ⟨bx, 2, none⟩ = some (.slice A2 p.f2.length c2) := HX.out.cell 2 rfl
      have xa3 : wy.cell? ⟨bx, 3, none⟩ = some (.int .u64 p.f3) := HX.out.cell 3 rfl
      have xa4 : wy.cell? ⟨bx, 4, none⟩ = some (.int .u64 p.f4) := HX.out.cell 4 rfl
      have xa5 : wy.cell? ⟨bx, 5, none⟩ = some (.int .i64 p.f5) := HX.out.cell 5 rfl
      have ya0 : wy.cell? ⟨by_, 0, none⟩ = some (.int .i64 p.f0) := HY.out.cell 0 rfl
      have ya1 : wy.cell? ⟨by_, 1, none⟩ = some (.slice B1 p.f1.length d1) := HY.out.cell 1 rfl
      have ya2 : wy.cell? ⟨by_, 2, none⟩ = some (.slice B2 p.f2.length d2) := HY.out.cell 2 rfl
      have ya3 : wy.cell? ⟨by_, 3, none⟩ = some (.int .u64 p.f3) := HY.out.cell 3 rfl
      have ya4 : wy.cell? ⟨by_, 4, none⟩ = some (.int .u64 p.f4) := HY.out.cell 4 rfl
      have ya5 : wy.cell? ⟨by_, 5, none⟩ = some (.int .i64 p.f5) := HY.out.cell 5 rfl
      clear gx
      go_wp2_with fail
      go_loopw [8] (fun v8 wi => ∃ j : Nat, v8 = .int .i64 j ∧ j ≤ p.f1.length ∧ Aside0 (Below w.heap.size w wi) ∧ Aside0 (Blk wi bx #[.int .i64 p.f0, .slice A1 p.f1.length c1, .slice A2 p.f2.length c2, .int .u64 p.f3, .int .u64 p.f4, .int .i64 p.f5] 41) ∧ Aside0 (Blk wi by_ #[.int .i64 p.f0, .slice B1 p.f1.length d1, .slice B2 p.f2.length d2, .int .u64 p.f3, .int .u64 p.f4, .int .i64 p.f5] 41)) (fun v8 _ => p.f1.length - (intOf v8).toNat)
      case atStart => exact ⟨0, rfl, by omega, HB, HX, HY⟩
      case round =>
        clear HB HX HY xa0 xa1 xa2 xa3 xa4 xa5 ya0 ya1 ya2 ya3 ya4 ya5
        obtain ⟨j, rfl, hj, HB, HX, HY⟩ := hrel
        have xa1 := HX.out.cell 1 rfl
        have ya1 := HY.out.cell 1 rfl
        by_cases hjl : j < p.f1.length
        · have hcj : decide ((j : Int) < (p.f1.length : Int)) = true := decide_eq_true (by omega)
          have hcjn : decide (j < p.f1.length) = true := decide_eq_true hjl
          obtain ⟨ae, e1, z0, z1⟩ := at_T66 (Kd.C_below G1.out HB.out) (j : Int) (by omega) (by omega)
          obtain ⟨be, e2, u0, u1⟩ := at_T66 (Kd.C_below K1.out HB.out) (j : Int) (by omega) (by omega)
          rw [Int.toNat_natCast] at z0 z1 u0 u1
          cases e1
          cases e2
          go_wp2_with fail
          go_quiet (fail)
          go_wp2_with fail
          go_roundw
          case rel => exact ⟨j + 1, by simp [Pure.wrap_succ j (by omega)], by omega, ⟨pw_below_drewN HB.out _⟩, HX, HY⟩
          case measure => simp [intOf, Pure.wrap_succ j (by omega)]; omega
        · have hcj : decide ((j : Int) < (p.f1.length : Int)) = false := decide_eq_false (by omega)
          have xa2 := HX.out.cell 2 rfl
          have ya2 := HY.out.cell 2 rfl
          go_wp2_with fail
          go_loopw [9] (fun v9 wi => ∃ j2 : Nat, v9 = .int .i64 j2 ∧ j2 ≤ p.f2.length ∧ Aside0 (Below w.heap.size w wi) ∧ Aside0 (Blk wi bx #[.int .i64 p.f0, .slice A1 p.f1.length c1, .slice A2 p.f2.length c2, .int .u64 p.f3, .int .u64 p.f4, .int .i64 p.f5] 41) ∧ Aside0 (Blk wi by_ #[.int .i64 p.f0, .slice B1 p.f1.length d1, .slice B2 p.f2.length d2, .int .u64 p.f3, .int .u64 p.f4, .int .i64 p.f5] 41)) (fun v9 _ => p.f2.length - (intOf v9).toNat)
          case atStart => exact ⟨0, rfl, by omega, HB, HX, HY⟩
          case round =>
            clear HB HX HY xa1 xa2 ya1 ya2
            obtain ⟨j2, rfl, hj2, HB, HX, HY⟩ := hrel
            have xa2 := HX.out.cell 2 rfl
            have ya2 := HY.out.cell 2 rfl
            by_cases hjl2 : j2 < p.f2.length
            · have hcj2 : decide ((j2 : Int) < (p.f2.length : Int)) = true := decide_eq_true (by omega)
              have hcjn2 : decide (j2 < p.f2.length) = true := decide_eq_true hjl2
              obtain ⟨ae, e1, z0, z1, z2⟩ := at_T43 (Kd.C_below G2.out HB.out) (j2 : Int) (by omega) (by omega)
              obtain ⟨be, e2, t0, t1, t2⟩ := at_T43 (Kd.C_below K2.out HB.out) (j2 : Int) (by omega) (by omega)
              rw [Int.toNat_natCast] at z0 z1 z2 t0 t1 t2
              cases e1
              cases e2
              go_wp2_with fail
              go_quiet (fail)
              go_wp2_with fail
              go_roundw
              case rel => exact ⟨j2 + 1, by simp [Pure.wrap_succ j2 (by omega)], by omega, ⟨pw_below_drewN HB.out _⟩, HX, HY⟩
              case measure => simp [intOf, Pure.wrap_succ j2 (by omega)]; omega
            · have hcj2 : decide ((j2 : Int) < (p.f2.length : Int)) = false := decide_eq_false (by omega)
              go_wp2_with fail
              go_roundw
              case rel => exact ⟨i + 1, by simp [Pure.wrap_succ i (by omega)], by omega, HB⟩
              case measure => simp [intOf, Pure.wrap_succ i (by omega)]; omega
    · have hc : decide ((i : Int) < (l.length : Int)) = false := decide_eq_false (by omega)
      go_wp2_with fail
      go_ret
      exact ⟨rfl, HB.out⟩
def t66 (x : S66) : Int × Int := (x.f0, x.f1)
def t43 (x : S43) : Int × Int × Bool := (x.f0, x.f1, x.f2)
def t41 (x : S41) : (Int × List (Int × Int)) × (List (Int × Int × Bool) × List Int) := ((x.f0, x.f1.map t66), (x.f2.map t43, [x.f3, x.f4, x.f5]))
theorem map_inj {α β : Type} {f : α → β} (hf : ∀ x y, f x = f y → x = y) : ∀ {l m : List α}, l.map f = m.map f → l = m
  | [], [], _ => rfl
  | [], _ :: _, h => by simp at h
  | _ :: _, [], h => by simp at h
  | x :: l, y :: m, h => by
    simp only [List.map_cons, List.cons.injEq] at h
    rw [hf x y h.1, map_inj hf h.2]
theorem t66_inj (x y : S66) (h : t66 x = t66 y) : x = y := by
  obtain ⟨a, b⟩ := x; obtain ⟨c, d⟩ := y
  simp only [t66, Prod.mk.injEq] at h
  obtain ⟨rfl, rfl⟩ := h; rfl
theorem t43_inj (x y : S43) (h : t43 x = t43 y) : x = y := by
  obtain ⟨a, b, o⟩ := x; obtain ⟨c, d, o'⟩ := y
  simp only [t43, Prod.mk.injEq] at h
  obtain ⟨rfl, rfl, rfl⟩ := h; rfl
theorem t41_inj (x y : S41) (h : t41 x = t41 y) : x = y := by
  obtain ⟨a, b, c, d, e, f⟩ := x; obtain ⟨a', b', c', d', e', f'⟩ := y
  simp only [t41, Prod.mk.injEq, List.cons.injEq, and_true] at h
  obtain ⟨⟨rfl, h1⟩, h2, rfl, rfl, rfl⟩ := h
  rw [map_inj t66_inj h1, map_inj t43_inj h2]
instance dA41 : DecidableEq (Int × List (Int × Int)) := inferInstance
instance dB41 : DecidableEq (List (Int × Int × Bool) × List Int) := inferInstance
instance dT41 : DecidableEq ((Int × List (Int × Int)) × (List (Int × Int × Bool) × List Int)) := fun a b => instDecidableEqProd a b
def tipstafflaw43_unchanged.f (l0 l1 : List S41) : Option Bool := if l0.map t41 = l1.map t41 then some true else none
theorem unchanged_same (l : List S41) : tipstafflaw43_unchanged.f l l = some true := if_pos rfl
theorem tipstafflaw43_unchanged.calls (A0 : Option Addr) (c0 : Nat) (l0 : List S41) (A1 : Option Addr) (c1 : Nat) (l1 : List S41) (r : Bool) (w : World) (hr0 : Kd.C k41 w A0 l0.length l0) (hc0 : l0.length ≤ c0) (hr1 : Kd.C k41 w A1 l1.length l1) (hc1 : l1.length ≤ c1) (h : tipstafflaw43_unchanged.f l0 l1 = some r) :
    Calls Tryd.prog 21 #[.slice A0 l0.length c0, .slice A1 l1.length c1] w fun e w' => e = .returned (.bool r) ∧ Below w.heap.size w w' := by
  unfold tipstafflaw43_unchanged.f at h
  by_cases hc : l0.map t41 = l1.map t41
  · rw [if_pos hc] at h
    obtain rfl := Option.some.inj h
    obtain rfl := map_inj t41_inj hc
    exact unchanged_calls A0 c0 A1 c1 l0 w hr0 hc0 hr1 hc1
  · rw [if_neg hc] at h; cases h

end Go.Proofs.YtenlokaaloenmaaDoor.S
end
