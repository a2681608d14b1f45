/- limit.Jumps and limit.Stops, walked: pairs of ticks, collected; a deferred closure clips the named result. -/
import Derived.Outline
import Derived.Defers
import Derived.Recover
import Derived.StillTailTactics
import Derived.IntWalk
import Derived.Test.YtlpdoieokgeikaaHcauses
import Derived.Test.YtlpdoieokgeikaaS3
import Derived.Test.YtlpdoieokgeikaaS4
namespace Go.Proofs.Ytlpdoieokgeikaa.S
open Go.RowKit Go.Proofs.YtlpdoieokgeikaaW.PrintWords Go.Proofs.YtlpdoieokgeikaaW.PrintLast Go.Proofs.YtlpdoieokgeikaaW.PrintMore Go.Shelf
set_option linter.unusedVariables false
set_option linter.unusedSimpArgs false
attribute [local go_sem] Go.Proofs.YtlpdoieokgeikaaW.PrintXtra.isSome_setCell max2_int min2_int max_two min_two

/-- The numbers of the ticks that are something behind the ones before. -/
def pairL (q : S38 → S38 → Option Bool) (l : List S38) : Nat → Nat → List Int → Option (List Int)
  | 0, _, _ => none
  | k + 1, i, acc => if i < l.length then (q (rd_T38 l ((i : Int) - 1)) (rd_T38 l (i : Int))).bind fun b => pairL q l k (i + 1) (if b = true then acc ++ [(i : Int)] else acc) else some acc
theorem pairL_mono (q : S38 → S38 → Option Bool) (l : List S38) : ∀ k i acc, LeO (pairL q l k i acc) (pairL q l (k + 1) i acc)
  | 0, _, _ => LeO.none _
  | k + 1, i, acc => by
    rw [pairL, pairL]
    exact LeO.ite (LeO.bind (LeO.refl _) (fun b => pairL_mono q l k _ _)) (LeO.refl _)
def pairsF (q : S38 → S38 → Option Bool) (k : Nat) (l : List S38) : Option (List Int × Int) :=
  (limit_seen.f k l).bind fun e => if e = 0 then (if l.length ≤ 1000000 then (pairL q l k 1 []).bind fun xs => some (xs, 0) else none) else some ([], e)
theorem pairsF_mono (q : S38 → S38 → Option Bool) : ∀ l k, LeO (pairsF q k l) (pairsF q (k + 1) l) := fun l k =>
  LeO.bind (limit_seen.mono l k) (fun _ => LeO.ite (LeO.ite (LeO.bind (pairL_mono q l k _ _) (fun _ => LeO.refl _)) (LeO.refl _)) (LeO.refl _))
def jumpQ (a b : S38) : Option Bool := (limit_apart.f a.f0 b.f0 b.f1).map fun ap => !ap || (decide (1 < mx (wrap64 (a.f1 - b.f1)) (wrap64 (b.f1 - a.f1))) && (b.f1 != 0))
def stopQ (a b : S38) : Option Bool := some (decide (0 < a.f1) && (b.f1 == 0))
def limit_Jumps.f (k : Nat) (l0 : List S38) : Option (List Int × Int) := pairsF jumpQ k l0
theorem limit_Jumps.mono : ∀ l0 k, LeO (limit_Jumps.f k l0) (limit_Jumps.f (k + 1) l0) := pairsF_mono jumpQ
def limit_Stops.f (k : Nat) (l0 : List S38) : Option (List Int × Int) := pairsF stopQ k l0
theorem limit_Stops.mono : ∀ l0 k, LeO (limit_Stops.f k l0) (limit_Stops.f (k + 1) l0) := pairsF_mono stopQ

set_option maxHeartbeats 1000000 in
set_option maxRecDepth 100000 in
theorem clip_some (g : Addr) (n c : Nat) (w : World) (h : n ≤ c) (hc : c ≤ maxLen) :
    Calls Try.prog 45 #[.slice (some g) n c] w fun e w' => e = .returned (.slice (some g) n n) ∧ w = w' := by
  unfold maxLen at hc
  go_enter Try.func45, Try.ntmps45
  go_wp2
  go_ret
  exact ⟨rfl, rfl⟩
set_option maxHeartbeats 1000000 in
set_option maxRecDepth 100000 in
theorem clip_nil (w : World) :
    Calls Try.prog 45 #[.slice none 0 0] w fun e w' => e = .returned (.slice none 0 0) ∧ w = w' := by
  go_enter Try.func45, Try.ntmps45
  go_wp2
  go_ret
  exact ⟨rfl, rfl⟩

/-- Clipping closes the capacity. -/
def clipV : Value → Value
  | .slice A n _ => .slice A n n
  | v => v

set_option maxHeartbeats 1000000 in
set_option maxRecDepth 100000 in
theorem clip_closure (n0 B : Nat) (xs : List Int) (v : Value) (u : FrameMode) (w : World) (hB : Boxed w B 31 v) (hR : Kd.R (Kd.int .i64) 3 w n0 (fun _ => True) v xs) :
    CallsD Try.prog 44 #[.pointer (some ⟨B, 0, none⟩)] u w fun e u' w' => u' = u ∧ (e = .returned (.tuple #[]) ∧ w' = w.setCell ⟨B, 0, none⟩ (clipV v)) := by
  have cb := hB.cell
  have fb := hB.frozen
  obtain ⟨_, inner, hrow, _⟩ := hR
  rcases hrow.2 with ⟨rfl, _⟩ | ⟨g, cap, _, rfl, _, _, hl, hm, _⟩
  · go_enter_d Try.func44, Try.ntmps44
    go_wp2_with fail
    refine (clip_nil _).mono ?_
    rintro e w' ⟨rfl, rfl⟩
    go_wp2
    go_end0
    exact ⟨rfl, rfl⟩
  · clear hrow hB
    go_enter_d Try.func44, Try.ntmps44
    go_wp2_with fail
    refine (clip_some _ _ _ _ hl hm).mono ?_
    rintro e w' ⟨rfl, rfl⟩
    go_wp2
    go_end0
    exact ⟨rfl, rfl⟩

theorem pairL_len (q : S38 → S38 → Option Bool) (l : List S38) : ∀ k i acc r, pairL q l k i acc = some r → True := fun _ _ _ _ _ => trivial

/-- What stands while pairs runs. -/
structure PJ (w0 wr : World) (v : Value) (acc : List Int) : Prop where
  box : Boxed wr w0.heap.size 31 v
  row : Kd.R (Kd.int .i64) 3 wr w0.heap.size (fun _ => True) v acc
  bel : Below w0.heap.size w0 wr

theorem PJ.after {w0 wr w1 : World} {v : Value} {acc : List Int} (h : PJ w0 wr v acc) (hb : Below wr.heap.size wr w1) : PJ w0 w1 v acc := ⟨boxed_below h.box hb h.box.lt, Kd.R_below h.row hb, below_step h.bel hb⟩

theorem PJ.grown {w0 wr w1 : World} {v v1 : Value} {acc acc1 : List Int} (h : PJ w0 wr v acc) (ho : Kd.R (Kd.int .i64) 3 w1 w0.heap.size (fun _ => True) v1 acc1) (hb : Below w0.heap.size w0 w1) (hg : wr.grownBy w1 v.ownBlock) :
    Boxed w1 w0.heap.size 31 v ∧ Kd.R (Kd.int .i64) 3 w1 w0.heap.size (fun _ => True) v1 acc1 ∧ Below w0.heap.size w0 w1 := ⟨h.box.kept hg (Kd.R_ne h.row h.box (by decide)), ho, hb⟩
theorem PJ.store {w0 w1 : World} {v v1 : Value} {acc1 : List Int} (h : Boxed w1 w0.heap.size 31 v ∧ Kd.R (Kd.int .i64) 3 w1 w0.heap.size (fun _ => True) v1 acc1 ∧ Below w0.heap.size w0 w1) : PJ w0 (w1.setCell ⟨w0.heap.size, 0, none⟩ v1) v1 acc1 :=
  ⟨h.1.set _, Kd.R_set h.2.1 h.1 (fun q hq => by have hE : (Kd.int .i64).E = [] := rfl; rw [hE] at hq; simp at hq; omega) 0 _, h.2.2.setCell (p := ⟨w0.heap.size, 0, none⟩) (Nat.le_refl _) _⟩

set_option maxHeartbeats 4000000 in
set_option maxRecDepth 100000 in
theorem pairs_any (g : Nat) (q : S38 → S38 → Option Bool) (eg : ∀ args w, (callFunc g args).run Try.prog w = .ok (.enter g args) w)
    (hq : ∀ (a b : S38) (r : Bool) (W : World), q a b = some r → Calls Try.prog g #[.agg #[.int .i64 a.f0, .int .i64 a.f1, .bool a.f2, .bool a.f3, .int .i64 a.f4], .agg #[.int .i64 b.f0, .int .i64 b.f1, .bool b.f2, .bool b.f3, .int .i64 b.f4]] W (isPost W r))
    (k : Nat) (A : Option Addr) (c : Nat) (l : List S38) (r1 : List Int) (r2 : Int) (w : World) (hC : Kd.C k38 w A l.length l) (hc : l.length ≤ c) (h : pairsF q k l = some (r1, r2)) :
    Calls Try.prog 37 #[.slice A l.length c, .func (.func g) #[] #[]] w fun e w' => ∃ v0_ : Value, e = .returned (.tuple #[v0_, .int .i64 r2]) ∧ Kd.V (Kd.int .i64) 3 w' w.heap.size (fun k_ => w.heap.size ≤ k_) v0_ r1 ∧ Below w.heap.size w w' := by
  have hmf : ∀ (fn : Fn) (first cap : Array Value) (w : World), (Instr.makeFunc fn first cap).run Try.prog w = .ok (.func fn first cap) w := fun _ _ _ _ => rfl
  have hu38 := Try.underlying38
  have HQ := Aside0.mk hq
  have HC := Aside0.mk hC
  have Hc := Aside0.mk hc
  obtain ⟨er, he, h⟩ := Option.bind_eq_some_iff.1 h
  have HE := Aside0.mk he
  have H := Aside0.mk h
  clear hq hC hc he h
  -- the door
  have fin : ∀ (v : Value) (wr : World) (tmps : Array Value), PJ w wr v r1 → tmps[4]? = some (.pointer (some ⟨w.heap.size, 0, none⟩)) → tmps[5]? = some (.int .i64 r2) → bodyPostD Try.prog Try.f37 (fun e w' => ∃ v0_ : Value, e = .returned (.tuple #[v0_, .int .i64 r2]) ∧ Kd.V (Kd.int .i64) 3 w' w.heap.size (fun k_ => w.heap.size ≤ k_) v0_ r1 ∧ Below w.heap.size w w') Exit.ret
      { tmps := tmps, defers := [{ target := Target.fn (Fn.func 44) #[Value.pointer (some ⟨w.heap.size, 0, none⟩)], args := #[] }] } wr := by
    intro v wr tmps hP h4 h5
    refine leaves_cons (f := 44) (args := #[.pointer (some ⟨w.heap.size, 0, none⟩)]) (by simp) (by simp [go_sem]) ?_
    refine (clip_closure w.heap.size w.heap.size r1 v .returning wr hP.box hP.row).mono ?_
    rintro e u' w'' ⟨rfl, rfl, rfl⟩
    have hcell := (hP.box.set (clipV v)).cell
    refine ⟨.tuple #[clipV v, .int .i64 r2], ?_, _, rfl, ?_, hP.bel.setCell (p := ⟨w.heap.size, 0, none⟩) (Nat.le_refl _) _⟩
    · simp [results, Try.results37, go_sem, h4, h5, hcell]
    · have hV := Kd.R_V (base' := w.heap.size) (Kd.R_mono (Kd.R_bound (Kd.R_set hP.row hP.box (fun q hq => by have hE : (Kd.int .i64).E = [] := rfl; rw [hE] at hq; simp at hq; omega) 0 (clipV v))) (ok' := fun k_ => w.heap.size ≤ k_) (fun k hk => hk.2.1))
      obtain ⟨A', c', hv, hl', hF⟩ := hV
      subst hv
      exact ⟨A', r1.length, rfl, Nat.le_refl _, hF⟩
  have FIN := Aside0.mk fin
  clear fin
  go_enter_defers Try.func37, Try.ntmps37
  go_wp2_with fail
  refine (limit_seen.calls k A c l er _ (Kd.C_alloc HC.out _) Hc.out HE.out).mono ?_
  rintro e w1 ⟨rfl, hb⟩
  have hP0 : PJ w w1 (.slice none 0 0) [] := ⟨boxed_below (Boxed.new w 31 _) hb (by simp), Kd.R_nil _ _ _ _ _, below_step (below_alloc (Below.refl _ w) _) hb⟩
  have P0 := Aside0.mk hP0
  have cb := hP0.box.cell
  have fb := hP0.box.frozen
  clear hb hP0
  by_cases e0 : er = 0
  · have h := H.out
    rw [if_pos e0] at h
    by_cases hl : l.length ≤ 1000000
    · rw [if_pos hl] at h
      obtain ⟨xs, hx, h⟩ := Option.bind_eq_some_iff.1 h
      obtain ⟨rfl, rfl⟩ := Prod.mk.inj (Option.some.inj h)
      have HX := Aside0.mk hx
      clear h hx H
      have n0 : (er != 0) = false := by rw [bne_eq_false_iff_eq]; exact e0
      clear cb fb
      go_wp2_with fail
      go_loopg [7] k (fun kx v7 wr => ∃ (j : Nat) (v : Value) (acc : List Int), v7 = .int .i64 ((j : Int) + 1) ∧ Aside0 (pairL q l kx (j + 1) acc = some xs) ∧ Aside0 (acc.length ≤ j ∧ j ≤ 1000000) ∧ Aside0 (PJ w wr v acc))
      case atStart => exact ⟨0, _, [], rfl, HX, ⟨by simp⟩, P0⟩
      case round =>
        obtain ⟨j, v, acc, rfl, hF, hB, hP⟩ := hrel
        cases gk with
        | zero => exact absurd hF.out (by simp [pairL])
        | succ kx =>
        have hf := hF.out
        rw [pairL] at hf
        by_cases hlt : j + 1 < l.length
        · rw [if_pos hlt] at hf
          obtain ⟨bb, hqb, hf⟩ := Option.bind_eq_some_iff.1 hf
          have HQB := Aside0.mk hqb
          have HF := Aside0.mk hf
          clear hqb hf hF
          have c1 : decide ((j : Int) + 1 < (l.length : Int)) = true := decide_eq_true (by omega)
          have hCr := Kd.C_below HC.out hP.out.bel
          obtain ⟨ad, e1, x0, x1, x2, x3, x4⟩ := at_T38 hCr (j : Int) (by omega) (by omega)
          cases e1
          obtain ⟨ad', e2, y0, y1, y2, y3, y4⟩ := at_T38 hCr ((j : Int) + 1) (by omega) (by omega)
          cases e2
          have q1 : (((j : Int) + 1 : Int)).toNat = j + 1 := by omega
          rw [Int.toNat_natCast] at x0 x1 x2 x3 x4
          rw [q1] at y0 y1 y2 y3 y4
          have hj : (((j + 1 : Nat) : Int) - 1) = (j : Int) := by omega
          have hj2 : ((j + 1 : Nat) : Int) = (j : Int) + 1 := by omega
          have hqb := HQB.out
          rw [hj, hj2] at hqb
          have HQB := Aside0.mk hqb
          clear hqb hj hj2
          obtain ⟨p, hp⟩ : ∃ p, rd_T38 l (j : Int) = p := ⟨_, rfl⟩
          obtain ⟨q', hq'⟩ : ∃ p, rd_T38 l ((j : Int) + 1) = p := ⟨_, rfl⟩
          rw [hp] at x0 x1 x2 x3 x4 HQB
          rw [hq'] at y0 y1 y2 y3 y4 HQB
          clear hp hq' hCr
          have hw1 : IntKind.i64.wrap (j : Int) = (j : Int) := by have := hB.out; rw [IntWalk.i64_in _ (by omega)]
          have hd0 : decide ((0 : Int) ≤ (j : Int) + 1) = true := decide_eq_true (by omega)
          have px1 : (0 ≤ (j : Int)) = True := eq_true (by omega)
          have px2 : ((j : Int) < (l.length : Int)) = True := eq_true (by omega)
          have py1 : (0 ≤ (j : Int) + 1) = True := eq_true (by omega)
          have py2 : ((j : Int) + 1 < (l.length : Int)) = True := eq_true (by omega)
          go_wp2_with fail
          refine wp_region_still_tail 10 (by kernel_rfl) (by kernel_rfl) ?_
          obtain ⟨wd, hwd⟩ : ∃ wd, ({ heap := wr.heap, tape := wr.tape, drawn := wr.drawn + 1, os := wr.os, output := wr.output } : World) = wd := ⟨_, rfl⟩
          have hPd : PJ w wd v acc := by rw [← hwd]; exact ⟨hP.out.box, Kd.R_drew hP.out.row, below_drew1 hP.out.bel⟩
          have hxd : ∀ a, wr.cell? a = wd.cell? a := fun _ => by rw [← hwd]; rfl
          rw [hxd] at x0 x1 x2 x3 x4 y0 y1 y2 y3 y4
          have PD := Aside0.mk hPd
          rw [hwd]
          clear hPd hxd hP hwd
          simp only [List.take_succ_cons, List.take_zero, List.drop_succ_cons, List.drop_zero]
          repeat still_step
          try refine wpStill_nil ?_
          clear x0 x1 x2 x3 x4 y0 y1 y2 y3 y4 px1 px2 py1 py2
          cases bb with
          | true =>
            go_wp2_with (first | (go_at_fn g; refine (HQ.out p q' true _ HQB.out).mono ?_; rintro e w2 ⟨rfl, hb2⟩; have P2 := Aside0.mk (PJ.after PD.out hb2); clear hb2; have cb2 := P2.out.box.cell) | (at_builtin; refine Kd.R_append (Kd.int .i64) (w0 := w) w.heap.size rfl (.tmp 31) (.tmp 33) 31 3 (.int .i64 0) 8 rfl Try.underlying31 info3 rfl (by decide) (by omega) v acc ((j : Int) + 1) [.int .i64 ((j : Int) + 1)] (fun _ => True) (fun _ => False) rfl rfl rfl (fun _ hk => hk.elim) (fun _ _ => trivial) P2.out.row P2.out.bel P2.out.bel.size (by have := hB.out; omega) ?_; intro v1 w3 ho hb3 hg3 _; obtain ⟨g1, cap1, rfl, _, _, _⟩ := Kd.R_form ho (by simp); simp only [List.length_append, List.length_cons, List.length_nil, Nat.zero_add] at ho; have P3 := Aside0.mk (PJ.grown P2.out ho hb3 hg3); clear ho hb3 hg3; have cb3 := P3.out.1.cell; have fb3 := P3.out.1.frozen))
            go_roundg kx
            case measure => omega
            case rel =>
              have hB1 := hB.out
              have hf := HF.out
              rw [if_pos (by trivial)] at hf
              exact ⟨j + 1, _, acc ++ [(j : Int) + 1], by simp, ⟨by simpa using hf⟩, ⟨by simp; omega⟩, ⟨PJ.store P3.out⟩⟩
          | false =>
            go_wp2_with (go_at_fn g; refine (HQ.out p q' false _ HQB.out).mono ?_; rintro e w2 ⟨rfl, hb2⟩; have P2 := Aside0.mk (PJ.after PD.out hb2); clear hb2)
            go_roundg kx
            case measure => omega
            case rel =>
              have hB1 := hB.out
              have hf := HF.out
              rw [if_neg (by simp)] at hf
              exact ⟨j + 1, v, acc, by simp, ⟨hf⟩, ⟨by omega⟩, P2⟩
        · rw [if_neg hlt] at hf
          obtain rfl := Option.some.inj hf
          clear hf hF
          have c1 : decide ((j : Int) + 1 < (l.length : Int)) = false := decide_eq_false (by omega)
          obtain ⟨A', c', hv⟩ := Kd.R_slice hP.out.row
          subst hv
          have cb := hP.out.box.cell
          have fb := hP.out.box.frozen
          go_wp2
          refine FIN.out _ _ _ (PJ.store ⟨hP.out.box, hP.out.row, hP.out.bel⟩) rfl rfl
    · rw [if_neg hl] at h; cases h
  · have h := H.out
    rw [if_neg e0] at h
    obtain ⟨rfl, rfl⟩ := Prod.mk.inj (Option.some.inj h)
    clear h H
    have n0 : (er != 0) = true := by rw [bne_iff_ne]; exact e0
    go_wp2
    refine FIN.out (.slice none 0 0) _ _ ⟨P0.out.box.set _, Kd.R_nil _ _ _ _ _, P0.out.bel.setCell (p := ⟨w.heap.size, 0, none⟩) (Nat.le_refl _) _⟩ rfl rfl

set_option maxHeartbeats 2000000 in
set_option maxRecDepth 100000 in
theorem jump_any (a b : S38) (r : Bool) (W : World) (h : jumpQ a b = some r) : Calls Try.prog 38 #[.agg #[.int .i64 a.f0, .int .i64 a.f1, .bool a.f2, .bool a.f3, .int .i64 a.f4], .agg #[.int .i64 b.f0, .int .i64 b.f1, .bool b.f2, .bool b.f3, .int .i64 b.f4]] W (isPost W r) := by
  have hu38 := Try.underlying38
  obtain ⟨ap, hap, hr⟩ := Option.map_eq_some_iff.1 h
  have HA := Aside0.mk hap
  clear h hap
  obtain ⟨p0, p1, p2, p3, p4⟩ := a
  obtain ⟨q0, q1, q2, q3, q4⟩ := b
  dsimp only at HA hr ⊢
  have HR := Aside0.mk hr
  clear hr
  have hR : (!ap || (decide (1 < mx (wrap64 (p1 - q1)) (wrap64 (q1 - p1))) && (q1 != 0))) = r := HR.out
  clear HR
  have HR := Aside0.mk hR
  clear hR
  go_enter Try.func38, Try.ntmps38
  go_wp2_with fail
  refine (limit_apart.calls p0 q0 q1 ap _ HA.out).mono ?_
  rintro e w1 ⟨rfl, hb⟩
  have hB : Below W.heap.size W w1 := below_step (below_alloc (below_alloc (Below.refl _ W) _) _) hb
  have m1 : w1.heap[W.heap.size]? = some (.cells #[.int .i64 p0, .int .i64 p1, .bool p2, .bool p3, .int .i64 p4] 38 (0, 0)) := (hb.block _ (by simp; omega)).trans (blk_alloc (heap_alloc_new W _) _)
  have m2 : w1.heap[W.heap.size + 1]? = some (.cells #[.int .i64 q0, .int .i64 q1, .bool q2, .bool q3, .int .i64 q4] 38 (0, 0)) := (hb.block _ (by simp)).trans (by have := heap_alloc_new (W.alloc (.cells #[.int .i64 p0, .int .i64 p1, .bool p2, .bool p3, .int .i64 p4] 38)) (.cells #[.int .i64 q0, .int .i64 q1, .bool q2, .bool q3, .int .i64 q4] 38); rwa [World.size_alloc] at this)
  have x1 : w1.cell? ⟨W.heap.size, 1, none⟩ = some (.int .i64 p1) := (blk_cell m1 1).trans rfl
  have y1 : w1.cell? ⟨W.heap.size + 1, 1, none⟩ = some (.int .i64 q1) := (blk_cell m2 1).trans rfl
  have HB := Aside0.mk hB
  clear hb hB m1 m2
  cases ap with
  | false =>
    obtain rfl : true = r := by have := HR.out; simpa using this
    go_wp2
    go_ret
    exact ⟨rfl, HB.out⟩
  | true =>
    have hR := HR.out
    rw [show (!true) = false from rfl, Bool.false_or] at hR
    clear HR
    by_cases d : wrap64 (p1 - q1) < wrap64 (q1 - p1)
    · have hm : mx (wrap64 (p1 - q1)) (wrap64 (q1 - p1)) = wrap64 (q1 - p1) := by unfold mx; split <;> omega
      rw [hm] at hR
      clear hm
      by_cases c : 1 < wrap64 (q1 - p1)
      · have c1 : decide (1 < wrap64 (q1 - p1)) = true := decide_eq_true c
        obtain rfl : (q1 != 0) = r := by rw [c1] at hR; exact hR
        clear hR
        go_wp2
        go_ret
        exact ⟨rfl, HB.out⟩
      · have c1 : decide (1 < wrap64 (q1 - p1)) = false := decide_eq_false c
        obtain rfl : false = r := by rw [c1] at hR; exact hR
        clear hR
        go_wp2
        go_ret
        exact ⟨rfl, HB.out⟩
    · have hm : mx (wrap64 (p1 - q1)) (wrap64 (q1 - p1)) = wrap64 (p1 - q1) := by unfold mx; split <;> omega
      rw [hm] at hR
      clear hm
      by_cases c : 1 < wrap64 (p1 - q1)
      · have c1 : decide (1 < wrap64 (p1 - q1)) = true := decide_eq_true c
        obtain rfl : (q1 != 0) = r := by rw [c1] at hR; exact hR
        clear hR
        go_wp2
        go_ret
        exact ⟨rfl, HB.out⟩
      · have c1 : decide (1 < wrap64 (p1 - q1)) = false := decide_eq_false c
        obtain rfl : false = r := by rw [c1] at hR; exact hR
        clear hR
        go_wp2
        go_ret
        exact ⟨rfl, HB.out⟩

set_option maxHeartbeats 2000000 in
set_option maxRecDepth 100000 in
theorem stop_any (a b : S38) (r : Bool) (W : World) (h : stopQ a b = some r) : Calls Try.prog 41 #[.agg #[.int .i64 a.f0, .int .i64 a.f1, .bool a.f2, .bool a.f3, .int .i64 a.f4], .agg #[.int .i64 b.f0, .int .i64 b.f1, .bool b.f2, .bool b.f3, .int .i64 b.f4]] W (isPost W r) := by
  have hu38 := Try.underlying38
  obtain rfl := Option.some.inj h
  clear h
  obtain ⟨p0, p1, p2, p3, p4⟩ := a
  obtain ⟨q0, q1, q2, q3, q4⟩ := b
  dsimp only
  by_cases c : 0 < p1
  · have c1 : decide (0 < p1) = true := decide_eq_true c
    have HC := Aside0.mk c1
    clear c
    rw [c1]
    go_enter Try.func41, Try.ntmps41
    go_wp2
    go_ret
    exact ⟨rfl, ((Below.refl _ W).alloc (Nat.le_refl _) _).alloc (by simp) _⟩
  · have c1 : decide (0 < p1) = false := decide_eq_false c
    have HC := Aside0.mk c1
    clear c
    rw [c1]
    go_enter Try.func41, Try.ntmps41
    go_wp2
    go_ret
    exact ⟨rfl, ((Below.refl _ W).alloc (Nat.le_refl _) _).alloc (by simp) _⟩

set_option maxHeartbeats 2000000 in
theorem limit_Jumps.calls (k : Nat) (A0 : Option Addr) (c0 : Nat) (l0 : List S38) (r1 : List Int) (r2 : Int) (w : World) (hr0 : Kd.C k38 w A0 l0.length l0) (hc0 : l0.length ≤ c0) (h : limit_Jumps.f k l0 = some (r1, r2)) :
    Calls Try.prog 23 #[.slice A0 l0.length c0] w fun e w' => ∃ v0_ : Value, e = .returned (.tuple #[v0_, .int .i64 r2]) ∧ Kd.V (Kd.int .i64) 3 w' w.heap.size (fun k_ => w.heap.size ≤ k_) v0_ r1 ∧ Below w.heap.size w w' := by
  have hp := pairs_any 38 jumpQ (enters_of Try.func38 (by kernel_rfl) rfl) jump_any k A0 c0 l0 r1 r2 w hr0 hc0 h
  have HP := Aside0.mk hp
  clear hp h hr0 hc0
  go_enter Try.func23, Try.ntmps23
  go_wp2_with (go_at_call 37; refine HP.out.mono ?_; rintro e w1 ⟨v0, rfl, hv, hb⟩; have HV := Aside0.mk hv; have HB := Aside0.mk hb; clear hv hb)
  go_ret2
  exact ⟨_, rfl, HV.out, HB.out⟩

set_option maxHeartbeats 2000000 in
theorem limit_Stops.calls (k : Nat) (A0 : Option Addr) (c0 : Nat) (l0 : List S38) (r1 : List Int) (r2 : Int) (w : World) (hr0 : Kd.C k38 w A0 l0.length l0) (hc0 : l0.length ≤ c0) (h : limit_Stops.f k l0 = some (r1, r2)) :
    Calls Try.prog 25 #[.slice A0 l0.length c0] w fun e w' => ∃ v0_ : Value, e = .returned (.tuple #[v0_, .int .i64 r2]) ∧ Kd.V (Kd.int .i64) 3 w' w.heap.size (fun k_ => w.heap.size ≤ k_) v0_ r1 ∧ Below w.heap.size w w' := by
  have hp := pairs_any 41 stopQ (enters_of Try.func41 (by kernel_rfl) rfl) stop_any k A0 c0 l0 r1 r2 w hr0 hc0 h
  have HP := Aside0.mk hp
  clear hp h hr0 hc0
  go_enter Try.func25, Try.ntmps25
  go_wp2_with (go_at_call 37; refine HP.out.mono ?_; rintro e w1 ⟨v0, rfl, hv, hb⟩; have HV := Aside0.mk hv; have HB := Aside0.mk hb; clear hv hb)
  go_ret2
  exact ⟨_, rfl, HV.out, HB.out⟩

end Go.Proofs.Ytlpdoieokgeikaa.S
