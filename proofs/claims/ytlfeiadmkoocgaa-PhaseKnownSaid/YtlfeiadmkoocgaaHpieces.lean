/- phase.pieces, walked: the parts of a slot; its closure appends to a captured slice of structs. -/
import Derived.Outline
import Derived.RangeFuncBox
import Derived.RangeFuncNested
import Derived.Test.YtlfeiadmkoocgaaS0
import Derived.Test.YtlfeiadmkoocgaaXtra
import Derived.Test.YtlfeiadmkoocgaaNums
namespace Go.Proofs.Ytlfeiadmkoocgaa.S
open Go.RowKit Go.Proofs.YtlfeiadmkoocgaaW.PrintWords Go.Proofs.YtlfeiadmkoocgaaW.PrintLast Go.Proofs.YtlfeiadmkoocgaaW.PrintMore
set_option linter.unusedVariables false
set_option linter.unusedSimpArgs false

/-- The last part of a list, and one more behind it. -/
def lastP (l : List S57) : S57 := rd_T57 l ((l.length : Int) - 1)
def addP (l : List S57) (part trip len : Int) : List S57 := l ++ [⟨part, trip, wrap64 ((lastP l).f2 + (lastP l).f3), len⟩]
def tripsP (m d : Int) : Nat → Int → List S57 → List S57
  | 0, _, l => l
  | n + 1, i, l => tripsP m d n (i + 1) (addP (addP l 2 i m) 3 i d)
def piecesP (m d n : Int) : List S57 := addP (addP (tripsP m d n.toNat 0 [⟨1, 0, 0, m⟩]) 4 0 m) 5 0 d
def phase_pieces.f (a0_0 a0_1 a0_2 a0_3 a0_4 a1 : Int) : Option (List S57) := if a1 ≤ 1000000 then some (piecesP a0_0 a0_1 a1) else none

theorem info57' : (Try.prog.info? 57).map (fun i => (i.zero, i.size, i.bytes)) = some (some (.agg #[.int .i64 0, .int .i64 0, .int .i64 0, .int .i64 0]), 4, 32) := by kernel_rfl

set_option maxHeartbeats 1000000 in
set_option maxRecDepth 100000 in
theorem add_closure (n0 : Nat) (w0 w : World) (B : Nat) (v : Value) (xs : List S57) (part trip len : Int) (hB : Boxed w B 53 v) (hn : n0 ≤ B) (hR : Kd.R k57 57 w n0 (fun _ => True) v xs) (h0 : 0 < xs.length) (h1 : xs.length ≤ 10000000) (hb : Below n0 w0 w) :
    Calls Try.prog 53 #[.int .i64 part, .int .i64 trip, .int .i64 len, .pointer (some ⟨B, 0, none⟩)] w fun e w' => e = .returned (.tuple #[]) ∧ ∃ v1, Boxed w' B 53 v1 ∧ Kd.R k57 57 w' n0 (fun _ => True) v1 (addP xs part trip len) ∧ Below n0 w0 w' ∧
      ∀ (g t : Nat) (cs : Array Value), t ≠ 57 → t ≠ 53 → w.heap[g]? = some (.cells cs t (0, 0)) → w'.heap[g]? = some (.cells cs t (0, 0)) := by
  obtain ⟨g, cap, rfl, hg0, hg1, gc, hgc⟩ := Kd.R_form hR h0
  obtain ⟨ad, e1, x0, x1, x2, x3⟩ := at_T57 (Kd.R_reads' hR).2.2 ((xs.length : Int) - 1) (by omega) (by omega)
  cases e1
  rw [show (((xs.length : Int) - 1).toNat) = xs.length - 1 by omega, add_plain] at x0 x1 x2 x3
  have y0 : w.cell? ⟨g, (xs.length - 1) * 4, none⟩ = some (.int .i64 (lastP xs).f0) := x0
  have y1 : w.cell? ⟨g, (xs.length - 1) * 4 + 1, none⟩ = some (.int .i64 (lastP xs).f1) := x1
  have y2 : w.cell? ⟨g, (xs.length - 1) * 4 + 2, none⟩ = some (.int .i64 (lastP xs).f2) := x2
  have y3 : w.cell? ⟨g, (xs.length - 1) * 4 + 3, none⟩ = some (.int .i64 (lastP xs).f3) := x3
  clear x0 x1 x2 x3
  have cb := hB.cell
  have cbA : ∀ o, (w.alloc o).cell? ⟨B, 0, none⟩ = some (.slice (some ⟨g, 0, none⟩) xs.length cap) := fun o => (hB.alloc o).cell
  have hu := Try.underlying57
  have NE : Aside0 (some B ≠ (Value.slice (some ⟨g, 0, none⟩) xs.length cap).ownBlock) := ⟨Kd.R_ne hR hB (by decide)⟩
  have HB := Aside0.mk hB
  have HR := Aside0.mk hR
  have HW := Aside0.mk hb
  have HC := Aside0.mk hgc
  clear hB hR hb hgc
  go_enter Try.func53, Try.ntmps53
  go_wp2_with (at_builtin; refine Kd.R_append k57 (w0 := w0) n0 rfl (.tmp 14) (.tmp 24) 53 57 (.agg #[.int .i64 0, .int .i64 0, .int .i64 0, .int .i64 0]) 32 rfl Try.underlying53 info57' rfl (by decide) (by omega) (.slice (some ⟨g, 0, none⟩) xs.length cap) xs ⟨part, trip, wrap64 ((lastP xs).f2 + (lastP xs).f3), len⟩ [.int .i64 part, .int .i64 trip, .int .i64 (wrap64 ((lastP xs).f2 + (lastP xs).f3)), .int .i64 len] (fun _ => True) (fun _ => False) rfl (by rw [World.size_alloc]; rfl) (k57_mkM _ _ _ _) (fun _ hk => hk.elim) (fun _ _ => trivial) (Kd.R_alloc HR.out _) (HW.out.alloc (by have := HW.out.size; omega) _) (by rw [World.size_alloc]; omega) (by omega) ?_; intro v1 w1 ho hb hg hat; obtain ⟨g1, cap1, rfl, _, _, _⟩ := Kd.R_form ho (by simp); simp only [List.length_append, List.length_cons, List.length_nil, Nat.zero_add] at ho; have HR1 := Aside0.mk ho; have HW1 := Aside0.mk hb; have HB1 := Aside0.mk (Boxed.kept (HB.out.alloc _) hg NE.out); have HG1 := Aside0.mk hg; clear ho hb hg hat; have cb1 := HB1.out.cell; have fb1 := HB1.out.frozen)
  go_end0
  refine ⟨rfl, _, HB1.out.set _, Kd.R_set HR1.out HB1.out (fun q hq => by have hE : k57.E = [] := rfl; rw [hE] at hq; simp at hq; omega) 0 _, HW1.out.setCell (p := ⟨B, 0, none⟩) hn _, fun g' t cs h57 h53 hh => ?_⟩
  exact blk_far (blk_grown (blk_alloc hh _) HG1.out (fun e => blk_ne hh HC.out h57 (Option.some.inj e))) (p := ⟨B, 0, none⟩) (blk_ne hh HB.out h53) _

theorem R_one57 (W : World) (a b c d : Int) : Kd.R k57 57 (W.alloc (.cells #[.int .i64 a, .int .i64 b, .int .i64 c, .int .i64 d] 57)) W.heap.size (fun _ => True) (.slice (some ⟨W.heap.size, 0, none⟩) 1 1) [⟨a, b, c, d⟩] := by
  refine ⟨fun _ _ => trivial, [.int .i64 a, .int .i64 b, .int .i64 c, .int .i64 d], ?_, ?_⟩
  · have h2 := World.ownsRow_lit (base := W.heap.size) (e := 57) (size := 4) W #[.int .i64 a, .int .i64 b, .int .i64 c, .int .i64 d] 1 (Nat.le_refl _) (by decide) (by simp)
    simp at h2
    exact h2
  · refine ⟨rfl, fun j p hj => ?_⟩
    match j, hj with
    | 0, hj =>
      simp at hj
      subst hj
      exact k57_mkM _ _ _ _

/-- The block of a Times. -/
def TB (w : World) (B : Nat) (a b c d e : Int) : Prop := w.heap[B]? = some (.cells #[.int .i64 a, .int .i64 b, .int .i64 c, .int .i64 d, .int .i64 e] 23 (0, 0))
theorem TB.c0 {w : World} {B : Nat} {a b c d e : Int} (h : TB w B a b c d e) : w.cell? ⟨B, 0, none⟩ = some (.int .i64 a) := (blk_cell h 0).trans rfl
theorem TB.c1 {w : World} {B : Nat} {a b c d e : Int} (h : TB w B a b c d e) : w.cell? ⟨B, 1, none⟩ = some (.int .i64 b) := (blk_cell h 1).trans rfl
theorem TB.c2 {w : World} {B : Nat} {a b c d e : Int} (h : TB w B a b c d e) : w.cell? ⟨B, 2, none⟩ = some (.int .i64 c) := (blk_cell h 2).trans rfl
theorem TB.c3 {w : World} {B : Nat} {a b c d e : Int} (h : TB w B a b c d e) : w.cell? ⟨B, 3, none⟩ = some (.int .i64 d) := (blk_cell h 3).trans rfl
theorem TB.c4 {w : World} {B : Nat} {a b c d e : Int} (h : TB w B a b c d e) : w.cell? ⟨B, 4, none⟩ = some (.int .i64 e) := (blk_cell h 4).trans rfl

theorem addP_len (l : List S57) (a b c : Int) : (addP l a b c).length = l.length + 1 := by unfold addP; simp

/-- What stands while pieces runs: the box of its slice, the times, and what was made. -/
structure PI (w0 w : World) (n0 Bt B : Nat) (m d s t u : Int) (v : Value) (l : List S57) : Prop where
  box : Boxed w B 53 v
  row : Kd.R k57 57 w n0 (fun _ => True) v l
  pos : 0 < l.length
  tm : TB w Bt m d s t u
  bel : Below n0 w0 w

theorem PI.add {w0 w : World} {n0 Bt B : Nat} {m d s t u : Int} {v : Value} {l : List S57} (h : PI w0 w n0 Bt B m d s t u v l) (hn : n0 ≤ B) (hl : l.length ≤ 10000000) (part trip len : Int) :
    Calls Try.prog 53 #[.int .i64 part, .int .i64 trip, .int .i64 len, .pointer (some ⟨B, 0, none⟩)] w fun e w' => e = .returned (.tuple #[]) ∧ ∃ v1, PI w0 w' n0 Bt B m d s t u v1 (addP l part trip len) := by
  refine (add_closure n0 w0 w B v l part trip len h.box hn h.row h.pos hl h.bel).mono ?_
  rintro e w' ⟨rfl, v1, h1, h2, h3, h4⟩
  exact ⟨rfl, v1, h1, h2, by rw [addP_len]; omega, h4 _ 23 _ (by decide) (by decide) h.tm, h3⟩

set_option maxHeartbeats 2000000 in
set_option maxRecDepth 100000 in
theorem phase_pieces.calls (a0_0 : Int) (a0_1 : Int) (a0_2 : Int) (a0_3 : Int) (a0_4 : Int) (a1 : Int) (r : List S57) (w : World) (h : phase_pieces.f a0_0 a0_1 a0_2 a0_3 a0_4 a1 = some r) :
    Calls Try.prog 38 #[.agg #[.int .i64 a0_0, .int .i64 a0_1, .int .i64 a0_2, .int .i64 a0_3, .int .i64 a0_4], .int .i64 a1] w fun e w' => ∃ v0_ : Value, e = .returned v0_ ∧ Kd.R k57 57 w' w.heap.size (fun _ => True) v0_ r ∧ Below w.heap.size w w' := by
  have hu := Try.underlying23
  have hmf : ∀ (fn : Fn) (first cap : Array Value) (w : World), (Instr.makeFunc fn first cap).run Try.prog w = .ok (.func fn first cap) w := fun _ _ _ _ => rfl
  unfold phase_pieces.f at h
  by_cases hs : a1 ≤ 1000000
  · rw [if_pos hs] at h
    have H := Aside0.mk (Option.some.inj h)
    have HS := Aside0.mk hs
    clear h hs
    go_enter Try.func38, Try.ntmps38
    go_wp2_with fail
    obtain ⟨wd, hwd⟩ : ∃ wd, ((w.alloc (.cells #[.int .i64 a0_0, .int .i64 a0_1, .int .i64 a0_2, .int .i64 a0_3, .int .i64 a0_4] 23)).alloc (.cells #[.int .i64 1, .int .i64 0, .int .i64 0, .int .i64 a0_0] 57)).alloc (.cells #[.slice (some ⟨w.heap.size + 1, 0, none⟩) 1 1] 53) = wd := ⟨_, rfl⟩
    rw [hwd]
    have hI : PI w wd w.heap.size w.heap.size (w.heap.size + 1 + 1) a0_0 a0_1 a0_2 a0_3 a0_4 (.slice (some ⟨w.heap.size + 1, 0, none⟩) 1 1) [⟨1, 0, 0, a0_0⟩] := by
      have hx := R_one57 (w.alloc (.cells #[.int .i64 a0_0, .int .i64 a0_1, .int .i64 a0_2, .int .i64 a0_3, .int .i64 a0_4] 23)) 1 0 0 a0_0
      have hy := Boxed.new ((w.alloc (.cells #[.int .i64 a0_0, .int .i64 a0_1, .int .i64 a0_2, .int .i64 a0_3, .int .i64 a0_4] 23)).alloc (.cells #[.int .i64 1, .int .i64 0, .int .i64 0, .int .i64 a0_0] 57)) 53 (.slice (some ⟨w.heap.size + 1, 0, none⟩) 1 1)
      rw [World.size_alloc] at hx
      rw [World.size_alloc, World.size_alloc] at hy
      rw [← hwd]
      exact ⟨hy, Kd.R_alloc (Kd.R_lower hx (by omega)) _, by simp, blk_alloc (blk_alloc (heap_alloc_new w _) _) _, (((Below.refl _ w).alloc (Nat.le_refl _) _).alloc (by simp) _).alloc (by simp; omega) _⟩
    have HI := Aside0.mk hI
    clear hI hwd
    go_loopw [14] (fun v14 wr => ∃ (i : Nat) (acc : List S57) (v : Value), v14 = .int .i64 i ∧ Aside0 (i ≤ a1.toNat) ∧ Aside0 (acc.length = 2 * i + 1) ∧ Aside0 (tripsP a0_0 a0_1 (a1.toNat - i) i acc = tripsP a0_0 a0_1 a1.toNat 0 [⟨1, 0, 0, a0_0⟩]) ∧ Aside0 (PI w wr w.heap.size w.heap.size (w.heap.size + 1 + 1) a0_0 a0_1 a0_2 a0_3 a0_4 v acc)) (fun v14 _ => a1.toNat - (intOf v14).toNat)
    case atStart => exact ⟨0, _, _, rfl, ⟨by omega⟩, ⟨by simp⟩, ⟨by simp⟩, HI⟩
    case round =>
      obtain ⟨i, acc, v, rfl, hi, hl, hw, hP⟩ := hrel
      by_cases hlt : i < a1.toNat
      · have e1 : decide ((i : Int) < a1) = true := decide_eq_true (by omega)
        have hi6 : i < 1000000 := by have := HS.out; have := hi.out; omega
        have t0 := hP.out.tm.c0
        have hw2 := hw.out
        rw [show a1.toNat - i = (a1.toNat - (i + 1)) + 1 by omega, tripsP, show ((i : Int) + 1) = ((i + 1 : Nat) : Int) by omega] at hw2
        have HW := Aside0.mk hw2
        clear hw2 hw
        have b1 : acc.length ≤ 10000000 := by have := hl.out; have := hi.out; have := HS.out; omega
        have b2 : (addP acc 2 i a0_0).length ≤ 10000000 := by rw [addP_len]; have := hl.out; have := hi.out; have := HS.out; omega
        go_wp2_with (first | (go_at_call 53; with_reducible refine (hP.out.add (by omega) b1 2 (i : Int) a0_0).mono ?_; rintro e w1 ⟨rfl, v1, h1⟩; have P1 := Aside0.mk h1; have t1 := h1.tm.c1; clear h1) | (go_at_call 53; with_reducible refine (P1.out.add (by omega) b2 3 (i : Int) a0_1).mono ?_; rintro e w2 ⟨rfl, v2, h2⟩; have P2 := Aside0.mk h2; clear h2))
        go_roundw
        case rel => exact ⟨i + 1, _, _, by simp, ⟨by omega⟩, ⟨by rw [addP_len, addP_len]; have := hl.out; omega⟩, HW, P2⟩
        case measure => simp [intOf]; omega
      · have e1 : decide ((i : Int) < a1) = false := decide_eq_false (by omega)
        have t0 := hP.out.tm.c0
        have b1 : acc.length ≤ 10000000 := by have := hl.out; have := hi.out; have := HS.out; omega
        have b2 : (addP acc 4 0 a0_0).length ≤ 10000000 := by rw [addP_len]; have := hl.out; have := hi.out; have := HS.out; omega
        have hw2 := hw.out
        rw [show a1.toNat - i = 0 by omega, tripsP] at hw2
        have HW := Aside0.mk hw2
        clear hw2 hw
        go_wp2_with (first | (go_at_call 53; with_reducible refine (hP.out.add (by omega) b1 4 0 a0_0).mono ?_; rintro e w1 ⟨rfl, v1, h1⟩; have P1 := Aside0.mk h1; have t1 := h1.tm.c1; clear h1) | (go_at_call 53; with_reducible refine (P1.out.add (by omega) b2 5 0 a0_1).mono ?_; rintro e w2 ⟨rfl, v2, h2⟩; have P2 := Aside0.mk h2; have cb := h2.box.cell; clear h2))
        go_ret
        exact ⟨_, rfl, by rw [← H.out, piecesP, ← HW.out]; exact P2.out.row, P2.out.bel⟩
  · rw [if_neg hs] at h; cases h

end Go.Proofs.Ytlfeiadmkoocgaa.S
