/- The numbers of a run: lists of counts, and how they lie in memory. -/
import Derived.Test.YtenlokaaloenmaaDoorHview
namespace Go.Proofs.YtenlokaaloenmaaDoor.S
open Go.RowKit Go.Proofs.YtenlokaaloenmaaDoorW.PrintWords Go.Proofs.YtenlokaaloenmaaDoorW.PrintLast Go.Proofs.YtenlokaaloenmaaDoorW.PrintMore
set_option linter.unusedVariables false
set_option linter.unusedSimpArgs false

/-- One more at a place. -/
def incI (a : List Int) (i : Nat) : List Int := a.set i (wrap64 (rd a (i : Int) + 1))
theorem incI_len (a : List Int) (i : Nat) : (incI a i).length = a.length := by simp [incI]
def repF (r : List Int) (l : List S66) : List Int := l.foldl (fun r x => incI r (x.f1 - 1).toNat) r
/-- Whether a car is open at a width. -/
def opn (s : S43) (w : Int) : Bool := if s.f0 ≥ 0 then s.f1 == w else false
abbrev R3 := List Int × List Int × List Int
def sgF (w : Int) (s : S43) (i : Nat) (st : R3) : R3 :=
  (if s.f0 ≥ 0 then incI st.1 i else st.1, if s.f2 = true then incI st.2.1 i else st.2.1, if opn s w = true then incI st.2.2 i else st.2.2)
def sgL (w : Int) : List S43 → Nat → R3 → R3
  | [], _, st => st
  | s :: l, i, st => sgL w l (i + 1) (sgF w s i st)
def vwF (w : Int) (st : List Int × R3) (v : S41) : List Int × R3 := (repF st.1 v.f1, sgL w v.f2 0 st.2)
def cntV (w : Int) (l : List S41) (st : List Int × R3) : List Int × R3 := l.foldl (vwF w) st
def len3 (st : R3) (m : Nat) : Prop := st.1.length = m ∧ st.2.1.length = m ∧ st.2.2.length = m
/-- The cells of the numbers. -/
def numC (r : List Int) (a b c d : Int) (va vb vc : Value) : Array Value := (nums .i64 r ++ [.int .i64 a, .int .i64 b, .int .i64 c, .int .i64 d, va, vb, vc]).toArray
theorem len6 {r : List Int} (h : r.length = 6) : ∃ a b c d e f, r = [a, b, c, d, e, f] := by
  match r, h with
  | [a, b, c, d, e, f], _ => exact ⟨a, b, c, d, e, f, rfl⟩
def zer6 : List Int := [0, 0, 0, 0, 0, 0]
/-- The numbers as a value. -/
def numV (r : List Int) (a b c d : Int) (va vb vc : Value) : Value := .agg (numC r a b c d va vb vc)

theorem rowC_at (l : List Int) (i : Nat) (h : i < l.length) : ((nums .i64 l).toArray)[i]? = some (.int .i64 (rd l (i : Int))) := by
  simp [nums, rd, List.getElem?_eq_getElem h]
theorem rowC_set (l : List Int) (i : Nat) (x : Int) : ((nums .i64 l).toArray).setIfInBounds i (.int .i64 x) = (nums .i64 (l.set i x)).toArray := by
  simp [nums, List.map_set]
theorem Blk.inc {w : World} {B : Nat} {l : List Int} {t : TypeId} (h : Blk w B (nums .i64 l).toArray t) (i : Nat) : Blk (w.setCell ⟨B, i, none⟩ (.int .i64 (wrap64 (rd l (i : Int) + 1)))) B (nums .i64 (incI l i)).toArray t := by
  have h2 := h.set i (.int .i64 (wrap64 (rd l (i : Int) + 1)))
  rw [rowC_set] at h2
  exact h2
theorem Blk.ne {W : World} {b g : Nat} {cs cs' : Array Value} {t t' : TypeId} (h : Blk W b cs t) (h' : Blk W g cs' t') (ht : t ≠ t') : ¬ b = g := by
  rintro rfl
  unfold Blk at h h'
  rw [h] at h'
  injection h' with h'
  injection h' with _ e
  exact ht e

/-- A row of counts: none, or a block of its own. -/
def RowI (W : World) (base : Nat) (v : Value) (l : List Int) : Prop := (v = .slice none 0 0 ∧ l = []) ∨ ∃ g, v = .slice (some ⟨g, 0, none⟩) l.length l.length ∧ base ≤ g ∧ Blk W g (nums .i64 l).toArray 3
theorem RowI.R {W : World} {base : Nat} {v : Value} {l : List Int} (h : RowI W base v l) (hl : l.length ≤ 1000000) : Kd.R (Kd.int .i64) 3 W base (fun _ => True) v l := by
  rcases h with ⟨rfl, rfl⟩ | ⟨g, rfl, hb, hg⟩
  · exact Kd.R_nil _ _ _ _ _
  · refine Kd.R_of_own (enc := fun x => .int .i64 x) ?_ (fun _ _ => trivial)
    refine ⟨by simp [encs], .inr ⟨g, l.length, (nums .i64 l).toArray, rfl, hb, hg, Nat.le_refl _, by unfold maxLen; omega, by simp [nums], ?_⟩⟩
    simp only [nums, encs, Nat.mul_one]
    exact List.take_of_length_le (by simp)
theorem RowI.keep {W W' : World} {base : Nat} {v : Value} {l : List Int} (h : RowI W base v l) (hk : ∀ g, v = .slice (some ⟨g, 0, none⟩) l.length l.length → g < W.heap.size → W'.heap[g]? = W.heap[g]?) : RowI W' base v l := by
  rcases h with h | ⟨g, hv, hb, hg⟩
  · exact .inl h
  · exact .inr ⟨g, hv, hb, (hk g hv hg.lt).trans hg⟩
theorem RowI.below {W W' : World} {base : Nat} {v : Value} {l : List Int} (h : RowI W base v l) (hb : Below W.heap.size W W') : RowI W' base v l := h.keep fun g _ hl => hb.block g hl

abbrev X4 := Int × Int × Int × Int
/-- The numbers and their rows in memory, the counts of the views being known. -/
structure RsW (b0 : Nat) (w0 : World) (B : Nat) (zs : Array Value) (va vb vc : Value) (r : List Int) (s : R3) (x : X4) (W : World) : Prop where
  z : Blk W b0 zs 29
  n : Blk W B (numC r x.1 x.2.1 x.2.2.1 x.2.2.2 va vb vc) 29
  a : RowI W (B + 1) va s.1
  b : RowI W (B + 1) vb s.2.1
  c : RowI W (B + 1) vc s.2.2
  k : Below b0 w0 W
  o : b0 < B
theorem RsW.below {b0 : Nat} {w0 W W' : World} {B : Nat} {zs : Array Value} {va vb vc : Value} {r : List Int} {s : R3} {x : X4} (h : RsW b0 w0 B zs va vb vc r s x W) (hb : Below W.heap.size W W') : RsW b0 w0 B zs va vb vc r s x W' :=
  ⟨h.z.below hb h.z.lt, h.n.below hb h.n.lt, h.a.below hb, h.b.below hb, h.c.below hb, h.k.trans (hb.mono (by have := h.o; have := h.n.lt; omega)), h.o⟩
theorem RsW.alloc {b0 : Nat} {w0 W : World} {B : Nat} {zs : Array Value} {va vb vc : Value} {r : List Int} {s : R3} {x : X4} (h : RsW b0 w0 B zs va vb vc r s x W) (o : Obj) : RsW b0 w0 B zs va vb vc r s x (W.alloc o) := h.below (below_alloc (Below.refl _ _) o)
theorem RowI.far {W : World} {base : Nat} {v : Value} {l : List Int} (h : RowI W base v l) (a : Addr) (u : Value) (hb : a.block < base) : RowI (W.setCell a u) base v l := by
  rcases h with h | ⟨g, hv, hg, hk⟩
  · exact .inl h
  · exact .inr ⟨g, hv, hg, hk.far a u (by omega)⟩
theorem RsW.put {b0 : Nat} {w0 W : World} {B : Nat} {zs : Array Value} {va vb vc : Value} {r : List Int} {s : R3} {x y : X4} (h : RsW b0 w0 B zs va vb vc r s x W) (i : Nat) (u : Value)
    (he : (numC r x.1 x.2.1 x.2.2.1 x.2.2.2 va vb vc).setIfInBounds i u = numC r y.1 y.2.1 y.2.2.1 y.2.2.2 va vb vc) : RsW b0 w0 B zs va vb vc r s y (W.setCell ⟨B, i, none⟩ u) :=
  ⟨h.z.far _ _ (by have := h.o; show ¬ b0 = B; omega), by rw [← he]; exact h.n.set i u, h.a.far _ _ (by simp), h.b.far _ _ (by simp), h.c.far _ _ (by simp), h.k.setCell (p := ⟨B, i, none⟩) (Nat.le_of_lt h.o) u, h.o⟩
theorem numC_s6 {r : List Int} (hr : r.length = 6) (a b c d x : Int) (va vb vc : Value) : (numC r a b c d va vb vc).setIfInBounds 6 (.int .i64 x) = numC r x b c d va vb vc := by
  obtain ⟨_, _, _, _, _, _, rfl⟩ := len6 hr; rfl
theorem numC_s7 {r : List Int} (hr : r.length = 6) (a b c d x : Int) (va vb vc : Value) : (numC r a b c d va vb vc).setIfInBounds 7 (.int .i64 x) = numC r a x c d va vb vc := by
  obtain ⟨_, _, _, _, _, _, rfl⟩ := len6 hr; rfl
theorem numC_s8 {r : List Int} (hr : r.length = 6) (a b c d x : Int) (va vb vc : Value) : (numC r a b c d va vb vc).setIfInBounds 8 (.int .i64 x) = numC r a b x d va vb vc := by
  obtain ⟨_, _, _, _, _, _, rfl⟩ := len6 hr; rfl
theorem numC_s9 {r : List Int} (hr : r.length = 6) (a b c d x : Int) (va vb vc : Value) : (numC r a b c d va vb vc).setIfInBounds 9 (.int .i64 x) = numC r a b c x va vb vc := by
  obtain ⟨_, _, _, _, _, _, rfl⟩ := len6 hr; rfl

/-- Thirteen cells of a block stored one by one. -/
def put13 (W : World) (b : Nat) (v0 v1 v2 v3 v4 v5 v6 v7 v8 v9 v10 v11 v12 : Value) : World := (((((((((((((W.setCell ⟨b, 0, none⟩ v0).setCell ⟨b, 1, none⟩ v1).setCell ⟨b, 2, none⟩ v2).setCell ⟨b, 3, none⟩ v3).setCell ⟨b, 4, none⟩ v4).setCell ⟨b, 5, none⟩ v5).setCell ⟨b, 6, none⟩ v6).setCell ⟨b, 7, none⟩ v7).setCell ⟨b, 8, none⟩ v8).setCell ⟨b, 9, none⟩ v9).setCell ⟨b, 10, none⟩ v10).setCell ⟨b, 11, none⟩ v11).setCell ⟨b, 12, none⟩ v12)
theorem put13_blk {W : World} {b : Nat} {t : TypeId} {z0 z1 z2 z3 z4 z5 z6 z7 z8 z9 z10 z11 z12 : Value} (h : Blk W b #[z0, z1, z2, z3, z4, z5, z6, z7, z8, z9, z10, z11, z12] t) (v0 v1 v2 v3 v4 v5 v6 v7 v8 v9 v10 v11 v12 : Value) : Blk (put13 W b v0 v1 v2 v3 v4 v5 v6 v7 v8 v9 v10 v11 v12) b #[v0, v1, v2, v3, v4, v5, v6, v7, v8, v9, v10, v11, v12] t := by
  have h2 := (((((((((((((h.set 0 v0).set 1 v1).set 2 v2).set 3 v3).set 4 v4).set 5 v5).set 6 v6).set 7 v7).set 8 v8).set 9 v9).set 10 v10).set 11 v11).set 12 v12)
  simp only [List.setIfInBounds_toArray, List.set_cons_zero, List.set_cons_succ] at h2
  exact h2
theorem put13_far (W : World) (b : Nat) (v0 v1 v2 v3 v4 v5 v6 v7 v8 v9 v10 v11 v12 : Value) (j : Nat) (hj : j ≠ b) : (put13 W b v0 v1 v2 v3 v4 v5 v6 v7 v8 v9 v10 v11 v12).heap[j]? = W.heap[j]? := (Below.heap_setCell _ ⟨b, 12, none⟩ v12 j hj).trans ((Below.heap_setCell _ ⟨b, 11, none⟩ v11 j hj).trans ((Below.heap_setCell _ ⟨b, 10, none⟩ v10 j hj).trans ((Below.heap_setCell _ ⟨b, 9, none⟩ v9 j hj).trans ((Below.heap_setCell _ ⟨b, 8, none⟩ v8 j hj).trans ((Below.heap_setCell _ ⟨b, 7, none⟩ v7 j hj).trans ((Below.heap_setCell _ ⟨b, 6, none⟩ v6 j hj).trans ((Below.heap_setCell _ ⟨b, 5, none⟩ v5 j hj).trans ((Below.heap_setCell _ ⟨b, 4, none⟩ v4 j hj).trans ((Below.heap_setCell _ ⟨b, 3, none⟩ v3 j hj).trans ((Below.heap_setCell _ ⟨b, 2, none⟩ v2 j hj).trans ((Below.heap_setCell _ ⟨b, 1, none⟩ v1 j hj).trans (Below.heap_setCell _ ⟨b, 0, none⟩ v0 j hj))))))))))))
theorem put13_below (W : World) (b n : Nat) (v0 v1 v2 v3 v4 v5 v6 v7 v8 v9 v10 v11 v12 : Value) (hn : n ≤ b) : Below n W (put13 W b v0 v1 v2 v3 v4 v5 v6 v7 v8 v9 v10 v11 v12) := ((((((((((((((Below.refl n W).setCell (p := ⟨b, 0, none⟩) hn v0).setCell (p := ⟨b, 1, none⟩) hn v1).setCell (p := ⟨b, 2, none⟩) hn v2).setCell (p := ⟨b, 3, none⟩) hn v3).setCell (p := ⟨b, 4, none⟩) hn v4).setCell (p := ⟨b, 5, none⟩) hn v5).setCell (p := ⟨b, 6, none⟩) hn v6).setCell (p := ⟨b, 7, none⟩) hn v7).setCell (p := ⟨b, 8, none⟩) hn v8).setCell (p := ⟨b, 9, none⟩) hn v9).setCell (p := ⟨b, 10, none⟩) hn v10).setCell (p := ⟨b, 11, none⟩) hn v11).setCell (p := ⟨b, 12, none⟩) hn v12)

/-- Six cells stored one by one. -/
def put6 (W : World) (b : Nat) (v0 v1 v2 v3 v4 v5 : Value) : World := ((((((W.setCell ⟨b, 0, none⟩ v0).setCell ⟨b, 1, none⟩ v1).setCell ⟨b, 2, none⟩ v2).setCell ⟨b, 3, none⟩ v3).setCell ⟨b, 4, none⟩ v4).setCell ⟨b, 5, none⟩ v5)
theorem put6_far (W : World) (b : Nat) (v0 v1 v2 v3 v4 v5 : Value) (j : Nat) (hj : j ≠ b) : (put6 W b v0 v1 v2 v3 v4 v5).heap[j]? = W.heap[j]? := (Below.heap_setCell _ ⟨b, 5, none⟩ v5 j hj).trans ((Below.heap_setCell _ ⟨b, 4, none⟩ v4 j hj).trans ((Below.heap_setCell _ ⟨b, 3, none⟩ v3 j hj).trans ((Below.heap_setCell _ ⟨b, 2, none⟩ v2 j hj).trans ((Below.heap_setCell _ ⟨b, 1, none⟩ v1 j hj).trans (Below.heap_setCell _ ⟨b, 0, none⟩ v0 j hj)))))
theorem put6_below (W : World) (b n : Nat) (v0 v1 v2 v3 v4 v5 : Value) (hn : n ≤ b) : Below n W (put6 W b v0 v1 v2 v3 v4 v5) := (((((((Below.refl n W).setCell (p := ⟨b, 0, none⟩) hn v0).setCell (p := ⟨b, 1, none⟩) hn v1).setCell (p := ⟨b, 2, none⟩) hn v2).setCell (p := ⟨b, 3, none⟩) hn v3).setCell (p := ⟨b, 4, none⟩) hn v4).setCell (p := ⟨b, 5, none⟩) hn v5)
theorem put6_num {W : World} {b : Nat} {t : TypeId} {x0 x1 x2 x3 : Int} {va vb vc : Value} (h : Blk W b (numC zer6 x0 x1 x2 x3 va vb vc) t) (r0 r1 r2 r3 r4 r5 : Int) :
    Blk (put6 W b (.int .i64 r0) (.int .i64 r1) (.int .i64 r2) (.int .i64 r3) (.int .i64 r4) (.int .i64 r5)) b (numC [r0, r1, r2, r3, r4, r5] x0 x1 x2 x3 va vb vc) t := by
  have h2 := ((((((h.set 0 (.int .i64 r0)).set 1 (.int .i64 r1)).set 2 (.int .i64 r2)).set 3 (.int .i64 r3)).set 4 (.int .i64 r4)).set 5 (.int .i64 r5))
  simp only [numC, zer6, nums, List.map_cons, List.map_nil, List.cons_append, List.nil_append, List.setIfInBounds_toArray, List.set_cons_zero, List.set_cons_succ] at h2
  exact h2

/-- The numbers of a run. -/
structure Num where
  r : List Int
  lit : Int
  out : Int
  sum : Int
  most : Int
  a : List Int
  b : List Int
  c : List Int
def num0 : Num := ⟨zer6, 0, 0, 0, 0, [], [], []⟩
def numOf (st : List Int × R3) (x : X4) : Num := ⟨st.1, x.1, x.2.1, x.2.2.1, x.2.2.2, st.2.1, st.2.2.1, st.2.2.2⟩
/-- A value that holds these numbers, its rows the call's own. -/
def NumR (W : World) (base : Nat) (v : Value) (n : Num) : Prop := ∃ va vb vc, v = numV n.r n.lit n.out n.sum n.most va vb vc ∧ n.r.length = 6 ∧ RowI W base va n.a ∧ RowI W base vb n.b ∧ RowI W base vc n.c
theorem RowI.lower {W : World} {base base' : Nat} {v : Value} {l : List Int} (h : RowI W base v l) (hb : base' ≤ base) : RowI W base' v l := by
  rcases h with h | ⟨g, hv, hg, hk⟩
  · exact .inl h
  · exact .inr ⟨g, hv, by omega, hk⟩
theorem NumR.zero (W : World) (base : Nat) : NumR W base (numV zer6 0 0 0 0 (.slice none 0 0) (.slice none 0 0) (.slice none 0 0)) num0 := ⟨_, _, _, rfl, rfl, .inl ⟨rfl, rfl⟩, .inl ⟨rfl, rfl⟩, .inl ⟨rfl, rfl⟩⟩
theorem NumR.below {W W' : World} {base : Nat} {v : Value} {n : Num} (h : NumR W base v n) (hb : Below W.heap.size W W') : NumR W' base v n := by
  obtain ⟨va, vb, vc, hv, hr, h1, h2, h3⟩ := h
  exact ⟨va, vb, vc, hv, hr, h1.below hb, h2.below hb, h3.below hb⟩
/-- The numbers in memory, copied into the block of the result. -/
theorem RsW.done {b0 : Nat} {w0 W : World} {B : Nat} {zs : Array Value} {va vb vc : Value} {r : List Int} {s : R3} {x : X4} (h : RsW b0 w0 B zs va vb vc r s x W) (hr : r.length = 6) {W' : World} (hf : ∀ j, j ≠ b0 → W'.heap[j]? = W.heap[j]?) : NumR W' b0 (numV r x.1 x.2.1 x.2.2.1 x.2.2.2 va vb vc) (numOf (r, s) x) := by
  have hk : ∀ {v : Value} {l : List Int}, RowI W (B + 1) v l → RowI W' b0 v l := by
    intro v l hl
    rcases hl with hl | ⟨g, hv, hg, hk⟩
    · exact .inl hl
    · exact .inr ⟨g, hv, by have := h.o; omega, (hf g (by have := h.o; omega)).trans hk⟩
  exact ⟨va, vb, vc, rfl, hr, hk h.a, hk h.b, hk h.c⟩

theorem zer_made (m : Nat) : madeCells #[Value.int .i64 0] m = (nums .i64 (List.replicate m 0)).toArray := by
  apply Array.ext
  · simp [nums, madeCells]
  · intro i h1 h2
    simp [nums, madeCells, Nat.mod_one]

section
variable {P : Program} {ops : Array Oper} {o : Oper} {a : Act} {Q : Exit → Act → World → Prop} {Kc : Act → World → Prop}
theorem made_step {W : World} (hw : Region.wanted o (yielded ops a.tmps) = true) {N : Tmp} (_hd : o.dst = some N) {m : Nat}
    (hrun : (execOp a.eval o).run P W = .ok (.value (.slice (some ⟨W.heap.size, 0, none⟩) m m)) (W.alloc (.cells (madeCells #[.int .i64 0] m) 3 (0, 0))))
    (h : ∀ g, g = W.heap.size → ∀ w1, Blk w1 g (nums .i64 (List.replicate m 0)).toArray 3 → Below W.heap.size W w1 → Kc (a.put o.dst (.slice (some ⟨g, 0, none⟩) m m)) w1) : if Region.wanted o (yielded ops a.tmps) = true then Oper.wp P o a W Kc Q else Kc (a.put o.dst undef) W :=
  event_step hw hrun (h _ rfl _ (by rw [← zer_made]; exact Blk.new W _ _) (below_alloc (Below.refl _ _) _))
end

end Go.Proofs.YtenlokaaloenmaaDoor.S
