/- same of the statements, walked: two sets of numbers are equal. report.Count, walked: the numbers of a run. awake of the statements, walked: some of the chapter's examples hold. -/
import Derived.Test.YtenlokaaloenmaaDoorM5
import Derived.Test.YtenlokaaloenmaaDoorHlongest
import Derived.Test.YtenlokaaloenmaaDoorS6
import Derived.Test.YtenlokaaloenmaaDoorM4
import Derived.Test.YtenlokaaloenmaaDoorS5
import Derived.Test.YtenlokaaloenmaaDoorS3
set_option linter.unusedVariables false
set_option linter.unusedSimpArgs false
namespace Go.Proofs.YtenlokaaloenmaaDoor.S
open Go.RowKit Go.Proofs.YtenlokaaloenmaaDoorW.PrintWords Go.Proofs.YtenlokaaloenmaaDoorW.PrintLast Go.Proofs.YtenlokaaloenmaaDoorW.PrintMore
set_option linter.unusedVariables false
set_option linter.unusedSimpArgs false

/-- A row that can be read. -/
def RowC (W : World) (v : Value) (l : List Int) : Prop := ∃ A c, v = .slice A l.length c ∧ l.length ≤ c ∧ Kd.C (Kd.int .i64) W A l.length l
theorem RowC.below {W W' : World} {v : Value} {l : List Int} (h : RowC W v l) (hb : Below W.heap.size W W') : RowC W' v l := by
  obtain ⟨A, c, hv, hc, hC⟩ := h
  exact ⟨A, c, hv, hc, Kd.C_below hC hb⟩
theorem RowI.C {W : World} {base : Nat} {v : Value} {l : List Int} (h : RowI W base v l) (hl : l.length ≤ 1000000) : RowC W v l := by
  obtain ⟨A, c, hv, hc, hC⟩ := Kd.R_reads (h.R hl)
  exact ⟨A, c, hv, hc, hC⟩
/-- Numbers that can be read. -/
def NumC (W : World) (v : Value) (n : Num) : Prop := ∃ va vb vc, v = numV n.r n.lit n.out n.sum n.most va vb vc ∧ n.r.length = 6 ∧ RowC W va n.a ∧ RowC W vb n.b ∧ RowC W vc n.c
theorem NumC.below {W W' : World} {v : Value} {n : Num} (h : NumC W v n) (hb : Below W.heap.size W W') : NumC W' v n := by
  obtain ⟨va, vb, vc, hv, hr, h1, h2, h3⟩ := h
  exact ⟨va, vb, vc, hv, hr, h1.below hb, h2.below hb, h3.below hb⟩
def Num8 (n : Num) : Prop := n.a.length ≤ 8 ∧ n.b.length ≤ 8 ∧ n.c.length ≤ 8
theorem NumR.C {W : World} {base : Nat} {v : Value} {n : Num} (h : NumR W base v n) (h8 : Num8 n) : NumC W v n := by
  obtain ⟨va, vb, vc, hv, hr, h1, h2, h3⟩ := h
  obtain ⟨h4, h5, h6⟩ := h8
  exact ⟨va, vb, vc, hv, hr, h1.C (by omega), h2.C (by omega), h3.C (by omega)⟩

theorem info3s : ∃ i, Tryd.prog.info? 3 = some i := by
  have : (Tryd.prog.info? 3).isSome = true := by kernel_rfl
  exact Option.isSome_iff_exists.1 this
def eq6 (a b : List Int) : Bool := decide (a = b)
theorem eqB27 (d : Nat) (w : World) (a0 a1 a2 a3 a4 a5 b0 b1 b2 b3 b4 b5 : Int) : (Op.equalIn (d + 2) 27 (.agg #[.int .i64 a0, .int .i64 a1, .int .i64 a2, .int .i64 a3, .int .i64 a4, .int .i64 a5]) (.agg #[.int .i64 b0, .int .i64 b1, .int .i64 b2, .int .i64 b3, .int .i64 b4, .int .i64 b5])).run Tryd.prog w =
    .ok (eq6 [a0, a1, a2, a3, a4, a5] [b0, b1, b2, b3, b4, b5]) w := by
  obtain ⟨i, hi⟩ := info3s
  have h3 := Tryd.underlying3
  have hc : Tryd.prog.cellsOf 3 = 1 := by kernel_rfl
  rw [run_equalIn_array (P := Tryd.prog) (w := w) (d + 1) _ _ Tryd.underlying27 hi, hc]
  simp [List.range, List.range.loop, Op.eqItems, part, go_sem, h3, eq6]
  by_cases h1 : a0 = b0
  · by_cases h2 : a1 = b1
    · by_cases h3 : a2 = b2
      · by_cases h4 : a3 = b3
        · by_cases h5 : a4 = b4
          · by_cases h6 : a5 = b5 <;> simp [h1, h2, h3, h4, h5, h6]
          · simp [h1, h2, h3, h4, h5]
        · simp [h1, h2, h3, h4]
      · simp [h1, h2, h3]
    · simp [h1, h2]
  · simp [h1]
attribute [local go_sem high] eqB27

def tipstafflaw43_same.f (k : Nat) (n m : Num) : Option Bool :=
  if n.r = m.r then (if n.lit = m.lit then (if n.out = m.out then (if n.sum = m.sum then (if n.most = m.most then
    (tipstaffkit_SameInts.f k n.a m.a).bind fun x => if x = true then (tipstaffkit_SameInts.f k n.b m.b).bind fun y => if y = true then tipstaffkit_SameInts.f k n.c m.c else some false else some false
    else some false) else some false) else some false) else some false) else some false
set_option maxHeartbeats 4000000 in
set_option maxRecDepth 100000 in
theorem tipstafflaw43_same.calls (k : Nat) (v1 v2 : Value) (n m : Num) (r : Bool) (w : World) (h1 : NumC w v1 n) (h2 : NumC w v2 m) (h : tipstafflaw43_same.f k n m = some r) :
    Calls Tryd.prog 20 #[v1, v2] w fun e w' => e = .returned (.bool r) ∧ Below w.heap.size w w' := by
  have hu29 := Tryd.underlying29
  have hu27 := Tryd.underlying27
  obtain ⟨va, vb, vc, rfl, hr6, ⟨A1, c1, rfl, l1, g1⟩, ⟨A2, c2, rfl, l2, g2⟩, ⟨A3, c3, rfl, l3, g3⟩⟩ := h1
  obtain ⟨ua, ub, uc, rfl, hs6, ⟨B1, d1, rfl, m1, k1⟩, ⟨B2, d2, rfl, m2, k2⟩, ⟨B3, d3, rfl, m3, k3⟩⟩ := h2
  obtain ⟨nr, x0, x1, x2, x3, na, nb, nc⟩ := n
  obtain ⟨mr, y0, y1, y2, y3, ma, mb, mc⟩ := m
  simp only at *
  obtain ⟨a0, a1, a2, a3, a4, a5, rfl⟩ := len6 hr6
  obtain ⟨b0, b1, b2, b3, b4, b5, rfl⟩ := len6 hs6
  have H := Aside0.mk h
  have G1 := Aside0.mk g1
  have G2 := Aside0.mk g2
  have G3 := Aside0.mk g3
  have K1 := Aside0.mk k1
  have K2 := Aside0.mk k2
  have K3 := Aside0.mk k3
  clear h g1 g2 g3 k1 k2 k3 hr6 hs6
  simp only [numV, numC, nums, List.map_cons, List.map_nil, List.cons_append, List.nil_append]
  go_enter Tryd.func20, Tryd.ntmps20
  go_upto_region 1 with (fail)
  obtain ⟨W2, hW2⟩ : ∃ X_, (w.alloc (.cells #[(.int .i64 a0), (.int .i64 a1), (.int .i64 a2), (.int .i64 a3), (.int .i64 a4), (.int .i64 a5), (.int .i64 x0), (.int .i64 x1), (.int .i64 x2), (.int .i64 x3), (.slice A1 na.length c1), (.slice A2 nb.length c2), (.slice A3 nc.length c3)] 29)).alloc (.cells #[(.int .i64 b0), (.int .i64 b1), (.int .i64 b2), (.int .i64 b3), (.int .i64 b4), (.int .i64 b5), (.int .i64 y0), (.int .i64 y1), (.int .i64 y2), (.int .i64 y3), (.slice B1 ma.length d1), (.slice B2 mb.length d2), (.slice B3 mc.length d3)] 29) = X_ := ⟨_, rfl⟩
  have p1 : Blk W2 w.heap.size #[(.int .i64 a0), (.int .i64 a1), (.int .i64 a2), (.int .i64 a3), (.int .i64 a4), (.int .i64 a5), (.int .i64 x0), (.int .i64 x1), (.int .i64 x2), (.int .i64 x3), (.slice A1 na.length c1), (.slice A2 nb.length c2), (.slice A3 nc.length c3)] 29 := by rw [← hW2]; exact (Blk.new w _ _).alloc _
  have p2 : Blk W2 (w.heap.size + 1) #[(.int .i64 b0), (.int .i64 b1), (.int .i64 b2), (.int .i64 b3), (.int .i64 b4), (.int .i64 b5), (.int .i64 y0), (.int .i64 y1), (.int .i64 y2), (.int .i64 y3), (.slice B1 ma.length d1), (.slice B2 mb.length d2), (.slice B3 mc.length d3)] 29 := by
    have q := Blk.new (w.alloc (.cells #[(.int .i64 a0), (.int .i64 a1), (.int .i64 a2), (.int .i64 a3), (.int .i64 a4), (.int .i64 a5), (.int .i64 x0), (.int .i64 x1), (.int .i64 x2), (.int .i64 x3), (.slice A1 na.length c1), (.slice A2 nb.length c2), (.slice A3 nc.length c3)] 29)) #[(.int .i64 b0), (.int .i64 b1), (.int .i64 b2), (.int .i64 b3), (.int .i64 b4), (.int .i64 b5), (.int .i64 y0), (.int .i64 y1), (.int .i64 y2), (.int .i64 y3), (.slice B1 ma.length d1), (.slice B2 mb.length d2), (.slice B3 mc.length d3)] 29
    rw [World.size_alloc] at q
    rw [← hW2]; exact q
  have hbw : Below w.heap.size w W2 := by rw [← hW2]; exact ((Below.refl _ w).alloc (Nat.le_refl _) _).alloc (by simp) _
  rw [hW2]
  clear hW2
  have s0_ : W2.cell? ⟨w.heap.size, 0, none⟩ = some (.int .i64 a0) := p1.cell 0 rfl
  have t0_ : W2.cell? ⟨w.heap.size + 1, 0, none⟩ = some (.int .i64 b0) := p2.cell 0 rfl
  have s1_ : W2.cell? ⟨w.heap.size, 1, none⟩ = some (.int .i64 a1) := p1.cell 1 rfl
  have t1_ : W2.cell? ⟨w.heap.size + 1, 1, none⟩ = some (.int .i64 b1) := p2.cell 1 rfl
  have s2_ : W2.cell? ⟨w.heap.size, 2, none⟩ = some (.int .i64 a2) := p1.cell 2 rfl
  have t2_ : W2.cell? ⟨w.heap.size + 1, 2, none⟩ = some (.int .i64 b2) := p2.cell 2 rfl
  have s3_ : W2.cell? ⟨w.heap.size, 3, none⟩ = some (.int .i64 a3) := p1.cell 3 rfl
  have t3_ : W2.cell? ⟨w.heap.size + 1, 3, none⟩ = some (.int .i64 b3) := p2.cell 3 rfl
  have s4_ : W2.cell? ⟨w.heap.size, 4, none⟩ = some (.int .i64 a4) := p1.cell 4 rfl
  have t4_ : W2.cell? ⟨w.heap.size + 1, 4, none⟩ = some (.int .i64 b4) := p2.cell 4 rfl
  have s5_ : W2.cell? ⟨w.heap.size, 5, none⟩ = some (.int .i64 a5) := p1.cell 5 rfl
  have t5_ : W2.cell? ⟨w.heap.size + 1, 5, none⟩ = some (.int .i64 b5) := p2.cell 5 rfl
  have s6_ : W2.cell? ⟨w.heap.size, 6, none⟩ = some (.int .i64 x0) := p1.cell 6 rfl
  have t6_ : W2.cell? ⟨w.heap.size + 1, 6, none⟩ = some (.int .i64 y0) := p2.cell 6 rfl
  have s7_ : W2.cell? ⟨w.heap.size, 7, none⟩ = some (.int .i64 x1) := p1.cell 7 rfl
  have t7_ : W2.cell? ⟨w.heap.size + 1, 7, none⟩ = some (.int .i64 y1) := p2.cell 7 rfl
  have s8_ : W2.cell? ⟨w.heap.size, 8, none⟩ = some (.int .i64 x2) := p1.cell 8 rfl
  have t8_ : W2.cell? ⟨w.heap.size + 1, 8, none⟩ = some (.int .i64 y2) := p2.cell 8 rfl
  have s9_ : W2.cell? ⟨w.heap.size, 9, none⟩ = some (.int .i64 x3) := p1.cell 9 rfl
  have t9_ : W2.cell? ⟨w.heap.size + 1, 9, none⟩ = some (.int .i64 y3) := p2.cell 9 rfl
  have s10_ : W2.cell? ⟨w.heap.size, 10, none⟩ = some (.slice A1 na.length c1) := p1.cell 10 rfl
  have t10_ : W2.cell? ⟨w.heap.size + 1, 10, none⟩ = some (.slice B1 ma.length d1) := p2.cell 10 rfl
  have s11_ : W2.cell? ⟨w.heap.size, 11, none⟩ = some (.slice A2 nb.length c2) := p1.cell 11 rfl
  have t11_ : W2.cell? ⟨w.heap.size + 1, 11, none⟩ = some (.slice B2 mb.length d2) := p2.cell 11 rfl
  have s12_ : W2.cell? ⟨w.heap.size, 12, none⟩ = some (.slice A3 nc.length c3) := p1.cell 12 rfl
  have t12_ : W2.cell? ⟨w.heap.size + 1, 12, none⟩ = some (.slice B3 mc.length d3) := p2.cell 12 rfl
  have HB := Aside0.mk hbw
  clear p1 p2 hbw
  cases d0_ : (eq6 [a0, a1, a2, a3, a4, a5] [b0, b1, b2, b3, b4, b5]) with
  | false =>
    have h := H.out
    unfold tipstafflaw43_same.f at h
    rw [if_neg (show ¬ [a0, a1, a2, a3, a4, a5] = [b0, b1, b2, b3, b4, b5] from of_decide_eq_false d0_)] at h
    obtain rfl := Option.some.inj h
    clear h H
    go_wp2_with fail
    go_ret
    exact ⟨rfl, HB.out⟩
  | true =>
    have E0 := Aside0.mk (show [a0, a1, a2, a3, a4, a5] = [b0, b1, b2, b3, b4, b5] from of_decide_eq_true d0_)
    cases d1_ : (x0 == y0) with
    | false =>
      have h := H.out
      unfold tipstafflaw43_same.f at h
      rw [if_pos E0.out] at h
      rw [if_neg (show ¬ x0 = y0 from by simpa using d1_)] at h
      obtain rfl := Option.some.inj h
      clear h H
      go_wp2_with fail
      go_ret
      exact ⟨rfl, HB.out⟩
    | true =>
      have E1 := Aside0.mk (show x0 = y0 from by simpa using d1_)
      cases d2_ : (x1 == y1) with
      | false =>
        have h := H.out
        unfold tipstafflaw43_same.f at h
        rw [if_pos E0.out] at h
        rw [if_pos E1.out] at h
        rw [if_neg (show ¬ x1 = y1 from by simpa using d2_)] at h
        obtain rfl := Option.some.inj h
        clear h H
        go_wp2_with fail
        go_ret
        exact ⟨rfl, HB.out⟩
      | true =>
        have E2 := Aside0.mk (show x1 = y1 from by simpa using d2_)
        cases d3_ : (x2 == y2) with
        | false =>
          have h := H.out
          unfold tipstafflaw43_same.f at h
          rw [if_pos E0.out] at h
          rw [if_pos E1.out] at h
          rw [if_pos E2.out] at h
          rw [if_neg (show ¬ x2 = y2 from by simpa using d3_)] at h
          obtain rfl := Option.some.inj h
          clear h H
          go_wp2_with fail
          go_ret
          exact ⟨rfl, HB.out⟩
        | true =>
          have E3 := Aside0.mk (show x2 = y2 from by simpa using d3_)
          cases d4_ : (x3 == y3) with
          | false =>
            have h := H.out
            unfold tipstafflaw43_same.f at h
            rw [if_pos E0.out] at h
            rw [if_pos E1.out] at h
            rw [if_pos E2.out] at h
            rw [if_pos E3.out] at h
            rw [if_neg (show ¬ x3 = y3 from by simpa using d4_)] at h
            obtain rfl := Option.some.inj h
            clear h H
            go_wp2_with fail
            go_ret
            exact ⟨rfl, HB.out⟩
          | true =>
            have E4 := Aside0.mk (show x3 = y3 from by simpa using d4_)
            have h := H.out
            unfold tipstafflaw43_same.f at h
            rw [if_pos E0.out] at h
            rw [if_pos E1.out] at h
            rw [if_pos E2.out] at h
            rw [if_pos E3.out] at h
            rw [if_pos E4.out] at h
            obtain ⟨b1_, e1, h⟩ := Option.bind_eq_some_iff.1 h
            have E5 := Aside0.mk e1
            have HH := Aside0.mk h
            clear h e1 H
            go_wp2_with fail
            refine (tipstaffkit_SameInts.calls k A1 c1 na B1 d1 ma b1_ _ (Kd.C_below G1.out HB.out) l1 (Kd.C_below K1.out HB.out) m1 E5.out).mono ?_
            rintro e w3 ⟨rfl, hd⟩
            replace s11_ := (hd.below.cell (World.block_lt_of_cell? _ _ s11_)).trans s11_
            replace t11_ := (hd.below.cell (World.block_lt_of_cell? _ _ t11_)).trans t11_
            replace s12_ := (hd.below.cell (World.block_lt_of_cell? _ _ s12_)).trans s12_
            replace t12_ := (hd.below.cell (World.block_lt_of_cell? _ _ t12_)).trans t12_
            have HB3 := Aside0.mk (below_step HB.out hd.below)
            clear hd
            cases b1_ with
            | false =>
              have h := HH.out
              rw [if_neg (by decide)] at h
              obtain rfl := Option.some.inj h
              clear h HH
              go_wp2_with fail
              go_ret
              exact ⟨rfl, HB3.out⟩
            | true =>
              have h := HH.out
              rw [if_pos rfl] at h
              obtain ⟨b2_, e2, h⟩ := Option.bind_eq_some_iff.1 h
              have E6 := Aside0.mk e2
              have H2 := Aside0.mk h
              clear h e2 HH
              go_wp2_with fail
              refine (tipstaffkit_SameInts.calls k A2 c2 nb B2 d2 mb b2_ _ (Kd.C_below G2.out HB3.out) l2 (Kd.C_below K2.out HB3.out) m2 E6.out).mono ?_
              rintro e w4 ⟨rfl, hd⟩
              replace s12_ := (hd.below.cell (World.block_lt_of_cell? _ _ s12_)).trans s12_
              replace t12_ := (hd.below.cell (World.block_lt_of_cell? _ _ t12_)).trans t12_
              have HB4 := Aside0.mk (below_step HB3.out hd.below)
              clear hd
              cases b2_ with
              | false =>
                have h := H2.out
                rw [if_neg (by decide)] at h
                obtain rfl := Option.some.inj h
                clear h H2
                go_wp2_with fail
                go_ret
                exact ⟨rfl, HB4.out⟩
              | true =>
                have h := H2.out
                rw [if_pos rfl] at h
                have E7 := Aside0.mk h
                clear h H2
                go_wp2_with fail
                refine (tipstaffkit_SameInts.calls k A3 c3 nc B3 d3 mc r _ (Kd.C_below G3.out HB4.out) l3 (Kd.C_below K3.out HB4.out) m3 E7.out).mono ?_
                rintro e w5 ⟨rfl, hd⟩
                have HB5 := Aside0.mk (below_step HB4.out hd.below)
                clear hd
                go_wp2_with fail
                go_ret
                exact ⟨rfl, HB5.out⟩

end Go.Proofs.YtenlokaaloenmaaDoor.S

namespace Go.Proofs.YtenlokaaloenmaaDoor.S
open Go.RowKit Go.Proofs.YtenlokaaloenmaaDoorW.PrintWords Go.Proofs.YtenlokaaloenmaaDoorW.PrintLast Go.Proofs.YtenlokaaloenmaaDoorW.PrintMore
attribute [local go_sem] Go.Proofs.YtenlokaaloenmaaDoorW.PrintXtra.isSome_setCell max2_int max_two Oper.semAt_some wide_fn wideR_fn
attribute [local simp] wide_fn wideR_fn

/-- A statement that ends well alone. -/
theorem wp_normal {P : Program} {s : Code} {K : Act → World → Prop} {Q' : Exit → Act → World → Prop} {a : Act} {w : World} (h : s.wp P (Exit.then K (fun _ _ _ => False)) a w) : s.wp P (Exit.then K Q') a w := by
  refine wp_mono h ?_
  intro e a' w' hq
  cases e with
  | normal => exact hq
  | _ => exact hq.elim
abbrev zer13 : Array Value := #[.int .i64 0, .int .i64 0, .int .i64 0, .int .i64 0, .int .i64 0, .int .i64 0, .int .i64 0, .int .i64 0, .int .i64 0, .int .i64 0, .slice none 0 0, .slice none 0 0, .slice none 0 0]
/-- The rows' blocks differ. -/
def Apt (va vb vc : Value) : Prop := ∀ k, (va.ownBlock = some k → vb.ownBlock ≠ some k ∧ vc.ownBlock ≠ some k) ∧ (vb.ownBlock = some k → vc.ownBlock ≠ some k)
/-- What lies in memory while the views are counted. -/
structure CtW (b0 : Nat) (w0 : World) (B : Nat) (va vb vc : Value) (m : Nat) (st : List Int × R3) (W : World) : Prop where
  z : Blk W b0 zer13 29
  n : Blk W B (numC zer6 0 0 0 0 va vb vc) 29
  q : Blk W (B + 1) (nums .i64 st.1).toArray 27
  a : RowI W (B + 1 + 1) va st.2.1
  b : RowI W (B + 1 + 1) vb st.2.2.1
  c : RowI W (B + 1 + 1) vc st.2.2.2
  ap : Apt va vb vc
  k : Below b0 w0 W
  o : b0 < B
  e : st.1.length = 6 ∧ len3 st.2 m
section
variable {b0 : Nat} {w0 W : World} {B : Nat} {va vb vc : Value} {m : Nat} {st : List Int × R3}
theorem CtW.below {W' : World} (h : CtW b0 w0 B va vb vc m st W) (hb : Below W.heap.size W W') : CtW b0 w0 B va vb vc m st W' :=
  ⟨h.z.below hb h.z.lt, h.n.below hb h.n.lt, h.q.below hb h.q.lt, h.a.below hb, h.b.below hb, h.c.below hb, h.ap, h.k.trans (hb.mono (by have := h.o; have := h.n.lt; omega)), h.o, h.e⟩
theorem CtW.alloc (h : CtW b0 w0 B va vb vc m st W) (o : Obj) : CtW b0 w0 B va vb vc m st (W.alloc o) := h.below (below_alloc (Below.refl _ _) o)
theorem CtW.incQ (h : CtW b0 w0 B va vb vc m st W) (i : Nat) : CtW b0 w0 B va vb vc m (incI st.1 i, st.2) (W.setCell ⟨B + 1, i, none⟩ (.int .i64 (wrap64 (rd st.1 (i : Int) + 1)))) :=
  ⟨h.z.far _ _ (by have := h.o; show ¬ b0 = B + 1; omega), h.n.far _ _ (by show ¬ B = B + 1; omega), h.q.inc i, h.a.far _ _ (by simp), h.b.far _ _ (by simp), h.c.far _ _ (by simp), h.ap,
   h.k.setCell (p := ⟨B + 1, i, none⟩) (by have := h.o; show b0 ≤ B + 1; omega) _, h.o, by rw [incI_len]; exact h.e.1, h.e.2⟩
theorem RowI.other {W : World} {base : Nat} {v : Value} {l : List Int} (h : RowI W base v l) (g i : Nat) (u : Value) (hn : v.ownBlock ≠ some g) : RowI (W.setCell ⟨g, i, none⟩ u) base v l := by
  rcases h with h | ⟨g', hv, hg, hk⟩
  · exact .inl h
  · refine .inr ⟨g', hv, hg, hk.far _ u ?_⟩
    intro he
    have he : g' = g := he
    apply hn
    rw [hv, he]
    rfl
theorem RowI.form {W : World} {base : Nat} {v : Value} {l : List Int} (h : RowI W base v l) (h0 : 0 < l.length) : ∃ g, v = .slice (some ⟨g, 0, none⟩) l.length l.length ∧ base ≤ g ∧ Blk W g (nums .i64 l).toArray 3 := by
  rcases h with ⟨_, rfl⟩ | h
  · simp at h0
  · exact h
theorem CtW.incA (h : CtW b0 w0 B va vb vc m st W) (i : Nat) (hi : i < m) : ∃ g, va = .slice (some ⟨g, 0, none⟩) m m ∧ B + 1 + 1 ≤ g ∧ (∃ cs, Blk W g cs 3) ∧ W.cell? ⟨g, i, none⟩ = some (.int .i64 (rd st.2.1 (i : Int))) ∧ W.frozen? ⟨g, i, none⟩ = false ∧
    CtW b0 w0 B va vb vc m (st.1, incI st.2.1 i, st.2.2) (W.setCell ⟨g, i, none⟩ (.int .i64 (wrap64 (rd st.2.1 (i : Int) + 1)))) := by
  obtain ⟨g, hv, hg, hk⟩ := h.a.form (by rw [h.e.2.1]; omega)
  rw [h.e.2.1] at hv
  refine ⟨g, hv, hg, ⟨_, hk⟩, hk.cell i (rowC_at _ i (by rw [h.e.2.1]; exact hi)), hk.fr i, h.z.far _ _ (by have := h.o; show ¬ b0 = g; omega), h.n.far _ _ (by show ¬ B = g; omega), h.q.far _ _ (by show ¬ B + 1 = g; omega), .inr ⟨g, by rw [incI_len, h.e.2.1]; exact hv, hg, hk.inc i⟩,
    h.b.other g i _ ((h.ap g).1 (by rw [hv]; rfl)).1, h.c.other g i _ ((h.ap g).1 (by rw [hv]; rfl)).2, h.ap, h.k.setCell (p := ⟨g, i, none⟩) (by have := h.o; show b0 ≤ g; omega) _, h.o, h.e.1, by rw [len3, incI_len]; exact h.e.2⟩
theorem CtW.incB (h : CtW b0 w0 B va vb vc m st W) (i : Nat) (hi : i < m) : ∃ g, vb = .slice (some ⟨g, 0, none⟩) m m ∧ B + 1 + 1 ≤ g ∧ (∃ cs, Blk W g cs 3) ∧ W.cell? ⟨g, i, none⟩ = some (.int .i64 (rd st.2.2.1 (i : Int))) ∧ W.frozen? ⟨g, i, none⟩ = false ∧
    CtW b0 w0 B va vb vc m (st.1, st.2.1, incI st.2.2.1 i, st.2.2.2) (W.setCell ⟨g, i, none⟩ (.int .i64 (wrap64 (rd st.2.2.1 (i : Int) + 1)))) := by
  obtain ⟨g, hv, hg, hk⟩ := h.b.form (by rw [h.e.2.2.1]; omega)
  rw [h.e.2.2.1] at hv
  refine ⟨g, hv, hg, ⟨_, hk⟩, hk.cell i (rowC_at _ i (by rw [h.e.2.2.1]; exact hi)), hk.fr i, h.z.far _ _ (by have := h.o; show ¬ b0 = g; omega), h.n.far _ _ (by show ¬ B = g; omega), h.q.far _ _ (by show ¬ B + 1 = g; omega), h.a.other g i _ (fun e => ((h.ap g).1 e).1 (by rw [hv]; rfl)), .inr ⟨g, by rw [incI_len, h.e.2.2.1]; exact hv, hg, hk.inc i⟩,
    h.c.other g i _ ((h.ap g).2 (by rw [hv]; rfl)), h.ap, h.k.setCell (p := ⟨g, i, none⟩) (by have := h.o; show b0 ≤ g; omega) _, h.o, h.e.1, by rw [len3, incI_len]; exact h.e.2⟩
theorem CtW.incC (h : CtW b0 w0 B va vb vc m st W) (i : Nat) (hi : i < m) : ∃ g, vc = .slice (some ⟨g, 0, none⟩) m m ∧ B + 1 + 1 ≤ g ∧ (∃ cs, Blk W g cs 3) ∧ W.cell? ⟨g, i, none⟩ = some (.int .i64 (rd st.2.2.2 (i : Int))) ∧ W.frozen? ⟨g, i, none⟩ = false ∧
    CtW b0 w0 B va vb vc m (st.1, st.2.1, st.2.2.1, incI st.2.2.2 i) (W.setCell ⟨g, i, none⟩ (.int .i64 (wrap64 (rd st.2.2.2 (i : Int) + 1)))) := by
  obtain ⟨g, hv, hg, hk⟩ := h.c.form (by rw [h.e.2.2.2]; omega)
  rw [h.e.2.2.2] at hv
  refine ⟨g, hv, hg, ⟨_, hk⟩, hk.cell i (rowC_at _ i (by rw [h.e.2.2.2]; exact hi)), hk.fr i, h.z.far _ _ (by have := h.o; show ¬ b0 = g; omega), h.n.far _ _ (by show ¬ B = g; omega), h.q.far _ _ (by show ¬ B + 1 = g; omega), h.a.other g i _ (fun e => ((h.ap g).1 e).2 (by rw [hv]; rfl)), h.b.other g i _ (fun e => (h.ap g).2 e (by rw [hv]; rfl)),
    .inr ⟨g, by rw [incI_len, h.e.2.2.2]; exact hv, hg, hk.inc i⟩, h.ap, h.k.setCell (p := ⟨g, i, none⟩) (by have := h.o; show b0 ≤ g; omega) _, h.o, h.e.1, by rw [len3, incI_len]; exact h.e.2⟩
end
/-- The variable l lies below all that Count makes. -/
theorem lbox {w w0 W : World} {v : Value} (h0 : w.alloc (.cells #[v] 24) = w0) (h : Below w0.heap.size w0 W) : Boxed W w.heap.size 24 v := by
  have h1 : Boxed w0 w.heap.size 24 v := by rw [← h0]; exact Boxed.new w 24 v
  exact (h.block _ h1.lt).trans h1
theorem base0 {w w0 W : World} {v : Value} (h0 : w.alloc (.cells #[v] 24) = w0) (h : Below w0.heap.size w0 W) : Below w.heap.size w W := by
  have h1 : Below w.heap.size w w0 := by rw [← h0]; exact below_alloc (Below.refl _ _) _
  exact h1.trans (h.mono h1.size)

/-- One spell more. -/
def pcS (x : X4) (y : S57 × Bool) : X4 :=
  if y.2 = true then (wrap64 (x.1 + 1), wrap64 (x.2.1 + 1), wrap64 (x.2.2.1 + wrap64 (y.1.f1 - y.1.f0)), if x.2.2.2 < wrap64 (y.1.f1 - y.1.f0) then wrap64 (y.1.f1 - y.1.f0) else x.2.2.2) else (wrap64 (x.1 + 1), x.2)
def pcL (l : List S41) (x : X4) (g : Fin 64 × Bool) : X4 := (spF l (g.1.val : Int) g.2 l.length 0 (-1)).foldl pcS x

abbrev pc4 (B : Nat) (W : World) (a b c d : Int) : World := (((W.setCell ⟨B, 6, none⟩ (.int .i64 a)).setCell ⟨B, 7, none⟩ (.int .i64 b)).setCell ⟨B, 8, none⟩ (.int .i64 c)).setCell ⟨B, 9, none⟩ (.int .i64 d)
theorem pc4_far (B : Nat) (W : World) (a b c d : Int) (k : Nat) (hk : k ≠ B) : (pc4 B W a b c d).heap[k]? = W.heap[k]? :=
  (Below.heap_setCell _ _ _ k hk).trans ((Below.heap_setCell _ _ _ k hk).trans ((Below.heap_setCell _ _ _ k hk).trans (Below.heap_setCell _ _ _ k hk)))
theorem pc4_keeps (B : Nat) (W : World) (a b c d : Int) : KeepsOthers W (pc4 B W a b c d) := (((KeepsOthers.setCell _ _ _).trans (KeepsOthers.setCell _ _ _)).trans (KeepsOthers.setCell _ _ _)).trans (KeepsOthers.setCell _ _ _)
theorem pc4_below (B : Nat) (W : World) (a b c d : Int) (n : Nat) (hn : n ≤ B) : Below n W (pc4 B W a b c d) :=
  ((((Below.refl n W).setCell (p := ⟨B, 6, none⟩) hn _).setCell (p := ⟨B, 7, none⟩) hn _).setCell (p := ⟨B, 8, none⟩) hn _).setCell (p := ⟨B, 9, none⟩) hn _
theorem RsW.pc4 {b0 : Nat} {w0 W : World} {B : Nat} {zs : Array Value} {va vb vc : Value} {r : List Int} {s : R3} {x : X4} (h : RsW b0 w0 B zs va vb vc r s x W) (hr : r.length = 6) (y : X4) : RsW b0 w0 B zs va vb vc r s y (pc4 B W y.1 y.2.1 y.2.2.1 y.2.2.2) :=
  (((h.put (y := (y.1, x.2)) 6 _ (numC_s6 hr _ _ _ _ _ _ _ _)).put (y := (y.1, y.2.1, x.2.2)) 7 _ (numC_s7 hr _ _ _ _ _ _ _ _)).put (y := (y.1, y.2.1, y.2.2.1, x.2.2.2)) 8 _ (numC_s8 hr _ _ _ _ _ _ _ _)).put (y := y) 9 _ (numC_s9 hr _ _ _ _ _ _ _ _)

theorem RowI.sl {W : World} {base : Nat} {v : Value} {l : List Int} (h : RowI W base v l) : ∃ A n c, v = .slice A n c := by
  rcases h with ⟨hv, _⟩ | ⟨g, hv, _⟩
  · exact ⟨_, _, _, hv⟩
  · exact ⟨_, _, _, hv⟩
theorem RowI.own {β : Type} (base : Nat) (v : Value) (l : List Int) : Own (fun (_ : β) W => RowI W base v l) := fun s X Y row hs hg hr => by
  rcases hs with hs | ⟨g, hv, hb, hk⟩
  · exact .inl hs
  · exact .inr ⟨g, hv, hb, (blk_own g 3 (fun _ : Unit => (nums .i64 l).toArray)) () X Y row hk hg hr⟩
theorem RowI.putObj {W : World} {base D : Nat} {v : Value} {l : List Int} (h : RowI W base v l) {o o' : Obj} (ho : W.heap[D]? = some o) (hc : o.isCells = false) : RowI (W.putObj D o') base v l := by
  rcases h with h | ⟨g, hv, hb, hk⟩
  · exact .inl h
  · refine .inr ⟨g, hv, hb, (World.putObj_heap_other ?_).trans hk⟩
    rintro rfl
    unfold Blk at hk
    rw [hk] at ho
    cases ho
    cases hc
theorem NumR.putObj {W : World} {base D : Nat} {v : Value} {n : Num} (h : NumR W base v n) {o o' : Obj} (ho : W.heap[D]? = some o) (hc : o.isCells = false) : NumR (W.putObj D o') base v n := by
  obtain ⟨va, vb, vc, hv, hr, h1, h2, h3⟩ := h
  exact ⟨va, vb, vc, hv, hr, h1.putObj ho hc, h2.putObj ho hc, h3.putObj ho hc⟩
theorem NumR.lower {W : World} {base base' : Nat} {v : Value} {n : Num} (h : NumR W base v n) (hb : base' ≤ base) : NumR W base' v n := by
  obtain ⟨va, vb, vc, hv, hr, h1, h2, h3⟩ := h
  exact ⟨va, vb, vc, hv, hr, h1.lower hb, h2.lower hb, h3.lower hb⟩
theorem RsW.own {β : Type} {b0 : Nat} {w0 : World} {B : Nat} {zs : Array Value} {va vb vc : Value} {r : List Int} {s : R3} (x : β → X4) {N : Nat} (h0 : b0 ≤ w0.heap.size) (hN : b0 ≤ N) : OwnFrom N (fun t W => RsW b0 w0 B zs va vb vc r s (x t) W) := fun t X Y row hs hg hr =>
  ⟨((blk_own b0 29 (fun _ : Unit => zs)).from N) () X Y row hs.z hg hr, ((blk_own B 29 (fun _ : Unit => numC r (x t).1 (x t).2.1 (x t).2.2.1 (x t).2.2.2 va vb vc)).from N) () X Y row hs.n hg hr, ((RowI.own (β := Unit) (B + 1) va s.1).from N) () X Y row hs.a hg hr, ((RowI.own (β := Unit) (B + 1) vb s.2.1).from N) () X Y row hs.b hg hr, ((RowI.own (β := Unit) (B + 1) vc s.2.2).from N) () X Y row hs.c hg hr,
   (ownFrom_below (β := Unit) h0 hN) () X Y row hs.k hg hr, hs.o⟩

set_option maxHeartbeats 8000000 in
set_option maxRecDepth 100000 in
theorem Count_yes (k k2 : Nat) (A0 : Option Addr) (c0 : Nat) (l0 : List S41) (wd : Int) (i : Int) (w : World) (HL : LaidAt w) (hr0 : Kd.C k41 w A0 l0.length l0) (hc0 : l0.length ≤ c0) (h : report_Check.f k l0 = some (0, i))
    (hw0 : 1 ≤ wd) (hw1 : wd ≤ 20) (ok : Pure.OkL l0) (hv : ∀ v ∈ l0, Pure.WV v) (mny : Nat) (hm : (if 0 < l0.length then (rd_T41 l0 0).f2.length else 0) = mny)
    (xs : List (Fin 64 × Bool)) (hx : allF k2 ((orU l0).toNat ||| (orD l0).toNat) (orU l0) (orD l0) = some xs) (xf : X4) (hxf : xs.foldl (pcL l0) (0, 0, 0, 0) = xf) :
    Calls Tryd.prog 11 #[.slice A0 l0.length c0, .int .i64 wd] w fun e w' => ∃ v, e = .returned (.tuple #[v, .int .i64 0]) ∧ NumR w' w.heap.size v (numOf (cntV wd l0 (zer6, List.replicate mny 0, List.replicate mny 0, List.replicate mny 0)) xf) ∧ Below w.heap.size w w' := by
  have hm8 : mny ≤ 8 := by
    by_cases h0 : 0 < l0.length
    · rw [if_pos h0] at hm
      rw [← hm]
      exact (ok.v _ (Pure.memV l0 0 h0)).m8
    · rw [if_neg h0] at hm
      omega
  have hmk : ∀ W : World, (Instr.makeSlice 22 (.int .i64 (mny : Int)) (.int .i64 (mny : Int))).run Tryd.prog W = .ok (.slice (some ⟨W.heap.size, 0, none⟩) mny mny) (W.alloc (.cells (madeCells #[.int .i64 0] mny) 3)) :=
    print_make 22 3 .i64 8 Tryd.underlying22 info3 (by decide) mny (by omega)
  have hu29 := Tryd.underlying29
  have hu27 := Tryd.underlying27
  have hu41 := Tryd.underlying41
  have OK := Aside0.mk ok
  have HV := Aside0.mk hv
  have HXF := Aside0.mk hxf
  have HX := Aside0.mk hx
  have HLA := Aside0.mk HL
  have H := Aside0.mk h
  have HC := Aside0.mk hr0
  have hlen := ok.len
  have d1 : decide (wd < 1) = false := decide_eq_false (by omega)
  have d2 : decide (20 < wd) = false := decide_eq_false (by omega)
  clear h hr0 ok hv hxf hx HL
  refine (callsIn_wide (n := 9)).1 ?_
  refine callsIn_of_wp_marks Tryd.func11 rfl trivial ?_ rfl
  simp only [Tryd.ntmps11, List.size_toArray, List.length_cons, List.length_nil, Nat.reduceAdd, Nat.reduceSub, Array.replicate_succ, Array.replicate_zero, List.push_toArray, List.append_toArray, List.nil_append, List.cons_append]
  rw [wpIn_wide]
  go_upto_region 1 with (fail)
  obtain ⟨w0, hw0_⟩ : ∃ X_, w.alloc (.cells #[.slice A0 l0.length c0] 24) = X_ := ⟨_, rfl⟩
  have hs0 : w0.heap.size = w.heap.size + 1 := by rw [← hw0_]; simp
  have hZ0 : Blk (w0.alloc (.cells zer13 29)) w0.heap.size zer13 29 := Blk.new w0 _ _
  have hl0 := lbox hw0_ (below_alloc (Below.refl _ w0) (.cells zer13 29))
  have cl := hl0.cell
  have hc1 : Kd.C k41 (w0.alloc (.cells zer13 29)) A0 l0.length l0 := Kd.C_below HC.out (base0 hw0_ (below_alloc (Below.refl _ w0) (.cells zer13 29)))
  rw [hw0_, ← hs0]
  have HZ0 := Aside0.mk hZ0
  have HC1 := Aside0.mk hc1
  have HW0 := Aside0.mk hw0_
  have HS0 := Aside0.mk hs0
  clear hZ0 hc1 hl0 hw0_ hs0
  go_wp2_with fail
  refine (report_Check.calls k A0 c0 l0 0 i _ HC1.out hc0 H.out).mono ?_
  rintro e0 w1 ⟨rfl, hb⟩
  have HB1 : Aside0 (Below w0.heap.size w0 w1) := ⟨below_step (below_alloc (Below.refl _ _) _) hb⟩
  have HZ1 := Aside0.mk (HZ0.out.below hb HZ0.out.lt)
  clear hb HZ0 HC1 cl
  have cl := (lbox HW0.out HB1.out).cell
  go_upto_region 8 with (fail)
  obtain ⟨B, hB⟩ : ∃ X_, w1.heap.size = X_ := ⟨_, rfl⟩
  obtain ⟨wa, hwa⟩ : ∃ X_, (w1.alloc (.cells zer13 29)).alloc (.cells #[.int .i64 0, .int .i64 0, .int .i64 0, .int .i64 0, .int .i64 0, .int .i64 0] 27) = X_ := ⟨_, rfl⟩
  have hQ : Blk wa (B + 1) (nums .i64 zer6).toArray 27 := by
    have h1 := Blk.new (w1.alloc (.cells zer13 29)) (nums .i64 zer6).toArray 27
    rw [World.size_alloc, hB] at h1
    rw [← hwa]; exact h1
  have hN : Blk wa B zer13 29 := by rw [← hwa, ← hB]; exact (Blk.new w1 _ _).alloc _
  have hR : Blk wa w0.heap.size zer13 29 := by rw [← hwa]; exact (HZ1.out.alloc _).alloc _
  have hBw : Below w0.heap.size w0 wa := by rw [← hwa]; exact (HB1.out.alloc HB1.out.size _).alloc (by rw [World.size_alloc]; have := HB1.out.size; omega) _
  have hlt : w0.heap.size < B := by rw [← hB]; exact HZ1.out.lt
  rw [hwa, hB]
  clear hwa hB HB1 HZ1 cl
  have HN := Aside0.mk hN
  have HR := Aside0.mk hR
  have HQ := Aside0.mk hQ
  have HB := Aside0.mk hBw
  have NB := Aside0.mk hN.lt
  have LB := Aside0.mk (Nat.le_of_lt hlt)
  have HLT := Aside0.mk hlt
  have HK := Aside0.mk (KeepBut.refl wa B none)
  clear hN hR hBw hlt hQ
  have cl := (lbox HW0.out HB.out).cell
  go_upto_if 38 with (fail)
  go_cut [] from 10 to 52 (fun wc => ∃ va vb vc, Aside0 (CtW w0.heap.size w0 B va vb vc mny (zer6, List.replicate mny 0, List.replicate mny 0, List.replicate mny 0) wc))
  case first =>
    refine wp_normal ?_
    by_cases hn : 0 < l0.length
    · have d0 : decide (0 < (l0.length : Int)) = true := decide_eq_true (by omega)
      have d0n : decide (0 < l0.length) = true := decide_eq_true hn
      rw [if_pos hn] at hm
      obtain ⟨ad, A1, c1, A2, c2, ea, x0, x1, x2, x3, x4, x5, g1, g2, g3, g4⟩ := at_T41 (Kd.C_below HC.out (base0 HW0.out HB.out)) 0 (by omega) (by omega)
      rw [hm, show ((0 : Int)).toNat = 0 from rfl, show 0 * 6 = 0 from rfl, Addr.add_zero'] at x2
      cases ea
      clear g1 g2 g3 g4 x0 x1 x3 x4 x5
      go_upto_region 10 with (fail)
      clear x2 cl
      -- REGION10
      refine start_ (n := 12) (S := fun w' => True) (ds := []) #[false, false, false, false, false, false, false, false, false, false, false, false] (by kernel_rfl) rfl rfl trivial (fun hHeld => ?_)
      refine pure_ (i := 0) (N := some 44) (v := ?_) (a' := ?_) #[true, false, false, false, false, false, false, false, false, false, false, false] rfl rfl (by kernel_rfl) (fun _ _ _ h => h) (Or.inl ⟨by rfl, ?_⟩) ?_ ?_
      rotate_left
      · intro w'
        go_simp
        with_reducible rfl
      rotate_left
      · simp only [Act.put, List.setIfInBounds_toArray, List.set_cons_zero, List.set_cons_succ, i64_w, i32_w]
        rfl
      refine pure_ (i := 2) (N := some 46) (v := ?_) (a' := ?_) #[true, false, true, false, false, false, false, false, false, false, false, false] rfl rfl (by kernel_rfl) (fun _ _ _ h => h) (Or.inl ⟨by rfl, ?_⟩) ?_ ?_
      rotate_left
      · intro w'
        go_simp
        with_reducible rfl
      rotate_left
      · simp only [Act.put, List.setIfInBounds_toArray, List.set_cons_zero, List.set_cons_succ, i64_w, i32_w]
        rfl
      refine pure_ (i := 4) (N := some 48) (v := ?_) (a' := ?_) #[true, false, true, false, true, false, false, false, false, false, false, false] rfl rfl (by kernel_rfl) (fun _ _ _ h => h) (Or.inl ⟨by rfl, ?_⟩) ?_ ?_
      rotate_left
      · intro w'
        go_simp
        with_reducible rfl
      rotate_left
      · simp only [Act.put, List.setIfInBounds_toArray, List.set_cons_zero, List.set_cons_succ, i64_w, i32_w]
        rfl
      refine join_ (σ := Nat × Nat × Nat) 2 #[true, true, true, true, true, true, true, true, true, true, false, false] (fun | (g1, g2, g3) => [(45, .slice (some ⟨g1, 0, none⟩) mny mny), (47, .slice (some ⟨g2, 0, none⟩) mny mny), (49, .slice (some ⟨g3, 0, none⟩) mny mny), (50, .pointer (some ⟨B, 10, none⟩)), (51, .pointer (some ⟨B, 11, none⟩))]) (fun | (g1, g2, g3) => fun w' => Aside0 (Blk w' B #[.int .i64 0, .int .i64 0, .int .i64 0, .int .i64 0, .int .i64 0, .int .i64 0, .int .i64 0, .int .i64 0, .int .i64 0, .int .i64 0, .slice (some ⟨g1, 0, none⟩) mny mny, .slice (some ⟨g2, 0, none⟩) mny mny, .slice none 0 0] 29) ∧ Aside0 (KeepBut wa w' B none) ∧ Aside0 (Below w0.heap.size w0 w') ∧ Aside0 (Blk w' g1 (nums .i64 (List.replicate mny 0)).toArray 3) ∧ Aside0 (wa.heap.size ≤ g1) ∧ Aside0 (Blk w' g2 (nums .i64 (List.replicate mny 0)).toArray 3) ∧ Aside0 (wa.heap.size ≤ g2) ∧ Aside0 (Blk w' g3 (nums .i64 (List.replicate mny 0)).toArray 3) ∧ Aside0 (wa.heap.size ≤ g3) ∧ Aside0 (g1 ≠ g2) ∧ Aside0 (g1 ≠ g3) ∧ Aside0 (g2 ≠ g3)) ?_ ?_
      rotate_left
      · intro hJ1_3_5_7_9
        refine join_ (σ := Nat × Nat × Nat) 3 #[true, true, true, true, true, true, true, true, true, false, false, false] (fun | (g1, g2, g3) => [(45, .slice (some ⟨g1, 0, none⟩) mny mny), (47, .slice (some ⟨g2, 0, none⟩) mny mny), (49, .slice (some ⟨g3, 0, none⟩) mny mny), (50, .pointer (some ⟨B, 10, none⟩)), (51, .pointer (some ⟨B, 11, none⟩))]) (fun | (g1, g2, g3) => fun w' => Aside0 (Blk w' B #[.int .i64 0, .int .i64 0, .int .i64 0, .int .i64 0, .int .i64 0, .int .i64 0, .int .i64 0, .int .i64 0, .int .i64 0, .int .i64 0, .slice (some ⟨g1, 0, none⟩) mny mny, .slice none 0 0, .slice none 0 0] 29) ∧ Aside0 (KeepBut wa w' B none) ∧ Aside0 (Below w0.heap.size w0 w') ∧ Aside0 (Blk w' g1 (nums .i64 (List.replicate mny 0)).toArray 3) ∧ Aside0 (wa.heap.size ≤ g1) ∧ Aside0 (Blk w' g2 (nums .i64 (List.replicate mny 0)).toArray 3) ∧ Aside0 (wa.heap.size ≤ g2) ∧ Aside0 (Blk w' g3 (nums .i64 (List.replicate mny 0)).toArray 3) ∧ Aside0 (wa.heap.size ≤ g3) ∧ Aside0 (g1 ≠ g2) ∧ Aside0 (g1 ≠ g3) ∧ Aside0 (g2 ≠ g3)) ?_ ?_
        rotate_left
        · intro hJ1_3_5_7
          refine join_ (σ := Nat × Nat × Nat) 3 #[true, true, true, true, true, false, true, true, true, true, false, false] (fun | (g1, g2, g3) => [(45, .slice (some ⟨g1, 0, none⟩) mny mny), (47, .slice (some ⟨g2, 0, none⟩) mny mny), (50, .pointer (some ⟨B, 10, none⟩)), (51, .pointer (some ⟨B, 11, none⟩))]) (fun | (g1, g2, g3) => fun w' => Aside0 (Blk w' B #[.int .i64 0, .int .i64 0, .int .i64 0, .int .i64 0, .int .i64 0, .int .i64 0, .int .i64 0, .int .i64 0, .int .i64 0, .int .i64 0, .slice (some ⟨g1, 0, none⟩) mny mny, .slice (some ⟨g2, 0, none⟩) mny mny, .slice none 0 0] 29) ∧ Aside0 (KeepBut wa w' B none) ∧ Aside0 (Below w0.heap.size w0 w') ∧ Aside0 (Blk w' g1 (nums .i64 (List.replicate mny 0)).toArray 3) ∧ Aside0 (wa.heap.size ≤ g1) ∧ Aside0 (Blk w' g2 (nums .i64 (List.replicate mny 0)).toArray 3) ∧ Aside0 (wa.heap.size ≤ g2) ∧ Aside0 (g1 ≠ g2)) ?_ ?_
          rotate_left
          · intro hJ1_3_7_9
            refine join_ (σ := Nat × Nat × Nat) 5 #[true, true, true, true, true, true, true, false, false, false, false, false] (fun | (g1, g2, g3) => [(45, .slice (some ⟨g1, 0, none⟩) mny mny), (47, .slice (some ⟨g2, 0, none⟩) mny mny), (49, .slice (some ⟨g3, 0, none⟩) mny mny), (50, .pointer (some ⟨B, 10, none⟩))]) (fun | (g1, g2, g3) => fun w' => Aside0 (Blk w' B #[.int .i64 0, .int .i64 0, .int .i64 0, .int .i64 0, .int .i64 0, .int .i64 0, .int .i64 0, .int .i64 0, .int .i64 0, .int .i64 0, .slice none 0 0, .slice none 0 0, .slice none 0 0] 29) ∧ Aside0 (KeepBut wa w' B none) ∧ Aside0 (Below w0.heap.size w0 w') ∧ Aside0 (Blk w' g1 (nums .i64 (List.replicate mny 0)).toArray 3) ∧ Aside0 (wa.heap.size ≤ g1) ∧ Aside0 (Blk w' g2 (nums .i64 (List.replicate mny 0)).toArray 3) ∧ Aside0 (wa.heap.size ≤ g2) ∧ Aside0 (Blk w' g3 (nums .i64 (List.replicate mny 0)).toArray 3) ∧ Aside0 (wa.heap.size ≤ g3) ∧ Aside0 (g1 ≠ g2) ∧ Aside0 (g1 ≠ g3) ∧ Aside0 (g2 ≠ g3)) ?_ ?_
            rotate_left
            · intro hJ1_3_5
              refine join_ (σ := Nat × Nat × Nat) 4 #[true, true, true, true, true, false, true, true, true, false, false, false] (fun | (g1, g2, g3) => [(45, .slice (some ⟨g1, 0, none⟩) mny mny), (47, .slice (some ⟨g2, 0, none⟩) mny mny), (50, .pointer (some ⟨B, 10, none⟩)), (51, .pointer (some ⟨B, 11, none⟩))]) (fun | (g1, g2, g3) => fun w' => Aside0 (Blk w' B #[.int .i64 0, .int .i64 0, .int .i64 0, .int .i64 0, .int .i64 0, .int .i64 0, .int .i64 0, .int .i64 0, .int .i64 0, .int .i64 0, .slice (some ⟨g1, 0, none⟩) mny mny, .slice none 0 0, .slice none 0 0] 29) ∧ Aside0 (KeepBut wa w' B none) ∧ Aside0 (Below w0.heap.size w0 w') ∧ Aside0 (Blk w' g1 (nums .i64 (List.replicate mny 0)).toArray 3) ∧ Aside0 (wa.heap.size ≤ g1) ∧ Aside0 (Blk w' g2 (nums .i64 (List.replicate mny 0)).toArray 3) ∧ Aside0 (wa.heap.size ≤ g2) ∧ Aside0 (g1 ≠ g2)) ?_ ?_
              rotate_left
              · intro hJ1_3_7
                refine join_ (σ := Nat × Nat × Nat) 5 #[true, true, true, false, true, true, true, true, false, false, false, false] (fun | (g1, g2, g3) => [(45, .slice (some ⟨g1, 0, none⟩) mny mny), (49, .slice (some ⟨g3, 0, none⟩) mny mny), (50, .pointer (some ⟨B, 10, none⟩))]) (fun | (g1, g2, g3) => fun w' => Aside0 (Blk w' B #[.int .i64 0, .int .i64 0, .int .i64 0, .int .i64 0, .int .i64 0, .int .i64 0, .int .i64 0, .int .i64 0, .int .i64 0, .int .i64 0, .slice (some ⟨g1, 0, none⟩) mny mny, .slice none 0 0, .slice none 0 0] 29) ∧ Aside0 (KeepBut wa w' B none) ∧ Aside0 (Below w0.heap.size w0 w') ∧ Aside0 (Blk w' g1 (nums .i64 (List.replicate mny 0)).toArray 3) ∧ Aside0 (wa.heap.size ≤ g1) ∧ Aside0 (Blk w' g3 (nums .i64 (List.replicate mny 0)).toArray 3) ∧ Aside0 (wa.heap.size ≤ g3) ∧ Aside0 (g1 ≠ g3)) ?_ ?_
                rotate_left
                · intro hJ1_5_7
                  refine join_ (σ := Nat × Nat × Nat) 6 #[true, true, true, true, true, false, true, false, false, false, false, false] (fun | (g1, g2, g3) => [(45, .slice (some ⟨g1, 0, none⟩) mny mny), (47, .slice (some ⟨g2, 0, none⟩) mny mny), (50, .pointer (some ⟨B, 10, none⟩))]) (fun | (g1, g2, g3) => fun w' => Aside0 (Blk w' B #[.int .i64 0, .int .i64 0, .int .i64 0, .int .i64 0, .int .i64 0, .int .i64 0, .int .i64 0, .int .i64 0, .int .i64 0, .int .i64 0, .slice none 0 0, .slice none 0 0, .slice none 0 0] 29) ∧ Aside0 (KeepBut wa w' B none) ∧ Aside0 (Below w0.heap.size w0 w') ∧ Aside0 (Blk w' g1 (nums .i64 (List.replicate mny 0)).toArray 3) ∧ Aside0 (wa.heap.size ≤ g1) ∧ Aside0 (Blk w' g2 (nums .i64 (List.replicate mny 0)).toArray 3) ∧ Aside0 (wa.heap.size ≤ g2) ∧ Aside0 (g1 ≠ g2)) ?_ ?_
                  rotate_left
                  · intro hJ1_3
                    refine join_ (σ := Nat × Nat × Nat) 6 #[true, true, true, false, true, true, true, false, false, false, false, false] (fun | (g1, g2, g3) => [(45, .slice (some ⟨g1, 0, none⟩) mny mny), (49, .slice (some ⟨g3, 0, none⟩) mny mny), (50, .pointer (some ⟨B, 10, none⟩))]) (fun | (g1, g2, g3) => fun w' => Aside0 (Blk w' B #[.int .i64 0, .int .i64 0, .int .i64 0, .int .i64 0, .int .i64 0, .int .i64 0, .int .i64 0, .int .i64 0, .int .i64 0, .int .i64 0, .slice none 0 0, .slice none 0 0, .slice none 0 0] 29) ∧ Aside0 (KeepBut wa w' B none) ∧ Aside0 (Below w0.heap.size w0 w') ∧ Aside0 (Blk w' g1 (nums .i64 (List.replicate mny 0)).toArray 3) ∧ Aside0 (wa.heap.size ≤ g1) ∧ Aside0 (Blk w' g3 (nums .i64 (List.replicate mny 0)).toArray 3) ∧ Aside0 (wa.heap.size ≤ g3) ∧ Aside0 (g1 ≠ g3)) ?_ ?_
                    rotate_left
                    · intro hJ1_5
                      refine join_ (σ := Nat × Nat × Nat) 6 #[true, true, true, false, true, false, true, true, false, false, false, false] (fun | (g1, g2, g3) => [(45, .slice (some ⟨g1, 0, none⟩) mny mny), (50, .pointer (some ⟨B, 10, none⟩))]) (fun | (g1, g2, g3) => fun w' => Aside0 (Blk w' B #[.int .i64 0, .int .i64 0, .int .i64 0, .int .i64 0, .int .i64 0, .int .i64 0, .int .i64 0, .int .i64 0, .int .i64 0, .int .i64 0, .slice (some ⟨g1, 0, none⟩) mny mny, .slice none 0 0, .slice none 0 0] 29) ∧ Aside0 (KeepBut wa w' B none) ∧ Aside0 (Below w0.heap.size w0 w') ∧ Aside0 (Blk w' g1 (nums .i64 (List.replicate mny 0)).toArray 3) ∧ Aside0 (wa.heap.size ≤ g1)) ?_ ?_
                      rotate_left
                      · intro hJ1_7
                        refine join_ (σ := Nat × Nat × Nat) 7 #[true, false, true, true, true, true, false, false, false, false, false, false] (fun | (g1, g2, g3) => [(47, .slice (some ⟨g2, 0, none⟩) mny mny), (49, .slice (some ⟨g3, 0, none⟩) mny mny)]) (fun | (g1, g2, g3) => fun w' => Aside0 (Blk w' B #[.int .i64 0, .int .i64 0, .int .i64 0, .int .i64 0, .int .i64 0, .int .i64 0, .int .i64 0, .int .i64 0, .int .i64 0, .int .i64 0, .slice none 0 0, .slice none 0 0, .slice none 0 0] 29) ∧ Aside0 (KeepBut wa w' B none) ∧ Aside0 (Below w0.heap.size w0 w') ∧ Aside0 (Blk w' g2 (nums .i64 (List.replicate mny 0)).toArray 3) ∧ Aside0 (wa.heap.size ≤ g2) ∧ Aside0 (Blk w' g3 (nums .i64 (List.replicate mny 0)).toArray 3) ∧ Aside0 (wa.heap.size ≤ g3) ∧ Aside0 (g2 ≠ g3)) ?_ ?_
                        rotate_left
                        · intro hJ3_5
                          refine join_ (σ := Nat × Nat × Nat) 7 #[true, true, true, false, true, false, true, false, false, false, false, false] (fun | (g1, g2, g3) => [(45, .slice (some ⟨g1, 0, none⟩) mny mny), (50, .pointer (some ⟨B, 10, none⟩))]) (fun | (g1, g2, g3) => fun w' => Aside0 (Blk w' B #[.int .i64 0, .int .i64 0, .int .i64 0, .int .i64 0, .int .i64 0, .int .i64 0, .int .i64 0, .int .i64 0, .int .i64 0, .int .i64 0, .slice none 0 0, .slice none 0 0, .slice none 0 0] 29) ∧ Aside0 (KeepBut wa w' B none) ∧ Aside0 (Below w0.heap.size w0 w') ∧ Aside0 (Blk w' g1 (nums .i64 (List.replicate mny 0)).toArray 3) ∧ Aside0 (wa.heap.size ≤ g1)) ?_ ?_
                          rotate_left
                          · intro hJ1
                            refine join_ (σ := Nat × Nat × Nat) 8 #[true, false, true, true, true, false, false, false, false, false, false, false] (fun | (g1, g2, g3) => [(47, .slice (some ⟨g2, 0, none⟩) mny mny)]) (fun | (g1, g2, g3) => fun w' => Aside0 (Blk w' B #[.int .i64 0, .int .i64 0, .int .i64 0, .int .i64 0, .int .i64 0, .int .i64 0, .int .i64 0, .int .i64 0, .int .i64 0, .int .i64 0, .slice none 0 0, .slice none 0 0, .slice none 0 0] 29) ∧ Aside0 (KeepBut wa w' B none) ∧ Aside0 (Below w0.heap.size w0 w') ∧ Aside0 (Blk w' g2 (nums .i64 (List.replicate mny 0)).toArray 3) ∧ Aside0 (wa.heap.size ≤ g2)) ?_ ?_
                            rotate_left
                            · intro hJ3
                              refine join_ (σ := Nat × Nat × Nat) 8 #[true, false, true, false, true, true, false, false, false, false, false, false] (fun | (g1, g2, g3) => [(49, .slice (some ⟨g3, 0, none⟩) mny mny)]) (fun | (g1, g2, g3) => fun w' => Aside0 (Blk w' B #[.int .i64 0, .int .i64 0, .int .i64 0, .int .i64 0, .int .i64 0, .int .i64 0, .int .i64 0, .int .i64 0, .int .i64 0, .int .i64 0, .slice none 0 0, .slice none 0 0, .slice none 0 0] 29) ∧ Aside0 (KeepBut wa w' B none) ∧ Aside0 (Below w0.heap.size w0 w') ∧ Aside0 (Blk w' g3 (nums .i64 (List.replicate mny 0)).toArray 3) ∧ Aside0 (wa.heap.size ≤ g3)) ?_ ?_
                              rotate_left
                              · intro hJ5
                                refine three_ (i := 1) (j := 3) (k := 5) (Ni := some 45) (Nj := some 47) (Nk := some 49) #[true, true, true, false, true, false, false, false, false, false, false, false] #[true, false, true, true, true, false, false, false, false, false, false, false] #[true, false, true, false, true, true, false, false, false, false, false, false] rfl rfl rfl rfl rfl rfl (by kernel_rfl) (by decide) (by decide) (by decide) (fun K hK => ?_) (fun K hK => ?_) (fun K hK => ?_)
                                · skip
                                  refine made_step ?hw (N := 45) ?hd (m := mny) ?hr ?_
                                  (case hd => rfl)
                                  (case hw => rfl)
                                  (case hr => first | (go_simp; done) | (go_simp; rfl))
                                  intro g1n hg_ w3 hbx hb
                                  have HN3 : Aside0 (Blk w3 B #[.int .i64 0, .int .i64 0, .int .i64 0, .int .i64 0, .int .i64 0, .int .i64 0, .int .i64 0, .int .i64 0, .int .i64 0, .int .i64 0, .slice none 0 0, .slice none 0 0, .slice none 0 0] 29) := ⟨blk_below (by (with_reducible repeat (first | refine blk_drewN ?_ _ | refine blk_drew ?_)); exact HN.out) hb⟩
                                  have HK3 : Aside0 (KeepBut wa w3 B none) := ⟨KeepBut.trans (by repeat (first | (with_reducible first | exact HK.out | apply keep_drewN | apply keep_drew) | exact HK.out)) (KeepBut.of_below hb _ none) (.inl rfl)⟩
                                  have HB3 : Aside0 (Below w0.heap.size w0 w3) := ⟨below_step (by repeat (first | (with_reducible first | exact HB.out | apply below_alloc | apply pw_below_drewN | apply below_drew1) | exact HB.out)) hb⟩
                                  have H13 : Aside0 (Blk w3 g1n (nums .i64 (List.replicate mny 0)).toArray 3) := ⟨hbx⟩
                                  have L13 : Aside0 (wa.heap.size ≤ g1n) := ⟨by rw [hg_]; exact HK.out.1⟩
                                  refine hK.out _ _ trivial (fun hHeld => ?_)
                                  clear hK K
                                  refine norm_ (a' := ?_) ?_ ?_
                                  rotate_left
                                  · show Act.put _ (some 45) _ = _
                                    simp only [Act.put, List.setIfInBounds_toArray, List.set_cons_zero, List.set_cons_succ, i64_w, i32_w]
                                    rfl
                                  refine pure_ (i := 6) (N := some 50) (v := ?_) (a' := ?_) #[true, true, true, false, true, false, true, false, false, false, false, false] rfl rfl (by kernel_rfl) (fun _ _ _ h => h) (Or.inl ⟨by rfl, ?_⟩) ?_ ?_
                                  rotate_left
                                  · intro w'
                                    go_simp
                                    with_reducible rfl
                                  rotate_left
                                  · simp only [Act.put, List.setIfInBounds_toArray, List.set_cons_zero, List.set_cons_succ, i64_w, i32_w]
                                    rfl
                                  exact norm_ (by first | (simp only [putAll, Act.put, List.setIfInBounds_toArray, List.set_cons_zero, List.set_cons_succ]; done) | (simp only [putAll, Act.put, List.setIfInBounds_toArray, List.set_cons_zero, List.set_cons_succ]; rfl)) (hJ1 (g1n, 0, 0) _ ⟨HN3, HK3, HB3, H13, L13⟩)
                                · skip
                                  refine made_step ?hw (N := 47) ?hd (m := mny) ?hr ?_
                                  (case hd => rfl)
                                  (case hw => rfl)
                                  (case hr => first | (go_simp; done) | (go_simp; rfl))
                                  intro g2n hg_ w3 hbx hb
                                  have HN3 : Aside0 (Blk w3 B #[.int .i64 0, .int .i64 0, .int .i64 0, .int .i64 0, .int .i64 0, .int .i64 0, .int .i64 0, .int .i64 0, .int .i64 0, .int .i64 0, .slice none 0 0, .slice none 0 0, .slice none 0 0] 29) := ⟨blk_below (by (with_reducible repeat (first | refine blk_drewN ?_ _ | refine blk_drew ?_)); exact HN.out) hb⟩
                                  have HK3 : Aside0 (KeepBut wa w3 B none) := ⟨KeepBut.trans (by repeat (first | (with_reducible first | exact HK.out | apply keep_drewN | apply keep_drew) | exact HK.out)) (KeepBut.of_below hb _ none) (.inl rfl)⟩
                                  have HB3 : Aside0 (Below w0.heap.size w0 w3) := ⟨below_step (by repeat (first | (with_reducible first | exact HB.out | apply below_alloc | apply pw_below_drewN | apply below_drew1) | exact HB.out)) hb⟩
                                  have H33 : Aside0 (Blk w3 g2n (nums .i64 (List.replicate mny 0)).toArray 3) := ⟨hbx⟩
                                  have L33 : Aside0 (wa.heap.size ≤ g2n) := ⟨by rw [hg_]; exact HK.out.1⟩
                                  refine hK.out _ _ trivial (fun hHeld => ?_)
                                  clear hK K
                                  refine norm_ (a' := ?_) ?_ ?_
                                  rotate_left
                                  · show Act.put _ (some 47) _ = _
                                    simp only [Act.put, List.setIfInBounds_toArray, List.set_cons_zero, List.set_cons_succ, i64_w, i32_w]
                                    rfl
                                  exact norm_ (by first | (simp only [putAll, Act.put, List.setIfInBounds_toArray, List.set_cons_zero, List.set_cons_succ]; done) | (simp only [putAll, Act.put, List.setIfInBounds_toArray, List.set_cons_zero, List.set_cons_succ]; rfl)) (hJ3 (0, g2n, 0) _ ⟨HN3, HK3, HB3, H33, L33⟩)
                                · skip
                                  refine made_step ?hw (N := 49) ?hd (m := mny) ?hr ?_
                                  (case hd => rfl)
                                  (case hw => rfl)
                                  (case hr => first | (go_simp; done) | (go_simp; rfl))
                                  intro g3n hg_ w3 hbx hb
                                  have HN3 : Aside0 (Blk w3 B #[.int .i64 0, .int .i64 0, .int .i64 0, .int .i64 0, .int .i64 0, .int .i64 0, .int .i64 0, .int .i64 0, .int .i64 0, .int .i64 0, .slice none 0 0, .slice none 0 0, .slice none 0 0] 29) := ⟨blk_below (by (with_reducible repeat (first | refine blk_drewN ?_ _ | refine blk_drew ?_)); exact HN.out) hb⟩
                                  have HK3 : Aside0 (KeepBut wa w3 B none) := ⟨KeepBut.trans (by repeat (first | (with_reducible first | exact HK.out | apply keep_drewN | apply keep_drew) | exact HK.out)) (KeepBut.of_below hb _ none) (.inl rfl)⟩
                                  have HB3 : Aside0 (Below w0.heap.size w0 w3) := ⟨below_step (by repeat (first | (with_reducible first | exact HB.out | apply below_alloc | apply pw_below_drewN | apply below_drew1) | exact HB.out)) hb⟩
                                  have H53 : Aside0 (Blk w3 g3n (nums .i64 (List.replicate mny 0)).toArray 3) := ⟨hbx⟩
                                  have L53 : Aside0 (wa.heap.size ≤ g3n) := ⟨by rw [hg_]; exact HK.out.1⟩
                                  refine hK.out _ _ trivial (fun hHeld => ?_)
                                  clear hK K
                                  refine norm_ (a' := ?_) ?_ ?_
                                  rotate_left
                                  · show Act.put _ (some 49) _ = _
                                    simp only [Act.put, List.setIfInBounds_toArray, List.set_cons_zero, List.set_cons_succ, i64_w, i32_w]
                                    rfl
                                  exact norm_ (by first | (simp only [putAll, Act.put, List.setIfInBounds_toArray, List.set_cons_zero, List.set_cons_succ]; done) | (simp only [putAll, Act.put, List.setIfInBounds_toArray, List.set_cons_zero, List.set_cons_succ]; rfl)) (hJ5 (0, 0, g3n) _ ⟨HN3, HK3, HB3, H53, L53⟩)
                              · skip
                                rintro ⟨g1, g2, g3⟩ w' ⟨HN, HK, HB, H5, L5⟩
                                have hHeld : True := trivial
                                refine norm_ (a' := ?_) ?_ ?_
                                rotate_left
                                · simp only [putAll, Act.put, List.setIfInBounds_toArray, List.set_cons_zero, List.set_cons_succ]
                                  rfl
                                refine two_ (i := 1) (j := 3) (Ni := some 45) (Nj := some 47) #[true, true, true, false, true, true, false, false, false, false, false, false] #[true, false, true, true, true, true, false, false, false, false, false, false] rfl rfl rfl rfl (by kernel_rfl) (by decide) (by decide) (fun K hK => ?_) (fun K hK => ?_)
                                · skip
                                  refine made_step ?hw (N := 45) ?hd (m := mny) ?hr ?_
                                  (case hd => rfl)
                                  (case hw => rfl)
                                  (case hr => first | (go_simp; done) | (go_simp; rfl))
                                  intro g1n hg_ w3 hbx hb
                                  have HN3 : Aside0 (Blk w3 B #[.int .i64 0, .int .i64 0, .int .i64 0, .int .i64 0, .int .i64 0, .int .i64 0, .int .i64 0, .int .i64 0, .int .i64 0, .int .i64 0, .slice none 0 0, .slice none 0 0, .slice none 0 0] 29) := ⟨blk_below (by (with_reducible repeat (first | refine blk_drewN ?_ _ | refine blk_drew ?_)); exact HN.out) hb⟩
                                  have HK3 : Aside0 (KeepBut wa w3 B none) := ⟨KeepBut.trans (by repeat (first | (with_reducible first | exact HK.out | apply keep_drewN | apply keep_drew) | exact HK.out)) (KeepBut.of_below hb _ none) (.inl rfl)⟩
                                  have HB3 : Aside0 (Below w0.heap.size w0 w3) := ⟨below_step (by repeat (first | (with_reducible first | exact HB.out | apply below_alloc | apply pw_below_drewN | apply below_drew1) | exact HB.out)) hb⟩
                                  have H53 : Aside0 (Blk w3 g3 (nums .i64 (List.replicate mny 0)).toArray 3) := ⟨blk_below (by (with_reducible repeat (first | refine blk_drewN ?_ _ | refine blk_drew ?_)); exact H5.out) hb⟩
                                  have H13 : Aside0 (Blk w3 g1n (nums .i64 (List.replicate mny 0)).toArray 3) := ⟨hbx⟩
                                  have L13 : Aside0 (wa.heap.size ≤ g1n) := ⟨by rw [hg_]; exact HK.out.1⟩
                                  have N153 : Aside0 (g1n ≠ g3) := ⟨by rw [hg_]; exact Nat.ne_of_gt (blk_lt (by (with_reducible repeat (first | refine blk_drewN ?_ _ | refine blk_drew ?_)); exact H5.out))⟩
                                  refine hK.out _ _ trivial (fun hHeld => ?_)
                                  clear hK K
                                  refine norm_ (a' := ?_) ?_ ?_
                                  rotate_left
                                  · show Act.put _ (some 45) _ = _
                                    simp only [Act.put, List.setIfInBounds_toArray, List.set_cons_zero, List.set_cons_succ, i64_w, i32_w]
                                    rfl
                                  refine pure_ (i := 6) (N := some 50) (v := ?_) (a' := ?_) #[true, true, true, false, true, true, true, false, false, false, false, false] rfl rfl (by kernel_rfl) (fun _ _ _ h => h) (Or.inl ⟨by rfl, ?_⟩) ?_ ?_
                                  rotate_left
                                  · intro w'
                                    go_simp
                                    with_reducible rfl
                                  rotate_left
                                  · simp only [Act.put, List.setIfInBounds_toArray, List.set_cons_zero, List.set_cons_succ, i64_w, i32_w]
                                    rfl
                                  exact norm_ (by first | (simp only [putAll, Act.put, List.setIfInBounds_toArray, List.set_cons_zero, List.set_cons_succ]; done) | (simp only [putAll, Act.put, List.setIfInBounds_toArray, List.set_cons_zero, List.set_cons_succ]; rfl)) (hJ1_5 (g1n, 0, g3) _ ⟨HN3, HK3, HB3, H13, L13, H53, L5, N153⟩)
                                · skip
                                  refine made_step ?hw (N := 47) ?hd (m := mny) ?hr ?_
                                  (case hd => rfl)
                                  (case hw => rfl)
                                  (case hr => first | (go_simp; done) | (go_simp; rfl))
                                  intro g2n hg_ w3 hbx hb
                                  have HN3 : Aside0 (Blk w3 B #[.int .i64 0, .int .i64 0, .int .i64 0, .int .i64 0, .int .i64 0, .int .i64 0, .int .i64 0, .int .i64 0, .int .i64 0, .int .i64 0, .slice none 0 0, .slice none 0 0, .slice none 0 0] 29) := ⟨blk_below (by (with_reducible repeat (first | refine blk_drewN ?_ _ | refine blk_drew ?_)); exact HN.out) hb⟩
                                  have HK3 : Aside0 (KeepBut wa w3 B none) := ⟨KeepBut.trans (by repeat (first | (with_reducible first | exact HK.out | apply keep_drewN | apply keep_drew) | exact HK.out)) (KeepBut.of_below hb _ none) (.inl rfl)⟩
                                  have HB3 : Aside0 (Below w0.heap.size w0 w3) := ⟨below_step (by repeat (first | (with_reducible first | exact HB.out | apply below_alloc | apply pw_below_drewN | apply below_drew1) | exact HB.out)) hb⟩
                                  have H53 : Aside0 (Blk w3 g3 (nums .i64 (List.replicate mny 0)).toArray 3) := ⟨blk_below (by (with_reducible repeat (first | refine blk_drewN ?_ _ | refine blk_drew ?_)); exact H5.out) hb⟩
                                  have H33 : Aside0 (Blk w3 g2n (nums .i64 (List.replicate mny 0)).toArray 3) := ⟨hbx⟩
                                  have L33 : Aside0 (wa.heap.size ≤ g2n) := ⟨by rw [hg_]; exact HK.out.1⟩
                                  have N353 : Aside0 (g2n ≠ g3) := ⟨by rw [hg_]; exact Nat.ne_of_gt (blk_lt (by (with_reducible repeat (first | refine blk_drewN ?_ _ | refine blk_drew ?_)); exact H5.out))⟩
                                  refine hK.out _ _ trivial (fun hHeld => ?_)
                                  clear hK K
                                  refine norm_ (a' := ?_) ?_ ?_
                                  rotate_left
                                  · show Act.put _ (some 47) _ = _
                                    simp only [Act.put, List.setIfInBounds_toArray, List.set_cons_zero, List.set_cons_succ, i64_w, i32_w]
                                    rfl
                                  exact norm_ (by first | (simp only [putAll, Act.put, List.setIfInBounds_toArray, List.set_cons_zero, List.set_cons_succ]; done) | (simp only [putAll, Act.put, List.setIfInBounds_toArray, List.set_cons_zero, List.set_cons_succ]; rfl)) (hJ3_5 (0, g2n, g3) _ ⟨HN3, HK3, HB3, H33, L33, H53, L5, N353⟩)
                            · skip
                              rintro ⟨g1, g2, g3⟩ w' ⟨HN, HK, HB, H3, L3⟩
                              have hHeld : True := trivial
                              refine norm_ (a' := ?_) ?_ ?_
                              rotate_left
                              · simp only [putAll, Act.put, List.setIfInBounds_toArray, List.set_cons_zero, List.set_cons_succ]
                                rfl
                              refine two_ (i := 1) (j := 5) (Ni := some 45) (Nj := some 49) #[true, true, true, true, true, false, false, false, false, false, false, false] #[true, false, true, true, true, true, false, false, false, false, false, false] rfl rfl rfl rfl (by kernel_rfl) (by decide) (by decide) (fun K hK => ?_) (fun K hK => ?_)
                              · skip
                                refine made_step ?hw (N := 45) ?hd (m := mny) ?hr ?_
                                (case hd => rfl)
                                (case hw => rfl)
                                (case hr => first | (go_simp; done) | (go_simp; rfl))
                                intro g1n hg_ w3 hbx hb
                                have HN3 : Aside0 (Blk w3 B #[.int .i64 0, .int .i64 0, .int .i64 0, .int .i64 0, .int .i64 0, .int .i64 0, .int .i64 0, .int .i64 0, .int .i64 0, .int .i64 0, .slice none 0 0, .slice none 0 0, .slice none 0 0] 29) := ⟨blk_below (by (with_reducible repeat (first | refine blk_drewN ?_ _ | refine blk_drew ?_)); exact HN.out) hb⟩
                                have HK3 : Aside0 (KeepBut wa w3 B none) := ⟨KeepBut.trans (by repeat (first | (with_reducible first | exact HK.out | apply keep_drewN | apply keep_drew) | exact HK.out)) (KeepBut.of_below hb _ none) (.inl rfl)⟩
                                have HB3 : Aside0 (Below w0.heap.size w0 w3) := ⟨below_step (by repeat (first | (with_reducible first | exact HB.out | apply below_alloc | apply pw_below_drewN | apply below_drew1) | exact HB.out)) hb⟩
                                have H33 : Aside0 (Blk w3 g2 (nums .i64 (List.replicate mny 0)).toArray 3) := ⟨blk_below (by (with_reducible repeat (first | refine blk_drewN ?_ _ | refine blk_drew ?_)); exact H3.out) hb⟩
                                have H13 : Aside0 (Blk w3 g1n (nums .i64 (List.replicate mny 0)).toArray 3) := ⟨hbx⟩
                                have L13 : Aside0 (wa.heap.size ≤ g1n) := ⟨by rw [hg_]; exact HK.out.1⟩
                                have N133 : Aside0 (g1n ≠ g2) := ⟨by rw [hg_]; exact Nat.ne_of_gt (blk_lt (by (with_reducible repeat (first | refine blk_drewN ?_ _ | refine blk_drew ?_)); exact H3.out))⟩
                                refine hK.out _ _ trivial (fun hHeld => ?_)
                                clear hK K
                                refine norm_ (a' := ?_) ?_ ?_
                                rotate_left
                                · show Act.put _ (some 45) _ = _
                                  simp only [Act.put, List.setIfInBounds_toArray, List.set_cons_zero, List.set_cons_succ, i64_w, i32_w]
                                  rfl
                                refine pure_ (i := 6) (N := some 50) (v := ?_) (a' := ?_) #[true, true, true, true, true, false, true, false, false, false, false, false] rfl rfl (by kernel_rfl) (fun _ _ _ h => h) (Or.inl ⟨by rfl, ?_⟩) ?_ ?_
                                rotate_left
                                · intro w'
                                  go_simp
                                  with_reducible rfl
                                rotate_left
                                · simp only [Act.put, List.setIfInBounds_toArray, List.set_cons_zero, List.set_cons_succ, i64_w, i32_w]
                                  rfl
                                exact norm_ (by first | (simp only [putAll, Act.put, List.setIfInBounds_toArray, List.set_cons_zero, List.set_cons_succ]; done) | (simp only [putAll, Act.put, List.setIfInBounds_toArray, List.set_cons_zero, List.set_cons_succ]; rfl)) (hJ1_3 (g1n, g2, 0) _ ⟨HN3, HK3, HB3, H13, L13, H33, L3, N133⟩)
                              · skip
                                refine made_step ?hw (N := 49) ?hd (m := mny) ?hr ?_
                                (case hd => rfl)
                                (case hw => rfl)
                                (case hr => first | (go_simp; done) | (go_simp; rfl))
                                intro g3n hg_ w3 hbx hb
                                have HN3 : Aside0 (Blk w3 B #[.int .i64 0, .int .i64 0, .int .i64 0, .int .i64 0, .int .i64 0, .int .i64 0, .int .i64 0, .int .i64 0, .int .i64 0, .int .i64 0, .slice none 0 0, .slice none 0 0, .slice none 0 0] 29) := ⟨blk_below (by (with_reducible repeat (first | refine blk_drewN ?_ _ | refine blk_drew ?_)); exact HN.out) hb⟩
                                have HK3 : Aside0 (KeepBut wa w3 B none) := ⟨KeepBut.trans (by repeat (first | (with_reducible first | exact HK.out | apply keep_drewN | apply keep_drew) | exact HK.out)) (KeepBut.of_below hb _ none) (.inl rfl)⟩
                                have HB3 : Aside0 (Below w0.heap.size w0 w3) := ⟨below_step (by repeat (first | (with_reducible first | exact HB.out | apply below_alloc | apply pw_below_drewN | apply below_drew1) | exact HB.out)) hb⟩
                                have H33 : Aside0 (Blk w3 g2 (nums .i64 (List.replicate mny 0)).toArray 3) := ⟨blk_below (by (with_reducible repeat (first | refine blk_drewN ?_ _ | refine blk_drew ?_)); exact H3.out) hb⟩
                                have H53 : Aside0 (Blk w3 g3n (nums .i64 (List.replicate mny 0)).toArray 3) := ⟨hbx⟩
                                have L53 : Aside0 (wa.heap.size ≤ g3n) := ⟨by rw [hg_]; exact HK.out.1⟩
                                have N353 : Aside0 (g2 ≠ g3n) := ⟨by rw [hg_]; exact Nat.ne_of_lt (blk_lt (by (with_reducible repeat (first | refine blk_drewN ?_ _ | refine blk_drew ?_)); exact H3.out))⟩
                                refine hK.out _ _ trivial (fun hHeld => ?_)
                                clear hK K
                                refine norm_ (a' := ?_) ?_ ?_
                                rotate_left
                                · show Act.put _ (some 49) _ = _
                                  simp only [Act.put, List.setIfInBounds_toArray, List.set_cons_zero, List.set_cons_succ, i64_w, i32_w]
                                  rfl
                                exact norm_ (by first | (simp only [putAll, Act.put, List.setIfInBounds_toArray, List.set_cons_zero, List.set_cons_succ]; done) | (simp only [putAll, Act.put, List.setIfInBounds_toArray, List.set_cons_zero, List.set_cons_succ]; rfl)) (hJ3_5 (0, g2, g3n) _ ⟨HN3, HK3, HB3, H33, L3, H53, L53, N353⟩)
                          · skip
                            rintro ⟨g1, g2, g3⟩ w' ⟨HN, HK, HB, H1, L1⟩
                            have hHeld : True := trivial
                            refine norm_ (a' := ?_) ?_ ?_
                            rotate_left
                            · simp only [putAll, Act.put, List.setIfInBounds_toArray, List.set_cons_zero, List.set_cons_succ]
                              rfl
                            refine three_ (i := 3) (j := 5) (k := 7) (Ni := some 47) (Nj := some 49) (Nk := none) #[true, true, true, true, true, false, true, false, false, false, false, false] #[true, true, true, false, true, true, true, false, false, false, false, false] #[true, true, true, false, true, false, true, true, false, false, false, false] rfl rfl rfl rfl rfl rfl (by kernel_rfl) (by decide) (by decide) (by decide) (fun K hK => ?_) (fun K hK => ?_) (fun K hK => ?_)
                            · skip
                              refine made_step ?hw (N := 47) ?hd (m := mny) ?hr ?_
                              (case hd => rfl)
                              (case hw => rfl)
                              (case hr => first | (go_simp; done) | (go_simp; rfl))
                              intro g2n hg_ w3 hbx hb
                              have HN3 : Aside0 (Blk w3 B #[.int .i64 0, .int .i64 0, .int .i64 0, .int .i64 0, .int .i64 0, .int .i64 0, .int .i64 0, .int .i64 0, .int .i64 0, .int .i64 0, .slice none 0 0, .slice none 0 0, .slice none 0 0] 29) := ⟨blk_below (by (with_reducible repeat (first | refine blk_drewN ?_ _ | refine blk_drew ?_)); exact HN.out) hb⟩
                              have HK3 : Aside0 (KeepBut wa w3 B none) := ⟨KeepBut.trans (by repeat (first | (with_reducible first | exact HK.out | apply keep_drewN | apply keep_drew) | exact HK.out)) (KeepBut.of_below hb _ none) (.inl rfl)⟩
                              have HB3 : Aside0 (Below w0.heap.size w0 w3) := ⟨below_step (by repeat (first | (with_reducible first | exact HB.out | apply below_alloc | apply pw_below_drewN | apply below_drew1) | exact HB.out)) hb⟩
                              have H13 : Aside0 (Blk w3 g1 (nums .i64 (List.replicate mny 0)).toArray 3) := ⟨blk_below (by (with_reducible repeat (first | refine blk_drewN ?_ _ | refine blk_drew ?_)); exact H1.out) hb⟩
                              have H33 : Aside0 (Blk w3 g2n (nums .i64 (List.replicate mny 0)).toArray 3) := ⟨hbx⟩
                              have L33 : Aside0 (wa.heap.size ≤ g2n) := ⟨by rw [hg_]; exact HK.out.1⟩
                              have N133 : Aside0 (g1 ≠ g2n) := ⟨by rw [hg_]; exact Nat.ne_of_lt (blk_lt (by (with_reducible repeat (first | refine blk_drewN ?_ _ | refine blk_drew ?_)); exact H1.out))⟩
                              refine hK.out _ _ trivial (fun hHeld => ?_)
                              clear hK K
                              refine norm_ (a' := ?_) ?_ ?_
                              rotate_left
                              · show Act.put _ (some 47) _ = _
                                simp only [Act.put, List.setIfInBounds_toArray, List.set_cons_zero, List.set_cons_succ, i64_w, i32_w]
                                rfl
                              exact norm_ (by first | (simp only [putAll, Act.put, List.setIfInBounds_toArray, List.set_cons_zero, List.set_cons_succ]; done) | (simp only [putAll, Act.put, List.setIfInBounds_toArray, List.set_cons_zero, List.set_cons_succ]; rfl)) (hJ1_3 (g1, g2n, 0) _ ⟨HN3, HK3, HB3, H13, L1, H33, L33, N133⟩)
                            · skip
                              refine made_step ?hw (N := 49) ?hd (m := mny) ?hr ?_
                              (case hd => rfl)
                              (case hw => rfl)
                              (case hr => first | (go_simp; done) | (go_simp; rfl))
                              intro g3n hg_ w3 hbx hb
                              have HN3 : Aside0 (Blk w3 B #[.int .i64 0, .int .i64 0, .int .i64 0, .int .i64 0, .int .i64 0, .int .i64 0, .int .i64 0, .int .i64 0, .int .i64 0, .int .i64 0, .slice none 0 0, .slice none 0 0, .slice none 0 0] 29) := ⟨blk_below (by (with_reducible repeat (first | refine blk_drewN ?_ _ | refine blk_drew ?_)); exact HN.out) hb⟩
                              have HK3 : Aside0 (KeepBut wa w3 B none) := ⟨KeepBut.trans (by repeat (first | (with_reducible first | exact HK.out | apply keep_drewN | apply keep_drew) | exact HK.out)) (KeepBut.of_below hb _ none) (.inl rfl)⟩
                              have HB3 : Aside0 (Below w0.heap.size w0 w3) := ⟨below_step (by repeat (first | (with_reducible first | exact HB.out | apply below_alloc | apply pw_below_drewN | apply below_drew1) | exact HB.out)) hb⟩
                              have H13 : Aside0 (Blk w3 g1 (nums .i64 (List.replicate mny 0)).toArray 3) := ⟨blk_below (by (with_reducible repeat (first | refine blk_drewN ?_ _ | refine blk_drew ?_)); exact H1.out) hb⟩
                              have H53 : Aside0 (Blk w3 g3n (nums .i64 (List.replicate mny 0)).toArray 3) := ⟨hbx⟩
                              have L53 : Aside0 (wa.heap.size ≤ g3n) := ⟨by rw [hg_]; exact HK.out.1⟩
                              have N153 : Aside0 (g1 ≠ g3n) := ⟨by rw [hg_]; exact Nat.ne_of_lt (blk_lt (by (with_reducible repeat (first | refine blk_drewN ?_ _ | refine blk_drew ?_)); exact H1.out))⟩
                              refine hK.out _ _ trivial (fun hHeld => ?_)
                              clear hK K
                              refine norm_ (a' := ?_) ?_ ?_
                              rotate_left
                              · show Act.put _ (some 49) _ = _
                                simp only [Act.put, List.setIfInBounds_toArray, List.set_cons_zero, List.set_cons_succ, i64_w, i32_w]
                                rfl
                              exact norm_ (by first | (simp only [putAll, Act.put, List.setIfInBounds_toArray, List.set_cons_zero, List.set_cons_succ]; done) | (simp only [putAll, Act.put, List.setIfInBounds_toArray, List.set_cons_zero, List.set_cons_succ]; rfl)) (hJ1_5 (g1, 0, g3n) _ ⟨HN3, HK3, HB3, H13, L1, H53, L53, N153⟩)
                            · skip
                              have cN := HN.out.cell 10 rfl
                              have fN := HN.out.fr 10
                              refine skip_ (w1 := ?_) (by rfl) rfl ?_ ?_
                              rotate_left
                              · go_simp
                                rfl
                              have HN3 : Aside0 (Blk _ B #[.int .i64 0, .int .i64 0, .int .i64 0, .int .i64 0, .int .i64 0, .int .i64 0, .int .i64 0, .int .i64 0, .int .i64 0, .int .i64 0, .slice (some ⟨g1, 0, none⟩) mny mny, .slice none 0 0, .slice none 0 0] 29) := ⟨HN.out.set 10 (.slice (some ⟨g1, 0, none⟩) mny mny)⟩
                              have HK3 : Aside0 (KeepBut wa _ B none) := ⟨KeepBut.set_ HK.out 10 (.slice (some ⟨g1, 0, none⟩) mny mny)⟩
                              have HB3 : Aside0 (Below w0.heap.size w0 _) := ⟨HB.out.setCell (p := ⟨B, 10, none⟩) LB.out (.slice (some ⟨g1, 0, none⟩) mny mny)⟩
                              have H13 : Aside0 (Blk _ g1 (nums .i64 (List.replicate mny 0)).toArray 3) := ⟨H1.out.far ⟨B, 10, none⟩ (.slice (some ⟨g1, 0, none⟩) mny mny) (by have := L1.out; have := NB.out; show ¬ _ = B; omega)⟩
                              refine hK.out _ _ trivial (fun hHeld => ?_)
                              clear hK K
                              exact norm_ (by first | (simp only [putAll, Act.put, List.setIfInBounds_toArray, List.set_cons_zero, List.set_cons_succ]; done) | (simp only [putAll, Act.put, List.setIfInBounds_toArray, List.set_cons_zero, List.set_cons_succ]; rfl)) (hJ1_7 (g1, 0, 0) _ ⟨HN3, HK3, HB3, H13, L1⟩)
                        · skip
                          rintro ⟨g1, g2, g3⟩ w' ⟨HN, HK, HB, H3, L3, H5, L5, N35⟩
                          have hHeld : True := trivial
                          refine norm_ (a' := ?_) ?_ ?_
                          rotate_left
                          · simp only [putAll, Act.put, List.setIfInBounds_toArray, List.set_cons_zero, List.set_cons_succ]
                            rfl
                          refine one_ (i := 1) (N := some 45) #[true, true, true, true, true, true, false, false, false, false, false, false] rfl rfl (by kernel_rfl) (by decide) (fun K hK => ?_)
                          refine made_step ?hw (N := 45) ?hd (m := mny) ?hr ?_
                          (case hd => rfl)
                          (case hw => rfl)
                          (case hr => first | (go_simp; done) | (go_simp; rfl))
                          intro g1n hg_ w3 hbx hb
                          have HN3 : Aside0 (Blk w3 B #[.int .i64 0, .int .i64 0, .int .i64 0, .int .i64 0, .int .i64 0, .int .i64 0, .int .i64 0, .int .i64 0, .int .i64 0, .int .i64 0, .slice none 0 0, .slice none 0 0, .slice none 0 0] 29) := ⟨blk_below (by (with_reducible repeat (first | refine blk_drewN ?_ _ | refine blk_drew ?_)); exact HN.out) hb⟩
                          have HK3 : Aside0 (KeepBut wa w3 B none) := ⟨KeepBut.trans (by repeat (first | (with_reducible first | exact HK.out | apply keep_drewN | apply keep_drew) | exact HK.out)) (KeepBut.of_below hb _ none) (.inl rfl)⟩
                          have HB3 : Aside0 (Below w0.heap.size w0 w3) := ⟨below_step (by repeat (first | (with_reducible first | exact HB.out | apply below_alloc | apply pw_below_drewN | apply below_drew1) | exact HB.out)) hb⟩
                          have H33 : Aside0 (Blk w3 g2 (nums .i64 (List.replicate mny 0)).toArray 3) := ⟨blk_below (by (with_reducible repeat (first | refine blk_drewN ?_ _ | refine blk_drew ?_)); exact H3.out) hb⟩
                          have H53 : Aside0 (Blk w3 g3 (nums .i64 (List.replicate mny 0)).toArray 3) := ⟨blk_below (by (with_reducible repeat (first | refine blk_drewN ?_ _ | refine blk_drew ?_)); exact H5.out) hb⟩
                          have H13 : Aside0 (Blk w3 g1n (nums .i64 (List.replicate mny 0)).toArray 3) := ⟨hbx⟩
                          have L13 : Aside0 (wa.heap.size ≤ g1n) := ⟨by rw [hg_]; exact HK.out.1⟩
                          have N133 : Aside0 (g1n ≠ g2) := ⟨by rw [hg_]; exact Nat.ne_of_gt (blk_lt (by (with_reducible repeat (first | refine blk_drewN ?_ _ | refine blk_drew ?_)); exact H3.out))⟩
                          have N153 : Aside0 (g1n ≠ g3) := ⟨by rw [hg_]; exact Nat.ne_of_gt (blk_lt (by (with_reducible repeat (first | refine blk_drewN ?_ _ | refine blk_drew ?_)); exact H5.out))⟩
                          refine hK.out _ _ trivial (fun hHeld => ?_)
                          clear hK K
                          refine norm_ (a' := ?_) ?_ ?_
                          rotate_left
                          · show Act.put _ (some 45) _ = _
                            simp only [Act.put, List.setIfInBounds_toArray, List.set_cons_zero, List.set_cons_succ, i64_w, i32_w]
                            rfl
                          refine pure_ (i := 6) (N := some 50) (v := ?_) (a' := ?_) #[true, true, true, true, true, true, true, false, false, false, false, false] rfl rfl (by kernel_rfl) (fun _ _ _ h => h) (Or.inl ⟨by rfl, ?_⟩) ?_ ?_
                          rotate_left
                          · intro w'
                            go_simp
                            with_reducible rfl
                          rotate_left
                          · simp only [Act.put, List.setIfInBounds_toArray, List.set_cons_zero, List.set_cons_succ, i64_w, i32_w]
                            rfl
                          exact norm_ (by first | (simp only [putAll, Act.put, List.setIfInBounds_toArray, List.set_cons_zero, List.set_cons_succ]; done) | (simp only [putAll, Act.put, List.setIfInBounds_toArray, List.set_cons_zero, List.set_cons_succ]; rfl)) (hJ1_3_5 (g1n, g2, g3) _ ⟨HN3, HK3, HB3, H13, L13, H33, L3, H53, L5, N133, N153, N35⟩)
                      · skip
                        rintro ⟨g1, g2, g3⟩ w' ⟨HN, HK, HB, H1, L1⟩
                        have hHeld : True := trivial
                        refine norm_ (a' := ?_) ?_ ?_
                        rotate_left
                        · simp only [putAll, Act.put, List.setIfInBounds_toArray, List.set_cons_zero, List.set_cons_succ]
                          rfl
                        refine two_ (i := 3) (j := 5) (Ni := some 47) (Nj := some 49) #[true, true, true, true, true, false, true, true, false, false, false, false] #[true, true, true, false, true, true, true, true, false, false, false, false] rfl rfl rfl rfl (by kernel_rfl) (by decide) (by decide) (fun K hK => ?_) (fun K hK => ?_)
                        · skip
                          refine made_step ?hw (N := 47) ?hd (m := mny) ?hr ?_
                          (case hd => rfl)
                          (case hw => rfl)
                          (case hr => first | (go_simp; done) | (go_simp; rfl))
                          intro g2n hg_ w3 hbx hb
                          have HN3 : Aside0 (Blk w3 B #[.int .i64 0, .int .i64 0, .int .i64 0, .int .i64 0, .int .i64 0, .int .i64 0, .int .i64 0, .int .i64 0, .int .i64 0, .int .i64 0, .slice (some ⟨g1, 0, none⟩) mny mny, .slice none 0 0, .slice none 0 0] 29) := ⟨blk_below (by (with_reducible repeat (first | refine blk_drewN ?_ _ | refine blk_drew ?_)); exact HN.out) hb⟩
                          have HK3 : Aside0 (KeepBut wa w3 B none) := ⟨KeepBut.trans (by repeat (first | (with_reducible first | exact HK.out | apply keep_drewN | apply keep_drew) | exact HK.out)) (KeepBut.of_below hb _ none) (.inl rfl)⟩
                          have HB3 : Aside0 (Below w0.heap.size w0 w3) := ⟨below_step (by repeat (first | (with_reducible first | exact HB.out | apply below_alloc | apply pw_below_drewN | apply below_drew1) | exact HB.out)) hb⟩
                          have H13 : Aside0 (Blk w3 g1 (nums .i64 (List.replicate mny 0)).toArray 3) := ⟨blk_below (by (with_reducible repeat (first | refine blk_drewN ?_ _ | refine blk_drew ?_)); exact H1.out) hb⟩
                          have H33 : Aside0 (Blk w3 g2n (nums .i64 (List.replicate mny 0)).toArray 3) := ⟨hbx⟩
                          have L33 : Aside0 (wa.heap.size ≤ g2n) := ⟨by rw [hg_]; exact HK.out.1⟩
                          have N133 : Aside0 (g1 ≠ g2n) := ⟨by rw [hg_]; exact Nat.ne_of_lt (blk_lt (by (with_reducible repeat (first | refine blk_drewN ?_ _ | refine blk_drew ?_)); exact H1.out))⟩
                          refine hK.out _ _ trivial (fun hHeld => ?_)
                          clear hK K
                          refine norm_ (a' := ?_) ?_ ?_
                          rotate_left
                          · show Act.put _ (some 47) _ = _
                            simp only [Act.put, List.setIfInBounds_toArray, List.set_cons_zero, List.set_cons_succ, i64_w, i32_w]
                            rfl
                          refine pure_ (i := 8) (N := some 51) (v := ?_) (a' := ?_) #[true, true, true, true, true, false, true, true, true, false, false, false] rfl rfl (by kernel_rfl) (fun _ _ _ h => h) (Or.inl ⟨by rfl, ?_⟩) ?_ ?_
                          rotate_left
                          · intro w'
                            go_simp
                            with_reducible rfl
                          rotate_left
                          · simp only [Act.put, List.setIfInBounds_toArray, List.set_cons_zero, List.set_cons_succ, i64_w, i32_w]
                            rfl
                          exact norm_ (by first | (simp only [putAll, Act.put, List.setIfInBounds_toArray, List.set_cons_zero, List.set_cons_succ]; done) | (simp only [putAll, Act.put, List.setIfInBounds_toArray, List.set_cons_zero, List.set_cons_succ]; rfl)) (hJ1_3_7 (g1, g2n, 0) _ ⟨HN3, HK3, HB3, H13, L1, H33, L33, N133⟩)
                        · skip
                          refine made_step ?hw (N := 49) ?hd (m := mny) ?hr ?_
                          (case hd => rfl)
                          (case hw => rfl)
                          (case hr => first | (go_simp; done) | (go_simp; rfl))
                          intro g3n hg_ w3 hbx hb
                          have HN3 : Aside0 (Blk w3 B #[.int .i64 0, .int .i64 0, .int .i64 0, .int .i64 0, .int .i64 0, .int .i64 0, .int .i64 0, .int .i64 0, .int .i64 0, .int .i64 0, .slice (some ⟨g1, 0, none⟩) mny mny, .slice none 0 0, .slice none 0 0] 29) := ⟨blk_below (by (with_reducible repeat (first | refine blk_drewN ?_ _ | refine blk_drew ?_)); exact HN.out) hb⟩
                          have HK3 : Aside0 (KeepBut wa w3 B none) := ⟨KeepBut.trans (by repeat (first | (with_reducible first | exact HK.out | apply keep_drewN | apply keep_drew) | exact HK.out)) (KeepBut.of_below hb _ none) (.inl rfl)⟩
                          have HB3 : Aside0 (Below w0.heap.size w0 w3) := ⟨below_step (by repeat (first | (with_reducible first | exact HB.out | apply below_alloc | apply pw_below_drewN | apply below_drew1) | exact HB.out)) hb⟩
                          have H13 : Aside0 (Blk w3 g1 (nums .i64 (List.replicate mny 0)).toArray 3) := ⟨blk_below (by (with_reducible repeat (first | refine blk_drewN ?_ _ | refine blk_drew ?_)); exact H1.out) hb⟩
                          have H53 : Aside0 (Blk w3 g3n (nums .i64 (List.replicate mny 0)).toArray 3) := ⟨hbx⟩
                          have L53 : Aside0 (wa.heap.size ≤ g3n) := ⟨by rw [hg_]; exact HK.out.1⟩
                          have N153 : Aside0 (g1 ≠ g3n) := ⟨by rw [hg_]; exact Nat.ne_of_lt (blk_lt (by (with_reducible repeat (first | refine blk_drewN ?_ _ | refine blk_drew ?_)); exact H1.out))⟩
                          refine hK.out _ _ trivial (fun hHeld => ?_)
                          clear hK K
                          refine norm_ (a' := ?_) ?_ ?_
                          rotate_left
                          · show Act.put _ (some 49) _ = _
                            simp only [Act.put, List.setIfInBounds_toArray, List.set_cons_zero, List.set_cons_succ, i64_w, i32_w]
                            rfl
                          exact norm_ (by first | (simp only [putAll, Act.put, List.setIfInBounds_toArray, List.set_cons_zero, List.set_cons_succ]; done) | (simp only [putAll, Act.put, List.setIfInBounds_toArray, List.set_cons_zero, List.set_cons_succ]; rfl)) (hJ1_5_7 (g1, 0, g3n) _ ⟨HN3, HK3, HB3, H13, L1, H53, L53, N153⟩)
                    · skip
                      rintro ⟨g1, g2, g3⟩ w' ⟨HN, HK, HB, H1, L1, H5, L5, N15⟩
                      have hHeld : True := trivial
                      refine norm_ (a' := ?_) ?_ ?_
                      rotate_left
                      · simp only [putAll, Act.put, List.setIfInBounds_toArray, List.set_cons_zero, List.set_cons_succ]
                        rfl
                      refine two_ (i := 3) (j := 7) (Ni := some 47) (Nj := none) #[true, true, true, true, true, true, true, false, false, false, false, false] #[true, true, true, false, true, true, true, true, false, false, false, false] rfl rfl rfl rfl (by kernel_rfl) (by decide) (by decide) (fun K hK => ?_) (fun K hK => ?_)
                      · skip
                        refine made_step ?hw (N := 47) ?hd (m := mny) ?hr ?_
                        (case hd => rfl)
                        (case hw => rfl)
                        (case hr => first | (go_simp; done) | (go_simp; rfl))
                        intro g2n hg_ w3 hbx hb
                        have HN3 : Aside0 (Blk w3 B #[.int .i64 0, .int .i64 0, .int .i64 0, .int .i64 0, .int .i64 0, .int .i64 0, .int .i64 0, .int .i64 0, .int .i64 0, .int .i64 0, .slice none 0 0, .slice none 0 0, .slice none 0 0] 29) := ⟨blk_below (by (with_reducible repeat (first | refine blk_drewN ?_ _ | refine blk_drew ?_)); exact HN.out) hb⟩
                        have HK3 : Aside0 (KeepBut wa w3 B none) := ⟨KeepBut.trans (by repeat (first | (with_reducible first | exact HK.out | apply keep_drewN | apply keep_drew) | exact HK.out)) (KeepBut.of_below hb _ none) (.inl rfl)⟩
                        have HB3 : Aside0 (Below w0.heap.size w0 w3) := ⟨below_step (by repeat (first | (with_reducible first | exact HB.out | apply below_alloc | apply pw_below_drewN | apply below_drew1) | exact HB.out)) hb⟩
                        have H13 : Aside0 (Blk w3 g1 (nums .i64 (List.replicate mny 0)).toArray 3) := ⟨blk_below (by (with_reducible repeat (first | refine blk_drewN ?_ _ | refine blk_drew ?_)); exact H1.out) hb⟩
                        have H53 : Aside0 (Blk w3 g3 (nums .i64 (List.replicate mny 0)).toArray 3) := ⟨blk_below (by (with_reducible repeat (first | refine blk_drewN ?_ _ | refine blk_drew ?_)); exact H5.out) hb⟩
                        have H33 : Aside0 (Blk w3 g2n (nums .i64 (List.replicate mny 0)).toArray 3) := ⟨hbx⟩
                        have L33 : Aside0 (wa.heap.size ≤ g2n) := ⟨by rw [hg_]; exact HK.out.1⟩
                        have N133 : Aside0 (g1 ≠ g2n) := ⟨by rw [hg_]; exact Nat.ne_of_lt (blk_lt (by (with_reducible repeat (first | refine blk_drewN ?_ _ | refine blk_drew ?_)); exact H1.out))⟩
                        have N353 : Aside0 (g2n ≠ g3) := ⟨by rw [hg_]; exact Nat.ne_of_gt (blk_lt (by (with_reducible repeat (first | refine blk_drewN ?_ _ | refine blk_drew ?_)); exact H5.out))⟩
                        refine hK.out _ _ trivial (fun hHeld => ?_)
                        clear hK K
                        refine norm_ (a' := ?_) ?_ ?_
                        rotate_left
                        · show Act.put _ (some 47) _ = _
                          simp only [Act.put, List.setIfInBounds_toArray, List.set_cons_zero, List.set_cons_succ, i64_w, i32_w]
                          rfl
                        exact norm_ (by first | (simp only [putAll, Act.put, List.setIfInBounds_toArray, List.set_cons_zero, List.set_cons_succ]; done) | (simp only [putAll, Act.put, List.setIfInBounds_toArray, List.set_cons_zero, List.set_cons_succ]; rfl)) (hJ1_3_5 (g1, g2n, g3) _ ⟨HN3, HK3, HB3, H13, L1, H33, L33, H53, L5, N133, N15, N353⟩)
                      · skip
                        have cN := HN.out.cell 10 rfl
                        have fN := HN.out.fr 10
                        refine skip_ (w1 := ?_) (by rfl) rfl ?_ ?_
                        rotate_left
                        · go_simp
                          rfl
                        have HN3 : Aside0 (Blk _ B #[.int .i64 0, .int .i64 0, .int .i64 0, .int .i64 0, .int .i64 0, .int .i64 0, .int .i64 0, .int .i64 0, .int .i64 0, .int .i64 0, .slice (some ⟨g1, 0, none⟩) mny mny, .slice none 0 0, .slice none 0 0] 29) := ⟨HN.out.set 10 (.slice (some ⟨g1, 0, none⟩) mny mny)⟩
                        have HK3 : Aside0 (KeepBut wa _ B none) := ⟨KeepBut.set_ HK.out 10 (.slice (some ⟨g1, 0, none⟩) mny mny)⟩
                        have HB3 : Aside0 (Below w0.heap.size w0 _) := ⟨HB.out.setCell (p := ⟨B, 10, none⟩) LB.out (.slice (some ⟨g1, 0, none⟩) mny mny)⟩
                        have H13 : Aside0 (Blk _ g1 (nums .i64 (List.replicate mny 0)).toArray 3) := ⟨H1.out.far ⟨B, 10, none⟩ (.slice (some ⟨g1, 0, none⟩) mny mny) (by have := L1.out; have := NB.out; show ¬ _ = B; omega)⟩
                        have H53 : Aside0 (Blk _ g3 (nums .i64 (List.replicate mny 0)).toArray 3) := ⟨H5.out.far ⟨B, 10, none⟩ (.slice (some ⟨g1, 0, none⟩) mny mny) (by have := L5.out; have := NB.out; show ¬ _ = B; omega)⟩
                        refine hK.out _ _ trivial (fun hHeld => ?_)
                        clear hK K
                        exact norm_ (by first | (simp only [putAll, Act.put, List.setIfInBounds_toArray, List.set_cons_zero, List.set_cons_succ]; done) | (simp only [putAll, Act.put, List.setIfInBounds_toArray, List.set_cons_zero, List.set_cons_succ]; rfl)) (hJ1_5_7 (g1, 0, g3) _ ⟨HN3, HK3, HB3, H13, L1, H53, L5, N15⟩)
                  · skip
                    rintro ⟨g1, g2, g3⟩ w' ⟨HN, HK, HB, H1, L1, H3, L3, N13⟩
                    have hHeld : True := trivial
                    refine norm_ (a' := ?_) ?_ ?_
                    rotate_left
                    · simp only [putAll, Act.put, List.setIfInBounds_toArray, List.set_cons_zero, List.set_cons_succ]
                      rfl
                    refine two_ (i := 5) (j := 7) (Ni := some 49) (Nj := none) #[true, true, true, true, true, true, true, false, false, false, false, false] #[true, true, true, true, true, false, true, true, false, false, false, false] rfl rfl rfl rfl (by kernel_rfl) (by decide) (by decide) (fun K hK => ?_) (fun K hK => ?_)
                    · skip
                      refine made_step ?hw (N := 49) ?hd (m := mny) ?hr ?_
                      (case hd => rfl)
                      (case hw => rfl)
                      (case hr => first | (go_simp; done) | (go_simp; rfl))
                      intro g3n hg_ w3 hbx hb
                      have HN3 : Aside0 (Blk w3 B #[.int .i64 0, .int .i64 0, .int .i64 0, .int .i64 0, .int .i64 0, .int .i64 0, .int .i64 0, .int .i64 0, .int .i64 0, .int .i64 0, .slice none 0 0, .slice none 0 0, .slice none 0 0] 29) := ⟨blk_below (by (with_reducible repeat (first | refine blk_drewN ?_ _ | refine blk_drew ?_)); exact HN.out) hb⟩
                      have HK3 : Aside0 (KeepBut wa w3 B none) := ⟨KeepBut.trans (by repeat (first | (with_reducible first | exact HK.out | apply keep_drewN | apply keep_drew) | exact HK.out)) (KeepBut.of_below hb _ none) (.inl rfl)⟩
                      have HB3 : Aside0 (Below w0.heap.size w0 w3) := ⟨below_step (by repeat (first | (with_reducible first | exact HB.out | apply below_alloc | apply pw_below_drewN | apply below_drew1) | exact HB.out)) hb⟩
                      have H13 : Aside0 (Blk w3 g1 (nums .i64 (List.replicate mny 0)).toArray 3) := ⟨blk_below (by (with_reducible repeat (first | refine blk_drewN ?_ _ | refine blk_drew ?_)); exact H1.out) hb⟩
                      have H33 : Aside0 (Blk w3 g2 (nums .i64 (List.replicate mny 0)).toArray 3) := ⟨blk_below (by (with_reducible repeat (first | refine blk_drewN ?_ _ | refine blk_drew ?_)); exact H3.out) hb⟩
                      have H53 : Aside0 (Blk w3 g3n (nums .i64 (List.replicate mny 0)).toArray 3) := ⟨hbx⟩
                      have L53 : Aside0 (wa.heap.size ≤ g3n) := ⟨by rw [hg_]; exact HK.out.1⟩
                      have N153 : Aside0 (g1 ≠ g3n) := ⟨by rw [hg_]; exact Nat.ne_of_lt (blk_lt (by (with_reducible repeat (first | refine blk_drewN ?_ _ | refine blk_drew ?_)); exact H1.out))⟩
                      have N353 : Aside0 (g2 ≠ g3n) := ⟨by rw [hg_]; exact Nat.ne_of_lt (blk_lt (by (with_reducible repeat (first | refine blk_drewN ?_ _ | refine blk_drew ?_)); exact H3.out))⟩
                      refine hK.out _ _ trivial (fun hHeld => ?_)
                      clear hK K
                      refine norm_ (a' := ?_) ?_ ?_
                      rotate_left
                      · show Act.put _ (some 49) _ = _
                        simp only [Act.put, List.setIfInBounds_toArray, List.set_cons_zero, List.set_cons_succ, i64_w, i32_w]
                        rfl
                      exact norm_ (by first | (simp only [putAll, Act.put, List.setIfInBounds_toArray, List.set_cons_zero, List.set_cons_succ]; done) | (simp only [putAll, Act.put, List.setIfInBounds_toArray, List.set_cons_zero, List.set_cons_succ]; rfl)) (hJ1_3_5 (g1, g2, g3n) _ ⟨HN3, HK3, HB3, H13, L1, H33, L3, H53, L53, N13, N153, N353⟩)
                    · skip
                      have cN := HN.out.cell 10 rfl
                      have fN := HN.out.fr 10
                      refine skip_ (w1 := ?_) (by rfl) rfl ?_ ?_
                      rotate_left
                      · go_simp
                        rfl
                      have HN3 : Aside0 (Blk _ B #[.int .i64 0, .int .i64 0, .int .i64 0, .int .i64 0, .int .i64 0, .int .i64 0, .int .i64 0, .int .i64 0, .int .i64 0, .int .i64 0, .slice (some ⟨g1, 0, none⟩) mny mny, .slice none 0 0, .slice none 0 0] 29) := ⟨HN.out.set 10 (.slice (some ⟨g1, 0, none⟩) mny mny)⟩
                      have HK3 : Aside0 (KeepBut wa _ B none) := ⟨KeepBut.set_ HK.out 10 (.slice (some ⟨g1, 0, none⟩) mny mny)⟩
                      have HB3 : Aside0 (Below w0.heap.size w0 _) := ⟨HB.out.setCell (p := ⟨B, 10, none⟩) LB.out (.slice (some ⟨g1, 0, none⟩) mny mny)⟩
                      have H13 : Aside0 (Blk _ g1 (nums .i64 (List.replicate mny 0)).toArray 3) := ⟨H1.out.far ⟨B, 10, none⟩ (.slice (some ⟨g1, 0, none⟩) mny mny) (by have := L1.out; have := NB.out; show ¬ _ = B; omega)⟩
                      have H33 : Aside0 (Blk _ g2 (nums .i64 (List.replicate mny 0)).toArray 3) := ⟨H3.out.far ⟨B, 10, none⟩ (.slice (some ⟨g1, 0, none⟩) mny mny) (by have := L3.out; have := NB.out; show ¬ _ = B; omega)⟩
                      refine hK.out _ _ trivial (fun hHeld => ?_)
                      clear hK K
                      refine pure_ (i := 8) (N := some 51) (v := ?_) (a' := ?_) #[true, true, true, true, true, false, true, true, true, false, false, false] rfl rfl (by kernel_rfl) (fun _ _ _ h => h) (Or.inl ⟨by rfl, ?_⟩) ?_ ?_
                      rotate_left
                      · intro w'
                        go_simp
                        with_reducible rfl
                      rotate_left
                      · simp only [Act.put, List.setIfInBounds_toArray, List.set_cons_zero, List.set_cons_succ, i64_w, i32_w]
                        rfl
                      exact norm_ (by first | (simp only [putAll, Act.put, List.setIfInBounds_toArray, List.set_cons_zero, List.set_cons_succ]; done) | (simp only [putAll, Act.put, List.setIfInBounds_toArray, List.set_cons_zero, List.set_cons_succ]; rfl)) (hJ1_3_7 (g1, g2, 0) _ ⟨HN3, HK3, HB3, H13, L1, H33, L3, N13⟩)
                · skip
                  rintro ⟨g1, g2, g3⟩ w' ⟨HN, HK, HB, H1, L1, H5, L5, N15⟩
                  have hHeld : True := trivial
                  refine norm_ (a' := ?_) ?_ ?_
                  rotate_left
                  · simp only [putAll, Act.put, List.setIfInBounds_toArray, List.set_cons_zero, List.set_cons_succ]
                    rfl
                  refine one_ (i := 3) (N := some 47) #[true, true, true, true, true, true, true, true, false, false, false, false] rfl rfl (by kernel_rfl) (by decide) (fun K hK => ?_)
                  refine made_step ?hw (N := 47) ?hd (m := mny) ?hr ?_
                  (case hd => rfl)
                  (case hw => rfl)
                  (case hr => first | (go_simp; done) | (go_simp; rfl))
                  intro g2n hg_ w3 hbx hb
                  have HN3 : Aside0 (Blk w3 B #[.int .i64 0, .int .i64 0, .int .i64 0, .int .i64 0, .int .i64 0, .int .i64 0, .int .i64 0, .int .i64 0, .int .i64 0, .int .i64 0, .slice (some ⟨g1, 0, none⟩) mny mny, .slice none 0 0, .slice none 0 0] 29) := ⟨blk_below (by (with_reducible repeat (first | refine blk_drewN ?_ _ | refine blk_drew ?_)); exact HN.out) hb⟩
                  have HK3 : Aside0 (KeepBut wa w3 B none) := ⟨KeepBut.trans (by repeat (first | (with_reducible first | exact HK.out | apply keep_drewN | apply keep_drew) | exact HK.out)) (KeepBut.of_below hb _ none) (.inl rfl)⟩
                  have HB3 : Aside0 (Below w0.heap.size w0 w3) := ⟨below_step (by repeat (first | (with_reducible first | exact HB.out | apply below_alloc | apply pw_below_drewN | apply below_drew1) | exact HB.out)) hb⟩
                  have H13 : Aside0 (Blk w3 g1 (nums .i64 (List.replicate mny 0)).toArray 3) := ⟨blk_below (by (with_reducible repeat (first | refine blk_drewN ?_ _ | refine blk_drew ?_)); exact H1.out) hb⟩
                  have H53 : Aside0 (Blk w3 g3 (nums .i64 (List.replicate mny 0)).toArray 3) := ⟨blk_below (by (with_reducible repeat (first | refine blk_drewN ?_ _ | refine blk_drew ?_)); exact H5.out) hb⟩
                  have H33 : Aside0 (Blk w3 g2n (nums .i64 (List.replicate mny 0)).toArray 3) := ⟨hbx⟩
                  have L33 : Aside0 (wa.heap.size ≤ g2n) := ⟨by rw [hg_]; exact HK.out.1⟩
                  have N133 : Aside0 (g1 ≠ g2n) := ⟨by rw [hg_]; exact Nat.ne_of_lt (blk_lt (by (with_reducible repeat (first | refine blk_drewN ?_ _ | refine blk_drew ?_)); exact H1.out))⟩
                  have N353 : Aside0 (g2n ≠ g3) := ⟨by rw [hg_]; exact Nat.ne_of_gt (blk_lt (by (with_reducible repeat (first | refine blk_drewN ?_ _ | refine blk_drew ?_)); exact H5.out))⟩
                  refine hK.out _ _ trivial (fun hHeld => ?_)
                  clear hK K
                  refine norm_ (a' := ?_) ?_ ?_
                  rotate_left
                  · show Act.put _ (some 47) _ = _
                    simp only [Act.put, List.setIfInBounds_toArray, List.set_cons_zero, List.set_cons_succ, i64_w, i32_w]
                    rfl
                  refine pure_ (i := 8) (N := some 51) (v := ?_) (a' := ?_) #[true, true, true, true, true, true, true, true, true, false, false, false] rfl rfl (by kernel_rfl) (fun _ _ _ h => h) (Or.inl ⟨by rfl, ?_⟩) ?_ ?_
                  rotate_left
                  · intro w'
                    go_simp
                    with_reducible rfl
                  rotate_left
                  · simp only [Act.put, List.setIfInBounds_toArray, List.set_cons_zero, List.set_cons_succ, i64_w, i32_w]
                    rfl
                  exact norm_ (by first | (simp only [putAll, Act.put, List.setIfInBounds_toArray, List.set_cons_zero, List.set_cons_succ]; done) | (simp only [putAll, Act.put, List.setIfInBounds_toArray, List.set_cons_zero, List.set_cons_succ]; rfl)) (hJ1_3_5_7 (g1, g2n, g3) _ ⟨HN3, HK3, HB3, H13, L1, H33, L33, H53, L5, N133, N15, N353⟩)
              · skip
                rintro ⟨g1, g2, g3⟩ w' ⟨HN, HK, HB, H1, L1, H3, L3, N13⟩
                have hHeld : True := trivial
                refine norm_ (a' := ?_) ?_ ?_
                rotate_left
                · simp only [putAll, Act.put, List.setIfInBounds_toArray, List.set_cons_zero, List.set_cons_succ]
                  rfl
                refine two_ (i := 5) (j := 9) (Ni := some 49) (Nj := none) #[true, true, true, true, true, true, true, true, true, false, false, false] #[true, true, true, true, true, false, true, true, true, true, false, false] rfl rfl rfl rfl (by kernel_rfl) (by decide) (by decide) (fun K hK => ?_) (fun K hK => ?_)
                · skip
                  refine made_step ?hw (N := 49) ?hd (m := mny) ?hr ?_
                  (case hd => rfl)
                  (case hw => rfl)
                  (case hr => first | (go_simp; done) | (go_simp; rfl))
                  intro g3n hg_ w3 hbx hb
                  have HN3 : Aside0 (Blk w3 B #[.int .i64 0, .int .i64 0, .int .i64 0, .int .i64 0, .int .i64 0, .int .i64 0, .int .i64 0, .int .i64 0, .int .i64 0, .int .i64 0, .slice (some ⟨g1, 0, none⟩) mny mny, .slice none 0 0, .slice none 0 0] 29) := ⟨blk_below (by (with_reducible repeat (first | refine blk_drewN ?_ _ | refine blk_drew ?_)); exact HN.out) hb⟩
                  have HK3 : Aside0 (KeepBut wa w3 B none) := ⟨KeepBut.trans (by repeat (first | (with_reducible first | exact HK.out | apply keep_drewN | apply keep_drew) | exact HK.out)) (KeepBut.of_below hb _ none) (.inl rfl)⟩
                  have HB3 : Aside0 (Below w0.heap.size w0 w3) := ⟨below_step (by repeat (first | (with_reducible first | exact HB.out | apply below_alloc | apply pw_below_drewN | apply below_drew1) | exact HB.out)) hb⟩
                  have H13 : Aside0 (Blk w3 g1 (nums .i64 (List.replicate mny 0)).toArray 3) := ⟨blk_below (by (with_reducible repeat (first | refine blk_drewN ?_ _ | refine blk_drew ?_)); exact H1.out) hb⟩
                  have H33 : Aside0 (Blk w3 g2 (nums .i64 (List.replicate mny 0)).toArray 3) := ⟨blk_below (by (with_reducible repeat (first | refine blk_drewN ?_ _ | refine blk_drew ?_)); exact H3.out) hb⟩
                  have H53 : Aside0 (Blk w3 g3n (nums .i64 (List.replicate mny 0)).toArray 3) := ⟨hbx⟩
                  have L53 : Aside0 (wa.heap.size ≤ g3n) := ⟨by rw [hg_]; exact HK.out.1⟩
                  have N153 : Aside0 (g1 ≠ g3n) := ⟨by rw [hg_]; exact Nat.ne_of_lt (blk_lt (by (with_reducible repeat (first | refine blk_drewN ?_ _ | refine blk_drew ?_)); exact H1.out))⟩
                  have N353 : Aside0 (g2 ≠ g3n) := ⟨by rw [hg_]; exact Nat.ne_of_lt (blk_lt (by (with_reducible repeat (first | refine blk_drewN ?_ _ | refine blk_drew ?_)); exact H3.out))⟩
                  refine hK.out _ _ trivial (fun hHeld => ?_)
                  clear hK K
                  refine norm_ (a' := ?_) ?_ ?_
                  rotate_left
                  · show Act.put _ (some 49) _ = _
                    simp only [Act.put, List.setIfInBounds_toArray, List.set_cons_zero, List.set_cons_succ, i64_w, i32_w]
                    rfl
                  exact norm_ (by first | (simp only [putAll, Act.put, List.setIfInBounds_toArray, List.set_cons_zero, List.set_cons_succ]; done) | (simp only [putAll, Act.put, List.setIfInBounds_toArray, List.set_cons_zero, List.set_cons_succ]; rfl)) (hJ1_3_5_7 (g1, g2, g3n) _ ⟨HN3, HK3, HB3, H13, L1, H33, L3, H53, L53, N13, N153, N353⟩)
                · skip
                  have cN := HN.out.cell 11 rfl
                  have fN := HN.out.fr 11
                  refine skip_ (w1 := ?_) (by rfl) rfl ?_ ?_
                  rotate_left
                  · go_simp
                    rfl
                  have HN3 : Aside0 (Blk _ B #[.int .i64 0, .int .i64 0, .int .i64 0, .int .i64 0, .int .i64 0, .int .i64 0, .int .i64 0, .int .i64 0, .int .i64 0, .int .i64 0, .slice (some ⟨g1, 0, none⟩) mny mny, .slice (some ⟨g2, 0, none⟩) mny mny, .slice none 0 0] 29) := ⟨HN.out.set 11 (.slice (some ⟨g2, 0, none⟩) mny mny)⟩
                  have HK3 : Aside0 (KeepBut wa _ B none) := ⟨KeepBut.set_ HK.out 11 (.slice (some ⟨g2, 0, none⟩) mny mny)⟩
                  have HB3 : Aside0 (Below w0.heap.size w0 _) := ⟨HB.out.setCell (p := ⟨B, 11, none⟩) LB.out (.slice (some ⟨g2, 0, none⟩) mny mny)⟩
                  have H13 : Aside0 (Blk _ g1 (nums .i64 (List.replicate mny 0)).toArray 3) := ⟨H1.out.far ⟨B, 11, none⟩ (.slice (some ⟨g2, 0, none⟩) mny mny) (by have := L1.out; have := NB.out; show ¬ _ = B; omega)⟩
                  have H33 : Aside0 (Blk _ g2 (nums .i64 (List.replicate mny 0)).toArray 3) := ⟨H3.out.far ⟨B, 11, none⟩ (.slice (some ⟨g2, 0, none⟩) mny mny) (by have := L3.out; have := NB.out; show ¬ _ = B; omega)⟩
                  refine hK.out _ _ trivial (fun hHeld => ?_)
                  clear hK K
                  exact norm_ (by first | (simp only [putAll, Act.put, List.setIfInBounds_toArray, List.set_cons_zero, List.set_cons_succ]; done) | (simp only [putAll, Act.put, List.setIfInBounds_toArray, List.set_cons_zero, List.set_cons_succ]; rfl)) (hJ1_3_7_9 (g1, g2, 0) _ ⟨HN3, HK3, HB3, H13, L1, H33, L3, N13⟩)
            · skip
              rintro ⟨g1, g2, g3⟩ w' ⟨HN, HK, HB, H1, L1, H3, L3, H5, L5, N13, N15, N35⟩
              have hHeld : True := trivial
              refine norm_ (a' := ?_) ?_ ?_
              rotate_left
              · simp only [putAll, Act.put, List.setIfInBounds_toArray, List.set_cons_zero, List.set_cons_succ]
                rfl
              refine one_ (i := 7) (N := none) #[true, true, true, true, true, true, true, true, false, false, false, false] rfl rfl (by kernel_rfl) (by decide) (fun K hK => ?_)
              have cN := HN.out.cell 10 rfl
              have fN := HN.out.fr 10
              refine skip_ (w1 := ?_) (by rfl) rfl ?_ ?_
              rotate_left
              · go_simp
                rfl
              have HN3 : Aside0 (Blk _ B #[.int .i64 0, .int .i64 0, .int .i64 0, .int .i64 0, .int .i64 0, .int .i64 0, .int .i64 0, .int .i64 0, .int .i64 0, .int .i64 0, .slice (some ⟨g1, 0, none⟩) mny mny, .slice none 0 0, .slice none 0 0] 29) := ⟨HN.out.set 10 (.slice (some ⟨g1, 0, none⟩) mny mny)⟩
              have HK3 : Aside0 (KeepBut wa _ B none) := ⟨KeepBut.set_ HK.out 10 (.slice (some ⟨g1, 0, none⟩) mny mny)⟩
              have HB3 : Aside0 (Below w0.heap.size w0 _) := ⟨HB.out.setCell (p := ⟨B, 10, none⟩) LB.out (.slice (some ⟨g1, 0, none⟩) mny mny)⟩
              have H13 : Aside0 (Blk _ g1 (nums .i64 (List.replicate mny 0)).toArray 3) := ⟨H1.out.far ⟨B, 10, none⟩ (.slice (some ⟨g1, 0, none⟩) mny mny) (by have := L1.out; have := NB.out; show ¬ _ = B; omega)⟩
              have H33 : Aside0 (Blk _ g2 (nums .i64 (List.replicate mny 0)).toArray 3) := ⟨H3.out.far ⟨B, 10, none⟩ (.slice (some ⟨g1, 0, none⟩) mny mny) (by have := L3.out; have := NB.out; show ¬ _ = B; omega)⟩
              have H53 : Aside0 (Blk _ g3 (nums .i64 (List.replicate mny 0)).toArray 3) := ⟨H5.out.far ⟨B, 10, none⟩ (.slice (some ⟨g1, 0, none⟩) mny mny) (by have := L5.out; have := NB.out; show ¬ _ = B; omega)⟩
              refine hK.out _ _ trivial (fun hHeld => ?_)
              clear hK K
              refine pure_ (i := 8) (N := some 51) (v := ?_) (a' := ?_) #[true, true, true, true, true, true, true, true, true, false, false, false] rfl rfl (by kernel_rfl) (fun _ _ _ h => h) (Or.inl ⟨by rfl, ?_⟩) ?_ ?_
              rotate_left
              · intro w'
                go_simp
                with_reducible rfl
              rotate_left
              · simp only [Act.put, List.setIfInBounds_toArray, List.set_cons_zero, List.set_cons_succ, i64_w, i32_w]
                rfl
              exact norm_ (by first | (simp only [putAll, Act.put, List.setIfInBounds_toArray, List.set_cons_zero, List.set_cons_succ]; done) | (simp only [putAll, Act.put, List.setIfInBounds_toArray, List.set_cons_zero, List.set_cons_succ]; rfl)) (hJ1_3_5_7 (g1, g2, g3) _ ⟨HN3, HK3, HB3, H13, L1, H33, L3, H53, L5, N13, N15, N35⟩)
          · skip
            rintro ⟨g1, g2, g3⟩ w' ⟨HN, HK, HB, H1, L1, H3, L3, N13⟩
            have hHeld : True := trivial
            refine norm_ (a' := ?_) ?_ ?_
            rotate_left
            · simp only [putAll, Act.put, List.setIfInBounds_toArray, List.set_cons_zero, List.set_cons_succ]
              rfl
            refine one_ (i := 5) (N := some 49) #[true, true, true, true, true, true, true, true, true, true, false, false] rfl rfl (by kernel_rfl) (by decide) (fun K hK => ?_)
            refine made_step ?hw (N := 49) ?hd (m := mny) ?hr ?_
            (case hd => rfl)
            (case hw => rfl)
            (case hr => first | (go_simp; done) | (go_simp; rfl))
            intro g3n hg_ w3 hbx hb
            have HN3 : Aside0 (Blk w3 B #[.int .i64 0, .int .i64 0, .int .i64 0, .int .i64 0, .int .i64 0, .int .i64 0, .int .i64 0, .int .i64 0, .int .i64 0, .int .i64 0, .slice (some ⟨g1, 0, none⟩) mny mny, .slice (some ⟨g2, 0, none⟩) mny mny, .slice none 0 0] 29) := ⟨blk_below (by (with_reducible repeat (first | refine blk_drewN ?_ _ | refine blk_drew ?_)); exact HN.out) hb⟩
            have HK3 : Aside0 (KeepBut wa w3 B none) := ⟨KeepBut.trans (by repeat (first | (with_reducible first | exact HK.out | apply keep_drewN | apply keep_drew) | exact HK.out)) (KeepBut.of_below hb _ none) (.inl rfl)⟩
            have HB3 : Aside0 (Below w0.heap.size w0 w3) := ⟨below_step (by repeat (first | (with_reducible first | exact HB.out | apply below_alloc | apply pw_below_drewN | apply below_drew1) | exact HB.out)) hb⟩
            have H13 : Aside0 (Blk w3 g1 (nums .i64 (List.replicate mny 0)).toArray 3) := ⟨blk_below (by (with_reducible repeat (first | refine blk_drewN ?_ _ | refine blk_drew ?_)); exact H1.out) hb⟩
            have H33 : Aside0 (Blk w3 g2 (nums .i64 (List.replicate mny 0)).toArray 3) := ⟨blk_below (by (with_reducible repeat (first | refine blk_drewN ?_ _ | refine blk_drew ?_)); exact H3.out) hb⟩
            have H53 : Aside0 (Blk w3 g3n (nums .i64 (List.replicate mny 0)).toArray 3) := ⟨hbx⟩
            have L53 : Aside0 (wa.heap.size ≤ g3n) := ⟨by rw [hg_]; exact HK.out.1⟩
            have N153 : Aside0 (g1 ≠ g3n) := ⟨by rw [hg_]; exact Nat.ne_of_lt (blk_lt (by (with_reducible repeat (first | refine blk_drewN ?_ _ | refine blk_drew ?_)); exact H1.out))⟩
            have N353 : Aside0 (g2 ≠ g3n) := ⟨by rw [hg_]; exact Nat.ne_of_lt (blk_lt (by (with_reducible repeat (first | refine blk_drewN ?_ _ | refine blk_drew ?_)); exact H3.out))⟩
            refine hK.out _ _ trivial (fun hHeld => ?_)
            clear hK K
            refine norm_ (a' := ?_) ?_ ?_
            rotate_left
            · show Act.put _ (some 49) _ = _
              simp only [Act.put, List.setIfInBounds_toArray, List.set_cons_zero, List.set_cons_succ, i64_w, i32_w]
              rfl
            exact norm_ (by first | (simp only [putAll, Act.put, List.setIfInBounds_toArray, List.set_cons_zero, List.set_cons_succ]; done) | (simp only [putAll, Act.put, List.setIfInBounds_toArray, List.set_cons_zero, List.set_cons_succ]; rfl)) (hJ1_3_5_7_9 (g1, g2, g3n) _ ⟨HN3, HK3, HB3, H13, L1, H33, L3, H53, L53, N13, N153, N353⟩)
        · skip
          rintro ⟨g1, g2, g3⟩ w' ⟨HN, HK, HB, H1, L1, H3, L3, H5, L5, N13, N15, N35⟩
          have hHeld : True := trivial
          refine norm_ (a' := ?_) ?_ ?_
          rotate_left
          · simp only [putAll, Act.put, List.setIfInBounds_toArray, List.set_cons_zero, List.set_cons_succ]
            rfl
          refine one_ (i := 9) (N := none) #[true, true, true, true, true, true, true, true, true, true, false, false] rfl rfl (by kernel_rfl) (by decide) (fun K hK => ?_)
          have cN := HN.out.cell 11 rfl
          have fN := HN.out.fr 11
          refine skip_ (w1 := ?_) (by rfl) rfl ?_ ?_
          rotate_left
          · go_simp
            rfl
          have HN3 : Aside0 (Blk _ B #[.int .i64 0, .int .i64 0, .int .i64 0, .int .i64 0, .int .i64 0, .int .i64 0, .int .i64 0, .int .i64 0, .int .i64 0, .int .i64 0, .slice (some ⟨g1, 0, none⟩) mny mny, .slice (some ⟨g2, 0, none⟩) mny mny, .slice none 0 0] 29) := ⟨HN.out.set 11 (.slice (some ⟨g2, 0, none⟩) mny mny)⟩
          have HK3 : Aside0 (KeepBut wa _ B none) := ⟨KeepBut.set_ HK.out 11 (.slice (some ⟨g2, 0, none⟩) mny mny)⟩
          have HB3 : Aside0 (Below w0.heap.size w0 _) := ⟨HB.out.setCell (p := ⟨B, 11, none⟩) LB.out (.slice (some ⟨g2, 0, none⟩) mny mny)⟩
          have H13 : Aside0 (Blk _ g1 (nums .i64 (List.replicate mny 0)).toArray 3) := ⟨H1.out.far ⟨B, 11, none⟩ (.slice (some ⟨g2, 0, none⟩) mny mny) (by have := L1.out; have := NB.out; show ¬ _ = B; omega)⟩
          have H33 : Aside0 (Blk _ g2 (nums .i64 (List.replicate mny 0)).toArray 3) := ⟨H3.out.far ⟨B, 11, none⟩ (.slice (some ⟨g2, 0, none⟩) mny mny) (by have := L3.out; have := NB.out; show ¬ _ = B; omega)⟩
          have H53 : Aside0 (Blk _ g3 (nums .i64 (List.replicate mny 0)).toArray 3) := ⟨H5.out.far ⟨B, 11, none⟩ (.slice (some ⟨g2, 0, none⟩) mny mny) (by have := L5.out; have := NB.out; show ¬ _ = B; omega)⟩
          refine hK.out _ _ trivial (fun hHeld => ?_)
          clear hK K
          exact norm_ (by first | (simp only [putAll, Act.put, List.setIfInBounds_toArray, List.set_cons_zero, List.set_cons_succ]; done) | (simp only [putAll, Act.put, List.setIfInBounds_toArray, List.set_cons_zero, List.set_cons_succ]; rfl)) (hJ1_3_5_7_9 (g1, g2, g3) _ ⟨HN3, HK3, HB3, H13, L1, H33, L3, H53, L5, N13, N15, N35⟩)
      rintro ⟨g1, g2, g3⟩ w' ⟨HN, HK, HB, H1, L1, H3, L3, H5, L5, N13, N15, N35⟩
      have hHeld : True := trivial
      refine norm_ (a' := ?_) ?_ ?_
      rotate_left
      · simp only [putAll, Act.put, List.setIfInBounds_toArray, List.set_cons_zero, List.set_cons_succ]
        rfl
      refine pure_ (i := 10) (N := some 52) (v := ?_) (a' := ?_) #[true, true, true, true, true, true, true, true, true, true, true, false] rfl rfl (by kernel_rfl) (fun _ _ _ h => h) (Or.inl ⟨by rfl, ?_⟩) ?_ ?_
      rotate_left
      · intro w'
        go_simp
        with_reducible rfl
      rotate_left
      · simp only [Act.put, List.setIfInBounds_toArray, List.set_cons_zero, List.set_cons_succ, i64_w, i32_w]
        rfl
      refine one_ (i := 11) (N := none) #[true, true, true, true, true, true, true, true, true, true, true, true] rfl rfl (by kernel_rfl) (by decide) (fun K hK => ?_)
      have cN := HN.out.cell 12 rfl
      have fN := HN.out.fr 12
      refine skip_ (w1 := ?_) (by rfl) rfl ?_ ?_
      rotate_left
      · go_simp
        rfl
      have HN3 : Aside0 (Blk _ B #[.int .i64 0, .int .i64 0, .int .i64 0, .int .i64 0, .int .i64 0, .int .i64 0, .int .i64 0, .int .i64 0, .int .i64 0, .int .i64 0, .slice (some ⟨g1, 0, none⟩) mny mny, .slice (some ⟨g2, 0, none⟩) mny mny, .slice (some ⟨g3, 0, none⟩) mny mny] 29) := ⟨HN.out.set 12 (.slice (some ⟨g3, 0, none⟩) mny mny)⟩
      have HK3 : Aside0 (KeepBut wa _ B none) := ⟨KeepBut.set_ HK.out 12 (.slice (some ⟨g3, 0, none⟩) mny mny)⟩
      have HB3 : Aside0 (Below w0.heap.size w0 _) := ⟨HB.out.setCell (p := ⟨B, 12, none⟩) LB.out (.slice (some ⟨g3, 0, none⟩) mny mny)⟩
      have H13 : Aside0 (Blk _ g1 (nums .i64 (List.replicate mny 0)).toArray 3) := ⟨H1.out.far ⟨B, 12, none⟩ (.slice (some ⟨g3, 0, none⟩) mny mny) (by have := L1.out; have := NB.out; show ¬ _ = B; omega)⟩
      have H33 : Aside0 (Blk _ g2 (nums .i64 (List.replicate mny 0)).toArray 3) := ⟨H3.out.far ⟨B, 12, none⟩ (.slice (some ⟨g3, 0, none⟩) mny mny) (by have := L3.out; have := NB.out; show ¬ _ = B; omega)⟩
      have H53 : Aside0 (Blk _ g3 (nums .i64 (List.replicate mny 0)).toArray 3) := ⟨H5.out.far ⟨B, 12, none⟩ (.slice (some ⟨g3, 0, none⟩) mny mny) (by have := L5.out; have := NB.out; show ¬ _ = B; omega)⟩
      refine hK.out _ _ trivial (fun hHeld => ?_)
      clear hK K
      refine done_ (by kernel_rfl) ?_
      -- END10
      obtain ⟨wb, hwb⟩ : ∃ X_, w'.setCell ⟨B, 12, none⟩ (.slice (some ⟨g3, 0, none⟩) mny mny) = X_ := ⟨_, rfl⟩
      rw [hwb] at HN3 HK3 HB3 H13 H33 H53 ⊢
      have hq2 : B + 1 < wa.heap.size := HQ.out.lt
      have CT : Aside0 (CtW w0.heap.size w0 B (.slice (some ⟨g1, 0, none⟩) mny mny) (.slice (some ⟨g2, 0, none⟩) mny mny) (.slice (some ⟨g3, 0, none⟩) mny mny) mny (zer6, List.replicate mny 0, List.replicate mny 0, List.replicate mny 0) wb) :=
        ⟨HK3.out.blk HR.out (by have := HLT.out; omega) (by simp), HN3.out, HK3.out.blk HQ.out (by omega) (by simp), .inr ⟨g1, by simp, by have := L1.out; omega, H13.out⟩, .inr ⟨g2, by simp, by have := L3.out; omega, H33.out⟩, .inr ⟨g3, by simp, by have := L5.out; omega, H53.out⟩,
          by
            intro k
            simp only [Value.ownBlock, Option.some.injEq, ne_eq]
            have := N13.out; have := N15.out; have := N35.out
            exact ⟨fun e => ⟨by omega, by omega⟩, fun e => by omega⟩,
          HB3.out, HLT.out, rfl, by simp, by simp, by simp⟩
      clear HN3 HK3 HB3 H13 H33 H53 hwb
      go_wp2_with fail
      go_meet
      case rel => exact ⟨_, _, _, CT⟩
    · have d0 : decide (0 < (l0.length : Int)) = false := decide_eq_false (by omega)
      have d0n : decide (0 < l0.length) = false := decide_eq_false hn
      rw [if_neg hn] at hm
      subst hm
      go_wp2_with fail
      go_meet
      case rel => exact ⟨_, _, _, ⟨HR.out, HN.out, HQ.out, .inl ⟨rfl, rfl⟩, .inl ⟨rfl, rfl⟩, .inl ⟨rfl, rfl⟩, by intro k; simp [Value.ownBlock], HB.out, HLT.out, rfl, rfl, rfl, rfl⟩⟩
  case rest =>
    obtain ⟨va, vb, vc, CT⟩ := hcut
    clear HN HK HB HR HQ HLT LB NB cl
    have cl := (lbox HW0.out CT.out.k).cell
    go_upto_region 12 with (fail)
    go_wp2_with fail
    go_loopw [55] (fun v55 wr => ∃ (ii : Nat) (st : List Int × R3), v55 = .int .i64 ii ∧ ii ≤ l0.length ∧ Aside0 (cntV wd (l0.drop ii) st = cntV wd l0 (zer6, List.replicate mny 0, List.replicate mny 0, List.replicate mny 0)) ∧ Aside0 (CtW w0.heap.size w0 B va vb vc mny st wr)) (fun v55 _ => l0.length - (intOf v55).toNat)
    case atStart => exact ⟨0, _, rfl, by omega, ⟨by simp⟩, CT⟩
    case round =>
      obtain ⟨ii, st, rfl, hii, hst, hrc⟩ := hrel
      by_cases hlt : ii < l0.length
      · have hc : decide ((ii : Int) < (l0.length : Int)) = true := decide_eq_true (by omega)
        obtain ⟨ad, A1, c1, A2, c2, ea, x0, x1, x2, x3, x4, x5, l1, g1', l2, g2'⟩ := at_T41 HC.out (ii : Int) (by omega) (by omega)
        replace x0 := ((base0 HW0.out hrc.out.k).cell (World.block_lt_of_cell? w _ x0)).trans x0
        replace x1 := ((base0 HW0.out hrc.out.k).cell (World.block_lt_of_cell? w _ x1)).trans x1
        replace x2 := ((base0 HW0.out hrc.out.k).cell (World.block_lt_of_cell? w _ x2)).trans x2
        replace x3 := ((base0 HW0.out hrc.out.k).cell (World.block_lt_of_cell? w _ x3)).trans x3
        replace x4 := ((base0 HW0.out hrc.out.k).cell (World.block_lt_of_cell? w _ x4)).trans x4
        replace x5 := ((base0 HW0.out hrc.out.k).cell (World.block_lt_of_cell? w _ x5)).trans x5
        have hf := hst.out
        rw [Pure.dropV l0 ii hlt] at hf
        have hok := OK.out.v _ (Pure.memV l0 ii hlt)
        have hpl := (HV.out _ (Pure.memV l0 ii hlt)).2.1
        obtain ⟨p, hp⟩ : ∃ p, rd_T41 l0 (ii : Int) = p := ⟨_, rfl⟩
        rw [hp] at x0 x1 x2 x3 x4 x5 l1 l2 g1' g2' hf hok hpl
        rw [Int.toNat_natCast] at x0 x1 x2 x3 x4 x5
        rw [if_pos (show 0 < l0.length by omega)] at hm
        rw [hm] at hok
        cases ea
        have G1 := Aside0.mk g1'
        have G2 := Aside0.mk g2'
        have HF := Aside0.mk hf
        have OKP := Aside0.mk hok
        clear g1' g2' hf hok hp hst
        go_upto_region 14 with (fail)
        obtain ⟨bv, hbv⟩ : ∃ X_, wr.heap.size = X_ := ⟨_, rfl⟩
        obtain ⟨wv, hwv⟩ : ∃ X_, wr.alloc (.cells #[.int .i64 p.f0, .slice A1 p.f1.length c1, .slice A2 p.f2.length c2, .int .u64 p.f3, .int .u64 p.f4, .int .i64 p.f5] 41) = X_ := ⟨_, rfl⟩
        rw [hwv, hbv]
        have hV : Blk wv bv #[.int .i64 p.f0, .slice A1 p.f1.length c1, .slice A2 p.f2.length c2, .int .u64 p.f3, .int .u64 p.f4, .int .i64 p.f5] 41 := by rw [← hwv, ← hbv]; exact Blk.new wr _ _
        have hT : CtW w0.heap.size w0 B va vb vc mny st wv := by rw [← hwv]; exact hrc.out.alloc _
        have HVV := Aside0.mk hV
        have HT := Aside0.mk hT
        clear hV hT hwv hbv hrc x0 x1 x2 x3 x4 x5
        have y1 := HVV.out.cell 1 rfl
        go_wp2_with fail
        go_loopw [62] (fun v62 wi => ∃ (j : Nat) (r : List Int), v62 = .int .i64 j ∧ j ≤ p.f1.length ∧ Aside0 (repF r (p.f1.drop j) = repF st.1 p.f1) ∧ Aside0 (CtW w0.heap.size w0 B va vb vc mny (r, st.2) wi) ∧ Aside0 (Blk wi bv #[.int .i64 p.f0, .slice A1 p.f1.length c1, .slice A2 p.f2.length c2, .int .u64 p.f3, .int .u64 p.f4, .int .i64 p.f5] 41)) (fun v62 _ => p.f1.length - (intOf v62).toNat)
        case atStart => exact ⟨0, st.1, rfl, by omega, ⟨by simp⟩, HT, HVV⟩
        case round =>
          clear HT HVV y1
          obtain ⟨j, r, rfl, hj, hr, HT, HVV⟩ := hrel
          by_cases hjl : j < p.f1.length
          · have hcj : decide ((j : Int) < (p.f1.length : Int)) = true := decide_eq_true (by omega)
            obtain ⟨ad2, e2, y0, y1⟩ := at_T66 (Kd.C_below G1.out (base0 HW0.out HT.out.k)) (j : Int) (by omega) (by omega)
            rw [Int.toNat_natCast] at y0 y1
            cases e2
            have ho := (OKP.out.r _ (Pure.memR p.f1 j hjl)).2
            have hrf := hr.out
            rw [Pure.dropR p.f1 j hjl] at hrf
            obtain ⟨q, hq⟩ : ∃ q, rd_T66 p.f1 (j : Int) = q := ⟨_, rfl⟩
            rw [hq] at y0 y1 ho hrf
            obtain ⟨cc, hcc⟩ : ∃ cc : Nat, q.f1 = (cc : Int) + 1 := ⟨(q.f1 - 1).toNat, by omega⟩
            have hc6 : cc < 6 := by omega
            rw [hcc] at y1
            have HRF := Aside0.mk hrf
            clear hr hrf hq ho
            go_upto_region 17 with (fail)
            obtain ⟨br, hbr⟩ : ∃ X_, wr.heap.size = X_ := ⟨_, rfl⟩
            obtain ⟨wq, hwq⟩ : ∃ X_, wr.alloc (.cells #[.int .i64 q.f0, .int .i64 ((cc : Int) + 1)] 66) = X_ := ⟨_, rfl⟩
            rw [hwq, hbr]
            have hB2 : Blk wq br #[.int .i64 q.f0, .int .i64 ((cc : Int) + 1)] 66 := by rw [← hwq, ← hbr]; exact Blk.new wr _ _
            have hT2 : CtW w0.heap.size w0 B va vb vc mny (r, st.2) wq := by rw [← hwq]; exact HT.out.alloc _
            have hV2 := HVV.out.alloc (.cells #[.int .i64 q.f0, .int .i64 ((cc : Int) + 1)] 66)
            rw [hwq] at hV2
            have cr := hB2.cell 1 rfl
            have cQ := hT2.q.cell cc (rowC_at _ cc (by have := hT2.e.1; simp only at this ⊢; omega))
            have fQ := hT2.q.fr cc
            have HT2 := Aside0.mk hT2
            have HV2 := Aside0.mk hV2
            clear hwq hbr hB2 hT2 hV2 y0 y1
            go_wp2_with fail
            go_roundw
            case rel =>
              refine ⟨j + 1, incI r cc, by simp [Pure.wrap_succ j (by omega)], by omega, ⟨?_⟩, ⟨HT2.out.incQ cc⟩, ⟨HV2.out.far _ _ (HV2.out.ne HT2.out.q (by decide))⟩⟩
              rw [← HRF.out]
              show repF (incI r cc) _ = repF (incI r (q.f1 - 1).toNat) _
              rw [hcc]
              simp
            case measure => simp [intOf, Pure.wrap_succ j (by omega)]; omega
          · have hcj : decide ((j : Int) < (p.f1.length : Int)) = false := decide_eq_false (by omega)
            have hrv := hr.out
            rw [List.drop_eq_nil_of_le (by omega)] at hrv
            have HRV := Aside0.mk (show r = repF st.1 p.f1 from hrv)
            clear hr hrv
            have y2 := HVV.out.cell 2 rfl
            go_wp2_with fail
            clear y2 HVV
            go_loopw [77] (fun v77 wi => ∃ (j : Nat) (t : R3), v77 = .int .i64 j ∧ j ≤ p.f2.length ∧ Aside0 (sgL wd (p.f2.drop j) j t = sgL wd p.f2 0 st.2) ∧ Aside0 (CtW w0.heap.size w0 B va vb vc mny (r, t) wi)) (fun v77 _ => p.f2.length - (intOf v77).toNat)
            case atStart => exact ⟨0, st.2, rfl, by omega, ⟨by simp⟩, HT⟩
            case round =>
              clear HT
              obtain ⟨j2, t, rfl, hj2, ht, htw⟩ := hrel
              by_cases hjl : j2 < p.f2.length
              · have hjm : j2 < mny := by have := OKP.out.n; omega
                have hcj : decide ((j2 : Int) < (p.f2.length : Int)) = true := decide_eq_true (by omega)
                obtain ⟨ad3, e3, z0, z1, z2⟩ := at_T43 (Kd.C_below G2.out (base0 HW0.out htw.out.k)) (j2 : Int) (by omega) (by omega)
                rw [Int.toNat_natCast] at z0 z1 z2
                cases e3
                have htf := ht.out
                rw [Pure.dropS p.f2 j2 hjl] at htf
                obtain ⟨q, hq⟩ : ∃ q, rd_T43 p.f2 (j2 : Int) = q := ⟨_, rfl⟩
                rw [hq] at z0 z1 z2 htf
                have HTF := Aside0.mk htf
                clear ht htf hq
                go_upto_region 22 with (fail)
                obtain ⟨bs, hbs⟩ : ∃ X_, wr.heap.size = X_ := ⟨_, rfl⟩
                obtain ⟨ws, hws⟩ : ∃ X_, wr.alloc (.cells #[.int .i64 q.f0, .int .i64 q.f1, .bool q.f2] 43) = X_ := ⟨_, rfl⟩
                have hS : Blk ws bs #[.int .i64 q.f0, .int .i64 q.f1, .bool q.f2] 43 := by rw [← hws, ← hbs]; exact Blk.new wr _ _
                have hT : CtW w0.heap.size w0 B va vb vc mny (r, t) ws := by rw [← hws]; exact htw.out.alloc _
                rw [hws, hbs]
                have HS := Aside0.mk hS
                have HT := Aside0.mk hT
                clear hS hT hws hbs htw z0 z1 z2
                have cS := HS.out.cell 0 rfl
                go_upto_if 84 with (fail)
                go_cut [] from 79 to 92 (fun wc => Aside0 (CtW w0.heap.size w0 B va vb vc mny (r, (if q.f0 ≥ 0 then incI t.1 j2 else t.1), t.2) wc) ∧ Aside0 (Blk wc bs #[.int .i64 q.f0, .int .i64 q.f1, .bool q.f2] 43))
                case first =>
                  by_cases d : q.f0 ≥ 0
                  · have d1 : decide (0 ≤ q.f0) = true := decide_eq_true d
                    obtain ⟨g, hva, hg, ⟨cs, hgb⟩, cA, fA, hnew⟩ := HT.out.incA j2 (by omega)
                    have cV := (HT.out.n.cell 10 rfl).trans (congrArg some hva)
                    have HNEW := Aside0.mk hnew
                    have HNE := Aside0.mk (HS.out.ne hgb (by decide))
                    clear hnew hgb hva
                    go_wp2_with fail
                    go_meet
                    case rel =>
                      rw [if_pos d]
                      exact ⟨HNEW, ⟨HS.out.far _ _ HNE.out⟩⟩
                  · have d1 : decide (0 ≤ q.f0) = false := decide_eq_false d
                    go_wp2_with fail
                    go_meet
                    case rel =>
                      rw [if_neg (by omega)]
                      exact ⟨HT, HS⟩
                case rest =>
                  obtain ⟨HT1, HS1⟩ := hcut
                  clear HT HS cS
                  obtain ⟨ta, hta⟩ : ∃ X_, (if q.f0 ≥ 0 then incI t.1 j2 else t.1) = X_ := ⟨_, rfl⟩
                  rw [hta] at HT1
                  have HTA := Aside0.mk hta
                  clear hta
                  have cS := HS1.out.cell 2 rfl
                  go_upto_if 93 with (fail)
                  go_cut [] from 92 to 101 (fun wc => Aside0 (CtW w0.heap.size w0 B va vb vc mny (r, ta, (if q.f2 = true then incI t.2.1 j2 else t.2.1), t.2.2) wc) ∧ Aside0 (Blk wc bs #[.int .i64 q.f0, .int .i64 q.f1, .bool q.f2] 43))
                  case first =>
                    cases d : q.f2 with
                    | true =>
                      rw [d] at cS
                      obtain ⟨g, hva, hg, ⟨cs, hgb⟩, cA, fA, hnew⟩ := HT1.out.incB j2 (by omega)
                      have cV := (HT1.out.n.cell 11 rfl).trans (congrArg some hva)
                      have HNEW := Aside0.mk hnew
                      have HNE := Aside0.mk (HS1.out.ne hgb (by decide))
                      clear hnew hgb hva
                      go_wp2_with fail
                      go_meet
                      case rel =>
                        rw [if_pos d]
                        exact ⟨HNEW, ⟨HS1.out.far _ _ HNE.out⟩⟩
                    | false =>
                      rw [d] at cS
                      go_wp2_with fail
                      go_meet
                      case rel =>
                        rw [if_neg (by rw [d]; decide)]
                        exact ⟨HT1, HS1⟩
                  case rest =>
                    obtain ⟨HT2, HS2⟩ := hcut
                    clear HT1 HS1 cS
                    obtain ⟨tb, htb⟩ : ∃ X_, (if q.f2 = true then incI t.2.1 j2 else t.2.1) = X_ := ⟨_, rfl⟩
                    rw [htb] at HT2
                    have HTB := Aside0.mk htb
                    clear htb
                    have cS0 := HS2.out.cell 0 rfl
                    have cS1 := HS2.out.cell 1 rfl
                    have cS2 := HS2.out.cell 2 rfl
                    go_wp2_with fail
                    refine (report_open.calls q.f0 q.f1 q.f2 wd (opn q wd) _ (by unfold report_open.f opn; split <;> rfl)).mono ?_
                    rintro e w5 ⟨rfl, hb5⟩
                    have HT3 := Aside0.mk (HT2.out.below hb5)
                    clear hb5 HT2 HS2 cS0 cS1 cS2
                    cases d : opn q wd with
                    | true =>
                      obtain ⟨g, hva, hg, ⟨cs, hgb⟩, cA, fA, hnew⟩ := HT3.out.incC j2 (by omega)
                      have cV := (HT3.out.n.cell 12 rfl).trans (congrArg some hva)
                      have HNEW := Aside0.mk hnew
                      clear hnew hgb hva
                      go_wp2_with fail
                      go_roundw
                      case rel =>
                        refine ⟨j2 + 1, (ta, tb, incI t.2.2 j2), by simp [Pure.wrap_succ j2 (by omega)], by omega, ⟨?_⟩, HNEW⟩
                        rw [← HTF.out, sgL, sgF, HTA.out, HTB.out, if_pos d]
                      case measure => simp [intOf, Pure.wrap_succ j2 (by omega)]; omega
                    | false =>
                      go_wp2_with fail
                      go_roundw
                      case rel =>
                        refine ⟨j2 + 1, (ta, tb, t.2.2), by simp [Pure.wrap_succ j2 (by omega)], by omega, ⟨?_⟩, HT3⟩
                        rw [← HTF.out, sgL, sgF, HTA.out, HTB.out, if_neg (by rw [d]; decide)]
                      case measure => simp [intOf, Pure.wrap_succ j2 (by omega)]; omega
              · have hcj : decide ((j2 : Int) < (p.f2.length : Int)) = false := decide_eq_false (by omega)
                have htv := ht.out
                rw [List.drop_eq_nil_of_le (by omega), sgL] at htv
                have HTV := Aside0.mk htv
                clear ht htv
                go_wp2_with fail
                go_roundw
                case rel =>
                  refine ⟨ii + 1, (r, t), by simp, by omega, ⟨?_⟩, htw⟩
                  rw [← HF.out, HRV.out, HTV.out]
                  rfl
                case measure => simp [intOf]; omega
      · have hc : decide ((ii : Int) < (l0.length : Int)) = false := decide_eq_false (by omega)
        have hsv := hst.out
        rw [List.drop_eq_nil_of_le (by omega)] at hsv
        have HSV := Aside0.mk (show st = cntV wd l0 (zer6, List.replicate mny 0, List.replicate mny 0, List.replicate mny 0) from hsv)
        clear hst hsv
        go_upto_region 30 with (fail)
        obtain ⟨r0, r1, r2, r3, r4, r5, hr6⟩ := len6 hrc.out.e.1
        have hW := hrc.out
        obtain ⟨str, sts⟩ := st
        simp only at hr6
        subst hr6
        have q0_ : wr.cell? ⟨B + 1, 0, none⟩ = some (.int .i64 r0) := hW.q.cell 0 rfl
        have q1_ : wr.cell? ⟨B + 1, 1, none⟩ = some (.int .i64 r1) := hW.q.cell 1 rfl
        have q2_ : wr.cell? ⟨B + 1, 2, none⟩ = some (.int .i64 r2) := hW.q.cell 2 rfl
        have q3_ : wr.cell? ⟨B + 1, 3, none⟩ = some (.int .i64 r3) := hW.q.cell 3 rfl
        have q4_ : wr.cell? ⟨B + 1, 4, none⟩ = some (.int .i64 r4) := hW.q.cell 4 rfl
        have q5_ : wr.cell? ⟨B + 1, 5, none⟩ = some (.int .i64 r5) := hW.q.cell 5 rfl
        have z0_ : wr.cell? ⟨B, 0, none⟩ = some (.int .i64 0) := hW.n.cell 0 rfl
        have z1_ : wr.cell? ⟨B, 1, none⟩ = some (.int .i64 0) := hW.n.cell 1 rfl
        have z2_ : wr.cell? ⟨B, 2, none⟩ = some (.int .i64 0) := hW.n.cell 2 rfl
        have z3_ : wr.cell? ⟨B, 3, none⟩ = some (.int .i64 0) := hW.n.cell 3 rfl
        have z4_ : wr.cell? ⟨B, 4, none⟩ = some (.int .i64 0) := hW.n.cell 4 rfl
        have z5_ : wr.cell? ⟨B, 5, none⟩ = some (.int .i64 0) := hW.n.cell 5 rfl
        have f0_ := hW.n.fr 0
        have f1_ := hW.n.fr 1
        have f2_ := hW.n.fr 2
        have f3_ := hW.n.fr 3
        have f4_ := hW.n.fr 4
        have f5_ := hW.n.fr 5
        go_upto_region 31 with (fail)
        obtain ⟨w3, hw3⟩ : ∃ X_, put6 wr B (.int .i64 r0) (.int .i64 r1) (.int .i64 r2) (.int .i64 r3) (.int .i64 r4) (.int .i64 r5) = X_ := ⟨_, rfl⟩
        have hf3 : ∀ j, j ≠ B → w3.heap[j]? = wr.heap[j]? := by intro j hj; rw [← hw3]; exact put6_far _ _ _ _ _ _ _ _ _ hj
        have hn3 : Blk w3 B (numC [r0, r1, r2, r3, r4, r5] 0 0 0 0 va vb vc) 29 := by rw [← hw3]; exact put6_num hW.n _ _ _ _ _ _
        have hk3 : Below w0.heap.size w0 w3 := by rw [← hw3]; exact hW.k.trans (put6_below _ _ _ _ _ _ _ _ _ (Nat.le_of_lt hW.o))
        have hrow : ∀ {v : Value} {l : List Int}, RowI wr (B + 1 + 1) v l → RowI w3 (B + 1) v l := by
          intro v l hl
          rcases hl with hl | ⟨g, hv, hg, hk⟩
          · exact .inl hl
          · exact .inr ⟨g, hv, by omega, (hf3 g (by omega)).trans hk⟩
        have hRS : RsW w0.heap.size w0 B zer13 va vb vc [r0, r1, r2, r3, r4, r5] sts (0, 0, 0, 0) w3 :=
          ⟨(hf3 _ (by have := hW.o; omega)).trans hW.z, hn3, hrow hW.a, hrow hW.b, hrow hW.c, hk3, hW.o⟩
        unfold put6 at hw3
        rw [hw3]
        have RS := Aside0.mk hRS
        clear hw3 hf3 hn3 hk3 hrow hRS hW hrc q0_ q1_ q2_ q3_ q4_ q5_ z0_ z1_ z2_ z3_ z4_ z5_ f0_ f1_ f2_ f3_ f4_ f5_ CT cl hmk
        have cl := (lbox HW0.out RS.out.k).cell
        have hc0' : Kd.C k41 w0 A0 l0.length l0 := Kd.C_below HC.out (base0 HW0.out (Below.refl _ _))
        have hla0 : LaidAt w0 := HLA.out.below (base0 HW0.out (Below.refl _ _))
        have HC0 := Aside0.mk hc0'
        have HL0 := Aside0.mk hla0
        clear hc0' hla0
        go_wp2_with fail
        refine (all_any A0 c0 l0 hc0 _ (Kd.C_below HC0.out RS.out.k)).mono ?_
        rintro e w2 ⟨rfl, hbA, hb2⟩
        obtain ⟨ba, hba⟩ : ∃ X_, w3.heap.size = X_ := ⟨_, rfl⟩
        have hw2 := RS.out.below hb2
        have hB3 : B < ba := by rw [← hba]; exact RS.out.n.lt
        have hs2 : ba + 1 ≤ w2.heap.size := by rw [← hba]; exact hbA.lt
        rw [hba] at hbA ⊢
        have W2 := Aside0.mk hw2
        have A2 := Aside0.mk hbA
        clear hw2 hbA hb2 RS cl hba
        go_wp2_with fail
        rw [← wpIn_wide (n := 9)]
        have hbo := W2.out.o
        refine wpIn_rangeH rfl (by omega) (gf := 49) (lb := #[.pointer (some ⟨ba, 0, none⟩)]) rfl trivial (enters_of Tryd.func49 (by kernel_rfl) rfl)
          (all_stops (9 - 1) (by omega) w0.heap.size ba (by omega) (orU l0) (orD l0) (orU_range l0).1 (orU_range l0).2 (orD_range l0).1 (orD_range l0).2 w0 rfl HL0.out k2 xs HX.out w2 A2.out W2.out.k)
          keepA_t (fun W l o o' hl h _ _ => keepA_b (by omega) (by omega) W l o o' hl h) (Below.refl _ _) (fun _ => rfl)
          17 (fun pre W => RsW w0.heap.size w0 B zer13 va vb vc [r0, r1, r2, r3, r4, r5] sts (pre.foldl (pcL l0) (0, 0, 0, 0)) W ∧ Blk W ba #[.int .u64 (orU l0), .int .u64 (orD l0)] 85 ∧ w2.heap.size ≤ W.heap.size) (fun _ _ _ => False) ?hI (fun _ _ _ _ _ h _ _ => h.elim) ?h0 (fun x b W => w2.heap.size ≤ b ∧ Blk W b #[.int .i64 (x.1.val : Int), .bool x.2] 77) ?hAx ?assign ?body ?done ?stop
        case hI => exact OwnFrom.and (RsW.own (fun pre : List (Fin 64 × Bool) => pre.foldl (pcL l0) (0, 0, 0, 0)) (Nat.le_refl _) (by omega)) (OwnFrom.and ((blk_own ba 85 (fun _ => #[.int .u64 (orU l0), .int .u64 (orD l0)])).from _) ((own_size _).from _))
        case h0 => exact ⟨W2.out, A2.out, Nat.le_refl _⟩
        case hAx => exact fun x b => OwnFrom.and (ownFrom_pure _ (fun _ => w2.heap.size ≤ b)) ((blk_own b 77 (fun _ => #[.int .i64 (x.1.val : Int), .bool x.2])).from _)
        case assign =>
          rintro l pre ⟨g, up⟩ W K ⟨hlg, hA, hsz2⟩ hK
          have key := hK W.heap.size (W.alloc (.cells #[.int .i64 (g.val : Int), .bool up] 77)) ((KeepsOthers.alloc W _).from _) ⟨Below.heap_alloc W _ _ hA.lt, (Below.refl _ W).alloc (by omega) _⟩ ⟨hlg.alloc _, hA.alloc _, by rw [World.size_alloc]; omega⟩ ⟨hsz2, Blk.new W _ _⟩
          have KEY := Aside0.mk key
          clear key hK hlg
          simp only [encA]
          gi_wp2
          have key := KEY.out
          simp [rAct, encA] at key
          exact key
        case body =>
          rintro l1 pre ⟨g, up⟩ b W hl ⟨lp1, hr1⟩ ⟨hlg, hA, hsz2⟩ ⟨hb, hblk⟩ hlen
          obtain ⟨x0, hx0⟩ : ∃ X_, pre.foldl (pcL l0) (0, 0, 0, 0) = X_ := ⟨_, rfl⟩
          rw [hx0] at hlg
          have cl := (lbox HW0.out hlg.k).cell
          have k0 := hblk.cell 0 rfl
          have k1 := hblk.cell 1 rfl
          have LG := Aside0.mk hlg
          have BA := Aside0.mk hA
          have BX := Aside0.mk hblk
          have HS0 := Aside0.mk hx0
          have R1 := Aside0.mk hr1
          clear hlg hA hblk hx0 hr1
          simp only [encA, rAct]
          gi_wp2_with fail
          refine (CallsIn.inRound l1 (callsIn_wide.2 (spells_any (g.val : Int) up A0 l0.length c0 _))).mono ?_
          rintro e w' ⟨rfl, rfl⟩
          obtain ⟨bs, hbs⟩ : ∃ x, W.heap.size = x := ⟨_, rfl⟩
          obtain ⟨W3, hW3⟩ : ∃ x, (W.alloc (.cells #[.int .i64 (g.val : Int), .bool up] 77)).alloc (.cells #[.slice A0 l0.length c0] 24) = x := ⟨_, rfl⟩
          have hx3 : Blk W3 bs #[.int .i64 (g.val : Int), .bool up] 77 := by rw [← hW3, ← hbs]; exact (Blk.new W _ _).alloc _
          have hl3 : Boxed W3 (bs + 1) 24 (.slice A0 l0.length c0) := by
            have := Boxed.new (W.alloc (.cells #[.int .i64 (g.val : Int), .bool up] 77)) 24 (.slice A0 l0.length c0)
            rw [World.size_alloc, hbs] at this
            rw [← hW3]; exact this
          have hlg3 : RsW w0.heap.size w0 B zer13 va vb vc [r0, r1, r2, r3, r4, r5] sts x0 W3 := by rw [← hW3]; exact (LG.out.alloc _).alloc _
          have hA3 : Blk W3 ba #[.int .u64 (orU l0), .int .u64 (orD l0)] 85 := by rw [← hW3]; exact (BA.out.alloc _).alloc _
          have hX3 : Blk W3 b #[.int .i64 (g.val : Int), .bool up] 77 := by rw [← hW3]; exact (BX.out.alloc _).alloc _
          have hr3 : W3.heap[l1]? = some (.loop lp1) := by
            have hl1 := (Array.getElem?_eq_some_iff.1 R1.out).1
            rw [← hW3]; exact (Below.heap_alloc _ _ _ (by simp; omega)).trans ((Below.heap_alloc W _ _ hl1).trans R1.out)
          have hs3 : W3.heap.size = bs + 1 + 1 := by rw [← hW3, World.size_alloc, World.size_alloc, hbs]
          have hk3 : KeepsOthers W W3 := by rw [← hW3]; exact (KeepsOthers.alloc W _).trans (KeepsOthers.alloc _ _)
          have hka3 : KeepA w0.heap.size ba W W3 := ⟨hA3.trans BA.out.symm, by rw [← hW3]; exact ((Below.refl _ W).alloc (by omega) _).alloc (by simp; omega) _⟩
          rw [hW3, hbs]
          have L3 := Aside0.mk hlg3
          have A3 := Aside0.mk hA3
          have X3 := Aside0.mk hX3
          have K3 := Aside0.mk hk3
          have KA3 := Aside0.mk hka3
          have R3 := Aside0.mk hr3
          have XX3 := Aside0.mk hx3
          have LL3 := Aside0.mk hl3
          clear hx3 hl3 hlg3 hA3 hX3 hr3 hk3 hka3 hW3 LG BA BX R1 cl k0 k1
          have hN : w2.heap.size ≤ bs := by omega
          gi_wp2_with fail
          refine wpIn_rangeN2 (l₀ := l1) rfl R3.out (by omega) (gf := 51) (lb := #[.pointer (some ⟨bs + 1, 0, none⟩), .pointer (some ⟨bs, 0, none⟩)]) rfl trivial (enters_of Tryd.func51 (by kernel_rfl) rfl)
            (SeqStopsK.inRound l1 (spells_stops (9 - 1 - 1 - 1) (by omega) w0.heap.size (bs + 1) bs (by omega) (by omega) A0 c0 l0 hc0 (g.val : Int) up (by omega) (by omega) w0 rfl HC0.out _ rfl W3 LL3.out XX3.out L3.out.k))
            keep3_t (fun W l o o' hl h _ _ => keep3_b (by omega) (by omega) (by omega) W l o o' hl h) (Below.refl _ _) (fun _ => rfl)
            18 19 (fun x => .bool x.2) (fun pre2 W' => RsW w0.heap.size w0 B zer13 va vb vc [r0, r1, r2, r3, r4, r5] sts (pre2.foldl pcS x0) W' ∧ (Blk W' ba #[.int .u64 (orU l0), .int .u64 (orD l0)] 85 ∧ Blk W' b #[.int .i64 (g.val : Int), .bool up] 77) ∧ bs + 1 + 1 ≤ W'.heap.size ∧ KeepsFrom w2.heap.size W3 W' ∧ Below w0.heap.size W3 W') (fun _ _ _ => False) ?hI2 (fun _ _ _ _ _ h _ _ => h.elim) ?h02 (fun x b2 W' => bs + 1 + 1 ≤ b2 ∧ Blk W' b2 #[.int .i64 x.1.f0, .int .i64 x.1.f1] 57) ?hAx2 ?assign2 ?body2 ?done2 ?stop2
          case hI2 => exact OwnFrom.and (RsW.own (fun pre2 : List (S57 × Bool) => pre2.foldl pcS x0) (Nat.le_refl _) (by omega)) (OwnFrom.and (OwnFrom.and ((blk_own ba 85 (fun _ => #[.int .u64 (orU l0), .int .u64 (orD l0)])).from _) ((blk_own b 77 (fun _ => #[.int .i64 (g.val : Int), .bool up])).from _)) (OwnFrom.and ((own_size _).from _) (OwnFrom.and (ownFrom_keepsFrom (Nat.le_refl _)) (ownFrom_below (by omega) (by omega)))))
          case h02 => exact ⟨L3.out, ⟨A3.out, X3.out⟩, by omega, KeepsFrom.refl _ _, Below.refl _ _⟩
          case hAx2 => exact fun x b2 => OwnFrom.and (ownFrom_pure _ (fun _ => bs + 1 + 1 ≤ b2)) ((blk_own b2 57 (fun _ => #[.int .i64 x.1.f0, .int .i64 x.1.f1])).from _)
          case assign2 =>
            rintro l pre2 ⟨⟨s0, s1⟩, ended⟩ W' K ⟨hlg, ⟨hA, hX⟩, hsz3, hkf, hbe⟩ hK
            have key := hK W'.heap.size (W'.alloc (.cells #[.int .i64 s0, .int .i64 s1] 57)) ((KeepsOthers.alloc W' _).from _) (keep3_alloc W' _ (by omega) (by omega) (by omega)) ⟨hlg.alloc _, ⟨hA.alloc _, hX.alloc _⟩, by rw [World.size_alloc]; omega, hkf.trans ((KeepsOthers.alloc W' _).from _), hbe.alloc (by omega) _⟩ ⟨hsz3, Blk.new W' _ _⟩
            have KEY := Aside0.mk key
            clear key hK hlg hA hX hkf hbe
            simp only [encS]
            gi_wp2
            have key := KEY.out
            simp [rAct2, encS] at key
            exact key
          case body2 =>
            rintro l2 pre2 ⟨⟨s0, s1⟩, ended⟩ b2 W' hl2 hr2 ⟨hlg, ⟨hA, hX⟩, hsz3, hkf, hbe⟩ ⟨hb2, hblk2⟩ hlen2
            obtain ⟨st1, hst1⟩ : ∃ st1, pre2.foldl pcS x0 = st1 := ⟨_, rfl⟩
            rw [hst1] at hlg
            obtain ⟨za, zb, zc, zd⟩ := st1
            have e0 : W'.cell? ⟨b2, 0, none⟩ = some (.int .i64 s0) := hblk2.cell 0 rfl
            have e1 : W'.cell? ⟨b2, 1, none⟩ = some (.int .i64 s1) := hblk2.cell 1 rfl
            have c6 : W'.cell? ⟨B, 6, none⟩ = some (.int .i64 za) := hlg.n.cell 6 rfl
            have c7 : W'.cell? ⟨B, 7, none⟩ = some (.int .i64 zb) := hlg.n.cell 7 rfl
            have c8 : W'.cell? ⟨B, 8, none⟩ = some (.int .i64 zc) := hlg.n.cell 8 rfl
            have c9 : W'.cell? ⟨B, 9, none⟩ = some (.int .i64 zd) := hlg.n.cell 9 rfl
            have f6 := hlg.n.fr 6
            have f7 := hlg.n.fr 7
            have f8 := hlg.n.fr 8
            have f9 := hlg.n.fr 9
            have n1 : ¬ b2 = B := hblk2.ne hlg.n (by decide)
            have n2 : ¬ B = b2 := fun e => n1 e.symm
            have S1 := Aside0.mk hst1
            have LG := Aside0.mk hlg
            have BA := Aside0.mk hA
            have BX := Aside0.mk hX
            have KF := Aside0.mk hkf
            have BE := Aside0.mk hbe
            clear hst1 hlg hA hX hblk2 hkf hbe hr2
            simp only [encS, rAct2]
            cases ended with
            | false =>
              gi_wp2_with fail
              have hko : KeepsOthers W' (W'.setCell ⟨B, 6, none⟩ (.int .i64 (wrap64 (za + 1)))) := KeepsOthers.setCell _ _ _
              have hbw : Below w0.heap.size W' (W'.setCell ⟨B, 6, none⟩ (.int .i64 (wrap64 (za + 1)))) := (Below.refl _ W').setCell (p := ⟨B, 6, none⟩) (Nat.le_of_lt LG.out.o) _
              refine ⟨hko.from _, ⟨Below.heap_setCell _ _ _ _ (by show bs + 1 ≠ B; omega), Below.heap_setCell _ _ _ _ (by show bs ≠ B; omega), hbw⟩, ?_, ⟨BA.out.far _ _ (by show ¬ ba = B; omega), BX.out.far _ _ (by show ¬ b = B; omega)⟩, Nat.le_trans hsz3 hko.size, KF.out.trans (hko.from _), BE.out.trans hbw⟩
              rw [List.foldl_append, S1.out, List.foldl_cons, List.foldl_nil, show pcS (za, zb, zc, zd) (⟨s0, s1⟩, false) = (wrap64 (za + 1), zb, zc, zd) from rfl]
              exact LG.out.put (y := (wrap64 (za + 1), zb, zc, zd)) 6 _ (numC_s6 rfl _ _ _ _ _ _ _ _)
            | true =>
              by_cases hmx : zd < wrap64 (s1 - s0)
              · have hmd : decide (zd < wrap64 (s1 - s0)) = true := decide_eq_true hmx
                gi_wp2_with fail
                have hko := pc4_keeps B W' (wrap64 (za + 1)) (wrap64 (zb + 1)) (wrap64 (zc + wrap64 (s1 - s0))) (wrap64 (s1 - s0))
                have hbw := pc4_below B W' (wrap64 (za + 1)) (wrap64 (zb + 1)) (wrap64 (zc + wrap64 (s1 - s0))) (wrap64 (s1 - s0)) w0.heap.size (Nat.le_of_lt LG.out.o)
                refine ⟨hko.from _, ⟨pc4_far _ _ _ _ _ _ _ (by omega), pc4_far _ _ _ _ _ _ _ (by omega), hbw⟩, ?_, ⟨(pc4_far _ _ _ _ _ _ _ (by omega)).trans BA.out, (pc4_far _ _ _ _ _ _ _ (by omega)).trans BX.out⟩, Nat.le_trans hsz3 hko.size, KF.out.trans (hko.from _), BE.out.trans hbw⟩
                rw [List.foldl_append, S1.out, List.foldl_cons, List.foldl_nil, show pcS (za, zb, zc, zd) (⟨s0, s1⟩, true) = (wrap64 (za + 1), wrap64 (zb + 1), wrap64 (zc + wrap64 (s1 - s0)), wrap64 (s1 - s0)) from by simp only [pcS, if_true, if_pos hmx]]
                exact LG.out.pc4 rfl (wrap64 (za + 1), wrap64 (zb + 1), wrap64 (zc + wrap64 (s1 - s0)), wrap64 (s1 - s0))
              · have hmd : decide (zd < wrap64 (s1 - s0)) = false := decide_eq_false hmx
                gi_wp2_with fail
                have hko := pc4_keeps B W' (wrap64 (za + 1)) (wrap64 (zb + 1)) (wrap64 (zc + wrap64 (s1 - s0))) (zd)
                have hbw := pc4_below B W' (wrap64 (za + 1)) (wrap64 (zb + 1)) (wrap64 (zc + wrap64 (s1 - s0))) (zd) w0.heap.size (Nat.le_of_lt LG.out.o)
                refine ⟨hko.from _, ⟨pc4_far _ _ _ _ _ _ _ (by omega), pc4_far _ _ _ _ _ _ _ (by omega), hbw⟩, ?_, ⟨(pc4_far _ _ _ _ _ _ _ (by omega)).trans BA.out, (pc4_far _ _ _ _ _ _ _ (by omega)).trans BX.out⟩, Nat.le_trans hsz3 hko.size, KF.out.trans (hko.from _), BE.out.trans hbw⟩
                rw [List.foldl_append, S1.out, List.foldl_cons, List.foldl_nil, show pcS (za, zb, zc, zd) (⟨s0, s1⟩, true) = (wrap64 (za + 1), wrap64 (zb + 1), wrap64 (zc + wrap64 (s1 - s0)), zd) from by simp only [pcS, if_true, if_neg (Int.not_lt.2 hmx)]]
                exact LG.out.pc4 rfl (wrap64 (za + 1), wrap64 (zb + 1), wrap64 (zc + wrap64 (s1 - s0)), zd)
          case done2 =>
            rintro ys W' rfl ⟨hlg, ⟨hA, hX⟩, hsz3, hkf, hbe⟩
            refine ⟨(K3.out.from _).trans hkf, keepA_t KA3.out ⟨hA.trans A3.out.symm, hbe⟩, ?_, hA, by omega⟩
            rw [List.foldl_append, HS0.out]
            exact hlg
          case stop2 => exact fun _ _ _ _ h => h.elim
        case done =>
          rintro D ys W hD rfl ⟨hlg, hA, hsz2⟩ hK
          obtain ⟨⟨xa, xb, xc, xd⟩, hxx⟩ : ∃ X_, ys.foldl (pcL l0) (0, 0, 0, 0) = X_ := ⟨_, rfl⟩
          rw [hxx] at hlg
          have HXS := Aside0.mk hxx
          clear hxx
          have hbo2 := hlg.o
          obtain ⟨A1, n1, c1, eva⟩ := RowI.sl hlg.a
          obtain ⟨A2, n2, c2, evb⟩ := RowI.sl hlg.b
          obtain ⟨A3, n3, c3, evc⟩ := RowI.sl hlg.c
          subst eva evb evc
          have c0_ : W.cell? ⟨B, 0, none⟩ = some (.int .i64 r0) := hlg.n.cell 0 rfl
          have c1_ : W.cell? ⟨B, 1, none⟩ = some (.int .i64 r1) := hlg.n.cell 1 rfl
          have c2_ : W.cell? ⟨B, 2, none⟩ = some (.int .i64 r2) := hlg.n.cell 2 rfl
          have c3_ : W.cell? ⟨B, 3, none⟩ = some (.int .i64 r3) := hlg.n.cell 3 rfl
          have c4_ : W.cell? ⟨B, 4, none⟩ = some (.int .i64 r4) := hlg.n.cell 4 rfl
          have c5_ : W.cell? ⟨B, 5, none⟩ = some (.int .i64 r5) := hlg.n.cell 5 rfl
          have c6_ : W.cell? ⟨B, 6, none⟩ = some (.int .i64 xa) := hlg.n.cell 6 rfl
          have c7_ : W.cell? ⟨B, 7, none⟩ = some (.int .i64 xb) := hlg.n.cell 7 rfl
          have c8_ : W.cell? ⟨B, 8, none⟩ = some (.int .i64 xc) := hlg.n.cell 8 rfl
          have c9_ : W.cell? ⟨B, 9, none⟩ = some (.int .i64 xd) := hlg.n.cell 9 rfl
          have c10_ : W.cell? ⟨B, 10, none⟩ = some (.slice A1 n1 c1) := hlg.n.cell 10 rfl
          have c11_ : W.cell? ⟨B, 11, none⟩ = some (.slice A2 n2 c2) := hlg.n.cell 11 rfl
          have c12_ : W.cell? ⟨B, 12, none⟩ = some (.slice A3 n3 c3) := hlg.n.cell 12 rfl
          have z0_ : W.cell? ⟨w0.heap.size, 0, none⟩ = some (.int .i64 0) := hlg.z.cell 0 rfl
          have z1_ : W.cell? ⟨w0.heap.size, 1, none⟩ = some (.int .i64 0) := hlg.z.cell 1 rfl
          have z2_ : W.cell? ⟨w0.heap.size, 2, none⟩ = some (.int .i64 0) := hlg.z.cell 2 rfl
          have z3_ : W.cell? ⟨w0.heap.size, 3, none⟩ = some (.int .i64 0) := hlg.z.cell 3 rfl
          have z4_ : W.cell? ⟨w0.heap.size, 4, none⟩ = some (.int .i64 0) := hlg.z.cell 4 rfl
          have z5_ : W.cell? ⟨w0.heap.size, 5, none⟩ = some (.int .i64 0) := hlg.z.cell 5 rfl
          have z6_ : W.cell? ⟨w0.heap.size, 6, none⟩ = some (.int .i64 0) := hlg.z.cell 6 rfl
          have z7_ : W.cell? ⟨w0.heap.size, 7, none⟩ = some (.int .i64 0) := hlg.z.cell 7 rfl
          have z8_ : W.cell? ⟨w0.heap.size, 8, none⟩ = some (.int .i64 0) := hlg.z.cell 8 rfl
          have z9_ : W.cell? ⟨w0.heap.size, 9, none⟩ = some (.int .i64 0) := hlg.z.cell 9 rfl
          have z10_ : W.cell? ⟨w0.heap.size, 10, none⟩ = some (.slice none 0 0) := hlg.z.cell 10 rfl
          have z11_ : W.cell? ⟨w0.heap.size, 11, none⟩ = some (.slice none 0 0) := hlg.z.cell 11 rfl
          have z12_ : W.cell? ⟨w0.heap.size, 12, none⟩ = some (.slice none 0 0) := hlg.z.cell 12 rfl
          have f0_ := hlg.z.fr 0
          have f1_ := hlg.z.fr 1
          have f2_ := hlg.z.fr 2
          have f3_ := hlg.z.fr 3
          have f4_ := hlg.z.fr 4
          have f5_ := hlg.z.fr 5
          have f6_ := hlg.z.fr 6
          have f7_ := hlg.z.fr 7
          have f8_ := hlg.z.fr 8
          have f9_ := hlg.z.fr 9
          have f10_ := hlg.z.fr 10
          have f11_ := hlg.z.fr 11
          have f12_ := hlg.z.fr 12
          have LG := Aside0.mk hlg
          have HK := Aside0.mk hK
          clear hlg hK hA
          go_wp2_with fail
          obtain ⟨wf, hwf⟩ : ∃ X_, put13 W w0.heap.size (.int .i64 r0) (.int .i64 r1) (.int .i64 r2) (.int .i64 r3) (.int .i64 r4) (.int .i64 r5) (.int .i64 xa) (.int .i64 xb) (.int .i64 xc) (.int .i64 xd) (.slice A1 n1 c1) (.slice A2 n2 c2) (.slice A3 n3 c3) = X_ := ⟨_, rfl⟩
          have hbf : Blk wf w0.heap.size #[(.int .i64 r0), (.int .i64 r1), (.int .i64 r2), (.int .i64 r3), (.int .i64 r4), (.int .i64 r5), (.int .i64 xa), (.int .i64 xb), (.int .i64 xc), (.int .i64 xd), (.slice A1 n1 c1), (.slice A2 n2 c2), (.slice A3 n3 c3)] 29 := by rw [← hwf]; exact put13_blk LG.out.z (.int .i64 r0) (.int .i64 r1) (.int .i64 r2) (.int .i64 r3) (.int .i64 r4) (.int .i64 r5) (.int .i64 xa) (.int .i64 xb) (.int .i64 xc) (.int .i64 xd) (.slice A1 n1 c1) (.slice A2 n2 c2) (.slice A3 n3 c3)
          have hff : ∀ j, j ≠ w0.heap.size → wf.heap[j]? = W.heap[j]? := by intro j hj; rw [← hwf]; exact put13_far _ _ (.int .i64 r0) (.int .i64 r1) (.int .i64 r2) (.int .i64 r3) (.int .i64 r4) (.int .i64 r5) (.int .i64 xa) (.int .i64 xb) (.int .i64 xc) (.int .i64 xd) (.slice A1 n1 c1) (.slice A2 n2 c2) (.slice A3 n3 c3) _ hj
          have hkf : Below w0.heap.size w0 wf := by rw [← hwf]; exact LG.out.k.trans (put13_below _ _ _ (.int .i64 r0) (.int .i64 r1) (.int .i64 r2) (.int .i64 r3) (.int .i64 r4) (.int .i64 r5) (.int .i64 xa) (.int .i64 xb) (.int .i64 xc) (.int .i64 xd) (.slice A1 n1 c1) (.slice A2 n2 c2) (.slice A3 n3 c3) (Nat.le_refl _))
          have hnum := LG.out.done rfl hff
          have hdf : wf.heap[D]? = some (.deferred (some [])) := (hff D (by omega)).trans HK.out
          unfold put13 at hwf
          rw [hwf]
          clear hwf c0_ z0_ f0_ c1_ z1_ f1_ c2_ z2_ f2_ c3_ z3_ f3_ c4_ z4_ f4_ c5_ z5_ f5_ c6_ z6_ f6_ c7_ z7_ f7_ c8_ z8_ f8_ c9_ z9_ f9_ c10_ z10_ f10_ c11_ z11_ f11_ c12_ z12_ f12_
          have hbD : Blk (wf.putObj D (.deferred none)) w0.heap.size #[(.int .i64 r0), (.int .i64 r1), (.int .i64 r2), (.int .i64 r3), (.int .i64 r4), (.int .i64 r5), (.int .i64 xa), (.int .i64 xb), (.int .i64 xc), (.int .i64 xd), (.slice A1 n1 c1), (.slice A2 n2 c2), (.slice A3 n3 c3)] 29 := (World.putObj_heap_other (by omega)).trans hbf
          have hnD : NumR (wf.putObj D (.deferred none)) w0.heap.size (numV [r0, r1, r2, r3, r4, r5] xa xb xc xd (.slice A1 n1 c1) (.slice A2 n2 c2) (.slice A3 n3 c3)) (numOf ([r0, r1, r2, r3, r4, r5], sts) (xa, xb, xc, xd)) := NumR.putObj hnum hdf rfl
          have hkD : Below w0.heap.size w0 (wf.putObj D (.deferred none)) := (ownFrom_below (β := Unit) (Nat.le_refl _) (Nat.le_refl _)).putObj (B := w0.heap.size) (s := ()) (.deferred none) hkf (by omega) (show wf.heap[D]? = _ from hdf) rfl
          have c0_ := hbD.cell 0 rfl
          have c1_ := hbD.cell 1 rfl
          have c2_ := hbD.cell 2 rfl
          have c3_ := hbD.cell 3 rfl
          have c4_ := hbD.cell 4 rfl
          have c5_ := hbD.cell 5 rfl
          have c6_ := hbD.cell 6 rfl
          have c7_ := hbD.cell 7 rfl
          have c8_ := hbD.cell 8 rfl
          have c9_ := hbD.cell 9 rfl
          have c10_ := hbD.cell 10 rfl
          have c11_ := hbD.cell 11 rfl
          have c12_ := hbD.cell 12 rfl
          refine ⟨by simp, .inl ⟨_, _, rfl, run_takeDeferred (show wf.heap[D]? = _ from hdf), ?_⟩⟩
          refine ⟨.tuple #[numV [r0, r1, r2, r3, r4, r5] xa xb xc xd (.slice A1 n1 c1) (.slice A2 n2 c2) (.slice A3 n3 c3), .int .i64 0], ?_, _, rfl, ?_, base0 HW0.out hkD⟩
          · simp [results, Tryd.results11, go_sem, hu29, hu27, c0_, c1_, c2_, c3_, c4_, c5_, c6_, c7_, c8_, c9_, c10_, c11_, c12_]
            rfl
          · rw [← HSV.out, ← HXF.out, HXS.out]
            exact hnD.lower (by have := HS0.out; omega)
        case stop => exact fun _ _ _ _ _ _ h _ => h.elim

set_option maxHeartbeats 4000000 in
set_option maxRecDepth 100000 in
theorem Count_no (k : Nat) (A0 : Option Addr) (c0 : Nat) (l0 : List S41) (wd e i r : Int) (w : World) (hr0 : Kd.C k41 w A0 l0.length l0) (hc0 : l0.length ≤ c0) (h : report_Check.f k l0 = some (e, i))
    (hr : r = (if e = 0 then 2 else e)) (hn : e = 0 → wd < 1 ∨ 20 < wd) :
    Calls Tryd.prog 11 #[.slice A0 l0.length c0, .int .i64 wd] w fun x w' => ∃ v, x = .returned (.tuple #[v, .int .i64 r]) ∧ NumR w' w.heap.size v num0 ∧ Below w.heap.size w w' := by
  have hu29 := Tryd.underlying29
  have hu27 := Tryd.underlying27
  have H := Aside0.mk h
  have HC := Aside0.mk hr0
  have HR := Aside0.mk hr
  have HN := Aside0.mk hn
  clear h hr0 hr hn
  go_enter Tryd.func11, Tryd.ntmps11
  go_upto_region 1 with (fail)
  obtain ⟨w0, hw0_⟩ : ∃ X_, w.alloc (.cells #[.slice A0 l0.length c0] 24) = X_ := ⟨_, rfl⟩
  have hs0 : w0.heap.size = w.heap.size + 1 := by rw [← hw0_]; simp
  have hZ0 : Blk (w0.alloc (.cells zer13 29)) w0.heap.size zer13 29 := Blk.new w0 _ _
  have hl0 := lbox hw0_ (below_alloc (Below.refl _ w0) (.cells zer13 29))
  have cl := hl0.cell
  have hc1 : Kd.C k41 (w0.alloc (.cells zer13 29)) A0 l0.length l0 := Kd.C_below HC.out (base0 hw0_ (below_alloc (Below.refl _ w0) (.cells zer13 29)))
  rw [hw0_, ← hs0]
  have HZ0 := Aside0.mk hZ0
  have HC1 := Aside0.mk hc1
  have HW0 := Aside0.mk hw0_
  have HS0 := Aside0.mk hs0
  clear hZ0 hc1 hl0 hw0_ hs0
  go_wp2_with fail
  refine (report_Check.calls k A0 c0 l0 e i _ HC1.out hc0 H.out).mono ?_
  rintro e0 w1 ⟨rfl, hb⟩
  have HB1 : Aside0 (Below w0.heap.size w0 w1) := ⟨below_step (below_alloc (Below.refl _ _) _) hb⟩
  have HZ1 := Aside0.mk (HZ0.out.below hb HZ0.out.lt)
  clear hb HZ0 HC1 cl
  have z0_ : w1.cell? ⟨w0.heap.size, 0, none⟩ = some (.int .i64 0) := HZ1.out.cell 0 rfl
  have z1_ : w1.cell? ⟨w0.heap.size, 1, none⟩ = some (.int .i64 0) := HZ1.out.cell 1 rfl
  have z2_ : w1.cell? ⟨w0.heap.size, 2, none⟩ = some (.int .i64 0) := HZ1.out.cell 2 rfl
  have z3_ : w1.cell? ⟨w0.heap.size, 3, none⟩ = some (.int .i64 0) := HZ1.out.cell 3 rfl
  have z4_ : w1.cell? ⟨w0.heap.size, 4, none⟩ = some (.int .i64 0) := HZ1.out.cell 4 rfl
  have z5_ : w1.cell? ⟨w0.heap.size, 5, none⟩ = some (.int .i64 0) := HZ1.out.cell 5 rfl
  have z6_ : w1.cell? ⟨w0.heap.size, 6, none⟩ = some (.int .i64 0) := HZ1.out.cell 6 rfl
  have z7_ : w1.cell? ⟨w0.heap.size, 7, none⟩ = some (.int .i64 0) := HZ1.out.cell 7 rfl
  have z8_ : w1.cell? ⟨w0.heap.size, 8, none⟩ = some (.int .i64 0) := HZ1.out.cell 8 rfl
  have z9_ : w1.cell? ⟨w0.heap.size, 9, none⟩ = some (.int .i64 0) := HZ1.out.cell 9 rfl
  have z10_ : w1.cell? ⟨w0.heap.size, 10, none⟩ = some (.slice none 0 0) := HZ1.out.cell 10 rfl
  have z11_ : w1.cell? ⟨w0.heap.size, 11, none⟩ = some (.slice none 0 0) := HZ1.out.cell 11 rfl
  have z12_ : w1.cell? ⟨w0.heap.size, 12, none⟩ = some (.slice none 0 0) := HZ1.out.cell 12 rfl
  have f0_ := HZ1.out.fr 0
  have f1_ := HZ1.out.fr 1
  have f2_ := HZ1.out.fr 2
  have f3_ := HZ1.out.fr 3
  have f4_ := HZ1.out.fr 4
  have f5_ := HZ1.out.fr 5
  have f6_ := HZ1.out.fr 6
  have f7_ := HZ1.out.fr 7
  have f8_ := HZ1.out.fr 8
  have f9_ := HZ1.out.fr 9
  have f10_ := HZ1.out.fr 10
  have f11_ := HZ1.out.fr 11
  have f12_ := HZ1.out.fr 12
  by_cases h0 : e = 0
  · subst h0
    have hr := HR.out
    have hn := HN.out rfl
    rw [if_pos rfl] at hr
    subst hr
    clear HR HN
    cases d1 : decide (wd < 1) with
    | true =>
      go_wp2_with fail
      obtain ⟨wf, hwf⟩ : ∃ X_, put13 w1 w0.heap.size (.int .i64 0) (.int .i64 0) (.int .i64 0) (.int .i64 0) (.int .i64 0) (.int .i64 0) (.int .i64 0) (.int .i64 0) (.int .i64 0) (.int .i64 0) (.slice none 0 0) (.slice none 0 0) (.slice none 0 0) = X_ := ⟨_, rfl⟩
      have hbf : Blk wf w0.heap.size zer13 29 := by rw [← hwf]; exact put13_blk HZ1.out (.int .i64 0) (.int .i64 0) (.int .i64 0) (.int .i64 0) (.int .i64 0) (.int .i64 0) (.int .i64 0) (.int .i64 0) (.int .i64 0) (.int .i64 0) (.slice none 0 0) (.slice none 0 0) (.slice none 0 0)
      have hkf : Below w0.heap.size w0 wf := by rw [← hwf]; exact HB1.out.trans (put13_below _ _ _ (.int .i64 0) (.int .i64 0) (.int .i64 0) (.int .i64 0) (.int .i64 0) (.int .i64 0) (.int .i64 0) (.int .i64 0) (.int .i64 0) (.int .i64 0) (.slice none 0 0) (.slice none 0 0) (.slice none 0 0) (Nat.le_refl _))
      unfold put13 at hwf
      rw [hwf]
      clear hwf z0_ f0_ z1_ f1_ z2_ f2_ z3_ f3_ z4_ f4_ z5_ f5_ z6_ f6_ z7_ f7_ z8_ f8_ z9_ f9_ z10_ f10_ z11_ f11_ z12_ f12_
      have c0_ : wf.cell? ⟨w0.heap.size, 0, none⟩ = some (.int .i64 0) := hbf.cell 0 rfl
      have c1_ : wf.cell? ⟨w0.heap.size, 1, none⟩ = some (.int .i64 0) := hbf.cell 1 rfl
      have c2_ : wf.cell? ⟨w0.heap.size, 2, none⟩ = some (.int .i64 0) := hbf.cell 2 rfl
      have c3_ : wf.cell? ⟨w0.heap.size, 3, none⟩ = some (.int .i64 0) := hbf.cell 3 rfl
      have c4_ : wf.cell? ⟨w0.heap.size, 4, none⟩ = some (.int .i64 0) := hbf.cell 4 rfl
      have c5_ : wf.cell? ⟨w0.heap.size, 5, none⟩ = some (.int .i64 0) := hbf.cell 5 rfl
      have c6_ : wf.cell? ⟨w0.heap.size, 6, none⟩ = some (.int .i64 0) := hbf.cell 6 rfl
      have c7_ : wf.cell? ⟨w0.heap.size, 7, none⟩ = some (.int .i64 0) := hbf.cell 7 rfl
      have c8_ : wf.cell? ⟨w0.heap.size, 8, none⟩ = some (.int .i64 0) := hbf.cell 8 rfl
      have c9_ : wf.cell? ⟨w0.heap.size, 9, none⟩ = some (.int .i64 0) := hbf.cell 9 rfl
      have c10_ : wf.cell? ⟨w0.heap.size, 10, none⟩ = some (.slice none 0 0) := hbf.cell 10 rfl
      have c11_ : wf.cell? ⟨w0.heap.size, 11, none⟩ = some (.slice none 0 0) := hbf.cell 11 rfl
      have c12_ : wf.cell? ⟨w0.heap.size, 12, none⟩ = some (.slice none 0 0) := hbf.cell 12 rfl
      refine bodyPost_ret (v := .tuple #[numV zer6 0 0 0 0 (.slice none 0 0) (.slice none 0 0) (.slice none 0 0), .int .i64 2]) ?_ rfl ⟨_, rfl, NumR.zero _ _, base0 HW0.out hkf⟩
      simp [results, Tryd.results11, go_sem, hu29, hu27, c0_, c1_, c2_, c3_, c4_, c5_, c6_, c7_, c8_, c9_, c10_, c11_, c12_]
      rfl
    | false =>
      have d2 : decide (20 < wd) = true := by have := of_decide_eq_false d1; exact decide_eq_true (by omega)
      go_wp2_with fail
      obtain ⟨wf, hwf⟩ : ∃ X_, put13 w1 w0.heap.size (.int .i64 0) (.int .i64 0) (.int .i64 0) (.int .i64 0) (.int .i64 0) (.int .i64 0) (.int .i64 0) (.int .i64 0) (.int .i64 0) (.int .i64 0) (.slice none 0 0) (.slice none 0 0) (.slice none 0 0) = X_ := ⟨_, rfl⟩
      have hbf : Blk wf w0.heap.size zer13 29 := by rw [← hwf]; exact put13_blk HZ1.out (.int .i64 0) (.int .i64 0) (.int .i64 0) (.int .i64 0) (.int .i64 0) (.int .i64 0) (.int .i64 0) (.int .i64 0) (.int .i64 0) (.int .i64 0) (.slice none 0 0) (.slice none 0 0) (.slice none 0 0)
      have hkf : Below w0.heap.size w0 wf := by rw [← hwf]; exact HB1.out.trans (put13_below _ _ _ (.int .i64 0) (.int .i64 0) (.int .i64 0) (.int .i64 0) (.int .i64 0) (.int .i64 0) (.int .i64 0) (.int .i64 0) (.int .i64 0) (.int .i64 0) (.slice none 0 0) (.slice none 0 0) (.slice none 0 0) (Nat.le_refl _))
      unfold put13 at hwf
      rw [hwf]
      clear hwf z0_ f0_ z1_ f1_ z2_ f2_ z3_ f3_ z4_ f4_ z5_ f5_ z6_ f6_ z7_ f7_ z8_ f8_ z9_ f9_ z10_ f10_ z11_ f11_ z12_ f12_
      have c0_ : wf.cell? ⟨w0.heap.size, 0, none⟩ = some (.int .i64 0) := hbf.cell 0 rfl
      have c1_ : wf.cell? ⟨w0.heap.size, 1, none⟩ = some (.int .i64 0) := hbf.cell 1 rfl
      have c2_ : wf.cell? ⟨w0.heap.size, 2, none⟩ = some (.int .i64 0) := hbf.cell 2 rfl
      have c3_ : wf.cell? ⟨w0.heap.size, 3, none⟩ = some (.int .i64 0) := hbf.cell 3 rfl
      have c4_ : wf.cell? ⟨w0.heap.size, 4, none⟩ = some (.int .i64 0) := hbf.cell 4 rfl
      have c5_ : wf.cell? ⟨w0.heap.size, 5, none⟩ = some (.int .i64 0) := hbf.cell 5 rfl
      have c6_ : wf.cell? ⟨w0.heap.size, 6, none⟩ = some (.int .i64 0) := hbf.cell 6 rfl
      have c7_ : wf.cell? ⟨w0.heap.size, 7, none⟩ = some (.int .i64 0) := hbf.cell 7 rfl
      have c8_ : wf.cell? ⟨w0.heap.size, 8, none⟩ = some (.int .i64 0) := hbf.cell 8 rfl
      have c9_ : wf.cell? ⟨w0.heap.size, 9, none⟩ = some (.int .i64 0) := hbf.cell 9 rfl
      have c10_ : wf.cell? ⟨w0.heap.size, 10, none⟩ = some (.slice none 0 0) := hbf.cell 10 rfl
      have c11_ : wf.cell? ⟨w0.heap.size, 11, none⟩ = some (.slice none 0 0) := hbf.cell 11 rfl
      have c12_ : wf.cell? ⟨w0.heap.size, 12, none⟩ = some (.slice none 0 0) := hbf.cell 12 rfl
      refine bodyPost_ret (v := .tuple #[numV zer6 0 0 0 0 (.slice none 0 0) (.slice none 0 0) (.slice none 0 0), .int .i64 2]) ?_ rfl ⟨_, rfl, NumR.zero _ _, base0 HW0.out hkf⟩
      simp [results, Tryd.results11, go_sem, hu29, hu27, c0_, c1_, c2_, c3_, c4_, c5_, c6_, c7_, c8_, c9_, c10_, c11_, c12_]
      rfl
  · have n4 : (e != 0) = true := bne_iff_ne.mpr h0
    have hr := HR.out
    rw [if_neg h0] at hr
    subst hr
    clear HR HN
    go_wp2_with fail
    obtain ⟨wf, hwf⟩ : ∃ X_, put13 w1 w0.heap.size (.int .i64 0) (.int .i64 0) (.int .i64 0) (.int .i64 0) (.int .i64 0) (.int .i64 0) (.int .i64 0) (.int .i64 0) (.int .i64 0) (.int .i64 0) (.slice none 0 0) (.slice none 0 0) (.slice none 0 0) = X_ := ⟨_, rfl⟩
    have hbf : Blk wf w0.heap.size zer13 29 := by rw [← hwf]; exact put13_blk HZ1.out (.int .i64 0) (.int .i64 0) (.int .i64 0) (.int .i64 0) (.int .i64 0) (.int .i64 0) (.int .i64 0) (.int .i64 0) (.int .i64 0) (.int .i64 0) (.slice none 0 0) (.slice none 0 0) (.slice none 0 0)
    have hkf : Below w0.heap.size w0 wf := by rw [← hwf]; exact HB1.out.trans (put13_below _ _ _ (.int .i64 0) (.int .i64 0) (.int .i64 0) (.int .i64 0) (.int .i64 0) (.int .i64 0) (.int .i64 0) (.int .i64 0) (.int .i64 0) (.int .i64 0) (.slice none 0 0) (.slice none 0 0) (.slice none 0 0) (Nat.le_refl _))
    unfold put13 at hwf
    rw [hwf]
    clear hwf z0_ f0_ z1_ f1_ z2_ f2_ z3_ f3_ z4_ f4_ z5_ f5_ z6_ f6_ z7_ f7_ z8_ f8_ z9_ f9_ z10_ f10_ z11_ f11_ z12_ f12_
    have c0_ : wf.cell? ⟨w0.heap.size, 0, none⟩ = some (.int .i64 0) := hbf.cell 0 rfl
    have c1_ : wf.cell? ⟨w0.heap.size, 1, none⟩ = some (.int .i64 0) := hbf.cell 1 rfl
    have c2_ : wf.cell? ⟨w0.heap.size, 2, none⟩ = some (.int .i64 0) := hbf.cell 2 rfl
    have c3_ : wf.cell? ⟨w0.heap.size, 3, none⟩ = some (.int .i64 0) := hbf.cell 3 rfl
    have c4_ : wf.cell? ⟨w0.heap.size, 4, none⟩ = some (.int .i64 0) := hbf.cell 4 rfl
    have c5_ : wf.cell? ⟨w0.heap.size, 5, none⟩ = some (.int .i64 0) := hbf.cell 5 rfl
    have c6_ : wf.cell? ⟨w0.heap.size, 6, none⟩ = some (.int .i64 0) := hbf.cell 6 rfl
    have c7_ : wf.cell? ⟨w0.heap.size, 7, none⟩ = some (.int .i64 0) := hbf.cell 7 rfl
    have c8_ : wf.cell? ⟨w0.heap.size, 8, none⟩ = some (.int .i64 0) := hbf.cell 8 rfl
    have c9_ : wf.cell? ⟨w0.heap.size, 9, none⟩ = some (.int .i64 0) := hbf.cell 9 rfl
    have c10_ : wf.cell? ⟨w0.heap.size, 10, none⟩ = some (.slice none 0 0) := hbf.cell 10 rfl
    have c11_ : wf.cell? ⟨w0.heap.size, 11, none⟩ = some (.slice none 0 0) := hbf.cell 11 rfl
    have c12_ : wf.cell? ⟨w0.heap.size, 12, none⟩ = some (.slice none 0 0) := hbf.cell 12 rfl
    refine bodyPost_ret (v := .tuple #[numV zer6 0 0 0 0 (.slice none 0 0) (.slice none 0 0) (.slice none 0 0), .int .i64 r]) ?_ rfl ⟨_, rfl, NumR.zero _ _, base0 HW0.out hkf⟩
    simp [results, Tryd.results11, go_sem, hu29, hu27, c0_, c1_, c2_, c3_, c4_, c5_, c6_, c7_, c8_, c9_, c10_, c11_, c12_]
    rfl

def report_Count.f (k : Nat) (l : List S41) (wd : Int) : Option (Num × Int) :=
  (report_Check.f k l).bind fun e => if e.1 = 0 then (if wd < 1 ∨ 20 < wd then some (num0, 2) else
    (allF k ((orU l).toNat ||| (orD l).toNat) (orU l) (orD l)).map fun xs => (numOf (cntV wd l (zer6, List.replicate (if 0 < l.length then (rd_T41 l 0).f2.length else 0) 0, List.replicate (if 0 < l.length then (rd_T41 l 0).f2.length else 0) 0, List.replicate (if 0 < l.length then (rd_T41 l 0).f2.length else 0) 0)) (xs.foldl (pcL l) (0, 0, 0, 0)), 0)) else some (num0, e.1)
theorem report_Count.calls (k : Nat) (A0 : Option Addr) (c0 : Nat) (l0 : List S41) (wd : Int) (n : Num) (r2 : Int) (w : World) (HL : LaidAt w) (hv : ∀ v ∈ l0, Pure.WV v) (hr0 : Kd.C k41 w A0 l0.length l0) (hc0 : l0.length ≤ c0) (h : report_Count.f k l0 wd = some (n, r2)) :
    Calls Tryd.prog 11 #[.slice A0 l0.length c0, .int .i64 wd] w fun e w' => ∃ v, e = .returned (.tuple #[v, .int .i64 r2]) ∧ NumR w' w.heap.size v n ∧ Below w.heap.size w w' := by
  obtain ⟨⟨e, i⟩, he, h⟩ := Option.bind_eq_some_iff.1 h
  by_cases h0 : e = 0
  · subst h0
    rw [if_pos rfl] at h
    by_cases h1 : wd < 1 ∨ 20 < wd
    · rw [if_pos h1] at h
      obtain ⟨rfl, rfl⟩ := Prod.mk.inj (Option.some.inj h)
      exact Count_no k A0 c0 l0 wd 0 i 2 w hr0 hc0 he (by rw [if_pos rfl]) (fun _ => h1)
    · rw [if_neg h1] at h
      obtain ⟨xs, hx, h⟩ := Option.map_eq_some_iff.1 h
      obtain ⟨rfl, rfl⟩ := Prod.mk.inj h
      exact Count_yes k k A0 c0 l0 wd i w HL hr0 hc0 he (by omega) (by omega) (Pure.chk_ok (Pure.check_chk hv he).symm) hv _ rfl xs hx _ rfl
  · rw [if_neg h0] at h
    obtain ⟨rfl, rfl⟩ := Prod.mk.inj (Option.some.inj h)
    exact Count_no k A0 c0 l0 wd e i e w hr0 hc0 he (by rw [if_neg h0]) (fun h => absurd h h0)

end Go.Proofs.YtenlokaaloenmaaDoor.S

namespace Go.Proofs.YtenlokaaloenmaaDoor.S
open Go.RowKit Go.Proofs.YtenlokaaloenmaaDoorW.PrintWords Go.Proofs.YtenlokaaloenmaaDoorW.PrintLast Go.Proofs.YtenlokaaloenmaaDoorW.PrintMore

deriving instance DecidableEq for Num
deriving instance DecidableEq for S66
deriving instance DecidableEq for S43
deriving instance DecidableEq for S41
deriving instance DecidableEq for S57

/-- The chapter's views, and their numbers. -/
def shownL : List S41 := [⟨7, [⟨1, 1⟩], [⟨2, 2, false⟩], 4, 0, -1⟩, ⟨8, [⟨1, 2⟩], [⟨2, 3, false⟩], 4, 1, -1⟩, ⟨9, [], [⟨-1, 0, true⟩], 0, 1, -1⟩]
def numA : Num := ⟨[1, 1, 0, 0, 0, 0], 2, 1, 2, 2, [2], [1], [1]⟩
theorem shown_val : tipstafflaw43_shown.f = some shownL := rfl
theorem count_val : report_Count.f 100 shownL 3 = some (numA, 0) := by decide +kernel
theorem lights_val : report_Lights.f 100 shownL = some ([1, 2, 1], 0) := by decide +kernel
theorem spell_val : tipstafflaw43_spell.f 100 2 true [⟨7, 9⟩] = some true := by decide +kernel
theorem same_val : tipstafflaw43_same.f 100 numA numA = some true := by decide +kernel
theorem ints_val : tipstaffkit_SameInts.f 100 [1, 2, 1] [1, 2, 1] = some true := by decide +kernel
theorem shown_wv : ∀ v ∈ shownL, Pure.WV v := by
  intro v hv
  simp only [shownL, List.mem_cons, List.not_mem_nil, or_false] at hv
  rcases hv with rfl | rfl | rfl <;> exact ⟨⟨by decide, by decide⟩, by decide, by decide, ⟨by decide, by decide⟩, by decide, by decide⟩

/-- A list written out, in a block of its own. -/
theorem lit_C (w : World) (g : Nat) (l : List Int) (h : Blk w g (nums .i64 l).toArray 3) (hl : l.length ≤ 1000000) : Kd.C (Kd.int .i64) w (some ⟨g, 0, none⟩) l.length l := by
  obtain ⟨A, c, hv, hc, hC⟩ := Kd.R_reads (RowI.R (base := 0) (.inr ⟨g, rfl, Nat.zero_le _, h⟩) hl)
  injection hv with h1 h2 h3
  rw [h1]; exact hC
theorem lit_C57 (w : World) (g : Nat) (l : List S57) (h : Blk w g (cellsS l).toArray 57) (hl : l.length ≤ 1000000) : Kd.C k57 w (some ⟨g, 0, none⟩) l.length l := by
  have hlen : ∀ l : List S57, (cellsS l).length = l.length * 2 := by
    intro l
    induction l with
    | nil => rfl
    | cons x l ih => simp only [cellsS, List.flatMap_cons, List.length_append, List.length_cons, List.length_nil] at ih ⊢; omega
  have hr : w.ownsRow 0 57 2 (.slice (some ⟨g, 0, none⟩) l.length l.length) l.length (cellsS l) :=
    ⟨hlen l, .inr ⟨g, l.length, (cellsS l).toArray, rfl, Nat.zero_le _, h, Nat.le_refl _, by unfold maxLen; omega, by simp [hlen], by rw [← hlen]; simp⟩⟩
  obtain ⟨A, c, hv, hc, hC⟩ := Kd.R_reads (R57_of_own hr)
  injection hv with h1 h2 h3
  rw [h1]; exact hC

def tipstafflaw43_awake.f : Option Bool := some true
set_option maxHeartbeats 4000000 in
set_option maxRecDepth 100000 in
theorem awake_calls (w : World) (HL : LaidAt w) : Calls Tryd.prog 15 #[] w fun e w' => e = .returned (.bool true) ∧ Below w.heap.size w w' := by
  have hu29 := Tryd.underlying29
  have hu27 := Tryd.underlying27
  have hu57 := Tryd.underlying57
  have HLA := Aside0.mk HL
  clear HL
  go_enter Tryd.func15, Tryd.ntmps15
  go_wp2_with fail
  refine (tipstafflaw43_shown.calls shownL _ shown_val).mono ?_
  rintro e w1 ⟨v1, rfl, hN, hb1⟩
  obtain ⟨A1, c1, rfl, hc1, hC1⟩ := Kd.N_reads hN
  have HB := Aside0.mk hb1
  have hL1 := HLA.out.below hb1
  clear hN hb1
  go_wp2_with fail
  refine (report_Count.calls 100 A1 c1 shownL 3 numA 0 w1 hL1 shown_wv hC1 hc1 count_val).mono ?_
  rintro e w2 ⟨v2, rfl, hN2, hb2⟩
  obtain ⟨va, vb, vc, rfl, hr, ha, hb, hc⟩ := hN2
  obtain ⟨ga, rfl, _, hga⟩ := ha.form (by decide)
  obtain ⟨gb, rfl, _, hgb⟩ := hb.form (by decide)
  obtain ⟨gc, rfl, _, hgc⟩ := hc.form (by decide)
  have HB2 : Aside0 (Below w.heap.size w w2) := ⟨below_step HB.out hb2⟩
  have GA := Aside0.mk hga
  have GB := Aside0.mk hgb
  have GC := Aside0.mk hgc
  clear hr ha hb hc hb2 hC1 hL1 hga hgb hgc
  simp only [numV, numA, numC, nums, List.map_cons, List.map_nil, List.cons_append, List.nil_append, List.length_cons, List.length_nil, Nat.zero_add]
  go_upto_region 2 with (fail)
  obtain ⟨bz, hbz⟩ : ∃ X_, w2.heap.size = X_ := ⟨_, rfl⟩
  obtain ⟨w3, hw3⟩ : ∃ X_, w2.alloc (.cells #[.int .i64 1, .int .i64 1, .int .i64 0, .int .i64 0, .int .i64 0, .int .i64 0, .int .i64 2, .int .i64 1, .int .i64 2, .int .i64 2, .slice (some ⟨ga, 0, none⟩) 1 1, .slice (some ⟨gb, 0, none⟩) 1 1, .slice (some ⟨gc, 0, none⟩) 1 1] 29) = X_ := ⟨_, rfl⟩
  have hZ : Blk w3 bz #[.int .i64 1, .int .i64 1, .int .i64 0, .int .i64 0, .int .i64 0, .int .i64 0, .int .i64 2, .int .i64 1, .int .i64 2, .int .i64 2, .slice (some ⟨ga, 0, none⟩) 1 1, .slice (some ⟨gb, 0, none⟩) 1 1, .slice (some ⟨gc, 0, none⟩) 1 1] 29 := by rw [← hw3, ← hbz]; exact Blk.new w2 _ _
  have hga3 : Blk w3 ga (nums .i64 [2]).toArray 3 := by rw [← hw3]; exact GA.out.alloc _
  have hgb3 : Blk w3 gb (nums .i64 [1]).toArray 3 := by rw [← hw3]; exact GB.out.alloc _
  have hgc3 : Blk w3 gc (nums .i64 [1]).toArray 3 := by rw [← hw3]; exact GC.out.alloc _
  have hB3 : Below w.heap.size w w3 := by rw [← hw3]; exact HB2.out.alloc HB2.out.size _
  rw [hw3, hbz]
  have HZ := Aside0.mk hZ
  have GA3 := Aside0.mk hga3
  have GB3 := Aside0.mk hgb3
  have GC3 := Aside0.mk hgc3
  have HB3 := Aside0.mk hB3
  clear hZ hga3 hgb3 hgc3 hB3 hw3 hbz GA GB GC HB2 HB
  go_wp2_with fail
  refine (tipstafflaw43_shown.calls shownL _ shown_val).mono ?_
  rintro e w4 ⟨v4, rfl, hN, hb4⟩
  obtain ⟨A4, c4, rfl, hc4, hC4⟩ := Kd.N_reads hN
  have HZ4 := Aside0.mk (HZ.out.below hb4 HZ.out.lt)
  have GA4 := Aside0.mk (GA3.out.below hb4 GA3.out.lt)
  have GB4 := Aside0.mk (GB3.out.below hb4 GB3.out.lt)
  have GC4 := Aside0.mk (GC3.out.below hb4 GC3.out.lt)
  have HB4 := Aside0.mk (below_step HB3.out hb4)
  clear hN hb4 HZ GA3 GB3 GC3 HB3
  go_wp2_with fail
  refine (report_Lights.calls 100 A4 c4 shownL [1, 2, 1] 0 w4 hC4 hc4 lights_val).mono ?_
  rintro e w5 ⟨v5, rfl, hR5, hb5⟩
  obtain ⟨A5, c5, rfl, hc5, hC5⟩ := Kd.R_reads hR5
  have HZ5 := Aside0.mk (HZ4.out.below hb5 HZ4.out.lt)
  have GA5 := Aside0.mk (GA4.out.below hb5 GA4.out.lt)
  have GB5 := Aside0.mk (GB4.out.below hb5 GB4.out.lt)
  have GC5 := Aside0.mk (GC4.out.below hb5 GC4.out.lt)
  have HB5 := Aside0.mk (below_step HB4.out hb5)
  have R5 := Aside0.mk hC5
  clear hR5 hb5 HZ4 GA4 GB4 GC4 HB4 hC4 hC5
  have z0_ : w5.cell? ⟨bz, 0, none⟩ = some (.int .i64 1) := HZ5.out.cell 0 rfl
  have z1_ : w5.cell? ⟨bz, 1, none⟩ = some (.int .i64 1) := HZ5.out.cell 1 rfl
  have z2_ : w5.cell? ⟨bz, 2, none⟩ = some (.int .i64 0) := HZ5.out.cell 2 rfl
  have z3_ : w5.cell? ⟨bz, 3, none⟩ = some (.int .i64 0) := HZ5.out.cell 3 rfl
  have z4_ : w5.cell? ⟨bz, 4, none⟩ = some (.int .i64 0) := HZ5.out.cell 4 rfl
  have z5_ : w5.cell? ⟨bz, 5, none⟩ = some (.int .i64 0) := HZ5.out.cell 5 rfl
  have z6_ : w5.cell? ⟨bz, 6, none⟩ = some (.int .i64 2) := HZ5.out.cell 6 rfl
  have z7_ : w5.cell? ⟨bz, 7, none⟩ = some (.int .i64 1) := HZ5.out.cell 7 rfl
  have z8_ : w5.cell? ⟨bz, 8, none⟩ = some (.int .i64 2) := HZ5.out.cell 8 rfl
  have z9_ : w5.cell? ⟨bz, 9, none⟩ = some (.int .i64 2) := HZ5.out.cell 9 rfl
  have z10_ : w5.cell? ⟨bz, 10, none⟩ = some (.slice (some ⟨ga, 0, none⟩) 1 1) := HZ5.out.cell 10 rfl
  have z11_ : w5.cell? ⟨bz, 11, none⟩ = some (.slice (some ⟨gb, 0, none⟩) 1 1) := HZ5.out.cell 11 rfl
  have z12_ : w5.cell? ⟨bz, 12, none⟩ = some (.slice (some ⟨gc, 0, none⟩) 1 1) := HZ5.out.cell 12 rfl
  clear HZ5
  go_wp2_with fail
  clear z0_ z1_ z2_ z3_ z4_ z5_ z6_ z7_ z8_ z9_ z10_ z11_ z12_
  obtain ⟨N5, hN5⟩ : ∃ X_, w5.heap.size = X_ := ⟨_, rfl⟩
  obtain ⟨w6, hw6⟩ : ∃ X_, ((w5.alloc (.cells #[.int .i64 2] 3)).alloc (.cells #[.int .i64 1] 3)).alloc (.cells #[.int .i64 1] 3) = X_ := ⟨_, rfl⟩
  have h0 : Blk w6 N5 (nums .i64 [2]).toArray 3 := by rw [← hw6, ← hN5]; exact ((Blk.new w5 _ _).alloc _).alloc _
  have h1 : Blk w6 (N5 + 1) (nums .i64 [1]).toArray 3 := by
    have q := (Blk.new (w5.alloc (.cells #[.int .i64 2] 3)) (nums .i64 [1]).toArray 3).alloc (.cells #[.int .i64 1] 3)
    rw [World.size_alloc, hN5] at q
    rw [← hw6]; exact q
  have h2 : Blk w6 (N5 + 1 + 1) (nums .i64 [1]).toArray 3 := by
    have q := Blk.new ((w5.alloc (.cells #[.int .i64 2] 3)).alloc (.cells #[.int .i64 1] 3)) (nums .i64 [1]).toArray 3
    rw [World.size_alloc, World.size_alloc, hN5] at q
    rw [← hw6]; exact q
  have hb6 : Below w5.heap.size w5 w6 := by rw [← hw6]; exact (((Below.refl _ w5).alloc (Nat.le_refl _) _).alloc (by simp) _).alloc (by simp; omega) _
  rw [hw6, hN5]
  have hv1 : NumC w6 (numV [1, 1, 0, 0, 0, 0] 2 1 2 2 (.slice (some ⟨ga, 0, none⟩) 1 1) (.slice (some ⟨gb, 0, none⟩) 1 1) (.slice (some ⟨gc, 0, none⟩) 1 1)) numA :=
    ⟨_, _, _, rfl, rfl, ⟨_, _, rfl, Nat.le_refl _, lit_C _ _ _ (GA5.out.below hb6 GA5.out.lt) (by decide)⟩, ⟨_, _, rfl, Nat.le_refl _, lit_C _ _ _ (GB5.out.below hb6 GB5.out.lt) (by decide)⟩, ⟨_, _, rfl, Nat.le_refl _, lit_C _ _ _ (GC5.out.below hb6 GC5.out.lt) (by decide)⟩⟩
  have hv2 : NumC w6 (numV [1, 1, 0, 0, 0, 0] 2 1 2 2 (.slice (some ⟨N5, 0, none⟩) 1 1) (.slice (some ⟨N5 + 1, 0, none⟩) 1 1) (.slice (some ⟨N5 + 1 + 1, 0, none⟩) 1 1)) numA :=
    ⟨_, _, _, rfl, rfl, ⟨_, _, rfl, Nat.le_refl _, lit_C _ _ _ h0 (by decide)⟩, ⟨_, _, rfl, Nat.le_refl _, lit_C _ _ _ h1 (by decide)⟩, ⟨_, _, rfl, Nat.le_refl _, lit_C _ _ _ h2 (by decide)⟩⟩
  have HB6 := Aside0.mk (below_step HB5.out hb6)
  have R6 := Aside0.mk (Kd.C_below R5.out hb6)
  have HV1 := Aside0.mk hv1
  have HV2 := Aside0.mk hv2
  clear hv1 hv2 h0 h1 h2 hb6 hw6 hN5 GA5 GB5 GC5 HB5 R5
  refine (tipstafflaw43_same.calls 100 _ _ numA numA true w6 HV1.out HV2.out same_val).mono ?_
  rintro e w7 ⟨rfl, hb7⟩
  have HB7 := Aside0.mk (below_step HB6.out hb7)
  have R7 := Aside0.mk (Kd.C_below R6.out hb7)
  clear hb7 HB6 R6 HV1 HV2
  go_wp2_with fail
  obtain ⟨N7, hN7⟩ : ∃ X_, w7.heap.size = X_ := ⟨_, rfl⟩
  obtain ⟨w8, hw8⟩ : ∃ X_, w7.alloc (.cells #[.int .i64 1, .int .i64 2, .int .i64 1] 3) = X_ := ⟨_, rfl⟩
  have h8 : Blk w8 N7 (nums .i64 [1, 2, 1]).toArray 3 := by rw [← hw8, ← hN7]; exact Blk.new w7 _ _
  have hb8 : Below w7.heap.size w7 w8 := by rw [← hw8]; exact (Below.refl _ w7).alloc (Nat.le_refl _) _
  rw [hw8, hN7]
  refine (tipstaffkit_SameInts.calls 100 A5 c5 [1, 2, 1] (some ⟨N7, 0, none⟩) 3 [1, 2, 1] true w8 (Kd.C_below R7.out hb8) hc5 (lit_C _ _ _ h8 (by decide)) (by decide) ints_val).mono ?_
  rintro e w9 ⟨rfl, hd9⟩
  have HB9 := Aside0.mk (below_step (below_step HB7.out hb8) hd9.below)
  clear hb8 hd9 h8 hw8 hN7 HB7 R7
  go_wp2_with fail
  obtain ⟨N9, hN9⟩ : ∃ X_, w9.heap.size = X_ := ⟨_, rfl⟩
  obtain ⟨w10, hw10⟩ : ∃ X_, w9.alloc (.cells #[.int .i64 7, .int .i64 9] 57) = X_ := ⟨_, rfl⟩
  have h10 : Blk w10 N9 (cellsS [⟨7, 9⟩]).toArray 57 := by rw [← hw10, ← hN9]; exact Blk.new w9 _ _
  have hb10 : Below w9.heap.size w9 w10 := by rw [← hw10]; exact (Below.refl _ w9).alloc (Nat.le_refl _) _
  rw [hw10, hN9]
  refine (tipstafflaw43_spell.calls 100 2 true (some ⟨N9, 0, none⟩) 1 [⟨7, 9⟩] true w10 (lit_C57 _ _ _ h10 (by decide)) (by decide) spell_val).mono ?_
  rintro e w11 ⟨rfl, hb11⟩
  have HB11 := Aside0.mk (below_step (below_step HB9.out hb10) hb11)
  clear hb10 hb11 h10 hw10 hN9 HB9
  go_wp2_with fail
  go_ret
  exact ⟨rfl, HB11.out⟩
theorem tipstafflaw43_awake.calls (r : Bool) (w : World) (HL : LaidAt w) (h : tipstafflaw43_awake.f = some r) : Calls Tryd.prog 15 #[] w fun e w' => e = .returned (.bool r) ∧ Below w.heap.size w w' := by
  obtain rfl : true = r := Option.some.inj h
  exact awake_calls w HL

end Go.Proofs.YtenlokaaloenmaaDoor.S
