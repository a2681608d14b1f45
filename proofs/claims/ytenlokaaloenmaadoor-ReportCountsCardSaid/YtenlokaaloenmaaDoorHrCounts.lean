/- ReportCounts, walked. -/
import Derived.Test.YtenlokaaloenmaaDoorHawake
import Derived.Test.YtenlokaaloenmaaDoorM5
import Derived.Test.YtenlokaaloenmaaDoorHrcount
import Derived.Test.YtenlokaaloenmaaDoorM7
import Derived.Test.YtenlokaaloenmaaDoorM3
import Derived.Test.YtenlokaaloenmaaDoorS4
import Derived.Test.YtenlokaaloenmaaDoorS10
namespace Go.Proofs.YtenlokaaloenmaaDoor.S
open Go.RowKit Go.Proofs.YtenlokaaloenmaaDoorW.PrintWords Go.Proofs.YtenlokaaloenmaaDoorW.PrintLast Go.Proofs.YtenlokaaloenmaaDoorW.PrintMore
set_option linter.unusedVariables false
set_option linter.unusedSimpArgs false
set_option linter.unusedVariables false

instance : DecidablePred Pure.WV := fun v => by unfold Pure.WV Pure.I64; infer_instance
instance : DecidablePred Num8 := fun n => by unfold Num8; infer_instance
theorem same_self (n : Num) (h8 : Num8 n) : ∃ k, tipstafflaw43_same.f k n n = some true := by
  obtain ⟨h1, h2, h3⟩ := h8
  obtain ⟨k1, g1⟩ := Pure.ints_ev n.a (by omega)
  obtain ⟨k2, g2⟩ := Pure.ints_ev n.b (by omega)
  obtain ⟨k3, g3⟩ := Pure.ints_ev n.c (by omega)
  refine ⟨k1 + k2 + k3, ?_⟩
  replace g1 : ∀ k, k1 ≤ k → tipstaffkit_SameInts.f k n.a n.a = some true := g1
  replace g2 : ∀ k, k2 ≤ k → tipstaffkit_SameInts.f k n.b n.b = some true := g2
  replace g3 : ∀ k, k3 ≤ k → tipstaffkit_SameInts.f k n.c n.c = some true := g3
  unfold tipstafflaw43_same.f
  rw [if_pos rfl, if_pos rfl, if_pos rfl, if_pos rfl, if_pos rfl, g1 _ (by omega), Option.bind_some, if_pos rfl, g2 _ (by omega), Option.bind_some, if_pos rfl, g3 _ (by omega)]

def tipstafflaw43_ReportCounts.f (k : Nat) (l : List S41) (wd : Int) : Option Bool :=
  (tipstafflaw43_light.f k l).bind fun t => if t = true then
    (tipstafflaw43_own.f l).bind fun h => (report_Check.f k h).bind fun a => (tipstaffref43_Check.f k l).bind fun b => (report_Count.f k h wd).bind fun c => (tipstaffref43_Count.f k l wd).bind fun d =>
      if (∀ v ∈ l, Pure.WV v) ∧ Num8 c.1 ∧ a = b ∧ c = d then some true else none
  else some true

set_option maxHeartbeats 4000000 in
set_option maxRecDepth 100000 in
theorem rcounts_no (k : Nat) (A0 : Option Addr) (c0 : Nat) (l : List S41) (wd : Int) (w : World) (HL : LaidAt w) (hr0 : Kd.C k41 w A0 l.length l) (hc0 : l.length ≤ c0) (h : tipstafflaw43_light.f k l = some false) :
    Calls Tryd.prog 5 #[.slice A0 l.length c0, .int .i64 wd] w fun e w' => e = .returned (.bool true) ∧ Below w.heap.size w w' := by
  have HLA := Aside0.mk HL
  have H := Aside0.mk h
  have R0 := Aside0.mk hr0
  clear HL h hr0
  go_enter Tryd.func5, Tryd.ntmps5
  go_wp2_with fail
  refine (tipstafflaw43_light.calls k A0 c0 l false w R0.out hc0 H.out).mono ?_
  rintro e w1 ⟨rfl, hb1⟩
  have HB1 := Aside0.mk hb1
  clear hb1
  go_wp2_with fail
  refine (tipstafflaw43_awake.calls true w1 (HLA.out.below HB1.out.below) rfl).mono ?_
  rintro e w2 ⟨rfl, hb2⟩
  have HB2 := Aside0.mk (below_step HB1.out.below hb2)
  clear hb2
  go_wp2_with fail
  go_ret
  exact ⟨rfl, HB2.out⟩

set_option maxHeartbeats 8000000 in
set_option maxRecDepth 100000 in
theorem rcounts_yes (k : Nat) (A0 : Option Addr) (c0 : Nat) (l : List S41) (wd : Int) (w : World) (HL : LaidAt w) (hr0 : Kd.C k41 w A0 l.length l) (hc0 : l.length ≤ c0) (h : tipstafflaw43_light.f k l = some true)
    (hown : tipstafflaw43_own.f l = some l) (e1 e2 : Int) (hchk : report_Check.f k l = some (e1, e2)) (hrchk : tipstaffref43_Check.f k l = some (e1, e2)) (n : Num) (e3 : Int) (hcnt : report_Count.f k l wd = some (n, e3)) (hrcnt : tipstaffref43_Count.f k l wd = some (n, e3))
    (hv : ∀ v ∈ l, Pure.WV v) (h8 : Num8 n) :
    Calls Tryd.prog 5 #[.slice A0 l.length c0, .int .i64 wd] w fun e w' => e = .returned (.bool true) ∧ Below w.heap.size w w' := by
  have hu29 := Tryd.underlying29
  have hu27 := Tryd.underlying27
  have HLA := Aside0.mk HL
  have H := Aside0.mk h
  have R0 := Aside0.mk hr0
  have HO := Aside0.mk hown
  have HCH := Aside0.mk hchk
  have HRC := Aside0.mk hrchk
  have HCN := Aside0.mk hcnt
  have HRN := Aside0.mk hrcnt
  have HV := Aside0.mk hv
  have H8 := Aside0.mk h8
  obtain ⟨ks, hks⟩ := same_self n h8
  have HS := Aside0.mk hks
  clear HL h hr0 hown hchk hrchk hcnt hrcnt hv h8 hks
  go_enter Tryd.func5, Tryd.ntmps5
  go_wp2_with fail
  refine (tipstafflaw43_light.calls k A0 c0 l true w R0.out hc0 H.out).mono ?_
  rintro e w1 ⟨rfl, hb1⟩
  have HB1 := Aside0.mk hb1.below
  clear hb1
  go_wp2_with fail
  refine (tipstafflaw43_own.calls A0 c0 l l w1 (Kd.C_below R0.out HB1.out) hc0 HO.out).mono ?_
  rintro e w2 ⟨v2, rfl, hS2, hb2⟩
  obtain ⟨A2, c2, rfl, hc2, hC2⟩ := Kd.S_reads hS2
  have R2 := Aside0.mk hC2
  have HB2 := Aside0.mk (below_step HB1.out hb2)
  clear hS2 hC2 hb2 HB1
  go_wp2_with fail
  refine (report_Check.calls k A2 c2 l e1 e2 w2 R2.out hc2 HCH.out).mono ?_
  rintro e w3 ⟨rfl, hb3⟩
  have R3 := Aside0.mk (Kd.C_below R2.out hb3)
  have HB3 := Aside0.mk (below_step HB2.out hb3)
  clear hb3 R2 HB2
  go_wp2_with fail
  refine (tipstaffref43_Check.calls k A0 c0 l e1 e2 w3 (Kd.C_below R0.out HB3.out) hc0 HRC.out).mono ?_
  rintro e w4 ⟨rfl, hb4⟩
  have R4 := Aside0.mk (Kd.C_below R3.out hb4)
  have HB4 := Aside0.mk (below_step HB3.out hb4)
  clear hb4 R3 HB3
  go_wp2_with fail
  refine (report_Count.calls k A2 c2 l wd n e3 w4 (HLA.out.below HB4.out) HV.out R4.out hc2 HCN.out).mono ?_
  rintro e w5 ⟨v5, rfl, hN5, hb5⟩
  obtain ⟨va, vb, vc, rfl, hr6, ⟨B1, d1, rfl, m1, g1⟩, ⟨B2, d2, rfl, m2, g2⟩, ⟨B3, d3, rfl, m3, g3⟩⟩ := hN5.C H8.out
  have R5 := Aside0.mk (Kd.C_below R4.out hb5)
  have HB5 := Aside0.mk (below_step HB4.out hb5)
  obtain ⟨r, lit, out, sum, most, na, nb, nc⟩ := n
  simp only at *
  obtain ⟨a0, a1, a2, a3, a4, a5, rfl⟩ := len6 hr6
  have G1 := Aside0.mk g1
  have G2 := Aside0.mk g2
  have G3 := Aside0.mk g3
  clear g1 g2 g3 hN5 hb5 R4 HB4
  simp only [numV, numC, nums, List.map_cons, List.map_nil, List.cons_append, List.nil_append]
  go_upto_region 7 with (fail)
  obtain ⟨bz, hbz⟩ : ∃ X_, w5.heap.size = X_ := ⟨_, rfl⟩
  obtain ⟨w6, hw6⟩ : ∃ X_, w5.alloc (.cells #[.int .i64 a0, .int .i64 a1, .int .i64 a2, .int .i64 a3, .int .i64 a4, .int .i64 a5, .int .i64 lit, .int .i64 out, .int .i64 sum, .int .i64 most, .slice B1 na.length d1, .slice B2 nb.length d2, .slice B3 nc.length d3] 29) = X_ := ⟨_, rfl⟩
  have hZ : Blk w6 bz #[.int .i64 a0, .int .i64 a1, .int .i64 a2, .int .i64 a3, .int .i64 a4, .int .i64 a5, .int .i64 lit, .int .i64 out, .int .i64 sum, .int .i64 most, .slice B1 na.length d1, .slice B2 nb.length d2, .slice B3 nc.length d3] 29 := by rw [← hw6, ← hbz]; exact Blk.new w5 _ _
  have hb6 : Below w5.heap.size w5 w6 := by rw [← hw6]; exact below_alloc (Below.refl _ _) _
  rw [hw6, hbz]
  have HZ6 := Aside0.mk hZ
  have R6 := Aside0.mk (Kd.C_below R5.out hb6)
  have G16 := Aside0.mk (Kd.C_below G1.out hb6)
  have G26 := Aside0.mk (Kd.C_below G2.out hb6)
  have G36 := Aside0.mk (Kd.C_below G3.out hb6)
  have HB6 := Aside0.mk (below_step HB5.out hb6)
  clear hZ hb6 hw6 hbz G1 G2 G3 R5 HB5
  go_wp2_with fail
  refine (tipstaffref43_Count.calls k A0 c0 l wd _ e3 w6 HV.out (Kd.C_below R0.out HB6.out) hc0 HRN.out).mono ?_
  rintro e w7 ⟨v7, rfl, hN7, hb7⟩
  obtain ⟨va, vb, vc, rfl, hs6, ⟨D1, f1, rfl, p1, q1⟩, ⟨D2, f2, rfl, p2, q2⟩, ⟨D3, f3, rfl, p3, q3⟩⟩ := hN7.C H8.out
  have HZ7 := Aside0.mk (HZ6.out.below hb7 HZ6.out.lt)
  have R7 := Aside0.mk (Kd.C_below R6.out hb7)
  have G17 := Aside0.mk (Kd.C_below G16.out hb7)
  have G27 := Aside0.mk (Kd.C_below G26.out hb7)
  have G37 := Aside0.mk (Kd.C_below G36.out hb7)
  have HB7 := Aside0.mk (below_step HB6.out hb7)
  have Q1 := Aside0.mk q1
  have Q2 := Aside0.mk q2
  have Q3 := Aside0.mk q3
  clear q1 q2 q3 hN7 hb7 HZ6 R6 G16 G26 G36 HB6
  simp only [numV, numC, nums, List.map_cons, List.map_nil, List.cons_append, List.nil_append]
  go_upto_region 8 with (fail)
  obtain ⟨by_, hby⟩ : ∃ X_, w7.heap.size = X_ := ⟨_, rfl⟩
  obtain ⟨w8, hw8⟩ : ∃ X_, w7.alloc (.cells #[.int .i64 a0, .int .i64 a1, .int .i64 a2, .int .i64 a3, .int .i64 a4, .int .i64 a5, .int .i64 lit, .int .i64 out, .int .i64 sum, .int .i64 most, .slice D1 na.length f1, .slice D2 nb.length f2, .slice D3 nc.length f3] 29) = X_ := ⟨_, rfl⟩
  have hY : Blk w8 by_ #[.int .i64 a0, .int .i64 a1, .int .i64 a2, .int .i64 a3, .int .i64 a4, .int .i64 a5, .int .i64 lit, .int .i64 out, .int .i64 sum, .int .i64 most, .slice D1 na.length f1, .slice D2 nb.length f2, .slice D3 nc.length f3] 29 := by rw [← hw8, ← hby]; exact Blk.new w7 _ _
  have hb8 : Below w7.heap.size w7 w8 := by rw [← hw8]; exact below_alloc (Below.refl _ _) _
  rw [hw8, hby]
  have hZ8 := HZ7.out.below hb8 HZ7.out.lt
  have R8 := Aside0.mk (Kd.C_below R7.out hb8)
  have HB8 := Aside0.mk (below_step HB7.out hb8)
  have hN1 : NumC w8 (numV [a0, a1, a2, a3, a4, a5] lit out sum most (.slice B1 na.length d1) (.slice B2 nb.length d2) (.slice B3 nc.length d3)) ⟨[a0, a1, a2, a3, a4, a5], lit, out, sum, most, na, nb, nc⟩ :=
    ⟨_, _, _, rfl, rfl, ⟨_, _, rfl, m1, Kd.C_below G17.out hb8⟩, ⟨_, _, rfl, m2, Kd.C_below G27.out hb8⟩, ⟨_, _, rfl, m3, Kd.C_below G37.out hb8⟩⟩
  have hN2 : NumC w8 (numV [a0, a1, a2, a3, a4, a5] lit out sum most (.slice D1 na.length f1) (.slice D2 nb.length f2) (.slice D3 nc.length f3)) ⟨[a0, a1, a2, a3, a4, a5], lit, out, sum, most, na, nb, nc⟩ :=
    ⟨_, _, _, rfl, rfl, ⟨_, _, rfl, p1, Kd.C_below Q1.out hb8⟩, ⟨_, _, rfl, p2, Kd.C_below Q2.out hb8⟩, ⟨_, _, rfl, p3, Kd.C_below Q3.out hb8⟩⟩
  have N1 := Aside0.mk hN1
  have N2 := Aside0.mk hN2
  have z0_ : w8.cell? ⟨bz, 0, none⟩ = some (.int .i64 a0) := hZ8.cell 0 rfl
  have z1_ : w8.cell? ⟨bz, 1, none⟩ = some (.int .i64 a1) := hZ8.cell 1 rfl
  have z2_ : w8.cell? ⟨bz, 2, none⟩ = some (.int .i64 a2) := hZ8.cell 2 rfl
  have z3_ : w8.cell? ⟨bz, 3, none⟩ = some (.int .i64 a3) := hZ8.cell 3 rfl
  have z4_ : w8.cell? ⟨bz, 4, none⟩ = some (.int .i64 a4) := hZ8.cell 4 rfl
  have z5_ : w8.cell? ⟨bz, 5, none⟩ = some (.int .i64 a5) := hZ8.cell 5 rfl
  have z6_ : w8.cell? ⟨bz, 6, none⟩ = some (.int .i64 lit) := hZ8.cell 6 rfl
  have z7_ : w8.cell? ⟨bz, 7, none⟩ = some (.int .i64 out) := hZ8.cell 7 rfl
  have z8_ : w8.cell? ⟨bz, 8, none⟩ = some (.int .i64 sum) := hZ8.cell 8 rfl
  have z9_ : w8.cell? ⟨bz, 9, none⟩ = some (.int .i64 most) := hZ8.cell 9 rfl
  have z10_ : w8.cell? ⟨bz, 10, none⟩ = some (.slice B1 na.length d1) := hZ8.cell 10 rfl
  have z11_ : w8.cell? ⟨bz, 11, none⟩ = some (.slice B2 nb.length d2) := hZ8.cell 11 rfl
  have z12_ : w8.cell? ⟨bz, 12, none⟩ = some (.slice B3 nc.length d3) := hZ8.cell 12 rfl
  have y0_ : w8.cell? ⟨by_, 0, none⟩ = some (.int .i64 a0) := hY.cell 0 rfl
  have y1_ : w8.cell? ⟨by_, 1, none⟩ = some (.int .i64 a1) := hY.cell 1 rfl
  have y2_ : w8.cell? ⟨by_, 2, none⟩ = some (.int .i64 a2) := hY.cell 2 rfl
  have y3_ : w8.cell? ⟨by_, 3, none⟩ = some (.int .i64 a3) := hY.cell 3 rfl
  have y4_ : w8.cell? ⟨by_, 4, none⟩ = some (.int .i64 a4) := hY.cell 4 rfl
  have y5_ : w8.cell? ⟨by_, 5, none⟩ = some (.int .i64 a5) := hY.cell 5 rfl
  have y6_ : w8.cell? ⟨by_, 6, none⟩ = some (.int .i64 lit) := hY.cell 6 rfl
  have y7_ : w8.cell? ⟨by_, 7, none⟩ = some (.int .i64 out) := hY.cell 7 rfl
  have y8_ : w8.cell? ⟨by_, 8, none⟩ = some (.int .i64 sum) := hY.cell 8 rfl
  have y9_ : w8.cell? ⟨by_, 9, none⟩ = some (.int .i64 most) := hY.cell 9 rfl
  have y10_ : w8.cell? ⟨by_, 10, none⟩ = some (.slice D1 na.length f1) := hY.cell 10 rfl
  have y11_ : w8.cell? ⟨by_, 11, none⟩ = some (.slice D2 nb.length f2) := hY.cell 11 rfl
  have y12_ : w8.cell? ⟨by_, 12, none⟩ = some (.slice D3 nc.length f3) := hY.cell 12 rfl
  clear hN1 hN2 hZ8 hY hb8 hw8 hby HZ7 R7 HB7 G17 G27 G37 Q1 Q2 Q3
  have b1_ : (e1 == e1) = true := by simp
  have b2_ : (e2 == e2) = true := by simp
  have b3_ : (e3 == e3) = true := by simp
  go_wp2_with fail
  clear z0_ z1_ z2_ z3_ z4_ z5_ z6_ z7_ z8_ z9_ z10_ z11_ z12_ y0_ y1_ y2_ y3_ y4_ y5_ y6_ y7_ y8_ y9_ y10_ y11_ y12_
  refine (tipstafflaw43_same.calls ks _ _ _ _ true w8 N1.out N2.out HS.out).mono ?_
  rintro e w9 ⟨rfl, hb9⟩
  have R9 := Aside0.mk (Kd.C_below R8.out hb9)
  have HB9 := Aside0.mk (below_step HB8.out hb9)
  clear hb9 R8 HB8 N1 N2
  go_wp2_with fail
  refine (tipstafflaw43_unchanged.calls A2 c2 l A0 c0 l true w9 R9.out hc2 (Kd.C_below R0.out HB9.out) hc0 (unchanged_same l)).mono ?_
  rintro e w10 ⟨rfl, hb10⟩
  have HB10 := Aside0.mk (below_step HB9.out hb10)
  clear hb10 R9 HB9
  go_wp2_with fail
  refine (tipstafflaw43_awake.calls true w10 (HLA.out.below HB10.out) rfl).mono ?_
  rintro e w11 ⟨rfl, hb11⟩
  have HB11 := Aside0.mk (below_step HB10.out hb11)
  clear hb11 HB10
  go_wp2_with fail
  go_ret
  exact ⟨rfl, HB11.out⟩

theorem tipstafflaw43_ReportCounts.calls (k : Nat) (A0 : Option Addr) (c0 : Nat) (l0 : List S41) (a1 : Int) (r : Bool) (w : World) (HL_ : LaidAt w) (hr0 : Kd.C k41 w A0 l0.length l0) (hc0 : l0.length ≤ c0) (h : tipstafflaw43_ReportCounts.f k l0 a1 = some r) :
    Calls Tryd.prog 5 #[.slice A0 l0.length c0, .int .i64 a1] w fun e w' => e = .returned (.bool r) ∧ Below w.heap.size w w' := by
  obtain ⟨t, ht, h⟩ := Option.bind_eq_some_iff.1 h
  cases t with
  | false =>
    rw [if_neg (by decide)] at h
    obtain rfl := Option.some.inj h
    exact rcounts_no k A0 c0 l0 a1 w HL_ hr0 hc0 ht
  | true =>
    rw [if_pos rfl] at h
    obtain ⟨o, ho, h⟩ := Option.bind_eq_some_iff.1 h
    obtain rfl : l0 = o := by
      unfold tipstafflaw43_own.f at ho
      by_cases hc : l0.length ≤ 20010 ∧ (∀ v ∈ l0, v.f1.length ≤ 12 ∧ v.f2.length ≤ 12)
      · rw [if_pos hc] at ho; exact Option.some.inj ho
      · rw [if_neg hc] at ho; cases ho
    obtain ⟨⟨e1, e2⟩, he, h⟩ := Option.bind_eq_some_iff.1 h
    obtain ⟨b, hb, h⟩ := Option.bind_eq_some_iff.1 h
    obtain ⟨⟨n, e3⟩, hcn, h⟩ := Option.bind_eq_some_iff.1 h
    obtain ⟨d, hd, h⟩ := Option.bind_eq_some_iff.1 h
    by_cases hc : (∀ v ∈ l0, Pure.WV v) ∧ Num8 n ∧ (e1, e2) = b ∧ (n, e3) = d
    · rw [if_pos hc] at h
      obtain rfl := Option.some.inj h
      obtain ⟨hv, h8, rfl, rfl⟩ := hc
      exact rcounts_yes k A0 c0 l0 a1 w HL_ hr0 hc0 ht ho e1 e2 he hb n e3 hcn hd hv h8
    · rw [if_neg hc] at h; cases h
end Go.Proofs.YtenlokaaloenmaaDoor.S
