/- The reference's Count, walked: the numbers of a run. -/
import Derived.Test.YtenlokaaloenmaaDoorM5
import Derived.Test.YtenlokaaloenmaaDoorM4
import Derived.Test.YtenlokaaloenmaaDoorS10
import Derived.Test.YtenlokaaloenmaaDoorS12
import Derived.Test.YtenlokaaloenmaaDoorS15
namespace Go.Proofs.YtenlokaaloenmaaDoor.S
open Go.RowKit Go.Proofs.YtenlokaaloenmaaDoorW.PrintWords Go.Proofs.YtenlokaaloenmaaDoorW.PrintLast Go.Proofs.YtenlokaaloenmaaDoorW.PrintMore
set_option linter.unusedVariables false
set_option linter.unusedSimpArgs false
attribute [local go_sem] Go.Proofs.YtenlokaaloenmaaDoorW.PrintXtra.isSome_setCell max2_int max_two

set_option maxHeartbeats 4000000 in
set_option maxRecDepth 100000 in
theorem RCount_no (k : Nat) (A0 : Option Addr) (c0 : Nat) (l0 : List S41) (wd e i r : Int) (w : World) (hr0 : Kd.C k41 w A0 l0.length l0) (hc0 : l0.length ≤ c0) (h : tipstaffref43_Check.f k l0 = some (e, i))
    (hr : r = (if e = 0 then 2 else e)) (hn : e = 0 → wd < 1 ∨ 20 < wd) :
    Calls Tryd.prog 19 #[.slice A0 l0.length c0, .int .i64 wd] w fun x w' => ∃ v, x = .returned (.tuple #[v, .int .i64 r]) ∧ NumR w' w.heap.size v num0 ∧ Below w.heap.size w w' := by
  have hu29 := Tryd.underlying29
  have hu27 := Tryd.underlying27
  have H := Aside0.mk h
  have HC := Aside0.mk hr0
  have HR := Aside0.mk hr
  have HN := Aside0.mk hn
  clear h hr0 hr hn
  go_enter Tryd.func19, Tryd.ntmps19
  go_wp2_with fail
  refine (tipstaffref43_Check.calls k A0 c0 l0 e i _ (Kd.C_below HC.out (below_alloc (Below.refl _ _) _)) hc0 H.out).mono ?_
  rintro e0 w1 ⟨rfl, hb⟩
  have HB1 : Aside0 (Below w.heap.size w w1) := ⟨below_step (below_alloc (Below.refl _ _) _) hb⟩
  have HR1 : Aside0 (Blk w1 w.heap.size #[.int .i64 0, .int .i64 0, .int .i64 0, .int .i64 0, .int .i64 0, .int .i64 0, .int .i64 0, .int .i64 0, .int .i64 0, .int .i64 0, .slice none 0 0, .slice none 0 0, .slice none 0 0] 29) := ⟨(Blk.new w _ _).below hb (by simp)⟩
  clear hb
  have fin : ∀ w2 : World, Blk w2 w.heap.size #[.int .i64 0, .int .i64 0, .int .i64 0, .int .i64 0, .int .i64 0, .int .i64 0, .int .i64 0, .int .i64 0, .int .i64 0, .int .i64 0, .slice none 0 0, .slice none 0 0, .slice none 0 0] 29 → Below w.heap.size w w2 →
      Blk (put13 w2 w.heap.size (.int .i64 0) (.int .i64 0) (.int .i64 0) (.int .i64 0) (.int .i64 0) (.int .i64 0) (.int .i64 0) (.int .i64 0) (.int .i64 0) (.int .i64 0) (.slice none 0 0) (.slice none 0 0) (.slice none 0 0)) w.heap.size #[.int .i64 0, .int .i64 0, .int .i64 0, .int .i64 0, .int .i64 0, .int .i64 0, .int .i64 0, .int .i64 0, .int .i64 0, .int .i64 0, .slice none 0 0, .slice none 0 0, .slice none 0 0] 29 ∧ Below w.heap.size w (put13 w2 w.heap.size (.int .i64 0) (.int .i64 0) (.int .i64 0) (.int .i64 0) (.int .i64 0) (.int .i64 0) (.int .i64 0) (.int .i64 0) (.int .i64 0) (.int .i64 0) (.slice none 0 0) (.slice none 0 0) (.slice none 0 0)) :=
    fun w2 h1 h2 => ⟨put13_blk h1 _ _ _ _ _ _ _ _ _ _ _ _ _, h2.trans (put13_below _ _ _ _ _ _ _ _ _ _ _ _ _ _ _ _ (Nat.le_refl _))⟩
  have FIN := Aside0.mk fin
  clear fin
  by_cases h0 : e = 0
  · subst h0
    have hr := HR.out
    have hn := HN.out rfl
    rw [if_pos rfl] at hr
    subst hr
    have hin : tipstaffref43_in.f wd 1 20 = some false := by
      unfold tipstaffref43_in.f
      by_cases h1 : wd ≥ 1
      · rw [if_pos h1, decide_eq_false (by omega)]
      · rw [if_neg h1]
    clear HR HN hn
    go_wp2_with fail
    refine (tipstaffref43_in.calls wd 1 20 false w1 hin).mono ?_
    rintro e0 w2 ⟨rfl, hd⟩
    have HB2 : Aside0 (Below w.heap.size w w2) := ⟨below_step HB1.out hd.below⟩
    have HR2 := Aside0.mk (HR1.out.below hd.below HR1.out.lt)
    clear hd HB1 HR1
    have z0_ : w2.cell? ⟨w.heap.size, 0, none⟩ = some (.int .i64 0) := HR2.out.cell 0 rfl
    have z1_ : w2.cell? ⟨w.heap.size, 1, none⟩ = some (.int .i64 0) := HR2.out.cell 1 rfl
    have z2_ : w2.cell? ⟨w.heap.size, 2, none⟩ = some (.int .i64 0) := HR2.out.cell 2 rfl
    have z3_ : w2.cell? ⟨w.heap.size, 3, none⟩ = some (.int .i64 0) := HR2.out.cell 3 rfl
    have z4_ : w2.cell? ⟨w.heap.size, 4, none⟩ = some (.int .i64 0) := HR2.out.cell 4 rfl
    have z5_ : w2.cell? ⟨w.heap.size, 5, none⟩ = some (.int .i64 0) := HR2.out.cell 5 rfl
    have z6_ : w2.cell? ⟨w.heap.size, 6, none⟩ = some (.int .i64 0) := HR2.out.cell 6 rfl
    have z7_ : w2.cell? ⟨w.heap.size, 7, none⟩ = some (.int .i64 0) := HR2.out.cell 7 rfl
    have z8_ : w2.cell? ⟨w.heap.size, 8, none⟩ = some (.int .i64 0) := HR2.out.cell 8 rfl
    have z9_ : w2.cell? ⟨w.heap.size, 9, none⟩ = some (.int .i64 0) := HR2.out.cell 9 rfl
    have z10_ : w2.cell? ⟨w.heap.size, 10, none⟩ = some (.slice none 0 0) := HR2.out.cell 10 rfl
    have z11_ : w2.cell? ⟨w.heap.size, 11, none⟩ = some (.slice none 0 0) := HR2.out.cell 11 rfl
    have z12_ : w2.cell? ⟨w.heap.size, 12, none⟩ = some (.slice none 0 0) := HR2.out.cell 12 rfl
    have f0_ := HR2.out.fr 0
    have f1_ := HR2.out.fr 1
    have f2_ := HR2.out.fr 2
    have f3_ := HR2.out.fr 3
    have f4_ := HR2.out.fr 4
    have f5_ := HR2.out.fr 5
    have f6_ := HR2.out.fr 6
    have f7_ := HR2.out.fr 7
    have f8_ := HR2.out.fr 8
    have f9_ := HR2.out.fr 9
    have f10_ := HR2.out.fr 10
    have f11_ := HR2.out.fr 11
    have f12_ := HR2.out.fr 12
    go_wp2_with fail
    obtain ⟨wf, hwf⟩ : ∃ X_, put13 w2 w.heap.size (.int .i64 0) (.int .i64 0) (.int .i64 0) (.int .i64 0) (.int .i64 0) (.int .i64 0) (.int .i64 0) (.int .i64 0) (.int .i64 0) (.int .i64 0) (.slice none 0 0) (.slice none 0 0) (.slice none 0 0) = X_ := ⟨_, rfl⟩
    obtain ⟨hbf, hkf⟩ := FIN.out w2 HR2.out HB2.out
    rw [hwf] at hbf hkf
    unfold put13 at hwf
    rw [hwf]
    clear hwf z0_ f0_ z1_ f1_ z2_ f2_ z3_ f3_ z4_ f4_ z5_ f5_ z6_ f6_ z7_ f7_ z8_ f8_ z9_ f9_ z10_ f10_ z11_ f11_ z12_ f12_
    have c0_ : wf.cell? ⟨w.heap.size, 0, none⟩ = some (.int .i64 0) := hbf.cell 0 rfl
    have c1_ : wf.cell? ⟨w.heap.size, 1, none⟩ = some (.int .i64 0) := hbf.cell 1 rfl
    have c2_ : wf.cell? ⟨w.heap.size, 2, none⟩ = some (.int .i64 0) := hbf.cell 2 rfl
    have c3_ : wf.cell? ⟨w.heap.size, 3, none⟩ = some (.int .i64 0) := hbf.cell 3 rfl
    have c4_ : wf.cell? ⟨w.heap.size, 4, none⟩ = some (.int .i64 0) := hbf.cell 4 rfl
    have c5_ : wf.cell? ⟨w.heap.size, 5, none⟩ = some (.int .i64 0) := hbf.cell 5 rfl
    have c6_ : wf.cell? ⟨w.heap.size, 6, none⟩ = some (.int .i64 0) := hbf.cell 6 rfl
    have c7_ : wf.cell? ⟨w.heap.size, 7, none⟩ = some (.int .i64 0) := hbf.cell 7 rfl
    have c8_ : wf.cell? ⟨w.heap.size, 8, none⟩ = some (.int .i64 0) := hbf.cell 8 rfl
    have c9_ : wf.cell? ⟨w.heap.size, 9, none⟩ = some (.int .i64 0) := hbf.cell 9 rfl
    have c10_ : wf.cell? ⟨w.heap.size, 10, none⟩ = some (.slice none 0 0) := hbf.cell 10 rfl
    have c11_ : wf.cell? ⟨w.heap.size, 11, none⟩ = some (.slice none 0 0) := hbf.cell 11 rfl
    have c12_ : wf.cell? ⟨w.heap.size, 12, none⟩ = some (.slice none 0 0) := hbf.cell 12 rfl
    refine bodyPost_ret (v := .tuple #[numV zer6 0 0 0 0 (.slice none 0 0) (.slice none 0 0) (.slice none 0 0), .int .i64 2]) ?_ rfl ⟨_, rfl, NumR.zero _ _, hkf⟩
    simp [results, Tryd.results19, go_sem, hu29, hu27, c0_, c1_, c2_, c3_, c4_, c5_, c6_, c7_, c8_, c9_, c10_, c11_, c12_]
    rfl
  · have n4 : (e != 0) = true := bne_iff_ne.mpr h0
    have n5 : (e == 0) = false := beq_eq_false_iff_ne.mpr h0
    have hr := HR.out
    rw [if_neg h0] at hr
    subst hr
    clear HR HN
    have z0_ : w1.cell? ⟨w.heap.size, 0, none⟩ = some (.int .i64 0) := HR1.out.cell 0 rfl
    have z1_ : w1.cell? ⟨w.heap.size, 1, none⟩ = some (.int .i64 0) := HR1.out.cell 1 rfl
    have z2_ : w1.cell? ⟨w.heap.size, 2, none⟩ = some (.int .i64 0) := HR1.out.cell 2 rfl
    have z3_ : w1.cell? ⟨w.heap.size, 3, none⟩ = some (.int .i64 0) := HR1.out.cell 3 rfl
    have z4_ : w1.cell? ⟨w.heap.size, 4, none⟩ = some (.int .i64 0) := HR1.out.cell 4 rfl
    have z5_ : w1.cell? ⟨w.heap.size, 5, none⟩ = some (.int .i64 0) := HR1.out.cell 5 rfl
    have z6_ : w1.cell? ⟨w.heap.size, 6, none⟩ = some (.int .i64 0) := HR1.out.cell 6 rfl
    have z7_ : w1.cell? ⟨w.heap.size, 7, none⟩ = some (.int .i64 0) := HR1.out.cell 7 rfl
    have z8_ : w1.cell? ⟨w.heap.size, 8, none⟩ = some (.int .i64 0) := HR1.out.cell 8 rfl
    have z9_ : w1.cell? ⟨w.heap.size, 9, none⟩ = some (.int .i64 0) := HR1.out.cell 9 rfl
    have z10_ : w1.cell? ⟨w.heap.size, 10, none⟩ = some (.slice none 0 0) := HR1.out.cell 10 rfl
    have z11_ : w1.cell? ⟨w.heap.size, 11, none⟩ = some (.slice none 0 0) := HR1.out.cell 11 rfl
    have z12_ : w1.cell? ⟨w.heap.size, 12, none⟩ = some (.slice none 0 0) := HR1.out.cell 12 rfl
    have f0_ := HR1.out.fr 0
    have f1_ := HR1.out.fr 1
    have f2_ := HR1.out.fr 2
    have f3_ := HR1.out.fr 3
    have f4_ := HR1.out.fr 4
    have f5_ := HR1.out.fr 5
    have f6_ := HR1.out.fr 6
    have f7_ := HR1.out.fr 7
    have f8_ := HR1.out.fr 8
    have f9_ := HR1.out.fr 9
    have f10_ := HR1.out.fr 10
    have f11_ := HR1.out.fr 11
    have f12_ := HR1.out.fr 12
    go_wp2_with fail
    obtain ⟨wf, hwf⟩ : ∃ X_, put13 w1 w.heap.size (.int .i64 0) (.int .i64 0) (.int .i64 0) (.int .i64 0) (.int .i64 0) (.int .i64 0) (.int .i64 0) (.int .i64 0) (.int .i64 0) (.int .i64 0) (.slice none 0 0) (.slice none 0 0) (.slice none 0 0) = X_ := ⟨_, rfl⟩
    obtain ⟨hbf, hkf⟩ := FIN.out w1 HR1.out HB1.out
    rw [hwf] at hbf hkf
    unfold put13 at hwf
    rw [hwf]
    clear hwf z0_ f0_ z1_ f1_ z2_ f2_ z3_ f3_ z4_ f4_ z5_ f5_ z6_ f6_ z7_ f7_ z8_ f8_ z9_ f9_ z10_ f10_ z11_ f11_ z12_ f12_
    have c0_ : wf.cell? ⟨w.heap.size, 0, none⟩ = some (.int .i64 0) := hbf.cell 0 rfl
    have c1_ : wf.cell? ⟨w.heap.size, 1, none⟩ = some (.int .i64 0) := hbf.cell 1 rfl
    have c2_ : wf.cell? ⟨w.heap.size, 2, none⟩ = some (.int .i64 0) := hbf.cell 2 rfl
    have c3_ : wf.cell? ⟨w.heap.size, 3, none⟩ = some (.int .i64 0) := hbf.cell 3 rfl
    have c4_ : wf.cell? ⟨w.heap.size, 4, none⟩ = some (.int .i64 0) := hbf.cell 4 rfl
    have c5_ : wf.cell? ⟨w.heap.size, 5, none⟩ = some (.int .i64 0) := hbf.cell 5 rfl
    have c6_ : wf.cell? ⟨w.heap.size, 6, none⟩ = some (.int .i64 0) := hbf.cell 6 rfl
    have c7_ : wf.cell? ⟨w.heap.size, 7, none⟩ = some (.int .i64 0) := hbf.cell 7 rfl
    have c8_ : wf.cell? ⟨w.heap.size, 8, none⟩ = some (.int .i64 0) := hbf.cell 8 rfl
    have c9_ : wf.cell? ⟨w.heap.size, 9, none⟩ = some (.int .i64 0) := hbf.cell 9 rfl
    have c10_ : wf.cell? ⟨w.heap.size, 10, none⟩ = some (.slice none 0 0) := hbf.cell 10 rfl
    have c11_ : wf.cell? ⟨w.heap.size, 11, none⟩ = some (.slice none 0 0) := hbf.cell 11 rfl
    have c12_ : wf.cell? ⟨w.heap.size, 12, none⟩ = some (.slice none 0 0) := hbf.cell 12 rfl
    refine bodyPost_ret (v := .tuple #[numV zer6 0 0 0 0 (.slice none 0 0) (.slice none 0 0) (.slice none 0 0), .int .i64 r]) ?_ rfl ⟨_, rfl, NumR.zero _ _, hkf⟩
    simp [results, Tryd.results19, go_sem, hu29, hu27, c0_, c1_, c2_, c3_, c4_, c5_, c6_, c7_, c8_, c9_, c10_, c11_, c12_]
    rfl

set_option maxHeartbeats 4000000 in
set_option maxRecDepth 100000 in
theorem RCount_nil (k : Nat) (A0 : Option Addr) (c0 : Nat) (wd i : Int) (w : World) (hr0 : Kd.C k41 w A0 0 []) (h : tipstaffref43_Check.f k [] = some (0, i)) (hw0 : 1 ≤ wd) (hw1 : wd ≤ 20) :
    Calls Tryd.prog 19 #[.slice A0 0 c0, .int .i64 wd] w fun x w' => ∃ v, x = .returned (.tuple #[v, .int .i64 0]) ∧ NumR w' w.heap.size v num0 ∧ Below w.heap.size w w' := by
  have hu29 := Tryd.underlying29
  have hu27 := Tryd.underlying27
  have hin : tipstaffref43_in.f wd 1 20 = some true := by unfold tipstaffref43_in.f; rw [if_pos hw0, decide_eq_true hw1]
  have H := Aside0.mk h
  have HC := Aside0.mk hr0
  clear h hr0
  go_enter Tryd.func19, Tryd.ntmps19
  go_wp2_with fail
  refine (tipstaffref43_Check.calls k A0 c0 [] 0 i _ (Kd.C_below HC.out (below_alloc (Below.refl _ _) _)) (Nat.zero_le _) H.out).mono ?_
  rintro e0 w1 ⟨rfl, hb⟩
  have HB1 : Aside0 (Below w.heap.size w w1) := ⟨below_step (below_alloc (Below.refl _ _) _) hb⟩
  have HR1 : Aside0 (Blk w1 w.heap.size #[.int .i64 0, .int .i64 0, .int .i64 0, .int .i64 0, .int .i64 0, .int .i64 0, .int .i64 0, .int .i64 0, .int .i64 0, .int .i64 0, .slice none 0 0, .slice none 0 0, .slice none 0 0] 29) := ⟨(Blk.new w _ _).below hb (by simp)⟩
  clear hb
  go_wp2_with fail
  refine (tipstaffref43_in.calls wd 1 20 true w1 hin).mono ?_
  rintro e0 w2 ⟨rfl, hd⟩
  have HB2 : Aside0 (Below w.heap.size w w2) := ⟨below_step HB1.out hd.below⟩
  have HR2 := Aside0.mk (HR1.out.below hd.below HR1.out.lt)
  clear hd HB1 HR1
  go_upto_region 7 with (fail)
  obtain ⟨wa, hwa⟩ : ∃ x, w2.alloc (.cells #[.int .i64 0, .int .i64 0, .int .i64 0, .int .i64 0, .int .i64 0, .int .i64 0, .int .i64 0, .int .i64 0, .int .i64 0, .int .i64 0, .slice none 0 0, .slice none 0 0, .slice none 0 0] 29) = x := ⟨_, rfl⟩
  obtain ⟨B, hB⟩ : ∃ x, w2.heap.size = x := ⟨_, rfl⟩
  have hN : Blk wa B #[.int .i64 0, .int .i64 0, .int .i64 0, .int .i64 0, .int .i64 0, .int .i64 0, .int .i64 0, .int .i64 0, .int .i64 0, .int .i64 0, .slice none 0 0, .slice none 0 0, .slice none 0 0] 29 := by rw [← hwa, ← hB]; exact Blk.new w2 _ _
  have hR : Blk wa w.heap.size #[.int .i64 0, .int .i64 0, .int .i64 0, .int .i64 0, .int .i64 0, .int .i64 0, .int .i64 0, .int .i64 0, .int .i64 0, .int .i64 0, .slice none 0 0, .slice none 0 0, .slice none 0 0] 29 := by rw [← hwa]; exact HR2.out.alloc _
  have hBw : Below w.heap.size w wa := by rw [← hwa]; exact HB2.out.alloc HB2.out.size _
  rw [hwa, hB]
  clear hwa hB HB2 HR2
  have n0_ : wa.cell? ⟨B, 0, none⟩ = some (.int .i64 0) := hN.cell 0 rfl
  have n1_ : wa.cell? ⟨B, 1, none⟩ = some (.int .i64 0) := hN.cell 1 rfl
  have n2_ : wa.cell? ⟨B, 2, none⟩ = some (.int .i64 0) := hN.cell 2 rfl
  have n3_ : wa.cell? ⟨B, 3, none⟩ = some (.int .i64 0) := hN.cell 3 rfl
  have n4_ : wa.cell? ⟨B, 4, none⟩ = some (.int .i64 0) := hN.cell 4 rfl
  have n5_ : wa.cell? ⟨B, 5, none⟩ = some (.int .i64 0) := hN.cell 5 rfl
  have n6_ : wa.cell? ⟨B, 6, none⟩ = some (.int .i64 0) := hN.cell 6 rfl
  have n7_ : wa.cell? ⟨B, 7, none⟩ = some (.int .i64 0) := hN.cell 7 rfl
  have n8_ : wa.cell? ⟨B, 8, none⟩ = some (.int .i64 0) := hN.cell 8 rfl
  have n9_ : wa.cell? ⟨B, 9, none⟩ = some (.int .i64 0) := hN.cell 9 rfl
  have n10_ : wa.cell? ⟨B, 10, none⟩ = some (.slice none 0 0) := hN.cell 10 rfl
  have n11_ : wa.cell? ⟨B, 11, none⟩ = some (.slice none 0 0) := hN.cell 11 rfl
  have n12_ : wa.cell? ⟨B, 12, none⟩ = some (.slice none 0 0) := hN.cell 12 rfl
  have z0_ : wa.cell? ⟨w.heap.size, 0, none⟩ = some (.int .i64 0) := hR.cell 0 rfl
  have z1_ : wa.cell? ⟨w.heap.size, 1, none⟩ = some (.int .i64 0) := hR.cell 1 rfl
  have z2_ : wa.cell? ⟨w.heap.size, 2, none⟩ = some (.int .i64 0) := hR.cell 2 rfl
  have z3_ : wa.cell? ⟨w.heap.size, 3, none⟩ = some (.int .i64 0) := hR.cell 3 rfl
  have z4_ : wa.cell? ⟨w.heap.size, 4, none⟩ = some (.int .i64 0) := hR.cell 4 rfl
  have z5_ : wa.cell? ⟨w.heap.size, 5, none⟩ = some (.int .i64 0) := hR.cell 5 rfl
  have z6_ : wa.cell? ⟨w.heap.size, 6, none⟩ = some (.int .i64 0) := hR.cell 6 rfl
  have z7_ : wa.cell? ⟨w.heap.size, 7, none⟩ = some (.int .i64 0) := hR.cell 7 rfl
  have z8_ : wa.cell? ⟨w.heap.size, 8, none⟩ = some (.int .i64 0) := hR.cell 8 rfl
  have z9_ : wa.cell? ⟨w.heap.size, 9, none⟩ = some (.int .i64 0) := hR.cell 9 rfl
  have z10_ : wa.cell? ⟨w.heap.size, 10, none⟩ = some (.slice none 0 0) := hR.cell 10 rfl
  have z11_ : wa.cell? ⟨w.heap.size, 11, none⟩ = some (.slice none 0 0) := hR.cell 11 rfl
  have z12_ : wa.cell? ⟨w.heap.size, 12, none⟩ = some (.slice none 0 0) := hR.cell 12 rfl
  have f0_ := hR.fr 0
  have f1_ := hR.fr 1
  have f2_ := hR.fr 2
  have f3_ := hR.fr 3
  have f4_ := hR.fr 4
  have f5_ := hR.fr 5
  have f6_ := hR.fr 6
  have f7_ := hR.fr 7
  have f8_ := hR.fr 8
  have f9_ := hR.fr 9
  have f10_ := hR.fr 10
  have f11_ := hR.fr 11
  have f12_ := hR.fr 12
  go_wp2_with fail
  obtain ⟨wf, hwf⟩ : ∃ X_, put13 wa w.heap.size (.int .i64 0) (.int .i64 0) (.int .i64 0) (.int .i64 0) (.int .i64 0) (.int .i64 0) (.int .i64 0) (.int .i64 0) (.int .i64 0) (.int .i64 0) (.slice none 0 0) (.slice none 0 0) (.slice none 0 0) = X_ := ⟨_, rfl⟩
  have hbf : Blk wf w.heap.size #[.int .i64 0, .int .i64 0, .int .i64 0, .int .i64 0, .int .i64 0, .int .i64 0, .int .i64 0, .int .i64 0, .int .i64 0, .int .i64 0, .slice none 0 0, .slice none 0 0, .slice none 0 0] 29 := by rw [← hwf]; exact put13_blk hR _ _ _ _ _ _ _ _ _ _ _ _ _
  have hkf : Below w.heap.size w wf := by rw [← hwf]; exact hBw.trans (put13_below _ _ _ _ _ _ _ _ _ _ _ _ _ _ _ _ (Nat.le_refl _))
  unfold put13 at hwf
  rw [hwf]
  clear hwf z0_ f0_ z1_ f1_ z2_ f2_ z3_ f3_ z4_ f4_ z5_ f5_ z6_ f6_ z7_ f7_ z8_ f8_ z9_ f9_ z10_ f10_ z11_ f11_ z12_ f12_ n0_ n1_ n2_ n3_ n4_ n5_ n6_ n7_ n8_ n9_ n10_ n11_ n12_
  have c0_ : wf.cell? ⟨w.heap.size, 0, none⟩ = some (.int .i64 0) := hbf.cell 0 rfl
  have c1_ : wf.cell? ⟨w.heap.size, 1, none⟩ = some (.int .i64 0) := hbf.cell 1 rfl
  have c2_ : wf.cell? ⟨w.heap.size, 2, none⟩ = some (.int .i64 0) := hbf.cell 2 rfl
  have c3_ : wf.cell? ⟨w.heap.size, 3, none⟩ = some (.int .i64 0) := hbf.cell 3 rfl
  have c4_ : wf.cell? ⟨w.heap.size, 4, none⟩ = some (.int .i64 0) := hbf.cell 4 rfl
  have c5_ : wf.cell? ⟨w.heap.size, 5, none⟩ = some (.int .i64 0) := hbf.cell 5 rfl
  have c6_ : wf.cell? ⟨w.heap.size, 6, none⟩ = some (.int .i64 0) := hbf.cell 6 rfl
  have c7_ : wf.cell? ⟨w.heap.size, 7, none⟩ = some (.int .i64 0) := hbf.cell 7 rfl
  have c8_ : wf.cell? ⟨w.heap.size, 8, none⟩ = some (.int .i64 0) := hbf.cell 8 rfl
  have c9_ : wf.cell? ⟨w.heap.size, 9, none⟩ = some (.int .i64 0) := hbf.cell 9 rfl
  have c10_ : wf.cell? ⟨w.heap.size, 10, none⟩ = some (.slice none 0 0) := hbf.cell 10 rfl
  have c11_ : wf.cell? ⟨w.heap.size, 11, none⟩ = some (.slice none 0 0) := hbf.cell 11 rfl
  have c12_ : wf.cell? ⟨w.heap.size, 12, none⟩ = some (.slice none 0 0) := hbf.cell 12 rfl
  refine bodyPost_ret (v := .tuple #[numV zer6 0 0 0 0 (.slice none 0 0) (.slice none 0 0) (.slice none 0 0), .int .i64 0]) ?_ rfl ⟨_, rfl, NumR.zero _ _, hkf⟩
  simp [results, Tryd.results19, go_sem, hu29, hu27, c0_, c1_, c2_, c3_, c4_, c5_, c6_, c7_, c8_, c9_, c10_, c11_, c12_]
  rfl

/-- What lies in memory while the views are counted. -/
structure RcW (b0 : Nat) (w0 : World) (B g1 g2 g3 m : Nat) (st : List Int × R3) (W : World) : Prop where
  z : Blk W b0 #[.int .i64 0, .int .i64 0, .int .i64 0, .int .i64 0, .int .i64 0, .int .i64 0, .int .i64 0, .int .i64 0, .int .i64 0, .int .i64 0, .slice none 0 0, .slice none 0 0, .slice none 0 0] 29
  n : Blk W B (numC st.1 0 0 0 0 (.slice (some ⟨g1, 0, none⟩) m m) (.slice (some ⟨g2, 0, none⟩) m m) (.slice (some ⟨g3, 0, none⟩) m m)) 29
  a : Blk W g1 (nums .i64 st.2.1).toArray 3
  b : Blk W g2 (nums .i64 st.2.2.1).toArray 3
  c : Blk W g3 (nums .i64 st.2.2.2).toArray 3
  k : Below b0 w0 W
  o1 : b0 < B
  o2 : B < g1
  o3 : B < g2
  o4 : B < g3
  n1 : g1 ≠ g2
  n2 : g1 ≠ g3
  n3 : g2 ≠ g3
  e : st.1.length = 6 ∧ len3 st.2 m
theorem RcW.below {b0 : Nat} {w0 W W' : World} {B g1 g2 g3 m : Nat} {st : List Int × R3} (h : RcW b0 w0 B g1 g2 g3 m st W) (hb : Below W.heap.size W W') : RcW b0 w0 B g1 g2 g3 m st W' :=
  ⟨h.z.below hb h.z.lt, h.n.below hb h.n.lt, h.a.below hb h.a.lt, h.b.below hb h.b.lt, h.c.below hb h.c.lt, h.k.trans (hb.mono (by have := h.o1; have := h.n.lt; omega)), h.o1, h.o2, h.o3, h.o4, h.n1, h.n2, h.n3, h.e⟩
theorem RcW.alloc {b0 : Nat} {w0 W : World} {B g1 g2 g3 m : Nat} {st : List Int × R3} (h : RcW b0 w0 B g1 g2 g3 m st W) (o : Obj) : RcW b0 w0 B g1 g2 g3 m st (W.alloc o) := h.below (below_alloc (Below.refl _ _) o)
theorem RcW.incR {b0 : Nat} {w0 W : World} {B g1 g2 g3 m : Nat} {st : List Int × R3} (h : RcW b0 w0 B g1 g2 g3 m st W) (i : Nat) (hi : i < 6) : RcW b0 w0 B g1 g2 g3 m (incI st.1 i, st.2) (W.setCell ⟨B, i, none⟩ (.int .i64 (wrap64 (rd st.1 (i : Int) + 1)))) :=
  ⟨h.z.far _ _ (by have := h.o1; show ¬ b0 = B; omega), h.n.incN i (by rw [h.e.1]; exact hi), h.a.far _ _ (by have := h.o2; show ¬ g1 = B; omega), h.b.far _ _ (by have := h.o3; show ¬ g2 = B; omega), h.c.far _ _ (by have := h.o4; show ¬ g3 = B; omega),
   h.k.setCell (p := ⟨B, i, none⟩) (Nat.le_of_lt h.o1) _, h.o1, h.o2, h.o3, h.o4, h.n1, h.n2, h.n3, by rw [incI_len]; exact h.e.1, h.e.2⟩
theorem RcW.incA {b0 : Nat} {w0 W : World} {B g1 g2 g3 m : Nat} {st : List Int × R3} (h : RcW b0 w0 B g1 g2 g3 m st W) (i : Nat) : RcW b0 w0 B g1 g2 g3 m (st.1, incI st.2.1 i, st.2.2) (W.setCell ⟨g1, i, none⟩ (.int .i64 (wrap64 (rd st.2.1 (i : Int) + 1)))) :=
  ⟨h.z.far _ _ (by have := h.o1; have := h.o2; show ¬ b0 = g1; omega), h.n.far _ _ (by have := h.o2; show ¬ B = g1; omega), h.a.inc i, h.b.far _ _ (fun e => h.n1 e.symm), h.c.far _ _ (fun e => h.n2 e.symm),
   h.k.setCell (p := ⟨g1, i, none⟩) (by have := h.o1; have := h.o2; show b0 ≤ g1; omega) _, h.o1, h.o2, h.o3, h.o4, h.n1, h.n2, h.n3, h.e.1, by rw [len3, incI_len]; exact h.e.2⟩
theorem RcW.incB {b0 : Nat} {w0 W : World} {B g1 g2 g3 m : Nat} {st : List Int × R3} (h : RcW b0 w0 B g1 g2 g3 m st W) (i : Nat) : RcW b0 w0 B g1 g2 g3 m (st.1, st.2.1, incI st.2.2.1 i, st.2.2.2) (W.setCell ⟨g2, i, none⟩ (.int .i64 (wrap64 (rd st.2.2.1 (i : Int) + 1)))) :=
  ⟨h.z.far _ _ (by have := h.o1; have := h.o3; show ¬ b0 = g2; omega), h.n.far _ _ (by have := h.o3; show ¬ B = g2; omega), h.a.far _ _ h.n1, h.b.inc i, h.c.far _ _ (fun e => h.n3 e.symm),
   h.k.setCell (p := ⟨g2, i, none⟩) (by have := h.o1; have := h.o3; show b0 ≤ g2; omega) _, h.o1, h.o2, h.o3, h.o4, h.n1, h.n2, h.n3, h.e.1, by rw [len3, incI_len]; exact h.e.2⟩
theorem RcW.incC {b0 : Nat} {w0 W : World} {B g1 g2 g3 m : Nat} {st : List Int × R3} (h : RcW b0 w0 B g1 g2 g3 m st W) (i : Nat) : RcW b0 w0 B g1 g2 g3 m (st.1, st.2.1, st.2.2.1, incI st.2.2.2 i) (W.setCell ⟨g3, i, none⟩ (.int .i64 (wrap64 (rd st.2.2.2 (i : Int) + 1)))) :=
  ⟨h.z.far _ _ (by have := h.o1; have := h.o4; show ¬ b0 = g3; omega), h.n.far _ _ (by have := h.o4; show ¬ B = g3; omega), h.a.far _ _ h.n2, h.b.far _ _ h.n3, h.c.inc i,
   h.k.setCell (p := ⟨g3, i, none⟩) (by have := h.o1; have := h.o4; show b0 ≤ g3; omega) _, h.o1, h.o2, h.o3, h.o4, h.n1, h.n2, h.n3, h.e.1, by rw [len3, incI_len]; exact h.e.2⟩

/-- Each view has as many sights as the first, and codes from 1 to 6; its list of replies is no longer than a slice can be. -/
def okV (l : List S41) (m : Nat) : Prop := ∀ v ∈ l, v.f2.length = m ∧ (∀ r ∈ v.f1, 1 ≤ r.f1 ∧ r.f1 ≤ 6) ∧ v.f1.length ≤ 9223372036854775807
theorem drop_T41 (l : List S41) (i : Nat) (h : i < l.length) : l.drop i = rd_T41 l (i : Int) :: l.drop (i + 1) := by unfold rd_T41; simp [h]
theorem drop_T43 (l : List S43) (i : Nat) (h : i < l.length) : l.drop i = rd_T43 l (i : Int) :: l.drop (i + 1) := by unfold rd_T43; simp [h]
theorem drop_T66 (l : List S66) (i : Nat) (h : i < l.length) : l.drop i = rd_T66 l (i : Int) :: l.drop (i + 1) := by unfold rd_T66; simp [h]
theorem mem_T41 (l : List S41) (i : Nat) (h : i < l.length) : rd_T41 l (i : Int) ∈ l := by unfold rd_T41; simp [h]
theorem mem_T66 (l : List S66) (i : Nat) (h : i < l.length) : rd_T66 l (i : Int) ∈ l := by unfold rd_T66; simp [h]

/-- The spells of all lights from a floor on. -/
def rcF (k : Nat) (l : List S41) (e : Int) : Nat → Nat → X4 → Option X4
  | 0, _, x => some x
  | d + 1, f, x => (tipstaffref43_spells.f k l (f : Int) true).bind fun a1 => (tipstaffref43_spells.f k l (f : Int) false).bind fun a2 => rcF k l e d (f + 1) (rcA e (rcA e x a1) a2)
theorem R57_cap {w : World} {base : Nat} {v : Value} {xs : List S57} (h : Kd.R k57 57 w base (fun _ => True) v xs) : xs.length ≤ 9223372036854775807 := by
  obtain ⟨inner, ho⟩ := Kd.R_own h
  rcases ho.2 with ⟨_, h0⟩ | ⟨g, c, cur, _, _, _, h1, h2, _⟩
  · omega
  · unfold maxLen at h2; omega

set_option maxHeartbeats 8000000 in
set_option maxRecDepth 100000 in
theorem RCount_yes (k : Nat) (A0 : Option Addr) (c0 : Nat) (l0 : List S41) (wd : Int) (i : Int) (w : World) (hr0 : Kd.C k41 w A0 l0.length l0) (hc0 : l0.length ≤ c0) (h : tipstaffref43_Check.f k l0 = some (0, i))
    (hw0 : 1 ≤ wd) (hw1 : wd ≤ 20) (hn : 0 < l0.length) (mny : Nat) (hm : (rd_T41 l0 0).f2.length = mny) (hm8 : mny ≤ 8) (hok : okV l0 mny) (hlen : l0.length ≤ 20000) (xf : X4) (hxf : rcF k l0 (wrap64 ((rd_T41 l0 ((l0.length : Int) - 1)).f0 + 1)) 64 0 (0, 0, 0, 0) = some xf) :
    Calls Tryd.prog 19 #[.slice A0 l0.length c0, .int .i64 wd] w fun e w' => ∃ v, e = .returned (.tuple #[v, .int .i64 0]) ∧ NumR w' w.heap.size v (numOf (cntV wd l0 (zer6, List.replicate mny 0, List.replicate mny 0, List.replicate mny 0)) xf) ∧ Below w.heap.size w w' := by
  have hmk : ∀ W : World, (Instr.makeSlice 22 (.int .i64 (mny : Int)) (.int .i64 (mny : Int))).run Tryd.prog W = .ok (.slice (some ⟨W.heap.size, 0, none⟩) mny mny) (W.alloc (.cells (madeCells #[.int .i64 0] mny) 3)) :=
    print_make 22 3 .i64 8 Tryd.underlying22 info3 (by decide) mny (by omega)
  have hu29 := Tryd.underlying29
  have hu27 := Tryd.underlying27
  have hu41 := Tryd.underlying41
  have OK := Aside0.mk hok
  have HXF := Aside0.mk hxf
  have H := Aside0.mk h
  have HC := Aside0.mk hr0
  have d0 : decide (0 < l0.length) = true := decide_eq_true hn
  have n0 : ((l0.length : Int) == 0) = false := by rw [beq_eq_false_iff_ne]; omega
  have hin : tipstaffref43_in.f wd 1 20 = some true := by unfold tipstaffref43_in.f; rw [if_pos hw0, decide_eq_true hw1]
  clear h hr0 hok hxf
  go_enter Tryd.func19, Tryd.ntmps19
  go_wp2_with fail
  refine (tipstaffref43_Check.calls k A0 c0 l0 0 i _ (Kd.C_below HC.out (below_alloc (Below.refl _ _) _)) hc0 H.out).mono ?_
  rintro e0 w1 ⟨rfl, hb⟩
  have HB1 : Aside0 (Below w.heap.size w w1) := ⟨below_step (below_alloc (Below.refl _ _) _) hb⟩
  have HR1 : Aside0 (Blk w1 w.heap.size #[.int .i64 0, .int .i64 0, .int .i64 0, .int .i64 0, .int .i64 0, .int .i64 0, .int .i64 0, .int .i64 0, .int .i64 0, .int .i64 0, .slice none 0 0, .slice none 0 0, .slice none 0 0] 29) := ⟨(Blk.new w _ _).below hb (by simp)⟩
  clear hb
  go_wp2_with fail
  refine (tipstaffref43_in.calls wd 1 20 true w1 hin).mono ?_
  rintro e0 w2 ⟨rfl, hd⟩
  have HB2 : Aside0 (Below w.heap.size w w2) := ⟨below_step HB1.out hd.below⟩
  have HR2 : Aside0 (Blk w2 w.heap.size #[.int .i64 0, .int .i64 0, .int .i64 0, .int .i64 0, .int .i64 0, .int .i64 0, .int .i64 0, .int .i64 0, .int .i64 0, .int .i64 0, .slice none 0 0, .slice none 0 0, .slice none 0 0] 29) := ⟨HR1.out.below hd.below HR1.out.lt⟩
  clear hd HB1 HR1
  go_upto_region 7 with (fail)
  obtain ⟨wa, hwa⟩ : ∃ x, w2.alloc (.cells #[.int .i64 0, .int .i64 0, .int .i64 0, .int .i64 0, .int .i64 0, .int .i64 0, .int .i64 0, .int .i64 0, .int .i64 0, .int .i64 0, .slice none 0 0, .slice none 0 0, .slice none 0 0] 29) = x := ⟨_, rfl⟩
  obtain ⟨B, hB⟩ : ∃ x, w2.heap.size = x := ⟨_, rfl⟩
  have hN : Blk wa B #[.int .i64 0, .int .i64 0, .int .i64 0, .int .i64 0, .int .i64 0, .int .i64 0, .int .i64 0, .int .i64 0, .int .i64 0, .int .i64 0, .slice none 0 0, .slice none 0 0, .slice none 0 0] 29 := by rw [← hwa, ← hB]; exact Blk.new w2 _ _
  have hR : Blk wa w.heap.size #[.int .i64 0, .int .i64 0, .int .i64 0, .int .i64 0, .int .i64 0, .int .i64 0, .int .i64 0, .int .i64 0, .int .i64 0, .int .i64 0, .slice none 0 0, .slice none 0 0, .slice none 0 0] 29 := by rw [← hwa]; exact HR2.out.alloc _
  have hBw : Below w.heap.size w wa := by rw [← hwa]; exact HB2.out.alloc HB2.out.size _
  have hlt : w.heap.size < B := by rw [← hB]; exact HR2.out.lt
  rw [hwa, hB]
  clear hwa hB HB2 HR2
  obtain ⟨ad, A1, c1, A2, c2, ea, x0, x1, x2, x3, x4, x5, g1, g2, g3, g4⟩ := at_T41 (Kd.C_below HC.out hBw) 0 (by omega) (by omega)
  rw [hm, show ((0 : Int)).toNat = 0 from rfl, show 0 * 6 = 0 from rfl, Addr.add_zero'] at x2
  cases ea
  have HN := Aside0.mk hN
  have HR := Aside0.mk hR
  have HB := Aside0.mk hBw
  have NB := Aside0.mk hN.lt
  have LB := Aside0.mk (Nat.le_of_lt hlt)
  have HLT := Aside0.mk hlt
  have HK := Aside0.mk (KeepBut.refl wa B none)
  clear hN hR hBw hlt g1 g2 g3 g4 x0 x1 x3 x4 x5
  go_upto_region 10 with (fail)
  clear x2
  -- REGION10
  refine start_ (n := 12) (S := fun w' => True) (ds := []) #[false, false, false, false, false, false, false, false, false, false, false, false] (by kernel_rfl) rfl rfl trivial (fun hHeld => ?_)
  refine pure_ (i := 0) (N := some 44) (v := ?_) (a' := ?_) #[true, false, false, false, false, false, false, false, false, false, false, false] rfl rfl (by kernel_rfl) (fun _ _ _ h => h) (Or.inl ⟨by rfl, ?_⟩) ?_ ?_
  rotate_left
  · intro w'
    go_simp
    with_reducible rfl
  rotate_left
  · simp only [Act.put, List.setIfInBounds_toArray, List.set_cons_zero, List.set_cons_succ, i64_w, i32_w]
    rfl
  refine pure_ (i := 2) (N := some 46) (v := ?_) (a' := ?_) #[true, false, true, false, false, false, false, false, false, false, false, false] rfl rfl (by kernel_rfl) (fun _ _ _ h => h) (Or.inl ⟨by rfl, ?_⟩) ?_ ?_
  rotate_left
  · intro w'
    go_simp
    with_reducible rfl
  rotate_left
  · simp only [Act.put, List.setIfInBounds_toArray, List.set_cons_zero, List.set_cons_succ, i64_w, i32_w]
    rfl
  refine pure_ (i := 4) (N := some 48) (v := ?_) (a' := ?_) #[true, false, true, false, true, false, false, false, false, false, false, false] rfl rfl (by kernel_rfl) (fun _ _ _ h => h) (Or.inl ⟨by rfl, ?_⟩) ?_ ?_
  rotate_left
  · intro w'
    go_simp
    with_reducible rfl
  rotate_left
  · simp only [Act.put, List.setIfInBounds_toArray, List.set_cons_zero, List.set_cons_succ, i64_w, i32_w]
    rfl
  refine join_ (σ := Nat × Nat × Nat) 2 #[true, true, true, true, true, true, true, true, true, true, false, false] (fun | (g1, g2, g3) => [(45, .slice (some ⟨g1, 0, none⟩) mny mny), (47, .slice (some ⟨g2, 0, none⟩) mny mny), (49, .slice (some ⟨g3, 0, none⟩) mny mny), (50, .pointer (some ⟨B, 10, none⟩)), (51, .pointer (some ⟨B, 11, none⟩))]) (fun | (g1, g2, g3) => fun w' => Aside0 (Blk w' B #[.int .i64 0, .int .i64 0, .int .i64 0, .int .i64 0, .int .i64 0, .int .i64 0, .int .i64 0, .int .i64 0, .int .i64 0, .int .i64 0, .slice (some ⟨g1, 0, none⟩) mny mny, .slice (some ⟨g2, 0, none⟩) mny mny, .slice none 0 0] 29) ∧ Aside0 (KeepBut wa w' B none) ∧ Aside0 (Below w.heap.size w w') ∧ Aside0 (Blk w' g1 (nums .i64 (List.replicate mny 0)).toArray 3) ∧ Aside0 (wa.heap.size ≤ g1) ∧ Aside0 (Blk w' g2 (nums .i64 (List.replicate mny 0)).toArray 3) ∧ Aside0 (wa.heap.size ≤ g2) ∧ Aside0 (Blk w' g3 (nums .i64 (List.replicate mny 0)).toArray 3) ∧ Aside0 (wa.heap.size ≤ g3) ∧ Aside0 (g1 ≠ g2) ∧ Aside0 (g1 ≠ g3) ∧ Aside0 (g2 ≠ g3)) ?_ ?_
  rotate_left
  · intro hJ1_3_5_7_9
    refine join_ (σ := Nat × Nat × Nat) 3 #[true, true, true, true, true, true, true, true, true, false, false, false] (fun | (g1, g2, g3) => [(45, .slice (some ⟨g1, 0, none⟩) mny mny), (47, .slice (some ⟨g2, 0, none⟩) mny mny), (49, .slice (some ⟨g3, 0, none⟩) mny mny), (50, .pointer (some ⟨B, 10, none⟩)), (51, .pointer (some ⟨B, 11, none⟩))]) (fun | (g1, g2, g3) => fun w' => Aside0 (Blk w' B #[.int .i64 0, .int .i64 0, .int .i64 0, .int .i64 0, .int .i64 0, .int .i64 0, .int .i64 0, .int .i64 0, .int .i64 0, .int .i64 0, .slice (some ⟨g1, 0, none⟩) mny mny, .slice none 0 0, .slice none 0 0] 29) ∧ Aside0 (KeepBut wa w' B none) ∧ Aside0 (Below w.heap.size w w') ∧ Aside0 (Blk w' g1 (nums .i64 (List.replicate mny 0)).toArray 3) ∧ Aside0 (wa.heap.size ≤ g1) ∧ Aside0 (Blk w' g2 (nums .i64 (List.replicate mny 0)).toArray 3) ∧ Aside0 (wa.heap.size ≤ g2) ∧ Aside0 (Blk w' g3 (nums .i64 (List.replicate mny 0)).toArray 3) ∧ Aside0 (wa.heap.size ≤ g3) ∧ Aside0 (g1 ≠ g2) ∧ Aside0 (g1 ≠ g3) ∧ Aside0 (g2 ≠ g3)) ?_ ?_
    rotate_left
    · intro hJ1_3_5_7
      refine join_ (σ := Nat × Nat × Nat) 3 #[true, true, true, true, true, false, true, true, true, true, false, false] (fun | (g1, g2, g3) => [(45, .slice (some ⟨g1, 0, none⟩) mny mny), (47, .slice (some ⟨g2, 0, none⟩) mny mny), (50, .pointer (some ⟨B, 10, none⟩)), (51, .pointer (some ⟨B, 11, none⟩))]) (fun | (g1, g2, g3) => fun w' => Aside0 (Blk w' B #[.int .i64 0, .int .i64 0, .int .i64 0, .int .i64 0, .int .i64 0, .int .i64 0, .int .i64 0, .int .i64 0, .int .i64 0, .int .i64 0, .slice (some ⟨g1, 0, none⟩) mny mny, .slice (some ⟨g2, 0, none⟩) mny mny, .slice none 0 0] 29) ∧ Aside0 (KeepBut wa w' B none) ∧ Aside0 (Below w.heap.size w w') ∧ Aside0 (Blk w' g1 (nums .i64 (List.replicate mny 0)).toArray 3) ∧ Aside0 (wa.heap.size ≤ g1) ∧ Aside0 (Blk w' g2 (nums .i64 (List.replicate mny 0)).toArray 3) ∧ Aside0 (wa.heap.size ≤ g2) ∧ Aside0 (g1 ≠ g2)) ?_ ?_
      rotate_left
      · intro hJ1_3_7_9
        refine join_ (σ := Nat × Nat × Nat) 5 #[true, true, true, true, true, true, true, false, false, false, false, false] (fun | (g1, g2, g3) => [(45, .slice (some ⟨g1, 0, none⟩) mny mny), (47, .slice (some ⟨g2, 0, none⟩) mny mny), (49, .slice (some ⟨g3, 0, none⟩) mny mny), (50, .pointer (some ⟨B, 10, none⟩))]) (fun | (g1, g2, g3) => fun w' => Aside0 (Blk w' B #[.int .i64 0, .int .i64 0, .int .i64 0, .int .i64 0, .int .i64 0, .int .i64 0, .int .i64 0, .int .i64 0, .int .i64 0, .int .i64 0, .slice none 0 0, .slice none 0 0, .slice none 0 0] 29) ∧ Aside0 (KeepBut wa w' B none) ∧ Aside0 (Below w.heap.size w w') ∧ Aside0 (Blk w' g1 (nums .i64 (List.replicate mny 0)).toArray 3) ∧ Aside0 (wa.heap.size ≤ g1) ∧ Aside0 (Blk w' g2 (nums .i64 (List.replicate mny 0)).toArray 3) ∧ Aside0 (wa.heap.size ≤ g2) ∧ Aside0 (Blk w' g3 (nums .i64 (List.replicate mny 0)).toArray 3) ∧ Aside0 (wa.heap.size ≤ g3) ∧ Aside0 (g1 ≠ g2) ∧ Aside0 (g1 ≠ g3) ∧ Aside0 (g2 ≠ g3)) ?_ ?_
        rotate_left
        · intro hJ1_3_5
          refine join_ (σ := Nat × Nat × Nat) 4 #[true, true, true, true, true, false, true, true, true, false, false, false] (fun | (g1, g2, g3) => [(45, .slice (some ⟨g1, 0, none⟩) mny mny), (47, .slice (some ⟨g2, 0, none⟩) mny mny), (50, .pointer (some ⟨B, 10, none⟩)), (51, .pointer (some ⟨B, 11, none⟩))]) (fun | (g1, g2, g3) => fun w' => Aside0 (Blk w' B #[.int .i64 0, .int .i64 0, .int .i64 0, .int .i64 0, .int .i64 0, .int .i64 0, .int .i64 0, .int .i64 0, .int .i64 0, .int .i64 0, .slice (some ⟨g1, 0, none⟩) mny mny, .slice none 0 0, .slice none 0 0] 29) ∧ Aside0 (KeepBut wa w' B none) ∧ Aside0 (Below w.heap.size w w') ∧ Aside0 (Blk w' g1 (nums .i64 (List.replicate mny 0)).toArray 3) ∧ Aside0 (wa.heap.size ≤ g1) ∧ Aside0 (Blk w' g2 (nums .i64 (List.replicate mny 0)).toArray 3) ∧ Aside0 (wa.heap.size ≤ g2) ∧ Aside0 (g1 ≠ g2)) ?_ ?_
          rotate_left
          · intro hJ1_3_7
            refine join_ (σ := Nat × Nat × Nat) 5 #[true, true, true, false, true, true, true, true, false, false, false, false] (fun | (g1, g2, g3) => [(45, .slice (some ⟨g1, 0, none⟩) mny mny), (49, .slice (some ⟨g3, 0, none⟩) mny mny), (50, .pointer (some ⟨B, 10, none⟩))]) (fun | (g1, g2, g3) => fun w' => Aside0 (Blk w' B #[.int .i64 0, .int .i64 0, .int .i64 0, .int .i64 0, .int .i64 0, .int .i64 0, .int .i64 0, .int .i64 0, .int .i64 0, .int .i64 0, .slice (some ⟨g1, 0, none⟩) mny mny, .slice none 0 0, .slice none 0 0] 29) ∧ Aside0 (KeepBut wa w' B none) ∧ Aside0 (Below w.heap.size w w') ∧ Aside0 (Blk w' g1 (nums .i64 (List.replicate mny 0)).toArray 3) ∧ Aside0 (wa.heap.size ≤ g1) ∧ Aside0 (Blk w' g3 (nums .i64 (List.replicate mny 0)).toArray 3) ∧ Aside0 (wa.heap.size ≤ g3) ∧ Aside0 (g1 ≠ g3)) ?_ ?_
            rotate_left
            · intro hJ1_5_7
              refine join_ (σ := Nat × Nat × Nat) 6 #[true, true, true, true, true, false, true, false, false, false, false, false] (fun | (g1, g2, g3) => [(45, .slice (some ⟨g1, 0, none⟩) mny mny), (47, .slice (some ⟨g2, 0, none⟩) mny mny), (50, .pointer (some ⟨B, 10, none⟩))]) (fun | (g1, g2, g3) => fun w' => Aside0 (Blk w' B #[.int .i64 0, .int .i64 0, .int .i64 0, .int .i64 0, .int .i64 0, .int .i64 0, .int .i64 0, .int .i64 0, .int .i64 0, .int .i64 0, .slice none 0 0, .slice none 0 0, .slice none 0 0] 29) ∧ Aside0 (KeepBut wa w' B none) ∧ Aside0 (Below w.heap.size w w') ∧ Aside0 (Blk w' g1 (nums .i64 (List.replicate mny 0)).toArray 3) ∧ Aside0 (wa.heap.size ≤ g1) ∧ Aside0 (Blk w' g2 (nums .i64 (List.replicate mny 0)).toArray 3) ∧ Aside0 (wa.heap.size ≤ g2) ∧ Aside0 (g1 ≠ g2)) ?_ ?_
              rotate_left
              · intro hJ1_3
                refine join_ (σ := Nat × Nat × Nat) 6 #[true, true, true, false, true, true, true, false, false, false, false, false] (fun | (g1, g2, g3) => [(45, .slice (some ⟨g1, 0, none⟩) mny mny), (49, .slice (some ⟨g3, 0, none⟩) mny mny), (50, .pointer (some ⟨B, 10, none⟩))]) (fun | (g1, g2, g3) => fun w' => Aside0 (Blk w' B #[.int .i64 0, .int .i64 0, .int .i64 0, .int .i64 0, .int .i64 0, .int .i64 0, .int .i64 0, .int .i64 0, .int .i64 0, .int .i64 0, .slice none 0 0, .slice none 0 0, .slice none 0 0] 29) ∧ Aside0 (KeepBut wa w' B none) ∧ Aside0 (Below w.heap.size w w') ∧ Aside0 (Blk w' g1 (nums .i64 (List.replicate mny 0)).toArray 3) ∧ Aside0 (wa.heap.size ≤ g1) ∧ Aside0 (Blk w' g3 (nums .i64 (List.replicate mny 0)).toArray 3) ∧ Aside0 (wa.heap.size ≤ g3) ∧ Aside0 (g1 ≠ g3)) ?_ ?_
                rotate_left
                · intro hJ1_5
                  refine join_ (σ := Nat × Nat × Nat) 6 #[true, true, true, false, true, false, true, true, false, false, false, false] (fun | (g1, g2, g3) => [(45, .slice (some ⟨g1, 0, none⟩) mny mny), (50, .pointer (some ⟨B, 10, none⟩))]) (fun | (g1, g2, g3) => fun w' => Aside0 (Blk w' B #[.int .i64 0, .int .i64 0, .int .i64 0, .int .i64 0, .int .i64 0, .int .i64 0, .int .i64 0, .int .i64 0, .int .i64 0, .int .i64 0, .slice (some ⟨g1, 0, none⟩) mny mny, .slice none 0 0, .slice none 0 0] 29) ∧ Aside0 (KeepBut wa w' B none) ∧ Aside0 (Below w.heap.size w w') ∧ Aside0 (Blk w' g1 (nums .i64 (List.replicate mny 0)).toArray 3) ∧ Aside0 (wa.heap.size ≤ g1)) ?_ ?_
                  rotate_left
                  · intro hJ1_7
                    refine join_ (σ := Nat × Nat × Nat) 7 #[true, false, true, true, true, true, false, false, false, false, false, false] (fun | (g1, g2, g3) => [(47, .slice (some ⟨g2, 0, none⟩) mny mny), (49, .slice (some ⟨g3, 0, none⟩) mny mny)]) (fun | (g1, g2, g3) => fun w' => Aside0 (Blk w' B #[.int .i64 0, .int .i64 0, .int .i64 0, .int .i64 0, .int .i64 0, .int .i64 0, .int .i64 0, .int .i64 0, .int .i64 0, .int .i64 0, .slice none 0 0, .slice none 0 0, .slice none 0 0] 29) ∧ Aside0 (KeepBut wa w' B none) ∧ Aside0 (Below w.heap.size w w') ∧ Aside0 (Blk w' g2 (nums .i64 (List.replicate mny 0)).toArray 3) ∧ Aside0 (wa.heap.size ≤ g2) ∧ Aside0 (Blk w' g3 (nums .i64 (List.replicate mny 0)).toArray 3) ∧ Aside0 (wa.heap.size ≤ g3) ∧ Aside0 (g2 ≠ g3)) ?_ ?_
                    rotate_left
                    · intro hJ3_5
                      refine join_ (σ := Nat × Nat × Nat) 7 #[true, true, true, false, true, false, true, false, false, false, false, false] (fun | (g1, g2, g3) => [(45, .slice (some ⟨g1, 0, none⟩) mny mny), (50, .pointer (some ⟨B, 10, none⟩))]) (fun | (g1, g2, g3) => fun w' => Aside0 (Blk w' B #[.int .i64 0, .int .i64 0, .int .i64 0, .int .i64 0, .int .i64 0, .int .i64 0, .int .i64 0, .int .i64 0, .int .i64 0, .int .i64 0, .slice none 0 0, .slice none 0 0, .slice none 0 0] 29) ∧ Aside0 (KeepBut wa w' B none) ∧ Aside0 (Below w.heap.size w w') ∧ Aside0 (Blk w' g1 (nums .i64 (List.replicate mny 0)).toArray 3) ∧ Aside0 (wa.heap.size ≤ g1)) ?_ ?_
                      rotate_left
                      · intro hJ1
                        refine join_ (σ := Nat × Nat × Nat) 8 #[true, false, true, true, true, false, false, false, false, false, false, false] (fun | (g1, g2, g3) => [(47, .slice (some ⟨g2, 0, none⟩) mny mny)]) (fun | (g1, g2, g3) => fun w' => Aside0 (Blk w' B #[.int .i64 0, .int .i64 0, .int .i64 0, .int .i64 0, .int .i64 0, .int .i64 0, .int .i64 0, .int .i64 0, .int .i64 0, .int .i64 0, .slice none 0 0, .slice none 0 0, .slice none 0 0] 29) ∧ Aside0 (KeepBut wa w' B none) ∧ Aside0 (Below w.heap.size w w') ∧ Aside0 (Blk w' g2 (nums .i64 (List.replicate mny 0)).toArray 3) ∧ Aside0 (wa.heap.size ≤ g2)) ?_ ?_
                        rotate_left
                        · intro hJ3
                          refine join_ (σ := Nat × Nat × Nat) 8 #[true, false, true, false, true, true, false, false, false, false, false, false] (fun | (g1, g2, g3) => [(49, .slice (some ⟨g3, 0, none⟩) mny mny)]) (fun | (g1, g2, g3) => fun w' => Aside0 (Blk w' B #[.int .i64 0, .int .i64 0, .int .i64 0, .int .i64 0, .int .i64 0, .int .i64 0, .int .i64 0, .int .i64 0, .int .i64 0, .int .i64 0, .slice none 0 0, .slice none 0 0, .slice none 0 0] 29) ∧ Aside0 (KeepBut wa w' B none) ∧ Aside0 (Below w.heap.size w w') ∧ Aside0 (Blk w' g3 (nums .i64 (List.replicate mny 0)).toArray 3) ∧ Aside0 (wa.heap.size ≤ g3)) ?_ ?_
                          rotate_left
                          · intro hJ5
                            refine three_ (i := 1) (j := 3) (k := 5) (Ni := some 45) (Nj := some 47) (Nk := some 49) #[true, true, true, false, true, false, false, false, false, false, false, false] #[true, false, true, true, true, false, false, false, false, false, false, false] #[true, false, true, false, true, true, false, false, false, false, false, false] rfl rfl rfl rfl rfl rfl (by kernel_rfl) (by decide) (by decide) (by decide) (fun K hK => ?_) (fun K hK => ?_) (fun K hK => ?_)
                            · skip
                              refine made_step ?hw (N := 45) ?hd (m := mny) ?hr ?_
                              (case hd => rfl)
                              (case hw => rfl)
                              (case hr => first | (go_simp; done) | (go_simp; rfl))
                              intro g1n hg_ w3 hbx hb
                              have HN3 : Aside0 (Blk w3 B #[.int .i64 0, .int .i64 0, .int .i64 0, .int .i64 0, .int .i64 0, .int .i64 0, .int .i64 0, .int .i64 0, .int .i64 0, .int .i64 0, .slice none 0 0, .slice none 0 0, .slice none 0 0] 29) := ⟨blk_below (by (with_reducible repeat (first | refine blk_drewN ?_ _ | refine blk_drew ?_)); exact HN.out) hb⟩
                              have HK3 : Aside0 (KeepBut wa w3 B none) := ⟨KeepBut.trans (by repeat (first | (with_reducible first | exact HK.out | apply keep_drewN | apply keep_drew) | exact HK.out)) (KeepBut.of_below hb _ none) (.inl rfl)⟩
                              have HB3 : Aside0 (Below w.heap.size w w3) := ⟨below_step (by repeat (first | (with_reducible first | exact HB.out | apply below_alloc | apply pw_below_drewN | apply below_drew1) | exact HB.out)) hb⟩
                              have H13 : Aside0 (Blk w3 g1n (nums .i64 (List.replicate mny 0)).toArray 3) := ⟨hbx⟩
                              have L13 : Aside0 (wa.heap.size ≤ g1n) := ⟨by rw [hg_]; exact HK.out.1⟩
                              refine hK.out _ _ trivial (fun hHeld => ?_)
                              clear hK K
                              refine norm_ (a' := ?_) ?_ ?_
                              rotate_left
                              · show Act.put _ (some 45) _ = _
                                simp only [Act.put, List.setIfInBounds_toArray, List.set_cons_zero, List.set_cons_succ, i64_w, i32_w]
                                rfl
                              refine pure_ (i := 6) (N := some 50) (v := ?_) (a' := ?_) #[true, true, true, false, true, false, true, false, false, false, false, false] rfl rfl (by kernel_rfl) (fun _ _ _ h => h) (Or.inl ⟨by rfl, ?_⟩) ?_ ?_
                              rotate_left
                              · intro w'
                                go_simp
                                with_reducible rfl
                              rotate_left
                              · simp only [Act.put, List.setIfInBounds_toArray, List.set_cons_zero, List.set_cons_succ, i64_w, i32_w]
                                rfl
                              exact norm_ (by first | (simp only [putAll, Act.put, List.setIfInBounds_toArray, List.set_cons_zero, List.set_cons_succ]; done) | (simp only [putAll, Act.put, List.setIfInBounds_toArray, List.set_cons_zero, List.set_cons_succ]; rfl)) (hJ1 (g1n, 0, 0) _ ⟨HN3, HK3, HB3, H13, L13⟩)
                            · skip
                              refine made_step ?hw (N := 47) ?hd (m := mny) ?hr ?_
                              (case hd => rfl)
                              (case hw => rfl)
                              (case hr => first | (go_simp; done) | (go_simp; rfl))
                              intro g2n hg_ w3 hbx hb
                              have HN3 : Aside0 (Blk w3 B #[.int .i64 0, .int .i64 0, .int .i64 0, .int .i64 0, .int .i64 0, .int .i64 0, .int .i64 0, .int .i64 0, .int .i64 0, .int .i64 0, .slice none 0 0, .slice none 0 0, .slice none 0 0] 29) := ⟨blk_below (by (with_reducible repeat (first | refine blk_drewN ?_ _ | refine blk_drew ?_)); exact HN.out) hb⟩
                              have HK3 : Aside0 (KeepBut wa w3 B none) := ⟨KeepBut.trans (by repeat (first | (with_reducible first | exact HK.out | apply keep_drewN | apply keep_drew) | exact HK.out)) (KeepBut.of_below hb _ none) (.inl rfl)⟩
                              have HB3 : Aside0 (Below w.heap.size w w3) := ⟨below_step (by repeat (first | (with_reducible first | exact HB.out | apply below_alloc | apply pw_below_drewN | apply below_drew1) | exact HB.out)) hb⟩
                              have H33 : Aside0 (Blk w3 g2n (nums .i64 (List.replicate mny 0)).toArray 3) := ⟨hbx⟩
                              have L33 : Aside0 (wa.heap.size ≤ g2n) := ⟨by rw [hg_]; exact HK.out.1⟩
                              refine hK.out _ _ trivial (fun hHeld => ?_)
                              clear hK K
                              refine norm_ (a' := ?_) ?_ ?_
                              rotate_left
                              · show Act.put _ (some 47) _ = _
                                simp only [Act.put, List.setIfInBounds_toArray, List.set_cons_zero, List.set_cons_succ, i64_w, i32_w]
                                rfl
                              exact norm_ (by first | (simp only [putAll, Act.put, List.setIfInBounds_toArray, List.set_cons_zero, List.set_cons_succ]; done) | (simp only [putAll, Act.put, List.setIfInBounds_toArray, List.set_cons_zero, List.set_cons_succ]; rfl)) (hJ3 (0, g2n, 0) _ ⟨HN3, HK3, HB3, H33, L33⟩)
                            · skip
                              refine made_step ?hw (N := 49) ?hd (m := mny) ?hr ?_
                              (case hd => rfl)
                              (case hw => rfl)
                              (case hr => first | (go_simp; done) | (go_simp; rfl))
                              intro g3n hg_ w3 hbx hb
                              have HN3 : Aside0 (Blk w3 B #[.int .i64 0, .int .i64 0, .int .i64 0, .int .i64 0, .int .i64 0, .int .i64 0, .int .i64 0, .int .i64 0, .int .i64 0, .int .i64 0, .slice none 0 0, .slice none 0 0, .slice none 0 0] 29) := ⟨blk_below (by (with_reducible repeat (first | refine blk_drewN ?_ _ | refine blk_drew ?_)); exact HN.out) hb⟩
                              have HK3 : Aside0 (KeepBut wa w3 B none) := ⟨KeepBut.trans (by repeat (first | (with_reducible first | exact HK.out | apply keep_drewN | apply keep_drew) | exact HK.out)) (KeepBut.of_below hb _ none) (.inl rfl)⟩
                              have HB3 : Aside0 (Below w.heap.size w w3) := ⟨below_step (by repeat (first | (with_reducible first | exact HB.out | apply below_alloc | apply pw_below_drewN | apply below_drew1) | exact HB.out)) hb⟩
                              have H53 : Aside0 (Blk w3 g3n (nums .i64 (List.replicate mny 0)).toArray 3) := ⟨hbx⟩
                              have L53 : Aside0 (wa.heap.size ≤ g3n) := ⟨by rw [hg_]; exact HK.out.1⟩
                              refine hK.out _ _ trivial (fun hHeld => ?_)
                              clear hK K
                              refine norm_ (a' := ?_) ?_ ?_
                              rotate_left
                              · show Act.put _ (some 49) _ = _
                                simp only [Act.put, List.setIfInBounds_toArray, List.set_cons_zero, List.set_cons_succ, i64_w, i32_w]
                                rfl
                              exact norm_ (by first | (simp only [putAll, Act.put, List.setIfInBounds_toArray, List.set_cons_zero, List.set_cons_succ]; done) | (simp only [putAll, Act.put, List.setIfInBounds_toArray, List.set_cons_zero, List.set_cons_succ]; rfl)) (hJ5 (0, 0, g3n) _ ⟨HN3, HK3, HB3, H53, L53⟩)
                          · skip
                            rintro ⟨g1, g2, g3⟩ w' ⟨HN, HK, HB, H5, L5⟩
                            have hHeld : True := trivial
                            refine norm_ (a' := ?_) ?_ ?_
                            rotate_left
                            · simp only [putAll, Act.put, List.setIfInBounds_toArray, List.set_cons_zero, List.set_cons_succ]
                              rfl
                            refine two_ (i := 1) (j := 3) (Ni := some 45) (Nj := some 47) #[true, true, true, false, true, true, false, false, false, false, false, false] #[true, false, true, true, true, true, false, false, false, false, false, false] rfl rfl rfl rfl (by kernel_rfl) (by decide) (by decide) (fun K hK => ?_) (fun K hK => ?_)
                            · skip
                              refine made_step ?hw (N := 45) ?hd (m := mny) ?hr ?_
                              (case hd => rfl)
                              (case hw => rfl)
                              (case hr => first | (go_simp; done) | (go_simp; rfl))
                              intro g1n hg_ w3 hbx hb
                              have HN3 : Aside0 (Blk w3 B #[.int .i64 0, .int .i64 0, .int .i64 0, .int .i64 0, .int .i64 0, .int .i64 0, .int .i64 0, .int .i64 0, .int .i64 0, .int .i64 0, .slice none 0 0, .slice none 0 0, .slice none 0 0] 29) := ⟨blk_below (by (with_reducible repeat (first | refine blk_drewN ?_ _ | refine blk_drew ?_)); exact HN.out) hb⟩
                              have HK3 : Aside0 (KeepBut wa w3 B none) := ⟨KeepBut.trans (by repeat (first | (with_reducible first | exact HK.out | apply keep_drewN | apply keep_drew) | exact HK.out)) (KeepBut.of_below hb _ none) (.inl rfl)⟩
                              have HB3 : Aside0 (Below w.heap.size w w3) := ⟨below_step (by repeat (first | (with_reducible first | exact HB.out | apply below_alloc | apply pw_below_drewN | apply below_drew1) | exact HB.out)) hb⟩
                              have H53 : Aside0 (Blk w3 g3 (nums .i64 (List.replicate mny 0)).toArray 3) := ⟨blk_below (by (with_reducible repeat (first | refine blk_drewN ?_ _ | refine blk_drew ?_)); exact H5.out) hb⟩
                              have H13 : Aside0 (Blk w3 g1n (nums .i64 (List.replicate mny 0)).toArray 3) := ⟨hbx⟩
                              have L13 : Aside0 (wa.heap.size ≤ g1n) := ⟨by rw [hg_]; exact HK.out.1⟩
                              have N153 : Aside0 (g1n ≠ g3) := ⟨by rw [hg_]; exact Nat.ne_of_gt (blk_lt (by (with_reducible repeat (first | refine blk_drewN ?_ _ | refine blk_drew ?_)); exact H5.out))⟩
                              refine hK.out _ _ trivial (fun hHeld => ?_)
                              clear hK K
                              refine norm_ (a' := ?_) ?_ ?_
                              rotate_left
                              · show Act.put _ (some 45) _ = _
                                simp only [Act.put, List.setIfInBounds_toArray, List.set_cons_zero, List.set_cons_succ, i64_w, i32_w]
                                rfl
                              refine pure_ (i := 6) (N := some 50) (v := ?_) (a' := ?_) #[true, true, true, false, true, true, true, false, false, false, false, false] rfl rfl (by kernel_rfl) (fun _ _ _ h => h) (Or.inl ⟨by rfl, ?_⟩) ?_ ?_
                              rotate_left
                              · intro w'
                                go_simp
                                with_reducible rfl
                              rotate_left
                              · simp only [Act.put, List.setIfInBounds_toArray, List.set_cons_zero, List.set_cons_succ, i64_w, i32_w]
                                rfl
                              exact norm_ (by first | (simp only [putAll, Act.put, List.setIfInBounds_toArray, List.set_cons_zero, List.set_cons_succ]; done) | (simp only [putAll, Act.put, List.setIfInBounds_toArray, List.set_cons_zero, List.set_cons_succ]; rfl)) (hJ1_5 (g1n, 0, g3) _ ⟨HN3, HK3, HB3, H13, L13, H53, L5, N153⟩)
                            · skip
                              refine made_step ?hw (N := 47) ?hd (m := mny) ?hr ?_
                              (case hd => rfl)
                              (case hw => rfl)
                              (case hr => first | (go_simp; done) | (go_simp; rfl))
                              intro g2n hg_ w3 hbx hb
                              have HN3 : Aside0 (Blk w3 B #[.int .i64 0, .int .i64 0, .int .i64 0, .int .i64 0, .int .i64 0, .int .i64 0, .int .i64 0, .int .i64 0, .int .i64 0, .int .i64 0, .slice none 0 0, .slice none 0 0, .slice none 0 0] 29) := ⟨blk_below (by (with_reducible repeat (first | refine blk_drewN ?_ _ | refine blk_drew ?_)); exact HN.out) hb⟩
                              have HK3 : Aside0 (KeepBut wa w3 B none) := ⟨KeepBut.trans (by repeat (first | (with_reducible first | exact HK.out | apply keep_drewN | apply keep_drew) | exact HK.out)) (KeepBut.of_below hb _ none) (.inl rfl)⟩
                              have HB3 : Aside0 (Below w.heap.size w w3) := ⟨below_step (by repeat (first | (with_reducible first | exact HB.out | apply below_alloc | apply pw_below_drewN | apply below_drew1) | exact HB.out)) hb⟩
                              have H53 : Aside0 (Blk w3 g3 (nums .i64 (List.replicate mny 0)).toArray 3) := ⟨blk_below (by (with_reducible repeat (first | refine blk_drewN ?_ _ | refine blk_drew ?_)); exact H5.out) hb⟩
                              have H33 : Aside0 (Blk w3 g2n (nums .i64 (List.replicate mny 0)).toArray 3) := ⟨hbx⟩
                              have L33 : Aside0 (wa.heap.size ≤ g2n) := ⟨by rw [hg_]; exact HK.out.1⟩
                              have N353 : Aside0 (g2n ≠ g3) := ⟨by rw [hg_]; exact Nat.ne_of_gt (blk_lt (by (with_reducible repeat (first | refine blk_drewN ?_ _ | refine blk_drew ?_)); exact H5.out))⟩
                              refine hK.out _ _ trivial (fun hHeld => ?_)
                              clear hK K
                              refine norm_ (a' := ?_) ?_ ?_
                              rotate_left
                              · show Act.put _ (some 47) _ = _
                                simp only [Act.put, List.setIfInBounds_toArray, List.set_cons_zero, List.set_cons_succ, i64_w, i32_w]
                                rfl
                              exact norm_ (by first | (simp only [putAll, Act.put, List.setIfInBounds_toArray, List.set_cons_zero, List.set_cons_succ]; done) | (simp only [putAll, Act.put, List.setIfInBounds_toArray, List.set_cons_zero, List.set_cons_succ]; rfl)) (hJ3_5 (0, g2n, g3) _ ⟨HN3, HK3, HB3, H33, L33, H53, L5, N353⟩)
                        · skip
                          rintro ⟨g1, g2, g3⟩ w' ⟨HN, HK, HB, H3, L3⟩
                          have hHeld : True := trivial
                          refine norm_ (a' := ?_) ?_ ?_
                          rotate_left
                          · simp only [putAll, Act.put, List.setIfInBounds_toArray, List.set_cons_zero, List.set_cons_succ]
                            rfl
                          refine two_ (i := 1) (j := 5) (Ni := some 45) (Nj := some 49) #[true, true, true, true, true, false, false, false, false, false, false, false] #[true, false, true, true, true, true, false, false, false, false, false, false] rfl rfl rfl rfl (by kernel_rfl) (by decide) (by decide) (fun K hK => ?_) (fun K hK => ?_)
                          · skip
                            refine made_step ?hw (N := 45) ?hd (m := mny) ?hr ?_
                            (case hd => rfl)
                            (case hw => rfl)
                            (case hr => first | (go_simp; done) | (go_simp; rfl))
                            intro g1n hg_ w3 hbx hb
                            have HN3 : Aside0 (Blk w3 B #[.int .i64 0, .int .i64 0, .int .i64 0, .int .i64 0, .int .i64 0, .int .i64 0, .int .i64 0, .int .i64 0, .int .i64 0, .int .i64 0, .slice none 0 0, .slice none 0 0, .slice none 0 0] 29) := ⟨blk_below (by (with_reducible repeat (first | refine blk_drewN ?_ _ | refine blk_drew ?_)); exact HN.out) hb⟩
                            have HK3 : Aside0 (KeepBut wa w3 B none) := ⟨KeepBut.trans (by repeat (first | (with_reducible first | exact HK.out | apply keep_drewN | apply keep_drew) | exact HK.out)) (KeepBut.of_below hb _ none) (.inl rfl)⟩
                            have HB3 : Aside0 (Below w.heap.size w w3) := ⟨below_step (by repeat (first | (with_reducible first | exact HB.out | apply below_alloc | apply pw_below_drewN | apply below_drew1) | exact HB.out)) hb⟩
                            have H33 : Aside0 (Blk w3 g2 (nums .i64 (List.replicate mny 0)).toArray 3) := ⟨blk_below (by (with_reducible repeat (first | refine blk_drewN ?_ _ | refine blk_drew ?_)); exact H3.out) hb⟩
                            have H13 : Aside0 (Blk w3 g1n (nums .i64 (List.replicate mny 0)).toArray 3) := ⟨hbx⟩
                            have L13 : Aside0 (wa.heap.size ≤ g1n) := ⟨by rw [hg_]; exact HK.out.1⟩
                            have N133 : Aside0 (g1n ≠ g2) := ⟨by rw [hg_]; exact Nat.ne_of_gt (blk_lt (by (with_reducible repeat (first | refine blk_drewN ?_ _ | refine blk_drew ?_)); exact H3.out))⟩
                            refine hK.out _ _ trivial (fun hHeld => ?_)
                            clear hK K
                            refine norm_ (a' := ?_) ?_ ?_
                            rotate_left
                            · show Act.put _ (some 45) _ = _
                              simp only [Act.put, List.setIfInBounds_toArray, List.set_cons_zero, List.set_cons_succ, i64_w, i32_w]
                              rfl
                            refine pure_ (i := 6) (N := some 50) (v := ?_) (a' := ?_) #[true, true, true, true, true, false, true, false, false, false, false, false] rfl rfl (by kernel_rfl) (fun _ _ _ h => h) (Or.inl ⟨by rfl, ?_⟩) ?_ ?_
                            rotate_left
                            · intro w'
                              go_simp
                              with_reducible rfl
                            rotate_left
                            · simp only [Act.put, List.setIfInBounds_toArray, List.set_cons_zero, List.set_cons_succ, i64_w, i32_w]
                              rfl
                            exact norm_ (by first | (simp only [putAll, Act.put, List.setIfInBounds_toArray, List.set_cons_zero, List.set_cons_succ]; done) | (simp only [putAll, Act.put, List.setIfInBounds_toArray, List.set_cons_zero, List.set_cons_succ]; rfl)) (hJ1_3 (g1n, g2, 0) _ ⟨HN3, HK3, HB3, H13, L13, H33, L3, N133⟩)
                          · skip
                            refine made_step ?hw (N := 49) ?hd (m := mny) ?hr ?_
                            (case hd => rfl)
                            (case hw => rfl)
                            (case hr => first | (go_simp; done) | (go_simp; rfl))
                            intro g3n hg_ w3 hbx hb
                            have HN3 : Aside0 (Blk w3 B #[.int .i64 0, .int .i64 0, .int .i64 0, .int .i64 0, .int .i64 0, .int .i64 0, .int .i64 0, .int .i64 0, .int .i64 0, .int .i64 0, .slice none 0 0, .slice none 0 0, .slice none 0 0] 29) := ⟨blk_below (by (with_reducible repeat (first | refine blk_drewN ?_ _ | refine blk_drew ?_)); exact HN.out) hb⟩
                            have HK3 : Aside0 (KeepBut wa w3 B none) := ⟨KeepBut.trans (by repeat (first | (with_reducible first | exact HK.out | apply keep_drewN | apply keep_drew) | exact HK.out)) (KeepBut.of_below hb _ none) (.inl rfl)⟩
                            have HB3 : Aside0 (Below w.heap.size w w3) := ⟨below_step (by repeat (first | (with_reducible first | exact HB.out | apply below_alloc | apply pw_below_drewN | apply below_drew1) | exact HB.out)) hb⟩
                            have H33 : Aside0 (Blk w3 g2 (nums .i64 (List.replicate mny 0)).toArray 3) := ⟨blk_below (by (with_reducible repeat (first | refine blk_drewN ?_ _ | refine blk_drew ?_)); exact H3.out) hb⟩
                            have H53 : Aside0 (Blk w3 g3n (nums .i64 (List.replicate mny 0)).toArray 3) := ⟨hbx⟩
                            have L53 : Aside0 (wa.heap.size ≤ g3n) := ⟨by rw [hg_]; exact HK.out.1⟩
                            have N353 : Aside0 (g2 ≠ g3n) := ⟨by rw [hg_]; exact Nat.ne_of_lt (blk_lt (by (with_reducible repeat (first | refine blk_drewN ?_ _ | refine blk_drew ?_)); exact H3.out))⟩
                            refine hK.out _ _ trivial (fun hHeld => ?_)
                            clear hK K
                            refine norm_ (a' := ?_) ?_ ?_
                            rotate_left
                            · show Act.put _ (some 49) _ = _
                              simp only [Act.put, List.setIfInBounds_toArray, List.set_cons_zero, List.set_cons_succ, i64_w, i32_w]
                              rfl
                            exact norm_ (by first | (simp only [putAll, Act.put, List.setIfInBounds_toArray, List.set_cons_zero, List.set_cons_succ]; done) | (simp only [putAll, Act.put, List.setIfInBounds_toArray, List.set_cons_zero, List.set_cons_succ]; rfl)) (hJ3_5 (0, g2, g3n) _ ⟨HN3, HK3, HB3, H33, L3, H53, L53, N353⟩)
                      · skip
                        rintro ⟨g1, g2, g3⟩ w' ⟨HN, HK, HB, H1, L1⟩
                        have hHeld : True := trivial
                        refine norm_ (a' := ?_) ?_ ?_
                        rotate_left
                        · simp only [putAll, Act.put, List.setIfInBounds_toArray, List.set_cons_zero, List.set_cons_succ]
                          rfl
                        refine three_ (i := 3) (j := 5) (k := 7) (Ni := some 47) (Nj := some 49) (Nk := none) #[true, true, true, true, true, false, true, false, false, false, false, false] #[true, true, true, false, true, true, true, false, false, false, false, false] #[true, true, true, false, true, false, true, true, false, false, false, false] rfl rfl rfl rfl rfl rfl (by kernel_rfl) (by decide) (by decide) (by decide) (fun K hK => ?_) (fun K hK => ?_) (fun K hK => ?_)
                        · skip
                          refine made_step ?hw (N := 47) ?hd (m := mny) ?hr ?_
                          (case hd => rfl)
                          (case hw => rfl)
                          (case hr => first | (go_simp; done) | (go_simp; rfl))
                          intro g2n hg_ w3 hbx hb
                          have HN3 : Aside0 (Blk w3 B #[.int .i64 0, .int .i64 0, .int .i64 0, .int .i64 0, .int .i64 0, .int .i64 0, .int .i64 0, .int .i64 0, .int .i64 0, .int .i64 0, .slice none 0 0, .slice none 0 0, .slice none 0 0] 29) := ⟨blk_below (by (with_reducible repeat (first | refine blk_drewN ?_ _ | refine blk_drew ?_)); exact HN.out) hb⟩
                          have HK3 : Aside0 (KeepBut wa w3 B none) := ⟨KeepBut.trans (by repeat (first | (with_reducible first | exact HK.out | apply keep_drewN | apply keep_drew) | exact HK.out)) (KeepBut.of_below hb _ none) (.inl rfl)⟩
                          have HB3 : Aside0 (Below w.heap.size w w3) := ⟨below_step (by repeat (first | (with_reducible first | exact HB.out | apply below_alloc | apply pw_below_drewN | apply below_drew1) | exact HB.out)) hb⟩
                          have H13 : Aside0 (Blk w3 g1 (nums .i64 (List.replicate mny 0)).toArray 3) := ⟨blk_below (by (with_reducible repeat (first | refine blk_drewN ?_ _ | refine blk_drew ?_)); exact H1.out) hb⟩
                          have H33 : Aside0 (Blk w3 g2n (nums .i64 (List.replicate mny 0)).toArray 3) := ⟨hbx⟩
                          have L33 : Aside0 (wa.heap.size ≤ g2n) := ⟨by rw [hg_]; exact HK.out.1⟩
                          have N133 : Aside0 (g1 ≠ g2n) := ⟨by rw [hg_]; exact Nat.ne_of_lt (blk_lt (by (with_reducible repeat (first | refine blk_drewN ?_ _ | refine blk_drew ?_)); exact H1.out))⟩
                          refine hK.out _ _ trivial (fun hHeld => ?_)
                          clear hK K
                          refine norm_ (a' := ?_) ?_ ?_
                          rotate_left
                          · show Act.put _ (some 47) _ = _
                            simp only [Act.put, List.setIfInBounds_toArray, List.set_cons_zero, List.set_cons_succ, i64_w, i32_w]
                            rfl
                          exact norm_ (by first | (simp only [putAll, Act.put, List.setIfInBounds_toArray, List.set_cons_zero, List.set_cons_succ]; done) | (simp only [putAll, Act.put, List.setIfInBounds_toArray, List.set_cons_zero, List.set_cons_succ]; rfl)) (hJ1_3 (g1, g2n, 0) _ ⟨HN3, HK3, HB3, H13, L1, H33, L33, N133⟩)
                        · skip
                          refine made_step ?hw (N := 49) ?hd (m := mny) ?hr ?_
                          (case hd => rfl)
                          (case hw => rfl)
                          (case hr => first | (go_simp; done) | (go_simp; rfl))
                          intro g3n hg_ w3 hbx hb
                          have HN3 : Aside0 (Blk w3 B #[.int .i64 0, .int .i64 0, .int .i64 0, .int .i64 0, .int .i64 0, .int .i64 0, .int .i64 0, .int .i64 0, .int .i64 0, .int .i64 0, .slice none 0 0, .slice none 0 0, .slice none 0 0] 29) := ⟨blk_below (by (with_reducible repeat (first | refine blk_drewN ?_ _ | refine blk_drew ?_)); exact HN.out) hb⟩
                          have HK3 : Aside0 (KeepBut wa w3 B none) := ⟨KeepBut.trans (by repeat (first | (with_reducible first | exact HK.out | apply keep_drewN | apply keep_drew) | exact HK.out)) (KeepBut.of_below hb _ none) (.inl rfl)⟩
                          have HB3 : Aside0 (Below w.heap.size w w3) := ⟨below_step (by repeat (first | (with_reducible first | exact HB.out | apply below_alloc | apply pw_below_drewN | apply below_drew1) | exact HB.out)) hb⟩
                          have H13 : Aside0 (Blk w3 g1 (nums .i64 (List.replicate mny 0)).toArray 3) := ⟨blk_below (by (with_reducible repeat (first | refine blk_drewN ?_ _ | refine blk_drew ?_)); exact H1.out) hb⟩
                          have H53 : Aside0 (Blk w3 g3n (nums .i64 (List.replicate mny 0)).toArray 3) := ⟨hbx⟩
                          have L53 : Aside0 (wa.heap.size ≤ g3n) := ⟨by rw [hg_]; exact HK.out.1⟩
                          have N153 : Aside0 (g1 ≠ g3n) := ⟨by rw [hg_]; exact Nat.ne_of_lt (blk_lt (by (with_reducible repeat (first | refine blk_drewN ?_ _ | refine blk_drew ?_)); exact H1.out))⟩
                          refine hK.out _ _ trivial (fun hHeld => ?_)
                          clear hK K
                          refine norm_ (a' := ?_) ?_ ?_
                          rotate_left
                          · show Act.put _ (some 49) _ = _
                            simp only [Act.put, List.setIfInBounds_toArray, List.set_cons_zero, List.set_cons_succ, i64_w, i32_w]
                            rfl
                          exact norm_ (by first | (simp only [putAll, Act.put, List.setIfInBounds_toArray, List.set_cons_zero, List.set_cons_succ]; done) | (simp only [putAll, Act.put, List.setIfInBounds_toArray, List.set_cons_zero, List.set_cons_succ]; rfl)) (hJ1_5 (g1, 0, g3n) _ ⟨HN3, HK3, HB3, H13, L1, H53, L53, N153⟩)
                        · skip
                          have cN := HN.out.cell 10 rfl
                          have fN := HN.out.fr 10
                          refine skip_ (w1 := ?_) (by rfl) rfl ?_ ?_
                          rotate_left
                          · go_simp
                            rfl
                          have HN3 : Aside0 (Blk _ B #[.int .i64 0, .int .i64 0, .int .i64 0, .int .i64 0, .int .i64 0, .int .i64 0, .int .i64 0, .int .i64 0, .int .i64 0, .int .i64 0, .slice (some ⟨g1, 0, none⟩) mny mny, .slice none 0 0, .slice none 0 0] 29) := ⟨HN.out.set 10 (.slice (some ⟨g1, 0, none⟩) mny mny)⟩
                          have HK3 : Aside0 (KeepBut wa _ B none) := ⟨KeepBut.set_ HK.out 10 (.slice (some ⟨g1, 0, none⟩) mny mny)⟩
                          have HB3 : Aside0 (Below w.heap.size w _) := ⟨HB.out.setCell (p := ⟨B, 10, none⟩) LB.out (.slice (some ⟨g1, 0, none⟩) mny mny)⟩
                          have H13 : Aside0 (Blk _ g1 (nums .i64 (List.replicate mny 0)).toArray 3) := ⟨H1.out.far ⟨B, 10, none⟩ (.slice (some ⟨g1, 0, none⟩) mny mny) (by have := L1.out; have := NB.out; show ¬ _ = B; omega)⟩
                          refine hK.out _ _ trivial (fun hHeld => ?_)
                          clear hK K
                          exact norm_ (by first | (simp only [putAll, Act.put, List.setIfInBounds_toArray, List.set_cons_zero, List.set_cons_succ]; done) | (simp only [putAll, Act.put, List.setIfInBounds_toArray, List.set_cons_zero, List.set_cons_succ]; rfl)) (hJ1_7 (g1, 0, 0) _ ⟨HN3, HK3, HB3, H13, L1⟩)
                    · skip
                      rintro ⟨g1, g2, g3⟩ w' ⟨HN, HK, HB, H3, L3, H5, L5, N35⟩
                      have hHeld : True := trivial
                      refine norm_ (a' := ?_) ?_ ?_
                      rotate_left
                      · simp only [putAll, Act.put, List.setIfInBounds_toArray, List.set_cons_zero, List.set_cons_succ]
                        rfl
                      refine one_ (i := 1) (N := some 45) #[true, true, true, true, true, true, false, false, false, false, false, false] rfl rfl (by kernel_rfl) (by decide) (fun K hK => ?_)
                      refine made_step ?hw (N := 45) ?hd (m := mny) ?hr ?_
                      (case hd => rfl)
                      (case hw => rfl)
                      (case hr => first | (go_simp; done) | (go_simp; rfl))
                      intro g1n hg_ w3 hbx hb
                      have HN3 : Aside0 (Blk w3 B #[.int .i64 0, .int .i64 0, .int .i64 0, .int .i64 0, .int .i64 0, .int .i64 0, .int .i64 0, .int .i64 0, .int .i64 0, .int .i64 0, .slice none 0 0, .slice none 0 0, .slice none 0 0] 29) := ⟨blk_below (by (with_reducible repeat (first | refine blk_drewN ?_ _ | refine blk_drew ?_)); exact HN.out) hb⟩
                      have HK3 : Aside0 (KeepBut wa w3 B none) := ⟨KeepBut.trans (by repeat (first | (with_reducible first | exact HK.out | apply keep_drewN | apply keep_drew) | exact HK.out)) (KeepBut.of_below hb _ none) (.inl rfl)⟩
                      have HB3 : Aside0 (Below w.heap.size w w3) := ⟨below_step (by repeat (first | (with_reducible first | exact HB.out | apply below_alloc | apply pw_below_drewN | apply below_drew1) | exact HB.out)) hb⟩
                      have H33 : Aside0 (Blk w3 g2 (nums .i64 (List.replicate mny 0)).toArray 3) := ⟨blk_below (by (with_reducible repeat (first | refine blk_drewN ?_ _ | refine blk_drew ?_)); exact H3.out) hb⟩
                      have H53 : Aside0 (Blk w3 g3 (nums .i64 (List.replicate mny 0)).toArray 3) := ⟨blk_below (by (with_reducible repeat (first | refine blk_drewN ?_ _ | refine blk_drew ?_)); exact H5.out) hb⟩
                      have H13 : Aside0 (Blk w3 g1n (nums .i64 (List.replicate mny 0)).toArray 3) := ⟨hbx⟩
                      have L13 : Aside0 (wa.heap.size ≤ g1n) := ⟨by rw [hg_]; exact HK.out.1⟩
                      have N133 : Aside0 (g1n ≠ g2) := ⟨by rw [hg_]; exact Nat.ne_of_gt (blk_lt (by (with_reducible repeat (first | refine blk_drewN ?_ _ | refine blk_drew ?_)); exact H3.out))⟩
                      have N153 : Aside0 (g1n ≠ g3) := ⟨by rw [hg_]; exact Nat.ne_of_gt (blk_lt (by (with_reducible repeat (first | refine blk_drewN ?_ _ | refine blk_drew ?_)); exact H5.out))⟩
                      refine hK.out _ _ trivial (fun hHeld => ?_)
                      clear hK K
                      refine norm_ (a' := ?_) ?_ ?_
                      rotate_left
                      · show Act.put _ (some 45) _ = _
                        simp only [Act.put, List.setIfInBounds_toArray, List.set_cons_zero, List.set_cons_succ, i64_w, i32_w]
                        rfl
                      refine pure_ (i := 6) (N := some 50) (v := ?_) (a' := ?_) #[true, true, true, true, true, true, true, false, false, false, false, false] rfl rfl (by kernel_rfl) (fun _ _ _ h => h) (Or.inl ⟨by rfl, ?_⟩) ?_ ?_
                      rotate_left
                      · intro w'
                        go_simp
                        with_reducible rfl
                      rotate_left
                      · simp only [Act.put, List.setIfInBounds_toArray, List.set_cons_zero, List.set_cons_succ, i64_w, i32_w]
                        rfl
                      exact norm_ (by first | (simp only [putAll, Act.put, List.setIfInBounds_toArray, List.set_cons_zero, List.set_cons_succ]; done) | (simp only [putAll, Act.put, List.setIfInBounds_toArray, List.set_cons_zero, List.set_cons_succ]; rfl)) (hJ1_3_5 (g1n, g2, g3) _ ⟨HN3, HK3, HB3, H13, L13, H33, L3, H53, L5, N133, N153, N35⟩)
                  · skip
                    rintro ⟨g1, g2, g3⟩ w' ⟨HN, HK, HB, H1, L1⟩
                    have hHeld : True := trivial
                    refine norm_ (a' := ?_) ?_ ?_
                    rotate_left
                    · simp only [putAll, Act.put, List.setIfInBounds_toArray, List.set_cons_zero, List.set_cons_succ]
                      rfl
                    refine two_ (i := 3) (j := 5) (Ni := some 47) (Nj := some 49) #[true, true, true, true, true, false, true, true, false, false, false, false] #[true, true, true, false, true, true, true, true, false, false, false, false] rfl rfl rfl rfl (by kernel_rfl) (by decide) (by decide) (fun K hK => ?_) (fun K hK => ?_)
                    · skip
                      refine made_step ?hw (N := 47) ?hd (m := mny) ?hr ?_
                      (case hd => rfl)
                      (case hw => rfl)
                      (case hr => first | (go_simp; done) | (go_simp; rfl))
                      intro g2n hg_ w3 hbx hb
                      have HN3 : Aside0 (Blk w3 B #[.int .i64 0, .int .i64 0, .int .i64 0, .int .i64 0, .int .i64 0, .int .i64 0, .int .i64 0, .int .i64 0, .int .i64 0, .int .i64 0, .slice (some ⟨g1, 0, none⟩) mny mny, .slice none 0 0, .slice none 0 0] 29) := ⟨blk_below (by (with_reducible repeat (first | refine blk_drewN ?_ _ | refine blk_drew ?_)); exact HN.out) hb⟩
                      have HK3 : Aside0 (KeepBut wa w3 B none) := ⟨KeepBut.trans (by repeat (first | (with_reducible first | exact HK.out | apply keep_drewN | apply keep_drew) | exact HK.out)) (KeepBut.of_below hb _ none) (.inl rfl)⟩
                      have HB3 : Aside0 (Below w.heap.size w w3) := ⟨below_step (by repeat (first | (with_reducible first | exact HB.out | apply below_alloc | apply pw_below_drewN | apply below_drew1) | exact HB.out)) hb⟩
                      have H13 : Aside0 (Blk w3 g1 (nums .i64 (List.replicate mny 0)).toArray 3) := ⟨blk_below (by (with_reducible repeat (first | refine blk_drewN ?_ _ | refine blk_drew ?_)); exact H1.out) hb⟩
                      have H33 : Aside0 (Blk w3 g2n (nums .i64 (List.replicate mny 0)).toArray 3) := ⟨hbx⟩
                      have L33 : Aside0 (wa.heap.size ≤ g2n) := ⟨by rw [hg_]; exact HK.out.1⟩
                      have N133 : Aside0 (g1 ≠ g2n) := ⟨by rw [hg_]; exact Nat.ne_of_lt (blk_lt (by (with_reducible repeat (first | refine blk_drewN ?_ _ | refine blk_drew ?_)); exact H1.out))⟩
                      refine hK.out _ _ trivial (fun hHeld => ?_)
                      clear hK K
                      refine norm_ (a' := ?_) ?_ ?_
                      rotate_left
                      · show Act.put _ (some 47) _ = _
                        simp only [Act.put, List.setIfInBounds_toArray, List.set_cons_zero, List.set_cons_succ, i64_w, i32_w]
                        rfl
                      refine pure_ (i := 8) (N := some 51) (v := ?_) (a' := ?_) #[true, true, true, true, true, false, true, true, true, false, false, false] rfl rfl (by kernel_rfl) (fun _ _ _ h => h) (Or.inl ⟨by rfl, ?_⟩) ?_ ?_
                      rotate_left
                      · intro w'
                        go_simp
                        with_reducible rfl
                      rotate_left
                      · simp only [Act.put, List.setIfInBounds_toArray, List.set_cons_zero, List.set_cons_succ, i64_w, i32_w]
                        rfl
                      exact norm_ (by first | (simp only [putAll, Act.put, List.setIfInBounds_toArray, List.set_cons_zero, List.set_cons_succ]; done) | (simp only [putAll, Act.put, List.setIfInBounds_toArray, List.set_cons_zero, List.set_cons_succ]; rfl)) (hJ1_3_7 (g1, g2n, 0) _ ⟨HN3, HK3, HB3, H13, L1, H33, L33, N133⟩)
                    · skip
                      refine made_step ?hw (N := 49) ?hd (m := mny) ?hr ?_
                      (case hd => rfl)
                      (case hw => rfl)
                      (case hr => first | (go_simp; done) | (go_simp; rfl))
                      intro g3n hg_ w3 hbx hb
                      have HN3 : Aside0 (Blk w3 B #[.int .i64 0, .int .i64 0, .int .i64 0, .int .i64 0, .int .i64 0, .int .i64 0, .int .i64 0, .int .i64 0, .int .i64 0, .int .i64 0, .slice (some ⟨g1, 0, none⟩) mny mny, .slice none 0 0, .slice none 0 0] 29) := ⟨blk_below (by (with_reducible repeat (first | refine blk_drewN ?_ _ | refine blk_drew ?_)); exact HN.out) hb⟩
                      have HK3 : Aside0 (KeepBut wa w3 B none) := ⟨KeepBut.trans (by repeat (first | (with_reducible first | exact HK.out | apply keep_drewN | apply keep_drew) | exact HK.out)) (KeepBut.of_below hb _ none) (.inl rfl)⟩
                      have HB3 : Aside0 (Below w.heap.size w w3) := ⟨below_step (by repeat (first | (with_reducible first | exact HB.out | apply below_alloc | apply pw_below_drewN | apply below_drew1) | exact HB.out)) hb⟩
                      have H13 : Aside0 (Blk w3 g1 (nums .i64 (List.replicate mny 0)).toArray 3) := ⟨blk_below (by (with_reducible repeat (first | refine blk_drewN ?_ _ | refine blk_drew ?_)); exact H1.out) hb⟩
                      have H53 : Aside0 (Blk w3 g3n (nums .i64 (List.replicate mny 0)).toArray 3) := ⟨hbx⟩
                      have L53 : Aside0 (wa.heap.size ≤ g3n) := ⟨by rw [hg_]; exact HK.out.1⟩
                      have N153 : Aside0 (g1 ≠ g3n) := ⟨by rw [hg_]; exact Nat.ne_of_lt (blk_lt (by (with_reducible repeat (first | refine blk_drewN ?_ _ | refine blk_drew ?_)); exact H1.out))⟩
                      refine hK.out _ _ trivial (fun hHeld => ?_)
                      clear hK K
                      refine norm_ (a' := ?_) ?_ ?_
                      rotate_left
                      · show Act.put _ (some 49) _ = _
                        simp only [Act.put, List.setIfInBounds_toArray, List.set_cons_zero, List.set_cons_succ, i64_w, i32_w]
                        rfl
                      exact norm_ (by first | (simp only [putAll, Act.put, List.setIfInBounds_toArray, List.set_cons_zero, List.set_cons_succ]; done) | (simp only [putAll, Act.put, List.setIfInBounds_toArray, List.set_cons_zero, List.set_cons_succ]; rfl)) (hJ1_5_7 (g1, 0, g3n) _ ⟨HN3, HK3, HB3, H13, L1, H53, L53, N153⟩)
                · skip
                  rintro ⟨g1, g2, g3⟩ w' ⟨HN, HK, HB, H1, L1, H5, L5, N15⟩
                  have hHeld : True := trivial
                  refine norm_ (a' := ?_) ?_ ?_
                  rotate_left
                  · simp only [putAll, Act.put, List.setIfInBounds_toArray, List.set_cons_zero, List.set_cons_succ]
                    rfl
                  refine two_ (i := 3) (j := 7) (Ni := some 47) (Nj := none) #[true, true, true, true, true, true, true, false, false, false, false, false] #[true, true, true, false, true, true, true, true, false, false, false, false] rfl rfl rfl rfl (by kernel_rfl) (by decide) (by decide) (fun K hK => ?_) (fun K hK => ?_)
                  · skip
                    refine made_step ?hw (N := 47) ?hd (m := mny) ?hr ?_
                    (case hd => rfl)
                    (case hw => rfl)
                    (case hr => first | (go_simp; done) | (go_simp; rfl))
                    intro g2n hg_ w3 hbx hb
                    have HN3 : Aside0 (Blk w3 B #[.int .i64 0, .int .i64 0, .int .i64 0, .int .i64 0, .int .i64 0, .int .i64 0, .int .i64 0, .int .i64 0, .int .i64 0, .int .i64 0, .slice none 0 0, .slice none 0 0, .slice none 0 0] 29) := ⟨blk_below (by (with_reducible repeat (first | refine blk_drewN ?_ _ | refine blk_drew ?_)); exact HN.out) hb⟩
                    have HK3 : Aside0 (KeepBut wa w3 B none) := ⟨KeepBut.trans (by repeat (first | (with_reducible first | exact HK.out | apply keep_drewN | apply keep_drew) | exact HK.out)) (KeepBut.of_below hb _ none) (.inl rfl)⟩
                    have HB3 : Aside0 (Below w.heap.size w w3) := ⟨below_step (by repeat (first | (with_reducible first | exact HB.out | apply below_alloc | apply pw_below_drewN | apply below_drew1) | exact HB.out)) hb⟩
                    have H13 : Aside0 (Blk w3 g1 (nums .i64 (List.replicate mny 0)).toArray 3) := ⟨blk_below (by (with_reducible repeat (first | refine blk_drewN ?_ _ | refine blk_drew ?_)); exact H1.out) hb⟩
                    have H53 : Aside0 (Blk w3 g3 (nums .i64 (List.replicate mny 0)).toArray 3) := ⟨blk_below (by (with_reducible repeat (first | refine blk_drewN ?_ _ | refine blk_drew ?_)); exact H5.out) hb⟩
                    have H33 : Aside0 (Blk w3 g2n (nums .i64 (List.replicate mny 0)).toArray 3) := ⟨hbx⟩
                    have L33 : Aside0 (wa.heap.size ≤ g2n) := ⟨by rw [hg_]; exact HK.out.1⟩
                    have N133 : Aside0 (g1 ≠ g2n) := ⟨by rw [hg_]; exact Nat.ne_of_lt (blk_lt (by (with_reducible repeat (first | refine blk_drewN ?_ _ | refine blk_drew ?_)); exact H1.out))⟩
                    have N353 : Aside0 (g2n ≠ g3) := ⟨by rw [hg_]; exact Nat.ne_of_gt (blk_lt (by (with_reducible repeat (first | refine blk_drewN ?_ _ | refine blk_drew ?_)); exact H5.out))⟩
                    refine hK.out _ _ trivial (fun hHeld => ?_)
                    clear hK K
                    refine norm_ (a' := ?_) ?_ ?_
                    rotate_left
                    · show Act.put _ (some 47) _ = _
                      simp only [Act.put, List.setIfInBounds_toArray, List.set_cons_zero, List.set_cons_succ, i64_w, i32_w]
                      rfl
                    exact norm_ (by first | (simp only [putAll, Act.put, List.setIfInBounds_toArray, List.set_cons_zero, List.set_cons_succ]; done) | (simp only [putAll, Act.put, List.setIfInBounds_toArray, List.set_cons_zero, List.set_cons_succ]; rfl)) (hJ1_3_5 (g1, g2n, g3) _ ⟨HN3, HK3, HB3, H13, L1, H33, L33, H53, L5, N133, N15, N353⟩)
                  · skip
                    have cN := HN.out.cell 10 rfl
                    have fN := HN.out.fr 10
                    refine skip_ (w1 := ?_) (by rfl) rfl ?_ ?_
                    rotate_left
                    · go_simp
                      rfl
                    have HN3 : Aside0 (Blk _ B #[.int .i64 0, .int .i64 0, .int .i64 0, .int .i64 0, .int .i64 0, .int .i64 0, .int .i64 0, .int .i64 0, .int .i64 0, .int .i64 0, .slice (some ⟨g1, 0, none⟩) mny mny, .slice none 0 0, .slice none 0 0] 29) := ⟨HN.out.set 10 (.slice (some ⟨g1, 0, none⟩) mny mny)⟩
                    have HK3 : Aside0 (KeepBut wa _ B none) := ⟨KeepBut.set_ HK.out 10 (.slice (some ⟨g1, 0, none⟩) mny mny)⟩
                    have HB3 : Aside0 (Below w.heap.size w _) := ⟨HB.out.setCell (p := ⟨B, 10, none⟩) LB.out (.slice (some ⟨g1, 0, none⟩) mny mny)⟩
                    have H13 : Aside0 (Blk _ g1 (nums .i64 (List.replicate mny 0)).toArray 3) := ⟨H1.out.far ⟨B, 10, none⟩ (.slice (some ⟨g1, 0, none⟩) mny mny) (by have := L1.out; have := NB.out; show ¬ _ = B; omega)⟩
                    have H53 : Aside0 (Blk _ g3 (nums .i64 (List.replicate mny 0)).toArray 3) := ⟨H5.out.far ⟨B, 10, none⟩ (.slice (some ⟨g1, 0, none⟩) mny mny) (by have := L5.out; have := NB.out; show ¬ _ = B; omega)⟩
                    refine hK.out _ _ trivial (fun hHeld => ?_)
                    clear hK K
                    exact norm_ (by first | (simp only [putAll, Act.put, List.setIfInBounds_toArray, List.set_cons_zero, List.set_cons_succ]; done) | (simp only [putAll, Act.put, List.setIfInBounds_toArray, List.set_cons_zero, List.set_cons_succ]; rfl)) (hJ1_5_7 (g1, 0, g3) _ ⟨HN3, HK3, HB3, H13, L1, H53, L5, N15⟩)
              · skip
                rintro ⟨g1, g2, g3⟩ w' ⟨HN, HK, HB, H1, L1, H3, L3, N13⟩
                have hHeld : True := trivial
                refine norm_ (a' := ?_) ?_ ?_
                rotate_left
                · simp only [putAll, Act.put, List.setIfInBounds_toArray, List.set_cons_zero, List.set_cons_succ]
                  rfl
                refine two_ (i := 5) (j := 7) (Ni := some 49) (Nj := none) #[true, true, true, true, true, true, true, false, false, false, false, false] #[true, true, true, true, true, false, true, true, false, false, false, false] rfl rfl rfl rfl (by kernel_rfl) (by decide) (by decide) (fun K hK => ?_) (fun K hK => ?_)
                · skip
                  refine made_step ?hw (N := 49) ?hd (m := mny) ?hr ?_
                  (case hd => rfl)
                  (case hw => rfl)
                  (case hr => first | (go_simp; done) | (go_simp; rfl))
                  intro g3n hg_ w3 hbx hb
                  have HN3 : Aside0 (Blk w3 B #[.int .i64 0, .int .i64 0, .int .i64 0, .int .i64 0, .int .i64 0, .int .i64 0, .int .i64 0, .int .i64 0, .int .i64 0, .int .i64 0, .slice none 0 0, .slice none 0 0, .slice none 0 0] 29) := ⟨blk_below (by (with_reducible repeat (first | refine blk_drewN ?_ _ | refine blk_drew ?_)); exact HN.out) hb⟩
                  have HK3 : Aside0 (KeepBut wa w3 B none) := ⟨KeepBut.trans (by repeat (first | (with_reducible first | exact HK.out | apply keep_drewN | apply keep_drew) | exact HK.out)) (KeepBut.of_below hb _ none) (.inl rfl)⟩
                  have HB3 : Aside0 (Below w.heap.size w w3) := ⟨below_step (by repeat (first | (with_reducible first | exact HB.out | apply below_alloc | apply pw_below_drewN | apply below_drew1) | exact HB.out)) hb⟩
                  have H13 : Aside0 (Blk w3 g1 (nums .i64 (List.replicate mny 0)).toArray 3) := ⟨blk_below (by (with_reducible repeat (first | refine blk_drewN ?_ _ | refine blk_drew ?_)); exact H1.out) hb⟩
                  have H33 : Aside0 (Blk w3 g2 (nums .i64 (List.replicate mny 0)).toArray 3) := ⟨blk_below (by (with_reducible repeat (first | refine blk_drewN ?_ _ | refine blk_drew ?_)); exact H3.out) hb⟩
                  have H53 : Aside0 (Blk w3 g3n (nums .i64 (List.replicate mny 0)).toArray 3) := ⟨hbx⟩
                  have L53 : Aside0 (wa.heap.size ≤ g3n) := ⟨by rw [hg_]; exact HK.out.1⟩
                  have N153 : Aside0 (g1 ≠ g3n) := ⟨by rw [hg_]; exact Nat.ne_of_lt (blk_lt (by (with_reducible repeat (first | refine blk_drewN ?_ _ | refine blk_drew ?_)); exact H1.out))⟩
                  have N353 : Aside0 (g2 ≠ g3n) := ⟨by rw [hg_]; exact Nat.ne_of_lt (blk_lt (by (with_reducible repeat (first | refine blk_drewN ?_ _ | refine blk_drew ?_)); exact H3.out))⟩
                  refine hK.out _ _ trivial (fun hHeld => ?_)
                  clear hK K
                  refine norm_ (a' := ?_) ?_ ?_
                  rotate_left
                  · show Act.put _ (some 49) _ = _
                    simp only [Act.put, List.setIfInBounds_toArray, List.set_cons_zero, List.set_cons_succ, i64_w, i32_w]
                    rfl
                  exact norm_ (by first | (simp only [putAll, Act.put, List.setIfInBounds_toArray, List.set_cons_zero, List.set_cons_succ]; done) | (simp only [putAll, Act.put, List.setIfInBounds_toArray, List.set_cons_zero, List.set_cons_succ]; rfl)) (hJ1_3_5 (g1, g2, g3n) _ ⟨HN3, HK3, HB3, H13, L1, H33, L3, H53, L53, N13, N153, N353⟩)
                · skip
                  have cN := HN.out.cell 10 rfl
                  have fN := HN.out.fr 10
                  refine skip_ (w1 := ?_) (by rfl) rfl ?_ ?_
                  rotate_left
                  · go_simp
                    rfl
                  have HN3 : Aside0 (Blk _ B #[.int .i64 0, .int .i64 0, .int .i64 0, .int .i64 0, .int .i64 0, .int .i64 0, .int .i64 0, .int .i64 0, .int .i64 0, .int .i64 0, .slice (some ⟨g1, 0, none⟩) mny mny, .slice none 0 0, .slice none 0 0] 29) := ⟨HN.out.set 10 (.slice (some ⟨g1, 0, none⟩) mny mny)⟩
                  have HK3 : Aside0 (KeepBut wa _ B none) := ⟨KeepBut.set_ HK.out 10 (.slice (some ⟨g1, 0, none⟩) mny mny)⟩
                  have HB3 : Aside0 (Below w.heap.size w _) := ⟨HB.out.setCell (p := ⟨B, 10, none⟩) LB.out (.slice (some ⟨g1, 0, none⟩) mny mny)⟩
                  have H13 : Aside0 (Blk _ g1 (nums .i64 (List.replicate mny 0)).toArray 3) := ⟨H1.out.far ⟨B, 10, none⟩ (.slice (some ⟨g1, 0, none⟩) mny mny) (by have := L1.out; have := NB.out; show ¬ _ = B; omega)⟩
                  have H33 : Aside0 (Blk _ g2 (nums .i64 (List.replicate mny 0)).toArray 3) := ⟨H3.out.far ⟨B, 10, none⟩ (.slice (some ⟨g1, 0, none⟩) mny mny) (by have := L3.out; have := NB.out; show ¬ _ = B; omega)⟩
                  refine hK.out _ _ trivial (fun hHeld => ?_)
                  clear hK K
                  refine pure_ (i := 8) (N := some 51) (v := ?_) (a' := ?_) #[true, true, true, true, true, false, true, true, true, false, false, false] rfl rfl (by kernel_rfl) (fun _ _ _ h => h) (Or.inl ⟨by rfl, ?_⟩) ?_ ?_
                  rotate_left
                  · intro w'
                    go_simp
                    with_reducible rfl
                  rotate_left
                  · simp only [Act.put, List.setIfInBounds_toArray, List.set_cons_zero, List.set_cons_succ, i64_w, i32_w]
                    rfl
                  exact norm_ (by first | (simp only [putAll, Act.put, List.setIfInBounds_toArray, List.set_cons_zero, List.set_cons_succ]; done) | (simp only [putAll, Act.put, List.setIfInBounds_toArray, List.set_cons_zero, List.set_cons_succ]; rfl)) (hJ1_3_7 (g1, g2, 0) _ ⟨HN3, HK3, HB3, H13, L1, H33, L3, N13⟩)
            · skip
              rintro ⟨g1, g2, g3⟩ w' ⟨HN, HK, HB, H1, L1, H5, L5, N15⟩
              have hHeld : True := trivial
              refine norm_ (a' := ?_) ?_ ?_
              rotate_left
              · simp only [putAll, Act.put, List.setIfInBounds_toArray, List.set_cons_zero, List.set_cons_succ]
                rfl
              refine one_ (i := 3) (N := some 47) #[true, true, true, true, true, true, true, true, false, false, false, false] rfl rfl (by kernel_rfl) (by decide) (fun K hK => ?_)
              refine made_step ?hw (N := 47) ?hd (m := mny) ?hr ?_
              (case hd => rfl)
              (case hw => rfl)
              (case hr => first | (go_simp; done) | (go_simp; rfl))
              intro g2n hg_ w3 hbx hb
              have HN3 : Aside0 (Blk w3 B #[.int .i64 0, .int .i64 0, .int .i64 0, .int .i64 0, .int .i64 0, .int .i64 0, .int .i64 0, .int .i64 0, .int .i64 0, .int .i64 0, .slice (some ⟨g1, 0, none⟩) mny mny, .slice none 0 0, .slice none 0 0] 29) := ⟨blk_below (by (with_reducible repeat (first | refine blk_drewN ?_ _ | refine blk_drew ?_)); exact HN.out) hb⟩
              have HK3 : Aside0 (KeepBut wa w3 B none) := ⟨KeepBut.trans (by repeat (first | (with_reducible first | exact HK.out | apply keep_drewN | apply keep_drew) | exact HK.out)) (KeepBut.of_below hb _ none) (.inl rfl)⟩
              have HB3 : Aside0 (Below w.heap.size w w3) := ⟨below_step (by repeat (first | (with_reducible first | exact HB.out | apply below_alloc | apply pw_below_drewN | apply below_drew1) | exact HB.out)) hb⟩
              have H13 : Aside0 (Blk w3 g1 (nums .i64 (List.replicate mny 0)).toArray 3) := ⟨blk_below (by (with_reducible repeat (first | refine blk_drewN ?_ _ | refine blk_drew ?_)); exact H1.out) hb⟩
              have H53 : Aside0 (Blk w3 g3 (nums .i64 (List.replicate mny 0)).toArray 3) := ⟨blk_below (by (with_reducible repeat (first | refine blk_drewN ?_ _ | refine blk_drew ?_)); exact H5.out) hb⟩
              have H33 : Aside0 (Blk w3 g2n (nums .i64 (List.replicate mny 0)).toArray 3) := ⟨hbx⟩
              have L33 : Aside0 (wa.heap.size ≤ g2n) := ⟨by rw [hg_]; exact HK.out.1⟩
              have N133 : Aside0 (g1 ≠ g2n) := ⟨by rw [hg_]; exact Nat.ne_of_lt (blk_lt (by (with_reducible repeat (first | refine blk_drewN ?_ _ | refine blk_drew ?_)); exact H1.out))⟩
              have N353 : Aside0 (g2n ≠ g3) := ⟨by rw [hg_]; exact Nat.ne_of_gt (blk_lt (by (with_reducible repeat (first | refine blk_drewN ?_ _ | refine blk_drew ?_)); exact H5.out))⟩
              refine hK.out _ _ trivial (fun hHeld => ?_)
              clear hK K
              refine norm_ (a' := ?_) ?_ ?_
              rotate_left
              · show Act.put _ (some 47) _ = _
                simp only [Act.put, List.setIfInBounds_toArray, List.set_cons_zero, List.set_cons_succ, i64_w, i32_w]
                rfl
              refine pure_ (i := 8) (N := some 51) (v := ?_) (a' := ?_) #[true, true, true, true, true, true, true, true, true, false, false, false] rfl rfl (by kernel_rfl) (fun _ _ _ h => h) (Or.inl ⟨by rfl, ?_⟩) ?_ ?_
              rotate_left
              · intro w'
                go_simp
                with_reducible rfl
              rotate_left
              · simp only [Act.put, List.setIfInBounds_toArray, List.set_cons_zero, List.set_cons_succ, i64_w, i32_w]
                rfl
              exact norm_ (by first | (simp only [putAll, Act.put, List.setIfInBounds_toArray, List.set_cons_zero, List.set_cons_succ]; done) | (simp only [putAll, Act.put, List.setIfInBounds_toArray, List.set_cons_zero, List.set_cons_succ]; rfl)) (hJ1_3_5_7 (g1, g2n, g3) _ ⟨HN3, HK3, HB3, H13, L1, H33, L33, H53, L5, N133, N15, N353⟩)
          · skip
            rintro ⟨g1, g2, g3⟩ w' ⟨HN, HK, HB, H1, L1, H3, L3, N13⟩
            have hHeld : True := trivial
            refine norm_ (a' := ?_) ?_ ?_
            rotate_left
            · simp only [putAll, Act.put, List.setIfInBounds_toArray, List.set_cons_zero, List.set_cons_succ]
              rfl
            refine two_ (i := 5) (j := 9) (Ni := some 49) (Nj := none) #[true, true, true, true, true, true, true, true, true, false, false, false] #[true, true, true, true, true, false, true, true, true, true, false, false] rfl rfl rfl rfl (by kernel_rfl) (by decide) (by decide) (fun K hK => ?_) (fun K hK => ?_)
            · skip
              refine made_step ?hw (N := 49) ?hd (m := mny) ?hr ?_
              (case hd => rfl)
              (case hw => rfl)
              (case hr => first | (go_simp; done) | (go_simp; rfl))
              intro g3n hg_ w3 hbx hb
              have HN3 : Aside0 (Blk w3 B #[.int .i64 0, .int .i64 0, .int .i64 0, .int .i64 0, .int .i64 0, .int .i64 0, .int .i64 0, .int .i64 0, .int .i64 0, .int .i64 0, .slice (some ⟨g1, 0, none⟩) mny mny, .slice none 0 0, .slice none 0 0] 29) := ⟨blk_below (by (with_reducible repeat (first | refine blk_drewN ?_ _ | refine blk_drew ?_)); exact HN.out) hb⟩
              have HK3 : Aside0 (KeepBut wa w3 B none) := ⟨KeepBut.trans (by repeat (first | (with_reducible first | exact HK.out | apply keep_drewN | apply keep_drew) | exact HK.out)) (KeepBut.of_below hb _ none) (.inl rfl)⟩
              have HB3 : Aside0 (Below w.heap.size w w3) := ⟨below_step (by repeat (first | (with_reducible first | exact HB.out | apply below_alloc | apply pw_below_drewN | apply below_drew1) | exact HB.out)) hb⟩
              have H13 : Aside0 (Blk w3 g1 (nums .i64 (List.replicate mny 0)).toArray 3) := ⟨blk_below (by (with_reducible repeat (first | refine blk_drewN ?_ _ | refine blk_drew ?_)); exact H1.out) hb⟩
              have H33 : Aside0 (Blk w3 g2 (nums .i64 (List.replicate mny 0)).toArray 3) := ⟨blk_below (by (with_reducible repeat (first | refine blk_drewN ?_ _ | refine blk_drew ?_)); exact H3.out) hb⟩
              have H53 : Aside0 (Blk w3 g3n (nums .i64 (List.replicate mny 0)).toArray 3) := ⟨hbx⟩
              have L53 : Aside0 (wa.heap.size ≤ g3n) := ⟨by rw [hg_]; exact HK.out.1⟩
              have N153 : Aside0 (g1 ≠ g3n) := ⟨by rw [hg_]; exact Nat.ne_of_lt (blk_lt (by (with_reducible repeat (first | refine blk_drewN ?_ _ | refine blk_drew ?_)); exact H1.out))⟩
              have N353 : Aside0 (g2 ≠ g3n) := ⟨by rw [hg_]; exact Nat.ne_of_lt (blk_lt (by (with_reducible repeat (first | refine blk_drewN ?_ _ | refine blk_drew ?_)); exact H3.out))⟩
              refine hK.out _ _ trivial (fun hHeld => ?_)
              clear hK K
              refine norm_ (a' := ?_) ?_ ?_
              rotate_left
              · show Act.put _ (some 49) _ = _
                simp only [Act.put, List.setIfInBounds_toArray, List.set_cons_zero, List.set_cons_succ, i64_w, i32_w]
                rfl
              exact norm_ (by first | (simp only [putAll, Act.put, List.setIfInBounds_toArray, List.set_cons_zero, List.set_cons_succ]; done) | (simp only [putAll, Act.put, List.setIfInBounds_toArray, List.set_cons_zero, List.set_cons_succ]; rfl)) (hJ1_3_5_7 (g1, g2, g3n) _ ⟨HN3, HK3, HB3, H13, L1, H33, L3, H53, L53, N13, N153, N353⟩)
            · skip
              have cN := HN.out.cell 11 rfl
              have fN := HN.out.fr 11
              refine skip_ (w1 := ?_) (by rfl) rfl ?_ ?_
              rotate_left
              · go_simp
                rfl
              have HN3 : Aside0 (Blk _ B #[.int .i64 0, .int .i64 0, .int .i64 0, .int .i64 0, .int .i64 0, .int .i64 0, .int .i64 0, .int .i64 0, .int .i64 0, .int .i64 0, .slice (some ⟨g1, 0, none⟩) mny mny, .slice (some ⟨g2, 0, none⟩) mny mny, .slice none 0 0] 29) := ⟨HN.out.set 11 (.slice (some ⟨g2, 0, none⟩) mny mny)⟩
              have HK3 : Aside0 (KeepBut wa _ B none) := ⟨KeepBut.set_ HK.out 11 (.slice (some ⟨g2, 0, none⟩) mny mny)⟩
              have HB3 : Aside0 (Below w.heap.size w _) := ⟨HB.out.setCell (p := ⟨B, 11, none⟩) LB.out (.slice (some ⟨g2, 0, none⟩) mny mny)⟩
              have H13 : Aside0 (Blk _ g1 (nums .i64 (List.replicate mny 0)).toArray 3) := ⟨H1.out.far ⟨B, 11, none⟩ (.slice (some ⟨g2, 0, none⟩) mny mny) (by have := L1.out; have := NB.out; show ¬ _ = B; omega)⟩
              have H33 : Aside0 (Blk _ g2 (nums .i64 (List.replicate mny 0)).toArray 3) := ⟨H3.out.far ⟨B, 11, none⟩ (.slice (some ⟨g2, 0, none⟩) mny mny) (by have := L3.out; have := NB.out; show ¬ _ = B; omega)⟩
              refine hK.out _ _ trivial (fun hHeld => ?_)
              clear hK K
              exact norm_ (by first | (simp only [putAll, Act.put, List.setIfInBounds_toArray, List.set_cons_zero, List.set_cons_succ]; done) | (simp only [putAll, Act.put, List.setIfInBounds_toArray, List.set_cons_zero, List.set_cons_succ]; rfl)) (hJ1_3_7_9 (g1, g2, 0) _ ⟨HN3, HK3, HB3, H13, L1, H33, L3, N13⟩)
        · skip
          rintro ⟨g1, g2, g3⟩ w' ⟨HN, HK, HB, H1, L1, H3, L3, H5, L5, N13, N15, N35⟩
          have hHeld : True := trivial
          refine norm_ (a' := ?_) ?_ ?_
          rotate_left
          · simp only [putAll, Act.put, List.setIfInBounds_toArray, List.set_cons_zero, List.set_cons_succ]
            rfl
          refine one_ (i := 7) (N := none) #[true, true, true, true, true, true, true, true, false, false, false, false] rfl rfl (by kernel_rfl) (by decide) (fun K hK => ?_)
          have cN := HN.out.cell 10 rfl
          have fN := HN.out.fr 10
          refine skip_ (w1 := ?_) (by rfl) rfl ?_ ?_
          rotate_left
          · go_simp
            rfl
          have HN3 : Aside0 (Blk _ B #[.int .i64 0, .int .i64 0, .int .i64 0, .int .i64 0, .int .i64 0, .int .i64 0, .int .i64 0, .int .i64 0, .int .i64 0, .int .i64 0, .slice (some ⟨g1, 0, none⟩) mny mny, .slice none 0 0, .slice none 0 0] 29) := ⟨HN.out.set 10 (.slice (some ⟨g1, 0, none⟩) mny mny)⟩
          have HK3 : Aside0 (KeepBut wa _ B none) := ⟨KeepBut.set_ HK.out 10 (.slice (some ⟨g1, 0, none⟩) mny mny)⟩
          have HB3 : Aside0 (Below w.heap.size w _) := ⟨HB.out.setCell (p := ⟨B, 10, none⟩) LB.out (.slice (some ⟨g1, 0, none⟩) mny mny)⟩
          have H13 : Aside0 (Blk _ g1 (nums .i64 (List.replicate mny 0)).toArray 3) := ⟨H1.out.far ⟨B, 10, none⟩ (.slice (some ⟨g1, 0, none⟩) mny mny) (by have := L1.out; have := NB.out; show ¬ _ = B; omega)⟩
          have H33 : Aside0 (Blk _ g2 (nums .i64 (List.replicate mny 0)).toArray 3) := ⟨H3.out.far ⟨B, 10, none⟩ (.slice (some ⟨g1, 0, none⟩) mny mny) (by have := L3.out; have := NB.out; show ¬ _ = B; omega)⟩
          have H53 : Aside0 (Blk _ g3 (nums .i64 (List.replicate mny 0)).toArray 3) := ⟨H5.out.far ⟨B, 10, none⟩ (.slice (some ⟨g1, 0, none⟩) mny mny) (by have := L5.out; have := NB.out; show ¬ _ = B; omega)⟩
          refine hK.out _ _ trivial (fun hHeld => ?_)
          clear hK K
          refine pure_ (i := 8) (N := some 51) (v := ?_) (a' := ?_) #[true, true, true, true, true, true, true, true, true, false, false, false] rfl rfl (by kernel_rfl) (fun _ _ _ h => h) (Or.inl ⟨by rfl, ?_⟩) ?_ ?_
          rotate_left
          · intro w'
            go_simp
            with_reducible rfl
          rotate_left
          · simp only [Act.put, List.setIfInBounds_toArray, List.set_cons_zero, List.set_cons_succ, i64_w, i32_w]
            rfl
          exact norm_ (by first | (simp only [putAll, Act.put, List.setIfInBounds_toArray, List.set_cons_zero, List.set_cons_succ]; done) | (simp only [putAll, Act.put, List.setIfInBounds_toArray, List.set_cons_zero, List.set_cons_succ]; rfl)) (hJ1_3_5_7 (g1, g2, g3) _ ⟨HN3, HK3, HB3, H13, L1, H33, L3, H53, L5, N13, N15, N35⟩)
      · skip
        rintro ⟨g1, g2, g3⟩ w' ⟨HN, HK, HB, H1, L1, H3, L3, N13⟩
        have hHeld : True := trivial
        refine norm_ (a' := ?_) ?_ ?_
        rotate_left
        · simp only [putAll, Act.put, List.setIfInBounds_toArray, List.set_cons_zero, List.set_cons_succ]
          rfl
        refine one_ (i := 5) (N := some 49) #[true, true, true, true, true, true, true, true, true, true, false, false] rfl rfl (by kernel_rfl) (by decide) (fun K hK => ?_)
        refine made_step ?hw (N := 49) ?hd (m := mny) ?hr ?_
        (case hd => rfl)
        (case hw => rfl)
        (case hr => first | (go_simp; done) | (go_simp; rfl))
        intro g3n hg_ w3 hbx hb
        have HN3 : Aside0 (Blk w3 B #[.int .i64 0, .int .i64 0, .int .i64 0, .int .i64 0, .int .i64 0, .int .i64 0, .int .i64 0, .int .i64 0, .int .i64 0, .int .i64 0, .slice (some ⟨g1, 0, none⟩) mny mny, .slice (some ⟨g2, 0, none⟩) mny mny, .slice none 0 0] 29) := ⟨blk_below (by (with_reducible repeat (first | refine blk_drewN ?_ _ | refine blk_drew ?_)); exact HN.out) hb⟩
        have HK3 : Aside0 (KeepBut wa w3 B none) := ⟨KeepBut.trans (by repeat (first | (with_reducible first | exact HK.out | apply keep_drewN | apply keep_drew) | exact HK.out)) (KeepBut.of_below hb _ none) (.inl rfl)⟩
        have HB3 : Aside0 (Below w.heap.size w w3) := ⟨below_step (by repeat (first | (with_reducible first | exact HB.out | apply below_alloc | apply pw_below_drewN | apply below_drew1) | exact HB.out)) hb⟩
        have H13 : Aside0 (Blk w3 g1 (nums .i64 (List.replicate mny 0)).toArray 3) := ⟨blk_below (by (with_reducible repeat (first | refine blk_drewN ?_ _ | refine blk_drew ?_)); exact H1.out) hb⟩
        have H33 : Aside0 (Blk w3 g2 (nums .i64 (List.replicate mny 0)).toArray 3) := ⟨blk_below (by (with_reducible repeat (first | refine blk_drewN ?_ _ | refine blk_drew ?_)); exact H3.out) hb⟩
        have H53 : Aside0 (Blk w3 g3n (nums .i64 (List.replicate mny 0)).toArray 3) := ⟨hbx⟩
        have L53 : Aside0 (wa.heap.size ≤ g3n) := ⟨by rw [hg_]; exact HK.out.1⟩
        have N153 : Aside0 (g1 ≠ g3n) := ⟨by rw [hg_]; exact Nat.ne_of_lt (blk_lt (by (with_reducible repeat (first | refine blk_drewN ?_ _ | refine blk_drew ?_)); exact H1.out))⟩
        have N353 : Aside0 (g2 ≠ g3n) := ⟨by rw [hg_]; exact Nat.ne_of_lt (blk_lt (by (with_reducible repeat (first | refine blk_drewN ?_ _ | refine blk_drew ?_)); exact H3.out))⟩
        refine hK.out _ _ trivial (fun hHeld => ?_)
        clear hK K
        refine norm_ (a' := ?_) ?_ ?_
        rotate_left
        · show Act.put _ (some 49) _ = _
          simp only [Act.put, List.setIfInBounds_toArray, List.set_cons_zero, List.set_cons_succ, i64_w, i32_w]
          rfl
        exact norm_ (by first | (simp only [putAll, Act.put, List.setIfInBounds_toArray, List.set_cons_zero, List.set_cons_succ]; done) | (simp only [putAll, Act.put, List.setIfInBounds_toArray, List.set_cons_zero, List.set_cons_succ]; rfl)) (hJ1_3_5_7_9 (g1, g2, g3n) _ ⟨HN3, HK3, HB3, H13, L1, H33, L3, H53, L53, N13, N153, N353⟩)
    · skip
      rintro ⟨g1, g2, g3⟩ w' ⟨HN, HK, HB, H1, L1, H3, L3, H5, L5, N13, N15, N35⟩
      have hHeld : True := trivial
      refine norm_ (a' := ?_) ?_ ?_
      rotate_left
      · simp only [putAll, Act.put, List.setIfInBounds_toArray, List.set_cons_zero, List.set_cons_succ]
        rfl
      refine one_ (i := 9) (N := none) #[true, true, true, true, true, true, true, true, true, true, false, false] rfl rfl (by kernel_rfl) (by decide) (fun K hK => ?_)
      have cN := HN.out.cell 11 rfl
      have fN := HN.out.fr 11
      refine skip_ (w1 := ?_) (by rfl) rfl ?_ ?_
      rotate_left
      · go_simp
        rfl
      have HN3 : Aside0 (Blk _ B #[.int .i64 0, .int .i64 0, .int .i64 0, .int .i64 0, .int .i64 0, .int .i64 0, .int .i64 0, .int .i64 0, .int .i64 0, .int .i64 0, .slice (some ⟨g1, 0, none⟩) mny mny, .slice (some ⟨g2, 0, none⟩) mny mny, .slice none 0 0] 29) := ⟨HN.out.set 11 (.slice (some ⟨g2, 0, none⟩) mny mny)⟩
      have HK3 : Aside0 (KeepBut wa _ B none) := ⟨KeepBut.set_ HK.out 11 (.slice (some ⟨g2, 0, none⟩) mny mny)⟩
      have HB3 : Aside0 (Below w.heap.size w _) := ⟨HB.out.setCell (p := ⟨B, 11, none⟩) LB.out (.slice (some ⟨g2, 0, none⟩) mny mny)⟩
      have H13 : Aside0 (Blk _ g1 (nums .i64 (List.replicate mny 0)).toArray 3) := ⟨H1.out.far ⟨B, 11, none⟩ (.slice (some ⟨g2, 0, none⟩) mny mny) (by have := L1.out; have := NB.out; show ¬ _ = B; omega)⟩
      have H33 : Aside0 (Blk _ g2 (nums .i64 (List.replicate mny 0)).toArray 3) := ⟨H3.out.far ⟨B, 11, none⟩ (.slice (some ⟨g2, 0, none⟩) mny mny) (by have := L3.out; have := NB.out; show ¬ _ = B; omega)⟩
      have H53 : Aside0 (Blk _ g3 (nums .i64 (List.replicate mny 0)).toArray 3) := ⟨H5.out.far ⟨B, 11, none⟩ (.slice (some ⟨g2, 0, none⟩) mny mny) (by have := L5.out; have := NB.out; show ¬ _ = B; omega)⟩
      refine hK.out _ _ trivial (fun hHeld => ?_)
      clear hK K
      exact norm_ (by first | (simp only [putAll, Act.put, List.setIfInBounds_toArray, List.set_cons_zero, List.set_cons_succ]; done) | (simp only [putAll, Act.put, List.setIfInBounds_toArray, List.set_cons_zero, List.set_cons_succ]; rfl)) (hJ1_3_5_7_9 (g1, g2, g3) _ ⟨HN3, HK3, HB3, H13, L1, H33, L3, H53, L5, N13, N15, N35⟩)
  rintro ⟨g1, g2, g3⟩ w' ⟨HN, HK, HB, H1, L1, H3, L3, H5, L5, N13, N15, N35⟩
  have hHeld : True := trivial
  refine norm_ (a' := ?_) ?_ ?_
  rotate_left
  · simp only [putAll, Act.put, List.setIfInBounds_toArray, List.set_cons_zero, List.set_cons_succ]
    rfl
  refine pure_ (i := 10) (N := some 52) (v := ?_) (a' := ?_) #[true, true, true, true, true, true, true, true, true, true, true, false] rfl rfl (by kernel_rfl) (fun _ _ _ h => h) (Or.inl ⟨by rfl, ?_⟩) ?_ ?_
  rotate_left
  · intro w'
    go_simp
    with_reducible rfl
  rotate_left
  · simp only [Act.put, List.setIfInBounds_toArray, List.set_cons_zero, List.set_cons_succ, i64_w, i32_w]
    rfl
  refine one_ (i := 11) (N := none) #[true, true, true, true, true, true, true, true, true, true, true, true] rfl rfl (by kernel_rfl) (by decide) (fun K hK => ?_)
  have cN := HN.out.cell 12 rfl
  have fN := HN.out.fr 12
  refine skip_ (w1 := ?_) (by rfl) rfl ?_ ?_
  rotate_left
  · go_simp
    rfl
  have HN3 : Aside0 (Blk _ B #[.int .i64 0, .int .i64 0, .int .i64 0, .int .i64 0, .int .i64 0, .int .i64 0, .int .i64 0, .int .i64 0, .int .i64 0, .int .i64 0, .slice (some ⟨g1, 0, none⟩) mny mny, .slice (some ⟨g2, 0, none⟩) mny mny, .slice (some ⟨g3, 0, none⟩) mny mny] 29) := ⟨HN.out.set 12 (.slice (some ⟨g3, 0, none⟩) mny mny)⟩
  have HK3 : Aside0 (KeepBut wa _ B none) := ⟨KeepBut.set_ HK.out 12 (.slice (some ⟨g3, 0, none⟩) mny mny)⟩
  have HB3 : Aside0 (Below w.heap.size w _) := ⟨HB.out.setCell (p := ⟨B, 12, none⟩) LB.out (.slice (some ⟨g3, 0, none⟩) mny mny)⟩
  have H13 : Aside0 (Blk _ g1 (nums .i64 (List.replicate mny 0)).toArray 3) := ⟨H1.out.far ⟨B, 12, none⟩ (.slice (some ⟨g3, 0, none⟩) mny mny) (by have := L1.out; have := NB.out; show ¬ _ = B; omega)⟩
  have H33 : Aside0 (Blk _ g2 (nums .i64 (List.replicate mny 0)).toArray 3) := ⟨H3.out.far ⟨B, 12, none⟩ (.slice (some ⟨g3, 0, none⟩) mny mny) (by have := L3.out; have := NB.out; show ¬ _ = B; omega)⟩
  have H53 : Aside0 (Blk _ g3 (nums .i64 (List.replicate mny 0)).toArray 3) := ⟨H5.out.far ⟨B, 12, none⟩ (.slice (some ⟨g3, 0, none⟩) mny mny) (by have := L5.out; have := NB.out; show ¬ _ = B; omega)⟩
  refine hK.out _ _ trivial (fun hHeld => ?_)
  clear hK K
  refine done_ (by kernel_rfl) ?_
  -- END10
  obtain ⟨wb, hwb⟩ : ∃ x, w'.setCell ⟨B, 12, none⟩ (.slice (some ⟨g3, 0, none⟩) mny mny) = x := ⟨_, rfl⟩
  rw [hwb] at HN3 HK3 HB3 H13 H33 H53 ⊢
  have RC : Aside0 (RcW w.heap.size w B g1 g2 g3 mny (zer6, List.replicate mny 0, List.replicate mny 0, List.replicate mny 0) wb) :=
    ⟨HK3.out.blk HR.out (by have := HLT.out; omega) (by simp), HN3.out, H13.out, H33.out, H53.out, HB3.out, HLT.out, by have := L1.out; have := NB.out; omega, by have := L3.out; have := NB.out; omega, by have := L5.out; have := NB.out; omega, N13.out, N15.out, N35.out, rfl, by simp, by simp, by simp⟩
  clear HN3 HK3 HB3 H13 H33 H53 H1 H3 H5 hwb L1 L3 L5 N13 N15 N35 HN HK HB HR HLT LB NB hHeld
  go_upto_region 11 with (fail)
  go_wp2_with fail
  go_loopw [10] (fun v10 wr => ∃ (ii : Nat) (st : List Int × R3), v10 = .int .i64 ii ∧ ii ≤ l0.length ∧ Aside0 (cntV wd (l0.drop ii) st = cntV wd l0 (zer6, List.replicate mny 0, List.replicate mny 0, List.replicate mny 0)) ∧ Aside0 (RcW w.heap.size w B g1 g2 g3 mny st wr)) (fun v10 _ => l0.length - (intOf v10).toNat)
  case atStart => exact ⟨0, _, rfl, by omega, ⟨by simp⟩, RC⟩
  case round =>
    obtain ⟨ii, st, rfl, hii, hst, hrc⟩ := hrel
    by_cases hlt : ii < l0.length
    · have hc : decide ((ii : Int) < (l0.length : Int)) = true := decide_eq_true (by omega)
      obtain ⟨ad, A1, c1, A2, c2, ea, x0, x1, x2, x3, x4, x5, l1, g1', l2, g2'⟩ := at_T41 HC.out (ii : Int) (by omega) (by omega)
      have hf := hst.out
      rw [drop_T41 l0 ii hlt] at hf
      have hok := OK.out _ (mem_T41 l0 ii hlt)
      obtain ⟨p, hp⟩ : ∃ p, rd_T41 l0 (ii : Int) = p := ⟨_, rfl⟩
      rw [hp] at x1 x2 l1 l2 g1' g2' hf hok
      rw [Int.toNat_natCast] at x1 x2
      cases ea
      have X1 := Aside0.mk x1
      have X2 := Aside0.mk x2
      have G1 := Aside0.mk g1'
      have G2 := Aside0.mk g2'
      have HF := Aside0.mk hf
      have OKP := Aside0.mk hok
      have hpl := hok.2.2
      clear x0 x1 x2 x3 x4 x5 g1' g2' hf hok hp hst
      go_wp2_with fail
      go_loopw [11] (fun v11 wi => ∃ (j : Nat) (r : List Int), v11 = .int .i64 j ∧ j ≤ p.f1.length ∧ Aside0 (repF r (p.f1.drop j) = repF st.1 p.f1) ∧ Aside0 (RcW w.heap.size w B g1 g2 g3 mny (r, st.2) wi)) (fun v11 _ => p.f1.length - (intOf v11).toNat)
      case atStart => exact ⟨0, st.1, rfl, by omega, ⟨by simp⟩, hrc⟩
      case round =>
        obtain ⟨j, r, rfl, hj, hr, hrw⟩ := hrel
        have x1 := (hrw.out.k.cell (World.block_lt_of_cell? w _ X1.out)).trans X1.out
        by_cases hjl : j < p.f1.length
        · have hcj : decide ((j : Int) < (p.f1.length : Int)) = true := decide_eq_true (by omega)
          obtain ⟨ad2, e2, y0, y1⟩ := at_T66 (Kd.C_below G1.out hrw.out.k) (j : Int) (by omega) (by omega)
          rw [Int.toNat_natCast] at y0 y1
          cases e2
          have ho := OKP.out.2.1 _ (mem_T66 p.f1 j hjl)
          have hrf := hr.out
          rw [drop_T66 p.f1 j hjl] at hrf
          obtain ⟨q, hq⟩ : ∃ q, rd_T66 p.f1 (j : Int) = q := ⟨_, rfl⟩
          rw [hq] at y1 ho hrf
          obtain ⟨cc, hcc⟩ : ∃ cc : Nat, q.f1 = (cc : Int) + 1 := ⟨(q.f1 - 1).toNat, by omega⟩
          have hc6 : cc < 6 := by omega
          rw [hcc] at y1
          have hcN := hrw.out.n.cell cc (numC_at _ _ _ _ _ _ _ _ cc (by rw [hrw.out.e.1]; exact hc6))
          have hfN := hrw.out.n.fr cc
          have HRF := Aside0.mk hrf
          clear hr hrf hq y0 ho
          go_wp2_with fail
          go_roundw
          case rel =>
            refine ⟨j + 1, incI r cc, by simp [Pure.wrap_succ j (by omega)], by omega, ⟨?_⟩, ⟨hrw.out.incR cc hc6⟩⟩
            rw [← HRF.out]
            show repF (incI r cc) _ = repF (incI r (q.f1 - 1).toNat) _
            rw [hcc]
            simp
          case measure => simp [intOf, Pure.wrap_succ j (by omega)]; omega
        · have hcj : decide ((j : Int) < (p.f1.length : Int)) = false := decide_eq_false (by omega)
          have hrv := hr.out
          rw [List.drop_eq_nil_of_le (by omega)] at hrv
          have HRV := Aside0.mk (show r = repF st.1 p.f1 from hrv)
          clear hr hrv
          go_wp2_with fail
          go_loopw [12] (fun v12 wi => ∃ (j : Nat) (t : R3), v12 = .int .i64 j ∧ j ≤ p.f2.length ∧ Aside0 (sgL wd (p.f2.drop j) j t = sgL wd p.f2 0 st.2) ∧ Aside0 (RcW w.heap.size w B g1 g2 g3 mny (r, t) wi)) (fun v12 _ => p.f2.length - (intOf v12).toNat)
          case atStart => exact ⟨0, st.2, rfl, by omega, ⟨by simp⟩, hrw⟩
          case round =>
            obtain ⟨j2, t, rfl, hj2, ht, htw⟩ := hrel
            have hpm := OKP.out.1
            by_cases hjl : j2 < p.f2.length
            · have hcj : decide ((j2 : Int) < (mny : Int)) = true := decide_eq_true (by omega)
              have x2 := (htw.out.k.cell (World.block_lt_of_cell? w _ X2.out)).trans X2.out
              obtain ⟨ad3, e3, z0, z1, z2⟩ := at_T43 (Kd.C_below G2.out htw.out.k) (j2 : Int) (by omega) (by omega)
              rw [Int.toNat_natCast] at z0 z1 z2
              cases e3
              have htf := ht.out
              rw [drop_T43 p.f2 j2 hjl] at htf
              obtain ⟨q, hq⟩ : ∃ q, rd_T43 p.f2 (j2 : Int) = q := ⟨_, rfl⟩
              rw [hq] at z0 z1 z2 htf
              have HTF := Aside0.mk htf
              clear ht htf hq
              go_upto_region 22 with (fail)
              obtain ⟨bs, hbs⟩ : ∃ x, wr.heap.size = x := ⟨_, rfl⟩
              obtain ⟨ws, hws⟩ : ∃ x, wr.alloc (.cells #[.int .i64 q.f0, .int .i64 q.f1, .bool q.f2] 43) = x := ⟨_, rfl⟩
              have hS : Blk ws bs #[.int .i64 q.f0, .int .i64 q.f1, .bool q.f2] 43 := by rw [← hws, ← hbs]; exact Blk.new wr _ _
              have hT : RcW w.heap.size w B g1 g2 g3 mny (r, t) ws := by rw [← hws]; exact htw.out.alloc _
              have hlt4 : B < bs ∧ g1 < bs ∧ g2 < bs ∧ g3 < bs := by rw [← hbs]; exact ⟨htw.out.n.lt, htw.out.a.lt, htw.out.b.lt, htw.out.c.lt⟩
              rw [hws, hbs]
              have HS := Aside0.mk hS
              have HT := Aside0.mk hT
              have H4 := Aside0.mk hlt4
              clear hS hT hlt4 hws hbs htw x2 z0 z1 z2
              have cS := HS.out.cell 0 rfl
              go_upto_if 100 with (fail)
              go_cut [] (fun wc => Aside0 (RcW w.heap.size w B g1 g2 g3 mny (r, (if q.f0 ≥ 0 then incI t.1 j2 else t.1), t.2) wc) ∧ Aside0 (Blk wc bs #[.int .i64 q.f0, .int .i64 q.f1, .bool q.f2] 43))
              case first =>
                by_cases d : q.f0 ≥ 0
                · have d1 : decide (0 ≤ q.f0) = true := decide_eq_true d
                  have cV := HT.out.n.cell 10 (by obtain ⟨a, b, c, d, e, f, hr6⟩ := len6 HT.out.e.1; simp only at hr6; simp only [hr6, numC, nums]; rfl)
                  have cA := HT.out.a.cell j2 (rowC_at _ j2 (by have := HT.out.e.2.1; simp only at this ⊢; omega))
                  have fA := HT.out.a.fr j2
                  go_wp2_with fail
                  go_meet
                  case rel =>
                    rw [if_pos d]
                    exact ⟨⟨HT.out.incA j2⟩, ⟨HS.out.far _ _ (by have := H4.out; show ¬ bs = g1; omega)⟩⟩
                · have d1 : decide (0 ≤ q.f0) = false := decide_eq_false d
                  go_wp2_with fail
                  go_meet
                  case rel =>
                    rw [if_neg (by omega)]
                    exact ⟨HT, HS⟩
              case rest =>
                obtain ⟨HT1, HS1⟩ := hcut
                clear HT HS cS
                obtain ⟨ta, hta⟩ : ∃ x, (if q.f0 ≥ 0 then incI t.1 j2 else t.1) = x := ⟨_, rfl⟩
                rw [hta] at HT1
                have HTA := Aside0.mk hta
                clear hta
                have cS := HS1.out.cell 2 rfl
                go_upto_if 109 with (fail)
                go_cut [] (fun wc => Aside0 (RcW w.heap.size w B g1 g2 g3 mny (r, ta, (if q.f2 = true then incI t.2.1 j2 else t.2.1), t.2.2) wc) ∧ Aside0 (Blk wc bs #[.int .i64 q.f0, .int .i64 q.f1, .bool q.f2] 43))
                case first =>
                  cases d : q.f2 with
                  | true =>
                    rw [d] at cS
                    have cV := HT1.out.n.cell 11 (by obtain ⟨a, b, c, d, e, f, hr6⟩ := len6 HT1.out.e.1; simp only at hr6; simp only [hr6, numC, nums]; rfl)
                    have cA := HT1.out.b.cell j2 (rowC_at _ j2 (by have := HT1.out.e.2.2.1; simp only at this ⊢; omega))
                    have fA := HT1.out.b.fr j2
                    go_wp2_with fail
                    go_meet
                    case rel =>
                      rw [if_pos d]
                      exact ⟨⟨HT1.out.incB j2⟩, ⟨HS1.out.far _ _ (by have := H4.out; show ¬ bs = g2; omega)⟩⟩
                  | false =>
                    rw [d] at cS
                    go_wp2_with fail
                    go_meet
                    case rel =>
                      rw [if_neg (by rw [d]; decide)]
                      exact ⟨HT1, HS1⟩
                case rest =>
                  obtain ⟨HT2, HS2⟩ := hcut
                  clear HT1 HS1 cS
                  obtain ⟨tb, htb⟩ : ∃ x, (if q.f2 = true then incI t.2.1 j2 else t.2.1) = x := ⟨_, rfl⟩
                  rw [htb] at HT2
                  have HTB := Aside0.mk htb
                  clear htb
                  have cS0 := HS2.out.cell 0 rfl
                  have cS1 := HS2.out.cell 1 rfl
                  have cS2 := HS2.out.cell 2 rfl
                  go_upto_region 26 with (fail)
                  go_wp2_with fail
                  refine (tipstaffref43_open.calls q.f0 q.f1 q.f2 wd (opn q wd) _ (by unfold tipstaffref43_open.f opn; split <;> rfl)).mono ?_
                  rintro e w5 ⟨rfl, hb5⟩
                  have HT3 := Aside0.mk (HT2.out.below hb5)
                  clear hb5 HT2 HS2 cS0 cS1 cS2
                  cases d : opn q wd with
                  | true =>
                    have cV := HT3.out.n.cell 12 (by obtain ⟨a, b, c, d, e, f, hr6⟩ := len6 HT3.out.e.1; simp only at hr6; simp only [hr6, numC, nums]; rfl)
                    have cA := HT3.out.c.cell j2 (rowC_at _ j2 (by have := HT3.out.e.2.2.2; simp only at this ⊢; omega))
                    have fA := HT3.out.c.fr j2
                    go_wp2_with fail
                    go_roundw
                    case rel =>
                      refine ⟨j2 + 1, (ta, tb, incI t.2.2 j2), by simp [Pure.wrap_succ j2 (by omega)], by omega, ⟨?_⟩, ⟨HT3.out.incC j2⟩⟩
                      rw [← HTF.out, sgL, sgF, HTA.out, HTB.out, if_pos d]
                    case measure => simp [intOf, Pure.wrap_succ j2 (by omega)]; omega
                  | false =>
                    go_wp2_with fail
                    go_roundw
                    case rel =>
                      refine ⟨j2 + 1, (ta, tb, t.2.2), by simp [Pure.wrap_succ j2 (by omega)], by omega, ⟨?_⟩, HT3⟩
                      rw [← HTF.out, sgL, sgF, HTA.out, HTB.out, if_neg (by rw [d]; decide)]
                    case measure => simp [intOf, Pure.wrap_succ j2 (by omega)]; omega
            · have hcj : decide ((j2 : Int) < (mny : Int)) = false := decide_eq_false (by omega)
              have htv := ht.out
              rw [List.drop_eq_nil_of_le (by omega), sgL] at htv
              have HTV := Aside0.mk htv
              clear ht htv
              go_wp2_with fail
              go_roundw
              case rel =>
                refine ⟨ii + 1, (r, t), by simp, by omega, ⟨?_⟩, htw⟩
                rw [← HF.out, HRV.out, HTV.out]
                rfl
              case measure => simp [intOf]; omega
    · have hc : decide ((ii : Int) < (l0.length : Int)) = false := decide_eq_false (by omega)
      have hsv := hst.out
      rw [List.drop_eq_nil_of_le (by omega)] at hsv
      have HSV := Aside0.mk (show st = cntV wd l0 (zer6, List.replicate mny 0, List.replicate mny 0, List.replicate mny 0) from hsv)
      clear hst hsv
      go_upto_region 28 with (fail)
      obtain ⟨ad, A1, c1, A2, c2, ea, x0, x1, x2, x3, x4, x5, l1, g1', l2, g2'⟩ := at_T41 (Kd.C_below HC.out hrc.out.k) ((l0.length : Int) - 1) (by omega) (by omega)
      obtain ⟨tk, htk⟩ : ∃ x, (rd_T41 l0 ((l0.length : Int) - 1)).f0 = x := ⟨_, rfl⟩
      rw [htk, show ((l0.length : Int) - 1).toNat = l0.length - 1 by omega] at x0
      rw [htk] at HXF
      cases ea
      have RS : Aside0 (RsW w.heap.size w B #[.int .i64 0, .int .i64 0, .int .i64 0, .int .i64 0, .int .i64 0, .int .i64 0, .int .i64 0, .int .i64 0, .int .i64 0, .int .i64 0, .slice none 0 0, .slice none 0 0, .slice none 0 0] (.slice (some ⟨g1, 0, none⟩) mny mny) (.slice (some ⟨g2, 0, none⟩) mny mny) (.slice (some ⟨g3, 0, none⟩) mny mny) st.1 st.2 (0, 0, 0, 0) wr) :=
        ⟨hrc.out.z, hrc.out.n, .inr ⟨g1, by rw [hrc.out.e.2.1], hrc.out.o2, hrc.out.a⟩, .inr ⟨g2, by rw [hrc.out.e.2.2.1], hrc.out.o3, hrc.out.b⟩, .inr ⟨g3, by rw [hrc.out.e.2.2.2], hrc.out.o4, hrc.out.c⟩, hrc.out.k, hrc.out.o1⟩
      have R6 := Aside0.mk hrc.out.e.1
      clear x1 x2 x3 x4 x5 g1' g2' htk hrc
      obtain ⟨e0, he0⟩ : ∃ x, wrap64 (tk + 1) = x := ⟨_, rfl⟩
      rw [he0] at HXF
      obtain ⟨va, hva⟩ : ∃ x, Value.slice (some ⟨g1, 0, none⟩) mny mny = x := ⟨_, rfl⟩
      obtain ⟨vb, hvb⟩ : ∃ x, Value.slice (some ⟨g2, 0, none⟩) mny mny = x := ⟨_, rfl⟩
      obtain ⟨vc, hvc⟩ : ∃ x, Value.slice (some ⟨g3, 0, none⟩) mny mny = x := ⟨_, rfl⟩
      obtain ⟨zs, hzs⟩ : ∃ x : Array Value, #[.int .i64 0, .int .i64 0, .int .i64 0, .int .i64 0, .int .i64 0, .int .i64 0, .int .i64 0, .int .i64 0, .int .i64 0, .int .i64 0, .slice none 0 0, .slice none 0 0, .slice none 0 0] = x := ⟨_, rfl⟩
      rw [hva, hvb, hvc, hzs] at RS
      have HE0 := Aside0.mk he0
      have HVA := Aside0.mk hva
      have HVB := Aside0.mk hvb
      have HVC := Aside0.mk hvc
      have HZS := Aside0.mk hzs
      clear hva hvb hvc hzs
      go_upto_region 29 with (fail)
      rw [he0]
      clear he0 HE0
      go_wp2_with fail
      go_loopw [15] (fun v15 wr => ∃ (f : Nat) (x : X4), v15 = .int .i64 f ∧ f ≤ 64 ∧ Aside0 (rcF k l0 e0 (64 - f) f x = some xf) ∧ Aside0 (RsW w.heap.size w B zs va vb vc st.1 st.2 x wr)) (fun v15 _ => 64 - (intOf v15).toNat)
      case atStart => exact ⟨0, _, rfl, by omega, HXF, RS⟩
      case round =>
        obtain ⟨f, x, rfl, hf, hx, hw⟩ := hrel
        by_cases hlt : f < 64
        · have hc : decide ((f : Int) < 64) = true := decide_eq_true (by omega)
          have hxo := hx.out
          rw [show 64 - f = (63 - f) + 1 by omega, rcF] at hxo
          obtain ⟨al1, h1, hxo⟩ := Option.bind_eq_some_iff.1 hxo
          obtain ⟨al2, h2, hxo⟩ := Option.bind_eq_some_iff.1 hxo
          have HA1 := Aside0.mk h1
          have HA2 := Aside0.mk h2
          have HXO := Aside0.mk hxo
          clear h1 h2 hxo hx
          go_wp2_with fail
          go_loopw [16] (fun v16 wi => (v16 = .int .i64 0 ∧ Aside0 (RsW w.heap.size w B zs va vb vc st.1 st.2 x wi)) ∨ (v16 = .int .i64 1 ∧ Aside0 (RsW w.heap.size w B zs va vb vc st.1 st.2 (rcA e0 x al1) wi)) ∨ (v16 = .int .i64 2 ∧ Aside0 (RsW w.heap.size w B zs va vb vc st.1 st.2 (rcA e0 (rcA e0 x al1) al2) wi))) (fun v16 _ => 2 - (intOf v16).toNat)
          case atStart => exact .inl ⟨rfl, hw⟩
          case round =>
            by_cases hend : u16 = .int .i64 2
            · subst hend
              have hw2 : Aside0 (RsW w.heap.size w B zs va vb vc st.1 st.2 (rcA e0 (rcA e0 x al1) al2) wr) := by
                rcases hrel with ⟨h, _⟩ | ⟨h, _⟩ | ⟨_, h⟩
                · cases h
                · cases h
                · exact h
              clear hrel
              go_wp2_with fail
              go_roundw
              case rel => exact ⟨f + 1, _, by simp, by omega, ⟨by rw [show 64 - (f + 1) = 63 - f by omega]; exact HXO.out⟩, hw2⟩
              case measure => simp [intOf]; omega
            · obtain ⟨kk, u, al, y, rfl, hk2, hku, hsp, hy, hnext⟩ : ∃ (kk : Nat) (u : Bool) (al : List S57) (y : X4), u16 = .int .i64 kk ∧ kk < 2 ∧ ((kk : Int) == 0) = u ∧ Aside0 (tipstaffref43_spells.f k l0 (f : Int) u = some al) ∧ Aside0 (RsW w.heap.size w B zs va vb vc st.1 st.2 y wr) ∧
                  Aside0 (∀ W, RsW w.heap.size w B zs va vb vc st.1 st.2 (rcA e0 y al) W → ((Value.int .i64 ((kk : Int) + 1) = .int .i64 0 ∧ Aside0 (RsW w.heap.size w B zs va vb vc st.1 st.2 x W)) ∨ (Value.int .i64 ((kk : Int) + 1) = .int .i64 1 ∧ Aside0 (RsW w.heap.size w B zs va vb vc st.1 st.2 (rcA e0 x al1) W)) ∨ (Value.int .i64 ((kk : Int) + 1) = .int .i64 2 ∧ Aside0 (RsW w.heap.size w B zs va vb vc st.1 st.2 (rcA e0 (rcA e0 x al1) al2) W)))) := by
                rcases hrel with ⟨h, hy⟩ | ⟨h, hy⟩ | ⟨h, _⟩
                · exact ⟨0, true, al1, x, h, by omega, rfl, HA1, hy, ⟨fun W h => .inr (.inl ⟨rfl, ⟨h⟩⟩)⟩⟩
                · exact ⟨1, false, al2, _, h, by omega, rfl, HA2, hy, ⟨fun W h => .inr (.inr ⟨rfl, ⟨h⟩⟩)⟩⟩
                · exact (hend h).elim
              clear hrel hend
              have hc2 : decide ((kk : Int) < 2) = true := decide_eq_true (by omega)
              go_wp2_with fail
              refine (tipstaffref43_spells.calls k (some ad) c0 l0 (f : Int) u al _ (Kd.C_below HC.out hy.out.k) hc0 hsp.out).mono ?_
              rintro e w5 ⟨v5, rfl, hR5, hb5⟩
              obtain ⟨A5, c5, ev5⟩ := Kd.R_slice hR5
              subst ev5
              have hy5 := Aside0.mk (hy.out.below hb5)
              have hR5' := Aside0.mk (Kd.R_lower hR5 (show B + 1 ≤ wr.heap.size by have := hy.out.n.lt; omega))
              have hcap := R57_cap hR5
              clear hR5 hb5 hy
              have c6 := hy5.out.n.cell 6 ((numC6 R6.out _ _ _ _ _ _ _ 6 (by omega)).trans rfl)
              have f6 := hy5.out.n.fr 6
              go_upto_region 37 with (fail)
              obtain ⟨y1, hy1⟩ : ∃ y1 : X4, (wrap64 (y.1 + (al.length : Int)), y.2) = y1 := ⟨_, rfl⟩
              have hW6 := hy5.out.put (y := y1) 6 (.int .i64 (wrap64 (y.1 + (al.length : Int)))) (by rw [numC_s6 R6.out, ← hy1])
              have hR6 := Kd.R_set hR5'.out hy5.out.n (by decide) 6 (.int .i64 (wrap64 (y.1 + (al.length : Int))))
              have HW6 := Aside0.mk hW6
              have HR6 := Aside0.mk hR6
              have HY1 := Aside0.mk hy1
              clear hW6 hR6 hy1 c6 f6 hy5 hR5' hsp
              go_wp2_with fail
              go_loopw [18] (fun v18 wj => ∃ (j4 : Nat) (z : X4), v18 = .int .i64 j4 ∧ j4 ≤ al.length ∧ Aside0 ((al.drop j4).foldl (rcS e0) z = al.foldl (rcS e0) y1) ∧ Aside0 (RsW w.heap.size w B zs va vb vc st.1 st.2 z wj) ∧ Aside0 (Kd.R k57 57 wj (B + 1) (fun _ => True) (.slice A5 al.length c5) al)) (fun v18 _ => al.length - (intOf v18).toNat)
              case atStart => exact ⟨0, y1, rfl, by omega, ⟨by simp⟩, HW6, HR6⟩
              case round =>
                obtain ⟨j4, ⟨za, zb, z3, z4⟩, rfl, hj4, hz, HZ, HR4⟩ := hrel
                by_cases hjl : j4 < al.length
                · have hcj : decide ((j4 : Int) < (al.length : Int)) = true := decide_eq_true (by omega)
                  have hcn : decide (j4 < al.length) = true := decide_eq_true hjl
                  obtain ⟨ad4, e4, y0, y1'⟩ := at_T57 (Kd.R_reads' HR4.out).2.2 (j4 : Int) (by omega) (by omega)
                  rw [Int.toNat_natCast] at y0 y1'
                  cases e4
                  have hzf := hz.out
                  rw [show al.drop j4 = rd_T57 al (j4 : Int) :: al.drop (j4 + 1) by unfold rd_T57; simp [hjl], List.foldl_cons] at hzf
                  obtain ⟨q4, hq4⟩ : ∃ q4, rd_T57 al (j4 : Int) = q4 := ⟨_, rfl⟩
                  rw [hq4] at y0 y1' hzf
                  have HZF := Aside0.mk hzf
                  clear hzf hz
                  cases d : decide (q4.f1 < e0) with
                  | true =>
                    have c7 := HZ.out.n.cell 7 ((numC6 R6.out _ _ _ _ _ _ _ 7 (by omega)).trans rfl)
                    have f7 := HZ.out.n.fr 7
                    go_upto_region 42 with (fail)
                    clear y0 y1'
                    obtain ⟨w7, hw7⟩ : ∃ x, wr.setCell ⟨B, 7, none⟩ (.int .i64 (wrap64 (zb + 1))) = x := ⟨_, rfl⟩
                    have hZ7 : RsW w.heap.size w B zs va vb vc st.1 st.2 (za, wrap64 (zb + 1), z3, z4) w7 := by rw [← hw7]; exact HZ.out.put (y := (za, wrap64 (zb + 1), z3, z4)) 7 _ (numC_s7 R6.out _ _ _ _ _ _ _ _)
                    have hR7 : Kd.R k57 57 w7 (B + 1) (fun _ => True) (.slice (some ad4) al.length c5) al := by rw [← hw7]; exact Kd.R_set HR4.out HZ.out.n (by decide) 7 _
                    rw [hw7]
                    clear hw7 c7 f7 HZ HR4
                    have HZ := Aside0.mk hZ7
                    have HR4 := Aside0.mk hR7
                    clear hZ7 hR7
                    have cB8 := HZ.out.n.cell 8 ((numC6 R6.out _ _ _ _ _ _ _ 8 (by omega)).trans rfl)
                    obtain ⟨ad5, e5, y0, y1⟩ := at_T57 (Kd.R_reads' HR4.out).2.2 (j4 : Int) (by omega) (by omega)
                    rw [Int.toNat_natCast, hq4] at y0 y1
                    cases e5
                    -- REGION42
                    refine start_ (n := 16) (S := fun w' => w'.cell? ⟨B, 8, none⟩ = some (.int .i64 z3) ∧ w'.cell? (ad4.add (j4 * 2)) = some (.int .i64 q4.f0) ∧ w'.cell? ⟨(ad4.add (j4 * 2)).block, (ad4.add (j4 * 2)).off + 1, none⟩ = some (.int .i64 q4.f1)) (ds := [15]) #[false, false, false, false, false, false, false, false, false, false, false, false, false, false, false, false] (by kernel_rfl) rfl rfl ⟨cB8, y0, y1⟩ (fun hHeld => ?_)
                    refine pure_ (i := 0) (N := some 171) (v := ?_) (a' := ?_) #[true, false, false, false, false, false, false, false, false, false, false, false, false, false, false, false] rfl rfl (by kernel_rfl) (fun _ _ _ h => h) (Or.inl ⟨by rfl, ?_⟩) ?_ ?_
                    rotate_left
                    · intro w'
                      go_simp
                      with_reducible rfl
                    rotate_left
                    · simp only [Act.put, List.setIfInBounds_toArray, List.set_cons_zero, List.set_cons_succ, i64_w, i32_w]
                      rfl
                    refine pure_ (i := 2) (N := some 173) (v := ?_) (a' := ?_) #[true, false, true, false, false, false, false, false, false, false, false, false, false, false, false, false] rfl rfl (by kernel_rfl) (fun _ _ _ h => h) (Or.inl ⟨by rfl, ?_⟩) ?_ ?_
                    rotate_left
                    · intro w'
                      go_simp
                      with_reducible rfl
                    rotate_left
                    · simp only [Act.put, List.setIfInBounds_toArray, List.set_cons_zero, List.set_cons_succ, i64_w, i32_w]
                      rfl
                    refine pure_ (i := 3) (N := some 174) (v := ?_) (a' := ?_) #[true, false, true, true, false, false, false, false, false, false, false, false, false, false, false, false] rfl rfl (by kernel_rfl) (fun _ _ _ h => h) (Or.inl ⟨by rfl, ?_⟩) ?_ ?_
                    rotate_left
                    · intro w'
                      go_simp
                      with_reducible rfl
                    rotate_left
                    · simp only [Act.put, List.setIfInBounds_toArray, List.set_cons_zero, List.set_cons_succ, i64_w, i32_w]
                      rfl
                    refine pure_ (i := 4) (N := some 175) (v := ?_) (a' := ?_) #[true, false, true, true, true, false, false, false, false, false, false, false, false, false, false, false] rfl rfl (by kernel_rfl) (fun _ _ _ h => h) (Or.inl ⟨by rfl, ?_⟩) ?_ ?_
                    rotate_left
                    · intro w'
                      go_simp
                      with_reducible rfl
                    rotate_left
                    · simp only [Act.put, List.setIfInBounds_toArray, List.set_cons_zero, List.set_cons_succ, i64_w, i32_w]
                      rfl
                    refine pure_ (i := 5) (N := some 176) (v := ?_) (a' := ?_) #[true, false, true, true, true, true, false, false, false, false, false, false, false, false, false, false] rfl rfl (by kernel_rfl) (fun _ _ _ h => h) (Or.inl ⟨by rfl, ?_⟩) ?_ ?_
                    rotate_left
                    · intro w'
                      go_simp
                      with_reducible rfl
                    rotate_left
                    · simp only [Act.put, List.setIfInBounds_toArray, List.set_cons_zero, List.set_cons_succ, i64_w, i32_w]
                      rfl
                    refine pure_ (i := 8) (N := some 179) (v := ?_) (a' := ?_) #[true, false, true, true, true, true, false, false, true, false, false, false, false, false, false, false] rfl rfl (by kernel_rfl) (fun _ _ _ h => h) (Or.inl ⟨by rfl, ?_⟩) ?_ ?_
                    rotate_left
                    · intro w'
                      go_simp
                      with_reducible rfl
                    rotate_left
                    · simp only [Act.put, List.setIfInBounds_toArray, List.set_cons_zero, List.set_cons_succ, i64_w, i32_w]
                      rfl
                    refine pure_ (i := 9) (N := some 180) (v := ?_) (a' := ?_) #[true, false, true, true, true, true, false, false, true, true, false, false, false, false, false, false] rfl rfl (by kernel_rfl) (fun _ _ _ h => h) (Or.inl ⟨by rfl, ?_⟩) ?_ ?_
                    rotate_left
                    · intro w'
                      go_simp
                      with_reducible rfl
                    rotate_left
                    · simp only [Act.put, List.setIfInBounds_toArray, List.set_cons_zero, List.set_cons_succ, i64_w, i32_w]
                      rfl
                    refine pure_ (i := 10) (N := some 181) (v := ?_) (a' := ?_) #[true, false, true, true, true, true, false, false, true, true, true, false, false, false, false, false] rfl rfl (by kernel_rfl) (fun _ _ _ h => h) (Or.inl ⟨by rfl, ?_⟩) ?_ ?_
                    rotate_left
                    · intro w'
                      go_simp
                      with_reducible rfl
                    rotate_left
                    · simp only [Act.put, List.setIfInBounds_toArray, List.set_cons_zero, List.set_cons_succ, i64_w, i32_w]
                      rfl
                    refine pure_ (i := 11) (N := some 182) (v := ?_) (a' := ?_) #[true, false, true, true, true, true, false, false, true, true, true, true, false, false, false, false] rfl rfl (by kernel_rfl) (fun _ _ _ h => h) (Or.inl ⟨by rfl, ?_⟩) ?_ ?_
                    rotate_left
                    · intro w'
                      go_simp
                      with_reducible rfl
                    rotate_left
                    · simp only [Act.put, List.setIfInBounds_toArray, List.set_cons_zero, List.set_cons_succ, i64_w, i32_w]
                      rfl
                    refine take_ (i := 1) (N := some 172) (v := ?_) (a' := ?_) #[true, true, true, true, true, true, false, false, true, true, true, true, false, false, false, false] rfl rfl (by kernel_rfl) (fun _ _ _ h => h) (Or.inl ⟨by rfl, ?_⟩) hHeld ?_ ?_
                    rotate_left
                    · rintro w' ⟨s0, s1, s2⟩
                      go_simp
                      with_reducible rfl
                    rotate_left
                    · simp only [Act.put, List.setIfInBounds_toArray, List.set_cons_zero, List.set_cons_succ, i64_w, i32_w]
                      rfl
                    refine take_ (i := 6) (N := some 177) (v := ?_) (a' := ?_) #[true, true, true, true, true, true, true, false, true, true, true, true, false, false, false, false] rfl rfl (by kernel_rfl) (fun _ _ _ h => h) (Or.inl ⟨by rfl, ?_⟩) hHeld ?_ ?_
                    rotate_left
                    · rintro w' ⟨s0, s1, s2⟩
                      go_simp
                      with_reducible rfl
                    rotate_left
                    · simp only [Act.put, List.setIfInBounds_toArray, List.set_cons_zero, List.set_cons_succ, i64_w, i32_w]
                      rfl
                    refine pure_ (i := 7) (N := some 178) (v := ?_) (a' := ?_) #[true, true, true, true, true, true, true, true, true, true, true, true, false, false, false, false] rfl rfl (by kernel_rfl) (fun _ _ _ h => h) (Or.inl ⟨by rfl, ?_⟩) ?_ ?_
                    rotate_left
                    · intro w'
                      go_simp
                      with_reducible rfl
                    rotate_left
                    · simp only [Act.put, List.setIfInBounds_toArray, List.set_cons_zero, List.set_cons_succ, i64_w, i32_w]
                      rfl
                    refine take_ (i := 12) (N := some 183) (v := ?_) (a' := ?_) #[true, true, true, true, true, true, true, true, true, true, true, true, true, false, false, false] rfl rfl (by kernel_rfl) (fun _ _ _ h => h) (Or.inl ⟨by rfl, ?_⟩) hHeld ?_ ?_
                    rotate_left
                    · rintro w' ⟨s0, s1, s2⟩
                      go_simp
                      with_reducible rfl
                    rotate_left
                    · simp only [Act.put, List.setIfInBounds_toArray, List.set_cons_zero, List.set_cons_succ, i64_w, i32_w]
                      rfl
                    refine pure_ (i := 13) (N := some 184) (v := ?_) (a' := ?_) #[true, true, true, true, true, true, true, true, true, true, true, true, true, true, false, false] rfl rfl (by kernel_rfl) (fun _ _ _ h => h) (Or.inl ⟨by rfl, ?_⟩) ?_ ?_
                    rotate_left
                    · intro w'
                      go_simp
                      with_reducible rfl
                    rotate_left
                    · simp only [Act.put, List.setIfInBounds_toArray, List.set_cons_zero, List.set_cons_succ, i64_w, i32_w]
                      rfl
                    refine pure_ (i := 14) (N := some 185) (v := ?_) (a' := ?_) #[true, true, true, true, true, true, true, true, true, true, true, true, true, true, true, false] rfl rfl (by kernel_rfl) (fun _ _ _ h => h) (Or.inl ⟨by rfl, ?_⟩) ?_ ?_
                    rotate_left
                    · intro w'
                      go_simp
                      with_reducible rfl
                    rotate_left
                    · simp only [Act.put, List.setIfInBounds_toArray, List.set_cons_zero, List.set_cons_succ, i64_w, i32_w]
                      rfl
                    refine last_ (i := 15) (N := none) #[true, true, true, true, true, true, true, true, true, true, true, true, true, true, true, true] rfl rfl (by kernel_rfl) (by decide) (fun K hK => ?_)
                    obtain ⟨s0, s1, s2⟩ := hHeld
                    have fB := (HZ.out.n.fr 8 : _)
                    refine skip_ (w1 := ?_) (by rfl) rfl ?_ ?_
                    rotate_left
                    · go_simp
                      rfl
                    refine hK.out _ _ ?_
                    clear hK K
                    refine done_ (by kernel_rfl) ?_
                    -- END42
                    obtain ⟨w8, hw8⟩ : ∃ x, (w7.setCell ⟨B, 8, none⟩ (.int .i64 (wrap64 (wrap64 (z3 + q4.f1) - q4.f0)))).drew = x := ⟨_, rfl⟩
                    have hZ8 : RsW w.heap.size w B zs va vb vc st.1 st.2 (za, wrap64 (zb + 1), wrap64 (wrap64 (z3 + q4.f1) - q4.f0), z4) w8 := by rw [← hw8]; exact (HZ.out.put (y := (za, wrap64 (zb + 1), wrap64 (wrap64 (z3 + q4.f1) - q4.f0), z4)) 8 _ (numC_s8 R6.out _ _ _ _ _ _ _ _)).below (below_drew (Below.refl _ _))
                    have hR8 : Kd.R k57 57 w8 (B + 1) (fun _ => True) (.slice (some ad4) al.length c5) al := by rw [← hw8]; exact Kd.R_drew (Kd.R_set HR4.out HZ.out.n (by decide) 8 _)
                    rw [hw8]
                    clear hw8 cB8 HZ HR4 y0 y1
                    have HZ := Aside0.mk hZ8
                    have HR4 := Aside0.mk hR8
                    clear hZ8 hR8
                    have cB9 := HZ.out.n.cell 9 ((numC6 R6.out _ _ _ _ _ _ _ 9 (by omega)).trans rfl)
                    obtain ⟨ad5, e5, y0, y1⟩ := at_T57 (Kd.R_reads' HR4.out).2.2 (j4 : Int) (by omega) (by omega)
                    rw [Int.toNat_natCast, hq4] at y0 y1
                    cases e5
                    go_upto_region 43 with (fail)
                    -- REGION43
                    refine start_ (n := 16) (S := fun w' => w'.cell? ⟨B, 9, none⟩ = some (.int .i64 z4) ∧ w'.cell? (ad4.add (j4 * 2)) = some (.int .i64 q4.f0) ∧ w'.cell? ⟨(ad4.add (j4 * 2)).block, (ad4.add (j4 * 2)).off + 1, none⟩ = some (.int .i64 q4.f1)) (ds := [15]) #[false, false, false, false, false, false, false, false, false, false, false, false, false, false, false, false] (by kernel_rfl) rfl rfl ⟨cB9, y0, y1⟩ (fun hHeld => ?_)
                    refine pure_ (i := 0) (N := some 186) (v := ?_) (a' := ?_) #[true, false, false, false, false, false, false, false, false, false, false, false, false, false, false, false] rfl rfl (by kernel_rfl) (fun _ _ _ h => h) (Or.inl ⟨by rfl, ?_⟩) ?_ ?_
                    rotate_left
                    · intro w'
                      go_simp
                      with_reducible rfl
                    rotate_left
                    · simp only [Act.put, List.setIfInBounds_toArray, List.set_cons_zero, List.set_cons_succ, i64_w, i32_w]
                      rfl
                    refine pure_ (i := 2) (N := some 188) (v := ?_) (a' := ?_) #[true, false, true, false, false, false, false, false, false, false, false, false, false, false, false, false] rfl rfl (by kernel_rfl) (fun _ _ _ h => h) (Or.inl ⟨by rfl, ?_⟩) ?_ ?_
                    rotate_left
                    · intro w'
                      go_simp
                      with_reducible rfl
                    rotate_left
                    · simp only [Act.put, List.setIfInBounds_toArray, List.set_cons_zero, List.set_cons_succ, i64_w, i32_w]
                      rfl
                    refine pure_ (i := 3) (N := some 189) (v := ?_) (a' := ?_) #[true, false, true, true, false, false, false, false, false, false, false, false, false, false, false, false] rfl rfl (by kernel_rfl) (fun _ _ _ h => h) (Or.inl ⟨by rfl, ?_⟩) ?_ ?_
                    rotate_left
                    · intro w'
                      go_simp
                      with_reducible rfl
                    rotate_left
                    · simp only [Act.put, List.setIfInBounds_toArray, List.set_cons_zero, List.set_cons_succ, i64_w, i32_w]
                      rfl
                    refine pure_ (i := 4) (N := some 190) (v := ?_) (a' := ?_) #[true, false, true, true, true, false, false, false, false, false, false, false, false, false, false, false] rfl rfl (by kernel_rfl) (fun _ _ _ h => h) (Or.inl ⟨by rfl, ?_⟩) ?_ ?_
                    rotate_left
                    · intro w'
                      go_simp
                      with_reducible rfl
                    rotate_left
                    · simp only [Act.put, List.setIfInBounds_toArray, List.set_cons_zero, List.set_cons_succ, i64_w, i32_w]
                      rfl
                    refine pure_ (i := 5) (N := some 191) (v := ?_) (a' := ?_) #[true, false, true, true, true, true, false, false, false, false, false, false, false, false, false, false] rfl rfl (by kernel_rfl) (fun _ _ _ h => h) (Or.inl ⟨by rfl, ?_⟩) ?_ ?_
                    rotate_left
                    · intro w'
                      go_simp
                      with_reducible rfl
                    rotate_left
                    · simp only [Act.put, List.setIfInBounds_toArray, List.set_cons_zero, List.set_cons_succ, i64_w, i32_w]
                      rfl
                    refine pure_ (i := 7) (N := some 193) (v := ?_) (a' := ?_) #[true, false, true, true, true, true, false, true, false, false, false, false, false, false, false, false] rfl rfl (by kernel_rfl) (fun _ _ _ h => h) (Or.inl ⟨by rfl, ?_⟩) ?_ ?_
                    rotate_left
                    · intro w'
                      go_simp
                      with_reducible rfl
                    rotate_left
                    · simp only [Act.put, List.setIfInBounds_toArray, List.set_cons_zero, List.set_cons_succ, i64_w, i32_w]
                      rfl
                    refine pure_ (i := 8) (N := some 194) (v := ?_) (a' := ?_) #[true, false, true, true, true, true, false, true, true, false, false, false, false, false, false, false] rfl rfl (by kernel_rfl) (fun _ _ _ h => h) (Or.inl ⟨by rfl, ?_⟩) ?_ ?_
                    rotate_left
                    · intro w'
                      go_simp
                      with_reducible rfl
                    rotate_left
                    · simp only [Act.put, List.setIfInBounds_toArray, List.set_cons_zero, List.set_cons_succ, i64_w, i32_w]
                      rfl
                    refine pure_ (i := 9) (N := some 195) (v := ?_) (a' := ?_) #[true, false, true, true, true, true, false, true, true, true, false, false, false, false, false, false] rfl rfl (by kernel_rfl) (fun _ _ _ h => h) (Or.inl ⟨by rfl, ?_⟩) ?_ ?_
                    rotate_left
                    · intro w'
                      go_simp
                      with_reducible rfl
                    rotate_left
                    · simp only [Act.put, List.setIfInBounds_toArray, List.set_cons_zero, List.set_cons_succ, i64_w, i32_w]
                      rfl
                    refine pure_ (i := 10) (N := some 196) (v := ?_) (a' := ?_) #[true, false, true, true, true, true, false, true, true, true, true, false, false, false, false, false] rfl rfl (by kernel_rfl) (fun _ _ _ h => h) (Or.inl ⟨by rfl, ?_⟩) ?_ ?_
                    rotate_left
                    · intro w'
                      go_simp
                      with_reducible rfl
                    rotate_left
                    · simp only [Act.put, List.setIfInBounds_toArray, List.set_cons_zero, List.set_cons_succ, i64_w, i32_w]
                      rfl
                    refine take_ (i := 1) (N := some 187) (v := ?_) (a' := ?_) #[true, true, true, true, true, true, false, true, true, true, true, false, false, false, false, false] rfl rfl (by kernel_rfl) (fun _ _ _ h => h) (Or.inl ⟨by rfl, ?_⟩) hHeld ?_ ?_
                    rotate_left
                    · rintro w' ⟨s0, s1, s2⟩
                      go_simp
                      with_reducible rfl
                    rotate_left
                    · simp only [Act.put, List.setIfInBounds_toArray, List.set_cons_zero, List.set_cons_succ, i64_w, i32_w]
                      rfl
                    refine take_ (i := 6) (N := some 192) (v := ?_) (a' := ?_) #[true, true, true, true, true, true, true, true, true, true, true, false, false, false, false, false] rfl rfl (by kernel_rfl) (fun _ _ _ h => h) (Or.inl ⟨by rfl, ?_⟩) hHeld ?_ ?_
                    rotate_left
                    · rintro w' ⟨s0, s1, s2⟩
                      go_simp
                      with_reducible rfl
                    rotate_left
                    · simp only [Act.put, List.setIfInBounds_toArray, List.set_cons_zero, List.set_cons_succ, i64_w, i32_w]
                      rfl
                    refine take_ (i := 11) (N := some 197) (v := ?_) (a' := ?_) #[true, true, true, true, true, true, true, true, true, true, true, true, false, false, false, false] rfl rfl (by kernel_rfl) (fun _ _ _ h => h) (Or.inl ⟨by rfl, ?_⟩) hHeld ?_ ?_
                    rotate_left
                    · rintro w' ⟨s0, s1, s2⟩
                      go_simp
                      with_reducible rfl
                    rotate_left
                    · simp only [Act.put, List.setIfInBounds_toArray, List.set_cons_zero, List.set_cons_succ, i64_w, i32_w]
                      rfl
                    refine pure_ (i := 12) (N := some 198) (v := ?_) (a' := ?_) #[true, true, true, true, true, true, true, true, true, true, true, true, true, false, false, false] rfl rfl (by kernel_rfl) (fun _ _ _ h => h) (Or.inl ⟨by rfl, ?_⟩) ?_ ?_
                    rotate_left
                    · intro w'
                      go_simp
                      with_reducible rfl
                    rotate_left
                    · simp only [Act.put, List.setIfInBounds_toArray, List.set_cons_zero, List.set_cons_succ, i64_w, i32_w]
                      rfl
                    refine pure_ (i := 13) (N := some 199) (v := ?_) (a' := ?_) #[true, true, true, true, true, true, true, true, true, true, true, true, true, true, false, false] rfl rfl (by kernel_rfl) (fun _ _ _ h => h) (Or.inl ⟨by rfl, ?_⟩) ?_ ?_
                    rotate_left
                    · intro w'
                      go_simp
                      with_reducible rfl
                    rotate_left
                    · simp only [Act.put, List.setIfInBounds_toArray, List.set_cons_zero, List.set_cons_succ, i64_w, i32_w]
                      rfl
                    refine pure_ (i := 14) (N := some 200) (v := ?_) (a' := ?_) #[true, true, true, true, true, true, true, true, true, true, true, true, true, true, true, false] rfl rfl (by kernel_rfl) (fun _ _ _ h => h) (Or.inl ⟨by rfl, ?_⟩) ?_ ?_
                    rotate_left
                    · intro w'
                      go_simp
                      with_reducible rfl
                    rotate_left
                    · simp only [Act.put, List.setIfInBounds_toArray, List.set_cons_zero, List.set_cons_succ, i64_w, i32_w]
                      rfl
                    refine last_ (i := 15) (N := none) #[true, true, true, true, true, true, true, true, true, true, true, true, true, true, true, true] rfl rfl (by kernel_rfl) (by decide) (fun K hK => ?_)
                    obtain ⟨s0, s1, s2⟩ := hHeld
                    have fB := (HZ.out.n.fr 9 : _)
                    refine skip_ (w1 := ?_) (by rfl) rfl ?_ ?_
                    rotate_left
                    · go_simp
                      rfl
                    refine hK.out _ _ ?_
                    clear hK K
                    refine done_ (by kernel_rfl) ?_
                    -- END43
                    obtain ⟨z5, hz5⟩ : ∃ x, (if z4 < wrap64 (q4.f1 - q4.f0) then wrap64 (q4.f1 - q4.f0) else z4) = x := ⟨_, rfl⟩
                    rw [hz5]
                    obtain ⟨w9, hw9⟩ : ∃ x, (w8.setCell ⟨B, 9, none⟩ (.int .i64 z5)).drew = x := ⟨_, rfl⟩
                    have hZ9 : RsW w.heap.size w B zs va vb vc st.1 st.2 (za, wrap64 (zb + 1), wrap64 (wrap64 (z3 + q4.f1) - q4.f0), z5) w9 := by rw [← hw9]; exact (HZ.out.put (y := (za, wrap64 (zb + 1), wrap64 (wrap64 (z3 + q4.f1) - q4.f0), z5)) 9 _ (numC_s9 R6.out _ _ _ _ _ _ _ _)).below (below_drew (Below.refl _ _))
                    have hR9 : Kd.R k57 57 w9 (B + 1) (fun _ => True) (.slice (some ad4) al.length c5) al := by rw [← hw9]; exact Kd.R_drew (Kd.R_set HR4.out HZ.out.n (by decide) 9 _)
                    rw [hw9]
                    clear hw9 cB9 HZ HR4 y0 y1
                    have HZ := Aside0.mk hZ9
                    have HR4 := Aside0.mk hR9
                    have HZ5 := Aside0.mk hz5
                    clear hZ9 hR9 hz5
                    go_wp2_with fail
                    go_roundw
                    case rel =>
                      exact ⟨j4 + 1, (za, wrap64 (zb + 1), wrap64 (wrap64 (z3 + q4.f1) - q4.f0), z5), by simp [Pure.wrap_succ j4 (by omega)], by omega, ⟨by rw [← HZF.out, rcS, if_pos (of_decide_eq_true d), HZ5.out]⟩, HZ, HR4⟩
                    case measure => simp [intOf, Pure.wrap_succ j4 (by omega)]; omega
                  | false =>
                    go_wp2_with fail
                    go_roundw
                    case rel =>
                      exact ⟨j4 + 1, (za, zb, z3, z4), by simp [Pure.wrap_succ j4 (by omega)], by omega, ⟨by rw [← HZF.out, rcS, if_neg (of_decide_eq_false d)]⟩, HZ, HR4⟩
                    case measure => simp [intOf, Pure.wrap_succ j4 (by omega)]; omega
                · have hcj : decide ((j4 : Int) < (al.length : Int)) = false := decide_eq_false (by omega)
                  have hzv := hz.out
                  rw [List.drop_eq_nil_of_le (by omega), List.foldl_nil] at hzv
                  have HZV := Aside0.mk hzv
                  clear hzv hz
                  go_wp2_with fail
                  go_roundw
                  case rel => exact hnext.out _ (by have h := HZ.out; rw [HZV.out, ← HY1.out] at h; exact h)
                  case measure => simp [intOf]; omega
        · have hc : decide ((f : Int) < 64) = false := decide_eq_false (by omega)
          have hxo := hx.out
          rw [show 64 - f = 0 by omega, rcF] at hxo
          have HXO := Aside0.mk (Option.some.inj hxo)
          clear hxo hx
          go_upto_region 44 with (fail)
          obtain ⟨r0, r1, r2, r3, r4, r5, hr6⟩ := len6 R6.out
          have hzs := HZS.out
          have hva := HVA.out
          have hvb := HVB.out
          have hvc := HVC.out
          have hW := hw.out
          rw [hr6] at hW
          subst hzs hva hvb hvc
          have c0_ : wr.cell? ⟨B, 0, none⟩ = some (.int .i64 r0) := hW.n.cell 0 rfl
          have c1_ : wr.cell? ⟨B, 1, none⟩ = some (.int .i64 r1) := hW.n.cell 1 rfl
          have c2_ : wr.cell? ⟨B, 2, none⟩ = some (.int .i64 r2) := hW.n.cell 2 rfl
          have c3_ : wr.cell? ⟨B, 3, none⟩ = some (.int .i64 r3) := hW.n.cell 3 rfl
          have c4_ : wr.cell? ⟨B, 4, none⟩ = some (.int .i64 r4) := hW.n.cell 4 rfl
          have c5_ : wr.cell? ⟨B, 5, none⟩ = some (.int .i64 r5) := hW.n.cell 5 rfl
          have c6_ : wr.cell? ⟨B, 6, none⟩ = some (.int .i64 x.1) := hW.n.cell 6 rfl
          have c7_ : wr.cell? ⟨B, 7, none⟩ = some (.int .i64 x.2.1) := hW.n.cell 7 rfl
          have c8_ : wr.cell? ⟨B, 8, none⟩ = some (.int .i64 x.2.2.1) := hW.n.cell 8 rfl
          have c9_ : wr.cell? ⟨B, 9, none⟩ = some (.int .i64 x.2.2.2) := hW.n.cell 9 rfl
          have c10_ : wr.cell? ⟨B, 10, none⟩ = some (.slice (some ⟨g1, 0, none⟩) mny mny) := hW.n.cell 10 rfl
          have c11_ : wr.cell? ⟨B, 11, none⟩ = some (.slice (some ⟨g2, 0, none⟩) mny mny) := hW.n.cell 11 rfl
          have c12_ : wr.cell? ⟨B, 12, none⟩ = some (.slice (some ⟨g3, 0, none⟩) mny mny) := hW.n.cell 12 rfl
          have z0_ : wr.cell? ⟨w.heap.size, 0, none⟩ = some (.int .i64 0) := hW.z.cell 0 rfl
          have z1_ : wr.cell? ⟨w.heap.size, 1, none⟩ = some (.int .i64 0) := hW.z.cell 1 rfl
          have z2_ : wr.cell? ⟨w.heap.size, 2, none⟩ = some (.int .i64 0) := hW.z.cell 2 rfl
          have z3_ : wr.cell? ⟨w.heap.size, 3, none⟩ = some (.int .i64 0) := hW.z.cell 3 rfl
          have z4_ : wr.cell? ⟨w.heap.size, 4, none⟩ = some (.int .i64 0) := hW.z.cell 4 rfl
          have z5_ : wr.cell? ⟨w.heap.size, 5, none⟩ = some (.int .i64 0) := hW.z.cell 5 rfl
          have z6_ : wr.cell? ⟨w.heap.size, 6, none⟩ = some (.int .i64 0) := hW.z.cell 6 rfl
          have z7_ : wr.cell? ⟨w.heap.size, 7, none⟩ = some (.int .i64 0) := hW.z.cell 7 rfl
          have z8_ : wr.cell? ⟨w.heap.size, 8, none⟩ = some (.int .i64 0) := hW.z.cell 8 rfl
          have z9_ : wr.cell? ⟨w.heap.size, 9, none⟩ = some (.int .i64 0) := hW.z.cell 9 rfl
          have z10_ : wr.cell? ⟨w.heap.size, 10, none⟩ = some (.slice none 0 0) := hW.z.cell 10 rfl
          have z11_ : wr.cell? ⟨w.heap.size, 11, none⟩ = some (.slice none 0 0) := hW.z.cell 11 rfl
          have z12_ : wr.cell? ⟨w.heap.size, 12, none⟩ = some (.slice none 0 0) := hW.z.cell 12 rfl
          have f0_ := hW.z.fr 0
          have f1_ := hW.z.fr 1
          have f2_ := hW.z.fr 2
          have f3_ := hW.z.fr 3
          have f4_ := hW.z.fr 4
          have f5_ := hW.z.fr 5
          have f6_ := hW.z.fr 6
          have f7_ := hW.z.fr 7
          have f8_ := hW.z.fr 8
          have f9_ := hW.z.fr 9
          have f10_ := hW.z.fr 10
          have f11_ := hW.z.fr 11
          have f12_ := hW.z.fr 12
          go_wp2_with fail
          obtain ⟨wf, hwf⟩ : ∃ X_, put13 wr w.heap.size (.int .i64 r0) (.int .i64 r1) (.int .i64 r2) (.int .i64 r3) (.int .i64 r4) (.int .i64 r5) (.int .i64 x.1) (.int .i64 x.2.1) (.int .i64 x.2.2.1) (.int .i64 x.2.2.2) (.slice (some ⟨g1, 0, none⟩) mny mny) (.slice (some ⟨g2, 0, none⟩) mny mny) (.slice (some ⟨g3, 0, none⟩) mny mny) = X_ := ⟨_, rfl⟩
          have hbf : Blk wf w.heap.size #[(.int .i64 r0), (.int .i64 r1), (.int .i64 r2), (.int .i64 r3), (.int .i64 r4), (.int .i64 r5), (.int .i64 x.1), (.int .i64 x.2.1), (.int .i64 x.2.2.1), (.int .i64 x.2.2.2), (.slice (some ⟨g1, 0, none⟩) mny mny), (.slice (some ⟨g2, 0, none⟩) mny mny), (.slice (some ⟨g3, 0, none⟩) mny mny)] 29 := by rw [← hwf]; exact put13_blk hW.z (.int .i64 r0) (.int .i64 r1) (.int .i64 r2) (.int .i64 r3) (.int .i64 r4) (.int .i64 r5) (.int .i64 x.1) (.int .i64 x.2.1) (.int .i64 x.2.2.1) (.int .i64 x.2.2.2) (.slice (some ⟨g1, 0, none⟩) mny mny) (.slice (some ⟨g2, 0, none⟩) mny mny) (.slice (some ⟨g3, 0, none⟩) mny mny)
          have hff : ∀ j, j ≠ w.heap.size → wf.heap[j]? = wr.heap[j]? := by intro j hj; rw [← hwf]; exact put13_far _ _ (.int .i64 r0) (.int .i64 r1) (.int .i64 r2) (.int .i64 r3) (.int .i64 r4) (.int .i64 r5) (.int .i64 x.1) (.int .i64 x.2.1) (.int .i64 x.2.2.1) (.int .i64 x.2.2.2) (.slice (some ⟨g1, 0, none⟩) mny mny) (.slice (some ⟨g2, 0, none⟩) mny mny) (.slice (some ⟨g3, 0, none⟩) mny mny) _ hj
          have hkf : Below w.heap.size w wf := by rw [← hwf]; exact hW.k.trans (put13_below _ _ _ (.int .i64 r0) (.int .i64 r1) (.int .i64 r2) (.int .i64 r3) (.int .i64 r4) (.int .i64 r5) (.int .i64 x.1) (.int .i64 x.2.1) (.int .i64 x.2.2.1) (.int .i64 x.2.2.2) (.slice (some ⟨g1, 0, none⟩) mny mny) (.slice (some ⟨g2, 0, none⟩) mny mny) (.slice (some ⟨g3, 0, none⟩) mny mny) (Nat.le_refl _))
          have hnum := hW.done rfl hff
          unfold put13 at hwf
          rw [hwf]
          clear hwf c0_ z0_ f0_ c1_ z1_ f1_ c2_ z2_ f2_ c3_ z3_ f3_ c4_ z4_ f4_ c5_ z5_ f5_ c6_ z6_ f6_ c7_ z7_ f7_ c8_ z8_ f8_ c9_ z9_ f9_ c10_ z10_ f10_ c11_ z11_ f11_ c12_ z12_ f12_
          have c0_ := hbf.cell 0 rfl
          have c1_ := hbf.cell 1 rfl
          have c2_ := hbf.cell 2 rfl
          have c3_ := hbf.cell 3 rfl
          have c4_ := hbf.cell 4 rfl
          have c5_ := hbf.cell 5 rfl
          have c6_ := hbf.cell 6 rfl
          have c7_ := hbf.cell 7 rfl
          have c8_ := hbf.cell 8 rfl
          have c9_ := hbf.cell 9 rfl
          have c10_ := hbf.cell 10 rfl
          have c11_ := hbf.cell 11 rfl
          have c12_ := hbf.cell 12 rfl
          refine bodyPost_ret (v := .tuple #[numV [r0, r1, r2, r3, r4, r5] x.1 x.2.1 x.2.2.1 x.2.2.2 (.slice (some ⟨g1, 0, none⟩) mny mny) (.slice (some ⟨g2, 0, none⟩) mny mny) (.slice (some ⟨g3, 0, none⟩) mny mny), .int .i64 0]) ?_ rfl ⟨_, rfl, ?_, hkf⟩
          · simp [results, Tryd.results19, go_sem, hu29, hu27, c0_, c1_, c2_, c3_, c4_, c5_, c6_, c7_, c8_, c9_, c10_, c11_, c12_]
            rfl
          · rw [← HSV.out, ← HXO.out]
            rw [show st = ([r0, r1, r2, r3, r4, r5], st.2) from by rw [← hr6]]
            exact hnum

def tipstaffref43_Count.f (k : Nat) (l : List S41) (wd : Int) : Option (Num × Int) :=
  (tipstaffref43_Check.f k l).bind fun e => if e.1 = 0 then (if wd < 1 ∨ 20 < wd then some (num0, 2) else if l.length = 0 then some (num0, 0) else
    (rcF k l (wrap64 ((rd_T41 l ((l.length : Int) - 1)).f0 + 1)) 64 0 (0, 0, 0, 0)).map fun x => (numOf (cntV wd l (zer6, List.replicate (rd_T41 l 0).f2.length 0, List.replicate (rd_T41 l 0).f2.length 0, List.replicate (rd_T41 l 0).f2.length 0)) x, 0)) else some (num0, e.1)
theorem okV_of {l : List S41} (hv : ∀ v ∈ l, Pure.WV v) (h : Pure.OkL l) : okV l (rd_T41 l 0).f2.length := fun v hm => ⟨(h.v v hm).n, fun r hr => ((h.v v hm).r r hr).2, (hv v hm).2.1⟩
theorem tipstaffref43_Count.calls (k : Nat) (A0 : Option Addr) (c0 : Nat) (l0 : List S41) (wd : Int) (n : Num) (r2 : Int) (w : World) (hv : ∀ v ∈ l0, Pure.WV v) (hr0 : Kd.C k41 w A0 l0.length l0) (hc0 : l0.length ≤ c0) (h : tipstaffref43_Count.f k l0 wd = some (n, r2)) :
    Calls Tryd.prog 19 #[.slice A0 l0.length c0, .int .i64 wd] w fun e w' => ∃ v, e = .returned (.tuple #[v, .int .i64 r2]) ∧ NumR w' w.heap.size v n ∧ Below w.heap.size w w' := by
  obtain ⟨⟨e, i⟩, he, h⟩ := Option.bind_eq_some_iff.1 h
  by_cases h0 : e = 0
  · subst h0
    rw [if_pos rfl] at h
    by_cases h1 : wd < 1 ∨ 20 < wd
    · rw [if_pos h1] at h
      obtain ⟨rfl, rfl⟩ := Prod.mk.inj (Option.some.inj h)
      exact RCount_no k A0 c0 l0 wd 0 i 2 w hr0 hc0 he (by rw [if_pos rfl]) (fun _ => h1)
    rw [if_neg h1] at h
    by_cases h2 : l0.length = 0
    · rw [if_pos h2] at h
      obtain ⟨rfl, rfl⟩ := Prod.mk.inj (Option.some.inj h)
      obtain rfl := List.eq_nil_of_length_eq_zero h2
      exact RCount_nil k A0 c0 wd i w hr0 he (by omega) (by omega)
    · rw [if_neg h2] at h
      obtain ⟨x, hx, h⟩ := Option.map_eq_some_iff.1 h
      obtain ⟨rfl, rfl⟩ := Prod.mk.inj h
      have ok := Pure.chk_ok (Pure.rcheck_chk hv he).symm
      have hlp : 0 < l0.length := by omega
      have hm8 := (ok.v _ (mem_T41 l0 0 hlp)).m8
      exact RCount_yes k A0 c0 l0 wd i w hr0 hc0 he (by omega) (by omega) hlp _ rfl hm8 (okV_of hv ok) ok.len x hx
  · rw [if_neg h0] at h
    obtain ⟨rfl, rfl⟩ := Prod.mk.inj (Option.some.inj h)
    exact RCount_no k A0 c0 l0 wd e i e w hr0 hc0 he (by rw [if_neg h0]) (fun h => absurd h h0)

end Go.Proofs.YtenlokaaloenmaaDoor.S
