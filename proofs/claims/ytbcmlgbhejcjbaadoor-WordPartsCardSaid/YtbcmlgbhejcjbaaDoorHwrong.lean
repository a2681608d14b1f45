/- word.wrong, walked: the error of what a word is made of. -/
import Derived.Outline
import Derived.RangeFuncBox
import Derived.BigQuiet
import Derived.IntWalk
import Derived.Test.YtbcmlgbhejcjbaaDoorHword
import Derived.Test.YtbcmlgbhejcjbaaDoorS2
namespace Go.Proofs.YtbcmlgbhejcjbaaDoor.S
open Go.RowKit Go.Proofs.YtbcmlgbhejcjbaaDoorW.PrintWords Go.Proofs.YtbcmlgbhejcjbaaDoorW.PrintLast Go.Proofs.YtbcmlgbhejcjbaaDoorW.PrintMore Go.Shelf
set_option linter.unusedVariables false
set_option linter.unusedSimpArgs false

def inB (n a b : Int) : Bool := decide (a ≤ n) && decide (n ≤ b)
theorem in_val (n a b : Int) : word_in.f n a b = some (inB n a b) := by
  unfold word_in.f inB
  by_cases h : n ≥ a
  · rw [if_pos h, decide_eq_true h, Bool.true_and]
  · rw [if_neg h, decide_eq_false h, Bool.false_and]
def validB (e : S38) (n : Int) : Bool := inB e.f4 1 n && (inB e.f5 1 6 && inB e.f6 0 (if e.f5 = 1 then 10000 else 0))
theorem valid_val (e : S38) (n : Int) : word_valid.f e.f0 e.f1 e.f2 e.f3 e.f4 e.f5 e.f6 n = some (validB e n) := by
  unfold word_valid.f validB
  simp only [in_val, Option.bind_some]
  by_cases h : e.f5 = 1
  · rw [if_pos h, if_pos h]
    cases inB e.f4 1 n <;> cases inB e.f5 1 6 <;> rfl
  · rw [if_neg h, if_neg h]
    cases inB e.f4 1 n <;> cases inB e.f5 1 6 <;> rfl
/-- The error of one entry, n being the number of cars, and some tick ahead of it. -/
def entE (e : S38) (n : Int) (prev : Option Int) : Int :=
  if inB e.f0 0 1099511627776 = false then 2 else if (match prev with | none => false | some p => decide (e.f0 < p)) = true then 8 else if e.f1 ≠ 1 ∧ e.f1 ≠ 2 then 11 else if e.f1 = 2 ∧ validB e n = false then 2 else 0
def wrongG (n : Int) : List S38 → Option Int → Int
  | [], _ => 0
  | e :: es, prev => if entE e n prev = 0 then wrongG n es (some e.f0) else entE e n prev
def loadsB : List Int → Bool
  | [] => true
  | x :: xs => if inB x 0 10000 = true then loadsB xs else false
def word_wrong.f (a0 : Int) (l1 : List Int) (l2 : List S38) : Option Int :=
  some (if inB a0 0 10000 = false then 2 else if inB l1.length 1 8 = false then 2 else if loadsB l1 = false then 2 else if l2.length > 2000 then 4 else wrongG l1.length l2 none)

theorem in_any (a b c : Int) (w : World) : Calls Tryd.prog 44 #[.int .i64 a, .int .i64 b, .int .i64 c] w fun e w' => e = .returned (.bool (inB a b c)) ∧ Drawn0 w w' := word_in.calls a b c _ w (in_val a b c)
theorem valid_any (e : S38) (n : Int) (w : World) : Calls Tryd.prog 48 #[.agg #[.int .i64 e.f0, .int .i64 e.f1, .int .i64 e.f2, .string e.f3, .int .i64 e.f4, .int .i64 e.f5, .int .i64 e.f6], .int .i64 n] w fun en w' => en = .returned (.bool (validB e n)) ∧ Below w.heap.size w w' := word_valid.calls _ _ _ _ _ _ _ _ _ w (valid_val e n)
theorem below_drewN {n : Nat} {w w' : World} (h : Below n w w') (k : Nat) : Below n w (w'.drewN k) := by
  apply pw_below_drewN
  exact h
theorem rdi_drop (l : List Int) (i : Nat) (h : i < l.length) : l.drop i = rd l (i : Int) :: l.drop (i + 1) := by
  unfold rd; simp [h]

def ordB (e : S38) (prev : Option Int) : Bool := match prev with | none => false | some p => decide (e.f0 < p)
theorem entE_tick {e : S38} {n : Int} {p : Option Int} (h : inB e.f0 0 1099511627776 = false) : entE e n p = 2 := by unfold entE; rw [if_pos h]
theorem entE_order {e : S38} {n : Int} {p : Option Int} (h : inB e.f0 0 1099511627776 = true) (h2 : ordB e p = true) : entE e n p = 8 := by
  have h' : ¬ inB e.f0 0 1099511627776 = false := by rw [h]; decide
  unfold entE; rw [if_neg h']; exact if_pos h2
theorem entE_rest {e : S38} {n : Int} {p : Option Int} (h : inB e.f0 0 1099511627776 = true) (h2 : ordB e p = false) : entE e n p = if e.f1 ≠ 1 ∧ e.f1 ≠ 2 then 11 else if e.f1 = 2 ∧ validB e n = false then 2 else 0 := by
  have h' : ¬ inB e.f0 0 1099511627776 = false := by rw [h]; decide
  have h2' : ¬ ordB e p = true := by rw [h2]; decide
  unfold entE; rw [if_neg h']; exact if_neg h2'
/-- The tick ahead. -/
def prevO (l : List S38) (i : Nat) : Option Int := if i = 0 then none else some (rd_T38 l ((i : Int) - 1)).f0
theorem prevO_succ (l : List S38) (i : Nat) : prevO l (i + 1) = some (rd_T38 l (i : Int)).f0 := by
  unfold prevO; rw [if_neg (by omega), show (((i + 1 : Nat) : Int) - 1) = (i : Int) by omega]

set_option maxHeartbeats 4000000 in
set_option maxRecDepth 100000 in
theorem word_wrong.calls (a0 : Int) (A1 : Option Addr) (c1 : Nat) (l1 : List Int) (A2 : Option Addr) (c2 : Nat) (l2 : List S38) (r : Int) (w : World) (hr1 : Kd.C (Kd.int .i64) w A1 l1.length l1) (hc1 : l1.length ≤ c1) (hr2 : Kd.C k38 w A2 l2.length l2) (hc2 : l2.length ≤ c2) (h : word_wrong.f a0 l1 l2 = some r) :
    Calls Tryd.prog 38 #[.int .i64 a0, .slice A1 l1.length c1, .slice A2 l2.length c2] w fun e w' => e = .returned (.int .i64 r) ∧ Below w.heap.size w w' := by
  have hu38 := Tryd.underlying38
  have hnot : ∀ (x : Bool) (w : World), (Op.unary .not (.bool x)).run Tryd.prog w = .ok (.bool (!x)) w := fun _ _ => rfl
  have hl1 : l1.length ≤ 9223372036854775807 := hr1.2.1
  have hl2 : l2.length ≤ 9223372036854775807 := hr2.2.1
  have HR := Aside0.mk (Option.some.inj h)
  have R1 := Aside0.mk hr1
  have R2 := Aside0.mk hr2
  clear h hr1 hr2
  by_cases g1 : inB a0 0 10000 = true
  case neg =>
    have g1 : inB a0 0 10000 = false := by simpa using g1
    have hr := HR.out
    rw [if_pos g1] at hr
    subst hr
    clear HR
    go_enter Tryd.func38, Tryd.ntmps38
    go_wp2_with (go_at_call 44; with_reducible refine (in_any a0 0 10000 _).mono ?_; rintro e w1 ⟨rfl, m, rfl⟩; simp only [g1])
    go_ret
    exact ⟨rfl, by repeat (first | exact Below.refl _ _ | apply pw_below_drewN)⟩
  by_cases g2 : inB l1.length 1 8 = true
  case neg =>
    have g2 : inB l1.length 1 8 = false := by simpa using g2
    have hr := HR.out
    rw [if_neg (by rw [g1]; decide), if_pos g2] at hr
    subst hr
    clear HR
    go_enter Tryd.func38, Tryd.ntmps38
    go_wp2_with (first | (go_at_call 44; with_reducible refine (in_any a0 0 10000 _).mono ?_; rintro e w1 ⟨rfl, m, rfl⟩; simp only [g1]) | (go_at_call 44; with_reducible refine (in_any l1.length 1 8 _).mono ?_; rintro e w1 ⟨rfl, m, rfl⟩; simp only [g2]))
    go_ret
    exact ⟨rfl, by repeat (first | exact Below.refl _ _ | apply pw_below_drewN)⟩
  have hr := HR.out
  rw [if_neg (by rw [g1]; decide), if_neg (by rw [g2]; decide)] at hr
  have HR := Aside0.mk hr
  have hlen : l1.length ≤ 8 := by unfold inB at g2; simp at g2; omega
  clear hr
  go_enter Tryd.func38, Tryd.ntmps38
  go_wp2_with (first | (go_at_call 44; with_reducible refine (in_any a0 0 10000 _).mono ?_; rintro e w1 ⟨rfl, m, rfl⟩; simp only [g1]) | (go_at_call 44; with_reducible refine (in_any l1.length 1 8 _).mono ?_; rintro e w1 ⟨rfl, m2, rfl⟩; simp only [g2]))
  clear g1 g2
  obtain ⟨wd, hwd⟩ : ∃ wd, w.drewN (m + m2) = wd := ⟨_, rfl⟩
  have hbd : Below w.heap.size w wd := by rw [← hwd]; exact below_drewN (Below.refl _ w) _
  rw [hwd]
  have BD := Aside0.mk hbd
  clear hwd hbd
  go_loopw [22] (fun v22 wr => ∃ i : Nat, v22 = .int .i64 i ∧ i ≤ l1.length ∧ Aside0 (loadsB (l1.drop i) = loadsB l1) ∧ Aside0 (Below w.heap.size w wr)) (fun v22 _ => l1.length - (intOf v22).toNat)
  case atStart => exact ⟨0, rfl, by omega, ⟨by simp⟩, BD⟩
  case round =>
    obtain ⟨i, rfl, hi, hL, hB⟩ := hrel
    by_cases hlt : i < l1.length
    · have hc : decide ((i : Int) < (l1.length : Int)) = true := decide_eq_true (by omega)
      obtain ⟨ad, e1, x0⟩ := Kd.at_int (Kd.C_below R1.out hB.out) (i : Int) (by omega) (by omega)
      cases e1
      rw [Int.toNat_natCast] at x0
      have hl := hL.out
      rw [rdi_drop l1 i hlt, loadsB] at hl
      obtain ⟨x, hx⟩ : ∃ x, rd l1 (i : Int) = x := ⟨_, rfl⟩
      rw [hx] at x0 hl
      have HL := Aside0.mk hl
      clear hl hL hx
      have i8 : i < 8 := by omega
      cases hb : inB x 0 10000 with
      | false =>
        have hl := HL.out
        rw [if_neg (by rw [hb]; decide)] at hl
        have hr := HR.out
        rw [if_pos hl.symm] at hr
        subst hr
        clear hl HL HR
        go_wp2_with (go_at_call 44; with_reducible refine (in_any x 0 10000 _).mono ?_; rintro e w1 ⟨rfl, m, rfl⟩; simp only [hb])
        go_ret
        exact ⟨rfl, below_drewN hB.out _⟩
      | true =>
        have hl := HL.out
        rw [if_pos hb] at hl
        have HL := Aside0.mk hl
        clear hl
        go_wp2_with (go_at_call 44; with_reducible refine (in_any x 0 10000 _).mono ?_; rintro e w1 ⟨rfl, m, rfl⟩; simp only [hb])
        go_roundw
        case rel => exact ⟨i + 1, by simp, by omega, HL, ⟨below_drewN hB.out _⟩⟩
        case measure => simp [intOf]; omega
    · have hil : i = l1.length := by omega
      have hc : decide ((i : Int) < (l1.length : Int)) = false := decide_eq_false (by omega)
      have hl := hL.out
      rw [List.drop_eq_nil_of_le (by omega), loadsB] at hl
      have hr := HR.out
      rw [if_neg (by rw [← hl]; decide)] at hr
      have HR2 := Aside0.mk hr
      clear hr hl hL HR hil
      by_cases hbig : l2.length > 2000
      · have hd : decide ((2000 : Int) < (l2.length : Int)) = true := decide_eq_true (by omega)
        have hr := HR2.out
        rw [if_pos hbig] at hr
        subst hr
        clear HR2
        go_wp2
        go_ret
        exact ⟨rfl, hB.out⟩
      · have hd : decide ((2000 : Int) < (l2.length : Int)) = false := decide_eq_false (by omega)
        have hr := HR2.out
        rw [if_neg hbig] at hr
        have HR := Aside0.mk hr
        clear hr HR2
        obtain ⟨wo, hwo⟩ : ∃ wo, wr = wo := ⟨_, rfl⟩
        rw [hwo] at hB ⊢
        clear hwo
        go_wp2_with fail
        go_loopw [35] (fun v35 wr => ∃ i : Nat, v35 = .int .i64 i ∧ i ≤ l2.length ∧ Aside0 (wrongG l1.length (l2.drop i) (prevO l2 i) = wrongG l1.length l2 none) ∧ Aside0 (Below w.heap.size w wr)) (fun v35 _ => l2.length - (intOf v35).toNat)
        case atStart => exact ⟨0, rfl, by omega, ⟨by simp [prevO]⟩, hB⟩
        case round =>
          obtain ⟨j, rfl, hj, hG, hBr⟩ := hrel
          by_cases hjl : j < l2.length
          · have hcj : decide ((j : Int) < (l2.length : Int)) = true := decide_eq_true (by omega)
            have j2 : j ≤ 2000 := by omega
            obtain ⟨ad, e1, x0, x1, x2, x3, x4, x5, x6⟩ := at_T38 (Kd.C_below R2.out hBr.out) (j : Int) (by omega) (by omega)
            cases e1
            rw [Int.toNat_natCast] at x0 x1 x2 x3 x4 x5 x6
            have hg := hG.out
            rw [rd38_drop l2 j hjl, wrongG, ← prevO_succ, HR.out] at hg
            have hpv : ∀ W, Below w.heap.size w W → ∀ q : Nat, j = q + 1 → W.cell? (ad.add (q * 7)) = some (.int .i64 (rd_T38 l2 (q : Int)).f0) := fun W hW q hq => by
              obtain ⟨ad', e2, y0, _⟩ := at_T38 (Kd.C_below R2.out hW) (q : Int) (by omega) (by omega)
              cases e2
              rwa [Int.toNat_natCast] at y0
            have HPV := Aside0.mk hpv
            obtain ⟨pv, hpvv⟩ : ∃ pv, prevO l2 j = pv := ⟨_, rfl⟩
            obtain ⟨e, he⟩ : ∃ e, rd_T38 l2 (j : Int) = e := ⟨_, rfl⟩
            rw [he] at x0 x1 x2 x3 x4 x5 x6 hg
            rw [hpvv] at hg
            have HG := Aside0.mk hg
            have HPP := Aside0.mk hpvv
            clear hg hG he hpv hpvv
            have hE : (wr.alloc (.cells #[.int .i64 e.f0, .int .i64 e.f1, .int .i64 e.f2, .string e.f3, .int .i64 e.f4, .int .i64 e.f5, .int .i64 e.f6] 38)).heap[wr.heap.size]? = some (.cells #[.int .i64 e.f0, .int .i64 e.f1, .int .i64 e.f2, .string e.f3, .int .i64 e.f4, .int .i64 e.f5, .int .i64 e.f6] 38 (0, 0)) := heap_alloc_new wr _
            have hBa : Below w.heap.size w (wr.alloc (.cells #[.int .i64 e.f0, .int .i64 e.f1, .int .i64 e.f2, .string e.f3, .int .i64 e.f4, .int .i64 e.f5, .int .i64 e.f6] 38)) := below_alloc hBr.out _
            have HE := Aside0.mk hE
            have HBa := Aside0.mk hBa
            clear hE hBa hBr
            go_wp2_with fail
            refine (in_any e.f0 0 1099511627776 _).mono ?_
            rintro en w1 ⟨rfl, m, rfl⟩
            obtain ⟨ge, hge⟩ : ∃ ge, wr.heap.size = ge := ⟨_, rfl⟩
            obtain ⟨wz, hwz⟩ : ∃ wz, (wr.alloc (.cells #[.int .i64 e.f0, .int .i64 e.f1, .int .i64 e.f2, .string e.f3, .int .i64 e.f4, .int .i64 e.f5, .int .i64 e.f6] 38)).drewN m = wz := ⟨_, rfl⟩
            have hze : wz.heap[ge]? = some (.cells #[.int .i64 e.f0, .int .i64 e.f1, .int .i64 e.f2, .string e.f3, .int .i64 e.f4, .int .i64 e.f5, .int .i64 e.f6] 38 (0, 0)) := by rw [← hwz, ← hge]; exact HE.out
            have hzb : Below w.heap.size w wz := by rw [← hwz]; exact below_drewN HBa.out _
            rw [hge, hwz]
            have y0 : wz.cell? ⟨ge, 0, none⟩ = some (.int .i64 e.f0) := (blk_cell hze 0).trans rfl
            have y1 : wz.cell? ⟨ge, 1, none⟩ = some (.int .i64 e.f1) := (blk_cell hze 1).trans rfl
            have y2 : wz.cell? ⟨ge, 2, none⟩ = some (.int .i64 e.f2) := (blk_cell hze 2).trans rfl
            have y3 : wz.cell? ⟨ge, 3, none⟩ = some (.string e.f3) := (blk_cell hze 3).trans rfl
            have y4 : wz.cell? ⟨ge, 4, none⟩ = some (.int .i64 e.f4) := (blk_cell hze 4).trans rfl
            have y5 : wz.cell? ⟨ge, 5, none⟩ = some (.int .i64 e.f5) := (blk_cell hze 5).trans rfl
            have y6 : wz.cell? ⟨ge, 6, none⟩ = some (.int .i64 e.f6) := (blk_cell hze 6).trans rfl
            have ZE := Aside0.mk hze
            have ZB := Aside0.mk hzb
            clear hge hwz hze hzb HE HBa x0 x1 x2 x3 x4 x5 x6
            cases ht : inB e.f0 0 1099511627776 with
            | false =>
              have hg := HG.out
              rw [entE_tick ht, if_neg (by decide)] at hg
              subst hg
              go_wp2
              go_ret
              exact ⟨rfl, ZB.out⟩
            | true =>
              have HTk := Aside0.mk ht
              clear ht
              by_cases hj0 : j = 0
              · subst hj0
                have hord : ordB e pv = false := by rw [← HPP.out]; rfl
                have HO := Aside0.mk hord
                have hd : decide ((0 : Int) < 0) = false := rfl
                clear hord
                go_wp2_with fail
                go_quiet (fail)
                -- REST0
                have hg := HG.out
                rw [entE_rest HTk.out (HO.out)] at hg
                have HG2 := Aside0.mk hg
                clear hg HG
                by_cases k1 : e.f1 = 1
                · have t1 : (e.f1 != 1) = false := by rw [bne_eq_false_iff_eq]; exact k1
                  have t2 : (e.f1 == 2) = false := by rw [beq_eq_false_iff_ne]; omega
                  have hg := HG2.out
                  rw [if_neg (show ¬ (e.f1 ≠ 1 ∧ e.f1 ≠ 2) by omega), if_neg (show ¬ (e.f1 = 2 ∧ validB e l1.length = false) from fun h => by omega), if_pos rfl] at hg
                  have HG3 := Aside0.mk hg
                  clear hg HG2 k1
                  go_wp2
                  go_roundw
                  case rel => exact ⟨0 + 1, by simp, by omega, ⟨HG3.out.trans HR.out.symm⟩, ⟨below_drewN ZB.out _⟩⟩
                  case measure => simp [intOf]; omega
                · have t1 : (e.f1 != 1) = true := by rw [bne_iff_ne]; exact k1
                  by_cases k2 : e.f1 = 2
                  · have t2 : (e.f1 != 2) = false := by rw [bne_eq_false_iff_eq]; exact k2
                    have t3 : (e.f1 == 2) = true := by rw [beq_iff_eq]; exact k2
                    have K2 := Aside0.mk k2
                    clear k1 k2
                    cases hv : validB e l1.length with
                    | true =>
                      have hg := HG2.out
                      rw [if_neg (show ¬ (e.f1 ≠ 1 ∧ e.f1 ≠ 2) from fun h => h.2 K2.out), if_neg (show ¬ (e.f1 = 2 ∧ validB e l1.length = false) from fun h => by rw [hv] at h; cases h.2), if_pos rfl] at hg
                      have HG3 := Aside0.mk hg
                      clear hg HG2
                      go_wp2_with (go_at_call 48; with_reducible refine (valid_any e l1.length _).mono ?_; rintro en w3 ⟨rfl, hb3⟩; simp only [hv]; have HB3 := Aside0.mk (below_step (below_drewN ZB.out _) hb3); clear hb3)
                      go_roundw
                      case rel => exact ⟨0 + 1, by simp, by omega, ⟨HG3.out.trans HR.out.symm⟩, HB3⟩
                      case measure => simp [intOf]; omega
                    | false =>
                      have hg := HG2.out
                      rw [if_neg (show ¬ (e.f1 ≠ 1 ∧ e.f1 ≠ 2) from fun h => h.2 K2.out), if_pos (show e.f1 = 2 ∧ validB e l1.length = false from ⟨K2.out, hv⟩), if_neg (by decide)] at hg
                      subst hg
                      clear HG2
                      go_wp2_with (go_at_call 48; with_reducible refine (valid_any e l1.length _).mono ?_; rintro en w3 ⟨rfl, hb3⟩; simp only [hv]; have HB3 := Aside0.mk (below_step (below_drewN ZB.out _) hb3); clear hb3)
                      go_ret
                      exact ⟨rfl, HB3.out⟩
                  · have t2 : (e.f1 != 2) = true := by rw [bne_iff_ne]; exact k2
                    have hg := HG2.out
                    rw [if_pos (show e.f1 ≠ 1 ∧ e.f1 ≠ 2 from ⟨k1, k2⟩), if_neg (by decide)] at hg
                    subst hg
                    clear HG2 k1 k2
                    go_wp2
                    go_ret
                    exact ⟨rfl, below_drewN ZB.out _⟩
                -- ENDREST0
              · obtain ⟨q, rfl⟩ : ∃ q, j = q + 1 := ⟨j - 1, by omega⟩
                have yq := HPV.out wz ZB.out q rfl
                obtain ⟨tq, htq⟩ : ∃ tq, (rd_T38 l2 (q : Int)).f0 = tq := ⟨_, rfl⟩
                have hpv2 : ordB e pv = decide (e.f0 < tq) := by rw [← HPP.out, prevO_succ, htq]; rfl
                rw [htq] at yq
                have hd : decide ((0 : Int) < (q : Int) + 1) = true := decide_eq_true (by omega)
                have px1 : (0 ≤ (q : Int)) = True := eq_true (by omega)
                have px2 : ((q : Int) < (l2.length : Int)) = True := eq_true (by omega)
                have pw : IntKind.i64.wrap (q : Int) = (q : Int) := IntWalk.i64_in _ (by omega)
                have HPV2 := Aside0.mk hpv2
                clear hpv2 htq
                by_cases ho : e.f0 < tq
                · have ho1 : decide (e.f0 < tq) = true := decide_eq_true ho
                  have hg := HG.out
                  rw [entE_order HTk.out (by rw [HPV2.out]; exact ho1), if_neg (by decide)] at hg
                  subst hg
                  clear HG HPV2 HPP HTk ho
                  go_wp2_with fail
                  go_quiet (fail)
                  go_wp2
                  go_ret
                  exact ⟨rfl, below_drewN ZB.out _⟩
                · have ho1 : decide (e.f0 < tq) = false := decide_eq_false ho
                  have HO := Aside0.mk (HPV2.out.trans ho1)
                  clear HPV2 HPP ho
                  go_wp2_with fail
                  go_quiet (fail)
                  -- RESTJ
                  have hg := HG.out
                  rw [entE_rest HTk.out (HO.out)] at hg
                  have HG2 := Aside0.mk hg
                  clear hg HG
                  by_cases k1 : e.f1 = 1
                  · have t1 : (e.f1 != 1) = false := by rw [bne_eq_false_iff_eq]; exact k1
                    have t2 : (e.f1 == 2) = false := by rw [beq_eq_false_iff_ne]; omega
                    have hg := HG2.out
                    rw [if_neg (show ¬ (e.f1 ≠ 1 ∧ e.f1 ≠ 2) by omega), if_neg (show ¬ (e.f1 = 2 ∧ validB e l1.length = false) from fun h => by omega), if_pos rfl] at hg
                    have HG3 := Aside0.mk hg
                    clear hg HG2 k1
                    go_wp2
                    go_roundw
                    case rel => exact ⟨(q + 1) + 1, by simp, by omega, ⟨HG3.out.trans HR.out.symm⟩, ⟨below_drewN ZB.out _⟩⟩
                    case measure => simp [intOf]; omega
                  · have t1 : (e.f1 != 1) = true := by rw [bne_iff_ne]; exact k1
                    by_cases k2 : e.f1 = 2
                    · have t2 : (e.f1 != 2) = false := by rw [bne_eq_false_iff_eq]; exact k2
                      have t3 : (e.f1 == 2) = true := by rw [beq_iff_eq]; exact k2
                      have K2 := Aside0.mk k2
                      clear k1 k2
                      cases hv : validB e l1.length with
                      | true =>
                        have hg := HG2.out
                        rw [if_neg (show ¬ (e.f1 ≠ 1 ∧ e.f1 ≠ 2) from fun h => h.2 K2.out), if_neg (show ¬ (e.f1 = 2 ∧ validB e l1.length = false) from fun h => by rw [hv] at h; cases h.2), if_pos rfl] at hg
                        have HG3 := Aside0.mk hg
                        clear hg HG2
                        go_wp2_with (go_at_call 48; with_reducible refine (valid_any e l1.length _).mono ?_; rintro en w3 ⟨rfl, hb3⟩; simp only [hv]; have HB3 := Aside0.mk (below_step (below_drewN ZB.out _) hb3); clear hb3)
                        go_roundw
                        case rel => exact ⟨(q + 1) + 1, by simp, by omega, ⟨HG3.out.trans HR.out.symm⟩, HB3⟩
                        case measure => simp [intOf]; omega
                      | false =>
                        have hg := HG2.out
                        rw [if_neg (show ¬ (e.f1 ≠ 1 ∧ e.f1 ≠ 2) from fun h => h.2 K2.out), if_pos (show e.f1 = 2 ∧ validB e l1.length = false from ⟨K2.out, hv⟩), if_neg (by decide)] at hg
                        subst hg
                        clear HG2
                        go_wp2_with (go_at_call 48; with_reducible refine (valid_any e l1.length _).mono ?_; rintro en w3 ⟨rfl, hb3⟩; simp only [hv]; have HB3 := Aside0.mk (below_step (below_drewN ZB.out _) hb3); clear hb3)
                        go_ret
                        exact ⟨rfl, HB3.out⟩
                    · have t2 : (e.f1 != 2) = true := by rw [bne_iff_ne]; exact k2
                      have hg := HG2.out
                      rw [if_pos (show e.f1 ≠ 1 ∧ e.f1 ≠ 2 from ⟨k1, k2⟩), if_neg (by decide)] at hg
                      subst hg
                      clear HG2 k1 k2
                      go_wp2
                      go_ret
                      exact ⟨rfl, below_drewN ZB.out _⟩
                  -- ENDRESTJ
          · have hcj : decide ((j : Int) < (l2.length : Int)) = false := decide_eq_false (by omega)
            have hg := hG.out
            rw [List.drop_eq_nil_of_le (by omega), wrongG, HR.out] at hg
            subst hg
            go_wp2
            go_ret
            exact ⟨rfl, hBr.out⟩

end Go.Proofs.YtbcmlgbhejcjbaaDoor.S
