/- limit.Counts, walked: a map counts the causes. -/
import Derived.Maps.OwnOps
import Derived.Maps.Views
import Derived.Test.YtlpdoieokgeikaaHcauses
import Derived.Test.YtlpdoieokgeikaaS3
namespace Go.Proofs.Ytlpdoieokgeikaa.S
open Go.RowKit Go.Proofs.YtlpdoieokgeikaaW.PrintWords Go.Proofs.YtlpdoieokgeikaaW.PrintLast Go.Proofs.YtlpdoieokgeikaaW.PrintMore Go.Shelf Go.Maps
set_option linter.unusedVariables false
set_option linter.unusedSimpArgs false

/-- One more for a cause; for each of some causes; for each cause of each tick. -/
def incF (F : Int → Int) (c : Int) : Int → Int := fun x => if x = c then wrap64 (F x + 1) else F x
def addsF : List Int → (Int → Int) → Int → Int
  | [], F => F
  | c :: cs, F => addsF cs (incF F c)
def cntsF (h spd : Int) : List S38 → (Int → Int) → Int → Int
  | [], F => F
  | m :: ms, F => cntsF h spd ms (addsF (causesL m.f0 m.f1 m.f2 m.f3 m.f4 h spd 5) F)
def outL (F : Int → Int) : Nat → List Int
  | 0 => []
  | i + 1 => outL F i ++ [F ((i : Int) + 1)]
def limit_Counts.f (k : Nat) (l0 : List S38) (a1 a2 : Int) : Option (List Int × Int) :=
  (limit_checked.f k l0 a1 a2).bind fun e => if e = 0 then (if l0.length ≤ 1000000 then some (outL (cntsF a1 a2 l0 (fun _ => 0)) 5, 0) else none) else some ([], e)
theorem limit_Counts.mono : ∀ l0 a1 a2 k, LeO (limit_Counts.f k l0 a1 a2) (limit_Counts.f (k + 1) l0 a1 a2) := fun l0 a1 a2 k =>
  LeO.bind (limit_checked.mono l0 a1 a2 k) (fun _ => LeO.refl _)

theorem law3 : Keyed Try.prog 3 := int_keyed Try.underlying3
theorem zero3 (w : World) : (zeroValue 3).run Try.prog w = .ok (.int .i64 0) w := by kernel_rfl

/-- The map of block B counts as F says. -/
structure CM (w : World) (B n : Nat) (F : Int → Int) : Prop where
  lt : B < w.heap.size
  ex : ∃ D : DataW Unit, w.ownsMap Try.prog 3 (plainElem Try.prog 3) B n D ∧ ∀ c, D.atKey (.int .i64 c) (.lit (.int .i64 0)) = .lit (.int .i64 (F c))

theorem lit_inj {a b : Int} (h : (DataW.lit (.int .i64 a) : DataW Unit) = .lit (.int .i64 b)) : a = b := by
  injection h with h
  injection h

theorem CM.block {w w' : World} {B n : Nat} {F : Int → Int} (h : CM w B n F) (hb : w'.heap[B]? = w.heap[B]?) (hs : w.heap.size ≤ w'.heap.size) : CM w' B n F := by
  obtain ⟨lt, D, ⟨es, clock, h1, h2, h3, h4⟩, h5⟩ := h
  exact ⟨by omega, D, ⟨es, clock, hb.trans h1, h2, h3, h4⟩, h5⟩
theorem CM.below {w w' : World} {B n : Nat} {F : Int → Int} (h : CM w B n F) (hb : Below w.heap.size w w') : CM w' B n F := h.block (hb.block B h.lt) hb.size
theorem CM.alloc {w : World} {B n : Nat} {F : Int → Int} (h : CM w B n F) (o : Obj) : CM (w.alloc o) B n F := h.block (Below.heap_alloc w o B h.lt) (by simp)
theorem CM.made (w : World) : CM (w.alloc (.map #[] 0)) w.heap.size 0 (fun _ => 0) := ⟨by simp, .map [], World.ownsMap_made _ _ _ _, fun c => rfl⟩

theorem CM.inc {w' : World} {B n : Nat} {F : Int → Int} {D : DataW Unit} {c : Int} (hk : WideAt.IsKeyLit (.int .i64 c)) (hD : IsMap D) (hF : ∀ c, D.atKey (.int .i64 c) (.lit (.int .i64 0)) = .lit (.int .i64 (F c))) (hl : B < w'.heap.size)
    (h : w'.ownsMap Try.prog 3 (plainElem Try.prog 3) B (n + 1) (D.put (.int .i64 c) (.lit (.int .i64 (wrap64 (F c + 1)))))) : CM w' B (n + 1) (incF F c) := by
  refine ⟨hl, _, h, fun x => ?_⟩
  unfold incF
  by_cases hx : x = c
  · subst hx
    rw [if_pos rfl, atKey_put_same hD hk]
  · rw [if_neg hx, atKey_put_other (fun e => hx (by injection e))]
    exact hF x

theorem addsF_snoc : ∀ (cs : List Int) (c : Int) (F : Int → Int), addsF (cs ++ [c]) F = incF (addsF cs F) c
  | [], c, F => rfl
  | d :: cs, c, F => by rw [List.cons_append, addsF, addsF]; exact addsF_snoc cs c _
theorem rd_drop (l : List Int) (i : Nat) (h : i < l.length) : l.drop i = rd l (i : Int) :: l.drop (i + 1) := by
  unfold rd; simp [h]
theorem causes_mem (p s : Int) (m b : Bool) (pn h spd : Int) : ∀ n, ∀ c ∈ causesL p s m b pn h spd n, 1 ≤ c ∧ c ≤ n
  | 0, c, hc => by simp [causesL] at hc
  | n + 1, c, hc => by
    rw [causesL, List.mem_append] at hc
    rcases hc with hc | hc
    · have := causes_mem p s m b pn h spd n c hc; omega
    · split at hc
      · simp at hc; omega
      · simp at hc
theorem outL_len (F : Int → Int) : ∀ i, (outL F i).length = i
  | 0 => rfl
  | i + 1 => by rw [outL, List.length_append, outL_len F i]; rfl

set_option maxHeartbeats 4000000 in
set_option maxRecDepth 100000 in
theorem limit_Counts.calls (k : Nat) (A0 : Option Addr) (c0 : Nat) (l0 : List S38) (a1 : Int) (a2 : Int) (r1 : List Int) (r2 : Int) (w : World) (hr0 : Kd.C k38 w A0 l0.length l0) (hc0 : l0.length ≤ c0) (h : limit_Counts.f k l0 a1 a2 = some (r1, r2)) :
    Calls Try.prog 15 #[.slice A0 l0.length c0, .int .i64 a1, .int .i64 a2] w fun e w' => ∃ v0_ : Value, e = .returned (.tuple #[v0_, .int .i64 r2]) ∧ Kd.R (Kd.int .i64) 3 w' w.heap.size (fun _ => True) v0_ r1 ∧ Below w.heap.size w w' := by
  have hmm := @run_makeMap Try.prog
  have hu38 := Try.underlying38
  have HC := Aside0.mk hr0
  have Hc := Aside0.mk hc0
  obtain ⟨er, he, h⟩ := Option.bind_eq_some_iff.1 h
  have HE := Aside0.mk he
  have H := Aside0.mk h
  clear hr0 hc0 he h
  go_enter Try.func15, Try.ntmps15
  go_wp2_with fail
  refine (limit_checked.calls k A0 c0 l0 a1 a2 er _ HC.out Hc.out HE.out).mono ?_
  rintro e w1 ⟨rfl, hb⟩
  have HB1 := Aside0.mk hb
  clear hb
  by_cases e0 : er = 0
  · have h := H.out
    rw [if_pos e0] at h
    by_cases hl : l0.length ≤ 1000000
    · rw [if_pos hl] at h
      obtain ⟨rfl, rfl⟩ := Prod.mk.inj (Option.some.inj h)
      clear h H
      have n0 : (er != 0) = false := by rw [bne_eq_false_iff_eq]; exact e0
      go_wp2_with fail
      obtain ⟨wm, hwm⟩ : ∃ wm, w1.alloc (.map #[] 0) = wm := ⟨_, rfl⟩
      have hcm : CM wm w1.heap.size 0 (fun _ => 0) := by rw [← hwm]; exact CM.made w1
      have hbm : Below w1.heap.size w1 wm := by rw [← hwm]; exact below_alloc (Below.refl _ w1) _
      rw [hwm]
      have CM0 := Aside0.mk hcm
      have BM0 := Aside0.mk hbm
      clear hwm hcm hbm
      obtain ⟨B, hB⟩ : ∃ B, w1.heap.size = B := ⟨_, rfl⟩
      rw [hB] at CM0 BM0 ⊢
      have HBB := Aside0.mk hB
      clear hB
      go_loopw [26] (fun v26 wr => ∃ (i n : Nat) (F : Int → Int), v26 = .int .i64 i ∧ i ≤ l0.length ∧ Aside0 (n = 5 * i) ∧ Aside0 (CM wr B n F) ∧ Aside0 (cntsF a1 a2 (l0.drop i) F = cntsF a1 a2 l0 (fun _ => 0)) ∧ Aside0 (Below B w1 wr)) (fun v26 _ => l0.length - (intOf v26).toNat)
      case atStart => exact ⟨0, 0, _, rfl, by omega, ⟨rfl⟩, CM0, ⟨by simp⟩, BM0⟩
      case round =>
        obtain ⟨i, n, F, rfl, hi, hn, hC, hF, hBr⟩ := hrel
        by_cases hlt : i < l0.length
        · have hc : decide ((i : Int) < (l0.length : Int)) = true := decide_eq_true (by omega)
          have hBw : Below w.heap.size w wr := HB1.out.trans (hBr.out.mono (by have := HBB.out; have := HB1.out.size; omega))
          obtain ⟨ad, e1, x0, x1, x2, x3, x4⟩ := at_T38 (Kd.C_below HC.out hBw) (i : Int) (by omega) (by omega)
          cases e1
          rw [Int.toNat_natCast] at x0 x1 x2 x3 x4
          have hf := hF.out
          rw [show l0.drop i = rd_T38 l0 (i : Int) :: l0.drop (i + 1) by unfold rd_T38; simp [hlt], cntsF] at hf
          obtain ⟨p, hp⟩ : ∃ p, rd_T38 l0 (i : Int) = p := ⟨_, rfl⟩
          rw [hp] at x0 x1 x2 x3 x4 hf
          have HF := Aside0.mk hf
          clear hp hf hF hBw
          go_wp2_with fail
          refine (limit_causes.calls p.f0 p.f1 p.f2 p.f3 p.f4 a1 a2 _ _ rfl).mono ?_
          rintro e w2 ⟨vc, rfl, hR, hb2⟩
          have CM2 := Aside0.mk ((hC.out.alloc (.cells #[.int .i64 p.f0, .int .i64 p.f1, .bool p.f2, .bool p.f3, .int .i64 p.f4] 38)).below hb2)
          have B2 : Aside0 (Below B w1 w2) := ⟨(hBr.out.alloc (by have := hC.out.lt; omega) _).trans (hb2.mono (by have := hC.out.lt; rw [World.size_alloc]; omega))⟩
          have hRl := Kd.R_lower hR (show B + 1 ≤ (wr.alloc (.cells #[.int .i64 p.f0, .int .i64 p.f1, .bool p.f2, .bool p.f3, .int .i64 p.f4] 38)).heap.size by have := hC.out.lt; rw [World.size_alloc]; omega)
          obtain ⟨cs, hcs⟩ : ∃ cs, causesL p.f0 p.f1 p.f2 p.f3 p.f4 a1 a2 5 = cs := ⟨_, rfl⟩
          have hmem := causes_mem p.f0 p.f1 p.f2 p.f3 p.f4 a1 a2 5
          have hln := causesL_len p.f0 p.f1 p.f2 p.f3 p.f4 a1 a2 5
          rw [hcs] at hRl HF hmem hln
          obtain ⟨Ac, cc, ev⟩ := Kd.R_slice hRl
          subst ev
          have R2 := Aside0.mk hRl
          have MEM := Aside0.mk hmem
          have LN := Aside0.mk hln
          clear hRl hR hb2 hmem hln hC hBr x0 x1 x2 x3 x4 hcs
          go_wp2_with fail
          go_loopw [35] (fun v35 wi => ∃ (j m : Nat) (G : Int → Int), v35 = .int .i64 j ∧ j ≤ cs.length ∧ Aside0 (m = 5 * i + j) ∧ Aside0 (CM wi B m G) ∧ Aside0 (addsF (cs.drop j) G = addsF cs F) ∧ Aside0 (Kd.R (Kd.int .i64) 3 wi (B + 1) (fun _ => True) (.slice Ac cs.length cc) cs) ∧ Aside0 (Below B w1 wi)) (fun v35 _ => cs.length - (intOf v35).toNat)
          case atStart => exact ⟨0, n, F, rfl, by omega, ⟨by have := hn.out; omega⟩, CM2, ⟨by simp⟩, R2, B2⟩
          case round =>
            obtain ⟨j, m, G, rfl, hj, hm, hG, hA, hR, hBi⟩ := hrel
            by_cases hjl : j < cs.length
            · have hcj : decide ((j : Int) < (cs.length : Int)) = true := decide_eq_true (by omega)
              have hj10 : j < 10 := by have := LN.out; omega
              obtain ⟨ad', e2, y0⟩ := Kd.at_int (Kd.R_reads' hR.out).2.2 (j : Int) (by omega) (by omega)
              rw [Int.toNat_natCast] at y0
              cases e2
              have ha := hA.out
              rw [rd_drop cs j hjl, addsF] at ha
              obtain ⟨x, hx⟩ : ∃ x, rd cs (j : Int) = x := ⟨_, rfl⟩
              have hxm : x ∈ cs := by rw [← hx]; unfold rd; simp [hjl]
              have hx5 := MEM.out x hxm
              rw [hx] at y0 ha
              have HA := Aside0.mk ha
              have hkey : keyOf Try.prog 3 (.int .i64 x) = some (.int .i64 x) := keyOf_int_mk Try.underlying3 (WalkArith.wf_i64 (by omega))
              obtain ⟨ltB, D, hown, hat⟩ := hG.out
              have HAT := Aside0.mk hat
              clear hA ha hat hx hG hxm hx5
              go_wp2_with (first
                | (at_lookup; refine wpList_lookup_own_int _ rfl _ _ 54 rfl 3 3 .i64 law3 Try.underlying54 Try.underlying3 (zero3 _) B m _ rfl hown _ _ rfl hkey ?_; intro c hatc hwc)
                | (at_mapUpdate; refine wpList_mapUpdate_own _ rfl _ _ _ 54 rfl 3 3 law3 Try.underlying54 _ B m _ rfl hown (by unfold maxLen; have := hm.out; have := LN.out; omega) _ _ _ rfl rfl hkey _ [] (plainElem_int Try.underlying3 (wrap64_wf _)) ?_; intro w3 hown1 hgrow1))
              go_roundw
              case rel =>
                have hcx : c = G x := lit_inj (hatc.symm.trans (HAT.out x))
                subst hcx
                have hDm : IsMap D := by obtain ⟨es, clock, _, _, _, hD⟩ := hown; exact ⟨_, hD⟩
                exact ⟨j + 1, m + 1, _, by simp, by omega, ⟨by have := hm.out; omega⟩, ⟨CM.inc trivial hDm HAT.out (Nat.lt_of_lt_of_le ltB hgrow1.size) hown1⟩, HA,
                  ⟨Kd.R_grown1 hR.out rfl hgrow1 (fun e => by have hb := (Kd.R_bound hR.out).1 B e.symm; omega)⟩, ⟨(hBi.out).grown hgrow1 (Nat.le_of_lt ltB) (fun j hj => by cases hj; exact Nat.le_refl _)⟩⟩
              case measure => simp [intOf]; omega
            · have hcj : decide ((j : Int) < (cs.length : Int)) = false := decide_eq_false (by omega)
              have hA2 := hA.out
              rw [List.drop_eq_nil_of_le (by omega), addsF] at hA2
              have hF2 := HF.out
              rw [← hA2] at hF2
              have HF2 := Aside0.mk hF2
              clear hA2 hF2
              go_wp2
              go_roundw
              case rel =>
                obtain ⟨ltB, D, hown, hat⟩ := hG.out
                exact ⟨i + 1, 5 * (i + 1), G, by simp, by omega, ⟨rfl⟩, ⟨ltB, D, hown.mono (by have := hm.out; have := LN.out; omega), hat⟩, HF2, hBi⟩
              case measure => simp [intOf]; omega
        · have hc : decide ((i : Int) < (l0.length : Int)) = false := decide_eq_false (by omega)
          have hF2 := hF.out
          rw [List.drop_eq_nil_of_le (by omega), cntsF] at hF2
          have HF2 := Aside0.mk hF2
          clear hF2
          obtain ⟨wo, hwo⟩ : ∃ wo, wr = wo := ⟨_, rfl⟩
          rw [hwo] at hC hBr ⊢
          clear hwo
          go_wp2_with fail
          go_loopw [14, 15] (fun v14 v15 wi => ∃ c : Nat, v15 = .int .i64 ((c : Int) + 1) ∧ c ≤ 5 ∧ Aside0 (CM wi B n F) ∧ Aside0 (Kd.R (Kd.int .i64) 3 wi (B + 1) (fun _ => True) v14 (outL F c)) ∧ Aside0 (Below B w1 wi)) (fun _ v15 _ => 6 - (intOf v15).toNat)
          case atStart => exact ⟨0, rfl, by omega, hC, ⟨Kd.R_nil _ _ _ _ _⟩, hBr⟩
          case round =>
            obtain ⟨c, rfl, hc5, hCi, hR, hBi⟩ := hrel
            by_cases hcl : c < 5
            · have hcc : decide ((c : Int) + 1 < 6) = true := decide_eq_true (by omega)
              have hkey : keyOf Try.prog 3 (.int .i64 ((c : Int) + 1)) = some (.int .i64 ((c : Int) + 1)) := keyOf_int_mk Try.underlying3 (WalkArith.wf_i64 (by omega))
              obtain ⟨ltB, D, hown, hat⟩ := hCi.out
              have HAT := Aside0.mk hat
              clear hat
              have ll := outL_len F c
              go_wp2_with (first
                | (at_lookup; refine wpList_lookup_own_int _ rfl _ _ 54 rfl 3 3 .i64 law3 Try.underlying54 Try.underlying3 (zero3 _) B n _ rfl hown _ _ rfl hkey ?_; intro x hatc hwc)
                | (at_builtin; refine Kd.R_append (Kd.int .i64) (w0 := wr) (B + 1) rfl (.tmp 49) (.tmp 53) 31 3 (.int .i64 0) 8 rfl Try.underlying31 info3 rfl (by decide) (by omega) u14 (outL F c) x [.int .i64 x] (fun _ => True) (fun _ => False) rfl rfl rfl (fun _ hk => hk.elim) (fun _ _ => trivial) hR.out (Below.refl _ _) (by omega) (by omega) ?_; intro v1 w3 ho hb3 _ _; have R3 := Aside0.mk ho; have B3 := Aside0.mk hb3; clear ho hb3))
              go_roundw
              case rel =>
                have hcx : x = F ((c : Int) + 1) := lit_inj (hatc.symm.trans (HAT.out ((c : Int) + 1)))
                have hr3 := R3.out
                rw [hcx] at hr3
                exact ⟨c + 1, by simp, by omega, ⟨hCi.out.block (B3.out.block B (by omega)) B3.out.size⟩, ⟨by rw [outL]; exact hr3⟩, ⟨hBi.out.trans (B3.out.mono (by omega))⟩⟩
              case measure => simp [intOf]; omega
            · obtain rfl : c = 5 := by omega
              go_wp2
              go_ret2
              exact ⟨_, rfl, by rw [← HF2.out]; exact Kd.R_lower hR.out (by have := HBB.out; have := HB1.out.size; omega), HB1.out.trans (hBi.out.mono (by have := HBB.out; have := HB1.out.size; omega))⟩
    · rw [if_neg hl] at h; cases h
  · have h := H.out
    rw [if_neg e0] at h
    obtain ⟨rfl, rfl⟩ := Prod.mk.inj (Option.some.inj h)
    clear h H
    have n0 : (er != 0) = true := by rw [bne_iff_ne]; exact e0
    go_wp2
    go_ret2
    exact ⟨_, rfl, Kd.R_nil _ _ _ _ _, HB1.out⟩

end Go.Proofs.Ytlpdoieokgeikaa.S
