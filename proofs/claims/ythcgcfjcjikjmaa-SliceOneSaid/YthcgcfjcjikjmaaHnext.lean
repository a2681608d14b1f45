/- slice.Next, walked: the next first tick of a slot of a car in a domain; its slots are kept as a set. -/
import Derived.Outline
import Derived.Test.YthcgcfjcjikjmaaMapBool
import Derived.Test.YthcgcfjcjikjmaaHcars
import Derived.Test.YthcgcfjcjikjmaaS1
import Derived.Test.YthcgcfjcjikjmaaS2
namespace Go.Proofs.Ythcgcfjcjikjmaa.S
open Go.RowKit Go.Maps Go.Proofs.YthcgcfjcjikjmaaW.PrintWords Go.Proofs.YthcgcfjcjikjmaaW.PrintLast Go.Proofs.YthcgcfjcjikjmaaW.PrintMore
set_option linter.unusedVariables false
set_option linter.unusedSimpArgs false

/-- From a slot on, the first whose place in the cycle is among some. -/
def nextGo (ks : List Int) (n0 : Int) : Nat → Int → Option Int
  | 0, _ => none
  | k + 1, s => if 0 ≤ s ∧ s ≤ 1125899906842624 then (if s % n0 ∈ ks then some s else nextGo ks n0 k (s + 1)) else none
theorem nextGo_mono (ks : List Int) (n0 : Int) : ∀ k s, LeO (nextGo ks n0 k s) (nextGo ks n0 (k + 1) s)
  | 0, _ => LeO.none _
  | k + 1, s => by
    rw [nextGo, nextGo]
    exact LeO.ite (LeO.ite (LeO.refl _) (nextGo_mono ks n0 k (s + 1))) (LeO.refl _)
def nextOk (l0 : List (List Int)) (a1 a4 : Int) : Prop := 1 ≤ a1 ∧ a1 ≤ 2000000 ∧ 0 ≤ a4 ∧ a4 ≤ 1099511627776 ∧ 0 < l0.length ∧ 0 < (rd_L1 l0 0).length
instance (l0 : List (List Int)) (a1 a4 : Int) : Decidable (nextOk l0 a1 a4) := by unfold nextOk; infer_instance
def keysOk (ks : List Int) : Prop := ks.length ≤ 1000000 ∧ ∀ x ∈ ks, 0 ≤ x ∧ x ≤ 1000000
instance (ks : List Int) : Decidable (keysOk ks) := by unfold keysOk; infer_instance
def slice_Next.f (k : Nat) (l0 : List (List Int)) (a1 a2 a3 a4 : Int) : Option (Int × Int) :=
  (slice_long.f a1).bind fun a => (slice_car.f l0 a2).bind fun b => (slice_domain.f a3).bind fun c => (slice_tick.f a4).bind fun e => (slice_valid.f k l0 [a, b, c, e]).bind fun v =>
    if v = 0 then (if nextOk l0 a1 a4 then (slice_slots.f l0 a2 a3).bind fun ks => if keysOk ks then (if ks.length = 0 then some (0, 6) else (nextGo ks (rd_L1 l0 0).length k ((a4 + a1 - 1) / a1)).map fun s => (wrap64 (s * a1), 0)) else none else none) else some (0, v)
theorem slice_Next.mono : ∀ l0 a1 a2 a3 a4 k, LeO (slice_Next.f k l0 a1 a2 a3 a4) (slice_Next.f (k + 1) l0 a1 a2 a3 a4) := fun l0 a1 a2 a3 a4 k =>
  LeO.bind (LeO.refl _) (fun _ => LeO.bind (LeO.refl _) (fun _ => LeO.bind (LeO.refl _) (fun _ => LeO.bind (LeO.refl _) (fun _ => LeO.bind (slice_valid.mono _ _ k) (fun _ =>
    LeO.ite (LeO.ite (LeO.bind (LeO.refl _) (fun _ => LeO.ite (LeO.ite (LeO.refl _) (LeO.map _ (nextGo_mono _ _ k _))) (LeO.refl _))) (LeO.refl _)) (LeO.refl _))))))

theorem law3 : Keyed Try.prog 3 := int_keyed Try.underlying3
theorem zero4 (w : World) : (zeroValue 4).run Try.prog w = .ok (.bool false) w := by kernel_rfl

set_option maxHeartbeats 4000000 in
set_option maxRecDepth 100000 in
theorem slice_Next.calls (k : Nat) (A0 : Option Addr) (c0 : Nat) (l0 : List (List Int)) (a1 : Int) (a2 : Int) (a3 : Int) (a4 : Int) (r1 : Int) (r2 : Int) (w : World) (hr0 : Kd.C (Kd.slice 3 (Kd.int .i64)) w A0 l0.length l0) (hc0 : l0.length ≤ c0) (h : slice_Next.f k l0 a1 a2 a3 a4 = some (r1, r2)) :
    Calls Try.prog 25 #[.slice A0 l0.length c0, .int .i64 a1, .int .i64 a2, .int .i64 a3, .int .i64 a4] w fun e w' => e = .returned (.tuple #[.int .i64 r1, .int .i64 r2]) ∧ Below w.heap.size w w' := by
  unfold slice_Next.f at h
  obtain ⟨a, ha, h⟩ := Option.bind_eq_some_iff.1 h
  obtain ⟨b, hb, h⟩ := Option.bind_eq_some_iff.1 h
  obtain ⟨c, hc, h⟩ := Option.bind_eq_some_iff.1 h
  obtain ⟨e, he, h⟩ := Option.bind_eq_some_iff.1 h
  obtain ⟨v, hv, h⟩ := Option.bind_eq_some_iff.1 h
  have Ha := Aside0.mk ha
  have Hb := Aside0.mk hb
  have Hc := Aside0.mk hc
  have He := Aside0.mk he
  have Hv := Aside0.mk hv
  have H := Aside0.mk h
  have HR0 := Aside0.mk hr0
  have hmm := @run_makeMap Try.prog
  clear ha hb hc he hv h hr0
  go_enter Try.func25, Try.ntmps25
  go_wp2_with fail
  refine (slice_long.calls a1 a _ Ha.out).mono ?_
  rintro e' w' ⟨rfl, m1, rfl⟩
  go_wp2_with fail
  refine (slice_car.calls A0 c0 l0 a2 b _ (Kd.C_drewN HR0.out _) hc0 Hb.out).mono ?_
  rintro e' w' ⟨rfl, m2, rfl⟩
  go_wp2_with fail
  refine (domain_any a3 c Hc.out _).mono ?_
  rintro e' w' ⟨rfl, m3, rfl⟩
  go_wp2_with fail
  refine (tick_any a4 e He.out _).mono ?_
  rintro e' w' ⟨rfl, m4, rfl⟩
  go_wp2_with fail
  refine (slice_valid.calls k A0 c0 l0 _ 4 [a, b, c, e] v _ (Kd.C_below HR0.out (by repeat (first | exact Below.refl _ _ | apply below_alloc | apply pw_below_drewN | apply below_drew1))) hc0 (C_bools4 _ _ _ _ _ _) (Nat.le_refl _) Hv.out).mono ?_
  rintro e' w' ⟨rfl, m5, rfl⟩
  obtain ⟨we, hwe⟩ : ∃ we, ((w.drewN (m1 + m2 + m3 + m4)).alloc (.cells #[.bool a, .bool b, .bool c, .bool e] 4)).drewN m5 = we := ⟨_, rfl⟩
  have hBe : Below w.heap.size w we := by rw [← hwe]; exact pw_below_drewN (below_alloc (pw_below_drewN (Below.refl _ _) _) _) _
  rw [hwe]
  have HBe := Aside0.mk hBe
  clear hwe hBe Ha Hb Hc He Hv
  by_cases hv0 : v = 0
  · have h := H.out
    rw [if_pos hv0] at h
    by_cases hok : nextOk l0 a1 a4
    · rw [if_pos hok] at h
      obtain ⟨ks, hks, h⟩ := Option.bind_eq_some_iff.1 h
      by_cases hko : keysOk ks
      · rw [if_pos hko] at h
        have n1 : (v != 0) = false := by rw [hv0]; rfl
        have HKS := Aside0.mk hks
        have HKO := Aside0.mk hko
        have HOK := Aside0.mk hok
        have H2 := Aside0.mk h
        clear hks hko hok h H hv0
        go_wp2_with fail
        have hBm := HBe.out.alloc HBe.out.size (.map #[] 0)
        refine (slice_slots.calls A0 c0 l0 a2 a3 ks _ (Kd.C_below HR0.out hBm) hc0 HKS.out).mono ?_
        rintro e' w1 ⟨v1, rfl, hR1, hb1⟩
        have hmap : w1.ownsMap Try.prog 3 (plainElem Try.prog 4) we.heap.size 0 (setL []) := by
          have h0 : (we.alloc (.map #[] 0)).ownsMap Try.prog 3 (plainElem (H := Unit) Try.prog 4) we.heap.size 0 (.map []) := World.ownsMap_made we _ _ _
          obtain ⟨es, clock, hh, hF, hs, hD⟩ := h0
          exact ⟨es, clock, (hb1.block _ (by simp)).trans hh, hF, hs, hD⟩
        have hB1 : Below w.heap.size w w1 := hBm.trans (hb1.mono hBm.size)
        obtain ⟨A1, c1, rfl, hl1, hC1⟩ := Kd.R_reads hR1
        have hR2 : Kd.R (Kd.int .i64) 3 w1 (we.heap.size + 1) (fun k => k ≠ we.heap.size) (.slice A1 ks.length c1) ks := by
          have := Kd.R_mono (ok' := fun k => k ≠ we.heap.size) (Kd.R_bound hR1) (fun k hk => by have := hk.2.1; simp at this; omega)
          simpa using this
        have HM := Aside0.mk hmap
        have HB1 := Aside0.mk hB1
        have HR2 := Aside0.mk hR2
        have hle := HBe.out.size
        clear hb1 hR1 hC1 hBm hmap hB1 hR2 hmm
        have hkl := HKO.out.1
        go_wp2_with fail
        go_loopw [15, 38] (fun v15 v38 wr => ∃ (j : Nat), v38 = .int .i64 j ∧ Aside0 (j ≤ ks.length) ∧ Aside0 (wr.ownsMap Try.prog 3 (plainElem Try.prog 4) we.heap.size j (setL (ks.take j))) ∧ Aside0 (Kd.R (Kd.int .i64) 3 wr (we.heap.size + 1) (fun k => k ≠ we.heap.size) (.slice A1 ks.length c1) ks) ∧ Aside0 (Below w.heap.size w wr)) (fun _ v38 _ => ks.length - (intOf v38).toNat)
        case atStart => exact ⟨0, rfl, ⟨by omega⟩, HM, HR2, HB1⟩
        case round =>
          obtain ⟨j, rfl, hj, hM, hR, hB⟩ := hrel
          by_cases hlt : j < ks.length
          · obtain ⟨x, hx⟩ : ∃ x, rd ks (j : Int) = x := ⟨_, rfl⟩
            have hxm : x ∈ ks := by rw [← hx, Pure.rd_nat ks j hlt]; exact List.getElem_mem _
            have hxr := HKO.out.2 x hxm
            obtain ⟨A2, c2, e2, _, hC⟩ := Kd.R_reads hR.out
            cases e2
            obtain ⟨ad, e3, hcx⟩ := Kd.at_int hC (j : Int) (by omega) (by omega)
            cases e3
            rw [Int.toNat_natCast, hx] at hcx
            have htk : ks.take (j + 1) = ks.take j ++ [x] := by
              rw [List.take_succ_eq_append_getElem hlt, ← hx, Pure.rd_nat ks j hlt]
            have HTK := Aside0.mk htk
            have hkey : keyOf Try.prog 3 (.int .i64 x) = some (.int .i64 x) := keyOf_int_mk Try.underlying3 (WalkArith.wf_i64 (by omega))
            have HKEY := Aside0.mk hkey
            clear hx hxm hC htk hkey
            go_wp2_with (at_mapUpdate; refine wpList_mapUpdate_own _ rfl _ _ _ 63 rfl 3 4 law3 Try.underlying63 _ we.heap.size j _ rfl hM.out (by unfold maxLen; omega) _ _ _ rfl rfl HKEY.out _ [] (plainElem_bool Try.underlying4 true) ?_; intro w2 hown2 hgrow2; have HM2 := Aside0.mk hown2; have HG2 := Aside0.mk hgrow2; clear hown2 hgrow2)
            go_roundw
            case rel => exact ⟨j + 1, by go_num, ⟨by omega⟩, ⟨by rw [HTK.out, setL_snoc]; exact HM2.out⟩, ⟨Kd.R_grown hR.out HG2.out (fun k hk => by simpa using hk)⟩, ⟨hB.out.grown HG2.out hB.out.size (fun k hk => by cases hk; exact hle)⟩⟩
            case measure => simp [intOf]; omega
          · obtain rfl : j = ks.length := by have := hj.out; omega
            have hMM := hM.out
            rw [List.take_length] at hMM
            have HMM := Aside0.mk hMM
            clear hMM hM
            have h2 := H2.out
            by_cases hz : ks.length = 0
            · rw [if_pos hz] at h2
              simp only [Option.some.injEq, Prod.mk.injEq] at h2
              obtain ⟨rfl, rfl⟩ := h2
              have hnil : ks = [] := List.eq_nil_of_length_eq_zero hz
              have hsz : ((Maps.size (setL ks) : Int) == 0) = true := by rw [hnil]; rfl
              have HZ := Aside0.mk hz
              clear hz hnil
              go_wp2_with (at_len; refine wpList_len_own _ rfl _ 63 rfl 3 4 Try.underlying63 _ we.heap.size ks.length _ rfl HMM.out ?_)
              go_ret2
              exact ⟨rfl, hB.out⟩
            · rw [if_neg hz] at h2
              obtain ⟨sr, hsr, h2⟩ := Option.map_eq_some_iff.1 h2
              simp only [Prod.mk.injEq] at h2
              obtain ⟨rfl, rfl⟩ := h2
              have hsz : ((Maps.size (setL ks) : Int) == 0) = false := setL_size (fun e => hz (by rw [e]; rfl))
              have HZ := Aside0.mk hz
              have HSR := Aside0.mk hsr
              obtain ⟨o1, o2, o3, o4, o5, o6⟩ := HOK.out
              have hz1 : (a1 == 0) = false := by rw [beq_eq_false_iff_ne]; omega
              obtain ⟨ad, A3, c3, e3, hc3, hl3, hC3⟩ := at_L1 (Kd.C_below HR0.out hB.out) 0 (by omega) (by omega)
              cases e3
              obtain ⟨l, hl⟩ : ∃ l, rd_L1 l0 0 = l := ⟨_, rfl⟩
              rw [hl] at hc3 hl3 hC3 o6 HSR
              rw [show (0 : Int).toNat = 0 from rfl] at hc3
              have hc3' : wr.cell? ad = some (.slice A3 l.length c3) := by simpa [Addr.add] using hc3
              have hlm := Kd.C_max hC3
              have o5' : (0 : Int) < (l0.length : Int) := by omega
              clear hz hsr hl hl3 hC3 hR hj hlt
              go_wp2_with (at_len; refine wpList_len_own _ rfl _ 63 rfl 3 4 Try.underlying63 _ we.heap.size ks.length _ rfl HMM.out ?_)
              have HHz := Aside0.mk hsz
              clear hsz
              obtain ⟨wq, hwq⟩ : ∃ wq : World, wq = wr := ⟨_, rfl⟩
              subst hwq
              go_loopg [16] k (fun g s16 wx => ∃ s : Int, s16 = .int .i64 s ∧ Aside0 (nextGo ks (l.length : Int) g s = some sr) ∧ wq = wx)
              case atStart => exact ⟨_, rfl, HSR, rfl⟩
              case round =>
                obtain ⟨s, rfl, hS, rfl⟩ := hrel
                cases gk with
                | zero => exact absurd hS.out (by simp [nextGo])
                | succ g =>
                  have h3 := hS.out
                  rw [nextGo] at h3
                  by_cases hr : 0 ≤ s ∧ s ≤ 1125899906842624
                  · rw [if_pos hr] at h3
                    obtain ⟨s0, s1⟩ := hr
                    have hln : ((l.length : Int) == 0) = false := by rw [beq_eq_false_iff_ne]; omega
                    have hm0 : 0 ≤ s % (l.length : Int) := Int.emod_nonneg _ (by omega)
                    have hm1 : s % (l.length : Int) < (l.length : Int) := Int.emod_lt_of_pos _ (by omega)
                    have hkey : keyOf Try.prog 3 (.int .i64 (s % (l.length : Int))) = some (.int .i64 (s % (l.length : Int))) := keyOf_int_mk Try.underlying3 (WalkArith.wf_i64 (by omega))
                    have HKEY := Aside0.mk hkey
                    have hat := setL_at (s % (l.length : Int)) ks.length ks rfl
                    have HAT := Aside0.mk hat
                    clear hkey hat
                    by_cases hin : s % (l.length : Int) ∈ ks
                    · rw [if_pos hin] at h3
                      have h4 : s = sr := Option.some.inj h3
                      subst h4
                      have hdec : decide (s % (l.length : Int) ∈ ks) = true := decide_eq_true hin
                      have HDEC := Aside0.mk hdec
                      clear hin hdec h3
                      go_wp2_with (at_lookup; refine wpList_lookup_own_bool _ rfl _ _ 63 rfl 3 4 law3 Try.underlying63 Try.underlying4 (zero4 _) we.heap.size ks.length _ rfl HMM.out _ _ rfl HKEY.out ?_; intro cc hcc; have ecc : cc = true := by { rw [HAT.out, HDEC.out] at hcc; simpa using hcc.symm }; subst ecc; clear hcc)
                      go_ret2
                      exact ⟨rfl, hB.out⟩
                    · rw [if_neg hin] at h3
                      have hdec : decide (s % (l.length : Int) ∈ ks) = false := decide_eq_false hin
                      have HDEC := Aside0.mk hdec
                      have H3 := Aside0.mk h3
                      clear hin hdec h3
                      go_wp2_with (at_lookup; refine wpList_lookup_own_bool _ rfl _ _ 63 rfl 3 4 law3 Try.underlying63 Try.underlying4 (zero4 _) we.heap.size ks.length _ rfl HMM.out _ _ rfl HKEY.out ?_; intro cc hcc; have ecc : cc = false := by { rw [HAT.out, HDEC.out] at hcc; simpa using hcc.symm }; subst ecc; clear hcc)
                      go_roundg g
                      case measure => omega
                      case rel => exact ⟨s + 1, by rfl, H3, rfl⟩
                  · rw [if_neg hr] at h3; cases h3
      · rw [if_neg hko] at h; cases h
    · rw [if_neg hok] at h; cases h
  · have h := H.out
    rw [if_neg hv0] at h
    simp only [Option.some.injEq, Prod.mk.injEq] at h
    obtain ⟨rfl, rfl⟩ := h
    have n1 : (v != 0) = true := bne_iff_ne.2 hv0
    have HV0 := Aside0.mk hv0
    clear hv0
    go_wp2
    go_ret2
    exact ⟨rfl, HBe.out⟩

end Go.Proofs.Ythcgcfjcjikjmaa.S
