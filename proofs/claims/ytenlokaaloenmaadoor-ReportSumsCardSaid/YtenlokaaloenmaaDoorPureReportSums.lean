/- The lengths of all spells add up to the lights, spells do not touch, none is longer than the longest one. -/
import Derived.Test.YtenlokaaloenmaaDoorM10
import Derived.Test.YtenlokaaloenmaaDoorAskReportSums
set_option linter.unusedVariables false
namespace Go.Proofs.YtenlokaaloenmaaDoor.Pure
open Go.RowKit Go.Proofs.YtenlokaaloenmaaDoor.S Go.Proofs.YtenlokaaloenmaaDoorW.PrintWords Go.Proofs.YtenlokaaloenmaaDoorW.PrintLast Go.Proofs.YtenlokaaloenmaaDoorW.PrintMore
set_option linter.unusedVariables false
set_option linter.unusedSimpArgs false

def sqL (l : List S41) (n : Nat) : List S57 := (spl l ((n / 2 : Nat) : Int) (((n % 2 : Nat) : Int) == 0)).map (·.1)
theorem spells_at {l : List S41} {c : Nat} {t0 : Int} (h : Md l c t0) {k : Nat} (hk : report_Check.f k l = some (0, 0)) (f : Int) (up : Bool) : report_Spells.f k l f up = if f < 0 ∨ 64 ≤ f then some ([], 2) else some ((spl l f up).map (·.1), 0) := by
  unfold report_Spells.f
  rw [hk, Option.bind_some, if_pos rfl]
  rfl
theorem spN_10 {l : List S41} {c : Nat} {t0 : Int} (h : Md l c t0) {k : Nat} (hk : report_Check.f k l = some (0, 0)) (n : Nat) (hn : n / 2 < 64) : spN k l n = sqL l n := by
  unfold spN sqL
  rw [spells_at h hk, if_neg (by omega)]
  rfl
theorem spN_len {l : List S41} {c : Nat} {t0 : Int} (h : Md l c t0) {k : Nat} (hk : report_Check.f k l = some (0, 0)) (n : Nat) : (spN k l n).length ≤ 1000 := by
  by_cases hn : n / 2 < 64
  · rw [spN_10 h hk n hn]
    unfold sqL
    have h1 := spl_len l ((n / 2 : Nat) : Int) (((n % 2 : Nat) : Int) == 0)
    have h2 := h.len
    rw [List.length_map]; omega
  · unfold spN
    rw [spells_at h hk, if_pos (by omega)]
    exact Nat.zero_le _

theorem sm_chain {l : List S41} (hl : l.length ≤ 40) {f : Int} {up : Bool} : ∀ {L : List S57} {lo : Nat}, Chain l f up lo L → ∀ y ∈ L, 1 ≤ y.f1 - y.f0 ∧ y.f1 - y.f0 ≤ 40
  | [], _, _, y, hy => by cases hy
  | x :: L, lo, ⟨a, b, h1, h2, h3, h4, h5, _, _, _, _, h10⟩, y, hy => by
    rcases List.mem_cons.1 hy with rfl | hy
    · rw [h4, h5]; omega
    · exact sm_chain hl h10 y hy
theorem sm_spl {l : List S41} {c : Nat} {t0 : Int} (h : Md l c t0) (f : Int) (up : Bool) : ((spl l f up).map (·.1)).length ≤ 41 ∧ ∀ y ∈ (spl l f up).map (·.1), 1 ≤ y.f1 - y.f0 ∧ y.f1 - y.f0 ≤ 40 := by
  have h1 := spl_len l f up
  have h2 := h.len
  exact ⟨by rw [List.length_map]; omega, sm_chain h2 (chain_spl h.ok f up)⟩
theorem sm_sq {l : List S41} {c : Nat} {t0 : Int} (h : Md l c t0) (n : Nat) : SmL (sqL l n) := by
  obtain ⟨h1, h2⟩ := sm_spl h ((n / 2 : Nat) : Int) (((n % 2 : Nat) : Int) == 0)
  exact ⟨h1, fun y hy => by have := h2 y hy; omega⟩

/-- The longest spell's length. -/
def lgM (l : List S41) : Int := szG ((fl 64 0).foldl (lgL l) ((0, false), 0, 0))
theorem flo_mem : ∀ f : Fin 5, ∀ up : Bool, ((⟨f.val, by omega⟩ : Fin 64), up) ∈ fl 64 0 := by decide +kernel
theorem lgM_le {l : List S41} (f : Nat) (hf : f < 5) (up : Bool) : ∀ y ∈ (spl l (f : Int) up).map (·.1), wrap64 (y.f1 - y.f0) ≤ lgM l := by
  have h := (lgL_fold l (fl 64 0) ((0, false), 0, 0)).2 _ (flo_mem ⟨f, hf⟩ up)
  exact h

theorem pcI_ten {l : List S41} {c : Nat} {t0 : Int} (h : Md l c t0) : ∀ (gs : List (Int × Bool)) (n s : Int) (x : X4), (∀ g ∈ gs, ∃ f : Nat, g.1 = f ∧ f < 5) → 0 ≤ n → 0 ≤ s → n + 41 * gs.length ≤ 90000 → s + 4100 * gs.length ≤ 90000000 → pcI (lgM l) n s x →
    pcI (lgM l) (n + (((gs.map fun g => ((spl l g.1 g.2).map (·.1)).length).sum : Nat) : Int)) (s + (gs.map fun g => szS ((spl l g.1 g.2).map (·.1))).sum) (gs.foldl (fun x g => (spl l g.1 g.2).foldl pcS x) x)
  | [], n, s, x, _, _, _, _, _, hI => by
    show pcI (lgM l) (n + ((0 : Nat) : Int)) (s + 0) x
    rw [show n + ((0 : Nat) : Int) = n by omega, Int.add_zero]; exact hI
  | g :: gs, n, s, x, hg, hn, hs, hn2, hs2, hI => by
    obtain ⟨f, hf, hf5⟩ := hg g (List.mem_cons_self ..)
    obtain ⟨m1, m2⟩ := sm_spl h g.1 g.2
    rw [List.length_map] at m1
    rw [List.length_cons] at hn2 hs2
    have hy : ∀ y ∈ spl l g.1 g.2, 0 ≤ y.1.f1 - y.1.f0 ∧ y.1.f1 - y.1.f0 ≤ 100 ∧ wrap64 (y.1.f1 - y.1.f0) ≤ lgM l := fun y hy => by
      have hm := m2 y.1 (List.mem_map_of_mem hy)
      have hw := lgM_le (l := l) f hf5 g.2 y.1 (by rw [← hf]; exact List.mem_map_of_mem hy)
      exact ⟨by omega, by omega, hw⟩
    have hI' := pcS_I (lgM l) (spl l g.1 g.2) n s x hy hn hs (by omega) (by omega) hI
    have hz : 0 ≤ szS ((spl l g.1 g.2).map (·.1)) ∧ szS ((spl l g.1 g.2).map (·.1)) ≤ 4100 := by
      have e := sz_spl h.ok g.1 g.2
      have e2 := cnO_sum l g l.length 0 rfl (Nat.zero_le _)
      have e3 : ∀ (d i : Nat), cnO l g.1 g.2 d i ≤ d := by
        intro d
        induction d with
        | zero => intro i; exact Nat.le_refl _
        | succ d ih =>
          intro i
          have := ih (i + 1)
          rw [cnO]
          by_cases hc : onAt l g.1 g.2 i = true
          · rw [if_pos hc]; omega
          · rw [if_neg hc]; omega
      have e4 := e3 l.length 0
      have e5 := h.len
      rw [e]; omega
    have ih := pcI_ten h gs (n + ((spl l g.1 g.2).length : Int)) (s + szS ((spl l g.1 g.2).map (·.1))) _ (fun y hy => hg y (List.mem_cons_of_mem _ hy)) (by omega) (by omega) (by omega) (by omega) hI'
    rw [List.foldl_cons, List.map_cons, List.map_cons, List.sum_cons, List.sum_cons, List.length_map, ← Int.add_assoc, show n + (((spl l g.1 g.2).length + (gs.map fun g => ((spl l g.1 g.2).map (·.1)).length).sum : Nat) : Int) = n + ((spl l g.1 g.2).length : Int) + (((gs.map fun g => ((spl l g.1 g.2).map (·.1)).length).sum : Nat) : Int) by omega]
    exact ih


theorem has_all (ch : List Int) (hl : ch.length ≤ 1000000) : ∀ L : List Int, (∀ x ∈ L, x ∈ ch) → ∃ K, ∀ k, K ≤ k → ∀ x ∈ L, tipstaffkit_Has.f k ch x = some true
  | [], _ => ⟨0, fun _ _ x hx => by cases hx⟩
  | y :: L, h => by
    obtain ⟨K1, h1⟩ := has_ev ch hl y (h y (List.mem_cons_self ..))
    obtain ⟨K2, h2⟩ := has_all ch hl L (fun x hx => h x (List.mem_cons_of_mem _ hx))
    refine ⟨K1 + K2, fun k hk x hx => ?_⟩
    rcases List.mem_cons.1 hx with rfl | hx
    · exact h1 k (by omega)
    · exact h2 k (by omega) x hx
theorem rng_sz (l : List S41) : ((List.range 10).map fun m => szS (sqL l m)) = ten.map fun g => szS ((spl l g.1 g.2).map (·.1)) := rfl
theorem rng_len (l : List S41) : ((List.range 10).map fun m => (sqL l m).length) = ten.map fun g => ((spl l g.1 g.2).map (·.1)).length := rfl
theorem ten_lt : ∀ g ∈ ten, ∃ f : Nat, g.1 = f ∧ f < 5 := by
  intro g hg
  simp only [ten, List.mem_cons, List.not_mem_nil, or_false] at hg
  rcases hg with rfl | rfl | rfl | rfl | rfl | rfl | rfl | rfl | rfl | rfl
  all_goals first | exact ⟨0, rfl, by decide⟩ | exact ⟨1, rfl, by decide⟩ | exact ⟨2, rfl, by decide⟩ | exact ⟨3, rfl, by decide⟩ | exact ⟨4, rfl, by decide⟩
theorem lit_sum : ∀ l : List S41, (l.map fun v => (litO v : Int)).sum = (((l.map fun v => litO v).sum : Nat) : Int)
  | [] => rfl
  | v :: l => by rw [List.map_cons, List.sum_cons, lit_sum l, List.map_cons, List.sum_cons]; omega

theorem sums_ok {l : List S41} {c : Nat} {t0 : Int} (h : Md l c t0) {k : Nat} (hk : report_Check.f k l = some (0, 0)) (hhas : ∀ x ∈ chgF l l.length 0 0 0, tipstaffkit_Has.f k (chgF l l.length 0 0 0) x = some true)
    (hsum : tipstafflaw43_sum.f k (l.map fun v => (litO v : Int)) = some (l.map fun v => (litO v : Int)).sum) :
    SumsOk k l (l.map fun v => (litO v : Int), 0) (lonF ((fl 64 0).foldl (lgL l) ((0, false), 0, 0))) (chgF l l.length 0 0 0, 0) (coN l 2 (pcX l), 0) := by
  have hl := h.len
  have e10 : ∀ m, m < 10 → spN k l m = sqL l m := fun m hm => spN_10 h hk m (by omega)
  have hsm : ∀ m, m < 10 → SmL (spN k l m) := fun m hm => by rw [e10 m hm]; exact sm_sq h m
  obtain ⟨tt1, _, _⟩ := TT_val (spN k l) hsm 10 (Nat.le_refl _)
  obtain ⟨mm1, _⟩ := MM_val (spN k l) hsm 10 (Nat.le_refl _)
  have r1 : ((List.range 10).map fun m => szS (spN k l m)) = (List.range 10).map fun m => szS (sqL l m) := List.map_congr_left fun m hm => by rw [e10 m (List.mem_range.1 hm)]
  have r2 : ((List.range 10).map fun m => (spN k l m).length) = (List.range 10).map fun m => (sqL l m).length := List.map_congr_left fun m hm => by rw [e10 m (List.mem_range.1 hm)]
  rw [r1, rng_sz, sz_ten h] at tt1
  rw [r2, rng_len] at mm1
  have hI := pcI_ten h ten 0 0 (0, 0, 0, 0) ten_lt (Int.le_refl _) (Int.le_refl _) (by decide) (by decide) ⟨rfl, Int.le_refl _, Int.le_refl _, Int.le_refl _, Int.le_refl _, by
    have h0 := (lgL_fold l (fl 64 0) ((0, false), 0, 0)).1
    have hz : szG ((0, false), 0, 0) = 0 := wrap_id _ (by decide) (by decide)
    rw [hz] at h0; exact h0⟩
  rw [← pcX_ten h, sz_ten h] at hI
  obtain ⟨i1, i2, i3, i4, i5, i6⟩ := hI
  have hc8 : Num8 (coN l 2 (pcX l)) := by have := coV_8 l 2; unfold Pure.coV at this; rw [h.chk, if_pos rfl, if_neg (by decide)] at this; exact this
  have hsumc := lit_sum l
  refine ⟨hl, h.wv, rfl, rfl, rfl, rfl, hc8, fun i j hi hj => ?_, spN_len h hk, fun m q hm hq => ?_, ?_, ?_, ?_, ?_, i6⟩
  · have e1 : (2 * i + j) / 2 = i := by omega
    have e2 : (2 * i + j) % 2 = j := by omega
    rw [e10 _ (by omega), spells_at h hk, if_neg (by omega)]
    unfold sqL
    rw [e1, e2]
  · rw [e10 m hm] at hq ⊢
    obtain ⟨a, b, _, g2, g3, g4, g5, g6, g7, g8, g9, g10⟩ := (chain_spl h.ok ((m / 2 : Nat) : Int) (((m % 2 : Nat) : Int) == 0)).get q hq
    have hn : 0 < l.length := by omega
    have b0 := tick_lo h.ok hn
    have hmem : rd_T57 (sqL l m) (q : Int) ∈ sqL l m := by
      have : rd_T57 (sqL l m) (q : Int) = (sqL l m)[q]'hq := by unfold rd_T57; simp [hq]
      rw [this]; exact List.getElem_mem hq
    have hle := lgM_le (l := l) (m / 2) (by omega) (((m % 2 : Nat) : Int) == 0) _ hmem
    have f0 : (rd_T57 (sqL l m) (q : Int)).f0 = (rd_T41 l 0).f0 + a := g4
    have f1 : (rd_T57 (sqL l m) (q : Int)).f1 = (rd_T41 l 0).f0 + b := g5
    have w1 : wrap64 ((rd_T57 (sqL l m) (q : Int)).f1 - (rd_T57 (sqL l m) (q : Int)).f0) = (b : Int) - a := by rw [f0, f1, wrap_id _ (by omega) (by omega)]; omega
    have w2 : wrap64 ((rd_T57 (sqL l m) (q : Int)).f0 - (rd_T41 l 0).f0) = a := by rw [f0, wrap_id _ (by omega) (by omega)]; omega
    have w3 : wrap64 ((rd_T57 (sqL l m) (q : Int)).f1 - (rd_T41 l 0).f0) = b := by rw [f1, wrap_id _ (by omega) (by omega)]; omega
    refine ⟨hn, ⟨by rw [w1]; omega, Int.not_lt.2 hle, fun h0 => Int.not_le.2 (g10 h0), ?_, fun hlt => ?_⟩⟩
    · rw [w2]; exact hhas _ (chg_begin l _ _ a (by omega) g6 g8)
    · rw [w3] at hlt ⊢
      exact hhas _ (chg_end l _ _ b (by omega) (by omega) g7 (g9.resolve_left (by omega)))
  · show tipstafflaw43_sum.f k _ = _
    rw [hsum, hsumc, tt1]
  · show (pcX l).1 = _
    rw [i1, mm1]; omega
  · show (pcX l).2.1 ≤ (pcX l).1
    omega
  · show (pcX l).2.2.1 ≤ _
    rw [tt1]; omega

open Classical in
theorem sums_rest {l : List S41} {c : Nat} {t0 : Int} (h : Md l c t0) : Ev (fun k => (report_Lights.f k l).bind fun li => (report_Longest.f k l).bind fun lo => (report_Changes.f k l).bind fun ch => (report_Count.f k l 2).bind fun n => if SumsOk k l li lo ch n then some true else none) true := by
  have hl := h.len
  have hc : (chk l).1 = 0 := by rw [h.chk]
  have el : litV l = (l.map fun v => (litO v : Int), 0) := if_pos hc
  have eo : lonV l = lonF ((fl 64 0).foldl (lgL l) ((0, false), 0, 0)) := if_pos hc
  have ea : chaV l = (chgF l l.length 0 0 0, 0) := if_pos hc
  have en : coV l 2 = (coN l 2 (pcX l), 0) := (if_pos hc).trans (if_neg (by decide))
  obtain ⟨K0, h0⟩ := (check_ev l h.wv).val h.chk
  obtain ⟨K1, h1⟩ := (lights_ev l h.wv).val el
  obtain ⟨K2, h2⟩ := (long_ev l h.wv).val eo
  obtain ⟨K3, h3⟩ := (changes_ev l h.wv).val ea
  obtain ⟨K4, h4⟩ := (count_ev l h.wv 2).val en
  obtain ⟨K5, h5⟩ := has_all (chgF l l.length 0 0 0) (by have := chgF_len l l.length 0 0 0; omega) _ (fun x hx => hx)
  obtain ⟨K6, h6⟩ := sum_ev (l.map fun v => (litO v : Int)) (fun x hx => by
    obtain ⟨v, _, rfl⟩ := List.mem_map.1 hx
    have := litO_le v
    omega) (by rw [List.length_map]; exact hl)
  refine ⟨K0 + K1 + K2 + K3 + K4 + K5 + K6, fun k hk => ?_⟩
  have g1 : report_Lights.f k l = _ := h1 k (by omega)
  have g2 : report_Longest.f k l = _ := h2 k (by omega)
  have g3 : report_Changes.f k l = _ := h3 k (by omega)
  have g4 : report_Count.f k l 2 = _ := h4 k (by omega)
  show (report_Lights.f k l).bind _ = _
  rw [g1, Option.bind_some, g2, Option.bind_some, g3, Option.bind_some, g4, Option.bind_some, if_pos (sums_ok h (h0 k (by omega)) (h5 k (by omega)) (h6 k (by omega)))]

open Classical in
theorem ReportSums : ReportSums.Stmt := by
  intro a0 a1 l2 w0 w1 w2 _
  obtain ⟨l, c, t0, h, he⟩ := made_ev a0 a1 l2 (i64_of w0) (i64_of w1) (fun z hz => i64_of (w2.2 z hz))
  have g := Ev.bind (f := fun l k => (report_Lights.f k l).bind fun li => (report_Longest.f k l).bind fun lo => (report_Changes.f k l).bind fun ch => (report_Count.f k l 2).bind fun n => if SumsOk k l li lo ch n then some true else none) he (u := true) (sums_rest h)
  exact g.get

end Go.Proofs.YtenlokaaloenmaaDoor.Pure
