/- The numbers of a run: the reference's are the program's. -/
import Derived.Test.YtenlokaaloenmaaDoorM4
import Derived.Test.YtenlokaaloenmaaDoorRp6
import Derived.Test.YtenlokaaloenmaaDoorHrcount
import Derived.Test.YtenlokaaloenmaaDoorHawake
set_option linter.unusedVariables false
namespace Go.Proofs.YtenlokaaloenmaaDoor.Pure
open Go.RowKit Go.Proofs.YtenlokaaloenmaaDoor.S Go.Proofs.YtenlokaaloenmaaDoorW.PrintWords Go.Proofs.YtenlokaaloenmaaDoorW.PrintLast Go.Proofs.YtenlokaaloenmaaDoorW.PrintMore
set_option linter.unusedVariables false
set_option linter.unusedSimpArgs false

theorem cnt_len (w : Int) (m : Nat) : ∀ (l : List S41) (st : List Int × R3), len3 st.2 m → len3 (cntV w l st).2 m
  | [], _, h => h
  | v :: l, st, h => cnt_len w m l (vwF w st v) (sgL_len w v.f2 0 h)

def cars (l : List S41) : Nat := if 0 < l.length then (rd_T41 l 0).f2.length else 0
def coN (l : List S41) (wd : Int) (x : X4) : Num := numOf (cntV wd l (zer6, List.replicate (cars l) 0, List.replicate (cars l) 0, List.replicate (cars l) 0)) x
theorem coN_len (l : List S41) (wd : Int) (x : X4) : (coN l wd x).a.length = cars l ∧ (coN l wd x).b.length = cars l ∧ (coN l wd x).c.length = cars l :=
  cnt_len wd (cars l) l (zer6, List.replicate (cars l) 0, List.replicate (cars l) 0, List.replicate (cars l) 0) ⟨List.length_replicate, List.length_replicate, List.length_replicate⟩
theorem cars_8 {l : List S41} (ok : OkL l) : cars l ≤ 8 := by
  unfold cars
  by_cases h : 0 < l.length
  · rw [if_pos h]; exact (ok.v _ (memV l 0 h)).m8
  · rw [if_neg h]; exact Nat.zero_le _
def pcX (l : List S41) : X4 := (fl 64 0).foldl (pcL l) (0, 0, 0, 0)
def coV (l : List S41) (wd : Int) : Num × Int := if (chk l).1 = 0 then (if wd < 1 ∨ 20 < wd then (num0, 2) else (coN l wd (pcX l), 0)) else (num0, (chk l).1)
theorem coV_8 (l : List S41) (wd : Int) : Num8 (coV l wd).1 := by
  unfold coV
  by_cases h0 : (chk l).1 = 0
  · have ok : OkL l := chk_ok (x := (chk l).2) (by rw [← h0])
    rw [if_pos h0]
    by_cases h1 : wd < 1 ∨ 20 < wd
    · rw [if_pos h1]; exact ⟨Nat.zero_le _, Nat.zero_le _, Nat.zero_le _⟩
    · rw [if_neg h1]
      obtain ⟨a, b, c⟩ := coN_len l wd (pcX l)
      have := cars_8 ok
      exact ⟨by show (coN l wd (pcX l)).a.length ≤ 8; omega, by show (coN l wd (pcX l)).b.length ≤ 8; omega, by show (coN l wd (pcX l)).c.length ≤ 8; omega⟩
  · rw [if_neg h0]; exact ⟨Nat.zero_le _, Nat.zero_le _, Nat.zero_le _⟩

theorem count_ev (l : List S41) (hw : ∀ v ∈ l, WV v) (wd : Int) : Ev (fun k => report_Count.f k l wd) (coV l wd) := by
  refine Ev.bind (f := fun e k => if e.1 = 0 then (if wd < 1 ∨ 20 < wd then some (num0, 2) else (allF k ((orU l).toNat ||| (orD l).toNat) (orU l) (orD l)).map fun xs => (coN l wd (xs.foldl (pcL l) (0, 0, 0, 0)), 0)) else some (num0, e.1)) (check_ev l hw) ?_
  unfold coV
  by_cases h0 : (chk l).1 = 0
  · rw [if_pos h0]
    by_cases h1 : wd < 1 ∨ 20 < wd
    · rw [if_pos h1]
      exact (Ev.const _).congr (fun k => by rw [if_pos h0, if_pos h1])
    · rw [if_neg h1]
      obtain ⟨xs, ⟨K, hK⟩, hx⟩ := all_ev l hw
      have e := hx (pcL l) (0, 0, 0, 0) (fun b f up hs => by show (spl l (f.val : Int) up).foldl pcS b = b; rw [hs]; rfl)
      refine ⟨K, fun k hk => ?_⟩
      have hk' : allF k ((orU l).toNat ||| (orD l).toNat) (orU l) (orD l) = some xs := hK k hk
      show (if (chk l).1 = 0 then _ else _) = _
      rw [if_pos h0, if_neg h1, hk', Option.map_some, e]
      rfl
  · rw [if_neg h0]
    exact (Ev.const _).congr (fun k => by rw [if_neg h0])

theorem spF_ended {l : List S41} (ok : OkL l) (f : Int) (up : Bool) (e : Int) (he : e = (rd_T41 l 0).f0 + l.length) : ∀ (d i : Nat) (frm : Int), d = l.length - i → i ≤ l.length → 0 < l.length → ∀ y ∈ spF l f up d i frm, y.2 = decide (y.1.f1 < e)
  | 0, i, frm, hd, hi, hn, y, hy => by
    have b := tick_lo ok hn
    have hl := ok.len
    have t := tick_at ok (l.length - 1) (by omega)
    rw [show ((l.length - 1 : Nat) : Int) = (l.length : Int) - 1 by omega] at t
    rw [spF] at hy
    by_cases h : frm ≥ 0
    · rw [if_pos h, List.mem_singleton] at hy
      subst hy
      show false = decide (wrap64 ((rd_T41 l ((l.length : Int) - 1)).f0 + 1) < e)
      rw [t, wrap_id _ (by omega) (by omega), decide_eq_false (by omega)]
    · rw [if_neg h] at hy; cases hy
  | d + 1, i, frm, hd, hi, hn, y, hy => by
    have ih := fun frm => spF_ended ok f up e he d (i + 1) frm (by omega) (by omega) hn y
    have t := tick_at ok i (by omega)
    rw [spF] at hy
    by_cases h1 : onV f up (rd_T41 l (i : Int)).f3 (rd_T41 l (i : Int)).f4 = true
    · rw [if_pos h1] at hy
      by_cases h2 : frm < 0
      · rw [if_pos h2] at hy; exact ih _ hy
      · rw [if_neg h2] at hy; exact ih _ hy
    · rw [if_neg h1] at hy
      by_cases h2 : frm ≥ 0
      · rw [if_pos h2] at hy
        rcases List.mem_cons.1 hy with rfl | hy
        · show true = decide ((rd_T41 l (i : Int)).f0 < e)
          rw [t, decide_eq_true (by omega)]
        · exact ih _ hy
      · rw [if_neg h2] at hy; exact ih _ hy

abbrev X3 := Int × Int × Int
def rS (e : Int) (r : X3) (y : S57) : X3 := if y.f1 < e then (wrap64 (r.1 + 1), wrap64 (wrap64 (r.2.1 + y.f1) - y.f0), if r.2.2 < wrap64 (y.f1 - y.f0) then wrap64 (y.f1 - y.f0) else r.2.2) else r
theorem rcS_eq (e : Int) (st : X4) (y : S57) : rcS e st y = (st.1, rS e st.2 y) := by
  unfold rcS rS
  by_cases h : y.f1 < e
  · rw [if_pos h, if_pos h]
  · rw [if_neg h, if_neg h]
theorem rcS_fold (e : Int) : ∀ (al : List S57) (st : X4), al.foldl (rcS e) st = (st.1, al.foldl (rS e) st.2)
  | [], _ => rfl
  | y :: al, st => by rw [List.foldl_cons, List.foldl_cons, rcS_eq, rcS_fold e al]
theorem wrap_mid (s a b : Int) : wrap64 (s + wrap64 (a - b)) = wrap64 (wrap64 (s + a) - b) := by unfold wrap64; omega
theorem wrap_one (a n : Int) : wrap64 (wrap64 (a + 1) + n) = wrap64 (a + (n + 1)) := by unfold wrap64; omega
theorem pcS_fold (e : Int) : ∀ (al : List (S57 × Bool)), (∀ y ∈ al, y.2 = decide (y.1.f1 < e)) → ∀ x : X4, wrap64 x.1 = x.1 → al.foldl pcS x = (wrap64 (x.1 + (al.length : Int)), (al.map (·.1)).foldl (rS e) x.2)
  | [], _, x, hx => by
    show x = _
    rw [List.length_nil, show x.1 + ((0 : Nat) : Int) = x.1 by omega, hx]; rfl
  | y :: al, h, x, hx => by
    have hy := h y (List.mem_cons_self ..)
    have hp : pcS x y = (wrap64 (x.1 + 1), rS e x.2 y.1) := by
      unfold pcS rS
      by_cases h1 : y.1.f1 < e
      · rw [decide_eq_true h1] at hy
        rw [if_pos hy, if_pos h1, wrap_mid]
      · rw [decide_eq_false h1] at hy
        rw [if_neg (by rw [hy]; decide), if_neg h1]
    have hw : wrap64 (wrap64 (x.1 + 1)) = wrap64 (x.1 + 1) := by unfold wrap64; omega
    rw [List.foldl_cons, List.map_cons, List.foldl_cons, hp, pcS_fold e al (fun z hz => h z (List.mem_cons_of_mem _ hz)) _ hw, wrap_one, List.length_cons]
    rfl
theorem pc_rc {l : List S41} (ok : OkL l) (hn : 0 < l.length) (f : Fin 64) (up : Bool) (x : X4) (hx : wrap64 x.1 = x.1) :
    pcL l x (f, up) = rcA ((rd_T41 l 0).f0 + l.length) x ((spl l (f.val : Int) up).map (·.1)) ∧ wrap64 (pcL l x (f, up)).1 = (pcL l x (f, up)).1 := by
  have h := pcS_fold ((rd_T41 l 0).f0 + l.length) (spl l (f.val : Int) up) (fun y hy => spF_ended ok f.val up _ rfl l.length 0 (-1) rfl (Nat.zero_le _) hn y hy) x hx
  have h' : pcL l x (f, up) = _ := h
  refine ⟨?_, by rw [h']; show wrap64 (wrap64 _) = wrap64 _; unfold wrap64; omega⟩
  rw [h', rcA, rcS_fold, List.length_map]

theorem rcF_ev {l : List S41} (ok : OkL l) (hn : 0 < l.length) (e : Int) (he : e = (rd_T41 l 0).f0 + l.length) : ∀ (n c : Nat) (x : X4), n = 64 - c → c ≤ 64 → wrap64 x.1 = x.1 → Ev (fun k => rcF k l e n c x) ((fl n c).foldl (pcL l) x) := by
  intro n
  induction n with
  | zero =>
    intro c x _ _ _
    refine (Ev.const x).congr (fun k => ?_)
    rw [rcF]
  | succ n IH =>
    intro c x hnn hc hx
    have hc1 : n = 64 - (c + 1) := by omega
    have hc2 : c + 1 ≤ 64 := by omega
    have hc3 : (0 : Int) ≤ (c : Int) := by omega
    have hc4 : (c : Int) ≤ 63 := by omega
    have hfl : (flo c).val = c := Nat.mod_eq_of_lt (by omega)
    obtain ⟨p1, q1⟩ := pc_rc ok hn (flo c) true x hx
    obtain ⟨x1, hx1⟩ : ∃ y, pcL l x (flo c, true) = y := ⟨_, rfl⟩
    rw [hx1] at p1 q1
    obtain ⟨p2, q2⟩ := pc_rc ok hn (flo c) false x1 q1
    obtain ⟨x2, hx2⟩ : ∃ y, pcL l x1 (flo c, false) = y := ⟨_, rfl⟩
    rw [hx2] at p2 q2
    rw [hfl, ← he] at p1 p2
    have ih := IH (c + 1) x2 hc1 hc2 q2
    rw [fl, List.foldl_cons, List.foldl_cons, hx1, hx2]
    have g2 : Ev (fun k => (tipstaffref43_spells.f k l (c : Int) false).bind fun a2 => rcF k l e n (c + 1) (rcA e x1 a2)) ((fl n (c + 1)).foldl (pcL l) x2) :=
      Ev.bind (f := fun a2 k => rcF k l e n (c + 1) (rcA e x1 a2)) (rspells_ev ok (c : Int) false hc3 hc4) (by rw [← p2]; exact ih)
    have g1 : Ev (fun k => (tipstaffref43_spells.f k l (c : Int) true).bind fun a1 => (tipstaffref43_spells.f k l (c : Int) false).bind fun a2 => rcF k l e n (c + 1) (rcA e (rcA e x a1) a2)) ((fl n (c + 1)).foldl (pcL l) x2) :=
      Ev.bind (f := fun a1 k => (tipstaffref43_spells.f k l (c : Int) false).bind fun a2 => rcF k l e n (c + 1) (rcA e (rcA e x a1) a2)) (rspells_ev ok (c : Int) true hc3 hc4) (by rw [← p1]; exact g2)
    exact g1.congr (fun k => by rw [rcF])

theorem fold_id {α β : Type} (F : β → α → β) (b : β) (h : ∀ a, F b a = b) : ∀ l : List α, l.foldl F b = b
  | [] => rfl
  | a :: l => by rw [List.foldl_cons, h a, fold_id F b h l]
theorem rcount_ev (l : List S41) (hw : ∀ v ∈ l, WV v) (wd : Int) : Ev (fun k => tipstaffref43_Count.f k l wd) (coV l wd) := by
  refine Ev.bind (f := fun e k => if e.1 = 0 then (if wd < 1 ∨ 20 < wd then some (num0, 2) else if l.length = 0 then some (num0, 0) else
    (rcF k l (wrap64 ((rd_T41 l ((l.length : Int) - 1)).f0 + 1)) 64 0 (0, 0, 0, 0)).map fun x => (numOf (cntV wd l (zer6, List.replicate (rd_T41 l 0).f2.length 0, List.replicate (rd_T41 l 0).f2.length 0, List.replicate (rd_T41 l 0).f2.length 0)) x, 0)) else some (num0, e.1)) (rcheck_ev l hw) ?_
  unfold coV
  by_cases h0 : (chk l).1 = 0
  · rw [if_pos h0]
    by_cases h1 : wd < 1 ∨ 20 < wd
    · rw [if_pos h1]
      exact (Ev.const _).congr (fun k => by rw [if_pos h0, if_pos h1])
    · rw [if_neg h1]
      have ok : OkL l := chk_ok (x := (chk l).2) (by rw [← h0])
      by_cases h2 : l.length = 0
      · obtain rfl := List.eq_nil_of_length_eq_zero h2
        have hx : pcX [] = (0, 0, 0, 0) := fold_id _ _ (fun a => rfl) _
        refine Ev.congr (Ev.of_eq (x := some (num0, 0)) ?_) (fun k => by rw [if_pos h0, if_neg h1, if_pos h2])
        rw [hx]; rfl
      · have hn : 0 < l.length := by omega
        have b := tick_lo ok hn
        have hl := ok.len
        have t := tick_at ok (l.length - 1) (by omega)
        rw [show ((l.length - 1 : Nat) : Int) = (l.length : Int) - 1 by omega] at t
        have e : wrap64 ((rd_T41 l ((l.length : Int) - 1)).f0 + 1) = (rd_T41 l 0).f0 + l.length := by
          rw [t, wrap_id _ (by omega) (by omega)]; omega
        have hc : cars l = (rd_T41 l 0).f2.length := if_pos hn
        have g := rcF_ev ok hn _ rfl 64 0 (0, 0, 0, 0) rfl (Nat.zero_le _) (wrap_id _ (by decide) (by decide))
        obtain ⟨K, hK⟩ := g
        refine ⟨K, fun k hk => ?_⟩
        have hk' : rcF k l ((rd_T41 l 0).f0 + l.length) 64 0 (0, 0, 0, 0) = some (pcX l) := hK k hk
        show (if (chk l).1 = 0 then _ else _) = _
        rw [if_pos h0, if_neg h1, if_neg h2, e, hk', Option.map_some, coN, hc]
  · rw [if_neg h0]
    exact (Ev.const _).congr (fun k => by rw [if_neg h0])

end Go.Proofs.YtenlokaaloenmaaDoor.Pure
