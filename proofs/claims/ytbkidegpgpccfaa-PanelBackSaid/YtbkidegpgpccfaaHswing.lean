/- panel.Swing, walked. -/
import Derived.RegionIn
import Derived.Shelf.Abstract
import Derived.Test.YtbkidegpgpccfaaHiter
import Derived.Test.YtbkidegpgpccfaaS2
namespace Go.Proofs.Ytbkidegpgpccfaa.S
open Go.RowKit Go.Proofs.YtbkidegpgpccfaaW.PrintWords Go.Proofs.YtbkidegpgpccfaaW.PrintLast Go.Proofs.YtbkidegpgpccfaaW.PrintMore
set_option linter.unusedVariables false
set_option linter.unusedSimpArgs false
attribute [local go_sem] Oper.semAt_some

def poss (o : Int) : Bool := decide (0 ≤ o) && decide (o < 5)
theorem poss_f (o : Int) : panel_possible.f o = some (poss o) := by
  unfold panel_possible.f poss
  by_cases h : 0 ≤ o
  · rw [if_pos h]; simp [h]
  · rw [if_neg h]; simp [h]
def okL (l : List Int) : Bool := l.all poss
def upsOf (xs : List (Int × Int × Int × Int)) : Int := xs.foldl (fun n x => if x.2.2.2 = 1 then wrap64 (n + 1) else n) 0
def downsOf (xs : List (Int × Int × Int × Int)) : Int := xs.foldl (fun n x => if x.2.2.2 = 1 then n else if x.2.2.2 = -1 then wrap64 (n + 1) else n) 0
def lastP (xs : List (Int × Int × Int × Int)) (p : Pan) : Pan := xs.foldl (fun _ x => (x.1, x.2.1, x.2.2.1)) p
def panel_Swing.f (k : Nat) (a0_0 a0_1 a0_2 : Int) (l1 : List Int) : Option (Int × Int × Int × Int × Int × Int) :=
  (panel_Check.f k a0_0 a0_1 a0_2).bind fun e => if e = 0 then (if l1.length > 1000 then some (0, 0, 0, 0, 0, 4) else if okL l1 = true then (swingL l1 (a0_0, a0_1, a0_2)).map fun xs => ((lastP xs (a0_0, a0_1, a0_2)).1, (lastP xs (a0_0, a0_1, a0_2)).2.1, (lastP xs (a0_0, a0_1, a0_2)).2.2, upsOf xs, downsOf xs, 0) else some (0, 0, 0, 0, 0, 11)) else some (0, 0, 0, 0, 0, e)
theorem panel_Swing.mono : ∀ a0 a1 a2 l k, LeO (panel_Swing.f k a0 a1 a2 l) (panel_Swing.f (k + 1) a0 a1 a2 l) := fun a0 a1 a2 l k =>
  LeO.bind (panel_Check.mono _ _ _ _) (fun _ => LeO.refl _)

theorem check_any (k : Nat) (a b c r : Int) (h : panel_Check.f k a b c = some r) (w : World) : Calls Try.prog 24 #[.agg #[.int .i64 a, .int .i64 b, .int .i64 c]] w fun e w' => e = .returned (.int .i64 r) ∧ Below w.heap.size w w' := panel_Check.calls k a b c r w h
theorem poss_any (o : Int) (r : Bool) (h : poss o = r) (w : World) : Calls Try.prog 38 #[.int .i64 o] w fun e w' => e = .returned (.bool r) ∧ Drawn0 w w' := panel_possible.calls o r w (by rw [poss_f, h])

/-- What lies behind the call of Check. -/
structure SwW (n0 : Nat) (w wd : World) (a b c : Int) : Prop where
  p : Blk3 wd n0 23 (.int .i64 a) (.int .i64 b) (.int .i64 c)
  q : Blk3 wd (n0 + 1) 23 (.int .i64 0) (.int .i64 0) (.int .i64 0)
  u : Boxed wd (n0 + 1 + 1) 3 (.int .i64 0)
  d : Boxed wd (n0 + 1 + 1 + 1) 3 (.int .i64 0)
  b : Below n0 w wd
  s : n0 + 1 + 1 + 1 + 1 ≤ wd.heap.size

theorem swW_of {w wd : World} {a b c : Int} (h : Below (w.heap.size + 1 + 1 + 1 + 1) ((((w.alloc (.cells #[.int .i64 a, .int .i64 b, .int .i64 c] 23)).alloc (.cells #[.int .i64 0, .int .i64 0, .int .i64 0] 23)).alloc (.cells #[.int .i64 0] 3)).alloc (.cells #[.int .i64 0] 3)) wd) : SwW w.heap.size w wd a b c where
  p := (((((Blk3.new w 23 _ _ _).alloc _).alloc _).alloc _).below h (by omega))
  q := by have := Blk3.new (w.alloc (.cells #[.int .i64 a, .int .i64 b, .int .i64 c] 23)) 23 (.int .i64 0) (.int .i64 0) (.int .i64 0); rw [World.size_alloc] at this; exact ((this.alloc _).alloc _).below h (by omega)
  u := by have := Boxed.new ((w.alloc (.cells #[.int .i64 a, .int .i64 b, .int .i64 c] 23)).alloc (.cells #[.int .i64 0, .int .i64 0, .int .i64 0] 23)) 3 (.int .i64 0); rw [World.size_alloc, World.size_alloc] at this; exact (h.block _ (by omega)).trans (this.alloc _)
  d := by have := Boxed.new (((w.alloc (.cells #[.int .i64 a, .int .i64 b, .int .i64 c] 23)).alloc (.cells #[.int .i64 0, .int .i64 0, .int .i64 0] 23)).alloc (.cells #[.int .i64 0] 3)) 3 (.int .i64 0); rw [World.size_alloc, World.size_alloc, World.size_alloc] at this; exact (h.block _ (by omega)).trans this
  b := (((((Below.refl _ w).alloc (Nat.le_refl _) _).alloc (by simp) _).alloc (by simp; omega) _).alloc (by simp; omega) _).trans (h.mono (by omega))
  s := by have := h.size; simpa using this

/-- What the results hold. -/
structure SwR (n0 : Nat) (w W : World) (x y z u d : Value) : Prop where
  q : Blk3 W (n0 + 1) 23 x y z
  u : Boxed W (n0 + 1 + 1) 3 u
  d : Boxed W (n0 + 1 + 1 + 1) 3 d
  b : Below n0 w W
theorem SwW.r {n0 : Nat} {w wd : World} {a b c : Int} (h : SwW n0 w wd a b c) : SwR n0 w wd (.int .i64 0) (.int .i64 0) (.int .i64 0) (.int .i64 0) (.int .i64 0) := ⟨h.q, h.u, h.d, h.b⟩
theorem boxed_far {W : World} {B : Nat} {t : TypeId} {v : Value} (h : Boxed W B t v) (p : Addr) (u : Value) (hne : B ≠ p.block) : Boxed (W.setCell p u) B t v := (Below.heap_setCell W p u B hne).trans h
theorem SwR.store {n0 : Nat} {w W : World} {x y z u d : Value} (h : SwR n0 w W x y z u d) (x' y' z' u' d' : Value) :
    SwR n0 w (((((W.setCell ⟨n0 + 1, 0, none⟩ x').setCell ⟨n0 + 1, 1, none⟩ y').setCell ⟨n0 + 1, 2, none⟩ z').setCell ⟨n0 + 1 + 1, 0, none⟩ u').setCell ⟨n0 + 1 + 1 + 1, 0, none⟩ d') x' y' z' u' d' where
  q := ((((h.q.set0 _).set1 _).set2 _).far _ _ (by simp)).far _ _ (by simp)
  u := boxed_far (Boxed.set _ (boxed_far (boxed_far (boxed_far h.u _ _ (by simp)) _ _ (by simp)) _ _ (by simp))) _ _ (by simp)
  d := Boxed.set _ (boxed_far (boxed_far (boxed_far (boxed_far h.d _ _ (by simp <;> omega)) _ _ (by simp <;> omega)) _ _ (by simp <;> omega)) _ _ (by simp <;> omega))
  b := ((((h.b.setCell (p := ⟨n0 + 1, 0, none⟩) (by simp) _).setCell (p := ⟨n0 + 1, 1, none⟩) (by simp) _).setCell (p := ⟨n0 + 1, 2, none⟩) (by simp) _).setCell (p := ⟨n0 + 1 + 1, 0, none⟩) (by simp; omega) _).setCell (p := ⟨n0 + 1 + 1 + 1, 0, none⟩) (by simp; omega) _

theorem sw_res {n0 : Nat} {w W : World} {x y z u d : Value} (R : SwR n0 w W x y z u d) (e : Value) (tmps : Array Value) (h4 : tmps[4]? = some (.pointer (some ⟨n0 + 1, 0, none⟩))) (h5 : tmps[5]? = some (.pointer (some ⟨n0 + 1 + 1, 0, none⟩))) (h6 : tmps[6]? = some (.pointer (some ⟨n0 + 1 + 1 + 1, 0, none⟩))) (h7 : tmps[7]? = some e) :
    (results Try.f11 tmps).run Try.prog W = .ok (.tuple #[.agg #[x, y, z], u, d, e]) W := by
  have hu := Try.underlying23
  have q0 := R.q.c0
  have q1 := R.q.c1
  have q2 := R.q.c2
  have u0 := R.u.cell
  have d0 := R.d.cell
  simp [results, Try.results11, go_sem, q0, q1, q2, u0, d0, hu, h4, h5, h6, h7]

set_option maxHeartbeats 1000000 in
set_option maxRecDepth 100000 in
theorem Swing_no (k : Nat) (a b c e : Int) (A1 : Option Addr) (c1 : Nat) (l : List Int) (w : World) (h : panel_Check.f k a b c = some e) (he : e ≠ 0) :
    Calls Try.prog 11 #[.agg #[.int .i64 a, .int .i64 b, .int .i64 c], .slice A1 l.length c1] w fun x w' => x = .returned (.tuple #[.agg #[.int .i64 0, .int .i64 0, .int .i64 0], .int .i64 0, .int .i64 0, .int .i64 e]) ∧ Below w.heap.size w w' := by
  have hu := Try.underlying23
  have H := Aside0.mk h
  clear h
  have e1 : (e != 0) = true := by simpa using he
  go_enter Try.func11, Try.ntmps11
  go_wp2_with fail
  refine (check_any k a b c e H.out _).mono ?_
  rintro x wd ⟨rfl, hb⟩
  have S := swW_of (by simpa using hb)
  clear hb
  have q0 := S.q.c0
  have q1 := S.q.c1
  have q2 := S.q.c2
  have g0 := S.q.fr 0
  have g1 := S.q.fr 1
  have g2 := S.q.fr 2
  have u0 := S.u.cell
  have uf := S.u.frozen
  have d0 := S.d.cell
  have df := S.d.frozen
  have SS := Aside0.mk S
  clear S
  go_wp2
  have R := SS.out.r.store (.int .i64 0) (.int .i64 0) (.int .i64 0) (.int .i64 0) (.int .i64 0)
  clear q0 q1 q2 g0 g1 g2 u0 uf d0 df
  generalize ((((wd.setCell ⟨w.heap.size + 1, 0, none⟩ (.int .i64 0)).setCell ⟨w.heap.size + 1, 1, none⟩ (.int .i64 0)).setCell ⟨w.heap.size + 1, 2, none⟩ (.int .i64 0)).setCell ⟨w.heap.size + 1 + 1, 0, none⟩ (.int .i64 0)).setCell ⟨w.heap.size + 1 + 1 + 1, 0, none⟩ (.int .i64 0) = W5 at R ⊢
  exact bodyPost_ret (sw_res R (.int .i64 e) _ rfl rfl rfl rfl) rfl ⟨rfl, R.b⟩

set_option maxHeartbeats 1000000 in
set_option maxRecDepth 100000 in
theorem Swing_long (k : Nat) (a b c : Int) (A1 : Option Addr) (c1 : Nat) (l : List Int) (w : World) (h : panel_Check.f k a b c = some 0) (hl : l.length > 1000) :
    Calls Try.prog 11 #[.agg #[.int .i64 a, .int .i64 b, .int .i64 c], .slice A1 l.length c1] w fun x w' => x = .returned (.tuple #[.agg #[.int .i64 0, .int .i64 0, .int .i64 0], .int .i64 0, .int .i64 0, .int .i64 4]) ∧ Below w.heap.size w w' := by
  have hu := Try.underlying23
  have H := Aside0.mk h
  clear h
  have e1 : decide ((l.length : Int) > 1000) = true := decide_eq_true (by omega)
  go_enter Try.func11, Try.ntmps11
  go_wp2_with fail
  refine (check_any k a b c 0 H.out _).mono ?_
  rintro x wd ⟨rfl, hb⟩
  have S := swW_of (by simpa using hb)
  clear hb
  have q0 := S.q.c0
  have q1 := S.q.c1
  have q2 := S.q.c2
  have g0 := S.q.fr 0
  have g1 := S.q.fr 1
  have g2 := S.q.fr 2
  have u0 := S.u.cell
  have uf := S.u.frozen
  have d0 := S.d.cell
  have df := S.d.frozen
  have SS := Aside0.mk S
  clear S
  go_wp2
  have R := SS.out.r.store (.int .i64 0) (.int .i64 0) (.int .i64 0) (.int .i64 0) (.int .i64 0)
  clear q0 q1 q2 g0 g1 g2 u0 uf d0 df
  generalize ((((wd.setCell ⟨w.heap.size + 1, 0, none⟩ (.int .i64 0)).setCell ⟨w.heap.size + 1, 1, none⟩ (.int .i64 0)).setCell ⟨w.heap.size + 1, 2, none⟩ (.int .i64 0)).setCell ⟨w.heap.size + 1 + 1, 0, none⟩ (.int .i64 0)).setCell ⟨w.heap.size + 1 + 1 + 1, 0, none⟩ (.int .i64 0) = W5 at R ⊢
  exact bodyPost_ret (sw_res R (.int .i64 4) _ rfl rfl rfl rfl) rfl ⟨rfl, R.b⟩

set_option maxHeartbeats 1000000 in
set_option maxRecDepth 100000 in
theorem Swing_kind (k : Nat) (a b c : Int) (A1 : Option Addr) (c1 : Nat) (l : List Int) (w : World) (hr1 : (Kd.int .i64).C w A1 l.length l) (hc1 : l.length ≤ c1) (h : panel_Check.f k a b c = some 0) (hl : l.length ≤ 1000) (hk : okL l = false) :
    Calls Try.prog 11 #[.agg #[.int .i64 a, .int .i64 b, .int .i64 c], .slice A1 l.length c1] w fun x w' => x = .returned (.tuple #[.agg #[.int .i64 0, .int .i64 0, .int .i64 0], .int .i64 0, .int .i64 0, .int .i64 11]) ∧ Below w.heap.size w w' := by
  have hu := Try.underlying23
  have H := Aside0.mk h
  have HR1 := Aside0.mk hr1
  clear h hr1
  have e1 : decide ((l.length : Int) > 1000) = false := decide_eq_false (by omega)
  go_enter Try.func11, Try.ntmps11
  go_wp2_with fail
  refine (check_any k a b c 0 H.out _).mono ?_
  rintro x wd ⟨rfl, hb⟩
  have S := swW_of (by simpa using hb)
  clear hb
  have SS := Aside0.mk S
  have HRd := Aside0.mk (Kd.C_below HR1.out S.b)
  clear S
  go_wp2
  go_loopw [25] (fun v25 wr => ∃ (i m : Nat), v25 = .int .i64 i ∧ Aside0 (i ≤ l.length) ∧ Aside0 (okL (l.drop i) = false) ∧ wr = wd.drewN m) (fun v25 _ => l.length - (intOf v25).toNat)
  case atStart => exact ⟨0, 0, rfl, ⟨by omega⟩, ⟨hk⟩, rfl⟩
  case round =>
    obtain ⟨i, m, rfl, hi, ho, rfl⟩ := hrel
    have hlt : i < l.length := by
      rcases Nat.lt_or_ge i l.length with h | h
      · exact h
      · have := ho.out
        rw [List.drop_eq_nil_of_le h] at this
        exact absurd this (by simp [okL])
    have hi1 : (i : Int) < (l.length : Int) := by omega
    have hoo := ho.out
    rw [Pure.drop_rd l i hlt] at hoo
    obtain ⟨ad, e2, hx0⟩ := Kd.at_int HRd.out (i : Int) (by omega) hi1
    cases e2
    rw [Int.toNat_natCast] at hx0
    obtain ⟨o, hro⟩ : ∃ o, rd l (i : Int) = o := ⟨_, rfl⟩
    rw [hro] at hx0 hoo
    clear hro
    simp only [okL, List.all_cons, Bool.and_eq_false_iff] at hoo
    by_cases hp : poss o = true
    · have hrest : okL (l.drop (i + 1)) = false := by
        rcases hoo with h | h
        · rw [hp] at h; cases h
        · exact h
      have HRST := Aside0.mk hrest
      clear hoo hrest
      go_wp2_with fail
      refine (poss_any o true hp _).mono ?_
      rintro e w1 ⟨rfl, m1, rfl⟩
      go_wp2
      go_roundw
      case rel => exact ⟨i + 1, m + m1, by simp, ⟨by omega⟩, HRST, by first | rfl | simp [World.drewN_drewN] | (rw [World.drewN_drewN])⟩
      case measure => simp [intOf]; omega
    · replace hp := Bool.eq_false_iff.mpr hp
      clear hoo
      have q0 := SS.out.q.c0
      have q1 := SS.out.q.c1
      have q2 := SS.out.q.c2
      have g0 := SS.out.q.fr 0
      have g1 := SS.out.q.fr 1
      have g2 := SS.out.q.fr 2
      have u0 := SS.out.u.cell
      have uf := SS.out.u.frozen
      have d0 := SS.out.d.cell
      have df := SS.out.d.frozen
      go_wp2_with fail
      refine (poss_any o false hp _).mono ?_
      rintro e w1 ⟨rfl, m1, rfl⟩
      go_wp2
      have R := (SwR.mk (W := wd.drewN (m + m1)) SS.out.q SS.out.u SS.out.d (pw_below_drewN SS.out.b _)).store (.int .i64 0) (.int .i64 0) (.int .i64 0) (.int .i64 0) (.int .i64 0)
      exact bodyPost_ret (sw_res R (.int .i64 11) _ rfl rfl rfl rfl) rfl ⟨rfl, R.b⟩

theorem swing_any (a b c : Int) (A : Option Addr) (n m : Nat) (w : World) : Calls Try.prog 39 #[.agg #[.int .i64 a, .int .i64 b, .int .i64 c], .slice A n m] w fun e w' =>
    e = .returned (.func (.func 45) #[] #[.pointer (some ⟨w.heap.size + 1, 0, none⟩), .pointer (some ⟨w.heap.size, 0, none⟩)]) ∧ w' = (w.alloc (.cells #[.int .i64 a, .int .i64 b, .int .i64 c] 23)).alloc (.cells #[.slice A n m] 24) := by
  have hu := Try.underlying23
  have hmf : ∀ (fn : Fn) (first cap : Array Value) (w : World), (Instr.makeFunc fn first cap).run Try.prog w = .ok (.func fn first cap) w := fun _ _ _ _ => rfl
  go_enter Try.func39, Try.ntmps39
  go_wp2
  go_ret
  exact ⟨rfl, rfl⟩

theorem SwR.grown {n0 : Nat} {w W W' : World} {x y z u d : Value} (h : SwR n0 w W x y z u d) {row : Option Nat} (hg : W.grownBy W' row) (hr : ∀ r, row = some r → n0 + 1 + 1 + 1 + 1 ≤ r) (hs : n0 + 1 + 1 + 1 + 1 ≤ W.heap.size) : SwR n0 w W' x y z u d where
  q := (hg.block _ (by omega) (fun e => by have := hr _ e.symm; omega)).trans h.q
  u := (hg.block _ (by omega) (fun e => by have := hr _ e.symm; omega)).trans h.u
  d := (hg.block _ (by omega) (fun e => by have := hr _ e.symm; omega)).trans h.d
  b := h.b.grown hg (by have := h.b.size; omega) (fun k e => by have := hr k e; omega)

/-- What the results hold, so many panels having come. -/
def SwI (n0 n2 : Nat) (w : World) (p : Pan) (pre : List (Int × Int × Int × Int)) (W : World) : Prop :=
  SwR n0 w W (.int .i64 (lastP pre p).1) (.int .i64 (lastP pre p).2.1) (.int .i64 (lastP pre p).2.2) (.int .i64 (upsOf pre)) (.int .i64 (downsOf pre)) ∧ n2 + 1 + 1 ≤ W.heap.size ∧ n0 + 1 + 1 + 1 + 1 ≤ n2
theorem SwI.grown {n0 n2 : Nat} {w W W' : World} {p : Pan} {pre : List (Int × Int × Int × Int)} (h : SwI n0 n2 w p pre W) {row : Option Nat} (hg : W.grownBy W' row) (hr : ∀ r, row = some r → n2 ≤ r) : SwI n0 n2 w p pre W' :=
  ⟨h.1.grown hg (fun r e => by have := hr r e; have := h.2.2; omega) (by have := h.2; omega), Nat.le_trans h.2.1 hg.size, h.2.2⟩
theorem lastP_snoc (xs : List (Int × Int × Int × Int)) (p : Pan) (x : Int × Int × Int × Int) : lastP (xs ++ [x]) p = (x.1, x.2.1, x.2.2.1) := by simp [lastP]
theorem upsOf_snoc (xs : List (Int × Int × Int × Int)) (x : Int × Int × Int × Int) : upsOf (xs ++ [x]) = if x.2.2.2 = 1 then wrap64 (upsOf xs + 1) else upsOf xs := by simp [upsOf]
theorem downsOf_snoc (xs : List (Int × Int × Int × Int)) (x : Int × Int × Int × Int) : downsOf (xs ++ [x]) = if x.2.2.2 = 1 then downsOf xs else if x.2.2.2 = -1 then wrap64 (downsOf xs + 1) else downsOf xs := by simp [downsOf]
theorem Keep3.set {n0 b1 b2 : Nat} {A W : World} (h : Keep3 n0 b1 b2 A W) (p : Addr) (v : Value) (h1 : b1 ≠ p.block) (h2 : b2 ≠ p.block) (h3 : n0 ≤ p.block) : Keep3 n0 b1 b2 A (W.setCell p v) :=
  ⟨(Below.heap_setCell W p v b1 h1).trans h.1, (Below.heap_setCell W p v b2 h2).trans h.2.1, h.2.2.setCell h3 v⟩
theorem Keep3.refl (n0 b1 b2 : Nat) (A : World) : Keep3 n0 b1 b2 A A := ⟨rfl, rfl, Below.refl _ _⟩
theorem SwR.storeQ {n0 : Nat} {w W : World} {x y z u d : Value} (h : SwR n0 w W x y z u d) (x' y' z' : Value) :
    SwR n0 w (((W.setCell ⟨n0 + 1, 0, none⟩ x').setCell ⟨n0 + 1, 1, none⟩ y').setCell ⟨n0 + 1, 2, none⟩ z') x' y' z' u d where
  q := ((h.q.set0 _).set1 _).set2 _
  u := boxed_far (boxed_far (boxed_far h.u _ _ (by simp <;> omega)) _ _ (by simp <;> omega)) _ _ (by simp <;> omega)
  d := boxed_far (boxed_far (boxed_far h.d _ _ (by simp <;> omega)) _ _ (by simp <;> omega)) _ _ (by simp <;> omega)
  b := ((h.b.setCell (p := ⟨n0 + 1, 0, none⟩) (by simp) _).setCell (p := ⟨n0 + 1, 1, none⟩) (by simp) _).setCell (p := ⟨n0 + 1, 2, none⟩) (by simp) _
theorem SwR.storeU {n0 : Nat} {w W : World} {x y z u d : Value} (h : SwR n0 w W x y z u d) (u' : Value) : SwR n0 w (W.setCell ⟨n0 + 1 + 1, 0, none⟩ u') x y z u' d where
  q := h.q.far _ _ (by simp)
  u := Boxed.set _ h.u
  d := boxed_far h.d _ _ (by simp)
  b := h.b.setCell (p := ⟨n0 + 1 + 1, 0, none⟩) (by simp; omega) _
theorem SwR.storeD {n0 : Nat} {w W : World} {x y z u d : Value} (h : SwR n0 w W x y z u d) (d' : Value) : SwR n0 w (W.setCell ⟨n0 + 1 + 1 + 1, 0, none⟩ d') x y z u d' where
  q := h.q.far _ _ (by simp <;> omega)
  u := boxed_far h.u _ _ (by simp)
  d := Boxed.set _ h.d
  b := h.b.setCell (p := ⟨n0 + 1 + 1 + 1, 0, none⟩) (by simp; omega) _

set_option maxHeartbeats 2000000 in
set_option maxRecDepth 100000 in
theorem Swing_yes (k : Nat) (a b c : Int) (A1 : Option Addr) (c1 : Nat) (l : List Int) (xs : List (Int × Int × Int × Int)) (w : World) (hr1 : (Kd.int .i64).C w A1 l.length l) (hc1 : l.length ≤ c1) (h : panel_Check.f k a b c = some 0) (hl : l.length ≤ 1000) (hk : okL l = true) (hx : swingL l (a, b, c) = some xs) :
    Calls Try.prog 11 #[.agg #[.int .i64 a, .int .i64 b, .int .i64 c], .slice A1 l.length c1] w fun x w' => x = .returned (.tuple #[.agg #[.int .i64 (lastP xs (a, b, c)).1, .int .i64 (lastP xs (a, b, c)).2.1, .int .i64 (lastP xs (a, b, c)).2.2], .int .i64 (upsOf xs), .int .i64 (downsOf xs), .int .i64 0]) ∧ Below w.heap.size w w' := by
  have hu := Try.underlying23
  have H := Aside0.mk h
  have HR1 := Aside0.mk hr1
  have HX := Aside0.mk hx
  clear h hr1 hx
  have e1 : decide ((l.length : Int) > 1000) = false := decide_eq_false (by omega)
  refine (callsIn_wide (n := 9)).1 ?_
  refine callsIn_of_wp_marks Try.func11 rfl trivial ?_ rfl
  simp only [Try.ntmps11, List.size_toArray, List.length_cons, List.length_nil, Nat.reduceAdd, Nat.reduceSub, Array.replicate_succ, Array.replicate_zero, List.push_toArray, List.append_toArray, List.nil_append, List.cons_append]
  gi_wp2_with fail
  refine ⟨trivial, ?_⟩
  refine (callsIn_wide.2 (check_any k a b c 0 H.out _)).mono ?_
  rintro x wd ⟨rfl, hb⟩
  have S := swW_of (by simpa using hb)
  clear hb
  have SS := Aside0.mk S
  have HRd := Aside0.mk (Kd.C_below HR1.out S.b)
  clear S
  gi_wp2
  gi_loopw [25] (fun v25 wr => ∃ (i m : Nat), v25 = .int .i64 i ∧ Aside0 (i ≤ l.length) ∧ Aside0 (okL (l.drop i) = true) ∧ wr = wd.drewN m) (fun v25 _ => l.length - (intOf v25).toNat)
  case atStart => exact ⟨0, 0, rfl, ⟨by omega⟩, ⟨hk⟩, rfl⟩
  case round =>
    obtain ⟨i, m, rfl, hi, ho, rfl⟩ := hrel
    by_cases hlt : i < l.length
    · have hi1 : (i : Int) < (l.length : Int) := by omega
      have hoo := ho.out
      rw [Pure.drop_rd l i hlt] at hoo
      obtain ⟨ad, e2, hx0⟩ := Kd.at_int HRd.out (i : Int) (by omega) hi1
      cases e2
      rw [Int.toNat_natCast] at hx0
      obtain ⟨o, hro⟩ : ∃ o, rd l (i : Int) = o := ⟨_, rfl⟩
      rw [hro] at hx0 hoo
      clear hro
      simp only [okL, List.all_cons, Bool.and_eq_true] at hoo
      obtain ⟨hp, hrest⟩ := hoo
      have HRST := Aside0.mk (show okL (l.drop (i + 1)) = true from hrest)
      clear hrest
      gi_wp2_with fail
      refine ⟨trivial, ?_⟩
      refine (callsIn_wide.2 (poss_any o true hp _)).mono ?_
      rintro e w1 ⟨rfl, m1, rfl⟩
      gi_wp2
      go_roundw
      case rel => exact ⟨i + 1, m + m1, by simp, ⟨by omega⟩, HRST, by first | rfl | simp [World.drewN_drewN] | (rw [World.drewN_drewN])⟩
      case measure => simp [intOf]; omega
    · have e3 : decide ((i : Int) < (l.length : Int)) = false := decide_eq_false (by omega)
      have p0 := SS.out.p.c0
      have p1 := SS.out.p.c1
      have p2 := SS.out.p.c2
      have q0 := SS.out.q.c0
      have q1 := SS.out.q.c1
      have q2 := SS.out.q.c2
      have g0 := SS.out.q.fr 0
      have g1 := SS.out.q.fr 1
      have g2 := SS.out.q.fr 2
      gi_wp2_with fail
      obtain ⟨W0, hW0⟩ : ∃ W0, (((wd.drewN m).setCell ⟨w.heap.size + 1, 0, none⟩ (.int .i64 a)).setCell ⟨w.heap.size + 1, 1, none⟩ (.int .i64 b)).setCell ⟨w.heap.size + 1, 2, none⟩ (.int .i64 c) = W0 := ⟨_, rfl⟩
      have R0 : SwR w.heap.size w W0 (.int .i64 a) (.int .i64 b) (.int .i64 c) (.int .i64 0) (.int .i64 0) := by
        rw [← hW0]
        exact ⟨((Blk3.set0 (w := wd.drewN m) SS.out.q _).set1 _).set2 _, boxed_far (boxed_far (boxed_far (W := wd.drewN m) SS.out.u _ _ (by simp <;> omega)) _ _ (by simp <;> omega)) _ _ (by simp <;> omega), boxed_far (boxed_far (boxed_far (W := wd.drewN m) SS.out.d _ _ (by simp <;> omega)) _ _ (by simp <;> omega)) _ _ (by simp <;> omega),
          (((pw_below_drewN SS.out.b m).setCell (p := ⟨w.heap.size + 1, 0, none⟩) (by simp) _).setCell (p := ⟨w.heap.size + 1, 1, none⟩) (by simp) _).setCell (p := ⟨w.heap.size + 1, 2, none⟩) (by simp) _⟩
      have sz0 : W0.heap.size = wd.heap.size := by rw [← hW0]; simp
      rw [hW0]
      clear hW0 p0 p1 p2 q0 q1 q2 g0 g1 g2
      have s0 := SS.out.s
      rw [← sz0] at s0
      clear sz0
      refine ⟨trivial, ?_⟩
      refine (callsIn_wide.2 (swing_any _ _ _ _ _ _ _)).mono ?_
      rintro e w' ⟨rfl, rfl⟩
      gi_wp2
      have bp := (Blk3.new W0 23 (.int .i64 a) (.int .i64 b) (.int .i64 c)).alloc (.cells #[.slice A1 l.length c1] 24)
      have bl := Boxed.new (W0.alloc (.cells #[.int .i64 a, .int .i64 b, .int .i64 c] 23)) 24 (.slice A1 l.length c1)
      rw [World.size_alloc] at bl
      have R2 : SwI w.heap.size W0.heap.size w (a, b, c) [] ((W0.alloc (.cells #[.int .i64 a, .int .i64 b, .int .i64 c] 23)).alloc (.cells #[.slice A1 l.length c1] 24)) := by
        exact ⟨(R0.grown (World.grownBy_alloc _ _ none) (by simp) s0).grown (World.grownBy_alloc _ _ none) (by simp) (by simp; omega), by simp, s0⟩
      have s2 : ((W0.alloc (.cells #[.int .i64 a, .int .i64 b, .int .i64 c] 23)).alloc (.cells #[.slice A1 l.length c1] 24)).heap.size = W0.heap.size + 1 + 1 := by simp
      generalize (W0.alloc (.cells #[.int .i64 a, .int .i64 b, .int .i64 c] 23)).alloc (.cells #[.slice A1 l.length c1] 24) = W2 at bp bl R2 s2 ⊢
      generalize W0.heap.size = n2 at bp bl s2 s0 R2 ⊢
      clear R0
      refine wpIn_iter (T := fun A B => A.grownBy B (some n2)) (Kp := Keep3 w.heap.size (n2 + 1) n2) (encs := encP) (S := fun ys => ys = xs) (Sp := fun _ => True) (N := xs.length) rfl (by omega) (gf := 45) (lb := #[.pointer (some ⟨n2 + 1, 0, none⟩), .pointer (some ⟨n2, 0, none⟩)]) rfl trivial (enters_of Try.func45 (by kernel_rfl) rfl)
        (swing_stops (9 - 1) (by omega) w.heap.size (n2 + 1) n2 (by omega) (by omega) (by omega) A1 c1 l hc1 w rfl HR1.out (a, b, c) xs HX.out W2 bl bp R2.1.b)
        (fun A B k hT hk hkA => hT.block k hkA (by intro e; injection e with e; omega))
        (fun h k => ⟨k.1.trans h.1, k.2.1.trans h.2.1, h.2.2.trans k.2.2⟩)
        (fun W l o' hl => ⟨World.putObj_heap_other (by omega), World.putObj_heap_other (by omega), ⟨rfl, rfl, rfl, by simp [World.putObj], fun k hk => World.putObj_heap_other (by have := R2.1.b.size; omega)⟩⟩)
        (fun _ => rfl)
        (SwI w.heap.size n2 w (a, b, c)) (fun _ _ _ => False)
        (fun s A B row hs hg hr => SwI.grown hs hg (fun r e => by have := (hr r e).1; omega)) (fun _ _ _ _ _ hs _ _ => hs)
        (fun s A B hs hT => SwI.grown hs hT (fun r e => by cases e; omega)) (fun _ _ _ _ hs _ => hs) R2
        (fun pre x a1 W => ∃ B, a1 = { tmps := #[.agg #[.int .i64 a, .int .i64 b, .int .i64 c], .slice A1 l.length c1, .pointer (some ⟨w.heap.size, 0, none⟩), undef, .pointer (some ⟨w.heap.size + 1, 0, none⟩), .pointer (some ⟨w.heap.size + 1 + 1, 0, none⟩), .pointer (some ⟨w.heap.size + 1 + 1 + 1, 0, none⟩), u7, .int .i64 0, undef, u10, .pointer (some ⟨B, 0, none⟩), .int .i64 x.2.2.2,
            .agg #[.int .i64 a, .int .i64 b, .int .i64 c], .int .i64 0, .int .i64 0, .bool false, undef, undef, .slice A1 l.length c1, .int .i64 l.length, .bool false, undef, .slice A1 l.length c1, .int .i64 l.length, .int .i64 i, .bool false, u27, u28, u29, u30, u31, u32, u33, .agg #[.int .i64 a, .int .i64 b, .int .i64 c], .agg #[.int .i64 a, .int .i64 b, .int .i64 c], .slice A1 l.length c1,
            .func (.func 45) #[] #[.pointer (some ⟨n2 + 1, 0, none⟩), .pointer (some ⟨n2, 0, none⟩)], .agg #[.int .i64 x.1, .int .i64 x.2.1, .int .i64 x.2.2.1], .int .i64 x.2.2.2, undef, undef, undef, undef, undef, undef, undef, undef, undef, undef, undef, undef, undef], defers := [] } ∧ n2 + 1 + 1 ≤ B ∧ Blk3 W B 23 (.int .i64 x.1) (.int .i64 x.2.1) (.int .i64 x.2.2.1) ∧ SwI w.heap.size n2 w (a, b, c) pre W)
        ?hM ?assign ?body ?done ?stop
      case hM =>
        rintro pre x a1 W lo o o' ⟨B, rfl, hB, hb, hs⟩ hl ho hoc
        refine ⟨B, rfl, hB, (World.putObj_heap_other ?_).trans hb, SwI.grown hs (grownBy_putObj' W lo o') (fun r e => by cases e; omega)⟩
        intro e
        have hb2 : W.heap[B]? = _ := hb
        first | rw [e] at hb2 | rw [← e] at hb2
        rw [hb2] at ho
        cases ho
        cases hoc
      case assign =>
        intro lo pre x W hs hlen
        unfold encP
        gi_wp2
        exact ⟨KeepsOthers.alloc _ _, ⟨Below.heap_alloc _ _ _ (by have := hs.2.1; omega), Below.heap_alloc _ _ _ (by have := hs.2.1; omega), (Below.refl _ W).alloc (by have := hs.1.b.size; omega) _⟩, W.heap.size, rfl, hs.2.1, Blk3.new _ _ _ _ _, SwI.grown hs (World.grownBy_alloc _ _ none) (by simp)⟩
      case body =>
        rintro lo pre x a1 W ⟨B, rfl, hB, hb, hs⟩ hlen
        have x0 := hb.c0
        have x1 := hb.c1
        have x2 := hb.c2
        have q0 := hs.1.q.c0
        have q1 := hs.1.q.c1
        have q2 := hs.1.q.c2
        have g0 := hs.1.q.fr 0
        have g1 := hs.1.q.fr 1
        have g2 := hs.1.q.fr 2
        have u0 := hs.1.u.cell
        have uf := hs.1.u.frozen
        have d0 := hs.1.d.cell
        have df := hs.1.d.frozen
        have HS := Aside0.mk hs
        clear hs hb
        gi_wp2
        all_goals
          obtain ⟨hR, hsz, hn2⟩ := HS.out
          have hA := hR.storeQ (.int .i64 x.1) (.int .i64 x.2.1) (.int .i64 x.2.2.1)
          have hK := (((Keep3.refl w.heap.size (n2 + 1) n2 W).set ⟨w.heap.size + 1, 0, none⟩ (.int .i64 x.1) (by simp <;> omega) (by simp <;> omega) (by simp)).set ⟨w.heap.size + 1, 1, none⟩ (.int .i64 x.2.1) (by simp <;> omega) (by simp <;> omega) (by simp)).set ⟨w.heap.size + 1, 2, none⟩ (.int .i64 x.2.2.1) (by simp <;> omega) (by simp <;> omega) (by simp)
          have hO := ((KeepsOthers.setCell W ⟨w.heap.size + 1, 0, none⟩ (.int .i64 x.1)).trans (KeepsOthers.setCell _ ⟨w.heap.size + 1, 1, none⟩ (.int .i64 x.2.1))).trans (KeepsOthers.setCell _ ⟨w.heap.size + 1, 2, none⟩ (.int .i64 x.2.2.1))
        · have ex : x.2.2.2 = 1 := by simpa using ‹(x.2.2.2 == 1) = true›
          refine ⟨hO.trans (KeepsOthers.setCell _ _ _), hK.set _ _ (by simp <;> omega) (by simp <;> omega) (by simp; omega), ?_, by simpa using hsz, hn2⟩
          rw [lastP_snoc, upsOf_snoc, downsOf_snoc, if_pos ex, if_pos ex]
          exact hA.storeU _
        · have ex : ¬ x.2.2.2 = 1 := by intro e; simp_all
          have ex2 : x.2.2.2 = -1 := by simpa using ‹(x.2.2.2 == -1) = true›
          refine ⟨hO.trans (KeepsOthers.setCell _ _ _), hK.set _ _ (by simp <;> omega) (by simp <;> omega) (by simp; omega), ?_, by simpa using hsz, hn2⟩
          rw [lastP_snoc, upsOf_snoc, downsOf_snoc, if_neg ex, if_neg ex, if_pos ex2]
          exact hA.storeD _
        · have ex : ¬ x.2.2.2 = 1 := by intro e; simp_all
          have ex2 : ¬ x.2.2.2 = -1 := by intro e; simp_all
          refine ⟨hO, hK, ?_, by simpa using hsz, hn2⟩
          rw [lastP_snoc, upsOf_snoc, downsOf_snoc, if_neg ex, if_neg ex, if_neg ex2]
          exact hA
      case done =>
        rintro D ys W hD rfl hs hK
        have q0 := hs.1.q.c0
        have q1 := hs.1.q.c1
        have q2 := hs.1.q.c2
        have g0 := hs.1.q.fr 0
        have g1 := hs.1.q.fr 1
        have g2 := hs.1.q.fr 2
        have u0 := hs.1.u.cell
        have uf := hs.1.u.frozen
        have d0 := hs.1.d.cell
        have df := hs.1.d.frozen
        have HS := Aside0.mk hs
        clear hs
        gi_wp2
        gi_region
        all_goals
          gi_wp2
          obtain ⟨hR, hsz, hn2⟩ := HS.out
          have R5 := hR.store (.int .i64 (lastP ys (a, b, c)).1) (.int .i64 (lastP ys (a, b, c)).2.1) (.int .i64 (lastP ys (a, b, c)).2.2) (.int .i64 (upsOf ys)) (.int .i64 (downsOf ys))
          have hK2 := (((((KeepsOthers.setCell W ⟨w.heap.size + 1, 0, none⟩ (.int .i64 (lastP ys (a, b, c)).1)).trans (KeepsOthers.setCell _ ⟨w.heap.size + 1, 1, none⟩ (.int .i64 (lastP ys (a, b, c)).2.1))).trans (KeepsOthers.setCell _ ⟨w.heap.size + 1, 2, none⟩ (.int .i64 (lastP ys (a, b, c)).2.2))).trans (KeepsOthers.setCell _ ⟨w.heap.size + 1 + 1, 0, none⟩ (.int .i64 (upsOf ys)))).trans (KeepsOthers.setCell _ ⟨w.heap.size + 1 + 1 + 1, 0, none⟩ (.int .i64 (downsOf ys)))).same D _ hK rfl
          refine ⟨by simp, .inl ⟨_, _, rfl, run_takeDeferred (by exact hK2), ?_⟩⟩
          have hs5 : n2 + 1 + 1 ≤ (((((W.setCell ⟨w.heap.size + 1, 0, none⟩ (.int .i64 (lastP ys (a, b, c)).1)).setCell ⟨w.heap.size + 1, 1, none⟩ (.int .i64 (lastP ys (a, b, c)).2.1)).setCell ⟨w.heap.size + 1, 2, none⟩ (.int .i64 (lastP ys (a, b, c)).2.2)).setCell ⟨w.heap.size + 1 + 1, 0, none⟩ (.int .i64 (upsOf ys))).setCell ⟨w.heap.size + 1 + 1 + 1, 0, none⟩ (.int .i64 (downsOf ys))).heap.size := by simpa using hsz
          generalize ((((W.setCell ⟨w.heap.size + 1, 0, none⟩ (.int .i64 (lastP ys (a, b, c)).1)).setCell ⟨w.heap.size + 1, 1, none⟩ (.int .i64 (lastP ys (a, b, c)).2.1)).setCell ⟨w.heap.size + 1, 2, none⟩ (.int .i64 (lastP ys (a, b, c)).2.2)).setCell ⟨w.heap.size + 1 + 1, 0, none⟩ (.int .i64 (upsOf ys))).setCell ⟨w.heap.size + 1 + 1 + 1, 0, none⟩ (.int .i64 (downsOf ys)) = W5 at R5 hs5 ⊢
          have R6 := SwR.grown (W := W5.drew) ⟨R5.q, R5.u, R5.d, R5.b.drew⟩ (grownBy_putObj' W5.drew D (Obj.deferred none)) (fun r e => by cases e; omega) (show w.heap.size + 1 + 1 + 1 + 1 ≤ W5.heap.size by omega)
          exact ⟨.tuple #[.agg #[.int .i64 (lastP ys (a, b, c)).1, .int .i64 (lastP ys (a, b, c)).2.1, .int .i64 (lastP ys (a, b, c)).2.2], .int .i64 (upsOf ys), .int .i64 (downsOf ys), .int .i64 0], sw_res R6 (.int .i64 0) _ rfl rfl rfl rfl, rfl, R6.b⟩
      case stop =>
        rintro D c pre W hD _ h _
        exact h.elim

theorem panel_Swing.calls (k : Nat) (a0_0 : Int) (a0_1 : Int) (a0_2 : Int) (A1 : Option Addr) (c1 : Nat) (l1 : List Int) (r1 : Int) (r2 : Int) (r3 : Int) (r4 : Int) (r5 : Int) (r6 : Int) (w : World) (hr1 : Kd.C (Kd.int .i64) w A1 l1.length l1) (hc1 : l1.length ≤ c1) (h : panel_Swing.f k a0_0 a0_1 a0_2 l1 = some (r1, r2, r3, r4, r5, r6)) :
    Calls Try.prog 11 #[.agg #[.int .i64 a0_0, .int .i64 a0_1, .int .i64 a0_2], .slice A1 l1.length c1] w fun e w' => e = .returned (.tuple #[.agg #[.int .i64 r1, .int .i64 r2, .int .i64 r3], .int .i64 r4, .int .i64 r5, .int .i64 r6]) ∧ Below w.heap.size w w' := by
  obtain ⟨e, he, h⟩ := Option.bind_eq_some_iff.1 h
  by_cases h0 : e = 0
  · subst h0
    rw [if_pos rfl] at h
    by_cases hl : l1.length > 1000
    · rw [if_pos hl] at h
      simp only [Option.some.injEq, Prod.mk.injEq] at h
      obtain ⟨rfl, rfl, rfl, rfl, rfl, rfl⟩ := h
      exact Swing_long k a0_0 a0_1 a0_2 A1 c1 l1 w he hl
    · rw [if_neg hl] at h
      by_cases hk : okL l1 = true
      · rw [if_pos hk] at h
        obtain ⟨xs, hx, h⟩ := Option.map_eq_some_iff.1 h
        simp only [Prod.mk.injEq] at h
        obtain ⟨rfl, rfl, rfl, rfl, rfl, rfl⟩ := h
        exact Swing_yes k a0_0 a0_1 a0_2 A1 c1 l1 xs w hr1 hc1 he (by omega) hk hx
      · rw [if_neg hk] at h
        simp only [Option.some.injEq, Prod.mk.injEq] at h
        obtain ⟨rfl, rfl, rfl, rfl, rfl, rfl⟩ := h
        exact Swing_kind k a0_0 a0_1 a0_2 A1 c1 l1 w hr1 hc1 he (by omega) (Bool.eq_false_iff.mpr hk)
  · rw [if_neg h0] at h
    simp only [Option.some.injEq, Prod.mk.injEq] at h
    obtain ⟨rfl, rfl, rfl, rfl, rfl, rfl⟩ := h
    exact Swing_no k a0_0 a0_1 a0_2 e A1 c1 l1 w he h0

end Go.Proofs.Ytbkidegpgpccfaa.S
