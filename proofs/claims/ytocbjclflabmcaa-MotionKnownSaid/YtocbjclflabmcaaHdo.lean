/- motion.do, walked for one change. -/
import Derived.Test.YtocbjclflabmcaaHstep
namespace Go.Proofs.Ytocbjclflabmcaa.S
open Go.RowKit Go.Proofs.YtocbjclflabmcaaW.PrintWords Go.Proofs.YtocbjclflabmcaaW.PrintLast Go.Proofs.YtocbjclflabmcaaW.PrintMore
set_option linter.unusedVariables false
set_option linter.unusedSimpArgs false

/-- A motion in memory. -/
def Mot (w : World) (B : Nat) (p g s m : Int) : Prop := w.heap[B]? = some (.cells #[.int .i64 p, .int .i64 g, .int .i64 s, .int .i64 m] 23 (0, 0))
theorem Mot.c0 {w : World} {B : Nat} {p g s m : Int} (h : Mot w B p g s m) : w.cell? ⟨B, 0, none⟩ = some (.int .i64 p) := by unfold Mot at h; simp [World.cell?, h]
theorem Mot.c1 {w : World} {B : Nat} {p g s m : Int} (h : Mot w B p g s m) : w.cell? ⟨B, 1, none⟩ = some (.int .i64 g) := by unfold Mot at h; simp [World.cell?, h]
theorem Mot.c2 {w : World} {B : Nat} {p g s m : Int} (h : Mot w B p g s m) : w.cell? ⟨B, 2, none⟩ = some (.int .i64 s) := by unfold Mot at h; simp [World.cell?, h]
theorem Mot.c3 {w : World} {B : Nat} {p g s m : Int} (h : Mot w B p g s m) : w.cell? ⟨B, 3, none⟩ = some (.int .i64 m) := by unfold Mot at h; simp [World.cell?, h]
theorem Mot.fr {w : World} {B : Nat} {p g s m : Int} (h : Mot w B p g s m) (o : Nat) : w.frozen? ⟨B, o, none⟩ = false := by unfold Mot at h; simp [World.frozen?, h]
theorem Mot.lt {w : World} {B : Nat} {p g s m : Int} (h : Mot w B p g s m) : B < w.heap.size := (Array.getElem?_eq_some_iff.1 h).1
theorem Mot.below {w w' : World} {B n : Nat} {p g s m : Int} (h : Mot w B p g s m) (hb : Below n w w') (hn : B < n) : Mot w' B p g s m := (hb.block B hn).trans h
theorem Mot.alloc {w : World} {B : Nat} {p g s m : Int} (h : Mot w B p g s m) (o : Obj) : Mot (w.alloc o) B p g s m := (Below.heap_alloc w o B h.lt).trans h
theorem Mot.drewN {w : World} {B : Nat} {p g s m : Int} (h : Mot w B p g s m) (n : Nat) : Mot (w.drewN n) B p g s m := h
theorem Mot.new (w : World) (p g s m : Int) : Mot (w.alloc (.cells #[.int .i64 p, .int .i64 g, .int .i64 s, .int .i64 m] 23)) w.heap.size p g s m := heap_alloc_new w _
theorem Mot.far {w : World} {B : Nat} {p g s m : Int} (h : Mot w B p g s m) (a : Addr) (u : Value) (hne : ¬ B = a.block) : Mot (w.setCell a u) B p g s m := (Below.heap_setCell w a u B hne).trans h
/-- All four cells written anew. -/
theorem Mot.set4 {w : World} {B : Nat} {p g s m : Int} (h : Mot w B p g s m) (p' g' s' m' : Int) : Mot ((((w.setCell ⟨B, 0, none⟩ (.int .i64 p')).setCell ⟨B, 1, none⟩ (.int .i64 g')).setCell ⟨B, 2, none⟩ (.int .i64 s')).setCell ⟨B, 3, none⟩ (.int .i64 m')) B p' g' s' m' := by
  unfold Mot at h ⊢
  obtain ⟨hl, he⟩ := Array.getElem?_eq_some_iff.1 h
  simp [World.setCell, hl, Array.getElem_modify, he]
theorem grown_set4 (w : World) (B : Nat) (x y z u : Value) : w.grownBy ((((w.setCell ⟨B, 0, none⟩ x).setCell ⟨B, 1, none⟩ y).setCell ⟨B, 2, none⟩ z).setCell ⟨B, 3, none⟩ u) (some B) :=
  grown_ext (grown_ext (grown_ext (grown_set _ _ _ _) (grown_set _ _ _ _) (fun r e => .inr (by cases e; rfl))) (grown_set _ _ _ _) (fun r e => .inr (by cases e; rfl))) (grown_set _ _ _ _) (fun r e => .inr (by cases e; rfl))
theorem mot_res {w : World} {B : Nat} {p g s m : Int} (h : Mot w B p g s m) (e : Value) (fn : Func) (hr : fn.results = #[.cell 4 23, .tmp 5]) (tmps : Array Value) (h4 : tmps[4]? = some (.pointer (some ⟨B, 0, none⟩))) (h5 : tmps[5]? = some e) :
    (results fn tmps).run Try.prog w = .ok (.tuple #[.agg #[.int .i64 p, .int .i64 g, .int .i64 s, .int .i64 m], e]) w := by
  have hu := Try.underlying23
  have c0 := h.c0
  have c1 := h.c1
  have c2 := h.c2
  have c3 := h.c3
  simp [results, hr, go_sem, h4, h5, c0, c1, c2, c3, hu]

/-- W' is W with new blocks; of what lay before it may have turned two. -/
structure G2 (W W' : World) (B : Nat) (row : Option Nat) : Prop where
  os : W'.os = W.os
  tape : W'.tape = W.tape
  output : W'.output = W.output
  size : W.heap.size ≤ W'.heap.size
  block : ∀ k, k < W.heap.size → k ≠ B → some k ≠ row → W'.heap[k]? = W.heap[k]?
theorem G2.of {W W' : World} {B : Nat} (h : W.grownBy W' (some B)) (row : Option Nat) : G2 W W' B row := ⟨h.os, h.tape, h.output, h.size, fun k hk hB _ => h.block k hk (fun e => hB (Option.some.inj e))⟩

set_option maxHeartbeats 1000000 in
set_option maxRecDepth 100000 in
theorem do_no (p g s m e1 : Int) (A : Nat) (w : World) (h : motion_Check.f p g s m = some e1) (he : ¬ e1 = 0) :
    Calls Try.prog 41 #[.agg #[.int .i64 p, .int .i64 g, .int .i64 s, .int .i64 m], .slice (some ⟨A, 0, none⟩) 1 1] w fun e w' => e = .returned (.tuple #[.agg #[.int .i64 0, .int .i64 0, .int .i64 0, .int .i64 0], .int .i64 e1]) ∧ Below w.heap.size w w' := by
  have hu := Try.underlying48
  have hu23 := Try.underlying23
  have H := Aside0.mk h
  have n4 : (e1 != 0) = true := bne_iff_ne.mpr he
  clear h he
  go_enter Try.func41, Try.ntmps41
  go_wp2_with fail
  refine (motion_Check.calls p g s m e1 _ H.out).mono ?_
  rintro e w1 ⟨rfl, hb⟩
  have hn := Mot.new (w.alloc (.cells #[.int .i64 p, .int .i64 g, .int .i64 s, .int .i64 m] 23)) 0 0 0 0
  rw [World.size_alloc] at hn
  have hM := hn.below hb (by simp)
  have HM := Aside0.mk hM
  have HB := Aside0.mk ((((Below.refl _ w).alloc (Nat.le_refl _) (.cells #[.int .i64 p, .int .i64 g, .int .i64 s, .int .i64 m] 23)).alloc (by simp) (.cells #[.int .i64 0, .int .i64 0, .int .i64 0, .int .i64 0] 23)).trans (hb.mono (by simp; omega)))
  have c0 := hM.c0
  have c1 := hM.c1
  have c2 := hM.c2
  have c3 := hM.c3
  have f0 := hM.fr 0
  have f1 := hM.fr 1
  have f2 := hM.fr 2
  have f3 := hM.fr 3
  clear hn hM hb
  go_wp2_with fail
  refine bodyPost_ret (v := .tuple #[.agg #[.int .i64 0, .int .i64 0, .int .i64 0, .int .i64 0], .int .i64 e1]) (mot_res (HM.out.set4 0 0 0 0) (.int .i64 e1) _ rfl _ rfl rfl) rfl ⟨rfl, ?_⟩
  exact (((HB.out.setCell (p := ⟨w.heap.size + 1, 0, none⟩) (by simp) _).setCell (p := ⟨w.heap.size + 1, 1, none⟩) (by simp) _).setCell (p := ⟨w.heap.size + 1, 2, none⟩) (by simp) _).setCell (p := ⟨w.heap.size + 1, 3, none⟩) (by simp) _

/-- What do comes to. -/
def DoSome (Z : Int → Int → Int → Prop) (m : Int) (w : World) (row : Option Nat) (J : World → Prop) (e : Ending) (w' : World) : Prop :=
  ∃ p' g' s', Z p' g' s' ∧ e = .returned (.tuple #[.agg #[.int .i64 p', .int .i64 g', .int .i64 s', .int .i64 m], .int .i64 0]) ∧ w.grownBy w' row ∧ J w'

set_option maxHeartbeats 4000000 in
set_option maxRecDepth 100000 in
theorem do_some (p g s m : Int) (A gf : Nat) (cap : Array Value) (row : Option Nat) (Z : Int → Int → Int → Prop) (J : World → Prop) (w : World) (h : motion_Check.f p g s m = some 0) (hA : A < w.heap.size) (hcell : w.cell? ⟨A, 0, none⟩ = some (.func (.func gf) #[] cap))
    (hrow : ∀ r, row = some r → r < w.heap.size) (eg : ∀ args w, (callFunc gf args).run Try.prog w = .ok (.enter gf args) w)
    (hg : ∀ B W, w.heap.size ≤ B → Below w.heap.size w W → Car W B p g s m → Calls Try.prog gf (#[.pointer (some ⟨B, 0, none⟩)] ++ cap) W fun e W' => e = .returned (.tuple #[]) ∧ (∃ p' g' s', Z p' g' s' ∧ Car W' B p' g' s' m) ∧ G2 W W' B row ∧ J W')
    (hJ : ∀ W W', J W → (∀ r, row = some r → W'.heap[r]? = W.heap[r]?) → J W') :
    Calls Try.prog 41 #[.agg #[.int .i64 p, .int .i64 g, .int .i64 s, .int .i64 m], .slice (some ⟨A, 0, none⟩) 1 1] w (DoSome Z m w row J) := by
  have hu := Try.underlying48
  have hu23 := Try.underlying23
  have H := Aside0.mk h
  have HG := Aside0.mk hg
  have HJ := Aside0.mk hJ
  have HROW := Aside0.mk hrow
  have HCL := Aside0.mk hcell
  have EG := Aside0.mk eg
  clear h hg hJ hrow hcell eg
  go_enter Try.func41, Try.ntmps41
  go_wp2_with fail
  refine (motion_Check.calls p g s m 0 _ H.out).mono ?_
  rintro e w1 ⟨rfl, hb⟩
  have hm0 := (Mot.new w p g s m).alloc (.cells #[.int .i64 0, .int .i64 0, .int .i64 0, .int .i64 0] 23)
  have hn := Mot.new (w.alloc (.cells #[.int .i64 p, .int .i64 g, .int .i64 s, .int .i64 m] 23)) 0 0 0 0
  rw [World.size_alloc] at hn
  have HM := Aside0.mk (hn.below hb (by simp))
  have hM0 := hm0.below hb (by simp; omega)
  have HB := Aside0.mk ((((Below.refl _ w).alloc (Nat.le_refl _) (.cells #[.int .i64 p, .int .i64 g, .int .i64 s, .int .i64 m] 23)).alloc (by simp) (.cells #[.int .i64 0, .int .i64 0, .int .i64 0, .int .i64 0] 23)).trans (hb.mono (by simp; omega)))
  have hsz : w.heap.size + 1 + 1 ≤ w1.heap.size := by have := hb.size; simp at this; omega
  have c0 := hM0.c0
  have c1 := hM0.c1
  have c2 := hM0.c2
  have c3 := hM0.c3
  clear hm0 hn hM0 hb
  go_upto_region 5 with (fail)
  obtain ⟨w2, hw2⟩ : ∃ x, w1.alloc (Obj.cells #[.int .i64 p, .int .i64 g, .int .i64 s, .int .i64 m] 48) = x := ⟨_, rfl⟩
  obtain ⟨B, hB⟩ : ∃ x, w1.heap.size = x := ⟨_, rfl⟩
  have hC2 : Car w2 B p g s m := by rw [← hw2, ← hB]; exact Car.new w1 p g s m
  have hB2 : Below w.heap.size w w2 := by rw [← hw2]; exact HB.out.alloc (by omega) _
  have hM2 : Mot w2 (w.heap.size + 1) 0 0 0 0 := by rw [← hw2]; exact HM.out.alloc _
  have hBs : w.heap.size + 1 + 1 ≤ B := by omega
  rw [hw2, hB]
  clear hw2 hB hsz HB HM c0 c1 c2 c3 w1
  have HC2 := Aside0.mk hC2
  have HB2 := Aside0.mk hB2
  have HM2 := Aside0.mk hM2
  clear hC2 hB2 hM2
  go_wp2_with fail
  go_loopw [19] (fun v wr => (v = .int .i64 0 ∧ Aside0 (Car wr B p g s m ∧ Below w.heap.size w wr ∧ Mot wr (w.heap.size + 1) 0 0 0 0)) ∨ (v = .int .i64 1 ∧ Aside0 ((∃ p' g' s', Z p' g' s' ∧ Car wr B p' g' s' m) ∧ w.grownBy wr row ∧ Mot wr (w.heap.size + 1) 0 0 0 0 ∧ J wr))) (fun v _ => (1 - intOf v).toNat)
  case atStart => exact .inl ⟨rfl, ⟨HC2.out, HB2.out, HM2.out⟩⟩
  case round =>
    rcases hrel with ⟨rfl, hs⟩ | ⟨rfl, hs⟩
    · have hc : wr.cell? ⟨A, 0, none⟩ = some (.func (.func gf) #[] cap) := (hs.out.2.1.cell (p := ⟨A, 0, none⟩) hA).trans HCL.out
      have eg := EG.out
      have hg := HG.out B wr (by omega) hs.out.2.1 hs.out.1
      have HG1 := Aside0.mk hg
      clear hg
      go_wp2_with (go_at_fn gf; refine HG1.out.mono ?_; rintro e w3 ⟨rfl, hC3, hG3, hJ3⟩; have HC3 := Aside0.mk hC3; have HG3 := Aside0.mk hG3; have HJ3 := Aside0.mk hJ3; clear hC3 hG3 hJ3)
      go_roundw
      case rel =>
        refine .inr ⟨rfl, ⟨HC3.out, ?_, ?_, HJ3.out⟩⟩
        · have h1 := hs.out.2.1
          have h2 := HG3.out
          refine ⟨h2.os.trans h1.os, h2.tape.trans h1.tape, h2.output.trans h1.output, Nat.le_trans h1.size h2.size, fun k hk hne => ?_⟩
          exact (h2.block k (Nat.lt_of_lt_of_le hk h1.size) (by omega) hne).trans (h1.block k hk)
        · refine (HG3.out.block (w.heap.size + 1) hs.out.2.2.lt (by omega) (fun e => ?_)).trans hs.out.2.2
          have := HROW.out _ e.symm
          omega
      case measure => simp [intOf]
    · obtain ⟨p', g', s', hz, hcar⟩ := hs.out.1
      have HZ := Aside0.mk hz
      have c0 := hcar.c0
      have c1 := hcar.c1
      have c2 := hcar.c2
      have c3 := hcar.c3
      clear hz hcar
      have hM := hs.out.2.2.1
      have x0 := hM.c0
      have x1 := hM.c1
      have x2 := hM.c2
      have x3 := hM.c3
      have f0 := hM.fr 0
      have f1 := hM.fr 1
      have f2 := hM.fr 2
      have f3 := hM.fr 3
      have HM := Aside0.mk hM
      clear hM
      go_wp2_with fail
      refine bodyPost_ret (v := .tuple #[.agg #[.int .i64 p', .int .i64 g', .int .i64 s', .int .i64 m], .int .i64 0]) (mot_res (HM.out.set4 p' g' s' m) (.int .i64 0) _ rfl _ rfl rfl) rfl ⟨p', g', s', HZ.out, rfl, ?_, ?_⟩
      · have h1 := hs.out.2.1
        have h2 := grown_set4 wr (w.heap.size + 1) (.int .i64 p') (.int .i64 g') (.int .i64 s') (.int .i64 m)
        exact ⟨h2.os.trans h1.os, h2.tape.trans h1.tape, h2.output.trans h1.output, Nat.le_trans h1.size h2.size, fun k hk hne => (h2.block k (Nat.lt_of_lt_of_le hk h1.size) (fun e => by cases e; omega)).trans (h1.block k hk hne)⟩
      · refine HJ.out _ _ hs.out.2.2.2 (fun r e => ?_)
        have hr := HROW.out r e
        have h2 := grown_set4 wr (w.heap.size + 1) (.int .i64 p') (.int .i64 g') (.int .i64 s') (.int .i64 m)
        exact h2.block r (Nat.lt_of_lt_of_le hr hs.out.2.1.size) (fun e => by cases e; omega)

theorem do_yes (p g s m p' g' s' : Int) (A gf : Nat) (cap : Array Value) (w : World) (h : motion_Check.f p g s m = some 0) (hA : A < w.heap.size) (hcell : w.cell? ⟨A, 0, none⟩ = some (.func (.func gf) #[] cap))
    (eg : ∀ args w, (callFunc gf args).run Try.prog w = .ok (.enter gf args) w)
    (hg : ∀ B W, w.heap.size ≤ B → Below w.heap.size w W → Car W B p g s m → Calls Try.prog gf (#[.pointer (some ⟨B, 0, none⟩)] ++ cap) W fun e W' => e = .returned (.tuple #[]) ∧ Car W' B p' g' s' m ∧ W.grownBy W' (some B)) :
    Calls Try.prog 41 #[.agg #[.int .i64 p, .int .i64 g, .int .i64 s, .int .i64 m], .slice (some ⟨A, 0, none⟩) 1 1] w fun e w' => e = .returned (.tuple #[.agg #[.int .i64 p', .int .i64 g', .int .i64 s', .int .i64 m], .int .i64 0]) ∧ Below w.heap.size w w' :=
  (do_some p g s m A gf cap none (fun a b c => a = p' ∧ b = g' ∧ c = s') (fun _ => True) w h hA hcell (fun r e => by cases e) eg
    (fun B W hB hb hc => (hg B W hB hb hc).mono fun _ _ ⟨he, hc2, hg2⟩ => ⟨he, ⟨_, _, _, ⟨rfl, rfl, rfl⟩, hc2⟩, G2.of hg2 _, trivial⟩) (fun _ _ h _ => h)).mono
    fun _ _ ⟨_, _, _, ⟨h1, h2, h3⟩, he, hgr, _⟩ => by subst h1; subst h2; subst h3; exact ⟨he, ⟨hgr.os, hgr.tape, hgr.output, hgr.size, fun k hk => hgr.block k hk (by simp)⟩⟩

end Go.Proofs.Ytocbjclflabmcaa.S
