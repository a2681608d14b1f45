/- (*car).step, walked: a tick of a car. -/
import Derived.Test.YtocbjclflabmcaaHback
import Derived.Test.YtocbjclflabmcaaQuietTail
import Derived.RegionIn
import Derived.Shelf.Abstract
import Derived.Shelf.RegionOpen
namespace Go.Proofs.Ytocbjclflabmcaa.S
open Go.RowKit Go.Proofs.YtocbjclflabmcaaW.PrintWords Go.Proofs.YtocbjclflabmcaaW.PrintLast Go.Proofs.YtocbjclflabmcaaW.PrintMore
set_option linter.unusedVariables false
set_option linter.unusedSimpArgs false
attribute [local go_sem] Oper.semAt_some wide_fn wideR_fn
attribute [local simp] wide_fn wideR_fn

/-- A speed that a car may take. -/
def fits (m left v : Int) : Bool := !(decide (v < 0)) && !(decide (m < v)) && !(decide (left < triV v))
def candV (s : Int) : List (Int × Int) := [(2, wrap64 (s + 1)), (1, s), (0, wrap64 (s - 1))]
/-- Place and speed behind a tick. -/
def tickV (p g s m : Int) : Int × Int :=
  if restV p g = 0 then (p, s) else
    match (candV s).find? (fun x => fits m (restV p g) x.2) with
    | none => (p, s)
    | some x => (wrap64 (p + wrap64 (wayV p g * x.2)), if restV (wrap64 (p + wrap64 (wayV p g * x.2))) g = 0 then 0 else x.2)

theorem grown_ext {w W W' : World} {B : Nat} {row : Option Nat} (h : w.grownBy W (some B)) (g : W.grownBy W' row) (hr : ∀ r, row = some r → w.heap.size ≤ r ∨ r = B) : w.grownBy W' (some B) :=
  ⟨g.os.trans h.os, g.tape.trans h.tape, g.output.trans h.output, Nat.le_trans h.size g.size, fun k hk hne => by
    refine (g.block k (Nat.lt_of_lt_of_le hk h.size) (fun e => ?_)).trans (h.block k hk hne)
    rcases hr k e.symm with h1 | h1
    · omega
    · exact hne (by rw [h1])⟩
theorem grown_refl (w : World) (row : Option Nat) : w.grownBy w row := ⟨rfl, rfl, rfl, Nat.le_refl _, fun _ _ _ => rfl⟩
theorem grown_set (w : World) (B o : Nat) (v : Value) : w.grownBy (w.setCell ⟨B, o, none⟩ v) (some B) :=
  ⟨rfl, rfl, rfl, by simp, fun k _ hne => Below.heap_setCell w ⟨B, o, none⟩ v k (fun e => hne (by simpa using e))⟩
theorem grown_own {β : Type} (w : World) (B Bs : Nat) (hb : w.heap.size ≤ Bs) : OwnFrom Bs (fun (_ : β) W => w.grownBy W (some B)) :=
  fun _ _ _ _ hs hg hr => grown_ext hs hg (fun r e => .inl (by have := (hr r e).1; omega))
theorem car_own {β : Type} (B : Nat) (p g s m : Int) : Own (fun (_ : β) W => Car W B p g s m) := fun _ A _ row hs hg hr =>
  (hg.block B hs.lt (fun e' => by obtain ⟨o, ho, hc⟩ := hr _ e'.symm; rw [show A.heap[B]? = _ from hs] at ho; cases ho; cases hc)).trans hs
theorem own_and {β : Type} {I J : β → World → Prop} (h : Own I) (k : Own J) : Own (fun s W => I s W ∧ J s W) := fun s A B row hs hg hr => ⟨h s A B row hs.1 hg hr, k s A B row hs.2 hg hr⟩
theorem snoc_all {α : Type} {f : α → Bool} {pre : List α} {x : α} {b : Bool} (h : ∀ y ∈ pre, f y = b) (hx : f x = b) : ∀ y ∈ pre ++ [x], f y = b := fun y hy => by
  rcases List.mem_append.1 hy with h1 | h1
  · exact h y h1
  · rw [List.mem_singleton.1 h1]; exact hx
theorem own_pure {β : Type} (q : β → Prop) : Own (fun (s : β) (_ : World) => q s) := fun _ _ _ _ hs _ _ => hs
theorem own_ex {α β : Type} {I : α → β → World → Prop} {n : Nat} (h : ∀ x, OwnFrom n (I x)) : OwnFrom n (fun s W => ∃ x, I x s W) := fun s A B row ⟨x, hs⟩ hg hr => ⟨x, h x s A B row hs hg hr⟩
theorem grown_of_below {w W W' : World} {B : Nat} (h : w.grownBy W (some B)) (hb : Below W.heap.size W W') : w.grownBy W' (some B) :=
  grown_ext h (⟨hb.os, hb.tape, hb.output, hb.size, fun k hk _ => hb.block k hk⟩ : W.grownBy W' none) (fun r e => by cases e)

theorem boxed_far {W : World} {B : Nat} {t : TypeId} {v : Value} (h : Boxed W B t v) (p : Addr) (u : Value) (hne : ¬ B = p.block) : Boxed (W.setCell p u) B t v := (Below.heap_setCell W p u B hne).trans h
theorem w9_boxed {W : World} {B : Nat} {t : TypeId} {v : Value} (h : Boxed W B t v) (n : Nat) : Boxed (W.drewN n) B t v := h
theorem find_at {α : Type} {f : α → Bool} {l pre : List α} {x : α} (hp : pre ++ [x] <+: l) (hn : ∀ y ∈ pre, f y = false) (hx : f x = true) : l.find? f = some x := by
  obtain ⟨t, rfl⟩ := hp
  rw [List.append_assoc, List.find?_append, List.find?_eq_none.2 (fun y hy => by rw [hn y hy]; decide)]
  simp [hx]
theorem tick_none {p g s m : Int} (h0 : ¬ restV p g = 0) (h : ∀ x ∈ candV s, fits m (restV p g) x.2 = false) : tickV p g s m = (p, s) := by
  unfold tickV
  rw [if_neg h0, List.find?_eq_none.2 (fun y hy => by rw [h y hy]; decide)]
theorem tick_some {p g s m : Int} {x : Int × Int} {pre : List (Int × Int)} (h0 : ¬ restV p g = 0) (hp : pre ++ [x] <+: candV s) (hn : ∀ y ∈ pre, fits m (restV p g) y.2 = false) (hx : fits m (restV p g) x.2 = true) :
    tickV p g s m = (wrap64 (p + wrap64 (wayV p g * x.2)), if restV (wrap64 (p + wrap64 (wayV p g * x.2))) g = 0 then 0 else x.2) := by
  unfold tickV
  rw [if_neg h0, find_at (f := fun x => fits m (restV p g) x.2) hp hn hx]

def StI (w : World) (B : Nat) (p g s m left : Int) (pre : List (Int × Int)) (W : World) : Prop :=
  (Car W B p g s m ∧ Boxed W w.heap.size 54 (.pointer (some ⟨B, 0, none⟩)) ∧ Boxed W (w.heap.size + 1) 3 (.int .i64 left)) ∧ w.grownBy W (some B) ∧ (∀ x ∈ pre, fits m left x.2 = false)
def StX (w : World) (B : Nat) (p g s m left : Int) (c : Code) (pre : List (Int × Int)) (W : World) : Prop :=
  ∃ x : Int × Int, (Car W B (wrap64 (p + wrap64 (wayV p g * x.2))) g x.2 m ∧ Boxed W w.heap.size 54 (.pointer (some ⟨B, 0, none⟩))) ∧ w.grownBy W (some B) ∧ (c = .exit 0 ∧ ∃ pre', pre = pre' ++ [x] ∧ (∀ y ∈ pre', fits m left y.2 = false) ∧ fits m left x.2 = true)

set_option maxHeartbeats 4000000 in
set_option maxRecDepth 100000 in
theorem step_any (B : Nat) (p g s m : Int) (w : World) (h : Car w B p g s m) : Calls Try.prog 42 #[.pointer (some ⟨B, 0, none⟩)] w fun e w' => e = .returned (.tuple #[]) ∧ Car w' B (tickV p g s m).1 g (tickV p g s m).2 m ∧ w.grownBy w' (some B) := by
  have hu := Try.underlying48
  have hu62 := Try.underlying62
  have H := Aside0.mk h
  have hlt := h.lt
  clear h
  refine (callsIn_wide (n := 9)).1 ?_
  refine callsIn_of_wp_marks Try.func42 rfl trivial ?_ rfl
  simp only [Try.ntmps42, List.size_toArray, List.length_cons, List.length_nil, Nat.reduceAdd, Nat.reduceSub, Array.replicate_succ, Array.replicate_zero, List.push_toArray, List.append_toArray, List.nil_append, List.cons_append]
  rw [wpIn_wide]
  go_wp2_with fail
  refine (rest_any B p g s m _ (H.out.alloc _)).mono ?_
  rintro e w' ⟨rfl, ⟨nd, rfl⟩⟩
  obtain ⟨wa, hwa⟩ : ∃ x, (w.alloc (.cells #[.pointer (some ⟨B, 0, none⟩)] 54)).drewN nd = x := ⟨_, rfl⟩
  have ha1 : Boxed wa w.heap.size 54 (.pointer (some ⟨B, 0, none⟩)) := by rw [← hwa]; exact Boxed.new w 54 _
  have ha2 : Car wa B p g s m := by rw [← hwa]; exact (H.out.alloc _).drewN _
  have ha3 : w.grownBy wa (some B) := by rw [← hwa]; exact grown_ext (World.grownBy_alloc w _ _) (grown_drewN _ _ none) (fun r e => by cases e)
  have sa : wa.heap.size = w.heap.size + 1 := by rw [← hwa]; simp
  rw [hwa]
  clear hwa
  have Ha1 := Aside0.mk ha1
  have Ha2 := Aside0.mk ha2
  have Ha3 := Aside0.mk ha3
  have Sa := Aside0.mk sa
  have cm := ha1.cell
  clear ha1 ha2 ha3 sa
  go_upto_region 2 with (fail)
  obtain ⟨wb, hwb⟩ : ∃ x, wa.alloc (.cells #[.int .i64 (restV p g)] 3) = x := ⟨_, rfl⟩
  have hb1 : Boxed wb w.heap.size 54 (.pointer (some ⟨B, 0, none⟩)) := by rw [← hwb]; exact Ha1.out.alloc _
  have hb2 : Car wb B p g s m := by rw [← hwb]; exact Ha2.out.alloc _
  have hb3 : w.grownBy wb (some B) := by rw [← hwb]; exact grown_ext Ha3.out (World.grownBy_alloc wa _ none) (fun r e => by cases e)
  have hb4 : Boxed wb (w.heap.size + 1) 3 (.int .i64 (restV p g)) := by rw [← hwb, ← Sa.out]; exact Boxed.new wa 3 _
  have sb : wb.heap.size = w.heap.size + 1 + 1 := by rw [← hwb, World.size_alloc, Sa.out]
  rw [hwb, Sa.out]
  clear hwb cm
  have Hb1 := Aside0.mk hb1
  have Hb2 := Aside0.mk hb2
  have Hb3 := Aside0.mk hb3
  have Hb4 := Aside0.mk hb4
  have Sb := Aside0.mk sb
  have cm := hb1.cell
  have cl := hb4.cell
  have c2 := hb2.c2
  clear hb1 hb2 hb3 hb4 sb Ha1 Ha2 Ha3 Sa
  cases d0 : (restV p g == 0) with
  | true =>
    have HD := Aside0.mk (eq_of_beq d0)
    go_wp2_with fail
    have e1 : tickV p g s m = (p, s) := if_pos HD.out
    exact ⟨.tuple #[], results_none rfl _ _ _, rfl, by rw [e1]; exact Hb2.out, Hb3.out⟩
  | false =>
    have HD := Aside0.mk (show ¬ restV p g = 0 by simpa using d0)
    go_wp2_with fail
    go_region_held3 (fun w' => w'.cell? ⟨w.heap.size, 0, none⟩ = some (.pointer (some ⟨B, 0, none⟩)) ∧ w'.cell? ⟨B, 2, none⟩ = some (.int .i64 s)) (go_keep) (fail)
    obtain ⟨wc, hwc⟩ : ∃ x, (wb.alloc (Obj.cells #[.int .i64 (IntKind.i64.wrap (s - 1)), .int .i64 s, .int .i64 (IntKind.i64.wrap (s + 1))] 62)).drew = x := ⟨_, rfl⟩
    have hb1 : Boxed wc w.heap.size 54 (.pointer (some ⟨B, 0, none⟩)) := by rw [← hwc]; exact Hb1.out.alloc _
    have hb2 : Car wc B p g s m := by rw [← hwc]; exact Hb2.out.alloc _
    have hb3 : w.grownBy wc (some B) := by rw [← hwc]; exact grown_ext (grown_ext Hb3.out (World.grownBy_alloc wb _ none) (fun r e => by cases e)) (grown_drewN _ 1 none) (fun r e => by cases e)
    have hb4 : Boxed wc (w.heap.size + 1) 3 (.int .i64 (restV p g)) := by rw [← hwc]; exact Hb4.out.alloc _
    have hb5 : Blk3 wc (w.heap.size + 1 + 1) 62 (.int .i64 (IntKind.i64.wrap (s - 1))) (.int .i64 s) (.int .i64 (IntKind.i64.wrap (s + 1))) := by rw [← hwc, ← Sb.out]; exact Blk3.new wb 62 _ _ _
    simp only [i64_w] at hb5
    have sc : wc.heap.size = w.heap.size + 1 + 1 + 1 := by rw [← hwc, ← Sb.out]; exact World.size_alloc wb _
    rw [hwc, Sb.out]
    clear hwc cm cl c2
    have Hc1 := Aside0.mk hb1
    have Hc2 := Aside0.mk hb2
    have Hc3 := Aside0.mk hb3
    have Hc4 := Aside0.mk hb4
    have Hc5 := Aside0.mk hb5
    have Sc := Aside0.mk sc
    clear hb1 hb2 hb3 hb4 hb5 sc Hb1 Hb2 Hb3 Hb4 Sb
    go_wp2_with fail
    refine (back_any _ _ _ _).mono ?_
    rintro e w' ⟨rfl, rfl⟩
    obtain ⟨wd, hwd⟩ : ∃ x, wc.alloc (.cells #[.slice (some ⟨w.heap.size + 1 + 1, 0, none⟩) 3 3] 34) = x := ⟨_, rfl⟩
    have hb1 : Boxed wd w.heap.size 54 (.pointer (some ⟨B, 0, none⟩)) := by rw [← hwd]; exact Hc1.out.alloc _
    have hb2 : Car wd B p g s m := by rw [← hwd]; exact Hc2.out.alloc _
    have hb3 : w.grownBy wd (some B) := by rw [← hwd]; exact grown_ext Hc3.out (World.grownBy_alloc wc _ none) (fun r e => by cases e)
    have hb4 : Boxed wd (w.heap.size + 1) 3 (.int .i64 (restV p g)) := by rw [← hwd]; exact Hc4.out.alloc _
    have hb5 : Blk3 wd (w.heap.size + 1 + 1) 62 (.int .i64 (wrap64 (s - 1))) (.int .i64 s) (.int .i64 (wrap64 (s + 1))) := by rw [← hwd]; exact Hc5.out.alloc _
    have hb6 : Boxed wd (w.heap.size + 1 + 1 + 1) 34 (.slice (some ⟨w.heap.size + 1 + 1, 0, none⟩) 3 3) := by rw [← hwd, ← Sc.out]; exact Boxed.new wc 34 _
    have sd : wd.heap.size = w.heap.size + 1 + 1 + 1 + 1 := by rw [← hwd, World.size_alloc, Sc.out]
    rw [hwd, Sc.out]
    clear hwd
    have H1 := Aside0.mk hb1
    have H2 := Aside0.mk hb2
    have H3 := Aside0.mk hb3
    have H4 := Aside0.mk hb4
    have Sd := Aside0.mk sd
    clear hb1 hb2 hb3 hb4 sd Hc1 Hc2 Hc3 Hc4 Hc5 Sc
    go_wp2_with fail
    rw [← wpIn_wide (n := 9)]
    refine wpIn_rangeFunc_ownF rfl (by omega) (gf := 55) (lb := #[.pointer (some ⟨w.heap.size + 1 + 1 + 1, 0, none⟩)]) rfl trivial (enters_of Try.func55 (by kernel_rfl) rfl)
      (back_stops (9 - 1) (by omega) (w.heap.size + 1 + 1 + 1) (w.heap.size + 1 + 1) (wrap64 (s - 1)) s (wrap64 (s + 1)) wd hb6 hb5) keep2_t
      (fun W l o o' hl _ _ _ => keep2_b (w := wd) (by have := Sd.out; omega) (by have := Sd.out; omega) W l o o' hl) (Below.refl _ _) (fun _ => rfl)
      (StI w B p g s m (restV p g)) (StX w B p g s m (restV p g)) ?hI ?hIx ?h0 ?a1 ?assign ?body ?done ?stop
    case assign =>
      intro l x W K hK
      unfold encB
      gi_wp2
      exact hK
    case hI => exact OwnFrom.and ((own_and (car_own B p g s m) (own_and (boxed_own _ _ (fun _ => _)) (boxed_own _ _ (fun _ => _)))).from _) (OwnFrom.and (grown_own w B _ (by have := Sd.out; omega)) ((own_pure _).from _))
    case hIx => exact fun c => own_ex fun x => OwnFrom.and ((own_and (car_own B _ g _ m) (boxed_own _ _ (fun _ => _))).from _) (OwnFrom.and (grown_own w B _ (by have := Sd.out; omega)) ((own_pure _).from _))
    case h0 => exact ⟨⟨H2.out, H1.out, H4.out⟩, H3.out, by simp⟩
    case body =>
      rintro l pre x W ⟨⟨h1, h2, h3⟩, h4, h5⟩ hlen
      have hmx : Try.prog.follows .mixedOrders = true := by kernel_rfl
      have cm := h2.cell
      have cl := h3.cell
      have k0 := h1.c0
      have k3 := h1.c3
      have k2 := h1.c2
      have f0 := h1.fr 0
      have f2 := h1.fr 2
      have HC := Aside0.mk h1
      have HB := Aside0.mk h2
      have HL := Aside0.mk h3
      have HG := Aside0.mk h4
      have HA := Aside0.mk h5
      clear h1 h2 h3 h4 h5
      cases d1 : decide (x.2 < 0) with
      | true =>
        have e1 := Aside0.mk (show fits m (restV p g) x.2 = false by unfold fits; rw [d1]; rfl)
        gi_wp2
        refine wpIn_region_quietR (by kernel_rfl) (by kernel_rfl) (by kernel_rfl) ?_
        repeat (gi_big_quiet_step (fail))
        refine wpQuietIn_nil ?_
        intro _ hw'
        obtain ⟨nq, hw''⟩ := hw'
        subst hw''
        gi_wp2
        exact ⟨⟨Nat.le_refl _, fun _ _ h _ => h⟩, keep2_drewN W nq, ⟨HC.out.drewN _, HB.out, HL.out⟩, grown_ext HG.out (grown_drewN _ _ none) (fun r e => by cases e), snoc_all HA.out e1.out⟩
      | false =>
        cases d2 : decide (m < x.2) with
        | true =>
          have e1 := Aside0.mk (show fits m (restV p g) x.2 = false by unfold fits; rw [d1, d2]; rfl)
          gi_wp2
          refine wpIn_region_quietR (by kernel_rfl) (by kernel_rfl) (by kernel_rfl) ?_
          repeat (gi_big_quiet_step (fail))
          refine wpQuietIn_nil ?_
          intro _ hw'
          obtain ⟨nq, hw''⟩ := hw'
          subst hw''
          gi_wp2
          exact ⟨⟨Nat.le_refl _, fun _ _ h _ => h⟩, keep2_drewN W nq, ⟨HC.out.drewN _, HB.out, HL.out⟩, grown_ext HG.out (grown_drewN _ _ none) (fun r e => by cases e), snoc_all HA.out e1.out⟩
        | false =>
          cases d3 : decide (restV p g < triV x.2) with
          | true =>
            have e1 := Aside0.mk (show fits m (restV p g) x.2 = false by unfold fits; rw [d1, d2, d3]; rfl)
            gi_wp2
            refine wpIn_region_quietR (by kernel_rfl) (by kernel_rfl) (by kernel_rfl) ?_
            repeat (gi_big_quiet_step ((gi_at_call 38; exact CallsIn.inRound l (callsIn_wide.2 (tri_q _ _ _)))))
            refine wpQuietIn_nil ?_
            intro _ hw'
            obtain ⟨nq, hw''⟩ := hw'
            subst hw''
            gi_wp2
            exact ⟨⟨Nat.le_refl _, fun _ _ h _ => h⟩, keep2_drewN W nq, ⟨HC.out.drewN _, HB.out, HL.out⟩, grown_ext HG.out (grown_drewN _ _ none) (fun r e => by cases e), snoc_all HA.out e1.out⟩
          | false =>
            have e1 := Aside0.mk (show fits m (restV p g) x.2 = true by unfold fits; rw [d1, d2, d3]; rfl)
            gi_wp2
            refine wpIn_region_quietR (by kernel_rfl) (by kernel_rfl) (by kernel_rfl) ?_
            repeat (gi_big_quiet_step ((gi_at_call 38; exact CallsIn.inRound l (callsIn_wide.2 (tri_q _ _ _)))))
            refine wpQuietIn_nil ?_
            intro _ hw'
            obtain ⟨nq, hw''⟩ := hw'
            subst hw''
            gi_wp2
            have hne1 : ¬ w.heap.size = B := by omega
            have hne2 : ¬ B = w.heap.size := by omega
            obtain ⟨W1, hW1⟩ : ∃ x, W.drewN nq = x := ⟨_, rfl⟩
            have h1 : Car W1 B p g s m := by rw [← hW1]; exact HC.out
            have h2 : Boxed W1 w.heap.size 54 (.pointer (some ⟨B, 0, none⟩)) := by rw [← hW1]; exact HB.out
            have h4 : w.grownBy W1 (some B) := by rw [← hW1]; exact grown_ext HG.out (grown_drewN _ _ none) (fun r e => by cases e)
            have hko : KeepsOthers W W1 := by rw [← hW1]; exact ⟨Nat.le_refl _, fun _ _ h _ => h⟩
            rw [hW1]
            clear hW1 cm cl k0 k2 k3 f0 f2
            have cm := h2.cell
            have k0 := h1.c0
            have k2 := h1.c2
            have f0 := h1.fr 0
            have f2 := h1.fr 2
            have HC1 := Aside0.mk h1
            have HB1 := Aside0.mk h2
            have HG1 := Aside0.mk h4
            have HK1 := Aside0.mk hko
            clear h1 h2 h4 hko
            refine wpIn_region_quiet_tail 11 (by kernel_rfl) (by kernel_rfl) (by kernel_rfl) ?_
            simp only [List.take_succ_cons, List.take_zero, List.drop_succ_cons, List.drop_zero]
            repeat (gi_big_quiet_step ((gi_at_call 47; exact CallsIn.inRound l (callsIn_wide.2 (way_q B p g s m _ _ HC1.out)))))
            refine wpQuietIn_nil ?_
            intro _ hw'
            obtain ⟨nr, hw''⟩ := hw'
            subst hw''
            gi_wp2
            exact ⟨((HK1.out.trans (show KeepsOthers W1 (W1.drewN nr) from ⟨Nat.le_refl _, fun _ _ h _ => h⟩)).trans (KeepsOthers.setCell _ _ _)).trans (KeepsOthers.setCell _ _ _), x, ⟨((HC1.out.drewN nr).setPos _).setSpeed _, boxed_far (boxed_far (w9_boxed HB1.out nr) _ _ hne1) _ _ hne1⟩,
              grown_ext (grown_ext (grown_ext HG1.out (grown_drewN _ nr none) (fun r e => by cases e)) (grown_set _ B 0 _) (fun r e => .inr (by cases e; rfl))) (grown_set _ B 2 _) (fun r e => .inr (by cases e; rfl)), rfl, pre, rfl, HA.out, e1.out⟩
    case done =>
      rintro D xs W hD rfl ⟨⟨h1, h2, h3⟩, h4, h5⟩ hK
      have cm := h2.cell
      have HC := Aside0.mk h1
      have HG := Aside0.mk h4
      have HA := Aside0.mk h5
      have HK := Aside0.mk hK
      clear h1 h2 h3 h4 h5 hK
      go_wp2_with fail
      refine (rest_any B p g s m _ HC.out).mono ?_
      rintro e w' ⟨rfl, ⟨nr, rfl⟩⟩
      go_wp2_with fail
      refine ⟨by simp, .inl ⟨_, _, rfl, run_takeDeferred (by exact HK.out), ?_⟩⟩
      have e1 : tickV p g s m = (p, s) := tick_none HD.out HA.out
      have hbD : ¬ B = D := by have := Sd.out; omega
      exact ⟨.tuple #[], results_none rfl _ _ _, rfl, by rw [e1]; exact (World.putObj_heap_other hbD).trans (HC.out.drewN nr), grown_ext (grown_ext HG.out (grown_drewN _ nr none) (fun r e => by cases e)) (grownBy_putObj' _ D _) (fun r e => .inl (by cases e; have := Sd.out; omega))⟩
    case stop =>
      rintro D c pre W hD hpre ⟨x, ⟨h1, h2⟩, h4, rfl, pre', rfl, h5, h6⟩ hK
      have cm := h2.cell
      have e1 := Aside0.mk (tick_some (p := p) (g := g) (s := s) (m := m) HD.out hpre h5 h6)
      have HC := Aside0.mk h1
      have HB := Aside0.mk h2
      have HG := Aside0.mk h4
      have HK := Aside0.mk hK
      have hne1 : ¬ w.heap.size = B := by omega
      have hne2 : ¬ B = w.heap.size := by omega
      clear h1 h4 h5 h6 hK hpre
      rw [wpIn_wide]
      go_wp2_with fail
      refine (rest_any B _ g _ m _ HC.out).mono ?_
      rintro e w' ⟨rfl, ⟨nr, rfl⟩⟩
      have k2 := HC.out.c2
      have f2 := HC.out.fr 2
      have hbD : ¬ B = D := by have := Sd.out; omega
      cases d5 : (restV (wrap64 (p + wrap64 (wayV p g * x.2))) g == 0) with
      | true =>
        have e2 := Aside0.mk (eq_of_beq d5)
        go_wp2_with fail
        refine ⟨by simp, .inl ⟨_, _, rfl, run_takeDeferred (by exact (Below.heap_setCell (W.drewN nr) ⟨B, 2, none⟩ _ D (fun e => hbD e.symm)).trans HK.out), ?_⟩⟩
        refine ⟨.tuple #[], results_none rfl _ _ _, rfl, ?_, grown_ext (grown_ext (grown_ext HG.out (grown_drewN _ nr none) (fun r e => by cases e)) (grown_set _ B 2 _) (fun r e => .inr (by cases e; rfl))) (grownBy_putObj' _ D _) (fun r e => .inl (by cases e; have := Sd.out; omega))⟩
        rw [e1.out, if_pos e2.out]
        exact (World.putObj_heap_other hbD).trans ((HC.out.drewN nr).setSpeed _)
      | false =>
        have e2 := Aside0.mk (show ¬ restV (wrap64 (p + wrap64 (wayV p g * x.2))) g = 0 by simpa using d5)
        go_wp2_with fail
        refine ⟨by simp, .inl ⟨_, _, rfl, run_takeDeferred (by exact HK.out), ?_⟩⟩
        refine ⟨.tuple #[], results_none rfl _ _ _, rfl, ?_, grown_ext (grown_ext HG.out (grown_drewN _ nr none) (fun r e => by cases e)) (grownBy_putObj' _ D _) (fun r e => .inl (by cases e; have := Sd.out; omega))⟩
        rw [e1.out, if_neg e2.out]
        exact (World.putObj_heap_other hbD).trans (HC.out.drewN nr)

end Go.Proofs.Ytocbjclflabmcaa.S
