/- panel.told, walked: an order, and the deferred closure that lets a panel be still at an end. -/
import Derived.Outline
import Derived.Defers
import Derived.Recover
import Derived.Test.YtbkidegpgpccfaaIter
import Derived.Test.YtbkidegpgpccfaaS2
namespace Go.Proofs.Ytbkidegpgpccfaa.S
open Go.RowKit Go.Proofs.YtbkidegpgpccfaaW.PrintWords Go.Proofs.YtbkidegpgpccfaaW.PrintLast Go.Proofs.YtbkidegpgpccfaaW.PrintMore
set_option linter.unusedVariables false
set_option linter.unusedSimpArgs false

/-- The way behind an order. -/
def turned (o v : Int) : Int := if o = 2 then -1 else if o = 1 then 1 else if o = 3 then 0 else if o = 4 then wrap64 (-v) else v
def panel_told.f (a0_0 a0_1 a0_2 a1 : Int) : Option (Int × Int × Int) :=
  (panel_ends.f a0_0 a0_1 (turned a1 a0_2)).map fun b => (a0_0, a0_1, if b = true then 0 else turned a1 a0_2)

theorem ends_any (a b c : Int) (r : Bool) (h : panel_ends.f a b c = some r) (w : World) : Calls Try.prog 42 #[.agg #[.int .i64 a, .int .i64 b, .int .i64 c]] w fun e w' => e = .returned (.bool r) ∧ Below w.heap.size w w' := panel_ends.calls a b c r w h

/-- A block of three cells. -/
def Blk3 (w : World) (B : Nat) (t : TypeId) (x y z : Value) : Prop := w.heap[B]? = some (.cells #[x, y, z] t (0, 0))
theorem Blk3.c0 {w : World} {B : Nat} {t : TypeId} {x y z : Value} (h : Blk3 w B t x y z) : w.cell? ⟨B, 0, none⟩ = some x := by unfold Blk3 at h; simp [World.cell?, h]
theorem Blk3.c1 {w : World} {B : Nat} {t : TypeId} {x y z : Value} (h : Blk3 w B t x y z) : w.cell? ⟨B, 1, none⟩ = some y := by unfold Blk3 at h; simp [World.cell?, h]
theorem Blk3.c2 {w : World} {B : Nat} {t : TypeId} {x y z : Value} (h : Blk3 w B t x y z) : w.cell? ⟨B, 2, none⟩ = some z := by unfold Blk3 at h; simp [World.cell?, h]
theorem Blk3.fr {w : World} {B : Nat} {t : TypeId} {x y z : Value} (h : Blk3 w B t x y z) (o : Nat) : w.frozen? ⟨B, o, none⟩ = false := by unfold Blk3 at h; simp [World.frozen?, h]
theorem Blk3.lt {w : World} {B : Nat} {t : TypeId} {x y z : Value} (h : Blk3 w B t x y z) : B < w.heap.size := (Array.getElem?_eq_some_iff.1 h).1
theorem Blk3.below {w w' : World} {B n : Nat} {t : TypeId} {x y z : Value} (h : Blk3 w B t x y z) (hb : Below n w w') (hn : B < n) : Blk3 w' B t x y z := (hb.block B hn).trans h
theorem Blk3.alloc {w : World} {B : Nat} {t : TypeId} {x y z : Value} (h : Blk3 w B t x y z) (o : Obj) : Blk3 (w.alloc o) B t x y z := (Below.heap_alloc w o B h.lt).trans h
theorem Blk3.new (w : World) (t : TypeId) (x y z : Value) : Blk3 (w.alloc (.cells #[x, y, z] t)) w.heap.size t x y z := World.alloc_heap_new w _
theorem Blk3.far {w : World} {B : Nat} {t : TypeId} {x y z : Value} (h : Blk3 w B t x y z) (p : Addr) (u : Value) (hne : B ≠ p.block) : Blk3 (w.setCell p u) B t x y z := (Below.heap_setCell w p u B hne).trans h
theorem Blk3.set0 {w : World} {B : Nat} {t : TypeId} {x y z : Value} (h : Blk3 w B t x y z) (u : Value) : Blk3 (w.setCell ⟨B, 0, none⟩ u) B t u y z := by
  unfold Blk3 at h ⊢
  obtain ⟨hl, he⟩ := Array.getElem?_eq_some_iff.1 h
  simp [World.setCell, hl, Array.getElem_modify, he]
theorem Blk3.set1 {w : World} {B : Nat} {t : TypeId} {x y z : Value} (h : Blk3 w B t x y z) (u : Value) : Blk3 (w.setCell ⟨B, 1, none⟩ u) B t x u z := by
  unfold Blk3 at h ⊢
  obtain ⟨hl, he⟩ := Array.getElem?_eq_some_iff.1 h
  simp [World.setCell, hl, Array.getElem_modify, he]
theorem Blk3.set2 {w : World} {B : Nat} {t : TypeId} {x y z : Value} (h : Blk3 w B t x y z) (u : Value) : Blk3 (w.setCell ⟨B, 2, none⟩ u) B t x y u := by
  unfold Blk3 at h ⊢
  obtain ⟨hl, he⟩ := Array.getElem?_eq_some_iff.1 h
  simp [World.setCell, hl, Array.getElem_modify, he]

theorem told_closure (B : Nat) (a b c : Int) (r : Bool) (h : panel_ends.f a b c = some r) (u : FrameMode) (w : World) (hB : Blk3 w B 23 (.int .i64 a) (.int .i64 b) (.int .i64 c)) (n0 : Nat) (hn : n0 ≤ B) :
    CallsD Try.prog 46 #[.pointer (some ⟨B, 0, none⟩)] u w fun e u' w' => u' = u ∧ (e = .returned (.tuple #[]) ∧ Blk3 w' B 23 (.int .i64 a) (.int .i64 b) (.int .i64 (if r = true then 0 else c)) ∧ Below n0 w w') := by
  have hu := Try.underlying23
  have c0 := hB.c0
  have c1 := hB.c1
  have c2 := hB.c2
  have hlt := hB.lt
  go_enter_d Try.func46, Try.ntmps46
  go_wp2_with fail
  refine (ends_any a b c r h _).mono ?_
  rintro e w1 ⟨rfl, hb⟩
  have hB1 := hB.below hb hlt
  have d2 := hB1.c2
  have f2 := hB1.fr 2
  clear c0 c1 c2
  cases r with
  | true =>
    go_wp2
    go_end0
    exact ⟨rfl, hB1.set2 _, (hb.mono (by omega)).setCell (p := ⟨B, 2, none⟩) hn _⟩
  | false =>
    go_wp2
    go_end0
    exact ⟨rfl, hB1, hb.mono (by omega)⟩

theorem panel_told.calls (a0_0 : Int) (a0_1 : Int) (a0_2 : Int) (a1 : Int) (r1 : Int) (r2 : Int) (r3 : Int) (w : World) (h : panel_told.f a0_0 a0_1 a0_2 a1 = some (r1, r2, r3)) :
    Calls Try.prog 41 #[.agg #[.int .i64 a0_0, .int .i64 a0_1, .int .i64 a0_2], .int .i64 a1] w fun e w' => e = .returned (.agg #[.int .i64 r1, .int .i64 r2, .int .i64 r3]) ∧ Below w.heap.size w w' := by
  have hu := Try.underlying23
  have hmf : ∀ (fn : Fn) (first cap : Array Value) (w : World), (Instr.makeFunc fn first cap).run Try.prog w = .ok (.func fn first cap) w := fun _ _ _ _ => rfl
  obtain ⟨b, hb, hr⟩ := Option.map_eq_some_iff.1 h
  clear h
  simp only [Prod.mk.injEq] at hr
  obtain ⟨rfl, rfl, hr3⟩ := hr
  have HE := Aside0.mk hb
  have HR := Aside0.mk hr3
  clear hb hr3
  have fin : ∀ (v : Int), turned a1 a0_2 = v → ∀ (tmps : Array Value), tmps[4]? = some (.pointer (some ⟨w.heap.size + 1, 0, none⟩)) → bodyPostD Try.prog Try.f41 (fun e w' => e = .returned (.agg #[.int .i64 a0_0, .int .i64 a0_1, .int .i64 r3]) ∧ Below w.heap.size w w') Exit.ret
      { tmps := tmps, defers := [{ target := Target.fn (Fn.func 46) #[Value.pointer (some ⟨w.heap.size + 1, 0, none⟩)], args := #[] }] }
      ((w.alloc (.cells #[.int .i64 a0_0, .int .i64 a0_1, .int .i64 a0_2] 23)).alloc (.cells #[.int .i64 a0_0, .int .i64 a0_1, .int .i64 v] 23)) := by
    intro v hv tmps ht
    have hE := HE.out
    have hR := HR.out
    rw [hv] at hE hR
    have hn := Blk3.new (w.alloc (.cells #[.int .i64 a0_0, .int .i64 a0_1, .int .i64 a0_2] 23)) 23 (.int .i64 a0_0) (.int .i64 a0_1) (.int .i64 v)
    rw [World.size_alloc] at hn
    refine leaves_cons (f := 46) (args := #[.pointer (some ⟨w.heap.size + 1, 0, none⟩)]) (by simp) (by simp [go_sem]) ?_
    refine (told_closure (w.heap.size + 1) a0_0 a0_1 v b hE .returning _ hn w.heap.size (by omega)).mono ?_
    rintro e u' w'' ⟨rfl, rfl, hB, hbel⟩
    rw [hR] at hB
    have c0 := hB.c0
    have c1 := hB.c1
    have c2 := hB.c2
    refine ⟨.agg #[.int .i64 a0_0, .int .i64 a0_1, .int .i64 r3], ?_, rfl, ?_⟩
    · simp [results, Try.results41, go_sem, ht, c0, c1, c2, hu]
    · exact (((Below.refl _ w).alloc (Nat.le_refl _) _).alloc (by simp) _).trans hbel
  have FIN := Aside0.mk fin
  clear fin
  go_enter_defers Try.func41, Try.ntmps41
  go_wp2
  all_goals refine FIN.out _ ?_ _ rfl
  all_goals (unfold turned; (try simp only [beq_iff_eq] at *); (repeat' split) <;> first | rfl | omega | (simp_all; done))

end Go.Proofs.Ytbkidegpgpccfaa.S
