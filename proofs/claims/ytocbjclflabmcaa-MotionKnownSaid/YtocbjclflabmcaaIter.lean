/- A range over a function whose iterator writes a variable of its own: the iterator's steps are a relation T that the caller's invariants abide; T leaves whatever lies at or beyond the caller's heap as it lies. -/
import Derived.RangeFuncNested
import Derived.RangeFuncBox
namespace Go.Proofs.Ytocbjclflabmcaa.S
open Go Go.RowKit

/-- What an iterator is that takes steps of T between the rounds: Kp is what a round keeps for it. -/
def IterStops {α : Type} (F : Fence) (n : Nat) (P : Program) (g : Nat) (lb : Array Value) (encs : α → Array Value) (T Kp : World → World → Prop) (S Sp : List α → Prop) (N : Nat) (w : World) : Prop :=
  ∀ (l : Nat) (J Jx : List α → World → Prop) (W : World), Below w.heap.size w W → (∀ s A B, J s A → T A B → J s B) → (∀ s A B, Jx s A → T A B → Jx s B) →
    (∀ pre x W1, J pre W1 → pre.length < N → YieldAt F (n - 1) P l (encs x) W1 fun e W' =>
      (e = .returned (.bool true) ∧ J (pre ++ [x]) W' ∧ Kp W1 W') ∨ (e = .returned (.bool false) ∧ Jx (pre ++ [x]) W')) →
    J [] W →
    CallsIn F n P g (#[.func (.yield l) #[] #[]] ++ lb) W fun e W' => (∃ v, e = .returned v) ∧ ((∃ xs, S xs ∧ J xs W') ∨ (∃ pre, Sp pre ∧ Jx pre W'))

/-- The loop's book-keeping: its record, and the block for the rounds' deferred calls. -/
def Bk (D L : Nat) (r : Loop) (W : World) : Prop := W.heap[L]? = some (.loop r) ∧ W.heap[D]? = some (.deferred (some []))

variable {F : Fence} {n : Nat} {P : Program}

set_option maxHeartbeats 400000 in
theorem wpIn_iter {α : Type} {g : Operand} {ps : Array Tmp} {assign body : Code} {Q : Exit → Act → World → Prop} {a : Act} {w : World}
    (hro : F.round = none) (h1 : 1 ≤ n) {gf : Nat} {lb : Array Value} (hg : a.eval g = .func (.func gf) #[] lb) (hFg : F.fn gf) (eg : ∀ args w, (callFunc gf args).run P w = .ok (.enter gf args) w)
    {encs : α → Array Value} {T Kp : World → World → Prop} {S Sp : List α → Prop} {N : Nat} (hseq : IterStops F (n - 1) P gf lb encs T Kp S Sp N w)
    (hT : ∀ A B k, T A B → w.heap.size ≤ k → k < A.heap.size → B.heap[k]? = A.heap[k]?)
    (hKt : ∀ {A B C : World}, Kp A B → Kp B C → Kp A C) (hKb : ∀ (W : World) (l : Nat) (o' : Obj), w.heap.size ≤ l → Kp W (W.putObj l o')) (hps : ∀ x, (encs x).size = ps.size)
    (I : List α → World → Prop) (Ix : Code → List α → World → Prop) (hI : OwnFrom w.heap.size I) (hIx : ∀ c, OwnFrom w.heap.size (Ix c))
    (hIT : ∀ s A B, I s A → T A B → I s B) (hIxT : ∀ c s A B, Ix c s A → T A B → Ix c s B) (h0 : I [] w)
    (M : List α → α → Act → World → Prop) (hM : ∀ pre x a W l o o', M pre x a W → w.heap.size ≤ l → W.heap[l]? = some o → o.isCells = false → M pre x a (W.putObj l o'))
    (hassign : ∀ (l : Nat) (pre : List α) (x : α) (W : World), I pre W → pre.length < N →
      assign.wpIn (F.inRound l) (n - 1 - 1) P (Exit.then (fun a₁ W₁ => KeepsOthers W W₁ ∧ Kp W W₁ ∧ M pre x a₁ W₁) (fun _ _ _ => False)) { tmps := (ps.zip (encs x)).foldl (fun t (p, v) => t.setIfInBounds p v) a.tmps, defers := [] } W)
    (hbody : ∀ (l : Nat) (pre : List α) (x : α) (a₁ : Act) (W : World), M pre x a₁ W → pre.length < N → body.wpIn (F.inRound l) (n - 1 - 1) P (ownPostK Kp I Ix (pre ++ [x]) W) a₁ W)
    (hdone : ∀ (D : Nat) (xs : List α) (W : World), w.heap.size ≤ D → S xs → I xs W → W.heap[D]? = some (.deferred (some [])) → Q .normal { a with defers := { target := .collected D, args := #[] } :: a.defers } W)
    (hstop : ∀ (D : Nat) (c : Code) (pre : List α) (W : World), w.heap.size ≤ D → Sp pre → Ix c pre W → W.heap[D]? = some (.deferred (some [])) → c.wpIn F n P Q { a with defers := { target := .collected D, args := #[] } :: a.defers } W) :
    (Code.rangeFunc g ps assign body).wpIn F n P Q a w := by
  obtain ⟨L, hL⟩ : ∃ L, L = w.heap.size + 1 := ⟨_, rfl⟩
  refine wpIn_rangeFunc fun fn hfn => ?_
  obtain ⟨R, hR⟩ : ∃ R : LoopState → Option Code → Loop, R = fun st pe => { state := st, pending := pe, fn, tmps := a.tmps, params := ps, assign, body, defers := w.heap.size } := ⟨_, rfl⟩
  have rSt : ∀ st pe st' pe', { R st pe with state := st', pending := pe' } = R st' pe' := fun _ _ _ _ => by rw [hR]
  have bkT : ∀ st pe A B, Bk w.heap.size L (R st pe) A → T A B → Bk w.heap.size L (R st pe) B := fun st pe A B h t =>
    ⟨(hT A B L t (by omega) (Array.getElem?_eq_some_iff.1 h.1).1).trans h.1, (hT A B _ t (Nat.le_refl _) (Array.getElem?_eq_some_iff.1 h.2).1).trans h.2⟩
  have bkP : ∀ st pe st' pe' W, Bk w.heap.size L (R st pe) W → Bk w.heap.size L (R st' pe') (W.putObj L (.loop (R st' pe'))) := fun st pe st' pe' W h =>
    ⟨World.putObj_heap_same (Array.getElem?_eq_some_iff.1 h.1).1, (World.putObj_heap_other (by omega)).trans h.2⟩
  have bkK : ∀ st pe A B, Bk w.heap.size L (R st pe) A → KeepsOthers A B → Bk w.heap.size L (R st pe) B := fun st pe A B h k => ⟨k.same _ _ h.1 rfl, k.same _ _ h.2 rfl⟩
  obtain ⟨W1, hW1⟩ : ∃ W1, (w.alloc (.deferred (some []))).alloc (.loop (R .ready none)) = W1 := ⟨_, rfl⟩
  have b1 : Bk w.heap.size L (R .ready none) W1 := by
    constructor
    · rw [← hW1, hL]; have := World.alloc_heap_new (w.alloc (.deferred (some []))) (.loop (R .ready none)); rwa [World.size_alloc] at this
    · rw [← hW1]; exact (Below.heap_alloc _ _ _ (by simp)).trans (World.alloc_heap_new w _)
  have i1 : I [] W1 := by rw [← hW1]; exact hI.alloc _ (hI.alloc _ h0)
  have w1 : Below w.heap.size w W1 := by rw [← hW1]; exact ((Below.refl _ w).alloc (Nat.le_refl _) _).alloc (by simp) _
  -- a round's end
  have rEnd : ∀ (jump : Option Code) (W : World), Bk w.heap.size L (R .busy none) W → (Instr.endRound L jump).run P W = .ok (.bool jump.isNone) (W.putObj L (.loop (R (if jump.isNone then .ready else .done) jump))) := fun jump W h => by rw [run_endRound jump h.1, rSt]
  have rRound : ∀ pre x W, I pre W ∧ Bk w.heap.size L (R .ready none) W → pre.length < N → YieldAt F (n - 1 - 1) P L (encs x) W fun e W' =>
      (e = .returned (.bool true) ∧ (I (pre ++ [x]) W' ∧ Bk w.heap.size L (R .ready none) W') ∧ Kp W W') ∨ (e = .returned (.bool false) ∧ ∃ c, Ix c (pre ++ [x]) W' ∧ Bk w.heap.size L (R .done (some c)) W') := by
    rintro pre x W ⟨hi, hb⟩ hlen
    have hy := run_yield (P := P) (args := encs x) hb.1 (by rw [hR]; exact hps x)
    refine ⟨fn, _, assign, body, by rw [hy, hR], roundIn_of_wpIn hfn (wpIn_mono (hassign _ pre x W hi hlen) ?_)⟩
    rintro e1 a1 W1' h1'
    cases e1 with
    | normal => ?_
    | ret => exact h1'.elim
    | exit id => exact h1'.elim
    | goto t => exact h1'.elim
    | panic ch => exact h1'.elim
    | outgrown => exact h1'.elim
    obtain ⟨k1, kp1, m1⟩ : KeepsOthers W W1' ∧ Kp W W1' ∧ M pre x a1 W1' := h1'
    have hb' := bkK _ _ _ _ hb k1
    have hbg := run_beginRound (P := P) hb'.1 (by rw [hR])
    rw [show { R .ready none with state := .busy } = R .busy none by rw [hR]] at hbg
    have b2 := bkP .ready none .busy none W1' hb'
    have k2 : Kp W (W1'.putObj L (.loop (R .busy none))) := hKt kp1 (hKb _ _ _ (by omega))
    refine ⟨_, hbg, wpIn_mono (hbody _ pre x _ _ (hM pre x a1 W1' L _ _ m1 (by omega) hb'.1 rfl) hlen) ?_⟩
    rintro e a3 W3 hp
    cases e with
    | normal =>
      obtain ⟨k3, kp3, i3⟩ := hp
      have b3 := bkK _ _ _ _ b2 k3
      exact ⟨_, _, rEnd none W3 b3, .inl ⟨rfl, ⟨hI.putObj _ i3 (by omega) b3.1 rfl, bkP _ _ .ready none W3 b3⟩, hKt (hKt k2 kp3) (hKb _ _ _ (by omega))⟩⟩
    | ret =>
      obtain ⟨k3, i3⟩ := hp
      have b3 := bkK _ _ _ _ b2 k3
      exact ⟨_, _, rEnd (some .ret) W3 b3, .inr ⟨rfl, .ret, (hIx _).putObj _ i3 (by omega) b3.1 rfl, bkP _ _ .done (some .ret) W3 b3⟩⟩
    | exit id =>
      obtain ⟨k3, i3⟩ := hp
      have b3 := bkK _ _ _ _ b2 k3
      exact ⟨_, _, rEnd (some (.exit id)) W3 b3, .inr ⟨rfl, .exit id, (hIx _).putObj _ i3 (by omega) b3.1 rfl, bkP _ _ .done (some (.exit id)) W3 b3⟩⟩
    | goto t =>
      obtain ⟨k3, i3⟩ := hp
      have b3 := bkK _ _ _ _ b2 k3
      exact ⟨_, _, rEnd (some (.goto t)) W3 b3, .inr ⟨rfl, .goto t, (hIx _).putObj _ i3 (by omega) b3.1 rfl, bkP _ _ .done (some (.goto t)) W3 b3⟩⟩
    | panic ch => exact hp.elim
    | outgrown => exact hp.elim
  have rSeq := hseq L (fun pre W => I pre W ∧ Bk w.heap.size L (R .ready none) W) (fun pre W => ∃ c, Ix c pre W ∧ Bk w.heap.size L (R .done (some c)) W) W1 w1
    (fun s A B h t => ⟨hIT s A B h.1 t, bkT _ _ A B h.2 t⟩) (fun s A B h t => by obtain ⟨c, hc, hb⟩ := h; exact ⟨c, hIxT c s A B hc t, bkT _ _ A B hb t⟩) rRound ⟨i1, b1⟩
  refine ⟨L, [{ target := .collected w.heap.size, args := #[] }], W1, { target := .fn (.func gf) lb, args := #[.func (.yield L) #[] #[]] }, W1, gf, #[.func (.yield L) #[] #[]] ++ lb, W1, ?_, ?_, ?_, ?_, fun _ => h1, ?_⟩
  · rw [hro, ← hW1, hL, hR]; exact run_enterLoop_outer _ _ _ _ _
  · simp only [resolve, hg]
    simp [go_sem]
  · intro f' hf'; simp [Target.leads] at hf'; subst hf'; exact hFg
  · simp [invoke, go_sem, eg]
  · refine rSeq.mono ?_
    rintro e W2 ⟨⟨v, rfl⟩, (⟨xs, hS, hi, hb⟩ | ⟨pre, hSp, c, hi, hb⟩)⟩
    · have h1 : (Instr.endLoop L).run P W2 = .ok none (W2.putObj L (.loop (R .exhausted none))) := by rw [run_endLoop (P := P) hb.1 (by rw [hR]; simp), hR]
      have h2 := hI.putObj (.loop (R .exhausted none)) hi (by omega) hb.1 rfl
      have h3 : (W2.putObj L (.loop (R .exhausted none))).heap[w.heap.size]? = some (.deferred (some [])) := (World.putObj_heap_other (by omega)).trans hb.2
      have h4 := hdone _ xs _ (Nat.le_refl _) hS h2 h3
      exact ⟨none, _, h1, h4⟩
    · have h1 : (Instr.endLoop L).run P W2 = .ok (some c) (W2.putObj L (.loop (R .exhausted (some c)))) := by rw [run_endLoop (P := P) hb.1 (by rw [hR]; simp), hR]
      have h2 := (hIx c).putObj (.loop (R .exhausted (some c))) hi (by omega) hb.1 rfl
      have h3 : (W2.putObj L (.loop (R .exhausted (some c)))).heap[w.heap.size]? = some (.deferred (some [])) := (World.putObj_heap_other (by omega)).trans hb.2
      have h4 := hstop _ c pre _ (Nat.le_refl _) hSp h2 h3
      exact ⟨some c, _, h1, h4⟩

end Go.Proofs.Ytocbjclflabmcaa.S
