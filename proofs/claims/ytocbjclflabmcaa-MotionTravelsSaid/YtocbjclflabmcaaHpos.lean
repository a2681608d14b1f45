/- A range over a function whose iterator writes a variable of its own: the iterator's steps are a relation T that the caller's invariants abide; T leaves whatever lies at or beyond the caller's heap as it lies. wpIn_iter where the assignment to the loop's variables leaves the world as it is. A region that only reads, in a round of a range over a function: one walk of the lexical order serves, whatever the fence's round is, if nothing is deferred in it. A region whose operations read and call quietly ahead of a tail that comes in its own order, within a fence and within a round too: one walk of the lexical order serves. slices.Backward over a list of three numbers: the iterator yields them from the last to the first. (*car).step, walked: a tick of a car. motion.do, walked for one change. The iterator of motion.positions: the places of a car, tick by tick, till it is at its goal. -/
import Derived.RangeFuncNested
import Derived.RangeFuncBox
import Derived.Sort.BigQuietIn
import Derived.StillTail
import Derived.RangeFuncBound
import Derived.RangeFuncCalls
import Derived.RangeFuncLeaves
import Derived.RangeFuncFrom
import Derived.OwnWalkIn
import Derived.TacticsInMore
import Derived.LoopNIn
import Derived.LoopIn
import Derived.Outline
import Derived.Test.YtocbjclflabmcaaHcheck
import Derived.RegionIn
import Derived.Shelf.Abstract
import Derived.Shelf.RegionOpen
import Derived.Sort.LoopGhostIn
set_option linter.unusedVariables false
set_option linter.unusedSimpArgs false
namespace Go.Proofs.Ytocbjclflabmcaa.S
open Go Go.RowKit

/-- What an iterator is that takes steps of T between the rounds: Kp is what a round keeps for it. -/
def IterStops {α : Type} (F : Fence) (n : Nat) (P : Program) (g : Nat) (lb : Array Value) (encs : α → Array Value) (T Kp : World → World → Prop) (S Sp : List α → Prop) (N : Nat) (w : World) : Prop :=
  ∀ (l : Nat) (J Jx : List α → World → Prop) (W : World), Below w.heap.size w W → (∀ s A B, J s A → T A B → J s B) → (∀ s A B, Jx s A → T A B → Jx s B) →
    (∀ pre x W1, J pre W1 → pre.length < N → YieldAt F (n - 1) P l (encs x) W1 fun e W' =>
      (e = .returned (.bool true) ∧ J (pre ++ [x]) W' ∧ Kp W1 W') ∨ (e = .returned (.bool false) ∧ Jx (pre ++ [x]) W')) →
    J [] W →
    CallsIn F n P g (#[.func (.yield l) #[] #[]] ++ lb) W fun e W' => (∃ v, e = .returned v) ∧ ((∃ xs, S xs ∧ J xs W') ∨ (∃ pre, Sp pre ∧ Jx pre W'))

/-- The loop's book-keeping: its record, and the block for the rounds' deferred calls. -/
def Bk (D L : Nat) (r : Loop) (W : World) : Prop := W.heap[L]? = some (.loop r) ∧ W.heap[D]? = some (.deferred (some []))

variable {F : Fence} {n : Nat} {P : Program}

set_option maxHeartbeats 400000 in
theorem wpIn_iter {α : Type} {g : Operand} {ps : Array Tmp} {assign body : Code} {Q : Exit → Act → World → Prop} {a : Act} {w : World}
    (hro : F.round = none) (h1 : 1 ≤ n) {gf : Nat} {lb : Array Value} (hg : a.eval g = .func (.func gf) #[] lb) (hFg : F.fn gf) (eg : ∀ args w, (callFunc gf args).run P w = .ok (.enter gf args) w)
    {encs : α → Array Value} {T Kp : World → World → Prop} {S Sp : List α → Prop} {N : Nat} (hseq : IterStops F (n - 1) P gf lb encs T Kp S Sp N w)
    (hT : ∀ A B k, T A B → w.heap.size ≤ k → k < A.heap.size → B.heap[k]? = A.heap[k]?)
    (hKt : ∀ {A B C : World}, Kp A B → Kp B C → Kp A C) (hKb : ∀ (W : World) (l : Nat) (o' : Obj), w.heap.size ≤ l → Kp W (W.putObj l o')) (hps : ∀ x, (encs x).size = ps.size)
    (I : List α → World → Prop) (Ix : Code → List α → World → Prop) (hI : OwnFrom w.heap.size I) (hIx : ∀ c, OwnFrom w.heap.size (Ix c))
    (hIT : ∀ s A B, I s A → T A B → I s B) (hIxT : ∀ c s A B, Ix c s A → T A B → Ix c s B) (h0 : I [] w)
    (M : List α → α → Act → World → Prop) (hM : ∀ pre x a W l o o', M pre x a W → w.heap.size ≤ l → W.heap[l]? = some o → o.isCells = false → M pre x a (W.putObj l o'))
    (hassign : ∀ (l : Nat) (pre : List α) (x : α) (W : World), I pre W → pre.length < N →
      assign.wpIn (F.inRound l) (n - 1 - 1) P (Exit.then (fun a₁ W₁ => KeepsOthers W W₁ ∧ Kp W W₁ ∧ M pre x a₁ W₁) (fun _ _ _ => False)) { tmps := (ps.zip (encs x)).foldl (fun t (p, v) => t.setIfInBounds p v) a.tmps, defers := [] } W)
    (hbody : ∀ (l : Nat) (pre : List α) (x : α) (a₁ : Act) (W : World), M pre x a₁ W → pre.length < N → body.wpIn (F.inRound l) (n - 1 - 1) P (ownPostK Kp I Ix (pre ++ [x]) W) a₁ W)
    (hdone : ∀ (D : Nat) (xs : List α) (W : World), w.heap.size ≤ D → S xs → I xs W → W.heap[D]? = some (.deferred (some [])) → Q .normal { a with defers := { target := .collected D, args := #[] } :: a.defers } W)
    (hstop : ∀ (D : Nat) (c : Code) (pre : List α) (W : World), w.heap.size ≤ D → Sp pre → Ix c pre W → W.heap[D]? = some (.deferred (some [])) → c.wpIn F n P Q { a with defers := { target := .collected D, args := #[] } :: a.defers } W) :
    (Code.rangeFunc g ps assign body).wpIn F n P Q a w := by
  obtain ⟨L, hL⟩ : ∃ L, L = w.heap.size + 1 := ⟨_, rfl⟩
  refine wpIn_rangeFunc fun fn hfn => ?_
  obtain ⟨R, hR⟩ : ∃ R : LoopState → Option Code → Loop, R = fun st pe => { state := st, pending := pe, fn, tmps := a.tmps, params := ps, assign, body, defers := w.heap.size } := ⟨_, rfl⟩
  have rSt : ∀ st pe st' pe', { R st pe with state := st', pending := pe' } = R st' pe' := fun _ _ _ _ => by rw [hR]
  have bkT : ∀ st pe A B, Bk w.heap.size L (R st pe) A → T A B → Bk w.heap.size L (R st pe) B := fun st pe A B h t =>
    ⟨(hT A B L t (by omega) (Array.getElem?_eq_some_iff.1 h.1).1).trans h.1, (hT A B _ t (Nat.le_refl _) (Array.getElem?_eq_some_iff.1 h.2).1).trans h.2⟩
  have bkP : ∀ st pe st' pe' W, Bk w.heap.size L (R st pe) W → Bk w.heap.size L (R st' pe') (W.putObj L (.loop (R st' pe'))) := fun st pe st' pe' W h =>
    ⟨World.putObj_heap_same (Array.getElem?_eq_some_iff.1 h.1).1, (World.putObj_heap_other (by omega)).trans h.2⟩
  have bkK : ∀ st pe A B, Bk w.heap.size L (R st pe) A → KeepsOthers A B → Bk w.heap.size L (R st pe) B := fun st pe A B h k => ⟨k.same _ _ h.1 rfl, k.same _ _ h.2 rfl⟩
  obtain ⟨W1, hW1⟩ : ∃ W1, (w.alloc (.deferred (some []))).alloc (.loop (R .ready none)) = W1 := ⟨_, rfl⟩
  have b1 : Bk w.heap.size L (R .ready none) W1 := by
    constructor
    · rw [← hW1, hL]; have := World.alloc_heap_new (w.alloc (.deferred (some []))) (.loop (R .ready none)); rwa [World.size_alloc] at this
    · rw [← hW1]; exact (Below.heap_alloc _ _ _ (by simp)).trans (World.alloc_heap_new w _)
  have i1 : I [] W1 := by rw [← hW1]; exact hI.alloc _ (hI.alloc _ h0)
  have w1 : Below w.heap.size w W1 := by rw [← hW1]; exact ((Below.refl _ w).alloc (Nat.le_refl _) _).alloc (by simp) _
  -- a round's end
  have rEnd : ∀ (jump : Option Code) (W : World), Bk w.heap.size L (R .busy none) W → (Instr.endRound L jump).run P W = .ok (.bool jump.isNone) (W.putObj L (.loop (R (if jump.isNone then .ready else .done) jump))) := fun jump W h => by rw [run_endRound jump h.1, rSt]
  have rRound : ∀ pre x W, I pre W ∧ Bk w.heap.size L (R .ready none) W → pre.length < N → YieldAt F (n - 1 - 1) P L (encs x) W fun e W' =>
      (e = .returned (.bool true) ∧ (I (pre ++ [x]) W' ∧ Bk w.heap.size L (R .ready none) W') ∧ Kp W W') ∨ (e = .returned (.bool false) ∧ ∃ c, Ix c (pre ++ [x]) W' ∧ Bk w.heap.size L (R .done (some c)) W') := by
    rintro pre x W ⟨hi, hb⟩ hlen
    have hy := run_yield (P := P) (args := encs x) hb.1 (by rw [hR]; exact hps x)
    refine ⟨fn, _, assign, body, by rw [hy, hR], roundIn_of_wpIn hfn (wpIn_mono (hassign _ pre x W hi hlen) ?_)⟩
    rintro e1 a1 W1' h1'
    cases e1 with
    | normal => ?_
    | ret => exact h1'.elim
    | exit id => exact h1'.elim
    | goto t => exact h1'.elim
    | panic ch => exact h1'.elim
    | outgrown => exact h1'.elim
    obtain ⟨k1, kp1, m1⟩ : KeepsOthers W W1' ∧ Kp W W1' ∧ M pre x a1 W1' := h1'
    have hb' := bkK _ _ _ _ hb k1
    have hbg := run_beginRound (P := P) hb'.1 (by rw [hR])
    rw [show { R .ready none with state := .busy } = R .busy none by rw [hR]] at hbg
    have b2 := bkP .ready none .busy none W1' hb'
    have k2 : Kp W (W1'.putObj L (.loop (R .busy none))) := hKt kp1 (hKb _ _ _ (by omega))
    refine ⟨_, hbg, wpIn_mono (hbody _ pre x _ _ (hM pre x a1 W1' L _ _ m1 (by omega) hb'.1 rfl) hlen) ?_⟩
    rintro e a3 W3 hp
    cases e with
    | normal =>
      obtain ⟨k3, kp3, i3⟩ := hp
      have b3 := bkK _ _ _ _ b2 k3
      exact ⟨_, _, rEnd none W3 b3, .inl ⟨rfl, ⟨hI.putObj _ i3 (by omega) b3.1 rfl, bkP _ _ .ready none W3 b3⟩, hKt (hKt k2 kp3) (hKb _ _ _ (by omega))⟩⟩
    | ret =>
      obtain ⟨k3, i3⟩ := hp
      have b3 := bkK _ _ _ _ b2 k3
      exact ⟨_, _, rEnd (some .ret) W3 b3, .inr ⟨rfl, .ret, (hIx _).putObj _ i3 (by omega) b3.1 rfl, bkP _ _ .done (some .ret) W3 b3⟩⟩
    | exit id =>
      obtain ⟨k3, i3⟩ := hp
      have b3 := bkK _ _ _ _ b2 k3
      exact ⟨_, _, rEnd (some (.exit id)) W3 b3, .inr ⟨rfl, .exit id, (hIx _).putObj _ i3 (by omega) b3.1 rfl, bkP _ _ .done (some (.exit id)) W3 b3⟩⟩
    | goto t =>
      obtain ⟨k3, i3⟩ := hp
      have b3 := bkK _ _ _ _ b2 k3
      exact ⟨_, _, rEnd (some (.goto t)) W3 b3, .inr ⟨rfl, .goto t, (hIx _).putObj _ i3 (by omega) b3.1 rfl, bkP _ _ .done (some (.goto t)) W3 b3⟩⟩
    | panic ch => exact hp.elim
    | outgrown => exact hp.elim
  have rSeq := hseq L (fun pre W => I pre W ∧ Bk w.heap.size L (R .ready none) W) (fun pre W => ∃ c, Ix c pre W ∧ Bk w.heap.size L (R .done (some c)) W) W1 w1
    (fun s A B h t => ⟨hIT s A B h.1 t, bkT _ _ A B h.2 t⟩) (fun s A B h t => by obtain ⟨c, hc, hb⟩ := h; exact ⟨c, hIxT c s A B hc t, bkT _ _ A B hb t⟩) rRound ⟨i1, b1⟩
  refine ⟨L, [{ target := .collected w.heap.size, args := #[] }], W1, { target := .fn (.func gf) lb, args := #[.func (.yield L) #[] #[]] }, W1, gf, #[.func (.yield L) #[] #[]] ++ lb, W1, ?_, ?_, ?_, ?_, fun _ => h1, ?_⟩
  · rw [hro, ← hW1, hL, hR]; exact run_enterLoop_outer _ _ _ _ _
  · simp only [resolve, hg]
    simp [go_sem]
  · intro f' hf'; simp [Target.leads] at hf'; subst hf'; exact hFg
  · simp [invoke, go_sem, eg]
  · refine rSeq.mono ?_
    rintro e W2 ⟨⟨v, rfl⟩, (⟨xs, hS, hi, hb⟩ | ⟨pre, hSp, c, hi, hb⟩)⟩
    · have h1 : (Instr.endLoop L).run P W2 = .ok none (W2.putObj L (.loop (R .exhausted none))) := by rw [run_endLoop (P := P) hb.1 (by rw [hR]; simp), hR]
      have h2 := hI.putObj (.loop (R .exhausted none)) hi (by omega) hb.1 rfl
      have h3 : (W2.putObj L (.loop (R .exhausted none))).heap[w.heap.size]? = some (.deferred (some [])) := (World.putObj_heap_other (by omega)).trans hb.2
      have h4 := hdone _ xs _ (Nat.le_refl _) hS h2 h3
      exact ⟨none, _, h1, h4⟩
    · have h1 : (Instr.endLoop L).run P W2 = .ok (some c) (W2.putObj L (.loop (R .exhausted (some c)))) := by rw [run_endLoop (P := P) hb.1 (by rw [hR]; simp), hR]
      have h2 := (hIx c).putObj (.loop (R .exhausted (some c))) hi (by omega) hb.1 rfl
      have h3 : (W2.putObj L (.loop (R .exhausted (some c)))).heap[w.heap.size]? = some (.deferred (some [])) := (World.putObj_heap_other (by omega)).trans hb.2
      have h4 := hstop _ c pre _ (Nat.le_refl _) hSp h2 h3
      exact ⟨some c, _, h1, h4⟩

end Go.Proofs.Ytocbjclflabmcaa.S

namespace Go.Proofs.Ytocbjclflabmcaa.S
open Go Go.RowKit

variable {F : Fence} {n : Nat} {P : Program}

theorem wpIn_iter1 {α : Type} {g : Operand} {ps : Array Tmp} {assign body : Code} {Q : Exit → Act → World → Prop} {a : Act} {w : World}
    (hro : F.round = none) (h1 : 1 ≤ n) {gf : Nat} {lb : Array Value} (hg : a.eval g = .func (.func gf) #[] lb) (hFg : F.fn gf) (eg : ∀ args w, (callFunc gf args).run P w = .ok (.enter gf args) w)
    {encs : α → Array Value} {T Kp : World → World → Prop} {S Sp : List α → Prop} {N : Nat} (hseq : IterStops F (n - 1) P gf lb encs T Kp S Sp N w)
    (hT : ∀ A B k, T A B → w.heap.size ≤ k → k < A.heap.size → B.heap[k]? = A.heap[k]?)
    (hKt : ∀ {A B C : World}, Kp A B → Kp B C → Kp A C) (hKb : ∀ (W : World) (l : Nat) (o' : Obj), w.heap.size ≤ l → Kp W (W.putObj l o')) (hKr : ∀ W, Kp W W) (hps : ∀ x, (encs x).size = ps.size)
    (I : List α → World → Prop) (Ix : Code → List α → World → Prop) (hI : OwnFrom w.heap.size I) (hIx : ∀ c, OwnFrom w.heap.size (Ix c))
    (hIT : ∀ s A B, I s A → T A B → I s B) (hIxT : ∀ c s A B, Ix c s A → T A B → Ix c s B) (h0 : I [] w) (a₁ : α → Act)
    (hassign : ∀ (l : Nat) (x : α) (W : World) (K : Act → World → Prop), K (a₁ x) W →
      assign.wpIn (F.inRound l) (n - 1 - 1) P (Exit.then K (fun _ _ _ => False)) { tmps := (ps.zip (encs x)).foldl (fun t (p, v) => t.setIfInBounds p v) a.tmps, defers := [] } W)
    (hbody : ∀ (l : Nat) (pre : List α) (x : α) (W : World), I pre W → pre.length < N → body.wpIn (F.inRound l) (n - 1 - 1) P (ownPostK Kp I Ix (pre ++ [x]) W) (a₁ x) W)
    (hdone : ∀ (D : Nat) (xs : List α) (W : World), w.heap.size ≤ D → S xs → I xs W → W.heap[D]? = some (.deferred (some [])) → Q .normal { a with defers := { target := .collected D, args := #[] } :: a.defers } W)
    (hstop : ∀ (D : Nat) (c : Code) (pre : List α) (W : World), w.heap.size ≤ D → Sp pre → Ix c pre W → W.heap[D]? = some (.deferred (some [])) → c.wpIn F n P Q { a with defers := { target := .collected D, args := #[] } :: a.defers } W) :
    (Code.rangeFunc g ps assign body).wpIn F n P Q a w := by
  refine wpIn_iter hro h1 hg hFg eg hseq hT hKt hKb hps I Ix hI hIx hIT hIxT h0 (fun pre x a W => a = a₁ x ∧ I pre W) ?_ ?_ ?_ hdone hstop
  · rintro pre x b W l o o' ⟨rfl, hs⟩ hl ho hoc
    exact ⟨rfl, hI.putObj o' hs hl ho hoc⟩
  · intro l pre x W hs _
    exact hassign l x W _ ⟨KeepsOthers.refl _, hKr W, rfl, hs⟩
  · rintro l pre x b W ⟨rfl, hs⟩ hlen
    exact hbody l pre x W hs hlen

end Go.Proofs.Ytocbjclflabmcaa.S

namespace Go.Proofs.Ytocbjclflabmcaa.S
open Go Go.RowKit

variable {F : Fence} {n : Nat} {P : Program} {ops : Array Oper} {C : World → Prop} {md : Region.Mode}

theorem oper_quietR {o : Oper} {a : Act} {K : Act → Prop} {K' : Act → World → Prop} {Q' : Exit → Act → World → Prop} {w : World} (hd : ∀ c, o.op ≠ .defer c) (hw : C w) (h : ∀ a w', C w' → K a → K' a w')
    (ha : o.askedIn F P a C) (hh : o.quietIn F n P a C K) : o.wpIn F n P a w K' Q' := by
  obtain ⟨v, h1, h2⟩ := hh
  have h3 := h1 w hw
  unfold Oper.quietAtIn at h3
  unfold Oper.wpIn
  refine ⟨ha w hw, ?_⟩
  rw [Oper.semAt_eq _ _ _ hd]
  generalize (execOp a.eval o).run P w = r at *
  cases r with
  | ok x w' =>
    cases x <;> simp only [Oper.quietUponIn] at h3 <;> simp only [Oper.uponIn]
    case value u =>
      obtain ⟨e1, e2⟩ := h3
      rw [e1, e2]
      exact h _ _ hw h2
    case skip =>
      obtain ⟨e1, e2⟩ := h3
      rw [e1, ← e2]
      exact h _ _ hw h2
    case enter f args =>
      obtain ⟨e1, hd, hc⟩ := h3
      rw [e1]
      exact ⟨hd, hc.mono fun e w'' ⟨he, hw''⟩ => by subst he; exact h _ _ hw'' h2⟩
  | halt x w' => simp only [Oper.quietUponIn] at h3

theorem op_quietR {i : Nat} {a : Act} {K : Act → Prop} {K' : Act → World → Prop} {Q' : Exit → Act → World → Prop} {w : World} (hd : ∀ o, ops[i]? = some o → ∀ c, o.op ≠ .defer c) (hC : C w) (h : ∀ a w', C w' → K a → K' a w')
    (hh : qOpIn F n P ops C i K a) : wpOpIn F n P ops Q' i K' a w := by
  unfold qOpIn at hh
  unfold wpOpIn
  split
  · rename_i ho; simp only [ho] at hh; exact h _ _ hC hh
  · rename_i o ho
    simp only [ho] at hh
    obtain ⟨ha, hh⟩ := hh
    split
    · rename_i hw; simp only [hw, if_true] at hh; exact oper_quietR (hd o ho) hC h ha hh
    · rename_i hw; simp only [hw] at hh; exact ⟨ha w hC, h _ _ hC hh⟩

theorem any_quietR {Q : Act → Prop} {Q' : Exit → Act → World → Prop} (hd : ∀ (i : Nat) (o : Oper), ops[i]? = some o → ∀ c : Call, o.op ≠ Op.defer c) (hQ : ∀ a w, C w → Q a → Q' .normal a w) : ∀ (fuel : Nat) (listed : Array Bool) (a : Act) (w : World), C w →
    wpAnyQIn F n P md ops C Q fuel listed a → wpAnyIn F n P md ops Q' fuel listed a w
  | 0, _, _, _, hw, h => ⟨h.1, hQ _ _ hw h.2⟩
  | fuel + 1, _, _, _, hw, h => ⟨fun h0 => hQ _ _ hw (h.1 h0), fun i hi => op_quietR (hd i) hw (fun a' w' hw' => any_quietR hd hQ fuel _ a' w' hw') (h.2 i hi)⟩

def plainOps (l : List Oper) : Bool := l.all fun o => match o.op with | .defer _ => false | _ => true

theorem wpIn_region_quietR {id : Nat} {Q : Exit → Act → World → Prop} {a : Act} {w : World} {l : List Oper} (hp : plainOps l = true) (hm : P.follows .mixedOrders = true) (hB : Region.lexB .any l.toArray = true)
    (h : wpQuietIn F n P l.toArray (fun w' => ∃ n, w' = w.drewN n) (fun a' => ∀ w', (∃ n, w' = w.drewN n) → Q .normal a' w') l a) : (Code.region id l.toArray true).wpIn F n P Q a w := by
  have hd : ∀ (i : Nat) (o : Oper), l.toArray[i]? = some o → ∀ c : Call, o.op ≠ Op.defer c := by
    intro i o ho c e
    have hm : o ∈ l := List.mem_of_getElem? (by simpa using ho)
    have := List.all_eq_true.1 hp o hm
    rw [e] at this
    cases this
  simp only [Region.lexB, Bool.and_eq_true] at hB
  refine wpIn_region_any hm (any_quietR (Q := fun a' => ∀ w', (∃ n, w' = w.drewN n) → Q .normal a' w') hd (fun _ w' hw' h => h w' hw') _ _ _ _ ⟨1, rfl⟩ ?_)
  have := wpAnyQIn_lex (F := F) (n := n) (C := fun w' => ∃ n, w' = w.drewN n) (md := .any) hB.1 l 0 (Array.replicate l.toArray.size false) a (by simp) (by simpa using hB.2) h
  simpa using this

theorem wide_fn (f : FuncId) : Fence.wide.fn f = True := eq_true trivial
theorem wideR_fn (l : Nat) (f : FuncId) : (Fence.wide.inRound l).fn f = True := eq_true trivial

end Go.Proofs.Ytocbjclflabmcaa.S

namespace Go.Proofs.Ytocbjclflabmcaa.S
open Go Go.RowKit

variable {F : Fence} {n : Nat} {P : Program} {ops : Array Oper} {C : World → Prop} {md : Region.Mode}

def anyLQ (F : Fence) (n : Nat) (P : Program) (md : Region.Mode) (ops : Array Oper) (C : World → Prop) (N : Nat) (L : Array Bool → Act → Prop) : Nat → Array Bool → Act → Prop
  | 0, listed, a => L listed a
  | f + 1, listed, a => Region.ready md ops listed ≠ [] ∧ ∀ i ∈ Region.ready md ops listed, i < N ∧ qOpIn F n P ops C i (anyLQ F n P md ops C N L f (listed.setIfInBounds i true)) a

theorem any_of_headQ {N g : Nat} {L : Array Bool → Act → Prop} {Q' : Exit → Act → World → Prop} (hd : ∀ (i : Nat) (o : Oper), ops[i]? = some o → ∀ c : Call, o.op ≠ Op.defer c)
    (hL : ∀ listed a w, C w → L listed a → wpAnyIn F n P md ops Q' g listed a w) :
    ∀ (f : Nat) (listed : Array Bool) (a : Act) (w : World), C w → anyLQ F n P md ops C N L f listed a → wpAnyIn F n P md ops Q' (f + g) listed a w
  | 0, listed, a, w, hw, h => by rw [Nat.zero_add]; exact hL _ _ _ hw h
  | f + 1, listed, a, w, hw, h => by
    rw [show f + 1 + g = (f + g) + 1 by omega]
    exact ⟨fun h0 => absurd h0 h.1, fun i hi => op_quietR (hd i) hw (fun a' w' hw' h' => any_of_headQ hd hL f _ a' w' hw' h') (h.2 i hi).2⟩

theorem anyLQ_first {N i : Nat} {oi : Oper} {v : Value} {L : Array Bool → Act → Prop} (hi : ops[i]? = some oi) (hsel : ∀ (j : Nat) (o : Oper) cs b, ops[j]? = some o → o.op ≠ .select cs b)
    (hs : Region.sinkB md ops N = true) (hc : Region.chainB md ops N = true) (hn : N < ops.size) (hin : i < N)
    (hdone : ∀ listed a, L listed a → ∀ j ∈ Region.ready md ops listed, N ≤ j) :
    ∀ (f : Nat) (listed : Array Bool) (a : Act), HeadInv md ops N listed →
      (∀ j oj, ops[j]? = some oj → j ≠ i → listed.getD j true = false → (∀ e ∈ oj.after, Region.binds md e = true → e.on ≠ i) → oi.apart ops oj = true) →
      i ∈ Region.ready md ops listed → YieldsQuiet F n P ops C oi v a →
      anyLQ F n P md ops C N L f (listed.setIfInBounds i true) (a.put oi.dst v) → anyLQ F n P md ops C N L (f + 1) listed a := by
  intro f
  induction f with
  | zero =>
    intro listed a inv _ hr hy H
    have hun := (mem_ready.1 hr).1
    refine ⟨fun h => (by rw [h] at hr; cases hr), fun j hj => ?_⟩
    have hjn : j < N := by
      rcases Nat.lt_or_ge j N with h | h
      · exact h
      · exact absurd hj (tail_waits hs hc hn inv _ i rfl hin hun j h)
    refine ⟨hjn, ?_⟩
    by_cases hji : j = i
    · subst hji; exact hy.qOpIn hi H
    · have := hdone _ _ H j (ready_mono hj hji)
      omega
  | succ f ih =>
    intro listed a inv hfree hr hy H
    have hun := (mem_ready.1 hr).1
    refine ⟨fun h => (by rw [h] at hr; cases hr), fun j hj => ?_⟩
    have hjn : j < N := by
      rcases Nat.lt_or_ge j N with h | h
      · exact h
      · exact absurd hj (tail_waits hs hc hn inv _ i rfl hin hun j h)
    refine ⟨hjn, ?_⟩
    by_cases hji : j = i
    · subst hji; exact hy.qOpIn hi H
    · have h1 := (H.2 j (ready_mono hj hji)).2
      obtain ⟨hjun, oj, hoj, hall⟩ := mem_ready.1 hj
      have hnot : ∀ e ∈ oj.after, Region.binds md e = true → e.on ≠ i := fun e he hb heq => by
        have h1 := hall e he hb
        rw [heq, getD_both hun] at h1
        cases h1
      have h2 := qOpIn_put hoj (hfree j oj hoj hji hjun hnot) (fun cs b => hsel i oi cs b hi) (fun cs b => hsel j oj cs b hoj) hy h1
      have hfree' : ∀ k ok, ops[k]? = some ok → k ≠ i → (listed.setIfInBounds j true).getD k true = false →
          (∀ e ∈ ok.after, Region.binds md e = true → e.on ≠ i) → oi.apart ops ok = true := fun k ok hk hki hun hno => by
        refine hfree k ok hk hki ?_ hno
        by_cases hjk : j = k
        · subst hjk; exact hjun
        · rw [getD_set_ne true hjk] at hun; exact hun
      refine qOpIn_mono (fun a' h3 => ih (listed.setIfInBounds j true) a' (inv.set hj hjn) hfree' (ready_mono hr (Ne.symm hji)) h3.1 ?_) h2
      rw [Array.setIfInBounds_comm _ _ hji]
      exact h3.2

theorem any_of_seqIn {Q' : Exit → Act → World → Prop} : ∀ (l : List Oper) (k : Nat) (listed : Array Bool) (a : Act) (w : World), (∀ j, l[j]? = ops[k + j]?) →
    Region.seqB md ops l.length k listed = true → wpListIn F n P ops Q' l a w → wpAnyIn F n P md ops Q' l.length listed a w
  | [], _, _, _, _, _, hB, h => ⟨by simpa [Region.seqB] using hB, h⟩
  | o :: l, k, listed, a, w, hl, hB, h => by
    have h0 : ops[k]? = some o := by simpa using (hl 0).symm
    simp only [List.length_cons, Region.seqB, Bool.and_eq_true, decide_eq_true_eq] at hB
    refine ⟨fun h1 => (by rw [hB.1] at h1; cases h1), fun i hi => ?_⟩
    rw [hB.1] at hi
    have hik : i = k := by simpa using hi
    subst hik
    have hw : wpOpIn F n P ops Q' i (wpListIn F n P ops Q' l) a w := by unfold wpOpIn; simp only [h0]; exact h
    exact wpOpIn_mono (fun a' w' h' => any_of_seqIn l (i + 1) _ a' w' (fun j => by have := hl (j + 1); simpa [Nat.add_assoc, Nat.add_comm 1 j] using this) hB.2 h') hw

theorem anyLQ_lex {N g : Nat} {Lq : Act → Prop} (hsel : Region.noSelect ops = true) (hs : Region.sinkB md ops N = true) (hc : Region.chainB md ops N = true) (hn : N < ops.size) :
    ∀ (l : List Oper) (k : Nat) (listed : Array Bool) (a : Act), (∀ j, j < l.length → l[j]? = ops[k + j]?) → k + l.length = N → HeadInv md ops N listed →
    Region.lexHead md ops g l.length k listed = true → wpQuietIn F n P ops C Lq l a →
    anyLQ F n P md ops C N (fun listed' a' => Region.seqB md ops g N listed' = true ∧ Lq a') l.length listed a
  | [], k, listed, a, _, hk, _, hB, h => by
    have : k = N := by simpa using hk
    subst this
    exact ⟨by simpa [Region.lexHead] using hB, h⟩
  | o :: l, k, listed, a, hl, hk, inv, hB, h => by
    have h0 : ops[k]? = some o := by simpa using (hl 0 (by simp)).symm
    simp only [List.length_cons, Region.lexHead, Bool.and_eq_true] at hB
    obtain ⟨⟨hr, hf⟩, hB'⟩ := hB
    have hkn : k < N := by simp only [List.length_cons] at hk; omega
    have hr' : k ∈ Region.ready md ops listed := by simpa using hr
    have hst : qOpIn F n P ops C k (wpQuietIn F n P ops C Lq l) a := by unfold qOpIn; simp only [h0]; exact h
    obtain ⟨v, hy, hK⟩ := yieldsQuiet_of_qOpIn h0 hst
    exact anyLQ_first h0 (Region.noSelect_spec hsel) hs hc hn hkn (fun listed' a' hL => seqB_ready hL.1) l.length listed a inv (Region.free_spec h0 hf) hr' hy
      (anyLQ_lex hsel hs hc hn l (k + 1) _ _ (fun j hj => by have := hl (j + 1) (by simp; omega); simpa [Nat.add_assoc, Nat.add_comm 1 j] using this) (by simp only [List.length_cons] at hk; omega) (inv.set hr' hkn) hB' hK)

/-- A region that draws its order: N operations that read or call quietly, and the tail. -/
theorem wpIn_region_quiet_tail {id : Nat} {Q : Exit → Act → World → Prop} {a : Act} {w : World} {l : List Oper} (N : Nat) (hp : plainOps l = true) (hm : P.follows .mixedOrders = true) (hB : Region.lexTailB .any l.toArray N = true)
    (h : wpQuietIn F n P l.toArray (fun w' => ∃ k, w' = w.drewN k) (fun a' => ∀ w', (∃ k, w' = w.drewN k) → wpListIn F n P l.toArray Q (l.drop N) a' w') (l.take N) a) : (Code.region id l.toArray true).wpIn F n P Q a w := by
  have hd : ∀ (i : Nat) (o : Oper), l.toArray[i]? = some o → ∀ c : Call, o.op ≠ Op.defer c := by
    intro i o ho c e
    have hm : o ∈ l := List.mem_of_getElem? (by simpa using ho)
    have := List.all_eq_true.1 hp o hm
    rw [e] at this
    cases this
  simp only [Region.lexTailB, Bool.and_eq_true, decide_eq_true_eq] at hB
  obtain ⟨⟨⟨⟨hsel, hn⟩, hs⟩, hc⟩, hlex⟩ := hB
  have hn' : N < l.length := by simpa using hn
  have htl : (l.take N).length = N := by simp; omega
  have hdl : (l.drop N).length = l.toArray.size - N := by simp
  have inv0 : HeadInv .any l.toArray N (Array.replicate l.toArray.size false) :=
    ⟨by simp, fun j oj _ hl => (by rw [getD_replicate_false] at hl; cases hl), fun t _ ht => getD_in (by simpa using ht) (getD_replicate_false _ _)⟩
  have H := anyLQ_lex (md := .any) (g := l.toArray.size - N) hsel hs hc hn (l.take N) 0 _ a (fun j hj => by
    have hj' : j < N := by rw [htl] at hj; exact hj
    simp [hj']) (by simpa using htl) inv0 (by rw [htl]; exact hlex) h
  refine wpIn_region_any hm ?_
  have := any_of_headQ (Q' := Q) (g := l.toArray.size - N) (C := fun w' => ∃ k, w' = w.drewN k) hd (fun listed a' w' hw' hL => by
    have := any_of_seqIn (F := F) (n := n) (P := P) (md := .any) (Q' := Q) (l.drop N) N listed a' w' (fun j => by simp [List.getElem?_drop]) (by rw [hdl]; exact hL.1) (hL.2 w' hw')
    rwa [hdl] at this) _ _ _ { w with drawn := w.drawn + 1 } ⟨1, rfl⟩ H
  rw [htl, show N + (l.toArray.size - N) = l.toArray.size by omega] at this
  exact this

end Go.Proofs.Ytocbjclflabmcaa.S

namespace Go.Proofs.Ytocbjclflabmcaa.S
open Go.RowKit Go.Proofs.YtocbjclflabmcaaW.PrintWords Go.Proofs.YtocbjclflabmcaaW.PrintLast Go.Proofs.YtocbjclflabmcaaW.PrintMore
set_option linter.unusedVariables false
set_option linter.unusedSimpArgs false
attribute [local go_sem] Oper.semAt_some

/-- A block of three cells. -/
def Blk3 (w : World) (B : Nat) (t : TypeId) (x y z : Value) : Prop := w.heap[B]? = some (.cells #[x, y, z] t (0, 0))
theorem Blk3.c0 {w : World} {B : Nat} {t : TypeId} {x y z : Value} (h : Blk3 w B t x y z) : w.cell? ⟨B, 0, none⟩ = some x := by unfold Blk3 at h; simp [World.cell?, h]
theorem Blk3.c1 {w : World} {B : Nat} {t : TypeId} {x y z : Value} (h : Blk3 w B t x y z) : w.cell? ⟨B, 1, none⟩ = some y := by unfold Blk3 at h; simp [World.cell?, h]
theorem Blk3.c2 {w : World} {B : Nat} {t : TypeId} {x y z : Value} (h : Blk3 w B t x y z) : w.cell? ⟨B, 2, none⟩ = some z := by unfold Blk3 at h; simp [World.cell?, h]
theorem Blk3.lt {w : World} {B : Nat} {t : TypeId} {x y z : Value} (h : Blk3 w B t x y z) : B < w.heap.size := (Array.getElem?_eq_some_iff.1 h).1
theorem Blk3.alloc {w : World} {B : Nat} {t : TypeId} {x y z : Value} (h : Blk3 w B t x y z) (o : Obj) : Blk3 (w.alloc o) B t x y z := (Below.heap_alloc w o B h.lt).trans h
theorem Blk3.new (w : World) (t : TypeId) (x y z : Value) : Blk3 (w.alloc (.cells #[x, y, z] t)) w.heap.size t x y z := World.alloc_heap_new w _

theorem grown_drewN (w : World) (n : Nat) (row : Option Nat) : w.grownBy (w.drewN n) row := ⟨rfl, rfl, rfl, Nat.le_refl _, fun _ _ _ => rfl⟩

/-- What a round must keep: the two variables that the iterator reads. -/
def Keep2 (b1 b2 : Nat) (W W' : World) : Prop := W'.heap[b1]? = W.heap[b1]? ∧ W'.heap[b2]? = W.heap[b2]?
theorem keep2_b {b1 b2 : Nat} {w : World} (h1 : b1 < w.heap.size) (h2 : b2 < w.heap.size) (W : World) (l : Nat) (o o' : Obj) (hl : w.heap.size ≤ l) : Keep2 b1 b2 W (W.putObj l o') :=
  ⟨World.putObj_heap_other (by omega), World.putObj_heap_other (by omega)⟩
theorem keep2_t {b1 b2 : Nat} {A B C : World} (h : Keep2 b1 b2 A B) (k : Keep2 b1 b2 B C) : Keep2 b1 b2 A C := ⟨k.1.trans h.1, k.2.trans h.2⟩
theorem keep2_drewN {b1 b2 : Nat} (W : World) (n : Nat) : Keep2 b1 b2 W (W.drewN n) := ⟨rfl, rfl⟩

theorem back_any (A : Option Addr) (n c : Nat) (w : World) : Calls Try.prog 52 #[.slice A n c] w fun e w' =>
    e = .returned (.func (.func 55) #[] #[.pointer (some ⟨w.heap.size, 0, none⟩)]) ∧ w' = w.alloc (.cells #[.slice A n c] 34) := by
  have hmf : ∀ (fn : Fn) (first cap : Array Value) (w : World), (Instr.makeFunc fn first cap).run Try.prog w = .ok (.func fn first cap) w := fun _ _ _ _ => rfl
  go_enter Try.func52, Try.ntmps52
  go_wp2
  go_ret
  exact ⟨rfl, rfl⟩

def encB (x : Int × Int) : Array Value := #[.int .i64 x.1, .int .i64 x.2]

set_option maxHeartbeats 1000000 in
set_option maxRecDepth 100000 in
theorem back_stops (n : Nat) (hn : 2 ≤ n) (Bs Ba : Nat) (x y z : Int) (w : World) (hBs : Boxed w Bs 34 (.slice (some ⟨Ba, 0, none⟩) 3 3)) (hBa : Blk3 w Ba 62 (.int .i64 x) (.int .i64 y) (.int .i64 z)) :
    SeqStopsK Fence.wide n Try.prog 55 #[.pointer (some ⟨Bs, 0, none⟩)] encB (Keep2 Bs Ba) (fun ys => ys = [((2 : Int), z), (1, y), (0, x)]) (fun pre => pre <+: [((2 : Int), z), (1, y), (0, x)]) 3 w := by
  intro l J Jx W hW hJ hJx hY h0
  have bBs : Boxed W Bs 34 (.slice (some ⟨Ba, 0, none⟩) 3 3) := (hW.block Bs hBs.lt).trans hBs
  have bBa : Blk3 W Ba 62 (.int .i64 x) (.int .i64 y) (.int .i64 z) := (hW.block Ba hBa.lt).trans hBa
  have cBs := bBs.cell
  refine callsIn_of_wp Try.func55 rfl trivial ?_ rfl
  simp only [Try.ntmps55, List.size_toArray, List.length_cons, List.length_nil, Nat.reduceAdd, Nat.reduceSub, Array.replicate_succ, Array.replicate_zero, List.push_toArray, List.append_toArray, List.nil_append, List.cons_append]
  gi_wp2
  clear cBs
  gi_loopw [3] (fun v3 wr => ∃ (i : Int) (pre : List (Int × Int)), v3 = .int .i64 i ∧ ((i = 2 ∧ pre = []) ∨ (i = 1 ∧ pre = [((2 : Int), z)]) ∨ (i = 0 ∧ pre = [((2 : Int), z), (1, y)]) ∨ (i = -1 ∧ pre = [((2 : Int), z), (1, y), (0, x)])) ∧ J pre wr ∧ Aside0 (Boxed wr Bs 34 (.slice (some ⟨Ba, 0, none⟩) 3 3)) ∧ Aside0 (Blk3 wr Ba 62 (.int .i64 x) (.int .i64 y) (.int .i64 z)))
    (fun v3 _ => (intOf v3 + 1).toNat)
  case atStart => exact ⟨2, [], rfl, .inl ⟨rfl, rfl⟩, h0, ⟨bBs⟩, ⟨bBa⟩⟩
  case round =>
    obtain ⟨i, pre, rfl, hc, hj, hb1, hb2⟩ := hrel
    have c1 := hb1.out.cell
    have d0 := hb2.out.c0
    have d1 := hb2.out.c1
    have d2 := hb2.out.c2
    have key : ∀ (i : Int) (pre : List (Int × Int)) (v : Int), pre.length < 3 → J pre wr → YieldAt Fence.wide (n - 1) Try.prog l (encB (i, v)) wr fun e W' => (e = .returned (.bool true) ∧ J (pre ++ [(i, v)]) W' ∧ Keep2 Bs Ba wr W') ∨ (e = .returned (.bool false) ∧ Jx (pre ++ [(i, v)]) W') := fun i pre v hl hj => hY pre (i, v) wr hj hl
    have KEY := Aside0.mk key
    clear key
    rcases hc with ⟨rfl, rfl⟩ | ⟨rfl, rfl⟩ | ⟨rfl, rfl⟩ | ⟨rfl, rfl⟩
    · obtain ⟨fn, tmps, assign, body, hyy, hR⟩ := KEY.out 2 [] z (by simp) hj
      simp only [encB] at hyy
      gi_wp2
      refine ⟨fun _ => by omega, hR.mono ?_⟩
      rintro e W3 (⟨rfl, hJ3, hk3⟩ | ⟨rfl, hJx3⟩)
      · gi_wp2
        go_roundw
        case rel => exact ⟨1, _, rfl, .inr (.inl ⟨rfl, rfl⟩), hJ3, ⟨hk3.1.trans hb1.out⟩, ⟨hk3.2.trans hb2.out⟩⟩
        case measure => simp [intOf]
      · gi_wp2
        refine bodyPost_ret (results_none rfl _ _ _) rfl ?_
        exact ⟨⟨_, rfl⟩, .inr ⟨_, ⟨_, rfl⟩, hJx3⟩⟩
    · obtain ⟨fn, tmps, assign, body, hyy, hR⟩ := KEY.out 1 _ y (by simp) hj
      simp only [encB] at hyy
      gi_wp2
      refine ⟨fun _ => by omega, hR.mono ?_⟩
      rintro e W3 (⟨rfl, hJ3, hk3⟩ | ⟨rfl, hJx3⟩)
      · gi_wp2
        go_roundw
        case rel => exact ⟨0, _, rfl, .inr (.inr (.inl ⟨rfl, rfl⟩)), hJ3, ⟨hk3.1.trans hb1.out⟩, ⟨hk3.2.trans hb2.out⟩⟩
        case measure => simp [intOf]
      · gi_wp2
        refine bodyPost_ret (results_none rfl _ _ _) rfl ?_
        exact ⟨⟨_, rfl⟩, .inr ⟨_, ⟨_, rfl⟩, hJx3⟩⟩
    · obtain ⟨fn, tmps, assign, body, hyy, hR⟩ := KEY.out 0 _ x (by simp) hj
      simp only [encB] at hyy
      gi_wp2
      refine ⟨fun _ => by omega, hR.mono ?_⟩
      rintro e W3 (⟨rfl, hJ3, hk3⟩ | ⟨rfl, hJx3⟩)
      · gi_wp2
        go_roundw
        case rel => exact ⟨-1, _, rfl, .inr (.inr (.inr ⟨rfl, rfl⟩)), hJ3, ⟨hk3.1.trans hb1.out⟩, ⟨hk3.2.trans hb2.out⟩⟩
        case measure => simp [intOf]
      · gi_wp2
        refine bodyPost_ret (results_none rfl _ _ _) rfl ?_
        exact ⟨⟨_, rfl⟩, .inr ⟨_, ⟨_, rfl⟩, hJx3⟩⟩
    · gi_wp2
      go_end0
      exact ⟨⟨_, rfl⟩, .inl ⟨_, rfl, hj⟩⟩

end Go.Proofs.Ytocbjclflabmcaa.S

namespace Go.Proofs.Ytocbjclflabmcaa.S
open Go.RowKit Go.Proofs.YtocbjclflabmcaaW.PrintWords Go.Proofs.YtocbjclflabmcaaW.PrintLast Go.Proofs.YtocbjclflabmcaaW.PrintMore
attribute [local go_sem] Oper.semAt_some wide_fn wideR_fn
attribute [local simp] wide_fn wideR_fn

/-- A speed that a car may take. -/
def fits (m left v : Int) : Bool := !(decide (v < 0)) && !(decide (m < v)) && !(decide (left < triV v))
def candV (s : Int) : List (Int × Int) := [(2, wrap64 (s + 1)), (1, s), (0, wrap64 (s - 1))]
/-- Place and speed behind a tick. -/
def tickV (p g s m : Int) : Int × Int :=
  if restV p g = 0 then (p, s) else
    match (candV s).find? (fun x => fits m (restV p g) x.2) with
    | none => (p, s)
    | some x => (wrap64 (p + wrap64 (wayV p g * x.2)), if restV (wrap64 (p + wrap64 (wayV p g * x.2))) g = 0 then 0 else x.2)

theorem grown_ext {w W W' : World} {B : Nat} {row : Option Nat} (h : w.grownBy W (some B)) (g : W.grownBy W' row) (hr : ∀ r, row = some r → w.heap.size ≤ r ∨ r = B) : w.grownBy W' (some B) :=
  ⟨g.os.trans h.os, g.tape.trans h.tape, g.output.trans h.output, Nat.le_trans h.size g.size, fun k hk hne => by
    refine (g.block k (Nat.lt_of_lt_of_le hk h.size) (fun e => ?_)).trans (h.block k hk hne)
    rcases hr k e.symm with h1 | h1
    · omega
    · exact hne (by rw [h1])⟩
theorem grown_refl (w : World) (row : Option Nat) : w.grownBy w row := ⟨rfl, rfl, rfl, Nat.le_refl _, fun _ _ _ => rfl⟩
theorem grown_set (w : World) (B o : Nat) (v : Value) : w.grownBy (w.setCell ⟨B, o, none⟩ v) (some B) :=
  ⟨rfl, rfl, rfl, by simp, fun k _ hne => Below.heap_setCell w ⟨B, o, none⟩ v k (fun e => hne (by simpa using e))⟩
theorem grown_own {β : Type} (w : World) (B Bs : Nat) (hb : w.heap.size ≤ Bs) : OwnFrom Bs (fun (_ : β) W => w.grownBy W (some B)) :=
  fun _ _ _ _ hs hg hr => grown_ext hs hg (fun r e => .inl (by have := (hr r e).1; omega))
theorem car_own {β : Type} (B : Nat) (p g s m : Int) : Own (fun (_ : β) W => Car W B p g s m) := fun _ A _ row hs hg hr =>
  (hg.block B hs.lt (fun e' => by obtain ⟨o, ho, hc⟩ := hr _ e'.symm; rw [show A.heap[B]? = _ from hs] at ho; cases ho; cases hc)).trans hs
theorem own_and {β : Type} {I J : β → World → Prop} (h : Own I) (k : Own J) : Own (fun s W => I s W ∧ J s W) := fun s A B row hs hg hr => ⟨h s A B row hs.1 hg hr, k s A B row hs.2 hg hr⟩
theorem snoc_all {α : Type} {f : α → Bool} {pre : List α} {x : α} {b : Bool} (h : ∀ y ∈ pre, f y = b) (hx : f x = b) : ∀ y ∈ pre ++ [x], f y = b := fun y hy => by
  rcases List.mem_append.1 hy with h1 | h1
  · exact h y h1
  · rw [List.mem_singleton.1 h1]; exact hx
theorem own_pure {β : Type} (q : β → Prop) : Own (fun (s : β) (_ : World) => q s) := fun _ _ _ _ hs _ _ => hs
theorem own_ex {α β : Type} {I : α → β → World → Prop} {n : Nat} (h : ∀ x, OwnFrom n (I x)) : OwnFrom n (fun s W => ∃ x, I x s W) := fun s A B row ⟨x, hs⟩ hg hr => ⟨x, h x s A B row hs hg hr⟩
theorem grown_of_below {w W W' : World} {B : Nat} (h : w.grownBy W (some B)) (hb : Below W.heap.size W W') : w.grownBy W' (some B) :=
  grown_ext h (⟨hb.os, hb.tape, hb.output, hb.size, fun k hk _ => hb.block k hk⟩ : W.grownBy W' none) (fun r e => by cases e)

theorem boxed_far {W : World} {B : Nat} {t : TypeId} {v : Value} (h : Boxed W B t v) (p : Addr) (u : Value) (hne : ¬ B = p.block) : Boxed (W.setCell p u) B t v := (Below.heap_setCell W p u B hne).trans h
theorem w9_boxed {W : World} {B : Nat} {t : TypeId} {v : Value} (h : Boxed W B t v) (n : Nat) : Boxed (W.drewN n) B t v := h
theorem find_at {α : Type} {f : α → Bool} {l pre : List α} {x : α} (hp : pre ++ [x] <+: l) (hn : ∀ y ∈ pre, f y = false) (hx : f x = true) : l.find? f = some x := by
  obtain ⟨t, rfl⟩ := hp
  rw [List.append_assoc, List.find?_append, List.find?_eq_none.2 (fun y hy => by rw [hn y hy]; decide)]
  simp [hx]
theorem tick_none {p g s m : Int} (h0 : ¬ restV p g = 0) (h : ∀ x ∈ candV s, fits m (restV p g) x.2 = false) : tickV p g s m = (p, s) := by
  unfold tickV
  rw [if_neg h0, List.find?_eq_none.2 (fun y hy => by rw [h y hy]; decide)]
theorem tick_some {p g s m : Int} {x : Int × Int} {pre : List (Int × Int)} (h0 : ¬ restV p g = 0) (hp : pre ++ [x] <+: candV s) (hn : ∀ y ∈ pre, fits m (restV p g) y.2 = false) (hx : fits m (restV p g) x.2 = true) :
    tickV p g s m = (wrap64 (p + wrap64 (wayV p g * x.2)), if restV (wrap64 (p + wrap64 (wayV p g * x.2))) g = 0 then 0 else x.2) := by
  unfold tickV
  rw [if_neg h0, find_at (f := fun x => fits m (restV p g) x.2) hp hn hx]

def StI (w : World) (B : Nat) (p g s m left : Int) (pre : List (Int × Int)) (W : World) : Prop :=
  (Car W B p g s m ∧ Boxed W w.heap.size 54 (.pointer (some ⟨B, 0, none⟩)) ∧ Boxed W (w.heap.size + 1) 3 (.int .i64 left)) ∧ w.grownBy W (some B) ∧ (∀ x ∈ pre, fits m left x.2 = false)
def StX (w : World) (B : Nat) (p g s m left : Int) (c : Code) (pre : List (Int × Int)) (W : World) : Prop :=
  ∃ x : Int × Int, (Car W B (wrap64 (p + wrap64 (wayV p g * x.2))) g x.2 m ∧ Boxed W w.heap.size 54 (.pointer (some ⟨B, 0, none⟩))) ∧ w.grownBy W (some B) ∧ (c = .exit 0 ∧ ∃ pre', pre = pre' ++ [x] ∧ (∀ y ∈ pre', fits m left y.2 = false) ∧ fits m left x.2 = true)

set_option maxHeartbeats 4000000 in
set_option maxRecDepth 100000 in
theorem step_any (B : Nat) (p g s m : Int) (w : World) (h : Car w B p g s m) : Calls Try.prog 42 #[.pointer (some ⟨B, 0, none⟩)] w fun e w' => e = .returned (.tuple #[]) ∧ Car w' B (tickV p g s m).1 g (tickV p g s m).2 m ∧ w.grownBy w' (some B) := by
  have hu := Try.underlying48
  have hu62 := Try.underlying62
  have H := Aside0.mk h
  have hlt := h.lt
  clear h
  refine (callsIn_wide (n := 9)).1 ?_
  refine callsIn_of_wp_marks Try.func42 rfl trivial ?_ rfl
  simp only [Try.ntmps42, List.size_toArray, List.length_cons, List.length_nil, Nat.reduceAdd, Nat.reduceSub, Array.replicate_succ, Array.replicate_zero, List.push_toArray, List.append_toArray, List.nil_append, List.cons_append]
  rw [wpIn_wide]
  go_wp2_with fail
  refine (rest_any B p g s m _ (H.out.alloc _)).mono ?_
  rintro e w' ⟨rfl, ⟨nd, rfl⟩⟩
  obtain ⟨wa, hwa⟩ : ∃ x, (w.alloc (.cells #[.pointer (some ⟨B, 0, none⟩)] 54)).drewN nd = x := ⟨_, rfl⟩
  have ha1 : Boxed wa w.heap.size 54 (.pointer (some ⟨B, 0, none⟩)) := by rw [← hwa]; exact Boxed.new w 54 _
  have ha2 : Car wa B p g s m := by rw [← hwa]; exact (H.out.alloc _).drewN _
  have ha3 : w.grownBy wa (some B) := by rw [← hwa]; exact grown_ext (World.grownBy_alloc w _ _) (grown_drewN _ _ none) (fun r e => by cases e)
  have sa : wa.heap.size = w.heap.size + 1 := by rw [← hwa]; simp
  rw [hwa]
  clear hwa
  have Ha1 := Aside0.mk ha1
  have Ha2 := Aside0.mk ha2
  have Ha3 := Aside0.mk ha3
  have Sa := Aside0.mk sa
  have cm := ha1.cell
  clear ha1 ha2 ha3 sa
  go_upto_region 2 with (fail)
  obtain ⟨wb, hwb⟩ : ∃ x, wa.alloc (.cells #[.int .i64 (restV p g)] 3) = x := ⟨_, rfl⟩
  have hb1 : Boxed wb w.heap.size 54 (.pointer (some ⟨B, 0, none⟩)) := by rw [← hwb]; exact Ha1.out.alloc _
  have hb2 : Car wb B p g s m := by rw [← hwb]; exact Ha2.out.alloc _
  have hb3 : w.grownBy wb (some B) := by rw [← hwb]; exact grown_ext Ha3.out (World.grownBy_alloc wa _ none) (fun r e => by cases e)
  have hb4 : Boxed wb (w.heap.size + 1) 3 (.int .i64 (restV p g)) := by rw [← hwb, ← Sa.out]; exact Boxed.new wa 3 _
  have sb : wb.heap.size = w.heap.size + 1 + 1 := by rw [← hwb, World.size_alloc, Sa.out]
  rw [hwb, Sa.out]
  clear hwb cm
  have Hb1 := Aside0.mk hb1
  have Hb2 := Aside0.mk hb2
  have Hb3 := Aside0.mk hb3
  have Hb4 := Aside0.mk hb4
  have Sb := Aside0.mk sb
  have cm := hb1.cell
  have cl := hb4.cell
  have c2 := hb2.c2
  clear hb1 hb2 hb3 hb4 sb Ha1 Ha2 Ha3 Sa
  cases d0 : (restV p g == 0) with
  | true =>
    have HD := Aside0.mk (eq_of_beq d0)
    go_wp2_with fail
    have e1 : tickV p g s m = (p, s) := if_pos HD.out
    exact ⟨.tuple #[], results_none rfl _ _ _, rfl, by rw [e1]; exact Hb2.out, Hb3.out⟩
  | false =>
    have HD := Aside0.mk (show ¬ restV p g = 0 by simpa using d0)
    go_wp2_with fail
    go_region_held3 (fun w' => w'.cell? ⟨w.heap.size, 0, none⟩ = some (.pointer (some ⟨B, 0, none⟩)) ∧ w'.cell? ⟨B, 2, none⟩ = some (.int .i64 s)) (go_keep) (fail)
    obtain ⟨wc, hwc⟩ : ∃ x, (wb.alloc (Obj.cells #[.int .i64 (IntKind.i64.wrap (s - 1)), .int .i64 s, .int .i64 (IntKind.i64.wrap (s + 1))] 62)).drew = x := ⟨_, rfl⟩
    have hb1 : Boxed wc w.heap.size 54 (.pointer (some ⟨B, 0, none⟩)) := by rw [← hwc]; exact Hb1.out.alloc _
    have hb2 : Car wc B p g s m := by rw [← hwc]; exact Hb2.out.alloc _
    have hb3 : w.grownBy wc (some B) := by rw [← hwc]; exact grown_ext (grown_ext Hb3.out (World.grownBy_alloc wb _ none) (fun r e => by cases e)) (grown_drewN _ 1 none) (fun r e => by cases e)
    have hb4 : Boxed wc (w.heap.size + 1) 3 (.int .i64 (restV p g)) := by rw [← hwc]; exact Hb4.out.alloc _
    have hb5 : Blk3 wc (w.heap.size + 1 + 1) 62 (.int .i64 (IntKind.i64.wrap (s - 1))) (.int .i64 s) (.int .i64 (IntKind.i64.wrap (s + 1))) := by rw [← hwc, ← Sb.out]; exact Blk3.new wb 62 _ _ _
    simp only [i64_w] at hb5
    have sc : wc.heap.size = w.heap.size + 1 + 1 + 1 := by rw [← hwc, ← Sb.out]; exact World.size_alloc wb _
    rw [hwc, Sb.out]
    clear hwc cm cl c2
    have Hc1 := Aside0.mk hb1
    have Hc2 := Aside0.mk hb2
    have Hc3 := Aside0.mk hb3
    have Hc4 := Aside0.mk hb4
    have Hc5 := Aside0.mk hb5
    have Sc := Aside0.mk sc
    clear hb1 hb2 hb3 hb4 hb5 sc Hb1 Hb2 Hb3 Hb4 Sb
    go_wp2_with fail
    refine (back_any _ _ _ _).mono ?_
    rintro e w' ⟨rfl, rfl⟩
    obtain ⟨wd, hwd⟩ : ∃ x, wc.alloc (.cells #[.slice (some ⟨w.heap.size + 1 + 1, 0, none⟩) 3 3] 34) = x := ⟨_, rfl⟩
    have hb1 : Boxed wd w.heap.size 54 (.pointer (some ⟨B, 0, none⟩)) := by rw [← hwd]; exact Hc1.out.alloc _
    have hb2 : Car wd B p g s m := by rw [← hwd]; exact Hc2.out.alloc _
    have hb3 : w.grownBy wd (some B) := by rw [← hwd]; exact grown_ext Hc3.out (World.grownBy_alloc wc _ none) (fun r e => by cases e)
    have hb4 : Boxed wd (w.heap.size + 1) 3 (.int .i64 (restV p g)) := by rw [← hwd]; exact Hc4.out.alloc _
    have hb5 : Blk3 wd (w.heap.size + 1 + 1) 62 (.int .i64 (wrap64 (s - 1))) (.int .i64 s) (.int .i64 (wrap64 (s + 1))) := by rw [← hwd]; exact Hc5.out.alloc _
    have hb6 : Boxed wd (w.heap.size + 1 + 1 + 1) 34 (.slice (some ⟨w.heap.size + 1 + 1, 0, none⟩) 3 3) := by rw [← hwd, ← Sc.out]; exact Boxed.new wc 34 _
    have sd : wd.heap.size = w.heap.size + 1 + 1 + 1 + 1 := by rw [← hwd, World.size_alloc, Sc.out]
    rw [hwd, Sc.out]
    clear hwd
    have H1 := Aside0.mk hb1
    have H2 := Aside0.mk hb2
    have H3 := Aside0.mk hb3
    have H4 := Aside0.mk hb4
    have Sd := Aside0.mk sd
    clear hb1 hb2 hb3 hb4 sd Hc1 Hc2 Hc3 Hc4 Hc5 Sc
    go_wp2_with fail
    rw [← wpIn_wide (n := 9)]
    refine wpIn_rangeFunc_ownF rfl (by omega) (gf := 55) (lb := #[.pointer (some ⟨w.heap.size + 1 + 1 + 1, 0, none⟩)]) rfl trivial (enters_of Try.func55 (by kernel_rfl) rfl)
      (back_stops (9 - 1) (by omega) (w.heap.size + 1 + 1 + 1) (w.heap.size + 1 + 1) (wrap64 (s - 1)) s (wrap64 (s + 1)) wd hb6 hb5) keep2_t
      (fun W l o o' hl _ _ _ => keep2_b (w := wd) (by have := Sd.out; omega) (by have := Sd.out; omega) W l o o' hl) (Below.refl _ _) (fun _ => rfl)
      (StI w B p g s m (restV p g)) (StX w B p g s m (restV p g)) ?hI ?hIx ?h0 ?a1 ?assign ?body ?done ?stop
    case assign =>
      intro l x W K hK
      unfold encB
      gi_wp2
      exact hK
    case hI => exact OwnFrom.and ((own_and (car_own B p g s m) (own_and (boxed_own _ _ (fun _ => _)) (boxed_own _ _ (fun _ => _)))).from _) (OwnFrom.and (grown_own w B _ (by have := Sd.out; omega)) ((own_pure _).from _))
    case hIx => exact fun c => own_ex fun x => OwnFrom.and ((own_and (car_own B _ g _ m) (boxed_own _ _ (fun _ => _))).from _) (OwnFrom.and (grown_own w B _ (by have := Sd.out; omega)) ((own_pure _).from _))
    case h0 => exact ⟨⟨H2.out, H1.out, H4.out⟩, H3.out, by simp⟩
    case body =>
      rintro l pre x W ⟨⟨h1, h2, h3⟩, h4, h5⟩ hlen
      have hmx : Try.prog.follows .mixedOrders = true := by kernel_rfl
      have cm := h2.cell
      have cl := h3.cell
      have k0 := h1.c0
      have k3 := h1.c3
      have k2 := h1.c2
      have f0 := h1.fr 0
      have f2 := h1.fr 2
      have HC := Aside0.mk h1
      have HB := Aside0.mk h2
      have HL := Aside0.mk h3
      have HG := Aside0.mk h4
      have HA := Aside0.mk h5
      clear h1 h2 h3 h4 h5
      cases d1 : decide (x.2 < 0) with
      | true =>
        have e1 := Aside0.mk (show fits m (restV p g) x.2 = false by unfold fits; rw [d1]; rfl)
        gi_wp2
        refine wpIn_region_quietR (by kernel_rfl) (by kernel_rfl) (by kernel_rfl) ?_
        repeat (gi_big_quiet_step (fail))
        refine wpQuietIn_nil ?_
        intro _ hw'
        obtain ⟨nq, hw''⟩ := hw'
        subst hw''
        gi_wp2
        exact ⟨⟨Nat.le_refl _, fun _ _ h _ => h⟩, keep2_drewN W nq, ⟨HC.out.drewN _, HB.out, HL.out⟩, grown_ext HG.out (grown_drewN _ _ none) (fun r e => by cases e), snoc_all HA.out e1.out⟩
      | false =>
        cases d2 : decide (m < x.2) with
        | true =>
          have e1 := Aside0.mk (show fits m (restV p g) x.2 = false by unfold fits; rw [d1, d2]; rfl)
          gi_wp2
          refine wpIn_region_quietR (by kernel_rfl) (by kernel_rfl) (by kernel_rfl) ?_
          repeat (gi_big_quiet_step (fail))
          refine wpQuietIn_nil ?_
          intro _ hw'
          obtain ⟨nq, hw''⟩ := hw'
          subst hw''
          gi_wp2
          exact ⟨⟨Nat.le_refl _, fun _ _ h _ => h⟩, keep2_drewN W nq, ⟨HC.out.drewN _, HB.out, HL.out⟩, grown_ext HG.out (grown_drewN _ _ none) (fun r e => by cases e), snoc_all HA.out e1.out⟩
        | false =>
          cases d3 : decide (restV p g < triV x.2) with
          | true =>
            have e1 := Aside0.mk (show fits m (restV p g) x.2 = false by unfold fits; rw [d1, d2, d3]; rfl)
            gi_wp2
            refine wpIn_region_quietR (by kernel_rfl) (by kernel_rfl) (by kernel_rfl) ?_
            repeat (gi_big_quiet_step ((gi_at_call 38; exact CallsIn.inRound l (callsIn_wide.2 (tri_q _ _ _)))))
            refine wpQuietIn_nil ?_
            intro _ hw'
            obtain ⟨nq, hw''⟩ := hw'
            subst hw''
            gi_wp2
            exact ⟨⟨Nat.le_refl _, fun _ _ h _ => h⟩, keep2_drewN W nq, ⟨HC.out.drewN _, HB.out, HL.out⟩, grown_ext HG.out (grown_drewN _ _ none) (fun r e => by cases e), snoc_all HA.out e1.out⟩
          | false =>
            have e1 := Aside0.mk (show fits m (restV p g) x.2 = true by unfold fits; rw [d1, d2, d3]; rfl)
            gi_wp2
            refine wpIn_region_quietR (by kernel_rfl) (by kernel_rfl) (by kernel_rfl) ?_
            repeat (gi_big_quiet_step ((gi_at_call 38; exact CallsIn.inRound l (callsIn_wide.2 (tri_q _ _ _)))))
            refine wpQuietIn_nil ?_
            intro _ hw'
            obtain ⟨nq, hw''⟩ := hw'
            subst hw''
            gi_wp2
            have hne1 : ¬ w.heap.size = B := by omega
            have hne2 : ¬ B = w.heap.size := by omega
            obtain ⟨W1, hW1⟩ : ∃ x, W.drewN nq = x := ⟨_, rfl⟩
            have h1 : Car W1 B p g s m := by rw [← hW1]; exact HC.out
            have h2 : Boxed W1 w.heap.size 54 (.pointer (some ⟨B, 0, none⟩)) := by rw [← hW1]; exact HB.out
            have h4 : w.grownBy W1 (some B) := by rw [← hW1]; exact grown_ext HG.out (grown_drewN _ _ none) (fun r e => by cases e)
            have hko : KeepsOthers W W1 := by rw [← hW1]; exact ⟨Nat.le_refl _, fun _ _ h _ => h⟩
            rw [hW1]
            clear hW1 cm cl k0 k2 k3 f0 f2
            have cm := h2.cell
            have k0 := h1.c0
            have k2 := h1.c2
            have f0 := h1.fr 0
            have f2 := h1.fr 2
            have HC1 := Aside0.mk h1
            have HB1 := Aside0.mk h2
            have HG1 := Aside0.mk h4
            have HK1 := Aside0.mk hko
            clear h1 h2 h4 hko
            refine wpIn_region_quiet_tail 11 (by kernel_rfl) (by kernel_rfl) (by kernel_rfl) ?_
            simp only [List.take_succ_cons, List.take_zero, List.drop_succ_cons, List.drop_zero]
            repeat (gi_big_quiet_step ((gi_at_call 47; exact CallsIn.inRound l (callsIn_wide.2 (way_q B p g s m _ _ HC1.out)))))
            refine wpQuietIn_nil ?_
            intro _ hw'
            obtain ⟨nr, hw''⟩ := hw'
            subst hw''
            gi_wp2
            exact ⟨((HK1.out.trans (show KeepsOthers W1 (W1.drewN nr) from ⟨Nat.le_refl _, fun _ _ h _ => h⟩)).trans (KeepsOthers.setCell _ _ _)).trans (KeepsOthers.setCell _ _ _), x, ⟨((HC1.out.drewN nr).setPos _).setSpeed _, boxed_far (boxed_far (w9_boxed HB1.out nr) _ _ hne1) _ _ hne1⟩,
              grown_ext (grown_ext (grown_ext HG1.out (grown_drewN _ nr none) (fun r e => by cases e)) (grown_set _ B 0 _) (fun r e => .inr (by cases e; rfl))) (grown_set _ B 2 _) (fun r e => .inr (by cases e; rfl)), rfl, pre, rfl, HA.out, e1.out⟩
    case done =>
      rintro D xs W hD rfl ⟨⟨h1, h2, h3⟩, h4, h5⟩ hK
      have cm := h2.cell
      have HC := Aside0.mk h1
      have HG := Aside0.mk h4
      have HA := Aside0.mk h5
      have HK := Aside0.mk hK
      clear h1 h2 h3 h4 h5 hK
      go_wp2_with fail
      refine (rest_any B p g s m _ HC.out).mono ?_
      rintro e w' ⟨rfl, ⟨nr, rfl⟩⟩
      go_wp2_with fail
      refine ⟨by simp, .inl ⟨_, _, rfl, run_takeDeferred (by exact HK.out), ?_⟩⟩
      have e1 : tickV p g s m = (p, s) := tick_none HD.out HA.out
      have hbD : ¬ B = D := by have := Sd.out; omega
      exact ⟨.tuple #[], results_none rfl _ _ _, rfl, by rw [e1]; exact (World.putObj_heap_other hbD).trans (HC.out.drewN nr), grown_ext (grown_ext HG.out (grown_drewN _ nr none) (fun r e => by cases e)) (grownBy_putObj' _ D _) (fun r e => .inl (by cases e; have := Sd.out; omega))⟩
    case stop =>
      rintro D c pre W hD hpre ⟨x, ⟨h1, h2⟩, h4, rfl, pre', rfl, h5, h6⟩ hK
      have cm := h2.cell
      have e1 := Aside0.mk (tick_some (p := p) (g := g) (s := s) (m := m) HD.out hpre h5 h6)
      have HC := Aside0.mk h1
      have HB := Aside0.mk h2
      have HG := Aside0.mk h4
      have HK := Aside0.mk hK
      have hne1 : ¬ w.heap.size = B := by omega
      have hne2 : ¬ B = w.heap.size := by omega
      clear h1 h4 h5 h6 hK hpre
      rw [wpIn_wide]
      go_wp2_with fail
      refine (rest_any B _ g _ m _ HC.out).mono ?_
      rintro e w' ⟨rfl, ⟨nr, rfl⟩⟩
      have k2 := HC.out.c2
      have f2 := HC.out.fr 2
      have hbD : ¬ B = D := by have := Sd.out; omega
      cases d5 : (restV (wrap64 (p + wrap64 (wayV p g * x.2))) g == 0) with
      | true =>
        have e2 := Aside0.mk (eq_of_beq d5)
        go_wp2_with fail
        refine ⟨by simp, .inl ⟨_, _, rfl, run_takeDeferred (by exact (Below.heap_setCell (W.drewN nr) ⟨B, 2, none⟩ _ D (fun e => hbD e.symm)).trans HK.out), ?_⟩⟩
        refine ⟨.tuple #[], results_none rfl _ _ _, rfl, ?_, grown_ext (grown_ext (grown_ext HG.out (grown_drewN _ nr none) (fun r e => by cases e)) (grown_set _ B 2 _) (fun r e => .inr (by cases e; rfl))) (grownBy_putObj' _ D _) (fun r e => .inl (by cases e; have := Sd.out; omega))⟩
        rw [e1.out, if_pos e2.out]
        exact (World.putObj_heap_other hbD).trans ((HC.out.drewN nr).setSpeed _)
      | false =>
        have e2 := Aside0.mk (show ¬ restV (wrap64 (p + wrap64 (wayV p g * x.2))) g = 0 by simpa using d5)
        go_wp2_with fail
        refine ⟨by simp, .inl ⟨_, _, rfl, run_takeDeferred (by exact HK.out), ?_⟩⟩
        refine ⟨.tuple #[], results_none rfl _ _ _, rfl, ?_, grown_ext (grown_ext HG.out (grown_drewN _ nr none) (fun r e => by cases e)) (grownBy_putObj' _ D _) (fun r e => .inl (by cases e; have := Sd.out; omega))⟩
        rw [e1.out, if_neg e2.out]
        exact (World.putObj_heap_other hbD).trans (HC.out.drewN nr)

end Go.Proofs.Ytocbjclflabmcaa.S

namespace Go.Proofs.Ytocbjclflabmcaa.S
open Go.RowKit Go.Proofs.YtocbjclflabmcaaW.PrintWords Go.Proofs.YtocbjclflabmcaaW.PrintLast Go.Proofs.YtocbjclflabmcaaW.PrintMore

/-- A motion in memory. -/
def Mot (w : World) (B : Nat) (p g s m : Int) : Prop := w.heap[B]? = some (.cells #[.int .i64 p, .int .i64 g, .int .i64 s, .int .i64 m] 23 (0, 0))
theorem Mot.c0 {w : World} {B : Nat} {p g s m : Int} (h : Mot w B p g s m) : w.cell? ⟨B, 0, none⟩ = some (.int .i64 p) := by unfold Mot at h; simp [World.cell?, h]
theorem Mot.c1 {w : World} {B : Nat} {p g s m : Int} (h : Mot w B p g s m) : w.cell? ⟨B, 1, none⟩ = some (.int .i64 g) := by unfold Mot at h; simp [World.cell?, h]
theorem Mot.c2 {w : World} {B : Nat} {p g s m : Int} (h : Mot w B p g s m) : w.cell? ⟨B, 2, none⟩ = some (.int .i64 s) := by unfold Mot at h; simp [World.cell?, h]
theorem Mot.c3 {w : World} {B : Nat} {p g s m : Int} (h : Mot w B p g s m) : w.cell? ⟨B, 3, none⟩ = some (.int .i64 m) := by unfold Mot at h; simp [World.cell?, h]
theorem Mot.fr {w : World} {B : Nat} {p g s m : Int} (h : Mot w B p g s m) (o : Nat) : w.frozen? ⟨B, o, none⟩ = false := by unfold Mot at h; simp [World.frozen?, h]
theorem Mot.lt {w : World} {B : Nat} {p g s m : Int} (h : Mot w B p g s m) : B < w.heap.size := (Array.getElem?_eq_some_iff.1 h).1
theorem Mot.below {w w' : World} {B n : Nat} {p g s m : Int} (h : Mot w B p g s m) (hb : Below n w w') (hn : B < n) : Mot w' B p g s m := (hb.block B hn).trans h
theorem Mot.alloc {w : World} {B : Nat} {p g s m : Int} (h : Mot w B p g s m) (o : Obj) : Mot (w.alloc o) B p g s m := (Below.heap_alloc w o B h.lt).trans h
theorem Mot.drewN {w : World} {B : Nat} {p g s m : Int} (h : Mot w B p g s m) (n : Nat) : Mot (w.drewN n) B p g s m := h
theorem Mot.new (w : World) (p g s m : Int) : Mot (w.alloc (.cells #[.int .i64 p, .int .i64 g, .int .i64 s, .int .i64 m] 23)) w.heap.size p g s m := heap_alloc_new w _
theorem Mot.far {w : World} {B : Nat} {p g s m : Int} (h : Mot w B p g s m) (a : Addr) (u : Value) (hne : ¬ B = a.block) : Mot (w.setCell a u) B p g s m := (Below.heap_setCell w a u B hne).trans h
/-- All four cells written anew. -/
theorem Mot.set4 {w : World} {B : Nat} {p g s m : Int} (h : Mot w B p g s m) (p' g' s' m' : Int) : Mot ((((w.setCell ⟨B, 0, none⟩ (.int .i64 p')).setCell ⟨B, 1, none⟩ (.int .i64 g')).setCell ⟨B, 2, none⟩ (.int .i64 s')).setCell ⟨B, 3, none⟩ (.int .i64 m')) B p' g' s' m' := by
  unfold Mot at h ⊢
  obtain ⟨hl, he⟩ := Array.getElem?_eq_some_iff.1 h
  simp [World.setCell, hl, Array.getElem_modify, he]
theorem grown_set4 (w : World) (B : Nat) (x y z u : Value) : w.grownBy ((((w.setCell ⟨B, 0, none⟩ x).setCell ⟨B, 1, none⟩ y).setCell ⟨B, 2, none⟩ z).setCell ⟨B, 3, none⟩ u) (some B) :=
  grown_ext (grown_ext (grown_ext (grown_set _ _ _ _) (grown_set _ _ _ _) (fun r e => .inr (by cases e; rfl))) (grown_set _ _ _ _) (fun r e => .inr (by cases e; rfl))) (grown_set _ _ _ _) (fun r e => .inr (by cases e; rfl))
theorem mot_res {w : World} {B : Nat} {p g s m : Int} (h : Mot w B p g s m) (e : Value) (fn : Func) (hr : fn.results = #[.cell 4 23, .tmp 5]) (tmps : Array Value) (h4 : tmps[4]? = some (.pointer (some ⟨B, 0, none⟩))) (h5 : tmps[5]? = some e) :
    (results fn tmps).run Try.prog w = .ok (.tuple #[.agg #[.int .i64 p, .int .i64 g, .int .i64 s, .int .i64 m], e]) w := by
  have hu := Try.underlying23
  have c0 := h.c0
  have c1 := h.c1
  have c2 := h.c2
  have c3 := h.c3
  simp [results, hr, go_sem, h4, h5, c0, c1, c2, c3, hu]

/-- W' is W with new blocks; of what lay before it may have turned two. -/
structure G2 (W W' : World) (B : Nat) (row : Option Nat) : Prop where
  os : W'.os = W.os
  tape : W'.tape = W.tape
  output : W'.output = W.output
  size : W.heap.size ≤ W'.heap.size
  block : ∀ k, k < W.heap.size → k ≠ B → some k ≠ row → W'.heap[k]? = W.heap[k]?
theorem G2.of {W W' : World} {B : Nat} (h : W.grownBy W' (some B)) (row : Option Nat) : G2 W W' B row := ⟨h.os, h.tape, h.output, h.size, fun k hk hB _ => h.block k hk (fun e => hB (Option.some.inj e))⟩

set_option maxHeartbeats 1000000 in
set_option maxRecDepth 100000 in
theorem do_no (p g s m e1 : Int) (A : Nat) (w : World) (h : motion_Check.f p g s m = some e1) (he : ¬ e1 = 0) :
    Calls Try.prog 41 #[.agg #[.int .i64 p, .int .i64 g, .int .i64 s, .int .i64 m], .slice (some ⟨A, 0, none⟩) 1 1] w fun e w' => e = .returned (.tuple #[.agg #[.int .i64 0, .int .i64 0, .int .i64 0, .int .i64 0], .int .i64 e1]) ∧ Below w.heap.size w w' := by
  have hu := Try.underlying48
  have hu23 := Try.underlying23
  have H := Aside0.mk h
  have n4 : (e1 != 0) = true := bne_iff_ne.mpr he
  clear h he
  go_enter Try.func41, Try.ntmps41
  go_wp2_with fail
  refine (motion_Check.calls p g s m e1 _ H.out).mono ?_
  rintro e w1 ⟨rfl, hb⟩
  have hn := Mot.new (w.alloc (.cells #[.int .i64 p, .int .i64 g, .int .i64 s, .int .i64 m] 23)) 0 0 0 0
  rw [World.size_alloc] at hn
  have hM := hn.below hb (by simp)
  have HM := Aside0.mk hM
  have HB := Aside0.mk ((((Below.refl _ w).alloc (Nat.le_refl _) (.cells #[.int .i64 p, .int .i64 g, .int .i64 s, .int .i64 m] 23)).alloc (by simp) (.cells #[.int .i64 0, .int .i64 0, .int .i64 0, .int .i64 0] 23)).trans (hb.mono (by simp; omega)))
  have c0 := hM.c0
  have c1 := hM.c1
  have c2 := hM.c2
  have c3 := hM.c3
  have f0 := hM.fr 0
  have f1 := hM.fr 1
  have f2 := hM.fr 2
  have f3 := hM.fr 3
  clear hn hM hb
  go_wp2_with fail
  refine bodyPost_ret (v := .tuple #[.agg #[.int .i64 0, .int .i64 0, .int .i64 0, .int .i64 0], .int .i64 e1]) (mot_res (HM.out.set4 0 0 0 0) (.int .i64 e1) _ rfl _ rfl rfl) rfl ⟨rfl, ?_⟩
  exact (((HB.out.setCell (p := ⟨w.heap.size + 1, 0, none⟩) (by simp) _).setCell (p := ⟨w.heap.size + 1, 1, none⟩) (by simp) _).setCell (p := ⟨w.heap.size + 1, 2, none⟩) (by simp) _).setCell (p := ⟨w.heap.size + 1, 3, none⟩) (by simp) _

/-- What do comes to. -/
def DoSome (Z : Int → Int → Int → Prop) (m : Int) (w : World) (row : Option Nat) (J : World → Prop) (e : Ending) (w' : World) : Prop :=
  ∃ p' g' s', Z p' g' s' ∧ e = .returned (.tuple #[.agg #[.int .i64 p', .int .i64 g', .int .i64 s', .int .i64 m], .int .i64 0]) ∧ w.grownBy w' row ∧ J w'

set_option maxHeartbeats 4000000 in
set_option maxRecDepth 100000 in
theorem do_some (p g s m : Int) (A gf : Nat) (cap : Array Value) (row : Option Nat) (Z : Int → Int → Int → Prop) (J : World → Prop) (w : World) (h : motion_Check.f p g s m = some 0) (hA : A < w.heap.size) (hcell : w.cell? ⟨A, 0, none⟩ = some (.func (.func gf) #[] cap))
    (hrow : ∀ r, row = some r → r < w.heap.size) (eg : ∀ args w, (callFunc gf args).run Try.prog w = .ok (.enter gf args) w)
    (hg : ∀ B W, w.heap.size ≤ B → Below w.heap.size w W → Car W B p g s m → Calls Try.prog gf (#[.pointer (some ⟨B, 0, none⟩)] ++ cap) W fun e W' => e = .returned (.tuple #[]) ∧ (∃ p' g' s', Z p' g' s' ∧ Car W' B p' g' s' m) ∧ G2 W W' B row ∧ J W')
    (hJ : ∀ W W', J W → (∀ r, row = some r → W'.heap[r]? = W.heap[r]?) → J W') :
    Calls Try.prog 41 #[.agg #[.int .i64 p, .int .i64 g, .int .i64 s, .int .i64 m], .slice (some ⟨A, 0, none⟩) 1 1] w (DoSome Z m w row J) := by
  have hu := Try.underlying48
  have hu23 := Try.underlying23
  have H := Aside0.mk h
  have HG := Aside0.mk hg
  have HJ := Aside0.mk hJ
  have HROW := Aside0.mk hrow
  have HCL := Aside0.mk hcell
  have EG := Aside0.mk eg
  clear h hg hJ hrow hcell eg
  go_enter Try.func41, Try.ntmps41
  go_wp2_with fail
  refine (motion_Check.calls p g s m 0 _ H.out).mono ?_
  rintro e w1 ⟨rfl, hb⟩
  have hm0 := (Mot.new w p g s m).alloc (.cells #[.int .i64 0, .int .i64 0, .int .i64 0, .int .i64 0] 23)
  have hn := Mot.new (w.alloc (.cells #[.int .i64 p, .int .i64 g, .int .i64 s, .int .i64 m] 23)) 0 0 0 0
  rw [World.size_alloc] at hn
  have HM := Aside0.mk (hn.below hb (by simp))
  have hM0 := hm0.below hb (by simp; omega)
  have HB := Aside0.mk ((((Below.refl _ w).alloc (Nat.le_refl _) (.cells #[.int .i64 p, .int .i64 g, .int .i64 s, .int .i64 m] 23)).alloc (by simp) (.cells #[.int .i64 0, .int .i64 0, .int .i64 0, .int .i64 0] 23)).trans (hb.mono (by simp; omega)))
  have hsz : w.heap.size + 1 + 1 ≤ w1.heap.size := by have := hb.size; simp at this; omega
  have c0 := hM0.c0
  have c1 := hM0.c1
  have c2 := hM0.c2
  have c3 := hM0.c3
  clear hm0 hn hM0 hb
  go_upto_region 5 with (fail)
  obtain ⟨w2, hw2⟩ : ∃ x, w1.alloc (Obj.cells #[.int .i64 p, .int .i64 g, .int .i64 s, .int .i64 m] 48) = x := ⟨_, rfl⟩
  obtain ⟨B, hB⟩ : ∃ x, w1.heap.size = x := ⟨_, rfl⟩
  have hC2 : Car w2 B p g s m := by rw [← hw2, ← hB]; exact Car.new w1 p g s m
  have hB2 : Below w.heap.size w w2 := by rw [← hw2]; exact HB.out.alloc (by omega) _
  have hM2 : Mot w2 (w.heap.size + 1) 0 0 0 0 := by rw [← hw2]; exact HM.out.alloc _
  have hBs : w.heap.size + 1 + 1 ≤ B := by omega
  rw [hw2, hB]
  clear hw2 hB hsz HB HM c0 c1 c2 c3 w1
  have HC2 := Aside0.mk hC2
  have HB2 := Aside0.mk hB2
  have HM2 := Aside0.mk hM2
  clear hC2 hB2 hM2
  go_wp2_with fail
  go_loopw [19] (fun v wr => (v = .int .i64 0 ∧ Aside0 (Car wr B p g s m ∧ Below w.heap.size w wr ∧ Mot wr (w.heap.size + 1) 0 0 0 0)) ∨ (v = .int .i64 1 ∧ Aside0 ((∃ p' g' s', Z p' g' s' ∧ Car wr B p' g' s' m) ∧ w.grownBy wr row ∧ Mot wr (w.heap.size + 1) 0 0 0 0 ∧ J wr))) (fun v _ => (1 - intOf v).toNat)
  case atStart => exact .inl ⟨rfl, ⟨HC2.out, HB2.out, HM2.out⟩⟩
  case round =>
    rcases hrel with ⟨rfl, hs⟩ | ⟨rfl, hs⟩
    · have hc : wr.cell? ⟨A, 0, none⟩ = some (.func (.func gf) #[] cap) := (hs.out.2.1.cell (p := ⟨A, 0, none⟩) hA).trans HCL.out
      have eg := EG.out
      have hg := HG.out B wr (by omega) hs.out.2.1 hs.out.1
      have HG1 := Aside0.mk hg
      clear hg
      go_wp2_with (go_at_fn gf; refine HG1.out.mono ?_; rintro e w3 ⟨rfl, hC3, hG3, hJ3⟩; have HC3 := Aside0.mk hC3; have HG3 := Aside0.mk hG3; have HJ3 := Aside0.mk hJ3; clear hC3 hG3 hJ3)
      go_roundw
      case rel =>
        refine .inr ⟨rfl, ⟨HC3.out, ?_, ?_, HJ3.out⟩⟩
        · have h1 := hs.out.2.1
          have h2 := HG3.out
          refine ⟨h2.os.trans h1.os, h2.tape.trans h1.tape, h2.output.trans h1.output, Nat.le_trans h1.size h2.size, fun k hk hne => ?_⟩
          exact (h2.block k (Nat.lt_of_lt_of_le hk h1.size) (by omega) hne).trans (h1.block k hk)
        · refine (HG3.out.block (w.heap.size + 1) hs.out.2.2.lt (by omega) (fun e => ?_)).trans hs.out.2.2
          have := HROW.out _ e.symm
          omega
      case measure => simp [intOf]
    · obtain ⟨p', g', s', hz, hcar⟩ := hs.out.1
      have HZ := Aside0.mk hz
      have c0 := hcar.c0
      have c1 := hcar.c1
      have c2 := hcar.c2
      have c3 := hcar.c3
      clear hz hcar
      have hM := hs.out.2.2.1
      have x0 := hM.c0
      have x1 := hM.c1
      have x2 := hM.c2
      have x3 := hM.c3
      have f0 := hM.fr 0
      have f1 := hM.fr 1
      have f2 := hM.fr 2
      have f3 := hM.fr 3
      have HM := Aside0.mk hM
      clear hM
      go_wp2_with fail
      refine bodyPost_ret (v := .tuple #[.agg #[.int .i64 p', .int .i64 g', .int .i64 s', .int .i64 m], .int .i64 0]) (mot_res (HM.out.set4 p' g' s' m) (.int .i64 0) _ rfl _ rfl rfl) rfl ⟨p', g', s', HZ.out, rfl, ?_, ?_⟩
      · have h1 := hs.out.2.1
        have h2 := grown_set4 wr (w.heap.size + 1) (.int .i64 p') (.int .i64 g') (.int .i64 s') (.int .i64 m)
        exact ⟨h2.os.trans h1.os, h2.tape.trans h1.tape, h2.output.trans h1.output, Nat.le_trans h1.size h2.size, fun k hk hne => (h2.block k (Nat.lt_of_lt_of_le hk h1.size) (fun e => by cases e; omega)).trans (h1.block k hk hne)⟩
      · refine HJ.out _ _ hs.out.2.2.2 (fun r e => ?_)
        have hr := HROW.out r e
        have h2 := grown_set4 wr (w.heap.size + 1) (.int .i64 p') (.int .i64 g') (.int .i64 s') (.int .i64 m)
        exact h2.block r (Nat.lt_of_lt_of_le hr hs.out.2.1.size) (fun e => by cases e; omega)

theorem do_yes (p g s m p' g' s' : Int) (A gf : Nat) (cap : Array Value) (w : World) (h : motion_Check.f p g s m = some 0) (hA : A < w.heap.size) (hcell : w.cell? ⟨A, 0, none⟩ = some (.func (.func gf) #[] cap))
    (eg : ∀ args w, (callFunc gf args).run Try.prog w = .ok (.enter gf args) w)
    (hg : ∀ B W, w.heap.size ≤ B → Below w.heap.size w W → Car W B p g s m → Calls Try.prog gf (#[.pointer (some ⟨B, 0, none⟩)] ++ cap) W fun e W' => e = .returned (.tuple #[]) ∧ Car W' B p' g' s' m ∧ W.grownBy W' (some B)) :
    Calls Try.prog 41 #[.agg #[.int .i64 p, .int .i64 g, .int .i64 s, .int .i64 m], .slice (some ⟨A, 0, none⟩) 1 1] w fun e w' => e = .returned (.tuple #[.agg #[.int .i64 p', .int .i64 g', .int .i64 s', .int .i64 m], .int .i64 0]) ∧ Below w.heap.size w w' :=
  (do_some p g s m A gf cap none (fun a b c => a = p' ∧ b = g' ∧ c = s') (fun _ => True) w h hA hcell (fun r e => by cases e) eg
    (fun B W hB hb hc => (hg B W hB hb hc).mono fun _ _ ⟨he, hc2, hg2⟩ => ⟨he, ⟨_, _, _, ⟨rfl, rfl, rfl⟩, hc2⟩, G2.of hg2 _, trivial⟩) (fun _ _ h _ => h)).mono
    fun _ _ ⟨_, _, _, ⟨h1, h2, h3⟩, he, hgr, _⟩ => by subst h1; subst h2; subst h3; exact ⟨he, ⟨hgr.os, hgr.tape, hgr.output, hgr.size, fun k hk => hgr.block k hk (by simp)⟩⟩

end Go.Proofs.Ytocbjclflabmcaa.S

namespace Go.Proofs.Ytocbjclflabmcaa.S
open Go.RowKit Go.Proofs.YtocbjclflabmcaaW.PrintWords Go.Proofs.YtocbjclflabmcaaW.PrintLast Go.Proofs.YtocbjclflabmcaaW.PrintMore
attribute [local go_sem] Oper.semAt_some wide_fn wideR_fn
attribute [local simp] wide_fn wideR_fn

/-- The places of a car, tick by tick. -/
def posL : Nat → Int → Int → Int → Int → Option (List Int)
  | 0, _, _, _, _ => none
  | k + 1, p, g, s, m => if restV p g > 0 then (posL k (tickV p g s m).1 g (tickV p g s m).2 m).map ((tickV p g s m).1 :: ·) else some []

theorem posL_mono : ∀ k p g s m, LeO (posL k p g s m) (posL (k + 1) p g s m)
  | 0, _, _, _, _ => LeO.none _
  | k + 1, p, g, s, m => by
    rw [posL, posL]
    refine LeO.ite ?_ (LeO.refl _)
    intro r h
    obtain ⟨t, ht, hr⟩ := Option.map_eq_some_iff.1 h
    exact Option.map_eq_some_iff.2 ⟨t, posL_mono k _ _ _ _ t ht, hr⟩

theorem keep2_set {b1 b2 : Nat} {A W : World} (h : Keep2 b1 b2 A W) (p : Addr) (v : Value) (h1 : b1 ≠ p.block) (h2 : b2 ≠ p.block) : Keep2 b1 b2 A (W.setCell p v) :=
  ⟨(Below.heap_setCell W p v b1 h1).trans h.1, (Below.heap_setCell W p v b2 h2).trans h.2⟩

/-- A tick's step for whoever ranges. -/
def TickT (Bc : Nat) (g m : Int) (A B : World) : Prop := A.grownBy B (some Bc) ∧ ((∃ p s, Car A Bc p g s m) → ∃ p s, Car B Bc p g s m)
theorem TickT.of {Bc : Nat} {g m p s : Int} {A B : World} (h : A.grownBy B (some Bc)) (hc : Car B Bc p g s m) : TickT Bc g m A B := ⟨h, fun _ => ⟨p, s, hc⟩⟩

theorem positions_any (B : Nat) (w : World) : Calls Try.prog 46 #[.pointer (some ⟨B, 0, none⟩)] w fun e w' =>
    e = .returned (.func (.func 53) #[] #[.pointer (some ⟨w.heap.size, 0, none⟩)]) ∧ w' = w.alloc (.cells #[.pointer (some ⟨B, 0, none⟩)] 54) := by
  have hmf : ∀ (fn : Fn) (first cap : Array Value) (w : World), (Instr.makeFunc fn first cap).run Try.prog w = .ok (.func fn first cap) w := fun _ _ _ _ => rfl
  go_enter Try.func46, Try.ntmps46
  go_wp2
  go_ret
  exact ⟨rfl, rfl⟩

set_option maxHeartbeats 2000000 in
set_option maxRecDepth 100000 in
theorem pos_stops (n : Nat) (hn : 2 ≤ n) (Bx Bc : Nat) (hne : ¬ Bx = Bc) (k : Nat) (p g s m : Int) (xs : List Int) (hx : posL k p g s m = some xs) (w : World) (hBx : Boxed w Bx 54 (.pointer (some ⟨Bc, 0, none⟩))) (hBc : Car w Bc p g s m) :
    IterStops Fence.wide n Try.prog 53 #[.pointer (some ⟨Bx, 0, none⟩)] (fun x : Int => #[.int .i64 x]) (TickT Bc g m) (Keep2 Bx Bc) (fun ys => ys = xs) (fun pre => pre <+: xs) xs.length w := by
  intro lp J Jx W hW hJ hJx hY h0
  have hu := Try.underlying48
  have hmf : ∀ (fn : Fn) (first cap : Array Value) (w : World), (Instr.makeFunc fn first cap).run Try.prog w = .ok (.func fn first cap) w := fun _ _ _ _ => rfl
  have bBx : Boxed W Bx 54 (.pointer (some ⟨Bc, 0, none⟩)) := (hW.block Bx hBx.lt).trans hBx
  have bBc : Car W Bc p g s m := (hW.block Bc hBc.lt).trans hBc
  have cBx := bBx.cell
  refine callsIn_of_wp Try.func53 rfl trivial ?_ rfl
  simp only [Try.ntmps53, List.size_toArray, List.length_cons, List.length_nil, Nat.reduceAdd, Nat.reduceSub, Array.replicate_succ, Array.replicate_zero, List.push_toArray, List.append_toArray, List.nil_append, List.cons_append]
  gi_wp2
  clear cBx
  gi_loopg [] k (fun kx wr => ∃ (p s : Int) (pre rest : List Int), Aside0 (xs = pre ++ rest) ∧ Aside0 (posL kx p g s m = some rest) ∧ J pre wr ∧ Aside0 (Boxed wr Bx 54 (.pointer (some ⟨Bc, 0, none⟩))) ∧ Aside0 (Car wr Bc p g s m))
  case atStart => exact ⟨p, s, [], xs, ⟨rfl⟩, ⟨hx⟩, h0, ⟨bBx⟩, ⟨bBc⟩⟩
  case round =>
    obtain ⟨p, s, pre, rest, hp1, hr, hj, hb1, hb2⟩ := hrel
    cases gk with
    | zero => exact absurd hr.out (by simp [posL])
    | succ kx =>
    have cx := hb1.out.cell
    by_cases hpos : restV p g > 0
    · obtain ⟨t, ht, rfl⟩ : ∃ t, posL kx (tickV p g s m).1 g (tickV p g s m).2 m = some t ∧ rest = (tickV p g s m).1 :: t := by
        have h := hr.out
        rw [posL, if_pos hpos] at h
        obtain ⟨t, ht, h⟩ := Option.map_eq_some_iff.1 h
        exact ⟨t, ht, h.symm⟩
      have HT := Aside0.mk ht
      have hlen : pre.length < xs.length := by rw [hp1.out]; simp
      clear ht hr
      gi_wp2_with fail
      refine ⟨fun _ => by omega, ?_⟩
      refine (callsIn_wide.2 (rest_any Bc p g s m _ hb2.out)).mono ?_
      rintro e w1 ⟨rfl, ⟨nd, rfl⟩⟩
      have hj1 := hJ _ _ _ hj (TickT.of (grown_drewN wr nd (some Bc)) (hb2.out.drewN nd))
      have b11 := Aside0.mk (w9_boxed hb1.out nd)
      have b21 := Aside0.mk (hb2.out.drewN nd)
      have cx1 := b11.out.cell
      obtain ⟨w1, hw1⟩ : ∃ x, wr.drewN nd = x := ⟨_, rfl⟩
      rw [hw1] at hj1 b11 b21 cx1 ⊢
      clear hw1 cx hj
      gi_wp2_with fail
      refine ⟨fun _ => by omega, ?_⟩
      refine (callsIn_wide.2 (step_any Bc p g s m _ b21.out)).mono ?_
      rintro e w2 ⟨rfl, hc2, hg2⟩
      have hj2 := hJ _ _ _ hj1 (TickT.of hg2 hc2)
      have b12 := Aside0.mk (show Boxed w2 Bx 54 (.pointer (some ⟨Bc, 0, none⟩)) from (hg2.block Bx b11.out.lt (fun e => hne (Option.some.inj e))).trans b11.out)
      have b22 := Aside0.mk hc2
      have cx2 := b12.out.cell
      have k0 := hc2.c0
      clear hc2 hg2 hj1 b11 b21 cx1
      obtain ⟨fn, tmps, assign, body, hyy, hR⟩ := hY pre (tickV p g s m).1 w2 hj2 hlen
      gi_wp2
      refine ⟨fun _ => by omega, hR.mono ?_⟩
      rintro e W3 (⟨rfl, hJ3, hk3⟩ | ⟨rfl, hJx3⟩)
      · gi_wp2
        gi_roundg kx
        case rel => exact ⟨_, _, pre ++ [(tickV p g s m).1], t, ⟨by rw [hp1.out]; simp⟩, HT, hJ3, ⟨hk3.1.trans b12.out⟩, ⟨hk3.2.trans b22.out⟩⟩
        case measure => omega
      · gi_wp2
        refine bodyPost_ret (results_none rfl _ _ _) rfl ?_
        exact ⟨⟨_, rfl⟩, .inr ⟨pre ++ [(tickV p g s m).1], ⟨t, by rw [hp1.out]; simp⟩, hJx3⟩⟩
    · gi_wp2_with fail
      refine ⟨fun _ => by omega, ?_⟩
      refine (callsIn_wide.2 (rest_any Bc p g s m _ hb2.out)).mono ?_
      rintro e w1 ⟨rfl, ⟨nd, rfl⟩⟩
      have hj1 := hJ _ _ _ hj (TickT.of (grown_drewN wr nd (some Bc)) (hb2.out.drewN nd))
      gi_wp2_with fail
      go_end0
      have e : rest = [] := by
        have h := hr.out
        rw [posL, if_neg (show ¬ restV p g > 0 by omega)] at h
        exact (Option.some.inj h).symm
      have e2 : xs = pre := by rw [hp1.out, e, List.append_nil]
      exact ⟨⟨_, rfl⟩, .inl ⟨xs, rfl, by rw [e2]; exact hj1⟩⟩

end Go.Proofs.Ytocbjclflabmcaa.S
