/- From some round on, the answer is known. -/
import Derived.Test.YtocbjclflabmcaaNums
namespace Go.Proofs.Ytocbjclflabmcaa.Pure
open Go.RowKit Go.Proofs.YtocbjclflabmcaaW.PrintWords Go.Proofs.YtocbjclflabmcaaW.PrintLast
set_option linter.unusedVariables false
set_option linter.unusedSimpArgs false

/-- From some round on, the answer is v. -/
def Ev {α : Type} (g : Nat → Option α) (v : α) : Prop := ∃ K, ∀ k, K ≤ k → g k = some v
theorem Ev.step {α : Type} {g : Nat → Option α} {v : α} {g' : Nat → Option α} (h : Ev g' v) (e : ∀ k, g (k + 1) = g' k) : Ev g v := by
  obtain ⟨K, h⟩ := h
  exact ⟨K + 1, fun k hk => by obtain ⟨m, rfl, hm⟩ := succ_of (show K < k by omega); rw [e, h m hm]⟩
theorem Ev.const {α : Type} (v : α) : Ev (fun _ => some v) v := ⟨0, fun _ _ => rfl⟩
theorem Ev.of_eq {α : Type} {x : Option α} {v : α} (h : x = some v) : Ev (fun _ => x) v := ⟨0, fun _ _ => h⟩
theorem Ev.congr {α : Type} {g g' : Nat → Option α} {v : α} (h : Ev g' v) (e : ∀ k, g k = g' k) : Ev g v := by
  obtain ⟨K, h⟩ := h; exact ⟨K, fun k hk => by rw [e, h k hk]⟩
theorem Ev.val {α : Type} {g : Nat → Option α} {v u : α} (h : Ev g v) (e : v = u) : Ev g u := e ▸ h
theorem Ev.bind {α β : Type} {g : Nat → Option α} {v : α} {f : α → Nat → Option β} {u : β} (h : Ev g v) (h' : Ev (f v) u) : Ev (fun k => (g k).bind fun x => f x k) u := by
  obtain ⟨K, h⟩ := h; obtain ⟨K', h'⟩ := h'
  exact ⟨K + K', fun k hk => by show (g k).bind _ = _; rw [h k (by omega), Option.bind_some, h' k (by omega)]⟩
theorem Ev.get {α : Type} {g : Nat → Option α} {v : α} (h : Ev g v) : ∃ k, g k = some v := by
  obtain ⟨K, h⟩ := h; exact ⟨K, h K (Nat.le_refl _)⟩
theorem Ev.mono_at {α : Type} {g : Nat → Option α} {v : α} (k0 : Nat) (h : g k0 = some v) (hm : ∀ k, LeO (g k) (g (k + 1))) : Ev g v := by
  refine ⟨k0, fun k hk => ?_⟩
  obtain ⟨d, rfl⟩ : ∃ d, k = k0 + d := ⟨k - k0, by omega⟩
  clear hk
  induction d with
  | zero => exact h
  | succ d ih => exact hm _ _ ih
theorem Ev.shift {α : Type} {g : Nat → Option α} {v : α} (h : Ev g v) : Ev (fun k => g (k + 1)) v := by
  obtain ⟨K, h⟩ := h; exact ⟨K, fun k hk => h _ (by omega)⟩

end Go.Proofs.Ytocbjclflabmcaa.Pure
