/- sort.Search, walked at this program: a closure that may make memory; what it says at a place may be known in part. -/
import Derived.Shelf.SlSorted.Search
import Derived.Test.YtlfeiadmkoocgaaS0
import Derived.Test.YtlfeiadmkoocgaaXtra
namespace Go.Proofs.Ytlfeiadmkoocgaa.S
open Go.RowKit Go.Proofs.YtlfeiadmkoocgaaW.PrintWords Go.Proofs.YtlfeiadmkoocgaaW.PrintLast Go.Proofs.YtlfeiadmkoocgaaW.PrintMore Go.Shelf
set_option linter.unusedVariables false
set_option linter.unusedSimpArgs false

/-- The search by halves, the test known in part. -/
def searchF (q : Int → Option Bool) : Nat → Int → Int → Option Int
  | 0, _, _ => none
  | k + 1, i, j => if i < j then (q ((i + j) / 2)).bind fun b => if b = true then searchF q k i ((i + j) / 2) else searchF q k ((i + j) / 2 + 1) j else some i
theorem searchF_mono {q q' : Int → Option Bool} (h : ∀ i, LeO (q i) (q' i)) : ∀ k i j, LeO (searchF q k i j) (searchF q' (k + 1) i j)
  | 0, _, _ => LeO.none _
  | k + 1, i, j => by
    rw [searchF, searchF]
    exact LeO.ite (LeO.bind (h _) (fun b => LeO.ite (searchF_mono h k _ _) (searchF_mono h k _ _))) (LeO.refl _)

set_option maxHeartbeats 2000000 in
set_option maxRecDepth 100000 in
theorem search_any (g : Nat) (cb : Array Value) (q : Int → Option Bool) (n r : Int) (k : Nat) (w : World) (eg : ∀ args w, (callFunc g args).run Try.prog w = .ok (.enter g args) w) (h0 : 0 ≤ n) (hn : n ≤ 2305843009213693952)
    (hf : ∀ (W : World) (i : Int) (b : Bool), 0 ≤ i → i < n → q i = some b → Below w.heap.size w W → Calls Try.prog g (#[.int .i64 i] ++ cb) W fun e W' => e = .returned (.bool b) ∧ Below W.heap.size W W')
    (h : searchF q k 0 n = some r) :
    Calls Try.prog 46 #[.int .i64 n, .func (.func g) #[] cb] w fun e w' => e = .returned (.int .i64 r) ∧ Below w.heap.size w w' := by
  have HF := Aside0.mk hf
  have H := Aside0.mk h
  clear hf h
  go_enter Try.func46, Try.ntmps46
  go_wp2
  go_loopg [5, 6] k (fun kx s5 s6 wr => ∃ lo hi : Int, s5 = .int .i64 lo ∧ s6 = .int .i64 hi ∧ 0 ≤ lo ∧ lo ≤ hi ∧ hi ≤ n ∧ Aside0 (Below w.heap.size w wr) ∧ Aside0 (searchF q kx lo hi = some r))
  case atStart => exact ⟨0, n, rfl, rfl, by omega, h0, by omega, ⟨Below.refl _ _⟩, H⟩
  case round =>
    obtain ⟨lo, hi, rfl, rfl, h1, h2, h3, hB, hS⟩ := hrel
    cases gk with
    | zero => exact absurd hS.out (by simp [searchF])
    | succ kx =>
    have hs := hS.out
    rw [searchF] at hs
    by_cases hlt : lo < hi
    · rw [if_pos hlt] at hs
      obtain ⟨b, hq, hs⟩ := Option.bind_eq_some_iff.1 hs
      have hc := HF.out wr ((lo + hi) / 2) b (by omega) (by omega) hq hB.out
      have HS := Aside0.mk hs
      clear hs hq
      cases b with
      | false =>
        go_wp2_with (go_at_fn g; refine hc.mono ?_; rintro e w' ⟨rfl, hb⟩)
        go_roundg kx
        case measure => omega
        case rel =>
          have hs := HS.out
          rw [if_neg (by decide)] at hs
          exact ⟨(lo + hi) / 2 + 1, hi, rfl, rfl, by omega, by omega, h3, ⟨hB.out.trans (hb.mono hB.out.size)⟩, ⟨hs⟩⟩
      | true =>
        go_wp2_with (go_at_fn g; refine hc.mono ?_; rintro e w' ⟨rfl, hb⟩)
        go_roundg kx
        case measure => omega
        case rel =>
          have hs := HS.out
          rw [if_pos trivial] at hs
          exact ⟨lo, (lo + hi) / 2, rfl, rfl, h1, by omega, by omega, ⟨hB.out.trans (hb.mono hB.out.size)⟩, ⟨hs⟩⟩
    · rw [if_neg hlt] at hs
      obtain rfl := Option.some.inj hs
      clear hS hs
      go_wp2
      go_ret
      exact ⟨rfl, hB.out⟩

end Go.Proofs.Ytlfeiadmkoocgaa.S
