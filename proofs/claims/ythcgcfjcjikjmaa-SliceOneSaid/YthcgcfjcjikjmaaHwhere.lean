/- slice.where, walked: the numbers below one that are something, each with a number added; the closure may make memory. -/
import Derived.Shelf.SlSorted.Search
import Derived.Test.YthcgcfjcjikjmaaS0
import Derived.Test.YthcgcfjcjikjmaaXtra
namespace Go.Proofs.Ythcgcfjcjikjmaa.S
open Go.RowKit Go.Proofs.YthcgcfjcjikjmaaW.PrintWords Go.Proofs.YthcgcfjcjikjmaaW.PrintLast Go.Proofs.YthcgcfjcjikjmaaW.PrintMore Go.Shelf
set_option linter.unusedVariables false
set_option linter.unusedSimpArgs false

/-- From the i-th on, so many. -/
def whereF (q : Int → Option Bool) (plus : Int) : Nat → Int → Option (List Int)
  | 0, _ => some []
  | d + 1, i => (q i).bind fun b => (whereF q plus d (i + 1)).map fun r => if b = true then wrap64 (i + plus) :: r else r

set_option maxHeartbeats 2000000 in
set_option maxRecDepth 100000 in
theorem where_any (g : Nat) (cb : Array Value) (q : Int → Option Bool) (n : Nat) (plus : Int) (r : List Int) (w : World) (eg : ∀ args w, (callFunc g args).run Try.prog w = .ok (.enter g args) w) (hn : n ≤ 1000000)
    (hf : ∀ (W : World) (i : Int) (b : Bool), 0 ≤ i → i < n → q i = some b → Below w.heap.size w W → Calls Try.prog g (#[.int .i64 i] ++ cb) W fun e W' => e = .returned (.bool b) ∧ Below W.heap.size W W')
    (h : whereF q plus n 0 = some r) :
    Calls Try.prog 46 #[.int .i64 n, .func (.func g) #[] cb, .int .i64 plus] w fun e w' => ∃ v0_ : Value, e = .returned v0_ ∧ Kd.R (Kd.int .i64) 3 w' w.heap.size (fun _ => True) v0_ r ∧ Below w.heap.size w w' := by
  have HF := Aside0.mk hf
  have H := Aside0.mk h
  clear hf h
  go_enter Try.func46, Try.ntmps46
  go_wp2
  go_loopw [7, 10] (fun v7 v10 wr => ∃ (i : Nat) (acc rest : List Int), v10 = .int .i64 i ∧ Aside0 (i ≤ n) ∧ Aside0 (acc.length ≤ i) ∧ Aside0 (whereF q plus (n - i) i = some rest) ∧ Aside0 (r = acc ++ rest) ∧ Aside0 (Kd.R (Kd.int .i64) 3 wr w.heap.size (fun _ => True) v7 acc) ∧ Aside0 (Below w.heap.size w wr))
    (fun _ v10 _ => n - (intOf v10).toNat)
  case atStart => exact ⟨0, [], r, rfl, ⟨by omega⟩, ⟨by simp⟩, H, ⟨rfl⟩, ⟨Kd.R_nil _ _ _ _ _⟩, ⟨Below.refl _ _⟩⟩
  case round =>
    obtain ⟨i, acc, rest, rfl, hi, hl, hw, hr, hR, hB⟩ := hrel
    by_cases hlt : i < n
    · have e1 : decide ((i : Int) < (n : Int)) = true := decide_eq_true (by omega)
      have hs := hw.out
      rw [show n - i = (n - (i + 1)) + 1 by omega, whereF] at hs
      obtain ⟨b, hq, hs⟩ := Option.bind_eq_some_iff.1 hs
      obtain ⟨r2, hr2, hs⟩ := Option.map_eq_some_iff.1 hs
      have hc := HF.out wr i b (by omega) (by omega) hq hB.out
      have HS := Aside0.mk hs
      have HR2 := Aside0.mk hr2
      clear hs hq hr2 hw
      cases b with
      | false =>
        go_wp2_with (go_at_fn g; refine hc.mono ?_; rintro e w' ⟨rfl, hb⟩)
        go_roundw
        case rel =>
          have hs := HS.out
          rw [if_neg (by decide)] at hs
          exact ⟨i + 1, acc, rest, by simp, ⟨by omega⟩, ⟨by have := hl.out; omega⟩, ⟨by rw [← hs]; exact HR2.out⟩, hr, ⟨Kd.R_below hR.out hb⟩, ⟨hB.out.trans (hb.mono hB.out.size)⟩⟩
        case measure => simp [intOf]; omega
      | true =>
        go_wp2_with (first | (go_at_fn g; refine hc.mono ?_; rintro e w' ⟨rfl, hb⟩; have HR3 := Aside0.mk (Kd.R_below hR.out hb); have HB3 := Aside0.mk (hB.out.trans (hb.mono hB.out.size)); clear hb) | (at_builtin; refine Kd.R_append (Kd.int .i64) (w0 := w) w.heap.size rfl (.tmp 16) (.tmp 20) 33 3 (.int .i64 0) 8 rfl Try.underlying33 info3 rfl (by decide) (by omega) _ acc (wrap64 (i + plus)) [.int .i64 (wrap64 (i + plus))] (fun _ => True) (fun _ => False) rfl rfl rfl (fun _ hk => hk.elim) (fun _ _ => trivial) HR3.out HB3.out (below_size HB3.out) (by have := hl.out; omega) ?_; intro v2 w2 ho hb2 hg hat; have HR4 := Aside0.mk ho; have HB4 := Aside0.mk hb2; clear ho hb2 hg hat))
        go_roundw
        case rel =>
          have hs := HS.out
          rw [if_pos trivial] at hs
          exact ⟨i + 1, _, r2, by simp, ⟨by omega⟩, ⟨by have := hl.out; simp; omega⟩, ⟨HR2.out⟩, ⟨by rw [hr.out, ← hs]; simp⟩, HR4, HB4⟩
        case measure => simp [intOf]; omega
    · have e1 : decide ((i : Int) < (n : Int)) = false := decide_eq_false (by omega)
      have he : rest = [] := by
        have := hw.out
        rw [show n - i = 0 by omega, whereF] at this
        exact (Option.some.inj this).symm
      have HE := Aside0.mk he
      clear he hw
      go_wp2
      go_ret
      exact ⟨_, rfl, by rw [hr.out, HE.out, List.append_nil]; exact hR.out, hB.out⟩

end Go.Proofs.Ythcgcfjcjikjmaa.S
