/- word.Parse, walked: a range over the runes of a text. -/
import Derived.Outline
import Derived.Lib.OthersKept
import Derived.Laws.RangeAny
import Derived.IntWalk
import Derived.Test.YtbcmlgbhejcjbaaDoorS0
import Derived.Test.YtbcmlgbhejcjbaaDoorXtra
import Derived.Test.YtbcmlgbhejcjbaaDoorHwrong
namespace Go.Proofs.YtbcmlgbhejcjbaaDoor.S
open Go.RowKit Go.Proofs.YtbcmlgbhejcjbaaDoorW.PrintWords Go.Proofs.YtbcmlgbhejcjbaaDoorW.PrintLast Go.Proofs.YtbcmlgbhejcjbaaDoorW.PrintMore Go.Lib
set_option linter.unusedVariables false
set_option linter.unusedSimpArgs false

/-- The word of a text, byte by byte; none: some byte is no digit. -/
def parseG (s : ByteArray) : Nat → Nat → Int → Option Int
  | 0, _, w => some w
  | d + 1, i, w => if bt s (i : Int) = 48 then parseG s d (i + 1) (Go.bits .or .u64 w 0) else if bt s (i : Int) = 49 then parseG s d (i + 1) (Go.bits .or .u64 w (IntKind.u64.wrap (2 ^ i))) else none
def word_Parse.f (a0 : ByteArray) : Option (Int × Int × Int) :=
  if inB (a0.size : Int) 1 8 = true then some (match parseG a0 a0.size 0 0 with | some w => (wrap64 w, (a0.size : Int), 0) | none => (0, 0, 3)) else some (0, 0, 3)

theorem bt_nat (s : ByteArray) (i : Nat) (h : i < s.size) : bt s (i : Int) = ((s[i]'h).toNat : Int) := by
  unfold bt; simp [h]
theorem iterAt_below {w0 w : World} {n k : Nat} {s : ByteArray} {p : Nat} (h : Below n w0 w) (hk : n ≤ k) : Below n w0 (w.iterAt k s p) :=
  h.trans ⟨rfl, rfl, rfl, by simp [World.iterAt], fun j hj => by simp [World.iterAt, Array.getElem?_modify, show k ≠ j by omega]⟩

set_option maxHeartbeats 4000000 in
set_option maxRecDepth 100000 in
theorem word_Parse.calls (a0 : ByteArray) (r1 : Int) (r2 : Int) (r3 : Int) (w : World) (h : word_Parse.f a0 = some (r1, r2, r3)) :
    Calls Tryd.prog 26 #[.string a0] w fun e w' => e = .returned (.tuple #[.int .i64 r1, .int .i64 r2, .int .i64 r3]) ∧ Below w.heap.size w w' := by
  have hnot : ∀ (x : Bool) (w : World), (Op.unary .not (.bool x)).run Tryd.prog w = .ok (.bool (!x)) w := fun _ _ => rfl
  unfold word_Parse.f at h
  by_cases g : inB (a0.size : Int) 1 8 = true
  · rw [if_pos g] at h
    have H := Aside0.mk (Option.some.inj h)
    clear h
    go_enter Tryd.func26, Tryd.ntmps26
    go_wp2_with (go_at_call 44; with_reducible refine (in_any a0.size 1 8 _).mono ?_; rintro e w1 ⟨rfl, m, rfl⟩; simp only [g])
    obtain ⟨B, hB⟩ : ∃ B, w.heap.size = B := ⟨_, rfl⟩
    obtain ⟨wd, hwd⟩ : ∃ wd, (w.drewN m).iter a0 0 = wd := ⟨_, rfl⟩
    have hk : wd.heap[B]? = some (.stringIter a0 0) := by rw [← hwd, ← hB]; exact World.iter_heap (w.drewN m) a0 0
    have hbel : Below B w wd := by rw [← hwd, ← hB]; exact Below.alloc (below_drewN (Below.refl _ w) m) (Nat.le_refl _) (Obj.stringIter a0 0)
    have hs : a0.size ≤ 8 := by unfold inB at g; simp at g; omega
    rw [hB, hwd]
    have K0 := Aside0.mk hk
    have B0 := Aside0.mk hbel
    have HBB := Aside0.mk hB
    clear hk hbel hB hwd g
    go_loopw [5] (fun v5 wr => ∃ (i : Nat) (W : Int), v5 = .int .u64 W ∧ i ≤ a0.size ∧ Aside0 (wr.heap[B]? = some (.stringIter a0 i)) ∧ Aside0 (Below B w wr) ∧ Aside0 (parseG a0 (a0.size - i) i W = parseG a0 a0.size 0 0)) (fun _ wr => a0.size - wr.iterPos B)
    case atStart => exact ⟨0, 0, rfl, by omega, K0, B0, ⟨rfl⟩⟩
    case round =>
      obtain ⟨i, W, rfl, hi, hK, hBr, hG⟩ := hrel
      by_cases hlt : i < a0.size
      · have hg := hG.out
        rw [show a0.size - i = (a0.size - (i + 1)) + 1 by omega, parseG, bt_nat a0 i hlt] at hg
        have hit : ∀ p, (wr.iterAt B a0 p).heap[B]? = some (.stringIter a0 p) := fun p => iterAt_heap wr B a0 i p hK.out
        have hip : ∀ p, (wr.iterAt B a0 p).iterPos B = p := fun p => by unfold World.iterPos; rw [hit p]
        have hip0 : wr.iterPos B = i := by unfold World.iterPos; rw [hK.out]
        have HIT := Aside0.mk hit
        have HIP := Aside0.mk hip
        have HIP0 := Aside0.mk hip0
        have i8 : i < 8 := by omega
        clear hit hip hip0 hG
        by_cases c48 : (a0[i]'hlt).toNat = 48
        · have hn : ∀ ty : TypeId, (Instr.next (.pointer (some ⟨B, 0, none⟩)) true ty).run Tryd.prog wr = .ok (.tuple #[.bool true, .int .i64 i, .int .i32 48]) (wr.iterAt B a0 (i + 1)) := fun ty => by
            have := run_next_ascii_at (P := Tryd.prog) wr B a0 i ty hK.out hlt (by omega)
            rw [c48] at this
            exact this
          rw [c48, if_pos (show ((48 : Nat) : Int) = 48 from rfl)] at hg
          have HG := Aside0.mk hg
          clear hg c48
          go_wp2
          go_roundw
          case rel => exact ⟨i + 1, _, rfl, by omega, ⟨HIT.out _⟩, ⟨iterAt_below hBr.out (Nat.le_refl _)⟩, HG⟩
          case measure => rw [HIP.out, HIP0.out]; omega
        · by_cases c49 : (a0[i]'hlt).toNat = 49
          · have hn : ∀ ty : TypeId, (Instr.next (.pointer (some ⟨B, 0, none⟩)) true ty).run Tryd.prog wr = .ok (.tuple #[.bool true, .int .i64 i, .int .i32 49]) (wr.iterAt B a0 (i + 1)) := fun ty => by
              have := run_next_ascii_at (P := Tryd.prog) wr B a0 i ty hK.out hlt (by omega)
              rw [c49] at this
              exact this
            rw [c49, if_neg (show ¬ ((49 : Nat) : Int) = 48 by decide), if_pos (show ((49 : Nat) : Int) = 49 from rfl)] at hg
            have HG := Aside0.mk hg
            clear hg c49
            go_wp2
            go_roundw
            case rel => exact ⟨i + 1, _, rfl, by omega, ⟨HIT.out _⟩, ⟨iterAt_below hBr.out (Nat.le_refl _)⟩, HG⟩
            case measure => rw [HIP.out, HIP0.out]; omega
          · rw [if_neg (by omega), if_neg (by omega)] at hg
            have hr := H.out
            rw [← hg] at hr
            simp only [Prod.mk.injEq] at hr
            obtain ⟨rfl, rfl, rfl⟩ := hr
            clear H hg
            obtain ⟨rn, q, hn, h48, h49⟩ : ∃ (rn : Int) (q : Nat), (∀ ty : TypeId, (Instr.next (.pointer (some ⟨B, 0, none⟩)) true ty).run Tryd.prog wr = .ok (.tuple #[.bool true, .int .i64 i, .int .i32 rn]) (wr.iterAt B a0 q)) ∧ rn ≠ 48 ∧ rn ≠ 49 := by
              by_cases ha : (a0[i]'hlt).toNat < 128
              · exact ⟨_, _, fun ty => run_next_ascii_at (P := Tryd.prog) wr B a0 i ty hK.out hlt ha, by omega, by omega⟩
              · have := (decode_high a0 i hlt (by omega)).1
                exact ⟨_, _, fun ty => run_next_any_at (P := Tryd.prog) wr B a0 i ty hK.out hlt, by omega, by omega⟩
            have t1 : (rn != 48) = true := by rw [bne_iff_ne]; exact h48
            have t2 : (rn != 49) = true := by rw [bne_iff_ne]; exact h49
            clear c48 c49 h48 h49
            go_wp2
            go_ret3
            exact ⟨rfl, by rw [HBB.out]; exact iterAt_below hBr.out (Nat.le_refl _)⟩
      · have hn := fun ty => run_next_end_at (P := Tryd.prog) wr B a0 i ty hK.out hlt
        have hg := hG.out
        rw [show a0.size - i = 0 by omega, parseG] at hg
        have hr := H.out
        rw [← hg] at hr
        simp only [Prod.mk.injEq] at hr
        obtain ⟨rfl, rfl, rfl⟩ := hr
        clear H hg hG
        go_wp2
        go_ret3
        exact ⟨rfl, by rw [HBB.out]; exact hBr.out⟩
  · have g' : inB (a0.size : Int) 1 8 = false := by simpa using g
    rw [if_neg g] at h
    simp only [Option.some.injEq, Prod.mk.injEq] at h
    obtain ⟨rfl, rfl, rfl⟩ := h
    clear g
    go_enter Tryd.func26, Tryd.ntmps26
    go_wp2_with (go_at_call 44; with_reducible refine (in_any a0.size 1 8 _).mono ?_; rintro e w1 ⟨rfl, m, rfl⟩; simp only [g'])
    go_ret3
    exact ⟨rfl, by repeat (first | exact Below.refl _ _ | apply pw_below_drewN)⟩

end Go.Proofs.YtbcmlgbhejcjbaaDoor.S
