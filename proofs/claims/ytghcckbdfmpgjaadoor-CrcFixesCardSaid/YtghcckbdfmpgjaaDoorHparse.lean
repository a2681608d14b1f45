/- crc.Parse, walked: the text's runes, each a digit or a blank; a fault of the form where one is not. -/
import Derived.Outline
import Derived.Laws.RangeAny
import Derived.Lib.OthersKept
import Derived.Test.YtghcckbdfmpgjaaDoorHfix
import Derived.Test.YtghcckbdfmpgjaaDoorHhex
namespace Go.Proofs.YtghcckbdfmpgjaaDoor.S
open Go.RowKit Go.Proofs.YtghcckbdfmpgjaaDoorW.PrintWords Go.Proofs.YtghcckbdfmpgjaaDoorW.PrintLast Go.Proofs.YtghcckbdfmpgjaaDoorW.PrintMore
set_option linter.unusedVariables false
set_option linter.unusedSimpArgs false

/-- The value of a digit. -/
def hexVal (b : Int) : Option Int := if 48 ≤ b ∧ b ≤ 57 then some (b - 48) else if 97 ≤ b ∧ b ≤ 102 then some (b - 87) else none
/-- From the i-th byte on; what came out till then, and the last digit. -/
def parseL : List Int → Nat → List Int → Int → List Int × Int × Int
  | [], i, out, _ => if i > 0 ∧ (i - 1) % 3 ≠ 1 then ([], 3, (i : Int)) else (out, 0, 0)
  | b :: bs, i, out, half =>
    if i % 3 = 2 then (if b = 32 then parseL bs (i + 1) out half else ([], 3, (i : Int)))
    else match hexVal b with
      | none => ([], 3, (i : Int))
      | some v => parseL bs (i + 1) (if i % 3 = 1 then out ++ [half * 16 + v] else out) v
def crc_Parse.f (a0 : ByteArray) : Option (ByteArray × Int × Int) :=
  if (a0.size : Int) > 20000 then some (⟨#[]⟩, 4, 20000)
  else some (strOfNums (parseL (bytesOf a0) 0 [] 0).1, (parseL (bytesOf a0) 0 [] 0).2.1, (parseL (bytesOf a0) 0 [] 0).2.2)

/-- What holds between the rounds: the fault's block, the iterator's, the row of what came out. -/
structure PI (w wr : World) (a0 : ByteArray) (i : Nat) (v : Value) (out : List Int) : Prop where
  b0 : wr.heap[w.heap.size]? = some (.cells #[.int .i64 0, .int .i64 0] 40 (0, 0))
  b1 : wr.heap[w.heap.size + 1]? = some (.stringIter a0 i)
  row : (Kd.int .u8).R 5 wr (w.heap.size + 2) (fun _ => True) v out
  bel : Below w.heap.size w wr
theorem R_kept {W W' : World} {base : Nat} {v : Value} {xs : List Int} (h : (Kd.int .u8).R 5 W base (fun _ => True) v xs) (hm : ∀ k, base ≤ k → (∃ c e, W.heap[k]? = some (.cells c e (0, 0))) → W'.heap[k]? = W.heap[k]?) : (Kd.int .u8).R 5 W' base (fun _ => True) v xs :=
  Kd.R_mono (Kd.R_move (Kd.R_bound h) (fun k hk => hm k hk.2.1 (by obtain ⟨_, _, _, q, _, c, hc⟩ := hk; exact ⟨c, q, hc⟩))) (fun _ _ => trivial)
theorem PI.next {w wr : World} {a0 : ByteArray} {i : Nat} {v : Value} {out : List Int} (h : PI w wr a0 i v out) (j : Nat) : PI w (wr.iterAt (w.heap.size + 1) a0 j) a0 j v out :=
  ⟨(Lib.iterAt_other wr _ _ a0 j (by omega)).trans h.b0, Lib.iterAt_heap wr _ a0 i j h.b1, R_kept h.row (fun k hk _ => Lib.iterAt_other wr _ _ a0 j (by omega)), Lib.below_iterAt h.bel (by omega) a0 j⟩
theorem PI.below {w wr W : World} {a0 : ByteArray} {i : Nat} {v : Value} {out : List Int} (h : PI w wr a0 i v out) (hb : Below wr.heap.size wr W) : PI w W a0 i v out :=
  ⟨(hb.block _ (Array.getElem?_eq_some_iff.1 h.b0).1).trans h.b0, (hb.block _ (Array.getElem?_eq_some_iff.1 h.b1).1).trans h.b1, Kd.R_below h.row hb, h.bel.trans (hb.mono h.bel.size)⟩
theorem PI.far {w wr : World} {a0 : ByteArray} {i : Nat} {v : Value} {out : List Int} (h : PI w wr a0 i v out) {K : Nat} {s : ByteArray} {p : Nat} (hK : wr.heap[K]? = some (.stringIter s p)) (hne : K ≠ w.heap.size + 1) (hlt : w.heap.size ≤ K) (j : Nat) : PI w (wr.iterAt K s j) a0 i v out :=
  ⟨(Lib.iterAt_other wr _ _ s j (fun e => by rw [← e, h.b0] at hK; cases hK)).trans h.b0, (Lib.iterAt_other wr _ _ s j (Ne.symm hne)).trans h.b1, R_kept h.row (fun k _ hk => Lib.iterAt_other wr _ _ s j (fun e => by obtain ⟨c, q, hc⟩ := hk; rw [e, hK] at hc; cases hc)), Lib.below_iterAt h.bel hlt s j⟩
theorem PI.appended {w wr W : World} {a0 : ByteArray} {i : Nat} {v v1 : Value} {out out1 : List Int} (h : PI w wr a0 i v out) (ho : (Kd.int .u8).R 5 W (w.heap.size + 2) (fun _ => True) v1 out1) (hb : Below (w.heap.size + 2) wr W) : PI w W a0 i v1 out1 :=
  ⟨(hb.block _ (by omega)).trans h.b0, (hb.block _ (by omega)).trans h.b1, ho, h.bel.trans (hb.mono (by omega))⟩
theorem PI.size {w wr : World} {a0 : ByteArray} {i : Nat} {v : Value} {out : List Int} (h : PI w wr a0 i v out) : w.heap.size + 2 ≤ wr.heap.size := by
  have := (Array.getElem?_eq_some_iff.1 h.b1).1
  omega

theorem PI.cell0 {w wr : World} {a0 : ByteArray} {i : Nat} {v : Value} {out : List Int} (h : PI w wr a0 i v out) : wr.cell? ⟨w.heap.size, 0, none⟩ = some (.int .i64 0) := (blk_cell h.b0 0).trans rfl
theorem PI.cell1 {w wr : World} {a0 : ByteArray} {i : Nat} {v : Value} {out : List Int} (h : PI w wr a0 i v out) : wr.cell? ⟨w.heap.size, 1, none⟩ = some (.int .i64 0) := (blk_cell h.b0 1).trans rfl
theorem PI.faulted {w wr : World} {a0 : ByteArray} {i : Nat} {v : Value} {out : List Int} (h : PI w wr a0 i v out) (x y : Int) : ((wr.setCell ⟨w.heap.size, 0, none⟩ (.int .i64 x)).setCell ⟨w.heap.size, 1, none⟩ (.int .i64 y)).heap[w.heap.size]? = some (.cells #[.int .i64 x, .int .i64 y] 40 (0, 0)) := by
  have := blk_set (blk_set h.b0 0 (.int .i64 x)) 1 (.int .i64 y)
  simpa using this
theorem PI.left {w wr : World} {a0 : ByteArray} {i : Nat} {v : Value} {out : List Int} (h : PI w wr a0 i v out) (x y : Int) : Below w.heap.size w ((wr.setCell ⟨w.heap.size, 0, none⟩ (.int .i64 x)).setCell ⟨w.heap.size, 1, none⟩ (.int .i64 y)) :=
  (h.bel.setCell (p := ⟨w.heap.size, 0, none⟩) (Nat.le_refl _) _).setCell (p := ⟨w.heap.size, 1, none⟩) (Nat.le_refl _) _
theorem nil_of_size {s : ByteArray} (h : s.size = 0) : s.toList = [] := by rw [ByteArray.toList_eq]; exact List.eq_nil_of_length_eq_zero (by rw [data_length]; exact h)
theorem ne_of_size {s : ByteArray} (h : ¬ s.size = 0) : ¬ s.toList = [] := by rw [ByteArray.toList_eq]; intro e; exact h (by rw [← data_length, e]; rfl)

theorem next_dig (W : World) (K j : Nat) (ty : TypeId) (hj : j < 16) (hk : W.heap[K]? = some (.stringIter { data := #[48, 49, 50, 51, 52, 53, 54, 55, 56, 57, 97, 98, 99, 100, 101, 102] } j)) :
    (Instr.next (.pointer (some ⟨K, 0, none⟩)) true ty).run Tryd.prog W = .ok (.tuple #[.bool true, .int .i64 j, .int .i32 (dig j)]) (W.iterAt K { data := #[48, 49, 50, 51, 52, 53, 54, 55, 56, 57, 97, 98, 99, 100, 101, 102] } (j + 1)) := by
  have hl : j < ({ data := #[48, 49, 50, 51, 52, 53, 54, 55, 56, 57, 97, 98, 99, 100, 101, 102] } : ByteArray).size := hj
  have hd := dig_fin ⟨j, hj⟩
  have hb := bt_at { data := #[48, 49, 50, 51, 52, 53, 54, 55, 56, 57, 97, 98, 99, 100, 101, 102] } (j : Int) (by simpa using hl)
  have e : ((({ data := #[48, 49, 50, 51, 52, 53, 54, 55, 56, 57, 97, 98, 99, 100, 101, 102] } : ByteArray)[j]'hl).toNat : Int) = dig j := by
    simp only [Int.toNat_natCast] at hb
    exact hb.trans hd
  have h16 : dig j < 128 := by unfold dig; split <;> omega
  have := Lib.run_next_ascii_at (P := Tryd.prog) W K _ j ty hk hl (by omega)
  rw [this, e]
theorem or_join (a : Int) (j : Nat) (h0 : 0 ≤ a) (h1 : a ≤ 15) (hj : j < 16) : Go.bits .or .i64 (a * 16) (j : Int) = a * 16 + j :=
  bits_join .i64 8 (by decide) (fun n h h' => by rw [IntKind.wrap_i64]; omega) 4 _ _ (by omega) (by omega) (by omega) (by omega) (by omega) (by omega)
theorem hexVal_dig (j : Nat) (hj : j < 16) : hexVal (dig j) = some (j : Int) := by
  unfold hexVal dig
  split
  · rw [if_pos (by omega)]; congr 1; omega
  · rw [if_neg (by omega), if_pos (by omega)]; congr 1; omega
theorem hexVal_none {b : Int} (h : ∀ j : Nat, j < 16 → b ≠ dig j) : hexVal b = none := by
  unfold hexVal
  split
  · exact absurd (show b = dig ((b - 48).toNat : Int) by unfold dig; rw [if_pos (by omega)]; omega) (h _ (by omega))
  · split
    · exact absurd (show b = dig ((b - 87).toNat : Int) by unfold dig; rw [if_neg (by omega)]; omega) (h _ (by omega))
    · rfl

set_option maxHeartbeats 4000000 in
set_option maxRecDepth 100000 in
theorem crc_Parse.calls (a0 : ByteArray) (r1 : ByteArray) (r2 : Int) (r3 : Int) (w : World) (h : crc_Parse.f a0 = some (r1, r2, r3)) :
    Calls Tryd.prog 23 #[.string a0] w fun e w' => e = .returned (.tuple #[.string r1, .agg #[.int .i64 r2, .int .i64 r3]]) ∧ Below w.heap.size w w' := by
  unfold crc_Parse.f at h
  have hu := Tryd.underlying40
  by_cases hs : (a0.size : Int) > 20000
  · rw [if_pos hs] at h
    simp only [Option.some.injEq, Prod.mk.injEq] at h
    obtain ⟨rfl, rfl, rfl⟩ := h
    go_enter Tryd.func23, Tryd.ntmps23
    go_wp2
    go_step3
    go_wp2
    try rw [Exit.noGoto_ret]
    refine bodyPost_ret (v := .tuple #[.string ⟨#[]⟩, .agg #[.int .i64 4, .int .i64 20000]]) (by simp [results, Tryd.results23, go_sem, hu]) rfl ⟨rfl, ?_⟩
    exact (Below.refl _ _).alloc (Nat.le_refl _) _
  · rw [if_neg hs] at h
    simp only [Option.some.injEq, Prod.mk.injEq] at h
    have HP := Aside0.mk h
    clear h
    have d0 : decide (20000 < (a0.size : Int)) = false := decide_eq_false (by omega)
    go_enter Tryd.func23, Tryd.ntmps23
    go_wp2
    go_step3
    go_wp2
    go_step3
    go_wp2
    obtain ⟨w0, hw0⟩ : ∃ w0, (w.alloc (.cells #[.int .i64 0, .int .i64 0] 40)).iter a0 0 = w0 := ⟨_, rfl⟩
    rw [hw0]
    have hpi : PI w w0 a0 0 (.slice none 0 0) [] := by
      rw [← hw0]
      refine ⟨?_, ?_, Kd.R_nil _ _ _ _ _, ?_⟩
      · exact ((Below.refl _ _).alloc (o := .stringIter a0 0) (Nat.le_refl _)).block _ (by simp) |>.trans (heap_alloc_new w _)
      · have := World.iter_heap (w.alloc (.cells #[.int .i64 0, .int .i64 0] 40)) a0 0
        rwa [World.size_alloc] at this
      · exact ((Below.refl _ w).alloc (Nat.le_refl _) _).alloc (by simp) _
    have HPI := Aside0.mk hpi
    clear hw0 hpi
    go_loopg [4, 5, 6] a0.size (fun g s4 s5 s6 wr => ∃ (i : Nat) (out : List Int) (half at_ : Int), i + g = a0.size ∧ s5 = .int .i64 half ∧ s6 = .int .i64 at_ ∧ 0 ≤ half ∧ half ≤ 15 ∧ Aside0 (at_ = if i = 0 then 0 else (i : Int) - 1) ∧ Aside0 (out.length ≤ i) ∧ Aside0 (parseL ((bytesOf a0).drop i) i out half = parseL (bytesOf a0) 0 [] 0) ∧ Aside0 (PI w wr a0 i s4 out))
    case atStart => exact ⟨0, [], 0, 0, by omega, rfl, rfl, by omega, by omega, ⟨rfl⟩, ⟨by simp⟩, ⟨rfl⟩, HPI⟩
    case round =>
      obtain ⟨i, out, half, at_, hig, rfl, rfl, hh0, hh1, hat, hol, hS, hPI⟩ := hrel
      cases gk with
      | zero =>
        have hnx := fun ty => Lib.run_next_end_at (P := Tryd.prog) wr _ a0 i ty hPI.out.b1 (by omega)
        have c0 := hPI.out.cell0
        have c1 := hPI.out.cell1
        have f0 := blk_frozen hPI.out.b0 0
        have f1 := blk_frozen hPI.out.b0 1
        obtain rfl : i = a0.size := by omega
        have e : parseL (bytesOf a0) 0 [] 0 = if a0.size > 0 ∧ (a0.size - 1) % 3 ≠ 1 then ([], 3, (a0.size : Int)) else (out, 0, 0) := by
          have := hS.out
          rw [List.drop_eq_nil_of_le (by rw [bytesOf_length]; omega), parseL] at this
          exact this.symm
        have E := Aside0.mk e
        have hcv := own_string (P := Tryd.prog) Tryd.underlying23 Tryd.underlying5 Tryd.underlying9 (Kd.own_of_R hPI.out.row)
        clear e
        by_cases hz : a0.size = 0
        · have z1 : a0.toList = [] := nil_of_size hz
          have HZ := Aside0.mk hz
          clear hz
          go_wp2
          try rw [Exit.noGoto_ret]
          have hp := HP.out
          rw [E.out, if_neg (by have := HZ.out; omega)] at hp
          obtain ⟨rfl, rfl, rfl⟩ := hp
          have hk := hPI.out.faulted 0 0
          have k0 := (blk_cell hk 0).trans (rfl : _ = some (Value.int .i64 0))
          have k1 := (blk_cell hk 1).trans (rfl : _ = some (Value.int .i64 0))
          exact bodyPost_ret (v := .tuple #[.string (strOfNums out), .agg #[.int .i64 0, .int .i64 0]]) (by simp [results, Tryd.results23, go_sem, hu, k0, k1]) rfl ⟨rfl, hPI.out.left 0 0⟩
        · have z1 := ne_of_size hz
          have z2 : a0.toList.isEmpty = false := by rw [List.isEmpty_eq_false_iff]; exact z1
          by_cases hm : at_ % 3 = 1
          · have m1 : (at_ % 3 != 1) = false := by rw [hm]; rfl
            have HM := Aside0.mk hm
            have HZ := Aside0.mk hz
            have ha0 : 0 ≤ at_ := by have := hat.out; rw [if_neg hz] at this; omega
            clear hm hz
            go_wp2
            try rw [Exit.noGoto_ret]
            have hp := HP.out
            rw [E.out, if_neg (by have := HZ.out; have h1 := HM.out; have h2 := hat.out; rw [if_neg HZ.out] at h2; omega)] at hp
            obtain ⟨rfl, rfl, rfl⟩ := hp
            have hk := hPI.out.faulted 0 0
            have k0 := (blk_cell hk 0).trans (rfl : _ = some (Value.int .i64 0))
            have k1 := (blk_cell hk 1).trans (rfl : _ = some (Value.int .i64 0))
            exact bodyPost_ret (v := .tuple #[.string (strOfNums out), .agg #[.int .i64 0, .int .i64 0]]) (by simp [results, Tryd.results23, go_sem, hu, k0, k1]) rfl ⟨rfl, hPI.out.left 0 0⟩
          · have m1 : (at_ % 3 != 1) = true := bne_iff_ne.2 hm
            have HM := Aside0.mk hm
            have HZ := Aside0.mk hz
            have ha0 : 0 ≤ at_ := by have := hat.out; rw [if_neg hz] at this; omega
            clear hm hz
            go_wp2
            try rw [Exit.noGoto_ret]
            have hp := HP.out
            rw [E.out, if_pos (by have := HZ.out; have h1 := HM.out; have h2 := hat.out; rw [if_neg HZ.out] at h2; omega)] at hp
            obtain ⟨rfl, rfl, rfl⟩ := hp
            have hk := hPI.out.faulted 3 a0.size
            have k0 := (blk_cell hk 0).trans (rfl : _ = some (Value.int .i64 3))
            have k1 := (blk_cell hk 1).trans (rfl : _ = some (Value.int .i64 a0.size))
            exact bodyPost_ret (v := .tuple #[.string ⟨#[]⟩, .agg #[.int .i64 3, .int .i64 a0.size]]) (by simp [results, Tryd.results23, go_sem, hu, k0, k1]) rfl ⟨rfl, hPI.out.left 3 _⟩
      | succ g =>
        have hilt : i < a0.size := by omega
        have hnx := fun ty => Lib.run_next_any_at (P := Tryd.prog) wr _ a0 i ty hPI.out.b1 hilt
        have hdec : ((Utf8.decode a0 i).1 : Int) = bt a0 i ∧ (Utf8.decode a0 i).2 = 1 ∧ bt a0 i < 128 ∨ 128 ≤ (Utf8.decode a0 i).1 ∧ 128 ≤ bt a0 i := by
          have hb : bt a0 (i : Int) = ((a0[i]'hilt).toNat : Int) := by simp [bt, hilt]
          by_cases hl : (a0[i]'hilt).toNat < 128
          · left
            rw [decode_ascii a0 i hilt hl, hb]
            exact ⟨rfl, rfl, by omega⟩
          · right
            exact ⟨(decode_high a0 i hilt (by omega)).1, by rw [hb]; omega⟩
        have hcm := decode_le a0 i
        obtain ⟨c, hc⟩ : ∃ c, (Utf8.decode a0 i).1 = c := ⟨_, rfl⟩
        obtain ⟨adv, hadv⟩ : ∃ adv, (Utf8.decode a0 i).2 = adv := ⟨_, rfl⟩
        rw [hc, hadv] at hdec
        rw [hc] at hcm
        rw [hc, hadv] at hnx
        obtain ⟨w1, hw1⟩ : ∃ w1, wr.iterAt (w.heap.size + 1) a0 (i + adv) = w1 := ⟨_, rfl⟩
        have hp1 := hPI.out.next (i + adv)
        rw [hw1] at hp1 hnx
        have HP1 := Aside0.mk hp1
        have c0 := hp1.cell0
        have c1 := hp1.cell1
        have f0 := blk_frozen hp1.b0 0
        have f1 := blk_frozen hp1.b0 1
        obtain ⟨b, hb⟩ : ∃ b, bt a0 (i : Int) = b := ⟨_, rfl⟩
        rw [hb] at hdec
        have hd : (bytesOf a0).drop i = b :: (bytesOf a0).drop (i + 1) := by
          rw [← hb, ← rd_bytesOf]; exact Pure.drop_rd _ _ (by rw [bytesOf_length]; exact hilt)
        have HD := Aside0.mk hd
        have HDEC := Aside0.mk hdec
        clear hw1 hp1 hc hadv hb hd hdec hPI
        by_cases h3 : i % 3 = 2
        · have m3 : ((i : Int) % 3 == 2) = true := by rw [beq_iff_eq]; omega
          have H3 := Aside0.mk h3
          clear h3
          by_cases h32 : c = 32
          · have m4 : ((c : Int) != 32) = false := by rw [bne_eq_false_iff_eq]; omega
            have H32 := Aside0.mk h32
            clear h32
            go_wp2
            go_roundg g
            case measure => omega
            case rel =>
              have hb : b = 32 ∧ adv = 1 := by have h1 := HDEC.out; have h2 := H32.out; omega
              obtain ⟨rfl, rfl⟩ := hb
              refine ⟨i + 1, out, half, (i : Int), by omega, rfl, rfl, hh0, hh1, ⟨by rw [if_neg (by omega)]; omega⟩, ⟨by have := hol.out; omega⟩, ⟨?_⟩, HP1⟩
              have := hS.out
              rw [HD.out, parseL, if_pos H3.out, if_pos rfl] at this
              exact this
          · have m4 : ((c : Int) != 32) = true := by rw [bne_iff_ne]; omega
            have H32 := Aside0.mk h32
            clear h32
            go_wp2
            try rw [Exit.noGoto_ret]
            have hp : parseL (bytesOf a0) 0 [] 0 = ([], 3, (i : Int)) := by
              have h1 := HDEC.out
              have := hS.out
              rw [HD.out, parseL, if_pos H3.out, if_neg (by have h2 := H32.out; omega)] at this
              exact this.symm
            have hq := HP.out
            rw [hp] at hq
            obtain ⟨rfl, rfl, rfl⟩ := hq
            have hk := HP1.out.faulted 3 i
            have k0 := (blk_cell hk 0).trans (rfl : _ = some (Value.int .i64 3))
            have k1 := (blk_cell hk 1).trans (rfl : _ = some (Value.int .i64 i))
            exact bodyPost_ret (v := .tuple #[.string ⟨#[]⟩, .agg #[.int .i64 3, .int .i64 i]]) (by simp [results, Tryd.results23, go_sem, hu, k0, k1]) rfl ⟨rfl, HP1.out.left 3 _⟩
        · have m3 : ((i : Int) % 3 == 2) = false := by rw [beq_eq_false_iff_ne]; omega
          have H3 := Aside0.mk h3
          clear h3
          go_wp2_with fail
          obtain ⟨w2, hw2⟩ : ∃ w2, w1.iter { data := #[48, 49, 50, 51, 52, 53, 54, 55, 56, 57, 97, 98, 99, 100, 101, 102] } 0 = w2 := ⟨_, rfl⟩
          have hp2 : PI w w2 a0 (i + adv) u4 out := by rw [← hw2]; exact HP1.out.below ((Below.refl _ _).alloc (Nat.le_refl _) _)
          have hit : w2.heap[w1.heap.size]? = some (.stringIter { data := #[48, 49, 50, 51, 52, 53, 54, 55, 56, 57, 97, 98, 99, 100, 101, 102] } 0) := by rw [← hw2]; exact World.iter_heap w1 _ 0
          have hK : w.heap.size + 2 ≤ w1.heap.size := HP1.out.size
          rw [hw2]
          have HK := Aside0.mk hK
          have HIT := Aside0.mk hit
          have HP2 := Aside0.mk hp2
          clear hw2 hp2 hit hK c0 c1 f0 f1
          go_loopg [4, 5] 16 (fun g2 s4 s5 wy => ∃ j : Nat, j + g2 = 16 ∧ s4 = u4 ∧ s5 = .int .i64 half ∧ Aside0 (∀ j' : Nat, j' < j → (c : Int) ≠ dig j') ∧ Aside0 (wy.heap[w1.heap.size]? = some (.stringIter { data := #[48, 49, 50, 51, 52, 53, 54, 55, 56, 57, 97, 98, 99, 100, 101, 102] } j)) ∧ Aside0 (PI w wy a0 (i + adv) u4 out))
          case atStart => exact ⟨0, by omega, rfl, rfl, ⟨fun j' h => by omega⟩, HIT, HP2⟩
          case round =>
            obtain ⟨j, hjg, rfl, rfl, hno, hit, hp2⟩ := hrel
            cases gk with
            | zero =>
              obtain rfl : j = 16 := by omega
              have hn2 := fun ty => Lib.run_next_end_at (P := Tryd.prog) wr _ _ 16 ty hit.out (by decide)
              have c0 := hp2.out.cell0
              have c1 := hp2.out.cell1
              have f0 := blk_frozen hp2.out.b0 0
              have f1 := blk_frozen hp2.out.b0 1
              go_wp2
              try rw [Exit.noGoto_ret]
              have hp : parseL (bytesOf a0) 0 [] 0 = ([], 3, (i : Int)) := by
                have h1 := HDEC.out
                have := hS.out
                rw [HD.out, parseL, if_neg H3.out, hexVal_none (fun j hj e => by have h2 := hno.out j hj; have h3 : dig (j : Int) < 128 := by { unfold dig; split <;> omega }; omega)] at this
                exact this.symm
              have hq := HP.out
              rw [hp] at hq
              obtain ⟨rfl, rfl, rfl⟩ := hq
              have hk := hp2.out.faulted 3 i
              have k0 := (blk_cell hk 0).trans (rfl : _ = some (Value.int .i64 3))
              have k1 := (blk_cell hk 1).trans (rfl : _ = some (Value.int .i64 i))
              exact bodyPost_ret (v := .tuple #[.string ⟨#[]⟩, .agg #[.int .i64 3, .int .i64 i]]) (by simp [results, Tryd.results23, go_sem, hu, k0, k1]) rfl ⟨rfl, hp2.out.left 3 _⟩
            | succ g2 =>
              have hj16 : j < 16 := by omega
              have hn2 := fun ty => next_dig wr _ j ty hj16 hit.out
              obtain ⟨w3, hw3⟩ : ∃ w3, wr.iterAt w1.heap.size { data := #[48, 49, 50, 51, 52, 53, 54, 55, 56, 57, 97, 98, 99, 100, 101, 102] } (j + 1) = w3 := ⟨_, rfl⟩
              have hp3 := hp2.out.far hit.out (by have := HK.out; omega) (by have := HK.out; omega) (j + 1)
              have hit3 := Lib.iterAt_heap wr _ _ j (j + 1) hit.out
              rw [hw3] at hp3 hit3 hn2
              have HP3 := Aside0.mk hp3
              have HIT3 := Aside0.mk hit3
              clear hw3 hp3 hit3 hp2 hit
              by_cases heq : (c : Int) = dig j
              · have m5 : ((c : Int) != dig j) = false := by rw [bne_eq_false_iff_eq]; exact heq
                have HEQ := Aside0.mk heq
                clear heq
                have hor := or_join half j hh0 hh1 hj16
                by_cases h1 : i % 3 = 1
                · have m6 : ((i : Int) % 3 == 1) = true := by rw [beq_iff_eq]; omega
                  have H1 := Aside0.mk h1
                  clear h1
                  have hrow := HP3.out.row
                  go_wp2_with (at_builtin; refine Kd.R_append (Kd.int .u8) (w0 := w3) (w.heap.size + 2) rfl (.tmp 40) (.tmp 46) 23 5 (.int .u8 0) 1 rfl Tryd.underlying23 info5 rfl (by decide) (by omega) _ out (half * 16 + j) [.int .u8 (half * 16 + j)] (fun _ => True) (fun _ => False) rfl rfl rfl (fun _ hk => hk.elim) (fun _ _ => trivial) hrow (Below.refl _ _) HP3.out.size (by have := hol.out; omega) ?_; intro v5 w5 ho hb5 hg5 hat5; have HP5 := Aside0.mk (HP3.out.appended ho hb5); clear ho hb5 hg5 hat5)
                  go_roundg g
                  case measure => omega
                  case rel =>
                    have hb : b = dig j ∧ adv = 1 := by have h1 := HDEC.out; have h2 := HEQ.out; have h3 : dig (j : Int) < 128 := by { unfold dig; split <;> omega }; omega
                    obtain ⟨rfl, rfl⟩ := hb
                    refine ⟨i + 1, _, (j : Int), (i : Int), by omega, rfl, rfl, by omega, by omega, ⟨by rw [if_neg (by omega)]; omega⟩, ⟨by simp; have := hol.out; omega⟩, ⟨?_⟩, ⟨HP5.out⟩⟩
                    have := hS.out
                    rw [HD.out, parseL, if_neg H3.out, hexVal_dig j (by omega)] at this
                    simp only [if_pos H1.out] at this
                    exact this
                · have m6 : ((i : Int) % 3 == 1) = false := by rw [beq_eq_false_iff_ne]; omega
                  have H1 := Aside0.mk h1
                  clear h1
                  go_wp2
                  go_roundg g
                  case measure => omega
                  case rel =>
                    have hb : b = dig j ∧ adv = 1 := by have h1 := HDEC.out; have h2 := HEQ.out; have h3 : dig (j : Int) < 128 := by { unfold dig; split <;> omega }; omega
                    obtain ⟨rfl, rfl⟩ := hb
                    refine ⟨i + 1, _, (j : Int), (i : Int), by omega, rfl, rfl, by omega, by omega, ⟨by rw [if_neg (by omega)]; omega⟩, ⟨by have := hol.out; omega⟩, ⟨?_⟩, ⟨HP3.out⟩⟩
                    have := hS.out
                    rw [HD.out, parseL, if_neg H3.out, hexVal_dig j (by omega)] at this
                    simp only [if_neg H1.out] at this
                    exact this
              · have m5 : ((c : Int) != dig j) = true := by rw [bne_iff_ne]; exact heq
                have HNE := Aside0.mk heq
                clear heq
                go_wp2
                go_roundg g2
                case measure => omega
                case rel => exact ⟨j + 1, by omega, rfl, rfl, ⟨fun j' h => by rcases Nat.lt_succ_iff_lt_or_eq.1 h with h | rfl; exact hno.out j' h; exact HNE.out⟩, HIT3, HP3⟩

end Go.Proofs.YtghcckbdfmpgjaaDoor.S
