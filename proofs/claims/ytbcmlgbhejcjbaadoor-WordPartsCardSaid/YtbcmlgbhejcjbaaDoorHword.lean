/- word.of, walked: the word of a slot; an array of cars, and a table of functions that change one. -/
import Derived.Outline
import Derived.RangeFuncBox
import Derived.Shelf.Abstract
import Derived.StillTailTactics
import Derived.IntWalk
import Derived.Test.YtbcmlgbhejcjbaaDoorLay
import Derived.Test.YtbcmlgbhejcjbaaDoorXtra
import Derived.Test.YtbcmlgbhejcjbaaDoorNums
namespace Go.Proofs.YtbcmlgbhejcjbaaDoor.S
open Go.RowKit Go.Proofs.YtbcmlgbhejcjbaaDoorW.PrintWords Go.Proofs.YtbcmlgbhejcjbaaDoorW.PrintLast Go.Proofs.YtbcmlgbhejcjbaaDoorW.PrintMore Go.Shelf
set_option linter.unusedVariables false
set_option linter.unusedSimpArgs false

/-- The cars of a slot: loads and faults. -/
def carCells (L : Nat → Int) (F : Nat → Bool) : Array Value := #[.int .i64 (L 0), .bool (F 0), .int .i64 (L 1), .bool (F 1), .int .i64 (L 2), .bool (F 2), .int .i64 (L 3), .bool (F 3), .int .i64 (L 4), .bool (F 4), .int .i64 (L 5), .bool (F 5), .int .i64 (L 6), .bool (F 6), .int .i64 (L 7), .bool (F 7)]
def updF {α : Type} (f : Nat → α) (i : Nat) (v : α) : Nat → α := fun x => if x = i then v else f x
/-- What an entry does to the cars. -/
def entL (e : S38) (L : Nat → Int) : Nat → Int := if e.f1 = 2 ∧ e.f5 = 1 then updF L (e.f4 - 1).toNat e.f6 else L
def entF (e : S38) (F : Nat → Bool) : Nat → Bool := if e.f1 = 2 ∧ 3 ≤ e.f5 then updF F (e.f4 - 1).toNat true else F
def entsL : List S38 → (Nat → Int) → Nat → Int
  | [], L => L
  | e :: es, L => entsL es (entL e L)
def entsF : List S38 → (Nat → Bool) → Nat → Bool
  | [], F => F
  | e :: es, F => entsF es (entF e F)
/-- The loads at the begin. -/
def startL (l : List Int) : Nat → Int := fun x => l.getD x 0
def entOk (e : S38) : Prop := e.f1 = 2 → 1 ≤ e.f4 ∧ e.f4 ≤ 8 ∧ 1 ≤ e.f5 ∧ e.f5 ≤ 6
instance (e : S38) : Decidable (entOk e) := by unfold entOk; infer_instance
/-- The word, car by car; the loads at the end. -/
def wordW (empty : Int) (L : Nat → Int) (F : Nat → Bool) : Nat → Nat → Int → Int
  | 0, _, w => w
  | d + 1, i, w => wordW empty L F d (i + 1) (if F i = true ∨ empty < L i then Go.bits .or .u64 w (IntKind.u64.wrap (2 ^ i)) else w)
def afterW (L : Nat → Int) : Nat → List Int
  | 0 => []
  | i + 1 => afterW L i ++ [L i]
def word_of.f (a0 : Int) (l1 : List Int) (l2 : List S38) : Option (Int × List Int) :=
  if l1.length ≤ 8 ∧ l2.length ≤ 1000000 ∧ ∀ e ∈ l2, entOk e then some (wrap64 (wordW a0 (entsL l2 (startL l1)) (entsF l2 (fun _ => false)) l1.length 0 0), afterW (entsL l2 (startL l1)) l1.length) else none

/-- The block of the cars. -/
def CB (w : World) (B : Nat) (L : Nat → Int) (F : Nat → Bool) : Prop := w.heap[B]? = some (.cells (carCells L F) 73 (0, 0))
theorem lt8 {i : Nat} (h : i < 8) : i = 0 ∨ i = 1 ∨ i = 2 ∨ i = 3 ∨ i = 4 ∨ i = 5 ∨ i = 6 ∨ i = 7 := by omega
theorem car_set_load (L : Nat → Int) (F : Nat → Bool) (i : Nat) (h : i < 8) (v : Int) : (carCells L F).setIfInBounds (i * 2) (.int .i64 v) = carCells (updF L i v) F := by
  rcases lt8 h with rfl | rfl | rfl | rfl | rfl | rfl | rfl | rfl <;> rfl
theorem car_set_fault (L : Nat → Int) (F : Nat → Bool) (i : Nat) (h : i < 8) (v : Bool) : (carCells L F).setIfInBounds (i * 2 + 1) (.bool v) = carCells L (updF F i v) := by
  rcases lt8 h with rfl | rfl | rfl | rfl | rfl | rfl | rfl | rfl <;> rfl
theorem car_load (L : Nat → Int) (F : Nat → Bool) (i : Nat) (h : i < 8) : (carCells L F)[i * 2]? = some (.int .i64 (L i)) := by
  rcases lt8 h with rfl | rfl | rfl | rfl | rfl | rfl | rfl | rfl <;> rfl
theorem car_fault (L : Nat → Int) (F : Nat → Bool) (i : Nat) (h : i < 8) : (carCells L F)[i * 2 + 1]? = some (.bool (F i)) := by
  rcases lt8 h with rfl | rfl | rfl | rfl | rfl | rfl | rfl | rfl <;> rfl
theorem CB.load {w : World} {B : Nat} {L : Nat → Int} {F : Nat → Bool} (h : CB w B L F) (i : Nat) (hi : i < 8) : w.cell? ⟨B, i * 2, none⟩ = some (.int .i64 (L i)) := (blk_cell h (i * 2)).trans (car_load L F i hi)
theorem CB.fault {w : World} {B : Nat} {L : Nat → Int} {F : Nat → Bool} (h : CB w B L F) (i : Nat) (hi : i < 8) : w.cell? ⟨B, i * 2 + 1, none⟩ = some (.bool (F i)) := (blk_cell h (i * 2 + 1)).trans (car_fault L F i hi)
theorem CB.free {w : World} {B : Nat} {L : Nat → Int} {F : Nat → Bool} (h : CB w B L F) (o : Nat) : w.frozen? ⟨B, o, none⟩ = false := blk_frozen h o
theorem CB.setLoad {w : World} {B : Nat} {L : Nat → Int} {F : Nat → Bool} (h : CB w B L F) (i : Nat) (hi : i < 8) (v : Int) : CB (w.setCell ⟨B, i * 2, none⟩ (.int .i64 v)) B (updF L i v) F := by
  have := blk_set h (i * 2) (.int .i64 v)
  rw [car_set_load L F i hi v] at this
  exact this
theorem CB.setFault {w : World} {B : Nat} {L : Nat → Int} {F : Nat → Bool} (h : CB w B L F) (i : Nat) (hi : i < 8) (v : Bool) : CB (w.setCell ⟨B, i * 2 + 1, none⟩ (.bool v)) B L (updF F i v) := by
  have := blk_set h (i * 2 + 1) (.bool v)
  rw [car_set_fault L F i hi v] at this
  exact this

set_option maxHeartbeats 1000000 in
set_option maxRecDepth 100000 in
theorem does1_any (B : Nat) (L : Nat → Int) (F : Nat → Bool) (i : Nat) (hi : i < 8) (v : Int) (w : World) (h : CB w B L F) :
    Calls Tryd.prog 68 #[.pointer (some ⟨B, i * 2, none⟩), .int .i64 v] w fun e w' => e = .returned (.tuple #[]) ∧ w' = w.setCell ⟨B, i * 2, none⟩ (.int .i64 v) := by
  have c := h.load i hi
  have f := h.free (i * 2)
  clear h
  go_enter Tryd.func68, Tryd.ntmps68
  go_wp2
  go_end0
  exact ⟨rfl, rfl⟩
set_option maxHeartbeats 1000000 in
set_option maxRecDepth 100000 in
theorem fault_any (B : Nat) (L : Nat → Int) (F : Nat → Bool) (i : Nat) (hi : i < 8) (v : Int) (w : World) (h : CB w B L F) :
    Calls Tryd.prog 70 #[.pointer (some ⟨B, i * 2, none⟩), .int .i64 v] w fun e w' => e = .returned (.tuple #[]) ∧ w' = w.setCell ⟨B, i * 2 + 1, none⟩ (.bool true) := by
  have c := h.fault i hi
  have f := h.free (i * 2 + 1)
  clear h
  go_enter Tryd.func70, Tryd.ntmps70
  go_wp2
  go_end0
  exact ⟨rfl, rfl⟩
set_option maxHeartbeats 1000000 in
theorem does2_any (p v : Value) (w : World) :
    Calls Tryd.prog 69 #[p, v] w fun e w' => e = .returned (.tuple #[]) ∧ w' = w := by
  go_enter Tryd.func69, Tryd.ntmps69
  go_wp2
  go_end0
  exact ⟨rfl, rfl⟩

/-- What stands while of runs: the cars' block, the table, and what was made. -/
structure WJ (w0 wr : World) (B : Nat) (L : Nat → Int) (F : Nat → Bool) : Prop where
  car : CB wr B L F
  bel : Below w0.heap.size w0 wr
  lb : w0.heap.size ≤ B
theorem CB.lt {w : World} {B : Nat} {L : Nat → Int} {F : Nat → Bool} (h : CB w B L F) : B < w.heap.size := blk_lt h
theorem WJ.alloc {w0 wr : World} {B : Nat} {L : Nat → Int} {F : Nat → Bool} (h : WJ w0 wr B L F) (o : Obj) : WJ w0 (wr.alloc o) B L F := ⟨blk_alloc h.car o, below_alloc h.bel o, h.lb⟩
theorem WJ.setLoad {w0 wr : World} {B : Nat} {L : Nat → Int} {F : Nat → Bool} (h : WJ w0 wr B L F) (i : Nat) (hi : i < 8) (v : Int) : WJ w0 (wr.setCell ⟨B, i * 2, none⟩ (.int .i64 v)) B (updF L i v) F := ⟨h.car.setLoad i hi v, h.bel.setCell (p := ⟨B, i * 2, none⟩) h.lb _, h.lb⟩
theorem WJ.setFault {w0 wr : World} {B : Nat} {L : Nat → Int} {F : Nat → Bool} (h : WJ w0 wr B L F) (i : Nat) (hi : i < 8) : WJ w0 (wr.setCell ⟨B, i * 2 + 1, none⟩ (.bool true)) B L (updF F i true) := ⟨h.car.setFault i hi true, h.bel.setCell (p := ⟨B, i * 2 + 1, none⟩) h.lb _, h.lb⟩

/-- One entry of a car: the function of its kind. -/
theorem does_any (w0 : World) (B : Nat) (L : Nat → Int) (F : Nat → Bool) (e : S38) (h2 : e.f1 = 2) (hok : entOk e) (w : World) (h : WJ w0 w B L F) :
    Calls Tryd.prog (doesN e.f5.toNat) #[.pointer (some ⟨B, (e.f4 - 1).toNat * 2, none⟩), .int .i64 e.f6] w fun en w' => en = .returned (.tuple #[]) ∧ WJ w0 w' B (entL e L) (entF e F) := by
  obtain ⟨h3, h4, h5, h6⟩ := hok h2
  unfold doesN entL entF
  by_cases c1 : e.f5 = 1
  · rw [if_pos (show e.f5.toNat = 1 by omega), if_pos (show e.f1 = 2 ∧ e.f5 = 1 from ⟨h2, c1⟩), if_neg (show ¬ (e.f1 = 2 ∧ 3 ≤ e.f5) by omega)]
    refine (does1_any B L F (e.f4 - 1).toNat (by omega) e.f6 w h.car).mono ?_
    rintro en w' ⟨rfl, rfl⟩
    exact ⟨rfl, h.setLoad _ (by omega) _⟩
  · rw [if_neg (show ¬ e.f5.toNat = 1 by omega), if_neg (show ¬ (e.f1 = 2 ∧ e.f5 = 1) by omega)]
    by_cases c2 : e.f5 = 2
    · rw [if_pos (show e.f5.toNat = 2 by omega), if_neg (show ¬ (e.f1 = 2 ∧ 3 ≤ e.f5) by omega)]
      refine (does2_any _ _ w).mono ?_
      rintro en w' ⟨rfl, rfl⟩
      exact ⟨rfl, h⟩
    · rw [if_neg (show ¬ e.f5.toNat = 2 by omega), if_pos (show e.f1 = 2 ∧ 3 ≤ e.f5 from ⟨h2, by omega⟩)]
      refine (fault_any B L F (e.f4 - 1).toNat (by omega) e.f6 w h.car).mono ?_
      rintro en w' ⟨rfl, rfl⟩
      exact ⟨rfl, h.setFault _ (by omega)⟩
theorem doesN_enters (i : Nat) : ∀ args w, (callFunc (doesN i) args).run Tryd.prog w = .ok (.enter (doesN i) args) w := by
  unfold doesN
  split
  · exact enters_of Tryd.func68 (by kernel_rfl) rfl
  · split
    · exact enters_of Tryd.func69 (by kernel_rfl) rfl
    · exact enters_of Tryd.func70 (by kernel_rfl) rfl

theorem afterW_len (L : Nat → Int) : ∀ i, (afterW L i).length = i
  | 0 => rfl
  | i + 1 => by rw [afterW, List.length_append, afterW_len L i]; rfl
theorem rd38_drop (l : List S38) (i : Nat) (h : i < l.length) : l.drop i = rd_T38 l (i : Int) :: l.drop (i + 1) := by
  unfold rd_T38; simp [h]
theorem rd38_mem (l : List S38) (i : Nat) (h : i < l.length) : rd_T38 l (i : Int) ∈ l := by
  have : rd_T38 l (i : Int) = l[i] := by unfold rd_T38; simp [h]
  rw [this]; exact List.getElem_mem _
/-- The loads so far. -/
def partL (l : List Int) (i : Nat) : Nat → Int := fun x => if x < i then l.getD x 0 else 0
theorem partL_succ (l : List Int) (i : Nat) : updF (partL l i) i (rd l (i : Int)) = partL l (i + 1) := by
  funext x
  unfold updF partL rd
  by_cases h : x = i
  · subst h; rw [if_pos rfl, if_pos (by omega)]; simp
  · rw [if_neg h]
    by_cases h2 : x < i
    · rw [if_pos h2, if_pos (by omega)]
    · rw [if_neg h2, if_neg (by omega)]
theorem partL_all (l : List Int) : partL l l.length = startL l := by
  funext x
  unfold partL startL
  by_cases h : x < l.length
  · rw [if_pos h]
  · rw [if_neg h]; simp [show l.length ≤ x by omega]

set_option maxHeartbeats 4000000 in
set_option maxRecDepth 100000 in
theorem word_of.calls (a0 : Int) (A1 : Option Addr) (c1 : Nat) (l1 : List Int) (A2 : Option Addr) (c2 : Nat) (l2 : List S38) (r1 : Int) (r2 : List Int) (w : World) (HL_ : LaidAt w) (hr1 : Kd.C (Kd.int .i64) w A1 l1.length l1) (hc1 : l1.length ≤ c1) (hr2 : Kd.C k38 w A2 l2.length l2) (hc2 : l2.length ≤ c2) (h : word_of.f a0 l1 l2 = some (r1, r2)) :
    Calls Tryd.prog 39 #[.int .i64 a0, .slice A1 l1.length c1, .slice A2 l2.length c2] w fun e w' => ∃ v1_ : Value, e = .returned (.tuple #[.int .i64 r1, v1_]) ∧ Kd.R (Kd.int .i64) 3 w' w.heap.size (fun _ => True) v1_ r2 ∧ Below w.heap.size w w' := by
  have hu38 := Tryd.underlying38
  have hu72 := Tryd.underlying72
  have hu73 := Tryd.underlying73
  have hu75 := Tryd.underlying75
  unfold word_of.f at h
  by_cases hg : l1.length ≤ 8 ∧ l2.length ≤ 1000000 ∧ ∀ e ∈ l2, entOk e
  · rw [if_pos hg] at h
    obtain ⟨hl8, hl2, hall⟩ := hg
    obtain ⟨rfl, rfl⟩ := Prod.mk.inj (Option.some.inj h)
    clear h
    have HT := Aside0.mk HL_
    have R1 := Aside0.mk hr1
    have R2 := Aside0.mk hr2
    have ALL := Aside0.mk hall
    clear HL_ hr1 hr2 hall
    go_enter Tryd.func39, Tryd.ntmps39
    go_wp2_with fail
    obtain ⟨wd, hwd⟩ : ∃ wd, w.alloc (.cells (carCells (partL l1 0) (fun _ => false)) 73) = wd := ⟨_, rfl⟩
    have hJ : WJ w wd w.heap.size (partL l1 0) (fun _ => false) := by rw [← hwd]; exact ⟨heap_alloc_new w _, below_alloc (Below.refl _ w) _, Nat.le_refl _⟩
    have hwd' : w.alloc (.cells #[.int .i64 0, .bool false, .int .i64 0, .bool false, .int .i64 0, .bool false, .int .i64 0, .bool false, .int .i64 0, .bool false, .int .i64 0, .bool false, .int .i64 0, .bool false, .int .i64 0, .bool false] 73) = wd := hwd
    rw [hwd']
    have J0 := Aside0.mk hJ
    clear hwd hwd' hJ
    obtain ⟨B, hB⟩ : ∃ B, w.heap.size = B := ⟨_, rfl⟩
    have J0 : Aside0 (WJ w wd B (partL l1 0) (fun _ => false)) := ⟨by rw [← hB]; exact J0.out⟩
    rw [hB]
    have HBB := Aside0.mk hB
    clear hB
    go_loopw [18] (fun v18 wr => ∃ i : Nat, v18 = .int .i64 i ∧ i ≤ l1.length ∧ Aside0 (WJ w wr B (partL l1 i) (fun _ => false))) (fun v18 _ => l1.length - (intOf v18).toNat)
    case atStart => exact ⟨0, rfl, by omega, J0⟩
    case round =>
      obtain ⟨i, rfl, hi, hJ⟩ := hrel
      by_cases hlt : i < l1.length
      · have hc : decide ((i : Int) < (l1.length : Int)) = true := decide_eq_true (by omega)
        obtain ⟨ad, e1, x0⟩ := Kd.at_int (Kd.C_below R1.out hJ.out.bel) (i : Int) (by omega) (by omega)
        cases e1
        rw [Int.toNat_natCast] at x0
        have cc := hJ.out.car.load i (by omega)
        have cf := hJ.out.car.free (i * 2)
        have i8 : i < 8 := by omega
        go_wp2
        go_roundw
        case rel => exact ⟨i + 1, by simp, by omega, ⟨by have := hJ.out.setLoad i i8 (rd l1 (i : Int)); rw [partL_succ] at this; exact this⟩⟩
        case measure => simp [intOf]; omega
      · obtain rfl : i = l1.length := by omega
        have hJ2 := hJ.out
        rw [partL_all] at hJ2
        have J1 := Aside0.mk hJ2
        clear hJ2 hJ
        obtain ⟨wo, hwo⟩ : ∃ wo, wr = wo := ⟨_, rfl⟩
        rw [hwo] at J1 ⊢
        clear hwo
        go_wp2_with fail
        go_loopw [30] (fun v30 wr => ∃ (j : Nat) (L : Nat → Int) (F : Nat → Bool), v30 = .int .i64 j ∧ j ≤ l2.length ∧ Aside0 (entsL (l2.drop j) L = entsL l2 (startL l1)) ∧ Aside0 (entsF (l2.drop j) F = entsF l2 (fun _ => false)) ∧ Aside0 (WJ w wr B L F)) (fun v30 _ => l2.length - (intOf v30).toNat)
        case atStart => exact ⟨0, _, _, rfl, by omega, ⟨by simp⟩, ⟨by simp⟩, J1⟩
        case round =>
          obtain ⟨j, L, F, rfl, hj, hL, hF, hJ⟩ := hrel
          by_cases hjl : j < l2.length
          · have hc : decide ((j : Int) < (l2.length : Int)) = true := decide_eq_true (by omega)
            obtain ⟨ad, e1, x0, x1, x2, x3, x4, x5, x6⟩ := at_T38 (Kd.C_below R2.out hJ.out.bel) (j : Int) (by omega) (by omega)
            cases e1
            rw [Int.toNat_natCast] at x0 x1 x2 x3 x4 x5 x6
            have hl := hL.out
            have hf := hF.out
            rw [rd38_drop l2 j hjl] at hl hf
            rw [entsL] at hl
            rw [entsF] at hf
            have hok : entOk (rd_T38 l2 (j : Int)) := ALL.out _ (rd38_mem l2 j hjl)
            obtain ⟨e, he⟩ : ∃ e, rd_T38 l2 (j : Int) = e := ⟨_, rfl⟩
            rw [he] at x0 x1 x2 x3 x4 x5 x6 hl hf hok
            have HL := Aside0.mk hl
            have HF := Aside0.mk hf
            have HOK := Aside0.mk hok
            clear hl hf hL hF he hok
            have JA := Aside0.mk (hJ.out.alloc (.cells #[.int .i64 e.f0, .int .i64 e.f1, .int .i64 e.f2, .string e.f3, .int .i64 e.f4, .int .i64 e.f5, .int .i64 e.f6] 38))
            have hE : (wr.alloc (.cells #[.int .i64 e.f0, .int .i64 e.f1, .int .i64 e.f2, .string e.f3, .int .i64 e.f4, .int .i64 e.f5, .int .i64 e.f6] 38)).heap[wr.heap.size]? = some (.cells #[.int .i64 e.f0, .int .i64 e.f1, .int .i64 e.f2, .string e.f3, .int .i64 e.f4, .int .i64 e.f5, .int .i64 e.f6] 38 (0, 0)) := heap_alloc_new wr _
            have HE := Aside0.mk hE
            clear hE hJ
            by_cases h2 : e.f1 = 2
            · have hja := JA.out
              have hhe := HE.out
              rw [h2] at hja hhe x1
              have JB := Aside0.mk hja
              have HE2 := Aside0.mk hhe
              have H2 := Aside0.mk h2
              obtain ⟨hk1, hk2, hk3, hk4⟩ := HOK.out h2
              clear hja hhe h2 JA HE
              go_wp2_with fail
              obtain ⟨wh, hwh⟩ : ∃ wh, wr.alloc (.cells #[.int .i64 e.f0, .int .i64 2, .int .i64 e.f2, .string e.f3, .int .i64 e.f4, .int .i64 e.f5, .int .i64 e.f6] 38) = wh := ⟨_, rfl⟩
              obtain ⟨ge, hge⟩ : ∃ ge, wr.heap.size = ge := ⟨_, rfl⟩
              rw [hwh] at JB HE2 ⊢
              rw [hge] at HE2 ⊢
              clear x0 x1 x2 x3 x4 x5 x6 hwh hge
              refine wp_region_still_tail 10 (by kernel_rfl) (by kernel_rfl) ?_
              obtain ⟨wq, hwq⟩ : ∃ wq, ({ heap := wh.heap, tape := wh.tape, drawn := wh.drawn + 1, os := wh.os, output := wh.output } : World) = wq := ⟨_, rfl⟩
              have hjq : WJ w wq B L F := by rw [← hwq]; exact ⟨JB.out.car, below_drew1 JB.out.bel, JB.out.lb⟩
              have heq : wq.heap[ge]? = some (.cells #[.int .i64 e.f0, .int .i64 2, .int .i64 e.f2, .string e.f3, .int .i64 e.f4, .int .i64 e.f5, .int .i64 e.f6] 38 (0, 0)) := by rw [← hwq]; exact HE2.out
              have y4 : wq.cell? ⟨ge, 4, none⟩ = some (.int .i64 e.f4) := (blk_cell heq 4).trans rfl
              have y5 : wq.cell? ⟨ge, 5, none⟩ = some (.int .i64 e.f5) := (blk_cell heq 5).trans rfl
              have y6 : wq.cell? ⟨ge, 6, none⟩ = some (.int .i64 e.f6) := (blk_cell heq 6).trans rfl
              have yt : wq.cell? ⟨0, e.f5.toNat, none⟩ = some (.func (.func (doesN e.f5.toNat)) #[] #[]) := (HT.out.below hjq.bel).out _ (by omega) (by omega)
              have JQ := Aside0.mk hjq
              rw [hwq]
              clear hjq heq hwq
              have p1 : (0 ≤ e.f5) = True := eq_true (by omega)
              have p2 : (e.f5 < 7) = True := eq_true (by omega)
              have p3 : (0 ≤ e.f4 - 1) = True := eq_true (by omega)
              have p4 : (e.f4 - 1 < 8) = True := eq_true (by omega)
              have p5 : IntKind.i64.wrap (e.f4 - 1) = e.f4 - 1 := IntWalk.i64_in _ (by omega)
              simp only [List.take_succ_cons, List.take_zero, List.drop_succ_cons, List.drop_zero]
              repeat still_step
              try refine wpStill_nil ?_
              have hd := does_any w B L F e H2.out HOK.out wq JQ.out
              rw [show (e.f4 - 1).toNat = e.f4.toNat - 1 by omega] at hd
              have HD := Aside0.mk hd
              have EN := doesN_enters e.f5.toNat
              obtain ⟨g, hg⟩ : ∃ g, doesN e.f5.toNat = g := ⟨_, rfl⟩
              rw [hg] at HD EN ⊢
              clear hd hg y4 y5 y6 yt p1 p2 p3 p4 p5 JQ JB HE2
              go_wp2_with (go_at_fn g; refine HD.out.mono ?_; rintro en w2 ⟨rfl, hj2⟩; have J2 := Aside0.mk hj2; clear hj2)
              go_roundw
              case rel => exact ⟨j + 1, _, _, by simp, by omega, HL, HF, J2⟩
              case measure => simp [intOf]; omega
            · have b2 : (e.f1 == 2) = false := by rw [beq_eq_false_iff_ne]; exact h2
              go_wp2
              go_roundw
              case rel => exact ⟨j + 1, L, F, by simp, by omega, ⟨by have := HL.out; unfold entL at this; rwa [if_neg (fun h => h2 h.1)] at this⟩, ⟨by have := HF.out; unfold entF at this; rwa [if_neg (fun h => h2 h.1)] at this⟩, JA⟩
              case measure => simp [intOf]; omega
          · have hjj : j = l2.length := by omega
            have hl := hL.out
            have hf := hF.out
            rw [List.drop_eq_nil_of_le (by omega), entsL] at hl
            rw [List.drop_eq_nil_of_le (by omega), entsF] at hf
            rw [hl, hf] at hJ
            have hc : decide ((j : Int) < (l2.length : Int)) = false := decide_eq_false (by omega)
            obtain ⟨L', hL'⟩ : ∃ L', entsL l2 (startL l1) = L' := ⟨_, rfl⟩
            obtain ⟨F', hF'⟩ : ∃ F', entsF l2 (fun _ => false) = F' := ⟨_, rfl⟩
            rw [hL', hF'] at hJ
            have HL' := Aside0.mk hL'
            have HF' := Aside0.mk hF'
            obtain ⟨wp, hwp⟩ : ∃ wp, wr = wp := ⟨_, rfl⟩
            rw [hwp] at hJ ⊢
            clear hl hf hL hF hL' hF' hwp hjj
            go_wp2_with fail
            go_loopw [13, 14, 51] (fun v13 v14 v51 wi => ∃ (i : Nat) (W : Int), v51 = .int .i64 i ∧ v13 = .int .u64 W ∧ i ≤ l1.length ∧ Aside0 (wordW a0 L' F' (l1.length - i) i W = wordW a0 L' F' l1.length 0 0) ∧ Aside0 (WJ w wi B L' F') ∧ Aside0 (Kd.R (Kd.int .i64) 3 wi (B + 1) (fun _ => True) v14 (afterW L' i))) (fun _ _ v51 _ => l1.length - (intOf v51).toNat)
            case atStart => exact ⟨0, 0, rfl, rfl, by omega, ⟨rfl⟩, hJ, ⟨Kd.R_nil _ _ _ _ _⟩⟩
            case round =>
              obtain ⟨i, W, rfl, rfl, hi, hW, hJi, hR⟩ := hrel
              by_cases hil : i < l1.length
              · have hci : decide ((i : Int) < (l1.length : Int)) = true := decide_eq_true (by omega)
                have hw := hW.out
                rw [show l1.length - i = (l1.length - (i + 1)) + 1 by omega, wordW] at hw
                have HW := Aside0.mk hw
                clear hw hW
                have cl := hJi.out.car.load i (by omega)
                have cf := hJi.out.car.fault i (by omega)
                have i8 : i < 8 := by omega
                have ll := afterW_len L' i
                cases hfi : F' i with
                | true =>
                  rw [hfi] at cf
                  have HFI := Aside0.mk hfi
                  clear hfi
                  go_wp2_with (at_builtin; refine Kd.R_append (Kd.int .i64) (w0 := wr) (B + 1) rfl (.tmp 70) (.tmp 75) 22 3 (.int .i64 0) 8 rfl Tryd.underlying22 info3 rfl (by decide) (by omega) u14 (afterW L' i) (L' i) [.int .i64 (L' i)] (fun _ => True) (fun _ => False) rfl rfl rfl (fun _ hk => hk.elim) (fun _ _ => trivial) hR.out (Below.refl _ _) (by have := hJi.out.car.lt; omega) (by omega) ?_; intro v1 w3 ho hb3 _ _; have R3 := Aside0.mk ho; have B3 := Aside0.mk hb3; clear ho hb3)
                  go_roundw
                  case rel => exact ⟨i + 1, _, by simp, rfl, by omega, ⟨by have := HW.out; rwa [if_pos (Or.inl HFI.out)] at this⟩, ⟨⟨(B3.out.block B (by omega)).trans hJi.out.car, hJi.out.bel.trans (B3.out.mono (by have := hJi.out.lb; omega)), hJi.out.lb⟩⟩, R3⟩
                  case measure => simp [intOf]; omega
                | false =>
                  rw [hfi] at cf
                  have HFI := Aside0.mk hfi
                  clear hfi
                  by_cases hle : a0 < L' i
                  · have hd : decide (a0 < L' i) = true := decide_eq_true hle
                    have HLE := Aside0.mk hle
                    clear hle
                    go_wp2_with (at_builtin; refine Kd.R_append (Kd.int .i64) (w0 := wr) (B + 1) rfl (.tmp 70) (.tmp 75) 22 3 (.int .i64 0) 8 rfl Tryd.underlying22 info3 rfl (by decide) (by omega) u14 (afterW L' i) (L' i) [.int .i64 (L' i)] (fun _ => True) (fun _ => False) rfl rfl rfl (fun _ hk => hk.elim) (fun _ _ => trivial) hR.out (Below.refl _ _) (by have := hJi.out.car.lt; omega) (by omega) ?_; intro v1 w3 ho hb3 _ _; have R3 := Aside0.mk ho; have B3 := Aside0.mk hb3; clear ho hb3)
                    go_roundw
                    case rel => exact ⟨i + 1, _, by simp, rfl, by omega, ⟨by have := HW.out; rwa [if_pos (Or.inr HLE.out)] at this⟩, ⟨⟨(B3.out.block B (by omega)).trans hJi.out.car, hJi.out.bel.trans (B3.out.mono (by have := hJi.out.lb; omega)), hJi.out.lb⟩⟩, R3⟩
                    case measure => simp [intOf]; omega
                  · have hd : decide (a0 < L' i) = false := decide_eq_false hle
                    have HLE := Aside0.mk hle
                    clear hle
                    go_wp2_with (at_builtin; refine Kd.R_append (Kd.int .i64) (w0 := wr) (B + 1) rfl (.tmp 70) (.tmp 75) 22 3 (.int .i64 0) 8 rfl Tryd.underlying22 info3 rfl (by decide) (by omega) u14 (afterW L' i) (L' i) [.int .i64 (L' i)] (fun _ => True) (fun _ => False) rfl rfl rfl (fun _ hk => hk.elim) (fun _ _ => trivial) hR.out (Below.refl _ _) (by have := hJi.out.car.lt; omega) (by omega) ?_; intro v1 w3 ho hb3 _ _; have R3 := Aside0.mk ho; have B3 := Aside0.mk hb3; clear ho hb3)
                    go_roundw
                    case rel => exact ⟨i + 1, _, by simp, rfl, by omega, ⟨by have := HW.out; rwa [if_neg (fun h => h.elim (fun h => by rw [HFI.out] at h; cases h) HLE.out)] at this⟩, ⟨⟨(B3.out.block B (by omega)).trans hJi.out.car, hJi.out.bel.trans (B3.out.mono (by have := hJi.out.lb; omega)), hJi.out.lb⟩⟩, R3⟩
                    case measure => simp [intOf]; omega
              · have hil2 : i = l1.length := by omega
                have hci : decide ((i : Int) < (l1.length : Int)) = false := decide_eq_false (by omega)
                have hw := hW.out
                rw [show l1.length - i = 0 by omega, wordW] at hw
                have hr := hR.out
                rw [hil2] at hr
                have HW := Aside0.mk hw
                have HR := Aside0.mk hr
                clear hw hr hW hR
                go_wp2
                go_ret2
                have ev : wrap64 W = wrap64 (wordW a0 (entsL l2 (startL l1)) (entsF l2 (fun _ => false)) l1.length 0 0) := by rw [HL'.out, HF'.out, ← HW.out]
                exact ⟨_, by rw [← ev]; rfl, by rw [HL'.out]; exact Kd.R_lower HR.out (by have := hJi.out.lb; omega), hJi.out.bel⟩
  · rw [if_neg hg] at h; cases h

end Go.Proofs.YtbcmlgbhejcjbaaDoor.S
