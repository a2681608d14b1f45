/- Joined:  -/
import Derived.Test.YtenlokaaloenmaaDoorProg
import Derived.Below
import Derived.Deep.Draws
import Derived.Deep.AppendLies
import Derived.Maps.AppendAt
import Derived.OwnWalk
import Derived.Laws.BytesArg
import Derived.Laws.MakeOwn
import Derived.Laws.OwnMore
import Derived.Deep.OwnRows
import Derived.Tactics
import Derived.Lib.ConvBytes
import Derived.Laws.Slices
import Derived.WalkKit
import Derived.KernelRfl
import Derived.RowKit3
import Derived.Deep.LoopGhost
import Derived.Deep.QuietTactic
import Derived.BigQuiet
import Derived.WideLaws
import Derived.Deep.DeepCutAuto
import Derived.Deep.CutBlock
import Derived.Deep.RegionHeld3
import Derived.Laws.Rows
import Derived.Lib.AppendStr
import Derived.ArgAppend
import Derived.Laws.IdiomCopy
import Derived.OrdersHeld
import Derived.Laws.BitsLemmas
import Derived.RowKit
import Derived.Test.YtenlokaaloenmaaDoorM2
import Derived.Test.YtenlokaaloenmaaDoorWWords
import Derived.Test.YtenlokaaloenmaaDoorWLast
import Derived.Test.YtenlokaaloenmaaDoorM0
import Derived.Test.YtenlokaaloenmaaDoorM1
import Derived.Test.YtenlokaaloenmaaDoorWEqStruct

section
namespace Go.Proofs.YtenlokaaloenmaaDoor.S
open Go.RowKit Go.Proofs.YtenlokaaloenmaaDoorW.PrintWords Go.Proofs.YtenlokaaloenmaaDoorW.PrintLast Go.Proofs.YtenlokaaloenmaaDoorW.PrintMore
attribute [local go_sem] Go.Proofs.YtenlokaaloenmaaDoorW.PrintXtra.isSome_setCell max2_int min2_int max_two min_two max_three min_three max_four min_four   -- for this text's walks alone
set_option linter.unusedVariables false
set_option linter.unusedSimpArgs false



theorem info3 : (Tryd.prog.info? 3).map (fun i => (i.zero, i.size, i.bytes)) = some (some (.int .i64 0), 1, 8) := by kernel_rfl
theorem info41 : (Tryd.prog.info? 41).map (fun i => (i.zero, i.size, i.bytes)) = some (some (.agg #[(.int .i64 0), (.slice none 0 0), (.slice none 0 0), (.int .u64 0), (.int .u64 0), (.int .i64 0)]), 6, 80) := by kernel_rfl
theorem info43 : (Tryd.prog.info? 43).map (fun i => (i.zero, i.size, i.bytes)) = some (some (.agg #[(.int .i64 0), (.int .i64 0), (.bool false)]), 3, 24) := by kernel_rfl
theorem info57 : (Tryd.prog.info? 57).map (fun i => (i.zero, i.size, i.bytes)) = some (some (.agg #[(.int .i64 0), (.int .i64 0)]), 2, 16) := by kernel_rfl
theorem info66 : (Tryd.prog.info? 66).map (fun i => (i.zero, i.size, i.bytes)) = some (some (.agg #[(.int .i64 0), (.int .i64 0)]), 2, 16) := by kernel_rfl
-- the values' own types
/-! #### struct type 66 -/
structure S66 where
  f0 : Int
  f1 : Int
def z66 : S66 := ⟨(0 : Int), (0 : Int)⟩
def k66 : Kd S66 := Kd.iso (Kd.pair (Kd.int .i64) (Kd.int .i64)) (fun x : S66 => (x.f0, x.f1))
theorem k66_open {w : World} {x : S66} {cs : List Value} (h : k66.K w x cs) : cs = [.int .i64 x.f0, .int .i64 x.f1] := by
  obtain ⟨_, _, rfl, rfl, rfl⟩ := h
  exact rfl
theorem k66_mkM (w : World) (base : Nat) (ok : Nat → Prop) (x : S66)  : k66.M w base ok x [.int .i64 x.f0, .int .i64 x.f1] := ⟨[.int .i64 x.f0], [.int .i64 x.f1], rfl, rfl, rfl⟩
def rd_T66 (xs : List S66) (i : Int) : S66 := xs.getD i.toNat z66
theorem at_T66 {w : World} {A : Option Addr} {n : Nat} {xs : List S66} (h : Kd.C k66 w A n xs) (i : Int) (h0 : 0 ≤ i) (h1 : i < n) : ∃ ad , A = some ad ∧ w.cell? (ad.add (i.toNat * 2)) = some (.int .i64 (rd_T66 xs i).f0) ∧ w.cell? ⟨(ad.add (i.toNat * 2)).block, (ad.add (i.toNat * 2)).off + 1, none⟩ = some (.int .i64 (rd_T66 xs i).f1) := by
  obtain ⟨ad, c, e, _, hK, hc0⟩ := Kd.C_get h z66 i h0 h1
  have hc : ∀ j u, c[j]? = some u → w.cell? (ad.add (i.toNat * 2 + j)) = some u := hc0
  obtain rfl := k66_open hK
  exact ⟨ad, e, hc 0 _ rfl, by rw [← add_field _ _ 1 (by omega)]; exact hc 1 _ rfl⟩

/-! #### struct type 43 -/
structure S43 where
  f0 : Int
  f1 : Int
  f2 : Bool
def z43 : S43 := ⟨(0 : Int), (0 : Int), false⟩
def k43 : Kd S43 := Kd.iso (Kd.pair (Kd.int .i64) (Kd.pair (Kd.int .i64) Kd.bool)) (fun x : S43 => (x.f0, x.f1, x.f2))
theorem k43_open {w : World} {x : S43} {cs : List Value} (h : k43.K w x cs) : cs = [.int .i64 x.f0, .int .i64 x.f1, .bool x.f2] := by
  obtain ⟨_, _, rfl, rfl, ⟨_, _, rfl, rfl, rfl⟩⟩ := h
  exact rfl
theorem k43_mkM (w : World) (base : Nat) (ok : Nat → Prop) (x : S43)  : k43.M w base ok x [.int .i64 x.f0, .int .i64 x.f1, .bool x.f2] := ⟨[.int .i64 x.f0], [.int .i64 x.f1, .bool x.f2], rfl, rfl, ⟨[.int .i64 x.f1], [.bool x.f2], rfl, rfl, rfl⟩⟩
def rd_T43 (xs : List S43) (i : Int) : S43 := xs.getD i.toNat z43
theorem at_T43 {w : World} {A : Option Addr} {n : Nat} {xs : List S43} (h : Kd.C k43 w A n xs) (i : Int) (h0 : 0 ≤ i) (h1 : i < n) : ∃ ad , A = some ad ∧ w.cell? (ad.add (i.toNat * 3)) = some (.int .i64 (rd_T43 xs i).f0) ∧ w.cell? ⟨(ad.add (i.toNat * 3)).block, (ad.add (i.toNat * 3)).off + 1, none⟩ = some (.int .i64 (rd_T43 xs i).f1) ∧ w.cell? ⟨(ad.add (i.toNat * 3)).block, (ad.add (i.toNat * 3)).off + 2, none⟩ = some (.bool (rd_T43 xs i).f2) := by
  obtain ⟨ad, c, e, _, hK, hc0⟩ := Kd.C_get h z43 i h0 h1
  have hc : ∀ j u, c[j]? = some u → w.cell? (ad.add (i.toNat * 3 + j)) = some u := hc0
  obtain rfl := k43_open hK
  exact ⟨ad, e, hc 0 _ rfl, by rw [← add_field _ _ 1 (by omega)]; exact hc 1 _ rfl, by rw [← add_field _ _ 2 (by omega)]; exact hc 2 _ rfl⟩

/-! #### struct type 41 -/
structure S41 where
  f0 : Int
  f1 : (List S66)
  f2 : (List S43)
  f3 : Int
  f4 : Int
  f5 : Int
def z41 : S41 := ⟨(0 : Int), ([] : List S66), ([] : List S43), (0 : Int), (0 : Int), (0 : Int)⟩
def k41 : Kd S41 := Kd.iso (Kd.pair (Kd.int .i64) (Kd.pair (Kd.slice 66 k66) (Kd.pair (Kd.slice 43 k43) (Kd.pair (Kd.int .u64) (Kd.pair (Kd.int .u64) (Kd.int .i64)))))) (fun x : S41 => (x.f0, x.f1, x.f2, x.f3, x.f4, x.f5))
theorem k41_open {w : World} {x : S41} {cs : List Value} (h : k41.K w x cs) : ∃ A1 c1 A2 c2, cs = [.int .i64 x.f0, .slice A1 x.f1.length c1, .slice A2 x.f2.length c2, .int .u64 x.f3, .int .u64 x.f4, .int .i64 x.f5] ∧ x.f1.length ≤ c1 ∧ k66.C w A1 x.f1.length x.f1 ∧ x.f2.length ≤ c2 ∧ k43.C w A2 x.f2.length x.f2 := by
  obtain ⟨_, _, rfl, rfl, ⟨_, _, rfl, ⟨A1, c1, rfl, l1, g1⟩, ⟨_, _, rfl, ⟨A2, c2, rfl, l2, g2⟩, ⟨_, _, rfl, rfl, ⟨_, _, rfl, rfl, rfl⟩⟩⟩⟩⟩ := h
  exact ⟨A1, c1, A2, c2, rfl, l1, g1, l2, g2⟩
theorem k41_mk (w : World) (x : S41) {A1 : Option Addr} {c1 : Nat} (l1 : x.f1.length ≤ c1) (g1 : k66.C w A1 x.f1.length x.f1) {A2 : Option Addr} {c2 : Nat} (l2 : x.f2.length ≤ c2) (g2 : k43.C w A2 x.f2.length x.f2) : k41.K w x [.int .i64 x.f0, .slice A1 x.f1.length c1, .slice A2 x.f2.length c2, .int .u64 x.f3, .int .u64 x.f4, .int .i64 x.f5] := ⟨[.int .i64 x.f0], [.slice A1 x.f1.length c1, .slice A2 x.f2.length c2, .int .u64 x.f3, .int .u64 x.f4, .int .i64 x.f5], rfl, rfl, ⟨[.slice A1 x.f1.length c1], [.slice A2 x.f2.length c2, .int .u64 x.f3, .int .u64 x.f4, .int .i64 x.f5], rfl, ⟨A1, c1, rfl, l1, g1⟩, ⟨[.slice A2 x.f2.length c2], [.int .u64 x.f3, .int .u64 x.f4, .int .i64 x.f5], rfl, ⟨A2, c2, rfl, l2, g2⟩, ⟨[.int .u64 x.f3], [.int .u64 x.f4, .int .i64 x.f5], rfl, rfl, ⟨[.int .u64 x.f4], [.int .i64 x.f5], rfl, rfl, rfl⟩⟩⟩⟩⟩
theorem k41_mkM (w : World) (base : Nat) (ok : Nat → Prop) (x : S41) {v1 : Value} (g1 : k66.R 66 w base ok v1 x.f1) {v2 : Value} (g2 : k43.R 43 w base ok v2 x.f2) : k41.M w base ok x [.int .i64 x.f0, v1, v2, .int .u64 x.f3, .int .u64 x.f4, .int .i64 x.f5] := ⟨[.int .i64 x.f0], [v1, v2, .int .u64 x.f3, .int .u64 x.f4, .int .i64 x.f5], rfl, rfl, ⟨[v1], [v2, .int .u64 x.f3, .int .u64 x.f4, .int .i64 x.f5], rfl, ⟨v1, rfl, g1⟩, ⟨[v2], [.int .u64 x.f3, .int .u64 x.f4, .int .i64 x.f5], rfl, ⟨v2, rfl, g2⟩, ⟨[.int .u64 x.f3], [.int .u64 x.f4, .int .i64 x.f5], rfl, rfl, ⟨[.int .u64 x.f4], [.int .i64 x.f5], rfl, rfl, rfl⟩⟩⟩⟩⟩
theorem k41_mkF (W : World) (ok : Nat → Prop) (x : S41) {A1 : Option Addr} {c1 : Nat} (l1 : x.f1.length ≤ c1) (g1 : Kd.F k66 W ok A1 x.f1.length x.f1) {A2 : Option Addr} {c2 : Nat} (l2 : x.f2.length ≤ c2) (g2 : Kd.F k43 W ok A2 x.f2.length x.f2) : Kd.FK k41 W ok x [.int .i64 x.f0, .slice A1 x.f1.length c1, .slice A2 x.f2.length c2, .int .u64 x.f3, .int .u64 x.f4, .int .i64 x.f5] := fun W2 hW => k41_mk W2 x l1 (g1 W2 hW) l2 (g2 W2 hW)
def rd_T41 (xs : List S41) (i : Int) : S41 := xs.getD i.toNat z41
theorem at_T41 {w : World} {A : Option Addr} {n : Nat} {xs : List S41} (h : Kd.C k41 w A n xs) (i : Int) (h0 : 0 ≤ i) (h1 : i < n) : ∃ ad A1 c1 A2 c2, A = some ad ∧ w.cell? (ad.add (i.toNat * 6)) = some (.int .i64 (rd_T41 xs i).f0) ∧ w.cell? ⟨(ad.add (i.toNat * 6)).block, (ad.add (i.toNat * 6)).off + 1, none⟩ = some (.slice A1 (rd_T41 xs i).f1.length c1) ∧ w.cell? ⟨(ad.add (i.toNat * 6)).block, (ad.add (i.toNat * 6)).off + 2, none⟩ = some (.slice A2 (rd_T41 xs i).f2.length c2) ∧ w.cell? ⟨(ad.add (i.toNat * 6)).block, (ad.add (i.toNat * 6)).off + 3, none⟩ = some (.int .u64 (rd_T41 xs i).f3) ∧ w.cell? ⟨(ad.add (i.toNat * 6)).block, (ad.add (i.toNat * 6)).off + 4, none⟩ = some (.int .u64 (rd_T41 xs i).f4) ∧ w.cell? ⟨(ad.add (i.toNat * 6)).block, (ad.add (i.toNat * 6)).off + 5, none⟩ = some (.int .i64 (rd_T41 xs i).f5) ∧ (rd_T41 xs i).f1.length ≤ c1 ∧ k66.C w A1 (rd_T41 xs i).f1.length (rd_T41 xs i).f1 ∧ (rd_T41 xs i).f2.length ≤ c2 ∧ k43.C w A2 (rd_T41 xs i).f2.length (rd_T41 xs i).f2 := by
  obtain ⟨ad, c, e, _, hK, hc0⟩ := Kd.C_get h z41 i h0 h1
  have hc : ∀ j u, c[j]? = some u → w.cell? (ad.add (i.toNat * 6 + j)) = some u := hc0
  obtain ⟨A1, c1, A2, c2, rfl, l1, g1, l2, g2⟩ := k41_open hK
  exact ⟨ad, A1, c1, A2, c2, e, hc 0 _ rfl, by rw [← add_field _ _ 1 (by omega)]; exact hc 1 _ rfl, by rw [← add_field _ _ 2 (by omega)]; exact hc 2 _ rfl, by rw [← add_field _ _ 3 (by omega)]; exact hc 3 _ rfl, by rw [← add_field _ _ 4 (by omega)]; exact hc 4 _ rfl, by rw [← add_field _ _ 5 (by omega)]; exact hc 5 _ rfl, l1, g1, l2, g2⟩

/-! #### struct type 57 -/
structure S57 where
  f0 : Int
  f1 : Int
def z57 : S57 := ⟨(0 : Int), (0 : Int)⟩
def k57 : Kd S57 := Kd.iso (Kd.pair (Kd.int .i64) (Kd.int .i64)) (fun x : S57 => (x.f0, x.f1))
theorem k57_open {w : World} {x : S57} {cs : List Value} (h : k57.K w x cs) : cs = [.int .i64 x.f0, .int .i64 x.f1] := by
  obtain ⟨_, _, rfl, rfl, rfl⟩ := h
  exact rfl
theorem k57_openM {w : World} {base : Nat} {ok : Nat → Prop} {x : S57} {cs : List Value} (h : k57.M w base ok x cs) : cs = [.int .i64 x.f0, .int .i64 x.f1] := by
  obtain ⟨_, _, rfl, rfl, rfl⟩ := h
  exact rfl
theorem k57_mkM (w : World) (base : Nat) (ok : Nat → Prop) (x : S57)  : k57.M w base ok x [.int .i64 x.f0, .int .i64 x.f1] := ⟨[.int .i64 x.f0], [.int .i64 x.f1], rfl, rfl, rfl⟩
def rd_T57 (xs : List S57) (i : Int) : S57 := xs.getD i.toNat z57
theorem at_T57 {w : World} {A : Option Addr} {n : Nat} {xs : List S57} (h : Kd.C k57 w A n xs) (i : Int) (h0 : 0 ≤ i) (h1 : i < n) : ∃ ad , A = some ad ∧ w.cell? (ad.add (i.toNat * 2)) = some (.int .i64 (rd_T57 xs i).f0) ∧ w.cell? ⟨(ad.add (i.toNat * 2)).block, (ad.add (i.toNat * 2)).off + 1, none⟩ = some (.int .i64 (rd_T57 xs i).f1) := by
  obtain ⟨ad, c, e, _, hK, hc0⟩ := Kd.C_get h z57 i h0 h1
  have hc : ∀ j u, c[j]? = some u → w.cell? (ad.add (i.toNat * 2 + j)) = some u := hc0
  obtain rfl := k57_open hK
  exact ⟨ad, e, hc 0 _ rfl, by rw [← add_field _ _ 1 (by omega)]; exact hc 1 _ rfl⟩

abbrev X : Bool := true
abbrev Z : Bool := false
theorem sA {α : Type} (l : List α) (i : Nat) (a : α) : l.toArray.setIfInBounds i a = (l.set i a).toArray := List.setIfInBounds_toArray l i a
theorem sB {α : Type} (x a : α) (l : List α) : (x :: l).set 0 a = a :: l := List.set_cons_zero
theorem sC {α : Type} (x a : α) (n : Nat) (l : List α) : (x :: l).set (n + 1) a = x :: l.set n a := List.set_cons_succ
end Go.Proofs.YtenlokaaloenmaaDoor.S
end

section
namespace Go.Proofs.YtenlokaaloenmaaDoor.S
open Go.RowKit Go.Proofs.YtenlokaaloenmaaDoorW.PrintWords Go.Proofs.YtenlokaaloenmaaDoorW.PrintLast Go.Proofs.YtenlokaaloenmaaDoorW.PrintMore
attribute [local go_sem] Go.Proofs.YtenlokaaloenmaaDoorW.PrintXtra.isSome_setCell max2_int min2_int max_two min_two max_three min_three max_four min_four   -- for this text's walks alone
set_option linter.unusedVariables false
set_option linter.unusedSimpArgs false

theorem eqA57 (d : Nat) (w : World) (x0 y0 : Int) (x1 y1 : Int) :
    (Op.equalIn (d + 2) 57 (.agg #[.int .i64 x0, .int .i64 x1]) (.agg #[.int .i64 y0, .int .i64 y1])).run Tryd.prog w = .ok (x0 == y0 && (x1 == y1)) w := by
  refine eqA_of Tryd.underlying57 (by kernel_rfl) ?_
  refine eqf_cons (by rfl) (by go_simp; rfl) (by go_simp; rfl) (by go_simp) ?_
  exact eqf_last (by rfl) (by go_simp; rfl) (by go_simp; rfl) (by go_simp)
end Go.Proofs.YtenlokaaloenmaaDoor.S
end

section
namespace Go.Proofs.YtenlokaaloenmaaDoor.S
open Go.RowKit Go.Proofs.YtenlokaaloenmaaDoorW.PrintWords Go.Proofs.YtenlokaaloenmaaDoorW.PrintLast Go.Proofs.YtenlokaaloenmaaDoorW.PrintMore
attribute [local go_sem] Go.Proofs.YtenlokaaloenmaaDoorW.PrintXtra.isSome_setCell max2_int min2_int max_two min_two max_three min_three max_four min_four   -- for this text's walks alone
set_option linter.unusedVariables false
set_option linter.unusedSimpArgs false

/-! ### tipstafflaw43_light: function 14 -/
mutual
def tipstafflaw43_light.j0 : Nat → List (S41) → Bool → Option (Bool)
  | 0, _, _ => none
  | k + 1, x0, x16 => if x16 = true then (some false) else (tipstafflaw43_light.l0 k x0 0)
def tipstafflaw43_light.l0 : Nat → List (S41) → Int → Option (Bool)
  | 0, _, _ => none
  | k + 1, x0, x3 => if x3 < (x0.length : Int) then (if 0 ≤ x3 then (if (((rd_T41 x0 x3).f1).length : Int) > 12 then (some false) else (if (((rd_T41 x0 x3).f2).length : Int) > 12 then (some false) else (tipstafflaw43_light.l0 k x0 (wrap64 (x3 + 1))))) else (none)) else (some true)
end
def tipstafflaw43_light.f (k : Nat) (l0 : List (S41)) : Option (Bool) := if (l0.length : Int) > 60 then (if (l0.length : Int) ≤ 20000 then (tipstafflaw43_light.j0 k l0 true) else (tipstafflaw43_light.j0 k l0 (decide ((l0.length : Int) > 20010)))) else (tipstafflaw43_light.j0 k l0 (decide ((l0.length : Int) > 20010)))
set_option maxHeartbeats 8000000 in
set_option maxRecDepth 100000 in
theorem tipstafflaw43_light.calls (k : Nat) (A0 : Option Addr) (c0 : Nat) (l0 : List (S41)) (r : Bool) (w : World) (hr0 : Kd.C k41 w A0 l0.length l0) (hc0 : l0.length ≤ c0) (h : tipstafflaw43_light.f k l0 = some r) :
    Calls Tryd.prog 14 #[.slice A0 l0.length c0] w fun e w' => e = .returned (.bool r) ∧ Drawn0 w w' := by
  have HR0 := Aside0.mk hr0; have HC0 := Aside0.mk hc0; clear hr0 hc0; have H : (if (l0.length : Int) > 60 then (if (l0.length : Int) ≤ 20000 then (tipstafflaw43_light.j0 k l0 true) else (tipstafflaw43_light.j0 k l0 (decide ((l0.length : Int) > 20010)))) else (tipstafflaw43_light.j0 k l0 (decide ((l0.length : Int) > 20010)))) = some r := h; clear h; have HC2 := Aside0.mk H; clear H; go_enter Tryd.func14, Tryd.ntmps14
  go_upto_region 1 with (fail)
  go_cut [16] (fun v16 wc => ∃ (kq : Nat) (x16_1 : Bool), v16 = .bool x16_1 ∧ Aside0 (tipstafflaw43_light.j0 kq l0 x16_1 = some r) ∧ Aside0 (kq ≤ k) ∧ Drawn0 w wc)
  case first =>
    have H := HC2.out; clear HC2; by_cases c3 : (l0.length : Int) > 60
    · rw [if_pos c3] at H; have c3b0 : decide (60 < (l0.length : Int)) = true := decide_eq_true c3; have c3b1 : decide (60 < l0.length) = true := decide_eq_true (by omega); clear c3; (skip)
      by_cases c4 : (l0.length : Int) ≤ 20000
      · rw [if_pos c4] at H; have c4b0 : decide ((l0.length : Int) ≤ 20000) = true := decide_eq_true c4; have c4b1 : decide (l0.length ≤ 20000) = true := decide_eq_true (by omega); clear c4; have H' := Aside0.mk H; clear H; go_wp2; go_meet
        case rel => exact ⟨_, (true), (by rfl), H', ⟨by omega⟩, by repeat (exact Drawn0.refl _)⟩
      rw [if_neg c4] at H; have c4b0 : decide ((l0.length : Int) ≤ 20000) = false := decide_eq_false c4; have c4b1 : decide (l0.length ≤ 20000) = false := decide_eq_false (by omega); clear c4; have H' := Aside0.mk H; clear H; go_wp2; go_meet
      case rel => exact ⟨_, (decide ((l0.length : Int) > 20010)), (by rfl), H', ⟨by omega⟩, by repeat (exact Drawn0.refl _)⟩
    rw [if_neg c3] at H; have c3b0 : decide (60 < (l0.length : Int)) = false := decide_eq_false c3; have c3b1 : decide (60 < l0.length) = false := decide_eq_false (by omega); clear c3; (skip)
    have H' := Aside0.mk H; clear H; go_wp2; go_meet
    case rel => exact ⟨_, (decide ((l0.length : Int) > 20010)), (by rfl), H', ⟨by omega⟩, by repeat (exact Drawn0.refl _)⟩
  clear HC2; try clear c1
  try clear p2
  try clear c3
  try clear c3b0
  try clear c3b1
  try clear c4
  try clear c4b0
  try clear c4b1
  obtain ⟨kq, x16_1, rfl, HA, HJ1, ⟨mc1, rfl⟩⟩ := hcut; cases kq with
  | zero => exact absurd HA.out (by simp [tipstafflaw43_light.j0])
  | succ kj1 =>
    have H := HA.out; clear HA; simp only [tipstafflaw43_light.j0] at H; by_cases c5 : x16_1 = true
    · subst c5; have H1 : (some false) = some r := by rw [if_pos rfl] at H; exact H
      clear H; have H := H1; clear H1; obtain rfl := Option.some.inj H; go_wp2; go_ret; exact ⟨by rfl, by repeat (first | exact Drawn0.refl _ | apply Drawn0.step)⟩
    replace c5 := Bool.eq_false_iff.mpr c5; subst c5; have H1 : (tipstafflaw43_light.l0 kj1 l0 0) = some r := by rw [if_neg (show ¬ (false = true) by decide)] at H; exact H
    clear H; have H := H1; clear H1; have H' := Aside0.mk H; clear H; go_wp2; go_loopg [3] kj1 (fun kq v3 w' => ∃ (x3_2 : Int), v3 = .int .i64 x3_2 ∧ Aside0 (tipstafflaw43_light.l0 kq l0 x3_2 = some r) ∧ Aside0 (kq ≤ kj1) ∧ Drawn0 w w')
    case atStart => exact ⟨(0), (by rfl), H', ⟨Nat.le_refl _⟩, by repeat (first | exact Drawn0.refl _ | apply Drawn0.step)⟩
    clear H'; try clear c1
    try clear p2
    try clear c3
    try clear c3b0
    try clear c3b1
    try clear c4
    try clear c4b0
    try clear c4b1
    try clear c5
    try clear p2
    obtain ⟨x3_2, rfl, HA, HK2, ⟨m2, rfl⟩⟩ := hrel; cases gk with
    | zero => exact absurd HA.out (by simp [tipstafflaw43_light.l0])
    | succ k2 =>
      have H := HA.out; clear HA; simp only [tipstafflaw43_light.l0] at H; by_cases c6 : x3_2 < (l0.length : Int)
      · rw [if_pos c6] at H; have c6b0 : decide (x3_2 < (l0.length : Int)) = true := decide_eq_true c6; clear c6; by_cases c7 : 0 ≤ x3_2
        · rw [if_pos c7] at H; have c7b0 : decide (0 ≤ x3_2) = true := decide_eq_true c7; clear c7; by_cases c8 : (((rd_T41 l0 x3_2).f1).length : Int) > 12
          · rw [if_pos c8] at H; have c8b0 : decide (12 < (((rd_T41 l0 x3_2).f1).length : Int)) = true := decide_eq_true c8; have c8b1 : decide (12 < ((rd_T41 l0 x3_2).f1).length) = true := decide_eq_true (by omega); clear c8; obtain rfl := Option.some.inj H; have p189 : 0 ≤ (x3_2 : Int) := of_decide_eq_true (by (with_reducible assumption)); have q189 : x3_2 < (l0.length : Int) := of_decide_eq_true (by (with_reducible assumption)); obtain ⟨ad189, A189_1, c189_1, A189_2, c189_2, e189, hx189_0, hx189_1, hx189_2, hx189_3, hx189_4, hx189_5, hl189_1, hi189_1, hl189_2, hi189_2⟩ := at_T41 HR0.out x3_2 p189 q189; cases e189; have HR189_1 := Aside0.mk hi189_1; have HC189_1 := Aside0.mk hl189_1; clear hi189_1 hl189_1; have HR189_2 := Aside0.mk hi189_2; have HC189_2 := Aside0.mk hl189_2; clear hi189_2 hl189_2; replace p189 := eq_true p189; replace q189 := eq_true q189; go_wp2; go_ret; exact ⟨by rfl, by repeat (first | exact Drawn0.refl _ | apply Drawn0.step)⟩
          rw [if_neg c8] at H; have c8b0 : decide (12 < (((rd_T41 l0 x3_2).f1).length : Int)) = false := decide_eq_false c8; have c8b1 : decide (12 < ((rd_T41 l0 x3_2).f1).length) = false := decide_eq_false (by omega); clear c8; by_cases c9 : (((rd_T41 l0 x3_2).f2).length : Int) > 12
          · rw [if_pos c9] at H; have c9b0 : decide (12 < (((rd_T41 l0 x3_2).f2).length : Int)) = true := decide_eq_true c9; have c9b1 : decide (12 < ((rd_T41 l0 x3_2).f2).length) = true := decide_eq_true (by omega); clear c9; obtain rfl := Option.some.inj H; have p189 : 0 ≤ (x3_2 : Int) := of_decide_eq_true (by (with_reducible assumption)); have q189 : x3_2 < (l0.length : Int) := of_decide_eq_true (by (with_reducible assumption)); obtain ⟨ad189, A189_1, c189_1, A189_2, c189_2, e189, hx189_0, hx189_1, hx189_2, hx189_3, hx189_4, hx189_5, hl189_1, hi189_1, hl189_2, hi189_2⟩ := at_T41 HR0.out x3_2 p189 q189; cases e189; have HR189_1 := Aside0.mk hi189_1; have HC189_1 := Aside0.mk hl189_1; clear hi189_1 hl189_1; have HR189_2 := Aside0.mk hi189_2; have HC189_2 := Aside0.mk hl189_2; clear hi189_2 hl189_2; replace p189 := eq_true p189; replace q189 := eq_true q189; have p190 : 0 ≤ (x3_2 : Int) := of_decide_eq_true (by (with_reducible assumption)); have q190 : x3_2 < (l0.length : Int) := of_decide_eq_true (by (with_reducible assumption)); obtain ⟨ad190, A190_1, c190_1, A190_2, c190_2, e190, hx190_0, hx190_1, hx190_2, hx190_3, hx190_4, hx190_5, hl190_1, hi190_1, hl190_2, hi190_2⟩ := at_T41 HR0.out x3_2 p190 q190; obtain rfl : ad189 = ad190 := (by injection e190); have HR190_1 := Aside0.mk hi190_1; have HC190_1 := Aside0.mk hl190_1; clear hi190_1 hl190_1; have HR190_2 := Aside0.mk hi190_2; have HC190_2 := Aside0.mk hl190_2; clear hi190_2 hl190_2; replace p190 := eq_true p190; replace q190 := eq_true q190; have ea_ := Option.some.inj (hx189_1.symm.trans hx190_1); injection ea_ with ea_ en_ ec_; subst ea_; subst ec_; clear en_; have ea_ := Option.some.inj (hx189_2.symm.trans hx190_2); injection ea_ with ea_ en_ ec_; subst ea_; subst ec_; clear en_; go_wp2; go_ret; exact ⟨by rfl, by repeat (first | exact Drawn0.refl _ | apply Drawn0.step)⟩
          rw [if_neg c9] at H; have c9b0 : decide (12 < (((rd_T41 l0 x3_2).f2).length : Int)) = false := decide_eq_false c9; have c9b1 : decide (12 < ((rd_T41 l0 x3_2).f2).length) = false := decide_eq_false (by omega); clear c9; have H' := Aside0.mk H; clear H; have p189 : 0 ≤ (x3_2 : Int) := of_decide_eq_true (by (with_reducible assumption)); have q189 : x3_2 < (l0.length : Int) := of_decide_eq_true (by (with_reducible assumption)); obtain ⟨ad189, A189_1, c189_1, A189_2, c189_2, e189, hx189_0, hx189_1, hx189_2, hx189_3, hx189_4, hx189_5, hl189_1, hi189_1, hl189_2, hi189_2⟩ := at_T41 HR0.out x3_2 p189 q189; cases e189; have HR189_1 := Aside0.mk hi189_1; have HC189_1 := Aside0.mk hl189_1; clear hi189_1 hl189_1; have HR189_2 := Aside0.mk hi189_2; have HC189_2 := Aside0.mk hl189_2; clear hi189_2 hl189_2; replace p189 := eq_true p189; replace q189 := eq_true q189; have p190 : 0 ≤ (x3_2 : Int) := of_decide_eq_true (by (with_reducible assumption)); have q190 : x3_2 < (l0.length : Int) := of_decide_eq_true (by (with_reducible assumption)); obtain ⟨ad190, A190_1, c190_1, A190_2, c190_2, e190, hx190_0, hx190_1, hx190_2, hx190_3, hx190_4, hx190_5, hl190_1, hi190_1, hl190_2, hi190_2⟩ := at_T41 HR0.out x3_2 p190 q190; obtain rfl : ad189 = ad190 := (by injection e190); have HR190_1 := Aside0.mk hi190_1; have HC190_1 := Aside0.mk hl190_1; clear hi190_1 hl190_1; have HR190_2 := Aside0.mk hi190_2; have HC190_2 := Aside0.mk hl190_2; clear hi190_2 hl190_2; replace p190 := eq_true p190; replace q190 := eq_true q190; have ea_ := Option.some.inj (hx189_1.symm.trans hx190_1); injection ea_ with ea_ en_ ec_; subst ea_; subst ec_; clear en_; have ea_ := Option.some.inj (hx189_2.symm.trans hx190_2); injection ea_ with ea_ en_ ec_; subst ea_; subst ec_; clear en_; go_wp2; go_roundg k2
          case measure => have := HJ1.out; have := HK2.out; omega
          case rel => exact ⟨(wrap64 (x3_2 + 1)), (by rfl), H', ⟨by have := HJ1.out; have := HK2.out; omega⟩, by repeat (first | exact Drawn0.refl _ | apply Drawn0.step)⟩
        rw [if_neg c7] at H; exact absurd H (by simp)
      rw [if_neg c6] at H; have c6b0 : decide (x3_2 < (l0.length : Int)) = false := decide_eq_false c6; clear c6; obtain rfl := Option.some.inj H; go_wp2; go_ret; exact ⟨by rfl, by repeat (first | exact Drawn0.refl _ | apply Drawn0.step)⟩

/-! ### tipstaffref43_in: function 42 -/
def tipstaffref43_in.f (a0 : Int) (a1 : Int) (a2 : Int) : Option (Bool) := if a0 ≥ a1 then (some (decide (a0 ≤ a2))) else (some false)
set_option maxHeartbeats 8000000 in
set_option maxRecDepth 100000 in
theorem tipstaffref43_in.calls (a0 : Int) (a1 : Int) (a2 : Int) (r : Bool) (w : World) (h : tipstaffref43_in.f a0 a1 a2 = some r) :
    Calls Tryd.prog 42 #[.int .i64 a0, .int .i64 a1, .int .i64 a2] w fun e w' => e = .returned (.bool r) ∧ Drawn0 w w' := by
  have H : (if a0 ≥ a1 then (some (decide (a0 ≤ a2))) else (some false)) = some r := h; clear h; by_cases c4 : a0 ≥ a1
  · rw [if_pos c4] at H; have c4b0 : decide (a1 ≤ a0) = true := decide_eq_true c4; clear c4; obtain rfl := Option.some.inj H; go_enter Tryd.func42, Tryd.ntmps42
    go_wp2; go_ret; exact ⟨by rfl, by repeat (exact Drawn0.refl _)⟩
  rw [if_neg c4] at H; have c4b0 : decide (a1 ≤ a0) = false := decide_eq_false c4; clear c4; obtain rfl := Option.some.inj H; go_enter Tryd.func42, Tryd.ntmps42
  go_wp2; go_ret; exact ⟨by rfl, by repeat (exact Drawn0.refl _)⟩

end Go.Proofs.YtenlokaaloenmaaDoor.S
end

section
namespace Go.Proofs.YtenlokaaloenmaaDoor.S
open Go.RowKit Go.Proofs.YtenlokaaloenmaaDoorW.PrintWords Go.Proofs.YtenlokaaloenmaaDoorW.PrintLast Go.Proofs.YtenlokaaloenmaaDoorW.PrintMore
attribute [local go_sem] Go.Proofs.YtenlokaaloenmaaDoorW.PrintXtra.isSome_setCell max2_int min2_int max_two min_two max_three min_three max_four min_four   -- for this text's walks alone
set_option linter.unusedVariables false
set_option linter.unusedSimpArgs false

/-! ### tipstaffref43_one: function 43 -/
mutual
def tipstaffref43_one.j0 : Nat → Int → Bool → Int → List (S66) → List (S43) → Int → Int → Int → Option (Int)
 | 0, _, _, _, _, _, _, _, _ => none
 | k + 1, x1, x15, x192000, x192001, x192002, x192003, x192004, x192005 => if x15 = true then (some 3) else (tipstaffref43_one.l0 k x1 0 x192000 x192001 x192002 x192003 x192004 x192005)
def tipstaffref43_one.l0 : Nat → Int → Int → Int → List (S66) → List (S43) → Int → Int → Int → Option (Int)
 | 0, _, _, _, _, _, _, _, _ => none
 | k + 1, x1, x5, x192000, x192001, x192002, x192003, x192004, x192005 => if x5 < (x192001.length : Int) then (if 0 ≤ x5 then ((tipstaffref43_in.f ((rd_T66 x192001 x5).f0) 0 23).bind fun t193 => (if t193 = true then ((tipstaffref43_in.f ((rd_T66 x192001 x5).f1) 1 6).bind fun t195 => (if t195 = true then (tipstaffref43_one.l0 k x1 (wrap64 (x5 + 1)) x192000 x192001 x192002 x192003 x192004 x192005) else (some 11))) else (some 2))) else (none)) else (tipstaffref43_one.l1 k x1 0 x192000 x192001 x192002 x192003 x192004 x192005)
def tipstaffref43_one.l1 : Nat → Int → Int → Int → List (S66) → List (S43) → Int → Int → Int → Option (Int)
 | 0, _, _, _, _, _, _, _, _ => none
 | k + 1, x1, x6, x192000, x192001, x192002, x192003, x192004, x192005 => if x6 < x1 then (if 0 ≤ x6 then (if x6 < (x192002.length : Int) then ((tipstaffref43_in.f ((rd_T43 x192002 x6).f0) (-1) 63).bind fun t198 => (if t198 = true then ((tipstaffref43_in.f ((rd_T43 x192002 x6).f1) 0 20).bind fun t200 => (if t200 = true then (tipstaffref43_one.l1 k x1 (wrap64 (x6 + 1)) x192000 x192001 x192002 x192003 x192004 x192005) else (some 2))) else (some 2))) else (none)) else (none)) else ((tipstaffref43_in.f x192005 (-1) 255).bind fun t196 => (if t196 = true then (some 0) else (some 2)))
end
def tipstaffref43_one.f (k : Nat) (a0_0 : Int) (l0_1 : List (S66)) (l0_2 : List (S43)) (a0_3 : Int) (a0_4 : Int) (a0_5 : Int) (a1 : Int) : Option (Int) := if (l0_2.length : Int) = a1 then (tipstaffref43_one.j0 k a1 (decide (a1 > 8)) a0_0 l0_1 l0_2 a0_3 a0_4 a0_5) else (tipstaffref43_one.j0 k a1 true a0_0 l0_1 l0_2 a0_3 a0_4 a0_5)
set_option maxHeartbeats 8000000 in
set_option maxRecDepth 100000 in
theorem tipstaffref43_one.calls (k : Nat) (a0_0 : Int) (A0_1 : Option Addr) (c0_1 : Nat) (l0_1 : List (S66)) (A0_2 : Option Addr) (c0_2 : Nat) (l0_2 : List (S43)) (a0_3 : Int) (a0_4 : Int) (a0_5 : Int) (a1 : Int) (r : Int) (w : World) (hr0_1 : Kd.C k66 w A0_1 l0_1.length l0_1) (hc0_1 : l0_1.length ≤ c0_1) (hr0_2 : Kd.C k43 w A0_2 l0_2.length l0_2) (hc0_2 : l0_2.length ≤ c0_2) (h : tipstaffref43_one.f k a0_0 l0_1 l0_2 a0_3 a0_4 a0_5 a1 = some r) :
  Calls Tryd.prog 43 #[.agg #[.int .i64 a0_0, .slice A0_1 l0_1.length c0_1, .slice A0_2 l0_2.length c0_2, .int .u64 a0_3, .int .u64 a0_4, .int .i64 a0_5], .int .i64 a1] w fun e w' => e = .returned (.int .i64 r) ∧ Below w.heap.size w w' := by
 have hu41 := Tryd.underlying41; have HR0_1 := Aside0.mk hr0_1; have HC0_1 := Aside0.mk hc0_1; clear hr0_1 hc0_1; have HR0_2 := Aside0.mk hr0_2; have HC0_2 := Aside0.mk hc0_2; clear hr0_2 hc0_2; have HB := Aside0.mk (Below.refl w.heap.size w); have H : (if (l0_2.length : Int) = a1 then (tipstaffref43_one.j0 k a1 (decide (a1 > 8)) a0_0 l0_1 l0_2 a0_3 a0_4 a0_5) else (tipstaffref43_one.j0 k a1 true a0_0 l0_1 l0_2 a0_3 a0_4 a0_5)) = some r := h; clear h; have HC3 := Aside0.mk H; clear H; go_enter Tryd.func43, Tryd.ntmps43
 go_upto_region 1 with (first | ((with_reducible refine gate_dst (N := 2) rfl ?_); refine box_event ?hg (N := 2) ?hd (cs := #[.int .i64 a0_0, .slice A0_1 l0_1.length c0_1, .slice A0_2 l0_2.length c0_2, .int .u64 a0_3, .int .u64 a0_4, .int .i64 a0_5]) (t := 41) ?hr ?_; (case hd => rfl); (case hg => rfl); (case hr => (go_simp; done)); intro gb191 hg w4 hbox hb; have n0_ := Aside0.mk (below_step HB.out hb); have n1_ := Aside0.mk (hbox); have n2_ := Aside0.mk ((by rw [hg]; exact (below_size HB.out) : w.heap.size ≤ gb191)); have n3_ := Aside0.mk ((by rw [hg]; exact (below_size HB.out) : w.heap.size ≤ gb191)); clear HB; have HB := n0_; have BK191 := n1_; have GW191 := n2_; have GE191 := n3_; clear n0_ n1_ n2_ n3_; clear hb hbox hg))
 (try simp only [Act.put, List.setIfInBounds_toArray, List.set_cons_zero, List.set_cons_succ])
 go_cut [15] (fun v15 wc => ∃ (kq : Nat) (x15_2 : Bool), v15 = .bool x15_2 ∧ Aside0 (tipstaffref43_one.j0 kq a1 x15_2 a0_0 l0_1 l0_2 a0_3 a0_4 a0_5 = some r) ∧ Aside0 (kq ≤ k) ∧ Aside0 (wc.heap[gb191]? = some (.cells #[.int .i64 a0_0, (.slice A0_1 l0_1.length c0_1), (.slice A0_2 l0_2.length c0_2), .int .u64 a0_3, .int .u64 a0_4, .int .i64 a0_5] 41 (0, 0))) ∧ Aside0 (Below w.heap.size w wc))
 case first =>
  have H := HC3.out; clear HC3; by_cases c5 : (l0_2.length : Int) = a1
  ·rw [if_pos c5] at H; have c5b0 : ((l0_2.length : Int) == a1) = true := beq_iff_eq.mpr c5; have c5b1 : ((l0_2.length : Int) != a1) = false := bne_eq_false_iff_eq.mpr c5; clear c5; (skip)
   have H' := Aside0.mk H; clear H; have hcz6_0 : w4.cell? ⟨gb191, 0, none⟩ = some (.int .i64 a0_0) := (blk_cell BK191.out 0).trans rfl; have hcz6_1 : w4.cell? ⟨gb191, 1, none⟩ = some (.slice A0_1 l0_1.length c0_1) := (blk_cell BK191.out 1).trans rfl; have hcz6_2 : w4.cell? ⟨gb191, 2, none⟩ = some (.slice A0_2 l0_2.length c0_2) := (blk_cell BK191.out 2).trans rfl; have hcz6_3 : w4.cell? ⟨gb191, 3, none⟩ = some (.int .u64 a0_3) := (blk_cell BK191.out 3).trans rfl; have hcz6_4 : w4.cell? ⟨gb191, 4, none⟩ = some (.int .u64 a0_4) := (blk_cell BK191.out 4).trans rfl; have hcz6_5 : w4.cell? ⟨gb191, 5, none⟩ = some (.int .i64 a0_5) := (blk_cell BK191.out 5).trans rfl; have hfz6_0 := blk_frozen BK191.out 0; have hfz6_1 := blk_frozen BK191.out 1; have hfz6_2 := blk_frozen BK191.out 2; have hfz6_3 := blk_frozen BK191.out 3; have hfz6_4 := blk_frozen BK191.out 4; have hfz6_5 := blk_frozen BK191.out 5; go_wp2; go_meet
   case rel => exact ⟨_, (decide (a1 > 8)), (by rfl), H', ⟨by omega⟩, ⟨by exact BK191.out⟩, ⟨by repeat (with_reducible exact HB.out)⟩⟩
  rw [if_neg c5] at H; have c5b0 : ((l0_2.length : Int) == a1) = false := beq_eq_false_iff_ne.mpr c5; have c5b1 : ((l0_2.length : Int) != a1) = true := bne_iff_ne.mpr c5; (skip)
  have H' := Aside0.mk H; clear H; have hcz7_0 : w4.cell? ⟨gb191, 0, none⟩ = some (.int .i64 a0_0) := (blk_cell BK191.out 0).trans rfl; have hcz7_1 : w4.cell? ⟨gb191, 1, none⟩ = some (.slice A0_1 l0_1.length c0_1) := (blk_cell BK191.out 1).trans rfl; have hcz7_2 : w4.cell? ⟨gb191, 2, none⟩ = some (.slice A0_2 l0_2.length c0_2) := (blk_cell BK191.out 2).trans rfl; have hcz7_3 : w4.cell? ⟨gb191, 3, none⟩ = some (.int .u64 a0_3) := (blk_cell BK191.out 3).trans rfl; have hcz7_4 : w4.cell? ⟨gb191, 4, none⟩ = some (.int .u64 a0_4) := (blk_cell BK191.out 4).trans rfl; have hcz7_5 : w4.cell? ⟨gb191, 5, none⟩ = some (.int .i64 a0_5) := (blk_cell BK191.out 5).trans rfl; have hfz7_0 := blk_frozen BK191.out 0; have hfz7_1 := blk_frozen BK191.out 1; have hfz7_2 := blk_frozen BK191.out 2; have hfz7_3 := blk_frozen BK191.out 3; have hfz7_4 := blk_frozen BK191.out 4; have hfz7_5 := blk_frozen BK191.out 5; go_wp2; go_meet
  case rel => exact ⟨_, (true), (by rfl), H', ⟨by omega⟩, ⟨by exact BK191.out⟩, ⟨by repeat (with_reducible exact HB.out)⟩⟩
 clear HC3; try clear p2
 try clear c4
 try clear c5
 try clear c5b0
 try clear c5b1
 try clear hcz6_0
 try clear hcz6_1
 try clear hcz6_2
 try clear hcz6_3
 try clear hcz6_4
 try clear hcz6_5
 try clear hcz7_0
 try clear hcz7_1
 try clear hcz7_2
 try clear hcz7_3
 try clear hcz7_4
 try clear hcz7_5
 try clear hfz6_0
 try clear hfz6_1
 try clear hfz6_2
 try clear hfz6_3
 try clear hfz6_4
 try clear hfz6_5
 try clear hfz7_0
 try clear hfz7_1
 try clear hfz7_2
 try clear hfz7_3
 try clear hfz7_4
 try clear hfz7_5
 obtain ⟨kq, x15_2, rfl, HA, HJ2, BK191, HB⟩ := hcut; cases kq with
 | zero => exact absurd HA.out (by simp [tipstaffref43_one.j0])
 | succ kj2 =>
  have H := HA.out; clear HA; simp only [tipstaffref43_one.j0] at H; by_cases c8 : x15_2 = true
  ·subst c8; have H1 : (some 3) = some r := by rw [if_pos rfl] at H; exact H
   clear H; have H := H1; clear H1; obtain rfl := Option.some.inj H; go_wp2; go_ret; exact ⟨by rfl, by repeat (with_reducible exact HB.out)⟩
  replace c8 := Bool.eq_false_iff.mpr c8; subst c8; have H1 : (tipstaffref43_one.l0 kj2 a1 0 a0_0 l0_1 l0_2 a0_3 a0_4 a0_5) = some r := by rw [if_neg (show ¬ (false = true) by decide)] at H; exact H
  clear H; have H := H1; clear H1; have H' := Aside0.mk H; clear H; go_wp2; go_loopg [5] kj2 (fun kq v5 w' => ∃ (x5_2 : Int), v5 = .int .i64 x5_2 ∧ Aside0 (tipstaffref43_one.l0 kq a1 x5_2 a0_0 l0_1 l0_2 a0_3 a0_4 a0_5 = some r) ∧ Aside0 (kq ≤ kj2) ∧ Aside0 (w'.heap[gb191]? = some (.cells #[.int .i64 a0_0, (.slice A0_1 l0_1.length c0_1), (.slice A0_2 l0_2.length c0_2), .int .u64 a0_3, .int .u64 a0_4, .int .i64 a0_5] 41 (0, 0))) ∧ Aside0 (Below w.heap.size w w'))
  case atStart => exact ⟨(0), (by rfl), H', ⟨Nat.le_refl _⟩, ⟨by exact BK191.out⟩, ⟨by repeat (with_reducible exact HB.out)⟩⟩
  clear H'; try clear p2
  try clear c4
  try clear c5
  try clear c5b0
  try clear c5b1
  try clear c8
  try clear hcz6_0
  try clear hcz6_1
  try clear hcz6_2
  try clear hcz6_3
  try clear hcz6_4
  try clear hcz6_5
  try clear hcz7_0
  try clear hcz7_1
  try clear hcz7_2
  try clear hcz7_3
  try clear hcz7_4
  try clear hcz7_5
  try clear hfz6_0
  try clear hfz6_1
  try clear hfz6_2
  try clear hfz6_3
  try clear hfz6_4
  try clear hfz6_5
  try clear hfz7_0
  try clear hfz7_1
  try clear hfz7_2
  try clear hfz7_3
  try clear hfz7_4
  try clear hfz7_5
  try clear p2
  obtain ⟨x5_2, rfl, HA, HK2, BK191, HB⟩ := hrel; cases gk with
  | zero => exact absurd HA.out (by simp [tipstaffref43_one.l0])
  | succ k2 =>
   have H := HA.out; clear HA; simp only [tipstaffref43_one.l0] at H; by_cases c9 : x5_2 < (l0_1.length : Int)
   ·rw [if_pos c9] at H; have c9b0 : decide (x5_2 < (l0_1.length : Int)) = true := decide_eq_true c9; clear c9; by_cases c10 : 0 ≤ x5_2
    ·rw [if_pos c10] at H; have c10b0 : decide (0 ≤ x5_2) = true := decide_eq_true c10; clear c10; replace H := Option.bind_eq_some_iff.mp H; obtain ⟨t193, A110, H⟩ := H; replace H : (if t193 = true then ((tipstaffref43_in.f ((rd_T66 l0_1 x5_2).f1) 1 6).bind fun t195 => (if t195 = true then (tipstaffref43_one.l0 k2 a1 (wrap64 (x5_2 + 1)) a0_0 l0_1 l0_2 a0_3 a0_4 a0_5) else (some 11))) else (some 2)) = some r := H; have A11 := Aside0.mk A110; clear A110; by_cases c12 : t193 = true
     ·subst c12; have H1 : ((tipstaffref43_in.f ((rd_T66 l0_1 x5_2).f1) 1 6).bind fun t195 => (if t195 = true then (tipstaffref43_one.l0 k2 a1 (wrap64 (x5_2 + 1)) a0_0 l0_1 l0_2 a0_3 a0_4 a0_5) else (some 11))) = some r := by rw [if_pos rfl] at H; exact H
      clear H; have H := H1; clear H1; replace H := Option.bind_eq_some_iff.mp H; obtain ⟨t195, A130, H⟩ := H; replace H : (if t195 = true then (tipstaffref43_one.l0 k2 a1 (wrap64 (x5_2 + 1)) a0_0 l0_1 l0_2 a0_3 a0_4 a0_5) else (some 11)) = some r := H; have A13 := Aside0.mk A130; clear A130; by_cases c14 : t195 = true
      ·subst c14; have H1 : (tipstaffref43_one.l0 k2 a1 (wrap64 (x5_2 + 1)) a0_0 l0_1 l0_2 a0_3 a0_4 a0_5) = some r := by rw [if_pos rfl] at H; exact H
       clear H; have H := H1; clear H1; have H' := Aside0.mk H; clear H; have hcz15_0 : wr.cell? ⟨gb191, 0, none⟩ = some (.int .i64 a0_0) := (blk_cell BK191.out 0).trans rfl; have hcz15_1 : wr.cell? ⟨gb191, 1, none⟩ = some (.slice A0_1 l0_1.length c0_1) := (blk_cell BK191.out 1).trans rfl; have hcz15_2 : wr.cell? ⟨gb191, 2, none⟩ = some (.slice A0_2 l0_2.length c0_2) := (blk_cell BK191.out 2).trans rfl; have hcz15_3 : wr.cell? ⟨gb191, 3, none⟩ = some (.int .u64 a0_3) := (blk_cell BK191.out 3).trans rfl; have hcz15_4 : wr.cell? ⟨gb191, 4, none⟩ = some (.int .u64 a0_4) := (blk_cell BK191.out 4).trans rfl; have hcz15_5 : wr.cell? ⟨gb191, 5, none⟩ = some (.int .i64 a0_5) := (blk_cell BK191.out 5).trans rfl; have hfz15_0 := blk_frozen BK191.out 0; have hfz15_1 := blk_frozen BK191.out 1; have hfz15_2 := blk_frozen BK191.out 2; have hfz15_3 := blk_frozen BK191.out 3; have hfz15_4 := blk_frozen BK191.out 4; have hfz15_5 := blk_frozen BK191.out 5; have p192 : 0 ≤ (x5_2 : Int) := of_decide_eq_true (by (with_reducible assumption)); have q192 : x5_2 < (l0_1.length : Int) := of_decide_eq_true (by (with_reducible assumption)); obtain ⟨ad192, e192, hx192_0, hx192_1⟩ := at_T66 HR0_1.out x5_2 p192 q192; cases e192; replace hx192_0 := kc_ HB.out hx192_0; replace hx192_1 := kc_ HB.out hx192_1; replace p192 := eq_true p192; replace q192 := eq_true q192; go_wp2_with (first | ((with_reducible refine gate_callee (f := 42) rfl ?_); refine goesL_ (some 29) rfl rfl Tryd.func42 (by kernel_rfl) rfl #[.int .i64 ((rd_T66 l0_1 x5_2).f0), .int .i64 0, .int .i64 23] rfl (by (try simp only [List.map_toArray, List.map_cons, List.map_nil]); rfl) ?_; (with_reducible refine (tipstaffref43_in.calls ((rd_T66 l0_1 x5_2).f0) 0 23 true _ A11.out).mono ?_); rintro e w' ⟨rfl, ⟨nd, rfl⟩⟩; refine ⟨_, rfl, ?_⟩; have p194 : 0 ≤ (x5_2 : Int) := of_decide_eq_true (by (with_reducible assumption)); have q194 : x5_2 < (l0_1.length : Int) := of_decide_eq_true (by (with_reducible assumption)); obtain ⟨ad194, e194, hx194_0, hx194_1⟩ := at_T66 HR0_1.out x5_2 p194 q194; obtain rfl : ad192 = ad194 := (by injection e194); replace hx194_0 := kc_ HB.out hx194_0; replace hx194_1 := kc_ HB.out hx194_1; replace p194 := eq_true p194; replace q194 := eq_true q194) | ((with_reducible refine gate_callee (f := 42) rfl ?_); refine goesL_ (some 37) rfl rfl Tryd.func42 (by kernel_rfl) rfl #[.int .i64 ((rd_T66 l0_1 x5_2).f1), .int .i64 1, .int .i64 6] rfl (by (try simp only [List.map_toArray, List.map_cons, List.map_nil]); rfl) ?_; (with_reducible refine (tipstaffref43_in.calls ((rd_T66 l0_1 x5_2).f1) 1 6 true _ A13.out).mono ?_); rintro e w' ⟨rfl, ⟨nd, rfl⟩⟩; refine ⟨_, rfl, ?_⟩)); go_roundg k2
       case measure => have := HJ2.out; have := HK2.out; omega
       case rel => exact ⟨(wrap64 (x5_2 + 1)), (by rfl), H', ⟨by have := HJ2.out; have := HK2.out; omega⟩, ⟨by (with_reducible repeat (refine blk_drewN ?_ _)); exact BK191.out⟩, ⟨by repeat ((with_reducible first | exact HB.out | apply pw_below_drewN ))⟩⟩
      replace c14 := Bool.eq_false_iff.mpr c14; subst c14; have H1 : (some 11) = some r := by rw [if_neg (show ¬ (false = true) by decide)] at H; exact H
      clear H; have H := H1; clear H1; obtain rfl := Option.some.inj H; have hcz16_0 : wr.cell? ⟨gb191, 0, none⟩ = some (.int .i64 a0_0) := (blk_cell BK191.out 0).trans rfl; have hcz16_1 : wr.cell? ⟨gb191, 1, none⟩ = some (.slice A0_1 l0_1.length c0_1) := (blk_cell BK191.out 1).trans rfl; have hcz16_2 : wr.cell? ⟨gb191, 2, none⟩ = some (.slice A0_2 l0_2.length c0_2) := (blk_cell BK191.out 2).trans rfl; have hcz16_3 : wr.cell? ⟨gb191, 3, none⟩ = some (.int .u64 a0_3) := (blk_cell BK191.out 3).trans rfl; have hcz16_4 : wr.cell? ⟨gb191, 4, none⟩ = some (.int .u64 a0_4) := (blk_cell BK191.out 4).trans rfl; have hcz16_5 : wr.cell? ⟨gb191, 5, none⟩ = some (.int .i64 a0_5) := (blk_cell BK191.out 5).trans rfl; have hfz16_0 := blk_frozen BK191.out 0; have hfz16_1 := blk_frozen BK191.out 1; have hfz16_2 := blk_frozen BK191.out 2; have hfz16_3 := blk_frozen BK191.out 3; have hfz16_4 := blk_frozen BK191.out 4; have hfz16_5 := blk_frozen BK191.out 5; have p192 : 0 ≤ (x5_2 : Int) := of_decide_eq_true (by (with_reducible assumption)); have q192 : x5_2 < (l0_1.length : Int) := of_decide_eq_true (by (with_reducible assumption)); obtain ⟨ad192, e192, hx192_0, hx192_1⟩ := at_T66 HR0_1.out x5_2 p192 q192; cases e192; replace hx192_0 := kc_ HB.out hx192_0; replace hx192_1 := kc_ HB.out hx192_1; replace p192 := eq_true p192; replace q192 := eq_true q192; go_wp2_with (first | ((with_reducible refine gate_callee (f := 42) rfl ?_); refine goesL_ (some 29) rfl rfl Tryd.func42 (by kernel_rfl) rfl #[.int .i64 ((rd_T66 l0_1 x5_2).f0), .int .i64 0, .int .i64 23] rfl (by (try simp only [List.map_toArray, List.map_cons, List.map_nil]); rfl) ?_; (with_reducible refine (tipstaffref43_in.calls ((rd_T66 l0_1 x5_2).f0) 0 23 true _ A11.out).mono ?_); rintro e w' ⟨rfl, ⟨nd, rfl⟩⟩; refine ⟨_, rfl, ?_⟩; have p194 : 0 ≤ (x5_2 : Int) := of_decide_eq_true (by (with_reducible assumption)); have q194 : x5_2 < (l0_1.length : Int) := of_decide_eq_true (by (with_reducible assumption)); obtain ⟨ad194, e194, hx194_0, hx194_1⟩ := at_T66 HR0_1.out x5_2 p194 q194; obtain rfl : ad192 = ad194 := (by injection e194); replace hx194_0 := kc_ HB.out hx194_0; replace hx194_1 := kc_ HB.out hx194_1; replace p194 := eq_true p194; replace q194 := eq_true q194) | ((with_reducible refine gate_callee (f := 42) rfl ?_); refine goesL_ (some 37) rfl rfl Tryd.func42 (by kernel_rfl) rfl #[.int .i64 ((rd_T66 l0_1 x5_2).f1), .int .i64 1, .int .i64 6] rfl (by (try simp only [List.map_toArray, List.map_cons, List.map_nil]); rfl) ?_; (with_reducible refine (tipstaffref43_in.calls ((rd_T66 l0_1 x5_2).f1) 1 6 false _ A13.out).mono ?_); rintro e w' ⟨rfl, ⟨nd, rfl⟩⟩; refine ⟨_, rfl, ?_⟩)); go_ret; exact ⟨by rfl, by repeat ((with_reducible first | exact HB.out | apply pw_below_drewN ))⟩
     replace c12 := Bool.eq_false_iff.mpr c12; subst c12; have H1 : (some 2) = some r := by rw [if_neg (show ¬ (false = true) by decide)] at H; exact H
     clear H; have H := H1; clear H1; obtain rfl := Option.some.inj H; have hcz17_0 : wr.cell? ⟨gb191, 0, none⟩ = some (.int .i64 a0_0) := (blk_cell BK191.out 0).trans rfl; have hcz17_1 : wr.cell? ⟨gb191, 1, none⟩ = some (.slice A0_1 l0_1.length c0_1) := (blk_cell BK191.out 1).trans rfl; have hcz17_2 : wr.cell? ⟨gb191, 2, none⟩ = some (.slice A0_2 l0_2.length c0_2) := (blk_cell BK191.out 2).trans rfl; have hcz17_3 : wr.cell? ⟨gb191, 3, none⟩ = some (.int .u64 a0_3) := (blk_cell BK191.out 3).trans rfl; have hcz17_4 : wr.cell? ⟨gb191, 4, none⟩ = some (.int .u64 a0_4) := (blk_cell BK191.out 4).trans rfl; have hcz17_5 : wr.cell? ⟨gb191, 5, none⟩ = some (.int .i64 a0_5) := (blk_cell BK191.out 5).trans rfl; have hfz17_0 := blk_frozen BK191.out 0; have hfz17_1 := blk_frozen BK191.out 1; have hfz17_2 := blk_frozen BK191.out 2; have hfz17_3 := blk_frozen BK191.out 3; have hfz17_4 := blk_frozen BK191.out 4; have hfz17_5 := blk_frozen BK191.out 5; have p192 : 0 ≤ (x5_2 : Int) := of_decide_eq_true (by (with_reducible assumption)); have q192 : x5_2 < (l0_1.length : Int) := of_decide_eq_true (by (with_reducible assumption)); obtain ⟨ad192, e192, hx192_0, hx192_1⟩ := at_T66 HR0_1.out x5_2 p192 q192; cases e192; replace hx192_0 := kc_ HB.out hx192_0; replace hx192_1 := kc_ HB.out hx192_1; replace p192 := eq_true p192; replace q192 := eq_true q192; go_wp2_with (first | ((with_reducible refine gate_callee (f := 42) rfl ?_); refine goesL_ (some 29) rfl rfl Tryd.func42 (by kernel_rfl) rfl #[.int .i64 ((rd_T66 l0_1 x5_2).f0), .int .i64 0, .int .i64 23] rfl (by (try simp only [List.map_toArray, List.map_cons, List.map_nil]); rfl) ?_; (with_reducible refine (tipstaffref43_in.calls ((rd_T66 l0_1 x5_2).f0) 0 23 false _ A11.out).mono ?_); rintro e w' ⟨rfl, ⟨nd, rfl⟩⟩; refine ⟨_, rfl, ?_⟩)); go_ret; exact ⟨by rfl, by repeat ((with_reducible first | exact HB.out | apply pw_below_drewN ))⟩
    rw [if_neg c10] at H; exact absurd H (by simp)
   rw [if_neg c9] at H; have c9b0 : decide (x5_2 < (l0_1.length : Int)) = false := decide_eq_false c9; clear c9; have H' := Aside0.mk H; clear H; have hcz18_0 : wr.cell? ⟨gb191, 0, none⟩ = some (.int .i64 a0_0) := (blk_cell BK191.out 0).trans rfl; have hcz18_1 : wr.cell? ⟨gb191, 1, none⟩ = some (.slice A0_1 l0_1.length c0_1) := (blk_cell BK191.out 1).trans rfl; have hcz18_2 : wr.cell? ⟨gb191, 2, none⟩ = some (.slice A0_2 l0_2.length c0_2) := (blk_cell BK191.out 2).trans rfl; have hcz18_3 : wr.cell? ⟨gb191, 3, none⟩ = some (.int .u64 a0_3) := (blk_cell BK191.out 3).trans rfl; have hcz18_4 : wr.cell? ⟨gb191, 4, none⟩ = some (.int .u64 a0_4) := (blk_cell BK191.out 4).trans rfl; have hcz18_5 : wr.cell? ⟨gb191, 5, none⟩ = some (.int .i64 a0_5) := (blk_cell BK191.out 5).trans rfl; have hfz18_0 := blk_frozen BK191.out 0; have hfz18_1 := blk_frozen BK191.out 1; have hfz18_2 := blk_frozen BK191.out 2; have hfz18_3 := blk_frozen BK191.out 3; have hfz18_4 := blk_frozen BK191.out 4; have hfz18_5 := blk_frozen BK191.out 5; go_wp2; go_loopg [6] k2 (fun kq v6 w' => ∃ (x6_3 : Int), v6 = .int .i64 x6_3 ∧ Aside0 (tipstaffref43_one.l1 kq a1 x6_3 a0_0 l0_1 l0_2 a0_3 a0_4 a0_5 = some r) ∧ Aside0 (kq ≤ k2) ∧ Aside0 (w'.heap[gb191]? = some (.cells #[.int .i64 a0_0, (.slice A0_1 l0_1.length c0_1), (.slice A0_2 l0_2.length c0_2), .int .u64 a0_3, .int .u64 a0_4, .int .i64 a0_5] 41 (0, 0))) ∧ Aside0 (Below w.heap.size w w'))
   case atStart => exact ⟨(0), (by rfl), H', ⟨Nat.le_refl _⟩, ⟨by exact BK191.out⟩, ⟨by repeat (with_reducible exact HB.out)⟩⟩
   clear H'; try clear c1
   try clear p1
   try clear q1
   try clear hx1
   try clear p2
   try clear c4
   try clear c5
   try clear c5b0
   try clear c5b1
   try clear p6
   try clear c8
   try clear c9
   try clear c9b0
   try clear c10
   try clear c10b0
   try clear c12
   try clear c14
   try clear hcz15_0
   try clear hcz15_1
   try clear hcz15_2
   try clear hcz15_3
   try clear hcz15_4
   try clear hcz15_5
   try clear hcz16_0
   try clear hcz16_1
   try clear hcz16_2
   try clear hcz16_3
   try clear hcz16_4
   try clear hcz16_5
   try clear hcz17_0
   try clear hcz17_1
   try clear hcz17_2
   try clear hcz17_3
   try clear hcz17_4
   try clear hcz17_5
   try clear hcz18_0
   try clear hcz18_1
   try clear hcz18_2
   try clear hcz18_3
   try clear hcz18_4
   try clear hcz18_5
   try clear hcz6_0
   try clear hcz6_1
   try clear hcz6_2
   try clear hcz6_3
   try clear hcz6_4
   try clear hcz6_5
   try clear hcz7_0
   try clear hcz7_1
   try clear hcz7_2
   try clear hcz7_3
   try clear hcz7_4
   try clear hcz7_5
   try clear hfz15_0
   try clear hfz15_1
   try clear hfz15_2
   try clear hfz15_3
   try clear hfz15_4
   try clear hfz15_5
   try clear hfz16_0
   try clear hfz16_1
   try clear hfz16_2
   try clear hfz16_3
   try clear hfz16_4
   try clear hfz16_5
   try clear hfz17_0
   try clear hfz17_1
   try clear hfz17_2
   try clear hfz17_3
   try clear hfz17_4
   try clear hfz17_5
   try clear hfz18_0
   try clear hfz18_1
   try clear hfz18_2
   try clear hfz18_3
   try clear hfz18_4
   try clear hfz18_5
   try clear hfz6_0
   try clear hfz6_1
   try clear hfz6_2
   try clear hfz6_3
   try clear hfz6_4
   try clear hfz6_5
   try clear hfz7_0
   try clear hfz7_1
   try clear hfz7_2
   try clear hfz7_3
   try clear hfz7_4
   try clear hfz7_5
   try clear hx192_0
   try clear hx192_1
   try clear hx194_0
   try clear hx194_1
   try clear p192
   try clear p194
   try clear p2
   try clear q192
   try clear q194
   obtain ⟨x6_3, rfl, HA, HK3, BK191, HB⟩ := hrel; cases gk with
   | zero => exact absurd HA.out (by simp [tipstaffref43_one.l1])
   | succ k3 =>
    have H := HA.out; clear HA; simp only [tipstaffref43_one.l1] at H; by_cases c19 : x6_3 < a1
    ·rw [if_pos c19] at H; have c19b0 : decide (x6_3 < a1) = true := decide_eq_true c19; clear c19; by_cases c20 : 0 ≤ x6_3
     ·rw [if_pos c20] at H; have c20b0 : decide (0 ≤ x6_3) = true := decide_eq_true c20; clear c20; by_cases c21 : x6_3 < (l0_2.length : Int)
      ·rw [if_pos c21] at H; have c21b0 : decide (x6_3 < (l0_2.length : Int)) = true := decide_eq_true c21; clear c21; replace H := Option.bind_eq_some_iff.mp H; obtain ⟨t198, A220, H⟩ := H; replace H : (if t198 = true then ((tipstaffref43_in.f ((rd_T43 l0_2 x6_3).f1) 0 20).bind fun t200 => (if t200 = true then (tipstaffref43_one.l1 k3 a1 (wrap64 (x6_3 + 1)) a0_0 l0_1 l0_2 a0_3 a0_4 a0_5) else (some 2))) else (some 2)) = some r := H; have A22 := Aside0.mk A220; clear A220; by_cases c23 : t198 = true
       ·subst c23; have H1 : ((tipstaffref43_in.f ((rd_T43 l0_2 x6_3).f1) 0 20).bind fun t200 => (if t200 = true then (tipstaffref43_one.l1 k3 a1 (wrap64 (x6_3 + 1)) a0_0 l0_1 l0_2 a0_3 a0_4 a0_5) else (some 2))) = some r := by rw [if_pos rfl] at H; exact H
        clear H; have H := H1; clear H1; replace H := Option.bind_eq_some_iff.mp H; obtain ⟨t200, A240, H⟩ := H; replace H : (if t200 = true then (tipstaffref43_one.l1 k3 a1 (wrap64 (x6_3 + 1)) a0_0 l0_1 l0_2 a0_3 a0_4 a0_5) else (some 2)) = some r := H; have A24 := Aside0.mk A240; clear A240; by_cases c25 : t200 = true
        ·subst c25; have H1 : (tipstaffref43_one.l1 k3 a1 (wrap64 (x6_3 + 1)) a0_0 l0_1 l0_2 a0_3 a0_4 a0_5) = some r := by rw [if_pos rfl] at H; exact H
         clear H; have H := H1; clear H1; have H' := Aside0.mk H; clear H; have hcz26_0 : wr.cell? ⟨gb191, 0, none⟩ = some (.int .i64 a0_0) := (blk_cell BK191.out 0).trans rfl; have hcz26_1 : wr.cell? ⟨gb191, 1, none⟩ = some (.slice A0_1 l0_1.length c0_1) := (blk_cell BK191.out 1).trans rfl; have hcz26_2 : wr.cell? ⟨gb191, 2, none⟩ = some (.slice A0_2 l0_2.length c0_2) := (blk_cell BK191.out 2).trans rfl; have hcz26_3 : wr.cell? ⟨gb191, 3, none⟩ = some (.int .u64 a0_3) := (blk_cell BK191.out 3).trans rfl; have hcz26_4 : wr.cell? ⟨gb191, 4, none⟩ = some (.int .u64 a0_4) := (blk_cell BK191.out 4).trans rfl; have hcz26_5 : wr.cell? ⟨gb191, 5, none⟩ = some (.int .i64 a0_5) := (blk_cell BK191.out 5).trans rfl; have hfz26_0 := blk_frozen BK191.out 0; have hfz26_1 := blk_frozen BK191.out 1; have hfz26_2 := blk_frozen BK191.out 2; have hfz26_3 := blk_frozen BK191.out 3; have hfz26_4 := blk_frozen BK191.out 4; have hfz26_5 := blk_frozen BK191.out 5; have p197 : 0 ≤ (x6_3 : Int) := of_decide_eq_true (by (with_reducible assumption)); have q197 : x6_3 < (l0_2.length : Int) := of_decide_eq_true (by (with_reducible assumption)); obtain ⟨ad197, e197, hx197_0, hx197_1, hx197_2⟩ := at_T43 HR0_2.out x6_3 p197 q197; cases e197; replace hx197_0 := kc_ HB.out hx197_0; replace hx197_1 := kc_ HB.out hx197_1; replace hx197_2 := kc_ HB.out hx197_2; replace p197 := eq_true p197; replace q197 := eq_true q197; go_wp2_with (first | ((with_reducible refine gate_callee (f := 42) rfl ?_); refine goesL_ (some 50) rfl rfl Tryd.func42 (by kernel_rfl) rfl #[.int .i64 ((rd_T43 l0_2 x6_3).f0), .int .i64 (-1), .int .i64 63] rfl (by (try simp only [List.map_toArray, List.map_cons, List.map_nil]); rfl) ?_; (with_reducible refine (tipstaffref43_in.calls ((rd_T43 l0_2 x6_3).f0) (-1) 63 true _ A22.out).mono ?_); rintro e w' ⟨rfl, ⟨nd, rfl⟩⟩; refine ⟨_, rfl, ?_⟩; have p199 : 0 ≤ (x6_3 : Int) := of_decide_eq_true (by (with_reducible assumption)); have q199 : x6_3 < (l0_2.length : Int) := of_decide_eq_true (by (with_reducible assumption)); obtain ⟨ad199, e199, hx199_0, hx199_1, hx199_2⟩ := at_T43 HR0_2.out x6_3 p199 q199; obtain rfl : ad197 = ad199 := (by injection e199); replace hx199_0 := kc_ HB.out hx199_0; replace hx199_1 := kc_ HB.out hx199_1; replace hx199_2 := kc_ HB.out hx199_2; replace p199 := eq_true p199; replace q199 := eq_true q199) | (go_at_call 42; (with_reducible refine (tipstaffref43_in.calls ((rd_T43 l0_2 x6_3).f1) 0 20 true _ A24.out).mono ?_); rintro e w' ⟨rfl, ⟨nd, rfl⟩⟩)); go_roundg k3
         case measure => have := HJ2.out; have := HK2.out; have := HK3.out; omega
         case rel => exact ⟨(wrap64 (x6_3 + 1)), (by rfl), H', ⟨by have := HJ2.out; have := HK2.out; have := HK3.out; omega⟩, ⟨by (with_reducible repeat (refine blk_drewN ?_ _)); exact BK191.out⟩, ⟨by repeat ((with_reducible first | exact HB.out | apply pw_below_drewN ))⟩⟩
        replace c25 := Bool.eq_false_iff.mpr c25; subst c25; have H1 : (some 2) = some r := by rw [if_neg (show ¬ (false = true) by decide)] at H; exact H
        clear H; have H := H1; clear H1; obtain rfl := Option.some.inj H; have hcz27_0 : wr.cell? ⟨gb191, 0, none⟩ = some (.int .i64 a0_0) := (blk_cell BK191.out 0).trans rfl; have hcz27_1 : wr.cell? ⟨gb191, 1, none⟩ = some (.slice A0_1 l0_1.length c0_1) := (blk_cell BK191.out 1).trans rfl; have hcz27_2 : wr.cell? ⟨gb191, 2, none⟩ = some (.slice A0_2 l0_2.length c0_2) := (blk_cell BK191.out 2).trans rfl; have hcz27_3 : wr.cell? ⟨gb191, 3, none⟩ = some (.int .u64 a0_3) := (blk_cell BK191.out 3).trans rfl; have hcz27_4 : wr.cell? ⟨gb191, 4, none⟩ = some (.int .u64 a0_4) := (blk_cell BK191.out 4).trans rfl; have hcz27_5 : wr.cell? ⟨gb191, 5, none⟩ = some (.int .i64 a0_5) := (blk_cell BK191.out 5).trans rfl; have hfz27_0 := blk_frozen BK191.out 0; have hfz27_1 := blk_frozen BK191.out 1; have hfz27_2 := blk_frozen BK191.out 2; have hfz27_3 := blk_frozen BK191.out 3; have hfz27_4 := blk_frozen BK191.out 4; have hfz27_5 := blk_frozen BK191.out 5; have p197 : 0 ≤ (x6_3 : Int) := of_decide_eq_true (by (with_reducible assumption)); have q197 : x6_3 < (l0_2.length : Int) := of_decide_eq_true (by (with_reducible assumption)); obtain ⟨ad197, e197, hx197_0, hx197_1, hx197_2⟩ := at_T43 HR0_2.out x6_3 p197 q197; cases e197; replace hx197_0 := kc_ HB.out hx197_0; replace hx197_1 := kc_ HB.out hx197_1; replace hx197_2 := kc_ HB.out hx197_2; replace p197 := eq_true p197; replace q197 := eq_true q197; go_wp2_with (first | ((with_reducible refine gate_callee (f := 42) rfl ?_); refine goesL_ (some 50) rfl rfl Tryd.func42 (by kernel_rfl) rfl #[.int .i64 ((rd_T43 l0_2 x6_3).f0), .int .i64 (-1), .int .i64 63] rfl (by (try simp only [List.map_toArray, List.map_cons, List.map_nil]); rfl) ?_; (with_reducible refine (tipstaffref43_in.calls ((rd_T43 l0_2 x6_3).f0) (-1) 63 true _ A22.out).mono ?_); rintro e w' ⟨rfl, ⟨nd, rfl⟩⟩; refine ⟨_, rfl, ?_⟩; have p199 : 0 ≤ (x6_3 : Int) := of_decide_eq_true (by (with_reducible assumption)); have q199 : x6_3 < (l0_2.length : Int) := of_decide_eq_true (by (with_reducible assumption)); obtain ⟨ad199, e199, hx199_0, hx199_1, hx199_2⟩ := at_T43 HR0_2.out x6_3 p199 q199; obtain rfl : ad197 = ad199 := (by injection e199); replace hx199_0 := kc_ HB.out hx199_0; replace hx199_1 := kc_ HB.out hx199_1; replace hx199_2 := kc_ HB.out hx199_2; replace p199 := eq_true p199; replace q199 := eq_true q199) | (go_at_call 42; (with_reducible refine (tipstaffref43_in.calls ((rd_T43 l0_2 x6_3).f1) 0 20 false _ A24.out).mono ?_); rintro e w' ⟨rfl, ⟨nd, rfl⟩⟩)); go_ret; exact ⟨by rfl, by repeat ((with_reducible first | exact HB.out | apply pw_below_drewN ))⟩
       replace c23 := Bool.eq_false_iff.mpr c23; subst c23; have H1 : (some 2) = some r := by rw [if_neg (show ¬ (false = true) by decide)] at H; exact H
       clear H; have H := H1; clear H1; obtain rfl := Option.some.inj H; have hcz28_0 : wr.cell? ⟨gb191, 0, none⟩ = some (.int .i64 a0_0) := (blk_cell BK191.out 0).trans rfl; have hcz28_1 : wr.cell? ⟨gb191, 1, none⟩ = some (.slice A0_1 l0_1.length c0_1) := (blk_cell BK191.out 1).trans rfl; have hcz28_2 : wr.cell? ⟨gb191, 2, none⟩ = some (.slice A0_2 l0_2.length c0_2) := (blk_cell BK191.out 2).trans rfl; have hcz28_3 : wr.cell? ⟨gb191, 3, none⟩ = some (.int .u64 a0_3) := (blk_cell BK191.out 3).trans rfl; have hcz28_4 : wr.cell? ⟨gb191, 4, none⟩ = some (.int .u64 a0_4) := (blk_cell BK191.out 4).trans rfl; have hcz28_5 : wr.cell? ⟨gb191, 5, none⟩ = some (.int .i64 a0_5) := (blk_cell BK191.out 5).trans rfl; have hfz28_0 := blk_frozen BK191.out 0; have hfz28_1 := blk_frozen BK191.out 1; have hfz28_2 := blk_frozen BK191.out 2; have hfz28_3 := blk_frozen BK191.out 3; have hfz28_4 := blk_frozen BK191.out 4; have hfz28_5 := blk_frozen BK191.out 5; have p197 : 0 ≤ (x6_3 : Int) := of_decide_eq_true (by (with_reducible assumption)); have q197 : x6_3 < (l0_2.length : Int) := of_decide_eq_true (by (with_reducible assumption)); obtain ⟨ad197, e197, hx197_0, hx197_1, hx197_2⟩ := at_T43 HR0_2.out x6_3 p197 q197; cases e197; replace hx197_0 := kc_ HB.out hx197_0; replace hx197_1 := kc_ HB.out hx197_1; replace hx197_2 := kc_ HB.out hx197_2; replace p197 := eq_true p197; replace q197 := eq_true q197; go_wp2_with (first | ((with_reducible refine gate_callee (f := 42) rfl ?_); refine goesL_ (some 50) rfl rfl Tryd.func42 (by kernel_rfl) rfl #[.int .i64 ((rd_T43 l0_2 x6_3).f0), .int .i64 (-1), .int .i64 63] rfl (by (try simp only [List.map_toArray, List.map_cons, List.map_nil]); rfl) ?_; (with_reducible refine (tipstaffref43_in.calls ((rd_T43 l0_2 x6_3).f0) (-1) 63 false _ A22.out).mono ?_); rintro e w' ⟨rfl, ⟨nd, rfl⟩⟩; refine ⟨_, rfl, ?_⟩)); go_ret; exact ⟨by rfl, by repeat ((with_reducible first | exact HB.out | apply pw_below_drewN ))⟩
      rw [if_neg c21] at H; exact absurd H (by simp)
     rw [if_neg c20] at H; exact absurd H (by simp)
    rw [if_neg c19] at H; have c19b0 : decide (x6_3 < a1) = false := decide_eq_false c19; clear c19; replace H := Option.bind_eq_some_iff.mp H; obtain ⟨t196, A290, H⟩ := H; replace H : (if t196 = true then (some 0) else (some 2)) = some r := H; have A29 := Aside0.mk A290; clear A290; by_cases c30 : t196 = true
    ·subst c30; have H1 : (some 0) = some r := by rw [if_pos rfl] at H; exact H
     clear H; have H := H1; clear H1; obtain rfl := Option.some.inj H; have hcz31_0 : wr.cell? ⟨gb191, 0, none⟩ = some (.int .i64 a0_0) := (blk_cell BK191.out 0).trans rfl; have hcz31_1 : wr.cell? ⟨gb191, 1, none⟩ = some (.slice A0_1 l0_1.length c0_1) := (blk_cell BK191.out 1).trans rfl; have hcz31_2 : wr.cell? ⟨gb191, 2, none⟩ = some (.slice A0_2 l0_2.length c0_2) := (blk_cell BK191.out 2).trans rfl; have hcz31_3 : wr.cell? ⟨gb191, 3, none⟩ = some (.int .u64 a0_3) := (blk_cell BK191.out 3).trans rfl; have hcz31_4 : wr.cell? ⟨gb191, 4, none⟩ = some (.int .u64 a0_4) := (blk_cell BK191.out 4).trans rfl; have hcz31_5 : wr.cell? ⟨gb191, 5, none⟩ = some (.int .i64 a0_5) := (blk_cell BK191.out 5).trans rfl; have hfz31_0 := blk_frozen BK191.out 0; have hfz31_1 := blk_frozen BK191.out 1; have hfz31_2 := blk_frozen BK191.out 2; have hfz31_3 := blk_frozen BK191.out 3; have hfz31_4 := blk_frozen BK191.out 4; have hfz31_5 := blk_frozen BK191.out 5; go_wp2_with (first | ((with_reducible refine gate_callee (f := 42) rfl ?_); refine goesL_ (some 64) rfl rfl Tryd.func42 (by kernel_rfl) rfl #[.int .i64 a0_5, .int .i64 (-1), .int .i64 255] rfl (by (try simp only [List.map_toArray, List.map_cons, List.map_nil]); rfl) ?_; (with_reducible refine (tipstaffref43_in.calls a0_5 (-1) 255 true _ A29.out).mono ?_); rintro e w' ⟨rfl, ⟨nd, rfl⟩⟩; refine ⟨_, rfl, ?_⟩)); go_ret; exact ⟨by rfl, by repeat ((with_reducible first | exact HB.out | apply pw_below_drewN ))⟩
    replace c30 := Bool.eq_false_iff.mpr c30; subst c30; have H1 : (some 2) = some r := by rw [if_neg (show ¬ (false = true) by decide)] at H; exact H
    clear H; have H := H1; clear H1; obtain rfl := Option.some.inj H; have hcz32_0 : wr.cell? ⟨gb191, 0, none⟩ = some (.int .i64 a0_0) := (blk_cell BK191.out 0).trans rfl; have hcz32_1 : wr.cell? ⟨gb191, 1, none⟩ = some (.slice A0_1 l0_1.length c0_1) := (blk_cell BK191.out 1).trans rfl; have hcz32_2 : wr.cell? ⟨gb191, 2, none⟩ = some (.slice A0_2 l0_2.length c0_2) := (blk_cell BK191.out 2).trans rfl; have hcz32_3 : wr.cell? ⟨gb191, 3, none⟩ = some (.int .u64 a0_3) := (blk_cell BK191.out 3).trans rfl; have hcz32_4 : wr.cell? ⟨gb191, 4, none⟩ = some (.int .u64 a0_4) := (blk_cell BK191.out 4).trans rfl; have hcz32_5 : wr.cell? ⟨gb191, 5, none⟩ = some (.int .i64 a0_5) := (blk_cell BK191.out 5).trans rfl; have hfz32_0 := blk_frozen BK191.out 0; have hfz32_1 := blk_frozen BK191.out 1; have hfz32_2 := blk_frozen BK191.out 2; have hfz32_3 := blk_frozen BK191.out 3; have hfz32_4 := blk_frozen BK191.out 4; have hfz32_5 := blk_frozen BK191.out 5; go_wp2_with (first | ((with_reducible refine gate_callee (f := 42) rfl ?_); refine goesL_ (some 64) rfl rfl Tryd.func42 (by kernel_rfl) rfl #[.int .i64 a0_5, .int .i64 (-1), .int .i64 255] rfl (by (try simp only [List.map_toArray, List.map_cons, List.map_nil]); rfl) ?_; (with_reducible refine (tipstaffref43_in.calls a0_5 (-1) 255 false _ A29.out).mono ?_); rintro e w' ⟨rfl, ⟨nd, rfl⟩⟩; refine ⟨_, rfl, ?_⟩)); go_ret; exact ⟨by rfl, by repeat ((with_reducible first | exact HB.out | apply pw_below_drewN ))⟩

end Go.Proofs.YtenlokaaloenmaaDoor.S
end

section
namespace Go.Proofs.YtenlokaaloenmaaDoor.S
open Go.RowKit Go.Proofs.YtenlokaaloenmaaDoorW.PrintWords Go.Proofs.YtenlokaaloenmaaDoorW.PrintLast Go.Proofs.YtenlokaaloenmaaDoorW.PrintMore
attribute [local go_sem] Go.Proofs.YtenlokaaloenmaaDoorW.PrintXtra.isSome_setCell max2_int min2_int max_two min_two max_three min_three max_four min_four   -- for this text's walks alone
set_option linter.unusedVariables false
set_option linter.unusedSimpArgs false

/-! ### tipstaffref43_Check: function 18 -/
mutual
def tipstaffref43_Check.l0 : Nat → List (S41) → Int → Option (Int × Int)
 | 0, _, _ => none
 | k + 1, x0, x4 => if x4 < (x0.length : Int) then (if x4 = 0 then (if 0 < (x0.length : Int) then ((tipstaffref43_in.f ((rd_T41 x0 0).f0) 0 1099511627776).bind fun t202 => (tipstaffref43_Check.j1 k x0 x4 (!t202))) else (none)) else (tipstaffref43_Check.j1 k x0 x4 false)) else (some (0, 0))
def tipstaffref43_Check.j1 : Nat → List (S41) → Int → Bool → Option (Int × Int)
 | 0, _, _, _ => none
 | k + 1, x0, x4, x24 => if x24 = true then (some (2, 0)) else (if x4 > 0 then (if 0 ≤ x4 then (if x4 < (x0.length : Int) then (if 0 ≤ (wrap64 (x4 - 1)) then (if (wrap64 (x4 - 1)) < (x0.length : Int) then (tipstaffref43_Check.j2 k x0 x4 ((wrap64 (((rd_T41 x0 x4).f0) - 1)) != ((rd_T41 x0 (wrap64 (x4 - 1))).f0))) else (none)) else (none)) else (none)) else (none)) else (tipstaffref43_Check.j2 k x0 x4 false))
def tipstaffref43_Check.j2 : Nat → List (S41) → Int → Bool → Option (Int × Int)
 | 0, _, _, _ => none
 | k + 1, x0, x4, x41 => if x41 = true then (some (8, x4)) else (if 0 ≤ x4 then (if x4 < (x0.length : Int) then (if 0 < (x0.length : Int) then ((tipstaffref43_one.f k ((rd_T41 x0 x4).f0) ((rd_T41 x0 x4).f1) ((rd_T41 x0 x4).f2) ((rd_T41 x0 x4).f3) ((rd_T41 x0 x4).f4) ((rd_T41 x0 x4).f5) (((rd_T41 x0 0).f2).length : Int)).bind fun t207 => (if t207 = 0 then (tipstaffref43_Check.l0 k x0 (wrap64 (x4 + 1))) else (some (t207, x4)))) else (none)) else (none)) else (none))
end
def tipstaffref43_Check.f (k : Nat) (l0 : List (S41)) : Option (Int × Int) := if (l0.length : Int) > 20000 then (some (4, 0)) else (tipstaffref43_Check.l0 k l0 0)
def tipstaffref43_Check.T8 : Bool × List (List Nat × List Nat) := (true, [([], []), ([0], [0]), ([1], [1]), ([2], [2]), ([2], [2]), ([3, 4, 2], [2, 3, 4]), ([5, 2], [2, 5]), ([6, 2], [2, 6]), ([7, 2], [2, 7]), ([2], [2]), ([2], [2]), ([10, 2], [2, 10]), ([9, 11, 2], [2, 9, 11]), ([12, 2], [2, 12]), ([13, 2], [2, 13]), ([8, 14, 2], [2, 8, 14]), ([2, 15], [2, 15])])
def tipstaffref43_Check.B8 : List Nat := [0, 1, 3, 7, 7, 31, 63, 127, 255, 7, 7, 1031, 3591, 7687, 15879, 32767, 65535]
theorem tipstaffref43_Check.tab8 : rtab .any (opsOf Tryd.f18 8) = tipstaffref43_Check.T8 := by kernel_rfl
theorem tipstaffref43_Check.bits8 : waitsOk tipstaffref43_Check.T8.2 tipstaffref43_Check.B8 = true := by kernel_rfl
def tipstaffref43_Check.T10 : Bool × List (List Nat × List Nat) := (true, [([], []), ([], []), ([0, 1], [0, 1]), ([2], [2]), ([], []), ([4], [4]), ([5], [5]), ([6], [6]), ([7], [7]), ([3, 8], [3, 8]), ([9, 9, 0, 1, 2, 3, 4, 5, 6, 7, 8, 9], [9])])
def tipstaffref43_Check.B10 : List Nat := [0, 0, 3, 7, 0, 16, 48, 112, 240, 511, 1023]
theorem tipstaffref43_Check.tab10 : rtab .any (opsOf Tryd.f18 10) = tipstaffref43_Check.T10 := by kernel_rfl
theorem tipstaffref43_Check.bits10 : waitsOk tipstaffref43_Check.T10.2 tipstaffref43_Check.B10 = true := by kernel_rfl
set_option maxHeartbeats 8000000 in
set_option maxRecDepth 100000 in
theorem tipstaffref43_Check.calls (k : Nat) (A0 : Option Addr) (c0 : Nat) (l0 : List (S41)) (r1 : Int) (r2 : Int) (w : World) (hr0 : Kd.C k41 w A0 l0.length l0) (hc0 : l0.length ≤ c0) (h : tipstaffref43_Check.f k l0 = some (r1, r2)) :
  Calls Tryd.prog 18 #[.slice A0 l0.length c0] w fun e w' => e = .returned (.tuple #[.int .i64 r1, .int .i64 r2]) ∧ Below w.heap.size w w' := by
 have hu41 := Tryd.underlying41; have HR0 := Aside0.mk hr0; have HC0 := Aside0.mk hc0; clear hr0 hc0; have HB := Aside0.mk (Below.refl w.heap.size w); have H : (if (l0.length : Int) > 20000 then (some (4, 0)) else (tipstaffref43_Check.l0 k l0 0)) = some (r1, r2) := h; clear h; by_cases c2 : (l0.length : Int) > 20000
 ·rw [if_pos c2] at H; have c2b0 : decide (20000 < (l0.length : Int)) = true := decide_eq_true c2; have c2b1 : decide (20000 < l0.length) = true := decide_eq_true (by omega); clear c2; simp only [Option.some.injEq, Prod.mk.injEq] at H; obtain ⟨rfl, rfl⟩ := H; go_enter Tryd.func18, Tryd.ntmps18
  go_wp2; go_ret2; exact ⟨by rfl, by repeat (with_reducible exact HB.out)⟩
 rw [if_neg c2] at H; have c2b0 : decide (20000 < (l0.length : Int)) = false := decide_eq_false c2; have c2b1 : decide (20000 < l0.length) = false := decide_eq_false (by omega); clear c2; have H' := Aside0.mk H; clear H; go_enter Tryd.func18, Tryd.ntmps18
 go_wp2; go_loopg [4] k (fun kq v4 w' => ∃ (x4_1 : Int), v4 = .int .i64 x4_1 ∧ Aside0 (tipstaffref43_Check.l0 kq l0 x4_1 = some (r1, r2)) ∧ Aside0 (kq ≤ k) ∧ Aside0 (Below w.heap.size w w'))
 case atStart => exact ⟨(0), (by rfl), H', ⟨Nat.le_refl _⟩, ⟨by repeat (with_reducible exact HB.out)⟩⟩
 clear H'; try clear c1
 try clear c2
 try clear c2b0
 try clear c2b1
 try clear p2
 obtain ⟨x4_1, rfl, HA, HK1, HB⟩ := hrel; cases gk with
 | zero => exact absurd HA.out (by simp [tipstaffref43_Check.l0])
 | succ k1 =>
  have H := HA.out; clear HA; simp only [tipstaffref43_Check.l0] at H; by_cases c3 : x4_1 < (l0.length : Int)
  ·rw [if_pos c3] at H; have c3b0 : decide (x4_1 < (l0.length : Int)) = true := decide_eq_true c3; clear c3; have HC4 := Aside0.mk H; clear H; go_upto_region 6 with (fail)
   go_cut [24] (fun v24 wc => ∃ (kq : Nat) (x24_3 : Bool), v24 = .bool x24_3 ∧ Aside0 (tipstaffref43_Check.j1 kq l0 x4_1 x24_3 = some (r1, r2)) ∧ Aside0 (kq ≤ k1) ∧ Aside0 (Below w.heap.size w wc))
   case first =>
    have H := HC4.out; clear HC4; by_cases c5 : x4_1 = 0
    ·rw [if_pos c5] at H; have c5b0 : (x4_1 == 0) = true := beq_iff_eq.mpr c5; have c5b1 : (x4_1 != 0) = false := bne_eq_false_iff_eq.mpr c5; clear c5; (skip)
     by_cases c6 : 0 < (l0.length : Int)
     ·rw [if_pos c6] at H; have c6b0 : decide (0 < (l0.length : Int)) = true := decide_eq_true c6; have c6b1 : decide (0 < l0.length) = true := decide_eq_true (by omega); clear c6; replace H := Option.bind_eq_some_iff.mp H; obtain ⟨t202, A70, H⟩ := H; replace H : (tipstaffref43_Check.j1 k1 l0 x4_1 (!t202)) = some (r1, r2) := H; have A7 := Aside0.mk A70; clear A70; have H' := Aside0.mk H; clear H; have p201 : 0 ≤ (0 : Int) := (by omega); have q201 : 0 < (l0.length : Int) := of_decide_eq_true (by (with_reducible assumption)); obtain ⟨ad201, A201_1, c201_1, A201_2, c201_2, e201, hx201_0, hx201_1, hx201_2, hx201_3, hx201_4, hx201_5, hl201_1, hi201_1, hl201_2, hi201_2⟩ := at_T41 HR0.out 0 p201 q201; cases e201; have qi201 : (0 < l0.length) = True := eq_true (by omega); (try rw [show ((0 : Int)).toNat = 0 from rfl] at hx201_0)
      (try rw [show 0 * 6 = 0 from rfl] at hx201_0)
      (try rw [Addr.add_zero'] at hx201_0)
      (try rw [show ((0 : Int)).toNat = 0 from rfl] at hx201_1)
      (try rw [show 0 * 6 = 0 from rfl] at hx201_1)
      (try rw [Addr.add_zero'] at hx201_1)
      (try rw [show ((0 : Int)).toNat = 0 from rfl] at hx201_2)
      (try rw [show 0 * 6 = 0 from rfl] at hx201_2)
      (try rw [Addr.add_zero'] at hx201_2)
      (try rw [show ((0 : Int)).toNat = 0 from rfl] at hx201_3)
      (try rw [show 0 * 6 = 0 from rfl] at hx201_3)
      (try rw [Addr.add_zero'] at hx201_3)
      (try rw [show ((0 : Int)).toNat = 0 from rfl] at hx201_4)
      (try rw [show 0 * 6 = 0 from rfl] at hx201_4)
      (try rw [Addr.add_zero'] at hx201_4)
      (try rw [show ((0 : Int)).toNat = 0 from rfl] at hx201_5)
      (try rw [show 0 * 6 = 0 from rfl] at hx201_5)
      (try rw [Addr.add_zero'] at hx201_5)
      replace hx201_0 := kc_ HB.out hx201_0; replace hx201_1 := kc_ HB.out hx201_1; replace hx201_2 := kc_ HB.out hx201_2; replace hx201_3 := kc_ HB.out hx201_3; replace hx201_4 := kc_ HB.out hx201_4; replace hx201_5 := kc_ HB.out hx201_5; have HR201_1 := Aside0.mk hi201_1; have HC201_1 := Aside0.mk hl201_1; clear hi201_1 hl201_1; have HR201_2 := Aside0.mk hi201_2; have HC201_2 := Aside0.mk hl201_2; clear hi201_2 hl201_2; replace p201 := eq_true p201; replace q201 := eq_true q201; go_wp2_with (first | (go_at_call 42; (with_reducible refine (tipstaffref43_in.calls ((rd_T41 l0 0).f0) 0 1099511627776 t202 _ A7.out).mono ?_); rintro e w' ⟨rfl, ⟨nd, rfl⟩⟩)); go_meet
      case rel => exact ⟨_, (!t202), (by rfl), H', ⟨by have := HK1.out; omega⟩, ⟨by repeat ((with_reducible first | exact HB.out | apply pw_below_drewN ))⟩⟩
     rw [if_neg c6] at H; exact absurd H (by simp)
    rw [if_neg c5] at H; have c5b0 : (x4_1 == 0) = false := beq_eq_false_iff_ne.mpr c5; have c5b1 : (x4_1 != 0) = true := bne_iff_ne.mpr c5; (skip)
    have H' := Aside0.mk H; clear H; go_wp2; go_meet
    case rel => exact ⟨_, (false), (by rfl), H', ⟨by have := HK1.out; omega⟩, ⟨by repeat (with_reducible exact HB.out)⟩⟩
   clear HC4; try clear c1
   try clear c2
   try clear c2b0
   try clear c2b1
   try clear p2
   try clear q2
   try clear hx2
   try clear qi2
   try clear c3
   try clear c3b0
   try clear c5
   try clear c5b0
   try clear c5b1
   try clear c6
   try clear c6b0
   try clear c6b1
   try clear hx201_0
   try clear hx201_1
   try clear hx201_2
   try clear hx201_3
   try clear hx201_4
   try clear hx201_5
   try clear p2
   try clear p201
   try clear q201
   obtain ⟨kq, x24_3, rfl, HA, HJ3, HB⟩ := hcut; cases kq with
   | zero => exact absurd HA.out (by simp [tipstaffref43_Check.j1])
   | succ kj3 =>
    have H := HA.out; clear HA; simp only [tipstaffref43_Check.j1] at H; by_cases c8 : x24_3 = true
    ·subst c8; have H1 : (some (2, 0)) = some (r1, r2) := by rw [if_pos rfl] at H; exact H
     clear H; have H := H1; clear H1; simp only [Option.some.injEq, Prod.mk.injEq] at H; obtain ⟨rfl, rfl⟩ := H; go_wp2; go_ret2; exact ⟨by rfl, by repeat (with_reducible exact HB.out)⟩
    replace c8 := Bool.eq_false_iff.mpr c8; subst c8; have H1 : (if x4_1 > 0 then (if 0 ≤ x4_1 then (if x4_1 < (l0.length : Int) then (if 0 ≤ (wrap64 (x4_1 - 1)) then (if (wrap64 (x4_1 - 1)) < (l0.length : Int) then (tipstaffref43_Check.j2 kj3 l0 x4_1 ((wrap64 (((rd_T41 l0 x4_1).f0) - 1)) != ((rd_T41 l0 (wrap64 (x4_1 - 1))).f0))) else (none)) else (none)) else (none)) else (none)) else (tipstaffref43_Check.j2 kj3 l0 x4_1 false)) = some (r1, r2) := by rw [if_neg (show ¬ (false = true) by decide)] at H; exact H
    clear H; have H := H1; clear H1; have HC9 := Aside0.mk H; clear H; go_upto_region 8 with (fail)
    go_cut [41] (fun v41 wc => ∃ (kq : Nat) (x41_8 : Bool), v41 = .bool x41_8 ∧ Aside0 (tipstaffref43_Check.j2 kq l0 x4_1 x41_8 = some (r1, r2)) ∧ Aside0 (kq ≤ kj3) ∧ Aside0 (Below w.heap.size w wc))
    case first =>
     have H := HC9.out; clear HC9; by_cases c10 : x4_1 > 0
     ·rw [if_pos c10] at H; have c10b0 : decide (0 < x4_1) = true := decide_eq_true c10; clear c10; (skip)
      by_cases c11 : 0 ≤ x4_1
      ·rw [if_pos c11] at H; have c11b0 : decide (0 ≤ x4_1) = true := decide_eq_true c11; clear c11; by_cases c12 : x4_1 < (l0.length : Int)
       ·rw [if_pos c12] at H; have c12b0 : decide (x4_1 < (l0.length : Int)) = true := decide_eq_true c12; clear c12; obtain ⟨ji13, hji13⟩ : ∃ j_ : Int, (wrap64 (x4_1 - 1)) = j_ := ⟨_, rfl⟩; replace H : (if 0 ≤ (ji13) then (if (ji13) < (l0.length : Int) then (tipstaffref43_Check.j2 kj3 l0 x4_1 ((wrap64 (((rd_T41 l0 x4_1).f0) - 1)) != ((rd_T41 l0 (ji13)).f0))) else (none)) else (none)) = some (r1, r2) := by (rw [hji13] at H; exact H)
        have hji13w : (IntKind.i64.wrap (x4_1 - 1)) = ji13 := (i64_w _).trans hji13; by_cases c14 : 0 ≤ (ji13)
        ·rw [if_pos c14] at H; have c14b0 : decide (0 ≤ (ji13)) = true := decide_eq_true c14; clear c14; by_cases c15 : (ji13) < (l0.length : Int)
         ·rw [if_pos c15] at H; have c15b0 : decide ((ji13) < (l0.length : Int)) = true := decide_eq_true c15; clear c15; have H' := Aside0.mk H; clear H; try go_wp2
          have n0_ := Aside0.mk (below_drew1 HB.out); clear HB; have HB := n0_; clear n0_; have p203 : 0 ≤ (x4_1 : Int) := of_decide_eq_true (by (with_reducible assumption)); have q203 : x4_1 < (l0.length : Int) := of_decide_eq_true (by (with_reducible assumption)); obtain ⟨ad203, A203_1, c203_1, A203_2, c203_2, e203, hx203_0, hx203_1, hx203_2, hx203_3, hx203_4, hx203_5, hl203_1, hi203_1, hl203_2, hi203_2⟩ := at_T41 HR0.out x4_1 p203 q203; have hw203_5 := hx203_5; have hw203_4 := hx203_4; have hw203_3 := hx203_3; have hw203_2 := hx203_2; have hw203_1 := hx203_1; have hw203_0 := hx203_0; cases e203; replace hx203_0 := kc_ HB.out hx203_0; replace hx203_1 := kc_ HB.out hx203_1; replace hx203_2 := kc_ HB.out hx203_2; replace hx203_3 := kc_ HB.out hx203_3; replace hx203_4 := kc_ HB.out hx203_4; replace hx203_5 := kc_ HB.out hx203_5; have HR203_1 := Aside0.mk hi203_1; have HC203_1 := Aside0.mk hl203_1; clear hi203_1 hl203_1; have HR203_2 := Aside0.mk hi203_2; have HC203_2 := Aside0.mk hl203_2; clear hi203_2 hl203_2; replace p203 := eq_true p203; replace q203 := eq_true q203; have p204 : 0 ≤ ((ji13) : Int) := of_decide_eq_true (by (with_reducible assumption)); have q204 : (ji13) < (l0.length : Int) := of_decide_eq_true (by (with_reducible assumption)); obtain ⟨ad204, A204_1, c204_1, A204_2, c204_2, e204, hx204_0, hx204_1, hx204_2, hx204_3, hx204_4, hx204_5, hl204_1, hi204_1, hl204_2, hi204_2⟩ := at_T41 HR0.out (ji13) p204 q204; have hw204_5 := hx204_5; have hw204_4 := hx204_4; have hw204_3 := hx204_3; have hw204_2 := hx204_2; have hw204_1 := hx204_1; have hw204_0 := hx204_0; obtain rfl : ad203 = ad204 := (by injection e204); replace hx204_0 := kc_ HB.out hx204_0; replace hx204_1 := kc_ HB.out hx204_1; replace hx204_2 := kc_ HB.out hx204_2; replace hx204_3 := kc_ HB.out hx204_3; replace hx204_4 := kc_ HB.out hx204_4; replace hx204_5 := kc_ HB.out hx204_5; have HR204_1 := Aside0.mk hi204_1; have HC204_1 := Aside0.mk hl204_1; clear hi204_1 hl204_1; have HR204_2 := Aside0.mk hi204_2; have HC204_2 := Aside0.mk hl204_2; clear hi204_2 hl204_2; replace p204 := eq_true p204; replace q204 := eq_true q204; refine start_ (n := 17) (S := fun w' => w'.cell? (ad203.add ((x4_1).toNat * 6)) = some (.int .i64 ((rd_T41 l0 x4_1).f0)) ∧ w'.cell? ⟨(ad203.add ((x4_1).toNat * 6)).block, (ad203.add ((x4_1).toNat * 6)).off + 1, none⟩ = some (.slice A203_1 ((rd_T41 l0 x4_1).f1).length c203_1) ∧ w'.cell? ⟨(ad203.add ((x4_1).toNat * 6)).block, (ad203.add ((x4_1).toNat * 6)).off + 2, none⟩ = some (.slice A203_2 ((rd_T41 l0 x4_1).f2).length c203_2) ∧ w'.cell? ⟨(ad203.add ((x4_1).toNat * 6)).block, (ad203.add ((x4_1).toNat * 6)).off + 3, none⟩ = some (.int .u64 ((rd_T41 l0 x4_1).f3)) ∧ w'.cell? ⟨(ad203.add ((x4_1).toNat * 6)).block, (ad203.add ((x4_1).toNat * 6)).off + 4, none⟩ = some (.int .u64 ((rd_T41 l0 x4_1).f4)) ∧ w'.cell? ⟨(ad203.add ((x4_1).toNat * 6)).block, (ad203.add ((x4_1).toNat * 6)).off + 5, none⟩ = some (.int .i64 ((rd_T41 l0 x4_1).f5)) ∧ w'.cell? (ad203.add (((ji13)).toNat * 6)) = some (.int .i64 ((rd_T41 l0 (ji13)).f0)) ∧ w'.cell? ⟨(ad203.add (((ji13)).toNat * 6)).block, (ad203.add (((ji13)).toNat * 6)).off + 1, none⟩ = some (.slice A204_1 ((rd_T41 l0 (ji13)).f1).length c204_1) ∧ w'.cell? ⟨(ad203.add (((ji13)).toNat * 6)).block, (ad203.add (((ji13)).toNat * 6)).off + 2, none⟩ = some (.slice A204_2 ((rd_T41 l0 (ji13)).f2).length c204_2) ∧ w'.cell? ⟨(ad203.add (((ji13)).toNat * 6)).block, (ad203.add (((ji13)).toNat * 6)).off + 3, none⟩ = some (.int .u64 ((rd_T41 l0 (ji13)).f3)) ∧ w'.cell? ⟨(ad203.add (((ji13)).toNat * 6)).block, (ad203.add (((ji13)).toNat * 6)).off + 4, none⟩ = some (.int .u64 ((rd_T41 l0 (ji13)).f4)) ∧ w'.cell? ⟨(ad203.add (((ji13)).toNat * 6)).block, (ad203.add (((ji13)).toNat * 6)).off + 5, none⟩ = some (.int .i64 ((rd_T41 l0 (ji13)).f5))) (ds := []) #[Z,Z,Z,Z,Z,Z,Z,Z,Z,Z,Z,Z,Z,Z,Z,Z,Z] (by kernel_rfl) rfl rfl ⟨(kc_ HB.out hw203_0), (kc_ HB.out hw203_1), (kc_ HB.out hw203_2), (kc_ HB.out hw203_3), (kc_ HB.out hw203_4), (kc_ HB.out hw203_5), (kc_ HB.out hw204_0), (kc_ HB.out hw204_1), (kc_ HB.out hw204_2), (kc_ HB.out hw204_3), (kc_ HB.out hw204_4), (kc_ HB.out hw204_5)⟩ (fun hHeld => ?_); refine with_tabW tipstaffref43_Check.tab8 tipstaffref43_Check.bits8 (fun HT_ HW_ => ?_); generalize wc.drew = w16 at HB HR203_1 HR203_2 HR204_1 HR204_2 hx203_0 hx203_1 hx203_2 hx203_3 hx203_4 hx203_5 hx204_0 hx204_1 hx204_2 hx204_3 hx204_4 hx204_5 hHeld ⊢; refine pure_ (i := 0) (N := some 25) (v := ?_) (a' := ?_) #[X,Z,Z,Z,Z,Z,Z,Z,Z,Z,Z,Z,Z,Z,Z,Z,Z] rfl rfl (any_of HT_.out (by kernel_rfl)) (fun _ _ _ h => h) (Or.inl ⟨by rfl, ?_⟩) ?_ ?_; rotate_left
          ·intro w'; go_simp; with_reducible rfl
          rotate_left
          ·simp only [Act.put, sA, sB, sC, i64_w, i32_w]; rfl
          refine pure_ (i := 1) (N := some 26) (v := ?_) (a' := ?_) #[X,X,Z,Z,Z,Z,Z,Z,Z,Z,Z,Z,Z,Z,Z,Z,Z] rfl rfl (any_of HT_.out (by kernel_rfl)) (fun _ _ _ h => h) (Or.inl ⟨by rfl, ?_⟩) ?_ ?_; rotate_left
          ·intro w'; go_simp; with_reducible rfl
          rotate_left
          ·simp only [Act.put, sA, sB, sC, i64_w, i32_w]; rfl
          refine pure_ (i := 2) (N := some 27) (v := ?_) (a' := ?_) #[X,X,X,Z,Z,Z,Z,Z,Z,Z,Z,Z,Z,Z,Z,Z,Z] rfl rfl (any_of HT_.out (by kernel_rfl)) (fun _ _ _ h => h) (Or.inl ⟨by rfl, ?_⟩) ?_ ?_; rotate_left
          ·intro w'; go_simp; with_reducible rfl
          rotate_left
          ·simp only [Act.put, sA, sB, sC, i64_w, i32_w]; rfl
          refine pure_ (i := 3) (N := some 28) (v := ?_) (a' := ?_) #[X,X,X,X,Z,Z,Z,Z,Z,Z,Z,Z,Z,Z,Z,Z,Z] rfl rfl (any_of HT_.out (by kernel_rfl)) (fun _ _ _ h => h) (Or.inl ⟨by rfl, ?_⟩) ?_ ?_; rotate_left
          ·intro w'; go_simp; with_reducible rfl
          rotate_left
          ·simp only [Act.put, sA, sB, sC, i64_w, i32_w]; rfl
          refine pure_ (i := 4) (N := some 29) (v := ?_) (a' := ?_) #[X,X,X,X,X,Z,Z,Z,Z,Z,Z,Z,Z,Z,Z,Z,Z] rfl rfl (any_of HT_.out (by kernel_rfl)) (fun _ _ _ h => h) (Or.inl ⟨by rfl, ?_⟩) ?_ ?_; rotate_left
          ·intro w'; go_simp; with_reducible rfl
          rotate_left
          ·simp only [Act.put, sA, sB, sC, i64_w, i32_w]; rfl
          refine pure_ (i := 5) (N := some 30) (v := ?_) (a' := ?_) #[X,X,X,X,X,X,Z,Z,Z,Z,Z,Z,Z,Z,Z,Z,Z] rfl rfl (any_of HT_.out (by kernel_rfl)) (fun _ _ _ h => h) (Or.inl ⟨by rfl, ?_⟩) ?_ ?_; rotate_left
          ·intro w'; go_simp; with_reducible rfl
          rotate_left
          ·simp only [Act.put, sA, sB, sC, i64_w, i32_w]; rfl
          refine pure_ (i := 6) (N := some 31) (v := ?_) (a' := ?_) #[X,X,X,X,X,X,X,Z,Z,Z,Z,Z,Z,Z,Z,Z,Z] rfl rfl (any_of HT_.out (by kernel_rfl)) (fun _ _ _ h => h) (Or.inl ⟨by rfl, ?_⟩) ?_ ?_; rotate_left
          ·intro w'; go_simp; with_reducible rfl
          rotate_left
          ·simp only [Act.put, sA, sB, sC, i64_w, i32_w]; rfl
          refine pure_ (i := 9) (N := some 34) (v := ?_) (a' := ?_) #[X,X,X,X,X,X,X,Z,Z,X,Z,Z,Z,Z,Z,Z,Z] rfl rfl (any_of HT_.out (by kernel_rfl)) (fun _ _ _ h => h) (Or.inl ⟨by rfl, ?_⟩) ?_ ?_; rotate_left
          ·intro w'; go_simp; with_reducible rfl
          rotate_left
          ·simp only [Act.put, sA, sB, sC, i64_w, i32_w]; rfl
          refine pure_ (i := 10) (N := some 35) (v := ?_) (a' := ?_) #[X,X,X,X,X,X,X,Z,Z,X,X,Z,Z,Z,Z,Z,Z] rfl rfl (any_of HT_.out (by kernel_rfl)) (fun _ _ _ h => h) (Or.inl ⟨by rfl, ?_⟩) ?_ ?_; rotate_left
          ·intro w'; go_simp; with_reducible rfl
          rotate_left
          ·simp only [Act.put, sA, sB, sC, i64_w, i32_w]; rfl
          refine pure_ (i := 11) (N := some 36) (v := ?_) (a' := ?_) #[X,X,X,X,X,X,X,Z,Z,X,X,X,Z,Z,Z,Z,Z] rfl rfl (any_of HT_.out (by kernel_rfl)) (fun _ _ _ h => h) (Or.inl ⟨by rfl, ?_⟩) ?_ ?_; rotate_left
          ·intro w'; go_simp; with_reducible rfl
          rotate_left
          ·simp only [Act.put, sA, sB, sC, i64_w, i32_w]; rfl
          refine pure_ (i := 12) (N := some 37) (v := ?_) (a' := ?_) #[X,X,X,X,X,X,X,Z,Z,X,X,X,X,Z,Z,Z,Z] rfl rfl (any_of HT_.out (by kernel_rfl)) (fun _ _ _ h => h) (Or.inl ⟨by rfl, ?_⟩) ?_ ?_; rotate_left
          ·intro w'; go_simp; with_reducible rfl
          rotate_left
          ·simp only [Act.put, sA, sB, sC, i64_w, i32_w]; rfl
          refine pure_ (i := 13) (N := some 38) (v := ?_) (a' := ?_) #[X,X,X,X,X,X,X,Z,Z,X,X,X,X,X,Z,Z,Z] rfl rfl (any_of HT_.out (by kernel_rfl)) (fun _ _ _ h => h) (Or.inl ⟨by rfl, ?_⟩) ?_ ?_; rotate_left
          ·intro w'; go_simp; with_reducible rfl
          rotate_left
          ·simp only [Act.put, sA, sB, sC, i64_w, i32_w]; rfl
          refine take_ (i := 7) (N := some 32) (v := ?_) (a' := ?_) #[X,X,X,X,X,X,X,X,Z,X,X,X,X,X,Z,Z,Z] rfl rfl (take_ofW HT_.out HW_.out (by kernel_rfl)) (fun _ _ _ h => h) (Or.inl ⟨by rfl, ?_⟩) hHeld ?_ ?_; rotate_left
          ·rintro w' ⟨s0, s1, s2, s3, s4, s5, s6, s7, s8, s9, s10, s11⟩; go_simp; with_reducible rfl
          rotate_left
          ·simp only [Act.put, sA, sB, sC, i64_w, i32_w]; rfl
          refine pure_ (i := 8) (N := some 33) (v := ?_) (a' := ?_) #[X,X,X,X,X,X,X,X,X,X,X,X,X,X,Z,Z,Z] rfl rfl (any_of HT_.out (by kernel_rfl)) (fun _ _ _ h => h) (Or.inl ⟨by rfl, ?_⟩) ?_ ?_; rotate_left
          ·intro w'; go_simp; with_reducible rfl
          rotate_left
          ·simp only [Act.put, sA, sB, sC, i64_w, i32_w]; rfl
          refine take_ (i := 14) (N := some 39) (v := ?_) (a' := ?_) #[X,X,X,X,X,X,X,X,X,X,X,X,X,X,X,Z,Z] rfl rfl (take_ofW HT_.out HW_.out (by kernel_rfl)) (fun _ _ _ h => h) (Or.inl ⟨by rfl, ?_⟩) hHeld ?_ ?_; rotate_left
          ·rintro w' ⟨s0, s1, s2, s3, s4, s5, s6, s7, s8, s9, s10, s11⟩; go_simp; with_reducible rfl
          rotate_left
          ·simp only [Act.put, sA, sB, sC, i64_w, i32_w]; rfl
          refine pure_ (i := 15) (N := some 40) (v := ?_) (a' := ?_) #[X,X,X,X,X,X,X,X,X,X,X,X,X,X,X,X,Z] rfl rfl (any_of HT_.out (by kernel_rfl)) (fun _ _ _ h => h) (Or.inl ⟨by rfl, ?_⟩) ?_ ?_; rotate_left
          ·intro w'; go_simp; with_reducible rfl
          rotate_left
          ·simp only [Act.put, sA, sB, sC, i64_w, i32_w]; rfl
          refine pure_ (i := 16) (N := some 41) (v := ?_) (a' := ?_) #[X,X,X,X,X,X,X,X,X,X,X,X,X,X,X,X,X] rfl rfl (any_of HT_.out (by kernel_rfl)) (fun _ _ _ h => h) (Or.inl ⟨by rfl, ?_⟩) ?_ ?_; rotate_left
          ·intro w'; go_simp; with_reducible rfl
          rotate_left
          ·simp only [Act.put, sA, sB, sC, i64_w, i32_w]; rfl
          refine done_ (done_of HT_.out (by kernel_rfl)) ?_; try go_wp2
          go_meet
          case rel => exact ⟨_, (((wrap64 (((rd_T41 l0 x4_1).f0) - 1)) != ((rd_T41 l0 (ji13)).f0))), (by rfl), H', ⟨by have := HK1.out; have := HJ3.out; omega⟩, ⟨by repeat (with_reducible exact HB.out)⟩⟩
         rw [if_neg c15] at H; exact absurd H (by simp)
        rw [if_neg c14] at H; exact absurd H (by simp)
       rw [if_neg c12] at H; exact absurd H (by simp)
      rw [if_neg c11] at H; exact absurd H (by simp)
     rw [if_neg c10] at H; have c10b0 : decide (0 < x4_1) = false := decide_eq_false c10; clear c10; (skip)
     have H' := Aside0.mk H; clear H; try go_wp2
     have n0_ := Aside0.mk (below_drew1 HB.out); clear HB; have HB := n0_; clear n0_; refine start_ (n := 17) (S := fun w' => True) (ds := []) #[Z,Z,Z,Z,Z,Z,Z,Z,Z,Z,Z,Z,Z,Z,Z,Z,Z] (by kernel_rfl) rfl rfl trivial (fun hHeld => ?_); refine with_tabW tipstaffref43_Check.tab8 tipstaffref43_Check.bits8 (fun HT_ HW_ => ?_); generalize wc.drew = w17 at HB hHeld ⊢; refine pure_ (i := 0) (N := some 25) (v := ?_) (a' := ?_) #[X,Z,Z,Z,Z,Z,Z,Z,Z,Z,Z,Z,Z,Z,Z,Z,Z] rfl rfl (any_of HT_.out (by kernel_rfl)) (fun _ _ _ h => h) (Or.inl ⟨by rfl, ?_⟩) ?_ ?_; rotate_left
     ·intro w'; go_simp; with_reducible rfl
     rotate_left
     ·simp only [Act.put, sA, sB, sC, i64_w, i32_w]; rfl
     refine pure_ (i := 1) (N := some 26) (v := ?_) (a' := ?_) #[X,X,Z,Z,Z,Z,Z,Z,Z,Z,Z,Z,Z,Z,Z,Z,Z] rfl rfl (any_of HT_.out (by kernel_rfl)) (fun _ _ _ h => h) (Or.inl ⟨by rfl, ?_⟩) ?_ ?_; rotate_left
     ·intro w'; go_simp; with_reducible rfl
     rotate_left
     ·simp only [Act.put, sA, sB, sC, i64_w, i32_w]; rfl
     refine pure_ (i := 2) (N := some 27) (v := ?_) (a' := ?_) #[X,X,X,Z,Z,Z,Z,Z,Z,Z,Z,Z,Z,Z,Z,Z,Z] rfl rfl (any_of HT_.out (by kernel_rfl)) (fun _ _ _ h => h) (Or.inl ⟨by rfl, ?_⟩) ?_ ?_; rotate_left
     ·intro w'; go_simp; with_reducible rfl
     rotate_left
     ·simp only [Act.put, sA, sB, sC, i64_w, i32_w]; rfl
     refine pure_ (i := 3) (N := some 28) (v := undef) (a' := ?_) #[X,X,X,X,Z,Z,Z,Z,Z,Z,Z,Z,Z,Z,Z,Z,Z] rfl rfl (any_of HT_.out (by kernel_rfl)) (fun _ _ _ h => h) (Or.inr ⟨by rfl, rfl⟩) ?_ ?_; rotate_left
     ·simp only [Act.put, sA, sB, sC, i64_w, i32_w]; rfl
     refine pure_ (i := 4) (N := some 29) (v := undef) (a' := ?_) #[X,X,X,X,X,Z,Z,Z,Z,Z,Z,Z,Z,Z,Z,Z,Z] rfl rfl (any_of HT_.out (by kernel_rfl)) (fun _ _ _ h => h) (Or.inr ⟨by rfl, rfl⟩) ?_ ?_; rotate_left
     ·simp only [Act.put, sA, sB, sC, i64_w, i32_w]; rfl
     refine pure_ (i := 5) (N := some 30) (v := undef) (a' := ?_) #[X,X,X,X,X,X,Z,Z,Z,Z,Z,Z,Z,Z,Z,Z,Z] rfl rfl (any_of HT_.out (by kernel_rfl)) (fun _ _ _ h => h) (Or.inr ⟨by rfl, rfl⟩) ?_ ?_; rotate_left
     ·simp only [Act.put, sA, sB, sC, i64_w, i32_w]; rfl
     refine pure_ (i := 6) (N := some 31) (v := undef) (a' := ?_) #[X,X,X,X,X,X,X,Z,Z,Z,Z,Z,Z,Z,Z,Z,Z] rfl rfl (any_of HT_.out (by kernel_rfl)) (fun _ _ _ h => h) (Or.inr ⟨by rfl, rfl⟩) ?_ ?_; rotate_left
     ·simp only [Act.put, sA, sB, sC, i64_w, i32_w]; rfl
     refine pure_ (i := 7) (N := some 32) (v := undef) (a' := ?_) #[X,X,X,X,X,X,X,X,Z,Z,Z,Z,Z,Z,Z,Z,Z] rfl rfl (any_of HT_.out (by kernel_rfl)) (fun _ _ _ h => h) (Or.inr ⟨by rfl, rfl⟩) ?_ ?_; rotate_left
     ·simp only [Act.put, sA, sB, sC, i64_w, i32_w]; rfl
     refine pure_ (i := 8) (N := some 33) (v := undef) (a' := ?_) #[X,X,X,X,X,X,X,X,X,Z,Z,Z,Z,Z,Z,Z,Z] rfl rfl (any_of HT_.out (by kernel_rfl)) (fun _ _ _ h => h) (Or.inr ⟨by rfl, rfl⟩) ?_ ?_; rotate_left
     ·simp only [Act.put, sA, sB, sC, i64_w, i32_w]; rfl
     refine pure_ (i := 9) (N := some 34) (v := undef) (a' := ?_) #[X,X,X,X,X,X,X,X,X,X,Z,Z,Z,Z,Z,Z,Z] rfl rfl (any_of HT_.out (by kernel_rfl)) (fun _ _ _ h => h) (Or.inr ⟨by rfl, rfl⟩) ?_ ?_; rotate_left
     ·simp only [Act.put, sA, sB, sC, i64_w, i32_w]; rfl
     refine pure_ (i := 10) (N := some 35) (v := undef) (a' := ?_) #[X,X,X,X,X,X,X,X,X,X,X,Z,Z,Z,Z,Z,Z] rfl rfl (any_of HT_.out (by kernel_rfl)) (fun _ _ _ h => h) (Or.inr ⟨by rfl, rfl⟩) ?_ ?_; rotate_left
     ·simp only [Act.put, sA, sB, sC, i64_w, i32_w]; rfl
     refine pure_ (i := 11) (N := some 36) (v := undef) (a' := ?_) #[X,X,X,X,X,X,X,X,X,X,X,X,Z,Z,Z,Z,Z] rfl rfl (any_of HT_.out (by kernel_rfl)) (fun _ _ _ h => h) (Or.inr ⟨by rfl, rfl⟩) ?_ ?_; rotate_left
     ·simp only [Act.put, sA, sB, sC, i64_w, i32_w]; rfl
     refine pure_ (i := 12) (N := some 37) (v := undef) (a' := ?_) #[X,X,X,X,X,X,X,X,X,X,X,X,X,Z,Z,Z,Z] rfl rfl (any_of HT_.out (by kernel_rfl)) (fun _ _ _ h => h) (Or.inr ⟨by rfl, rfl⟩) ?_ ?_; rotate_left
     ·simp only [Act.put, sA, sB, sC, i64_w, i32_w]; rfl
     refine pure_ (i := 13) (N := some 38) (v := undef) (a' := ?_) #[X,X,X,X,X,X,X,X,X,X,X,X,X,X,Z,Z,Z] rfl rfl (any_of HT_.out (by kernel_rfl)) (fun _ _ _ h => h) (Or.inr ⟨by rfl, rfl⟩) ?_ ?_; rotate_left
     ·simp only [Act.put, sA, sB, sC, i64_w, i32_w]; rfl
     refine pure_ (i := 14) (N := some 39) (v := undef) (a' := ?_) #[X,X,X,X,X,X,X,X,X,X,X,X,X,X,X,Z,Z] rfl rfl (any_of HT_.out (by kernel_rfl)) (fun _ _ _ h => h) (Or.inr ⟨by rfl, rfl⟩) ?_ ?_; rotate_left
     ·simp only [Act.put, sA, sB, sC, i64_w, i32_w]; rfl
     refine pure_ (i := 15) (N := some 40) (v := undef) (a' := ?_) #[X,X,X,X,X,X,X,X,X,X,X,X,X,X,X,X,Z] rfl rfl (any_of HT_.out (by kernel_rfl)) (fun _ _ _ h => h) (Or.inr ⟨by rfl, rfl⟩) ?_ ?_; rotate_left
     ·simp only [Act.put, sA, sB, sC, i64_w, i32_w]; rfl
     refine pure_ (i := 16) (N := some 41) (v := ?_) (a' := ?_) #[X,X,X,X,X,X,X,X,X,X,X,X,X,X,X,X,X] rfl rfl (any_of HT_.out (by kernel_rfl)) (fun _ _ _ h => h) (Or.inl ⟨by rfl, ?_⟩) ?_ ?_; rotate_left
     ·intro w'; go_simp; with_reducible rfl
     rotate_left
     ·simp only [Act.put, sA, sB, sC, i64_w, i32_w]; rfl
     refine done_ (done_of HT_.out (by kernel_rfl)) ?_; try go_wp2
     go_meet
     case rel => exact ⟨_, (false), (by rfl), H', ⟨by have := HK1.out; have := HJ3.out; omega⟩, ⟨by repeat (with_reducible exact HB.out)⟩⟩
    clear HC9; try clear c1
    try clear c2
    try clear c2b0
    try clear c2b1
    try clear p2
    try clear q2
    try clear hx2
    try clear qi2
    try clear c3
    try clear c3b0
    try clear c5
    try clear c5b0
    try clear c5b1
    try clear c6
    try clear c6b0
    try clear c6b1
    try clear p6
    try clear c8
    try clear c10
    try clear c10b0
    try clear c11
    try clear c11b0
    try clear c12
    try clear c12b0
    try clear c14
    try clear c14b0
    try clear c15
    try clear c15b0
    try clear hx201_0
    try clear hx201_1
    try clear hx201_2
    try clear hx201_3
    try clear hx201_4
    try clear hx201_5
    try clear hx203_0
    try clear hx203_1
    try clear hx203_2
    try clear hx203_3
    try clear hx203_4
    try clear hx203_5
    try clear hx204_0
    try clear hx204_1
    try clear hx204_2
    try clear hx204_3
    try clear hx204_4
    try clear hx204_5
    try clear p2
    try clear p201
    try clear p203
    try clear p204
    try clear q2
    try clear q201
    try clear q203
    try clear q204
    obtain ⟨kq, x41_8, rfl, HA, HJ8, HB⟩ := hcut; cases kq with
    | zero => exact absurd HA.out (by simp [tipstaffref43_Check.j2])
    | succ kj8 =>
     have H := HA.out; clear HA; simp only [tipstaffref43_Check.j2] at H; by_cases c18 : x41_8 = true
     ·subst c18; have H1 : (some (8, x4_1)) = some (r1, r2) := by rw [if_pos rfl] at H; exact H
      clear H; have H := H1; clear H1; simp only [Option.some.injEq, Prod.mk.injEq] at H; obtain ⟨rfl, rfl⟩ := H; go_wp2; go_ret2; exact ⟨by rfl, by repeat (with_reducible exact HB.out)⟩
     replace c18 := Bool.eq_false_iff.mpr c18; subst c18; have H1 := H; rw [if_neg (show ¬ (false = true) by decide)] at H1; clear H; have H := H1; clear H1; by_cases c19 : 0 ≤ x4_1
     ·rw [if_pos c19] at H; have c19b0 : decide (0 ≤ x4_1) = true := decide_eq_true c19; clear c19; by_cases c20 : x4_1 < (l0.length : Int)
      ·rw [if_pos c20] at H; have c20b0 : decide (x4_1 < (l0.length : Int)) = true := decide_eq_true c20; clear c20; by_cases c21 : 0 < (l0.length : Int)
       ·rw [if_pos c21] at H; have c21b0 : decide (0 < (l0.length : Int)) = true := decide_eq_true c21; have c21b1 : decide (0 < l0.length) = true := decide_eq_true (by omega); clear c21; replace H := Option.bind_eq_some_iff.mp H; obtain ⟨t207, A220, H⟩ := H; replace H : (if t207 = 0 then (tipstaffref43_Check.l0 kj8 l0 (wrap64 (x4_1 + 1))) else (some (t207, x4_1))) = some (r1, r2) := H; have A22 := Aside0.mk A220; clear A220; by_cases c23 : t207 = 0
        ·rw [if_pos c23] at H; have c23b0 : (t207 == 0) = true := beq_iff_eq.mpr c23; have c23b1 : (t207 != 0) = false := bne_eq_false_iff_eq.mpr c23; clear c23; have H' := Aside0.mk H; clear H; try go_wp2
         have n0_ := Aside0.mk (below_drew1 HB.out); clear HB; have HB := n0_; clear n0_; have p205 : 0 ≤ (x4_1 : Int) := of_decide_eq_true (by (with_reducible assumption)); have q205 : x4_1 < (l0.length : Int) := of_decide_eq_true (by (with_reducible assumption)); obtain ⟨ad205, A205_1, c205_1, A205_2, c205_2, e205, hx205_0, hx205_1, hx205_2, hx205_3, hx205_4, hx205_5, hl205_1, hi205_1, hl205_2, hi205_2⟩ := at_T41 HR0.out x4_1 p205 q205; have hw205_5 := hx205_5; have hw205_4 := hx205_4; have hw205_3 := hx205_3; have hw205_2 := hx205_2; have hw205_1 := hx205_1; have hw205_0 := hx205_0; cases e205; replace hx205_0 := kc_ HB.out hx205_0; replace hx205_1 := kc_ HB.out hx205_1; replace hx205_2 := kc_ HB.out hx205_2; replace hx205_3 := kc_ HB.out hx205_3; replace hx205_4 := kc_ HB.out hx205_4; replace hx205_5 := kc_ HB.out hx205_5; have HR205_1 := Aside0.mk hi205_1; have HC205_1 := Aside0.mk hl205_1; clear hi205_1 hl205_1; have HR205_2 := Aside0.mk hi205_2; have HC205_2 := Aside0.mk hl205_2; clear hi205_2 hl205_2; replace p205 := eq_true p205; replace q205 := eq_true q205; have p206 : 0 ≤ (0 : Int) := (by omega); have q206 : 0 < (l0.length : Int) := of_decide_eq_true (by (with_reducible assumption)); obtain ⟨ad206, A206_1, c206_1, A206_2, c206_2, e206, hx206_0, hx206_1, hx206_2, hx206_3, hx206_4, hx206_5, hl206_1, hi206_1, hl206_2, hi206_2⟩ := at_T41 HR0.out 0 p206 q206; have hw206_5 := hx206_5; (try rw [show ((0 : Int)).toNat = 0 from rfl] at hw206_5)
         (try rw [show 0 * 6 = 0 from rfl] at hw206_5)
         (try rw [Addr.add_zero'] at hw206_5)
         have hw206_4 := hx206_4; (try rw [show ((0 : Int)).toNat = 0 from rfl] at hw206_4)
         (try rw [show 0 * 6 = 0 from rfl] at hw206_4)
         (try rw [Addr.add_zero'] at hw206_4)
         have hw206_3 := hx206_3; (try rw [show ((0 : Int)).toNat = 0 from rfl] at hw206_3)
         (try rw [show 0 * 6 = 0 from rfl] at hw206_3)
         (try rw [Addr.add_zero'] at hw206_3)
         have hw206_2 := hx206_2; (try rw [show ((0 : Int)).toNat = 0 from rfl] at hw206_2)
         (try rw [show 0 * 6 = 0 from rfl] at hw206_2)
         (try rw [Addr.add_zero'] at hw206_2)
         have hw206_1 := hx206_1; (try rw [show ((0 : Int)).toNat = 0 from rfl] at hw206_1)
         (try rw [show 0 * 6 = 0 from rfl] at hw206_1)
         (try rw [Addr.add_zero'] at hw206_1)
         have hw206_0 := hx206_0; (try rw [show ((0 : Int)).toNat = 0 from rfl] at hw206_0)
         (try rw [show 0 * 6 = 0 from rfl] at hw206_0)
         (try rw [Addr.add_zero'] at hw206_0)
         obtain rfl : ad205 = ad206 := (by injection e206); have qi206 : (0 < l0.length) = True := eq_true (by omega); (try rw [show ((0 : Int)).toNat = 0 from rfl] at hx206_0)
         (try rw [show 0 * 6 = 0 from rfl] at hx206_0)
         (try rw [Addr.add_zero'] at hx206_0)
         (try rw [show ((0 : Int)).toNat = 0 from rfl] at hx206_1)
         (try rw [show 0 * 6 = 0 from rfl] at hx206_1)
         (try rw [Addr.add_zero'] at hx206_1)
         (try rw [show ((0 : Int)).toNat = 0 from rfl] at hx206_2)
         (try rw [show 0 * 6 = 0 from rfl] at hx206_2)
         (try rw [Addr.add_zero'] at hx206_2)
         (try rw [show ((0 : Int)).toNat = 0 from rfl] at hx206_3)
         (try rw [show 0 * 6 = 0 from rfl] at hx206_3)
         (try rw [Addr.add_zero'] at hx206_3)
         (try rw [show ((0 : Int)).toNat = 0 from rfl] at hx206_4)
         (try rw [show 0 * 6 = 0 from rfl] at hx206_4)
         (try rw [Addr.add_zero'] at hx206_4)
         (try rw [show ((0 : Int)).toNat = 0 from rfl] at hx206_5)
         (try rw [show 0 * 6 = 0 from rfl] at hx206_5)
         (try rw [Addr.add_zero'] at hx206_5)
         replace hx206_0 := kc_ HB.out hx206_0; replace hx206_1 := kc_ HB.out hx206_1; replace hx206_2 := kc_ HB.out hx206_2; replace hx206_3 := kc_ HB.out hx206_3; replace hx206_4 := kc_ HB.out hx206_4; replace hx206_5 := kc_ HB.out hx206_5; have HR206_1 := Aside0.mk hi206_1; have HC206_1 := Aside0.mk hl206_1; clear hi206_1 hl206_1; have HR206_2 := Aside0.mk hi206_2; have HC206_2 := Aside0.mk hl206_2; clear hi206_2 hl206_2; replace p206 := eq_true p206; replace q206 := eq_true q206; refine start_ (n := 11) (S := fun w' => w'.cell? (ad205.add ((x4_1).toNat * 6)) = some (.int .i64 ((rd_T41 l0 x4_1).f0)) ∧ w'.cell? ⟨(ad205.add ((x4_1).toNat * 6)).block, (ad205.add ((x4_1).toNat * 6)).off + 1, none⟩ = some (.slice A205_1 ((rd_T41 l0 x4_1).f1).length c205_1) ∧ w'.cell? ⟨(ad205.add ((x4_1).toNat * 6)).block, (ad205.add ((x4_1).toNat * 6)).off + 2, none⟩ = some (.slice A205_2 ((rd_T41 l0 x4_1).f2).length c205_2) ∧ w'.cell? ⟨(ad205.add ((x4_1).toNat * 6)).block, (ad205.add ((x4_1).toNat * 6)).off + 3, none⟩ = some (.int .u64 ((rd_T41 l0 x4_1).f3)) ∧ w'.cell? ⟨(ad205.add ((x4_1).toNat * 6)).block, (ad205.add ((x4_1).toNat * 6)).off + 4, none⟩ = some (.int .u64 ((rd_T41 l0 x4_1).f4)) ∧ w'.cell? ⟨(ad205.add ((x4_1).toNat * 6)).block, (ad205.add ((x4_1).toNat * 6)).off + 5, none⟩ = some (.int .i64 ((rd_T41 l0 x4_1).f5)) ∧ w'.cell? ad205 = some (.int .i64 ((rd_T41 l0 0).f0)) ∧ w'.cell? ⟨ad205.block, ad205.off + 1, none⟩ = some (.slice A206_1 ((rd_T41 l0 0).f1).length c206_1) ∧ w'.cell? ⟨ad205.block, ad205.off + 2, none⟩ = some (.slice A206_2 ((rd_T41 l0 0).f2).length c206_2) ∧ w'.cell? ⟨ad205.block, ad205.off + 3, none⟩ = some (.int .u64 ((rd_T41 l0 0).f3)) ∧ w'.cell? ⟨ad205.block, ad205.off + 4, none⟩ = some (.int .u64 ((rd_T41 l0 0).f4)) ∧ w'.cell? ⟨ad205.block, ad205.off + 5, none⟩ = some (.int .i64 ((rd_T41 l0 0).f5))) (ds := []) #[Z,Z,Z,Z,Z,Z,Z,Z,Z,Z,Z] (by kernel_rfl) rfl rfl ⟨(kc_ HB.out hw205_0), (kc_ HB.out hw205_1), (kc_ HB.out hw205_2), (kc_ HB.out hw205_3), (kc_ HB.out hw205_4), (kc_ HB.out hw205_5), (kc_ HB.out hw206_0), (kc_ HB.out hw206_1), (kc_ HB.out hw206_2), (kc_ HB.out hw206_3), (kc_ HB.out hw206_4), (kc_ HB.out hw206_5)⟩ (fun hHeld => ?_); refine with_tabW tipstaffref43_Check.tab10 tipstaffref43_Check.bits10 (fun HT_ HW_ => ?_); generalize wc.drew = w24 at HB HR205_1 HR205_2 HR206_1 HR206_2 hx205_0 hx205_1 hx205_2 hx205_3 hx205_4 hx205_5 hx206_0 hx206_1 hx206_2 hx206_3 hx206_4 hx206_5 hHeld ⊢; refine pure_ (i := 0) (N := some 43) (v := ?_) (a' := ?_) #[X,Z,Z,Z,Z,Z,Z,Z,Z,Z,Z] rfl rfl (any_of HT_.out (by kernel_rfl)) (fun _ _ _ h => h) (Or.inl ⟨by rfl, ?_⟩) ?_ ?_; rotate_left
         ·intro w'; go_simp; with_reducible rfl
         rotate_left
         ·simp only [Act.put, sA, sB, sC, i64_w, i32_w]; rfl
         refine pure_ (i := 1) (N := some 44) (v := ?_) (a' := ?_) #[X,X,Z,Z,Z,Z,Z,Z,Z,Z,Z] rfl rfl (any_of HT_.out (by kernel_rfl)) (fun _ _ _ h => h) (Or.inl ⟨by rfl, ?_⟩) ?_ ?_; rotate_left
         ·intro w'; go_simp; with_reducible rfl
         rotate_left
         ·simp only [Act.put, sA, sB, sC, i64_w, i32_w]; rfl
         refine pure_ (i := 2) (N := some 45) (v := ?_) (a' := ?_) #[X,X,X,Z,Z,Z,Z,Z,Z,Z,Z] rfl rfl (any_of HT_.out (by kernel_rfl)) (fun _ _ _ h => h) (Or.inl ⟨by rfl, ?_⟩) ?_ ?_; rotate_left
         ·intro w'; go_simp; with_reducible rfl
         rotate_left
         ·simp only [Act.put, sA, sB, sC, i64_w, i32_w]; rfl
         refine pure_ (i := 4) (N := some 47) (v := ?_) (a' := ?_) #[X,X,X,Z,X,Z,Z,Z,Z,Z,Z] rfl rfl (any_of HT_.out (by kernel_rfl)) (fun _ _ _ h => h) (Or.inl ⟨by rfl, ?_⟩) ?_ ?_; rotate_left
         ·intro w'; go_simp; with_reducible rfl
         rotate_left
         ·simp only [Act.put, sA, sB, sC, i64_w, i32_w]; rfl
         refine pure_ (i := 5) (N := some 48) (v := ?_) (a' := ?_) #[X,X,X,Z,X,X,Z,Z,Z,Z,Z] rfl rfl (any_of HT_.out (by kernel_rfl)) (fun _ _ _ h => h) (Or.inl ⟨by rfl, ?_⟩) ?_ ?_; rotate_left
         ·intro w'; go_simp; with_reducible rfl
         rotate_left
         ·simp only [Act.put, sA, sB, sC, i64_w, i32_w]; rfl
         refine pure_ (i := 6) (N := some 49) (v := ?_) (a' := ?_) #[X,X,X,Z,X,X,X,Z,Z,Z,Z] rfl rfl (any_of HT_.out (by kernel_rfl)) (fun _ _ _ h => h) (Or.inl ⟨by rfl, ?_⟩) ?_ ?_; rotate_left
         ·intro w'; go_simp; with_reducible rfl
         rotate_left
         ·simp only [Act.put, sA, sB, sC, i64_w, i32_w]; rfl
         refine take_ (i := 3) (N := some 46) (v := ?_) (a' := ?_) #[X,X,X,X,X,X,X,Z,Z,Z,Z] rfl rfl (take_ofW HT_.out HW_.out (by kernel_rfl)) (fun _ _ _ h => h) (Or.inl ⟨by rfl, ?_⟩) hHeld ?_ ?_; rotate_left
         ·rintro w' ⟨s0, s1, s2, s3, s4, s5, s6, s7, s8, s9, s10, s11⟩; go_simp; with_reducible rfl
         rotate_left
         ·simp only [Act.put, sA, sB, sC, i64_w, i32_w]; rfl
         refine take_ (i := 7) (N := some 50) (v := ?_) (a' := ?_) #[X,X,X,X,X,X,X,X,Z,Z,Z] rfl rfl (take_ofW HT_.out HW_.out (by kernel_rfl)) (fun _ _ _ h => h) (Or.inl ⟨by rfl, ?_⟩) hHeld ?_ ?_; rotate_left
         ·rintro w' ⟨s0, s1, s2, s3, s4, s5, s6, s7, s8, s9, s10, s11⟩; go_simp; with_reducible rfl
         rotate_left
         ·simp only [Act.put, sA, sB, sC, i64_w, i32_w]; rfl
         refine pure_ (i := 8) (N := some 51) (v := ?_) (a' := ?_) #[X,X,X,X,X,X,X,X,X,Z,Z] rfl rfl (any_of HT_.out (by kernel_rfl)) (fun _ _ _ h => h) (Or.inl ⟨by rfl, ?_⟩) ?_ ?_; rotate_left
         ·intro w'; go_simp; with_reducible rfl
         rotate_left
         ·simp only [Act.put, sA, sB, sC, i64_w, i32_w]; rfl
         refine one_ (i := 9) (N := some 52) #[X,X,X,X,X,X,X,X,X,X,Z] rfl rfl (one_of HT_.out (by kernel_rfl)) (by decide) (fun K hK => ?_); refine goes_ Tryd.func43 (by kernel_rfl) rfl #[.agg #[.int .i64 ((rd_T41 l0 x4_1).f0), .slice A205_1 ((rd_T41 l0 x4_1).f1).length c205_1, .slice A205_2 ((rd_T41 l0 x4_1).f2).length c205_2, .int .u64 ((rd_T41 l0 x4_1).f3), .int .u64 ((rd_T41 l0 x4_1).f4), .int .i64 ((rd_T41 l0 x4_1).f5)], .int .i64 (((rd_T41 l0 0).f2).length : Int)] (by rfl) rfl rfl (by (try simp only [List.map_toArray, List.map_cons, List.map_nil]); rfl) ?_; with_reducible refine (tipstaffref43_one.calls kj8 ((rd_T41 l0 x4_1).f0) _ _ ((rd_T41 l0 x4_1).f1) _ _ ((rd_T41 l0 x4_1).f2) ((rd_T41 l0 x4_1).f3) ((rd_T41 l0 x4_1).f4) ((rd_T41 l0 x4_1).f5) (((rd_T41 l0 0).f2).length : Int) t207 _ ?side1 ?side2 ?side3 ?side4 A22.out).mono ?_
         (case side1 => repeat (exact (Kd.C_below HR205_1.out HB.out)))
         (case side2 => exact HC205_1.out)
         (case side3 => repeat (exact (Kd.C_below HR205_2.out HB.out)))
         (case side4 => exact HC205_2.out)
         rintro e w25 ⟨rfl, hb⟩; refine ⟨_, rfl, ?_⟩; have n0_ := Aside0.mk (below_step HB.out hb); clear HB; have HB := n0_; clear n0_; (try clear hb)
         (try clear hb2)
         (try clear hk)
         (try clear hi)
         refine hK.out _ _ ⟨(kc_ HB.out hw205_0), (kc_ HB.out hw205_1), (kc_ HB.out hw205_2), (kc_ HB.out hw205_3), (kc_ HB.out hw205_4), (kc_ HB.out hw205_5), (kc_ HB.out hw206_0), (kc_ HB.out hw206_1), (kc_ HB.out hw206_2), (kc_ HB.out hw206_3), (kc_ HB.out hw206_4), (kc_ HB.out hw206_5)⟩ (fun hHeld => ?_); clear hK K; refine norm_ (a' := ?_) ?_ ?_; rotate_left
         ·show Act.put _ (some 52) _ = _
          simp only [Act.put, sA, sB, sC, i64_w, i32_w]; rfl
         refine pure_ (i := 10) (N := some 5) (v := ?_) (a' := ?_) #[X,X,X,X,X,X,X,X,X,X,X] rfl rfl (any_of HT_.out (by kernel_rfl)) (fun _ _ _ h => h) (Or.inl ⟨by rfl, ?_⟩) ?_ ?_; rotate_left
         ·intro w'; go_simp; with_reducible rfl
         rotate_left
         ·simp only [Act.put, sA, sB, sC, i64_w, i32_w]; rfl
         refine done_ (done_of HT_.out (by kernel_rfl)) ?_; try go_wp2
         go_roundg kj8
         case measure => have := HK1.out; have := HJ3.out; have := HJ8.out; omega
         case rel => exact ⟨(wrap64 (x4_1 + 1)), (by rfl), H', ⟨by have := HK1.out; have := HJ3.out; have := HJ8.out; omega⟩, ⟨by repeat (with_reducible exact HB.out)⟩⟩
        rw [if_neg c23] at H; have c23b0 : (t207 == 0) = false := beq_eq_false_iff_ne.mpr c23; have c23b1 : (t207 != 0) = true := bne_iff_ne.mpr c23; simp only [Option.some.injEq, Prod.mk.injEq] at H; obtain ⟨rfl, rfl⟩ := H; try go_wp2
        have n0_ := Aside0.mk (below_drew1 HB.out); clear HB; have HB := n0_; clear n0_; have p205 : 0 ≤ (x4_1 : Int) := of_decide_eq_true (by (with_reducible assumption)); have q205 : x4_1 < (l0.length : Int) := of_decide_eq_true (by (with_reducible assumption)); obtain ⟨ad205, A205_1, c205_1, A205_2, c205_2, e205, hx205_0, hx205_1, hx205_2, hx205_3, hx205_4, hx205_5, hl205_1, hi205_1, hl205_2, hi205_2⟩ := at_T41 HR0.out x4_1 p205 q205; have hw205_5 := hx205_5; have hw205_4 := hx205_4; have hw205_3 := hx205_3; have hw205_2 := hx205_2; have hw205_1 := hx205_1; have hw205_0 := hx205_0; cases e205; replace hx205_0 := kc_ HB.out hx205_0; replace hx205_1 := kc_ HB.out hx205_1; replace hx205_2 := kc_ HB.out hx205_2; replace hx205_3 := kc_ HB.out hx205_3; replace hx205_4 := kc_ HB.out hx205_4; replace hx205_5 := kc_ HB.out hx205_5; have HR205_1 := Aside0.mk hi205_1; have HC205_1 := Aside0.mk hl205_1; clear hi205_1 hl205_1; have HR205_2 := Aside0.mk hi205_2; have HC205_2 := Aside0.mk hl205_2; clear hi205_2 hl205_2; replace p205 := eq_true p205; replace q205 := eq_true q205; have p206 : 0 ≤ (0 : Int) := (by omega); have q206 : 0 < (l0.length : Int) := of_decide_eq_true (by (with_reducible assumption)); obtain ⟨ad206, A206_1, c206_1, A206_2, c206_2, e206, hx206_0, hx206_1, hx206_2, hx206_3, hx206_4, hx206_5, hl206_1, hi206_1, hl206_2, hi206_2⟩ := at_T41 HR0.out 0 p206 q206; have hw206_5 := hx206_5; (try rw [show ((0 : Int)).toNat = 0 from rfl] at hw206_5)
        (try rw [show 0 * 6 = 0 from rfl] at hw206_5)
        (try rw [Addr.add_zero'] at hw206_5)
        have hw206_4 := hx206_4; (try rw [show ((0 : Int)).toNat = 0 from rfl] at hw206_4)
        (try rw [show 0 * 6 = 0 from rfl] at hw206_4)
        (try rw [Addr.add_zero'] at hw206_4)
        have hw206_3 := hx206_3; (try rw [show ((0 : Int)).toNat = 0 from rfl] at hw206_3)
        (try rw [show 0 * 6 = 0 from rfl] at hw206_3)
        (try rw [Addr.add_zero'] at hw206_3)
        have hw206_2 := hx206_2; (try rw [show ((0 : Int)).toNat = 0 from rfl] at hw206_2)
        (try rw [show 0 * 6 = 0 from rfl] at hw206_2)
        (try rw [Addr.add_zero'] at hw206_2)
        have hw206_1 := hx206_1; (try rw [show ((0 : Int)).toNat = 0 from rfl] at hw206_1)
        (try rw [show 0 * 6 = 0 from rfl] at hw206_1)
        (try rw [Addr.add_zero'] at hw206_1)
        have hw206_0 := hx206_0; (try rw [show ((0 : Int)).toNat = 0 from rfl] at hw206_0)
        (try rw [show 0 * 6 = 0 from rfl] at hw206_0)
        (try rw [Addr.add_zero'] at hw206_0)
        obtain rfl : ad205 = ad206 := (by injection e206); have qi206 : (0 < l0.length) = True := eq_true (by omega); (try rw [show ((0 : Int)).toNat = 0 from rfl] at hx206_0)
        (try rw [show 0 * 6 = 0 from rfl] at hx206_0)
        (try rw [Addr.add_zero'] at hx206_0)
        (try rw [show ((0 : Int)).toNat = 0 from rfl] at hx206_1)
        (try rw [show 0 * 6 = 0 from rfl] at hx206_1)
        (try rw [Addr.add_zero'] at hx206_1)
        (try rw [show ((0 : Int)).toNat = 0 from rfl] at hx206_2)
        (try rw [show 0 * 6 = 0 from rfl] at hx206_2)
        (try rw [Addr.add_zero'] at hx206_2)
        (try rw [show ((0 : Int)).toNat = 0 from rfl] at hx206_3)
        (try rw [show 0 * 6 = 0 from rfl] at hx206_3)
        (try rw [Addr.add_zero'] at hx206_3)
        (try rw [show ((0 : Int)).toNat = 0 from rfl] at hx206_4)
        (try rw [show 0 * 6 = 0 from rfl] at hx206_4)
        (try rw [Addr.add_zero'] at hx206_4)
        (try rw [show ((0 : Int)).toNat = 0 from rfl] at hx206_5)
        (try rw [show 0 * 6 = 0 from rfl] at hx206_5)
        (try rw [Addr.add_zero'] at hx206_5)
        replace hx206_0 := kc_ HB.out hx206_0; replace hx206_1 := kc_ HB.out hx206_1; replace hx206_2 := kc_ HB.out hx206_2; replace hx206_3 := kc_ HB.out hx206_3; replace hx206_4 := kc_ HB.out hx206_4; replace hx206_5 := kc_ HB.out hx206_5; have HR206_1 := Aside0.mk hi206_1; have HC206_1 := Aside0.mk hl206_1; clear hi206_1 hl206_1; have HR206_2 := Aside0.mk hi206_2; have HC206_2 := Aside0.mk hl206_2; clear hi206_2 hl206_2; replace p206 := eq_true p206; replace q206 := eq_true q206; refine start_ (n := 11) (S := fun w' => w'.cell? (ad205.add ((x4_1).toNat * 6)) = some (.int .i64 ((rd_T41 l0 x4_1).f0)) ∧ w'.cell? ⟨(ad205.add ((x4_1).toNat * 6)).block, (ad205.add ((x4_1).toNat * 6)).off + 1, none⟩ = some (.slice A205_1 ((rd_T41 l0 x4_1).f1).length c205_1) ∧ w'.cell? ⟨(ad205.add ((x4_1).toNat * 6)).block, (ad205.add ((x4_1).toNat * 6)).off + 2, none⟩ = some (.slice A205_2 ((rd_T41 l0 x4_1).f2).length c205_2) ∧ w'.cell? ⟨(ad205.add ((x4_1).toNat * 6)).block, (ad205.add ((x4_1).toNat * 6)).off + 3, none⟩ = some (.int .u64 ((rd_T41 l0 x4_1).f3)) ∧ w'.cell? ⟨(ad205.add ((x4_1).toNat * 6)).block, (ad205.add ((x4_1).toNat * 6)).off + 4, none⟩ = some (.int .u64 ((rd_T41 l0 x4_1).f4)) ∧ w'.cell? ⟨(ad205.add ((x4_1).toNat * 6)).block, (ad205.add ((x4_1).toNat * 6)).off + 5, none⟩ = some (.int .i64 ((rd_T41 l0 x4_1).f5)) ∧ w'.cell? ad205 = some (.int .i64 ((rd_T41 l0 0).f0)) ∧ w'.cell? ⟨ad205.block, ad205.off + 1, none⟩ = some (.slice A206_1 ((rd_T41 l0 0).f1).length c206_1) ∧ w'.cell? ⟨ad205.block, ad205.off + 2, none⟩ = some (.slice A206_2 ((rd_T41 l0 0).f2).length c206_2) ∧ w'.cell? ⟨ad205.block, ad205.off + 3, none⟩ = some (.int .u64 ((rd_T41 l0 0).f3)) ∧ w'.cell? ⟨ad205.block, ad205.off + 4, none⟩ = some (.int .u64 ((rd_T41 l0 0).f4)) ∧ w'.cell? ⟨ad205.block, ad205.off + 5, none⟩ = some (.int .i64 ((rd_T41 l0 0).f5))) (ds := []) #[Z,Z,Z,Z,Z,Z,Z,Z,Z,Z,Z] (by kernel_rfl) rfl rfl ⟨(kc_ HB.out hw205_0), (kc_ HB.out hw205_1), (kc_ HB.out hw205_2), (kc_ HB.out hw205_3), (kc_ HB.out hw205_4), (kc_ HB.out hw205_5), (kc_ HB.out hw206_0), (kc_ HB.out hw206_1), (kc_ HB.out hw206_2), (kc_ HB.out hw206_3), (kc_ HB.out hw206_4), (kc_ HB.out hw206_5)⟩ (fun hHeld => ?_); refine with_tabW tipstaffref43_Check.tab10 tipstaffref43_Check.bits10 (fun HT_ HW_ => ?_); generalize wc.drew = w26 at HB HR205_1 HR205_2 HR206_1 HR206_2 hx205_0 hx205_1 hx205_2 hx205_3 hx205_4 hx205_5 hx206_0 hx206_1 hx206_2 hx206_3 hx206_4 hx206_5 hHeld ⊢; refine pure_ (i := 0) (N := some 43) (v := ?_) (a' := ?_) #[X,Z,Z,Z,Z,Z,Z,Z,Z,Z,Z] rfl rfl (any_of HT_.out (by kernel_rfl)) (fun _ _ _ h => h) (Or.inl ⟨by rfl, ?_⟩) ?_ ?_; rotate_left
        ·intro w'; go_simp; with_reducible rfl
        rotate_left
        ·simp only [Act.put, sA, sB, sC, i64_w, i32_w]; rfl
        refine pure_ (i := 1) (N := some 44) (v := ?_) (a' := ?_) #[X,X,Z,Z,Z,Z,Z,Z,Z,Z,Z] rfl rfl (any_of HT_.out (by kernel_rfl)) (fun _ _ _ h => h) (Or.inl ⟨by rfl, ?_⟩) ?_ ?_; rotate_left
        ·intro w'; go_simp; with_reducible rfl
        rotate_left
        ·simp only [Act.put, sA, sB, sC, i64_w, i32_w]; rfl
        refine pure_ (i := 2) (N := some 45) (v := ?_) (a' := ?_) #[X,X,X,Z,Z,Z,Z,Z,Z,Z,Z] rfl rfl (any_of HT_.out (by kernel_rfl)) (fun _ _ _ h => h) (Or.inl ⟨by rfl, ?_⟩) ?_ ?_; rotate_left
        ·intro w'; go_simp; with_reducible rfl
        rotate_left
        ·simp only [Act.put, sA, sB, sC, i64_w, i32_w]; rfl
        refine pure_ (i := 4) (N := some 47) (v := ?_) (a' := ?_) #[X,X,X,Z,X,Z,Z,Z,Z,Z,Z] rfl rfl (any_of HT_.out (by kernel_rfl)) (fun _ _ _ h => h) (Or.inl ⟨by rfl, ?_⟩) ?_ ?_; rotate_left
        ·intro w'; go_simp; with_reducible rfl
        rotate_left
        ·simp only [Act.put, sA, sB, sC, i64_w, i32_w]; rfl
        refine pure_ (i := 5) (N := some 48) (v := ?_) (a' := ?_) #[X,X,X,Z,X,X,Z,Z,Z,Z,Z] rfl rfl (any_of HT_.out (by kernel_rfl)) (fun _ _ _ h => h) (Or.inl ⟨by rfl, ?_⟩) ?_ ?_; rotate_left
        ·intro w'; go_simp; with_reducible rfl
        rotate_left
        ·simp only [Act.put, sA, sB, sC, i64_w, i32_w]; rfl
        refine pure_ (i := 6) (N := some 49) (v := ?_) (a' := ?_) #[X,X,X,Z,X,X,X,Z,Z,Z,Z] rfl rfl (any_of HT_.out (by kernel_rfl)) (fun _ _ _ h => h) (Or.inl ⟨by rfl, ?_⟩) ?_ ?_; rotate_left
        ·intro w'; go_simp; with_reducible rfl
        rotate_left
        ·simp only [Act.put, sA, sB, sC, i64_w, i32_w]; rfl
        refine take_ (i := 3) (N := some 46) (v := ?_) (a' := ?_) #[X,X,X,X,X,X,X,Z,Z,Z,Z] rfl rfl (take_ofW HT_.out HW_.out (by kernel_rfl)) (fun _ _ _ h => h) (Or.inl ⟨by rfl, ?_⟩) hHeld ?_ ?_; rotate_left
        ·rintro w' ⟨s0, s1, s2, s3, s4, s5, s6, s7, s8, s9, s10, s11⟩; go_simp; with_reducible rfl
        rotate_left
        ·simp only [Act.put, sA, sB, sC, i64_w, i32_w]; rfl
        refine take_ (i := 7) (N := some 50) (v := ?_) (a' := ?_) #[X,X,X,X,X,X,X,X,Z,Z,Z] rfl rfl (take_ofW HT_.out HW_.out (by kernel_rfl)) (fun _ _ _ h => h) (Or.inl ⟨by rfl, ?_⟩) hHeld ?_ ?_; rotate_left
        ·rintro w' ⟨s0, s1, s2, s3, s4, s5, s6, s7, s8, s9, s10, s11⟩; go_simp; with_reducible rfl
        rotate_left
        ·simp only [Act.put, sA, sB, sC, i64_w, i32_w]; rfl
        refine pure_ (i := 8) (N := some 51) (v := ?_) (a' := ?_) #[X,X,X,X,X,X,X,X,X,Z,Z] rfl rfl (any_of HT_.out (by kernel_rfl)) (fun _ _ _ h => h) (Or.inl ⟨by rfl, ?_⟩) ?_ ?_; rotate_left
        ·intro w'; go_simp; with_reducible rfl
        rotate_left
        ·simp only [Act.put, sA, sB, sC, i64_w, i32_w]; rfl
        refine one_ (i := 9) (N := some 52) #[X,X,X,X,X,X,X,X,X,X,Z] rfl rfl (one_of HT_.out (by kernel_rfl)) (by decide) (fun K hK => ?_); refine goes_ Tryd.func43 (by kernel_rfl) rfl #[.agg #[.int .i64 ((rd_T41 l0 x4_1).f0), .slice A205_1 ((rd_T41 l0 x4_1).f1).length c205_1, .slice A205_2 ((rd_T41 l0 x4_1).f2).length c205_2, .int .u64 ((rd_T41 l0 x4_1).f3), .int .u64 ((rd_T41 l0 x4_1).f4), .int .i64 ((rd_T41 l0 x4_1).f5)], .int .i64 (((rd_T41 l0 0).f2).length : Int)] (by rfl) rfl rfl (by (try simp only [List.map_toArray, List.map_cons, List.map_nil]); rfl) ?_; with_reducible refine (tipstaffref43_one.calls kj8 ((rd_T41 l0 x4_1).f0) _ _ ((rd_T41 l0 x4_1).f1) _ _ ((rd_T41 l0 x4_1).f2) ((rd_T41 l0 x4_1).f3) ((rd_T41 l0 x4_1).f4) ((rd_T41 l0 x4_1).f5) (((rd_T41 l0 0).f2).length : Int) t207 _ ?side1 ?side2 ?side3 ?side4 A22.out).mono ?_
        (case side1 => repeat (exact (Kd.C_below HR205_1.out HB.out)))
        (case side2 => exact HC205_1.out)
        (case side3 => repeat (exact (Kd.C_below HR205_2.out HB.out)))
        (case side4 => exact HC205_2.out)
        rintro e w27 ⟨rfl, hb⟩; refine ⟨_, rfl, ?_⟩; have n0_ := Aside0.mk (below_step HB.out hb); clear HB; have HB := n0_; clear n0_; (try clear hb)
        (try clear hb2)
        (try clear hk)
        (try clear hi)
        refine hK.out _ _ ⟨(kc_ HB.out hw205_0), (kc_ HB.out hw205_1), (kc_ HB.out hw205_2), (kc_ HB.out hw205_3), (kc_ HB.out hw205_4), (kc_ HB.out hw205_5), (kc_ HB.out hw206_0), (kc_ HB.out hw206_1), (kc_ HB.out hw206_2), (kc_ HB.out hw206_3), (kc_ HB.out hw206_4), (kc_ HB.out hw206_5)⟩ (fun hHeld => ?_); clear hK K; refine norm_ (a' := ?_) ?_ ?_; rotate_left
        ·show Act.put _ (some 52) _ = _
         simp only [Act.put, sA, sB, sC, i64_w, i32_w]; rfl
        refine pure_ (i := 10) (N := some 5) (v := ?_) (a' := ?_) #[X,X,X,X,X,X,X,X,X,X,X] rfl rfl (any_of HT_.out (by kernel_rfl)) (fun _ _ _ h => h) (Or.inl ⟨by rfl, ?_⟩) ?_ ?_; rotate_left
        ·intro w'; go_simp; with_reducible rfl
        rotate_left
        ·simp only [Act.put, sA, sB, sC, i64_w, i32_w]; rfl
        refine done_ (done_of HT_.out (by kernel_rfl)) ?_; try go_wp2
        go_ret2; exact ⟨by rfl, by repeat (with_reducible exact HB.out)⟩
       rw [if_neg c21] at H; exact absurd H (by simp)
      rw [if_neg c20] at H; exact absurd H (by simp)
     rw [if_neg c19] at H; exact absurd H (by simp)
  rw [if_neg c3] at H; have c3b0 : decide (x4_1 < (l0.length : Int)) = false := decide_eq_false c3; clear c3; simp only [Option.some.injEq, Prod.mk.injEq] at H; obtain ⟨rfl, rfl⟩ := H; go_wp2; go_ret2; exact ⟨by rfl, by repeat (with_reducible exact HB.out)⟩

end Go.Proofs.YtenlokaaloenmaaDoor.S
end

section
namespace Go.Proofs.YtenlokaaloenmaaDoor.S
open Go.RowKit Go.Proofs.YtenlokaaloenmaaDoorW.PrintWords Go.Proofs.YtenlokaaloenmaaDoorW.PrintLast Go.Proofs.YtenlokaaloenmaaDoorW.PrintMore
attribute [local go_sem] Go.Proofs.YtenlokaaloenmaaDoorW.PrintXtra.isSome_setCell max2_int min2_int max_two min_two max_three min_three max_four min_four   -- for this text's walks alone
set_option linter.unusedVariables false
set_option linter.unusedSimpArgs false

/-! ### tipstaffref43_Changes: function 32 -/
def tipstaffref43_Changes.l0 : Nat → List (S41) → List Int → Int → Int → Int → Option (List Int × Int)
 | 0, _, _, _, _, _ => none
 | k + 1, x0, x6, x7, x8, x9 => if x9 < (x0.length : Int) then (if 0 ≤ x9 then (if ((rd_T41 x0 x9).f3) = x7 then (if ((rd_T41 x0 x9).f4) = x8 then (tipstaffref43_Changes.l0 k x0 x6 ((rd_T41 x0 x9).f3) ((rd_T41 x0 x9).f4) (wrap64 (x9 + 1))) else (if x6.length < 17592186044416 then (tipstaffref43_Changes.l0 k x0 (x6 ++ [x9]) ((rd_T41 x0 x9).f3) ((rd_T41 x0 x9).f4) (wrap64 (x9 + 1))) else (none))) else (if x6.length < 17592186044416 then (tipstaffref43_Changes.l0 k x0 (x6 ++ [x9]) ((rd_T41 x0 x9).f3) ((rd_T41 x0 x9).f4) (wrap64 (x9 + 1))) else (none))) else (none)) else (some (x6, 0))
def tipstaffref43_Changes.f (k : Nat) (l0 : List (S41)) : Option (List Int × Int) := (tipstaffref43_Check.f k l0).bind fun bt274 => (if bt274.1 = 0 then (tipstaffref43_Changes.l0 k l0 ([] : List Int) 0 0 0) else (some (([] : List Int), bt274.1)))
set_option maxHeartbeats 8000000 in
set_option maxRecDepth 100000 in
theorem tipstaffref43_Changes.calls (k : Nat) (A0 : Option Addr) (c0 : Nat) (l0 : List (S41)) (r1 : List Int) (r2 : Int) (w : World) (hr0 : Kd.C k41 w A0 l0.length l0) (hc0 : l0.length ≤ c0) (h : tipstaffref43_Changes.f k l0 = some (r1, r2)) :
  Calls Tryd.prog 32 #[.slice A0 l0.length c0] w fun e w' => ∃ v0_ : Value, e = .returned (.tuple #[v0_, .int .i64 r2]) ∧ Kd.R (Kd.int .i64) 3 w' w.heap.size (fun _ => True) v0_ r1 ∧ Below w.heap.size w w' := by
 have HR0 := Aside0.mk hr0; have HC0 := Aside0.mk hc0; clear hr0 hc0; have HB := Aside0.mk (Below.refl w.heap.size w); have H : ((tipstaffref43_Check.f k l0).bind fun bt274 => (if bt274.1 = 0 then (tipstaffref43_Changes.l0 k l0 ([] : List Int) 0 0 0) else (some (([] : List Int), bt274.1)))) = some (r1, r2) := h; clear h; replace H := Option.bind_eq_some_iff.mp H; obtain ⟨⟨t274, t275⟩, A20, H⟩ := H; replace H : (if t274 = 0 then (tipstaffref43_Changes.l0 k l0 ([] : List Int) 0 0 0) else (some (([] : List Int), t274))) = some (r1, r2) := H; have A2 := Aside0.mk A20; clear A20; by_cases c3 : t274 = 0
 ·rw [if_pos c3] at H; have c3b0 : (t274 == 0) = true := beq_iff_eq.mpr c3; have c3b1 : (t274 != 0) = false := bne_eq_false_iff_eq.mpr c3; clear c3; have H' := Aside0.mk H; clear H; go_enter Tryd.func32, Tryd.ntmps32
  go_wp2_with (first | (go_at_call 18; (with_reducible refine (tipstaffref43_Check.calls k _ _ l0 t274 t275 _ ?side1 ?side2 A2.out).mono ?_); (case side1 => repeat (exact HR0.out)); (case side2 => exact HC0.out); rintro e w4 ⟨rfl, hb⟩; have n0_ := Aside0.mk (below_step HB.out hb); clear HB; have HB := n0_; clear n0_; (try clear hb); )); repeat (go_quiet (first | (go_at_call 18; (with_reducible refine (tipstaffref43_Check.calls k _ _ l0 t274 t275 _ ?side1 ?side2 A2.out).mono ?_); (case side1 => repeat (first | exact HR0.out | (with_reducible refine Kd.C_alloc ?_ _) | (with_reducible refine Kd.C_drewN ?_ _) | (with_reducible refine Kd.C_drew ?_))); (case side2 => exact HC0.out); rintro e w4 ⟨rfl, hb⟩; have n0_ := Aside0.mk (below_step (by repeat (first | (with_reducible first | exact HB.out | apply below_alloc | apply pw_below_drewN | apply below_drew1) | exact HB.out)) hb); clear HB; have HB := n0_; clear n0_; )); try go_wp2_with (first | (go_at_call 18; (with_reducible refine (tipstaffref43_Check.calls k _ _ l0 t274 t275 _ ?side1 ?side2 A2.out).mono ?_); (case side1 => repeat (first | exact HR0.out | (with_reducible refine Kd.C_alloc ?_ _) | (with_reducible refine Kd.C_drewN ?_ _) | (with_reducible refine Kd.C_drew ?_))); (case side2 => exact HC0.out); rintro e w4 ⟨rfl, hb⟩; have n0_ := Aside0.mk (below_step (by repeat (first | (with_reducible first | exact HB.out | apply below_alloc | apply pw_below_drewN | apply below_drew1) | exact HB.out)) hb); clear HB; have HB := n0_; clear n0_; )))
  go_loopg [6, 7, 8, 9] k (fun kq v6 v7 v8 v9 w' => ∃ (x6_1 : List Int) (x7_1 : Int) (x8_1 : Int) (x9_1 : Int), v7 = .int .u64 x7_1 ∧ v8 = .int .u64 x8_1 ∧ v9 = .int .i64 x9_1 ∧ Aside0 (tipstaffref43_Changes.l0 kq l0 x6_1 x7_1 x8_1 x9_1 = some (r1, r2)) ∧ Aside0 (kq ≤ k) ∧ Aside0 (Kd.R (Kd.int .i64) 3 w' w.heap.size (fun _ => True) v6 x6_1) ∧ Aside0 (Below w.heap.size w w'))
  case atStart => exact ⟨(([] : List Int)), (0), (0), (0), (by rfl), (by rfl), (by rfl), H', ⟨Nat.le_refl _⟩, ⟨by exact Kd.R_nil _ _ _ _ _⟩, ⟨by repeat (with_reducible exact HB.out)⟩⟩
  clear H'; try clear p2
  try clear c3
  try clear c3b0
  try clear c3b1
  obtain ⟨x6_1, x7_1, x8_1, x9_1, rfl, rfl, rfl, HA, HK1, HO_6, HB⟩ := hrel; cases gk with
  | zero => exact absurd HA.out (by simp [tipstaffref43_Changes.l0])
  | succ k1 =>
   have H := HA.out; clear HA; simp only [tipstaffref43_Changes.l0] at H; by_cases c5 : x9_1 < (l0.length : Int)
   ·rw [if_pos c5] at H; have c5b0 : decide (x9_1 < (l0.length : Int)) = true := decide_eq_true c5; clear c5; by_cases c6 : 0 ≤ x9_1
    ·rw [if_pos c6] at H; have c6b0 : decide (0 ≤ x9_1) = true := decide_eq_true c6; clear c6; by_cases c7 : ((rd_T41 l0 x9_1).f3) = x7_1
     ·rw [if_pos c7] at H; have c7b0 : (((rd_T41 l0 x9_1).f3) == x7_1) = true := beq_iff_eq.mpr c7; have c7b1 : (((rd_T41 l0 x9_1).f3) != x7_1) = false := bne_eq_false_iff_eq.mpr c7; clear c7; by_cases c8 : ((rd_T41 l0 x9_1).f4) = x8_1
      ·rw [if_pos c8] at H; have c8b0 : (((rd_T41 l0 x9_1).f4) == x8_1) = true := beq_iff_eq.mpr c8; have c8b1 : (((rd_T41 l0 x9_1).f4) != x8_1) = false := bne_eq_false_iff_eq.mpr c8; clear c8; have H' := Aside0.mk H; clear H; have p276 : 0 ≤ (x9_1 : Int) := of_decide_eq_true (by (with_reducible assumption)); have q276 : x9_1 < (l0.length : Int) := of_decide_eq_true (by (with_reducible assumption)); obtain ⟨ad276, A276_1, c276_1, A276_2, c276_2, e276, hx276_0, hx276_1, hx276_2, hx276_3, hx276_4, hx276_5, hl276_1, hi276_1, hl276_2, hi276_2⟩ := at_T41 HR0.out x9_1 p276 q276; cases e276; replace hx276_0 := kc_ HB.out hx276_0; replace hx276_1 := kc_ HB.out hx276_1; replace hx276_2 := kc_ HB.out hx276_2; replace hx276_3 := kc_ HB.out hx276_3; replace hx276_4 := kc_ HB.out hx276_4; replace hx276_5 := kc_ HB.out hx276_5; have HR276_1 := Aside0.mk hi276_1; have HC276_1 := Aside0.mk hl276_1; clear hi276_1 hl276_1; have HR276_2 := Aside0.mk hi276_2; have HC276_2 := Aside0.mk hl276_2; clear hi276_2 hl276_2; replace p276 := eq_true p276; replace q276 := eq_true q276; have p277 : 0 ≤ (x9_1 : Int) := of_decide_eq_true (by (with_reducible assumption)); have q277 : x9_1 < (l0.length : Int) := of_decide_eq_true (by (with_reducible assumption)); obtain ⟨ad277, A277_1, c277_1, A277_2, c277_2, e277, hx277_0, hx277_1, hx277_2, hx277_3, hx277_4, hx277_5, hl277_1, hi277_1, hl277_2, hi277_2⟩ := at_T41 HR0.out x9_1 p277 q277; obtain rfl : ad276 = ad277 := (by injection e277); replace hx277_0 := kc_ HB.out hx277_0; replace hx277_1 := kc_ HB.out hx277_1; replace hx277_2 := kc_ HB.out hx277_2; replace hx277_3 := kc_ HB.out hx277_3; replace hx277_4 := kc_ HB.out hx277_4; replace hx277_5 := kc_ HB.out hx277_5; have HR277_1 := Aside0.mk hi277_1; have HC277_1 := Aside0.mk hl277_1; clear hi277_1 hl277_1; have HR277_2 := Aside0.mk hi277_2; have HC277_2 := Aside0.mk hl277_2; clear hi277_2 hl277_2; replace p277 := eq_true p277; replace q277 := eq_true q277; have ea_ := Option.some.inj (hx276_1.symm.trans hx277_1); injection ea_ with ea_ en_ ec_; subst ea_; subst ec_; clear en_; have ea_ := Option.some.inj (hx276_2.symm.trans hx277_2); injection ea_ with ea_ en_ ec_; subst ea_; subst ec_; clear en_; have p278 : 0 ≤ (x9_1 : Int) := of_decide_eq_true (by (with_reducible assumption)); have q278 : x9_1 < (l0.length : Int) := of_decide_eq_true (by (with_reducible assumption)); obtain ⟨ad278, A278_1, c278_1, A278_2, c278_2, e278, hx278_0, hx278_1, hx278_2, hx278_3, hx278_4, hx278_5, hl278_1, hi278_1, hl278_2, hi278_2⟩ := at_T41 HR0.out x9_1 p278 q278; obtain rfl : ad276 = ad278 := (by injection e278); replace hx278_0 := kc_ HB.out hx278_0; replace hx278_1 := kc_ HB.out hx278_1; replace hx278_2 := kc_ HB.out hx278_2; replace hx278_3 := kc_ HB.out hx278_3; replace hx278_4 := kc_ HB.out hx278_4; replace hx278_5 := kc_ HB.out hx278_5; have HR278_1 := Aside0.mk hi278_1; have HC278_1 := Aside0.mk hl278_1; clear hi278_1 hl278_1; have HR278_2 := Aside0.mk hi278_2; have HC278_2 := Aside0.mk hl278_2; clear hi278_2 hl278_2; replace p278 := eq_true p278; replace q278 := eq_true q278; have ea_ := Option.some.inj (hx276_1.symm.trans hx278_1); injection ea_ with ea_ en_ ec_; subst ea_; subst ec_; clear en_; have ea_ := Option.some.inj (hx276_2.symm.trans hx278_2); injection ea_ with ea_ en_ ec_; subst ea_; subst ec_; clear en_; have p279 : 0 ≤ (x9_1 : Int) := of_decide_eq_true (by (with_reducible assumption)); have q279 : x9_1 < (l0.length : Int) := of_decide_eq_true (by (with_reducible assumption)); obtain ⟨ad279, A279_1, c279_1, A279_2, c279_2, e279, hx279_0, hx279_1, hx279_2, hx279_3, hx279_4, hx279_5, hl279_1, hi279_1, hl279_2, hi279_2⟩ := at_T41 HR0.out x9_1 p279 q279; obtain rfl : ad276 = ad279 := (by injection e279); replace hx279_0 := kc_ HB.out hx279_0; replace hx279_1 := kc_ HB.out hx279_1; replace hx279_2 := kc_ HB.out hx279_2; replace hx279_3 := kc_ HB.out hx279_3; replace hx279_4 := kc_ HB.out hx279_4; replace hx279_5 := kc_ HB.out hx279_5; have HR279_1 := Aside0.mk hi279_1; have HC279_1 := Aside0.mk hl279_1; clear hi279_1 hl279_1; have HR279_2 := Aside0.mk hi279_2; have HC279_2 := Aside0.mk hl279_2; clear hi279_2 hl279_2; replace p279 := eq_true p279; replace q279 := eq_true q279; have ea_ := Option.some.inj (hx276_1.symm.trans hx279_1); injection ea_ with ea_ en_ ec_; subst ea_; subst ec_; clear en_; have ea_ := Option.some.inj (hx276_2.symm.trans hx279_2); injection ea_ with ea_ en_ ec_; subst ea_; subst ec_; clear en_; go_wp2; repeat (go_quiet (fail); try go_wp2)
       go_roundg k1
       case measure => have := HK1.out; omega
       case rel => exact ⟨(x6_1), ((rd_T41 l0 x9_1).f3), ((rd_T41 l0 x9_1).f4), (wrap64 (x9_1 + 1)), (by rfl), (by rfl), (by rfl), H', ⟨by have := HK1.out; omega⟩, ⟨by (with_reducible repeat (apply Kd.R_drewN)); exact HO_6.out⟩, ⟨by repeat ((with_reducible first | exact HB.out | apply pw_below_drewN ))⟩⟩
      rw [if_neg c8] at H; have c8b0 : (((rd_T41 l0 x9_1).f4) == x8_1) = false := beq_eq_false_iff_ne.mpr c8; have c8b1 : (((rd_T41 l0 x9_1).f4) != x8_1) = true := bne_iff_ne.mpr c8; by_cases c9 : x6_1.length < 17592186044416
      ·rw [if_pos c9] at H; have LMc9 := Aside0.mk c9; clear c9; obtain ⟨y280, hy280⟩ : ∃ y_ : List Int, y_ = (x6_1 ++ [x9_1]) := ⟨_, rfl⟩; replace H : (tipstaffref43_Changes.l0 k1 l0 y280 ((rd_T41 l0 x9_1).f3) ((rd_T41 l0 x9_1).f4) (wrap64 (x9_1 + 1))) = some (r1, r2) := by (rw [hy280]; with_reducible exact H)
       have Ny280 := Aside0.mk hy280; clear hy280; have H' := Aside0.mk H; clear H; have p276 : 0 ≤ (x9_1 : Int) := of_decide_eq_true (by (with_reducible assumption)); have q276 : x9_1 < (l0.length : Int) := of_decide_eq_true (by (with_reducible assumption)); obtain ⟨ad276, A276_1, c276_1, A276_2, c276_2, e276, hx276_0, hx276_1, hx276_2, hx276_3, hx276_4, hx276_5, hl276_1, hi276_1, hl276_2, hi276_2⟩ := at_T41 HR0.out x9_1 p276 q276; cases e276; replace hx276_0 := kc_ HB.out hx276_0; replace hx276_1 := kc_ HB.out hx276_1; replace hx276_2 := kc_ HB.out hx276_2; replace hx276_3 := kc_ HB.out hx276_3; replace hx276_4 := kc_ HB.out hx276_4; replace hx276_5 := kc_ HB.out hx276_5; have HR276_1 := Aside0.mk hi276_1; have HC276_1 := Aside0.mk hl276_1; clear hi276_1 hl276_1; have HR276_2 := Aside0.mk hi276_2; have HC276_2 := Aside0.mk hl276_2; clear hi276_2 hl276_2; replace p276 := eq_true p276; replace q276 := eq_true q276; have p277 : 0 ≤ (x9_1 : Int) := of_decide_eq_true (by (with_reducible assumption)); have q277 : x9_1 < (l0.length : Int) := of_decide_eq_true (by (with_reducible assumption)); obtain ⟨ad277, A277_1, c277_1, A277_2, c277_2, e277, hx277_0, hx277_1, hx277_2, hx277_3, hx277_4, hx277_5, hl277_1, hi277_1, hl277_2, hi277_2⟩ := at_T41 HR0.out x9_1 p277 q277; obtain rfl : ad276 = ad277 := (by injection e277); replace hx277_0 := kc_ HB.out hx277_0; replace hx277_1 := kc_ HB.out hx277_1; replace hx277_2 := kc_ HB.out hx277_2; replace hx277_3 := kc_ HB.out hx277_3; replace hx277_4 := kc_ HB.out hx277_4; replace hx277_5 := kc_ HB.out hx277_5; have HR277_1 := Aside0.mk hi277_1; have HC277_1 := Aside0.mk hl277_1; clear hi277_1 hl277_1; have HR277_2 := Aside0.mk hi277_2; have HC277_2 := Aside0.mk hl277_2; clear hi277_2 hl277_2; replace p277 := eq_true p277; replace q277 := eq_true q277; have ea_ := Option.some.inj (hx276_1.symm.trans hx277_1); injection ea_ with ea_ en_ ec_; subst ea_; subst ec_; clear en_; have ea_ := Option.some.inj (hx276_2.symm.trans hx277_2); injection ea_ with ea_ en_ ec_; subst ea_; subst ec_; clear en_; go_wp2_with (first | ((with_reducible refine gate_builtin (b := .append) (xs := #[.tmp 40, .tmp 42]) rfl ?_); at_builtin; refine Kd.R_append (Kd.int .i64) (w0 := w) w.heap.size rfl (.tmp 40) (.tmp 42) 22 3 (.int .i64 0) 8 rfl Tryd.underlying22 info3 rfl (by decide) (by omega) u6 x6_1 x9_1 [.int .i64 x9_1] (fun _ => True) (fun _ => False) rfl rfl ?aP (fun _ hk => hk.elim) ?aF ?aO ?aB ?aS ?aL ?_; (case aP => exact rfl); (case aB => exact HB.out); (case aF => exact (fun _ _ => trivial)); (case aO => exact HO_6.out); (case aS => exact (below_size HB.out)); (case aL => have := LMc9.out; omega); intro v281 w10 ho hb hg hat; rw [← Ny280.out] at ho; have n0_ := Aside0.mk (hb); have n1_ := Aside0.mk (ho); clear HB; clear HO_6; have HB := n0_; have HO282 := n1_; clear n0_ n1_; clear ho hb hg hat; have p283 : 0 ≤ (x9_1 : Int) := of_decide_eq_true (by (with_reducible assumption)); have q283 : x9_1 < (l0.length : Int) := of_decide_eq_true (by (with_reducible assumption)); obtain ⟨ad283, A283_1, c283_1, A283_2, c283_2, e283, hx283_0, hx283_1, hx283_2, hx283_3, hx283_4, hx283_5, hl283_1, hi283_1, hl283_2, hi283_2⟩ := at_T41 HR0.out x9_1 p283 q283; obtain rfl : ad276 = ad283 := (by injection e283); replace hx283_0 := kc_ HB.out hx283_0; replace hx283_1 := kc_ HB.out hx283_1; replace hx283_2 := kc_ HB.out hx283_2; replace hx283_3 := kc_ HB.out hx283_3; replace hx283_4 := kc_ HB.out hx283_4; replace hx283_5 := kc_ HB.out hx283_5; have HR283_1 := Aside0.mk hi283_1; have HC283_1 := Aside0.mk hl283_1; clear hi283_1 hl283_1; have HR283_2 := Aside0.mk hi283_2; have HC283_2 := Aside0.mk hl283_2; clear hi283_2 hl283_2; replace p283 := eq_true p283; replace q283 := eq_true q283; have p284 : 0 ≤ (x9_1 : Int) := of_decide_eq_true (by (with_reducible assumption)); have q284 : x9_1 < (l0.length : Int) := of_decide_eq_true (by (with_reducible assumption)); obtain ⟨ad284, A284_1, c284_1, A284_2, c284_2, e284, hx284_0, hx284_1, hx284_2, hx284_3, hx284_4, hx284_5, hl284_1, hi284_1, hl284_2, hi284_2⟩ := at_T41 HR0.out x9_1 p284 q284; obtain rfl : ad276 = ad284 := (by injection e284); replace hx284_0 := kc_ HB.out hx284_0; replace hx284_1 := kc_ HB.out hx284_1; replace hx284_2 := kc_ HB.out hx284_2; replace hx284_3 := kc_ HB.out hx284_3; replace hx284_4 := kc_ HB.out hx284_4; replace hx284_5 := kc_ HB.out hx284_5; have HR284_1 := Aside0.mk hi284_1; have HC284_1 := Aside0.mk hl284_1; clear hi284_1 hl284_1; have HR284_2 := Aside0.mk hi284_2; have HC284_2 := Aside0.mk hl284_2; clear hi284_2 hl284_2; replace p284 := eq_true p284; replace q284 := eq_true q284; have ea_ := Option.some.inj (hx283_1.symm.trans hx284_1); injection ea_ with ea_ en_ ec_; subst ea_; subst ec_; clear en_; have ea_ := Option.some.inj (hx283_2.symm.trans hx284_2); injection ea_ with ea_ en_ ec_; subst ea_; subst ec_; clear en_)); repeat (go_quiet (first | ((with_reducible refine gate_builtin (b := .append) (xs := #[.tmp 40, .tmp 42]) rfl ?_); at_builtin; refine Kd.R_append (Kd.int .i64) (w0 := w) w.heap.size rfl (.tmp 40) (.tmp 42) 22 3 (.int .i64 0) 8 rfl Tryd.underlying22 info3 rfl (by decide) (by omega) u6 x6_1 x9_1 [.int .i64 x9_1] (fun _ => True) (fun _ => False) rfl rfl ?aP (fun _ hk => hk.elim) ?aF ?aO ?aB ?aS ?aL ?_; (case aP => exact rfl); (case aB => exact (by repeat (first | (with_reducible first | exact HB.out | apply below_alloc | apply pw_below_drewN | apply below_drew1) | exact HB.out))); (case aF => exact (fun _ _ => trivial)); (case aO => exact HO_6.out); (case aS => exact (below_size (by repeat (first | (with_reducible first | exact HB.out | apply below_alloc | apply pw_below_drewN | apply below_drew1) | exact HB.out)))); (case aL => have := LMc9.out; omega); intro v281 w10 ho hb hg hat; rw [← Ny280.out] at ho; have n0_ := Aside0.mk (hb); have n1_ := Aside0.mk (ho); clear HB; clear HO_6; have HB := n0_; have HO282 := n1_; clear n0_ n1_; clear ho hb hg hat; have p283 : 0 ≤ (x9_1 : Int) := of_decide_eq_true (by first | (with_reducible assumption) | assumption); have q283 : x9_1 < (l0.length : Int) := of_decide_eq_true (by first | (with_reducible assumption) | assumption); obtain ⟨ad283, A283_1, c283_1, A283_2, c283_2, e283, hx283_0, hx283_1, hx283_2, hx283_3, hx283_4, hx283_5, hl283_1, hi283_1, hl283_2, hi283_2⟩ := at_T41 HR0.out x9_1 p283 q283; obtain rfl : ad276 = ad283 := (by injection e283); replace hx283_0 := kc_ HB.out hx283_0; replace hx283_1 := kc_ HB.out hx283_1; replace hx283_2 := kc_ HB.out hx283_2; replace hx283_3 := kc_ HB.out hx283_3; replace hx283_4 := kc_ HB.out hx283_4; replace hx283_5 := kc_ HB.out hx283_5; have HR283_1 := Aside0.mk hi283_1; have HC283_1 := Aside0.mk hl283_1; clear hi283_1 hl283_1; have HR283_2 := Aside0.mk hi283_2; have HC283_2 := Aside0.mk hl283_2; clear hi283_2 hl283_2; replace p283 := eq_true p283; replace q283 := eq_true q283; have p284 : 0 ≤ (x9_1 : Int) := of_decide_eq_true (by first | (with_reducible assumption) | assumption); have q284 : x9_1 < (l0.length : Int) := of_decide_eq_true (by first | (with_reducible assumption) | assumption); obtain ⟨ad284, A284_1, c284_1, A284_2, c284_2, e284, hx284_0, hx284_1, hx284_2, hx284_3, hx284_4, hx284_5, hl284_1, hi284_1, hl284_2, hi284_2⟩ := at_T41 HR0.out x9_1 p284 q284; obtain rfl : ad276 = ad284 := (by injection e284); replace hx284_0 := kc_ HB.out hx284_0; replace hx284_1 := kc_ HB.out hx284_1; replace hx284_2 := kc_ HB.out hx284_2; replace hx284_3 := kc_ HB.out hx284_3; replace hx284_4 := kc_ HB.out hx284_4; replace hx284_5 := kc_ HB.out hx284_5; have HR284_1 := Aside0.mk hi284_1; have HC284_1 := Aside0.mk hl284_1; clear hi284_1 hl284_1; have HR284_2 := Aside0.mk hi284_2; have HC284_2 := Aside0.mk hl284_2; clear hi284_2 hl284_2; replace p284 := eq_true p284; replace q284 := eq_true q284; have ea_ := Option.some.inj (hx283_1.symm.trans hx284_1); injection ea_ with ea_ en_ ec_; subst ea_; subst ec_; clear en_; have ea_ := Option.some.inj (hx283_2.symm.trans hx284_2); injection ea_ with ea_ en_ ec_; subst ea_; subst ec_; clear en_)); try go_wp2_with (first | ((with_reducible refine gate_builtin (b := .append) (xs := #[.tmp 40, .tmp 42]) rfl ?_); at_builtin; refine Kd.R_append (Kd.int .i64) (w0 := w) w.heap.size rfl (.tmp 40) (.tmp 42) 22 3 (.int .i64 0) 8 rfl Tryd.underlying22 info3 rfl (by decide) (by omega) u6 x6_1 x9_1 [.int .i64 x9_1] (fun _ => True) (fun _ => False) rfl rfl ?aP (fun _ hk => hk.elim) ?aF ?aO ?aB ?aS ?aL ?_; (case aP => exact rfl); (case aB => exact (by repeat (first | (with_reducible first | exact HB.out | apply below_alloc | apply pw_below_drewN | apply below_drew1) | exact HB.out))); (case aF => exact (fun _ _ => trivial)); (case aO => exact HO_6.out); (case aS => exact (below_size (by repeat (first | (with_reducible first | exact HB.out | apply below_alloc | apply pw_below_drewN | apply below_drew1) | exact HB.out)))); (case aL => have := LMc9.out; omega); intro v281 w10 ho hb hg hat; rw [← Ny280.out] at ho; have n0_ := Aside0.mk (hb); have n1_ := Aside0.mk (ho); clear HB; clear HO_6; have HB := n0_; have HO282 := n1_; clear n0_ n1_; clear ho hb hg hat; have p283 : 0 ≤ (x9_1 : Int) := of_decide_eq_true (by first | (with_reducible assumption) | assumption); have q283 : x9_1 < (l0.length : Int) := of_decide_eq_true (by first | (with_reducible assumption) | assumption); obtain ⟨ad283, A283_1, c283_1, A283_2, c283_2, e283, hx283_0, hx283_1, hx283_2, hx283_3, hx283_4, hx283_5, hl283_1, hi283_1, hl283_2, hi283_2⟩ := at_T41 HR0.out x9_1 p283 q283; obtain rfl : ad276 = ad283 := (by injection e283); replace hx283_0 := kc_ HB.out hx283_0; replace hx283_1 := kc_ HB.out hx283_1; replace hx283_2 := kc_ HB.out hx283_2; replace hx283_3 := kc_ HB.out hx283_3; replace hx283_4 := kc_ HB.out hx283_4; replace hx283_5 := kc_ HB.out hx283_5; have HR283_1 := Aside0.mk hi283_1; have HC283_1 := Aside0.mk hl283_1; clear hi283_1 hl283_1; have HR283_2 := Aside0.mk hi283_2; have HC283_2 := Aside0.mk hl283_2; clear hi283_2 hl283_2; replace p283 := eq_true p283; replace q283 := eq_true q283; have p284 : 0 ≤ (x9_1 : Int) := of_decide_eq_true (by first | (with_reducible assumption) | assumption); have q284 : x9_1 < (l0.length : Int) := of_decide_eq_true (by first | (with_reducible assumption) | assumption); obtain ⟨ad284, A284_1, c284_1, A284_2, c284_2, e284, hx284_0, hx284_1, hx284_2, hx284_3, hx284_4, hx284_5, hl284_1, hi284_1, hl284_2, hi284_2⟩ := at_T41 HR0.out x9_1 p284 q284; obtain rfl : ad276 = ad284 := (by injection e284); replace hx284_0 := kc_ HB.out hx284_0; replace hx284_1 := kc_ HB.out hx284_1; replace hx284_2 := kc_ HB.out hx284_2; replace hx284_3 := kc_ HB.out hx284_3; replace hx284_4 := kc_ HB.out hx284_4; replace hx284_5 := kc_ HB.out hx284_5; have HR284_1 := Aside0.mk hi284_1; have HC284_1 := Aside0.mk hl284_1; clear hi284_1 hl284_1; have HR284_2 := Aside0.mk hi284_2; have HC284_2 := Aside0.mk hl284_2; clear hi284_2 hl284_2; replace p284 := eq_true p284; replace q284 := eq_true q284; have ea_ := Option.some.inj (hx283_1.symm.trans hx284_1); injection ea_ with ea_ en_ ec_; subst ea_; subst ec_; clear en_; have ea_ := Option.some.inj (hx283_2.symm.trans hx284_2); injection ea_ with ea_ en_ ec_; subst ea_; subst ec_; clear en_)))
       go_roundg k1
       case measure => have := HK1.out; omega
       case rel => exact ⟨(y280), ((rd_T41 l0 x9_1).f3), ((rd_T41 l0 x9_1).f4), (wrap64 (x9_1 + 1)), (by rfl), (by rfl), (by rfl), H', ⟨by have := HK1.out; omega⟩, ⟨by (with_reducible repeat (apply Kd.R_drewN)); exact HO282.out⟩, ⟨by repeat ((with_reducible first | exact HB.out | apply pw_below_drewN ))⟩⟩
      rw [if_neg c9] at H; exact absurd H (by simp)
     rw [if_neg c7] at H; have c7b0 : (((rd_T41 l0 x9_1).f3) == x7_1) = false := beq_eq_false_iff_ne.mpr c7; have c7b1 : (((rd_T41 l0 x9_1).f3) != x7_1) = true := bne_iff_ne.mpr c7; by_cases c11 : x6_1.length < 17592186044416
     ·rw [if_pos c11] at H; have LMc11 := Aside0.mk c11; clear c11; obtain ⟨y285, hy285⟩ : ∃ y_ : List Int, y_ = (x6_1 ++ [x9_1]) := ⟨_, rfl⟩; replace H : (tipstaffref43_Changes.l0 k1 l0 y285 ((rd_T41 l0 x9_1).f3) ((rd_T41 l0 x9_1).f4) (wrap64 (x9_1 + 1))) = some (r1, r2) := by (rw [hy285]; with_reducible exact H)
      have Ny285 := Aside0.mk hy285; clear hy285; have H' := Aside0.mk H; clear H; have p276 : 0 ≤ (x9_1 : Int) := of_decide_eq_true (by (with_reducible assumption)); have q276 : x9_1 < (l0.length : Int) := of_decide_eq_true (by (with_reducible assumption)); obtain ⟨ad276, A276_1, c276_1, A276_2, c276_2, e276, hx276_0, hx276_1, hx276_2, hx276_3, hx276_4, hx276_5, hl276_1, hi276_1, hl276_2, hi276_2⟩ := at_T41 HR0.out x9_1 p276 q276; cases e276; replace hx276_0 := kc_ HB.out hx276_0; replace hx276_1 := kc_ HB.out hx276_1; replace hx276_2 := kc_ HB.out hx276_2; replace hx276_3 := kc_ HB.out hx276_3; replace hx276_4 := kc_ HB.out hx276_4; replace hx276_5 := kc_ HB.out hx276_5; have HR276_1 := Aside0.mk hi276_1; have HC276_1 := Aside0.mk hl276_1; clear hi276_1 hl276_1; have HR276_2 := Aside0.mk hi276_2; have HC276_2 := Aside0.mk hl276_2; clear hi276_2 hl276_2; replace p276 := eq_true p276; replace q276 := eq_true q276; go_wp2_with (first | ((with_reducible refine gate_builtin (b := .append) (xs := #[.tmp 40, .tmp 42]) rfl ?_); at_builtin; refine Kd.R_append (Kd.int .i64) (w0 := w) w.heap.size rfl (.tmp 40) (.tmp 42) 22 3 (.int .i64 0) 8 rfl Tryd.underlying22 info3 rfl (by decide) (by omega) u6 x6_1 x9_1 [.int .i64 x9_1] (fun _ => True) (fun _ => False) rfl rfl ?aP (fun _ hk => hk.elim) ?aF ?aO ?aB ?aS ?aL ?_; (case aP => exact rfl); (case aB => exact HB.out); (case aF => exact (fun _ _ => trivial)); (case aO => exact HO_6.out); (case aS => exact (below_size HB.out)); (case aL => have := LMc11.out; omega); intro v286 w12 ho hb hg hat; rw [← Ny285.out] at ho; have n0_ := Aside0.mk (hb); have n1_ := Aside0.mk (ho); clear HB; clear HO_6; have HB := n0_; have HO287 := n1_; clear n0_ n1_; clear ho hb hg hat; have p288 : 0 ≤ (x9_1 : Int) := of_decide_eq_true (by (with_reducible assumption)); have q288 : x9_1 < (l0.length : Int) := of_decide_eq_true (by (with_reducible assumption)); obtain ⟨ad288, A288_1, c288_1, A288_2, c288_2, e288, hx288_0, hx288_1, hx288_2, hx288_3, hx288_4, hx288_5, hl288_1, hi288_1, hl288_2, hi288_2⟩ := at_T41 HR0.out x9_1 p288 q288; obtain rfl : ad276 = ad288 := (by injection e288); replace hx288_0 := kc_ HB.out hx288_0; replace hx288_1 := kc_ HB.out hx288_1; replace hx288_2 := kc_ HB.out hx288_2; replace hx288_3 := kc_ HB.out hx288_3; replace hx288_4 := kc_ HB.out hx288_4; replace hx288_5 := kc_ HB.out hx288_5; have HR288_1 := Aside0.mk hi288_1; have HC288_1 := Aside0.mk hl288_1; clear hi288_1 hl288_1; have HR288_2 := Aside0.mk hi288_2; have HC288_2 := Aside0.mk hl288_2; clear hi288_2 hl288_2; replace p288 := eq_true p288; replace q288 := eq_true q288; have p289 : 0 ≤ (x9_1 : Int) := of_decide_eq_true (by (with_reducible assumption)); have q289 : x9_1 < (l0.length : Int) := of_decide_eq_true (by (with_reducible assumption)); obtain ⟨ad289, A289_1, c289_1, A289_2, c289_2, e289, hx289_0, hx289_1, hx289_2, hx289_3, hx289_4, hx289_5, hl289_1, hi289_1, hl289_2, hi289_2⟩ := at_T41 HR0.out x9_1 p289 q289; obtain rfl : ad276 = ad289 := (by injection e289); replace hx289_0 := kc_ HB.out hx289_0; replace hx289_1 := kc_ HB.out hx289_1; replace hx289_2 := kc_ HB.out hx289_2; replace hx289_3 := kc_ HB.out hx289_3; replace hx289_4 := kc_ HB.out hx289_4; replace hx289_5 := kc_ HB.out hx289_5; have HR289_1 := Aside0.mk hi289_1; have HC289_1 := Aside0.mk hl289_1; clear hi289_1 hl289_1; have HR289_2 := Aside0.mk hi289_2; have HC289_2 := Aside0.mk hl289_2; clear hi289_2 hl289_2; replace p289 := eq_true p289; replace q289 := eq_true q289; have ea_ := Option.some.inj (hx288_1.symm.trans hx289_1); injection ea_ with ea_ en_ ec_; subst ea_; subst ec_; clear en_; have ea_ := Option.some.inj (hx288_2.symm.trans hx289_2); injection ea_ with ea_ en_ ec_; subst ea_; subst ec_; clear en_)); repeat (go_quiet (first | ((with_reducible refine gate_builtin (b := .append) (xs := #[.tmp 40, .tmp 42]) rfl ?_); at_builtin; refine Kd.R_append (Kd.int .i64) (w0 := w) w.heap.size rfl (.tmp 40) (.tmp 42) 22 3 (.int .i64 0) 8 rfl Tryd.underlying22 info3 rfl (by decide) (by omega) u6 x6_1 x9_1 [.int .i64 x9_1] (fun _ => True) (fun _ => False) rfl rfl ?aP (fun _ hk => hk.elim) ?aF ?aO ?aB ?aS ?aL ?_; (case aP => exact rfl); (case aB => exact (by repeat (first | (with_reducible first | exact HB.out | apply below_alloc | apply pw_below_drewN | apply below_drew1) | exact HB.out))); (case aF => exact (fun _ _ => trivial)); (case aO => exact HO_6.out); (case aS => exact (below_size (by repeat (first | (with_reducible first | exact HB.out | apply below_alloc | apply pw_below_drewN | apply below_drew1) | exact HB.out)))); (case aL => have := LMc11.out; omega); intro v286 w12 ho hb hg hat; rw [← Ny285.out] at ho; have n0_ := Aside0.mk (hb); have n1_ := Aside0.mk (ho); clear HB; clear HO_6; have HB := n0_; have HO287 := n1_; clear n0_ n1_; clear ho hb hg hat; have p288 : 0 ≤ (x9_1 : Int) := of_decide_eq_true (by first | (with_reducible assumption) | assumption); have q288 : x9_1 < (l0.length : Int) := of_decide_eq_true (by first | (with_reducible assumption) | assumption); obtain ⟨ad288, A288_1, c288_1, A288_2, c288_2, e288, hx288_0, hx288_1, hx288_2, hx288_3, hx288_4, hx288_5, hl288_1, hi288_1, hl288_2, hi288_2⟩ := at_T41 HR0.out x9_1 p288 q288; obtain rfl : ad276 = ad288 := (by injection e288); replace hx288_0 := kc_ HB.out hx288_0; replace hx288_1 := kc_ HB.out hx288_1; replace hx288_2 := kc_ HB.out hx288_2; replace hx288_3 := kc_ HB.out hx288_3; replace hx288_4 := kc_ HB.out hx288_4; replace hx288_5 := kc_ HB.out hx288_5; have HR288_1 := Aside0.mk hi288_1; have HC288_1 := Aside0.mk hl288_1; clear hi288_1 hl288_1; have HR288_2 := Aside0.mk hi288_2; have HC288_2 := Aside0.mk hl288_2; clear hi288_2 hl288_2; replace p288 := eq_true p288; replace q288 := eq_true q288; have p289 : 0 ≤ (x9_1 : Int) := of_decide_eq_true (by first | (with_reducible assumption) | assumption); have q289 : x9_1 < (l0.length : Int) := of_decide_eq_true (by first | (with_reducible assumption) | assumption); obtain ⟨ad289, A289_1, c289_1, A289_2, c289_2, e289, hx289_0, hx289_1, hx289_2, hx289_3, hx289_4, hx289_5, hl289_1, hi289_1, hl289_2, hi289_2⟩ := at_T41 HR0.out x9_1 p289 q289; obtain rfl : ad276 = ad289 := (by injection e289); replace hx289_0 := kc_ HB.out hx289_0; replace hx289_1 := kc_ HB.out hx289_1; replace hx289_2 := kc_ HB.out hx289_2; replace hx289_3 := kc_ HB.out hx289_3; replace hx289_4 := kc_ HB.out hx289_4; replace hx289_5 := kc_ HB.out hx289_5; have HR289_1 := Aside0.mk hi289_1; have HC289_1 := Aside0.mk hl289_1; clear hi289_1 hl289_1; have HR289_2 := Aside0.mk hi289_2; have HC289_2 := Aside0.mk hl289_2; clear hi289_2 hl289_2; replace p289 := eq_true p289; replace q289 := eq_true q289; have ea_ := Option.some.inj (hx288_1.symm.trans hx289_1); injection ea_ with ea_ en_ ec_; subst ea_; subst ec_; clear en_; have ea_ := Option.some.inj (hx288_2.symm.trans hx289_2); injection ea_ with ea_ en_ ec_; subst ea_; subst ec_; clear en_)); try go_wp2_with (first | ((with_reducible refine gate_builtin (b := .append) (xs := #[.tmp 40, .tmp 42]) rfl ?_); at_builtin; refine Kd.R_append (Kd.int .i64) (w0 := w) w.heap.size rfl (.tmp 40) (.tmp 42) 22 3 (.int .i64 0) 8 rfl Tryd.underlying22 info3 rfl (by decide) (by omega) u6 x6_1 x9_1 [.int .i64 x9_1] (fun _ => True) (fun _ => False) rfl rfl ?aP (fun _ hk => hk.elim) ?aF ?aO ?aB ?aS ?aL ?_; (case aP => exact rfl); (case aB => exact (by repeat (first | (with_reducible first | exact HB.out | apply below_alloc | apply pw_below_drewN | apply below_drew1) | exact HB.out))); (case aF => exact (fun _ _ => trivial)); (case aO => exact HO_6.out); (case aS => exact (below_size (by repeat (first | (with_reducible first | exact HB.out | apply below_alloc | apply pw_below_drewN | apply below_drew1) | exact HB.out)))); (case aL => have := LMc11.out; omega); intro v286 w12 ho hb hg hat; rw [← Ny285.out] at ho; have n0_ := Aside0.mk (hb); have n1_ := Aside0.mk (ho); clear HB; clear HO_6; have HB := n0_; have HO287 := n1_; clear n0_ n1_; clear ho hb hg hat; have p288 : 0 ≤ (x9_1 : Int) := of_decide_eq_true (by first | (with_reducible assumption) | assumption); have q288 : x9_1 < (l0.length : Int) := of_decide_eq_true (by first | (with_reducible assumption) | assumption); obtain ⟨ad288, A288_1, c288_1, A288_2, c288_2, e288, hx288_0, hx288_1, hx288_2, hx288_3, hx288_4, hx288_5, hl288_1, hi288_1, hl288_2, hi288_2⟩ := at_T41 HR0.out x9_1 p288 q288; obtain rfl : ad276 = ad288 := (by injection e288); replace hx288_0 := kc_ HB.out hx288_0; replace hx288_1 := kc_ HB.out hx288_1; replace hx288_2 := kc_ HB.out hx288_2; replace hx288_3 := kc_ HB.out hx288_3; replace hx288_4 := kc_ HB.out hx288_4; replace hx288_5 := kc_ HB.out hx288_5; have HR288_1 := Aside0.mk hi288_1; have HC288_1 := Aside0.mk hl288_1; clear hi288_1 hl288_1; have HR288_2 := Aside0.mk hi288_2; have HC288_2 := Aside0.mk hl288_2; clear hi288_2 hl288_2; replace p288 := eq_true p288; replace q288 := eq_true q288; have p289 : 0 ≤ (x9_1 : Int) := of_decide_eq_true (by first | (with_reducible assumption) | assumption); have q289 : x9_1 < (l0.length : Int) := of_decide_eq_true (by first | (with_reducible assumption) | assumption); obtain ⟨ad289, A289_1, c289_1, A289_2, c289_2, e289, hx289_0, hx289_1, hx289_2, hx289_3, hx289_4, hx289_5, hl289_1, hi289_1, hl289_2, hi289_2⟩ := at_T41 HR0.out x9_1 p289 q289; obtain rfl : ad276 = ad289 := (by injection e289); replace hx289_0 := kc_ HB.out hx289_0; replace hx289_1 := kc_ HB.out hx289_1; replace hx289_2 := kc_ HB.out hx289_2; replace hx289_3 := kc_ HB.out hx289_3; replace hx289_4 := kc_ HB.out hx289_4; replace hx289_5 := kc_ HB.out hx289_5; have HR289_1 := Aside0.mk hi289_1; have HC289_1 := Aside0.mk hl289_1; clear hi289_1 hl289_1; have HR289_2 := Aside0.mk hi289_2; have HC289_2 := Aside0.mk hl289_2; clear hi289_2 hl289_2; replace p289 := eq_true p289; replace q289 := eq_true q289; have ea_ := Option.some.inj (hx288_1.symm.trans hx289_1); injection ea_ with ea_ en_ ec_; subst ea_; subst ec_; clear en_; have ea_ := Option.some.inj (hx288_2.symm.trans hx289_2); injection ea_ with ea_ en_ ec_; subst ea_; subst ec_; clear en_)))
      go_roundg k1
      case measure => have := HK1.out; omega
      case rel => exact ⟨(y285), ((rd_T41 l0 x9_1).f3), ((rd_T41 l0 x9_1).f4), (wrap64 (x9_1 + 1)), (by rfl), (by rfl), (by rfl), H', ⟨by have := HK1.out; omega⟩, ⟨by (with_reducible repeat (apply Kd.R_drewN)); exact HO287.out⟩, ⟨by repeat ((with_reducible first | exact HB.out | apply pw_below_drewN ))⟩⟩
     rw [if_neg c11] at H; exact absurd H (by simp)
    rw [if_neg c6] at H; exact absurd H (by simp)
   rw [if_neg c5] at H; have c5b0 : decide (x9_1 < (l0.length : Int)) = false := decide_eq_false c5; clear c5; simp only [Option.some.injEq, Prod.mk.injEq] at H; obtain ⟨rfl, rfl⟩ := H; go_wp2; repeat (go_quiet (fail); try go_wp2)
   go_ret2; exact ⟨_, by rfl, by exact HO_6.out, by repeat (with_reducible exact HB.out)⟩
 rw [if_neg c3] at H; have c3b0 : (t274 == 0) = false := beq_eq_false_iff_ne.mpr c3; have c3b1 : (t274 != 0) = true := bne_iff_ne.mpr c3; simp only [Option.some.injEq, Prod.mk.injEq] at H; obtain ⟨rfl, rfl⟩ := H; go_enter Tryd.func32, Tryd.ntmps32
 go_wp2_with (first | (go_at_call 18; (with_reducible refine (tipstaffref43_Check.calls k _ _ l0 t274 t275 _ ?side1 ?side2 A2.out).mono ?_); (case side1 => repeat (exact HR0.out)); (case side2 => exact HC0.out); rintro e w13 ⟨rfl, hb⟩; have n0_ := Aside0.mk (below_step HB.out hb); clear HB; have HB := n0_; clear n0_; (try clear hb); )); repeat (go_quiet (first | (go_at_call 18; (with_reducible refine (tipstaffref43_Check.calls k _ _ l0 t274 t275 _ ?side1 ?side2 A2.out).mono ?_); (case side1 => repeat (first | exact HR0.out | (with_reducible refine Kd.C_alloc ?_ _) | (with_reducible refine Kd.C_drewN ?_ _) | (with_reducible refine Kd.C_drew ?_))); (case side2 => exact HC0.out); rintro e w13 ⟨rfl, hb⟩; have n0_ := Aside0.mk (below_step (by repeat (first | (with_reducible first | exact HB.out | apply below_alloc | apply pw_below_drewN | apply below_drew1) | exact HB.out)) hb); clear HB; have HB := n0_; clear n0_; )); try go_wp2_with (first | (go_at_call 18; (with_reducible refine (tipstaffref43_Check.calls k _ _ l0 t274 t275 _ ?side1 ?side2 A2.out).mono ?_); (case side1 => repeat (first | exact HR0.out | (with_reducible refine Kd.C_alloc ?_ _) | (with_reducible refine Kd.C_drewN ?_ _) | (with_reducible refine Kd.C_drew ?_))); (case side2 => exact HC0.out); rintro e w13 ⟨rfl, hb⟩; have n0_ := Aside0.mk (below_step (by repeat (first | (with_reducible first | exact HB.out | apply below_alloc | apply pw_below_drewN | apply below_drew1) | exact HB.out)) hb); clear HB; have HB := n0_; clear n0_; )))
 go_ret2; exact ⟨_, by rfl, by exact Kd.R_nil _ _ _ _ _, by repeat (with_reducible exact HB.out)⟩

end Go.Proofs.YtenlokaaloenmaaDoor.S
end
