/- Joined: The numbers of a run: the reference's are the program's. Counts over views add up: a run's numbers are those of its parts together. -/
import Derived.Test.YtenlokaaloenmaaDoorM4
import Derived.Test.YtenlokaaloenmaaDoorRp6
import Derived.Test.YtenlokaaloenmaaDoorM5
import Derived.Test.YtenlokaaloenmaaDoorHawake
import Derived.Test.YtenlokaaloenmaaDoorRp3
import Derived.Test.YtenlokaaloenmaaDoorS2

section
set_option linter.unusedVariables false
namespace Go.Proofs.YtenlokaaloenmaaDoor.Pure
open Go.RowKit Go.Proofs.YtenlokaaloenmaaDoor.S Go.Proofs.YtenlokaaloenmaaDoorW.PrintWords Go.Proofs.YtenlokaaloenmaaDoorW.PrintLast Go.Proofs.YtenlokaaloenmaaDoorW.PrintMore
set_option linter.unusedVariables false
set_option linter.unusedSimpArgs false

theorem cnt_len (w : Int) (m : Nat) : ∀ (l : List S41) (st : List Int × R3), len3 st.2 m → len3 (cntV w l st).2 m
  | [], _, h => h
  | v :: l, st, h => cnt_len w m l (vwF w st v) (sgL_len w v.f2 0 h)

def cars (l : List S41) : Nat := if 0 < l.length then (rd_T41 l 0).f2.length else 0
def coN (l : List S41) (wd : Int) (x : X4) : Num := numOf (cntV wd l (zer6, List.replicate (cars l) 0, List.replicate (cars l) 0, List.replicate (cars l) 0)) x
theorem coN_len (l : List S41) (wd : Int) (x : X4) : (coN l wd x).a.length = cars l ∧ (coN l wd x).b.length = cars l ∧ (coN l wd x).c.length = cars l :=
  cnt_len wd (cars l) l (zer6, List.replicate (cars l) 0, List.replicate (cars l) 0, List.replicate (cars l) 0) ⟨List.length_replicate, List.length_replicate, List.length_replicate⟩
theorem cars_8 {l : List S41} (ok : OkL l) : cars l ≤ 8 := by
  unfold cars
  by_cases h : 0 < l.length
  · rw [if_pos h]; exact (ok.v _ (memV l 0 h)).m8
  · rw [if_neg h]; exact Nat.zero_le _
def pcX (l : List S41) : X4 := (fl 64 0).foldl (pcL l) (0, 0, 0, 0)
def coV (l : List S41) (wd : Int) : Num × Int := if (chk l).1 = 0 then (if wd < 1 ∨ 20 < wd then (num0, 2) else (coN l wd (pcX l), 0)) else (num0, (chk l).1)
theorem coV_8 (l : List S41) (wd : Int) : Num8 (coV l wd).1 := by
  unfold coV
  by_cases h0 : (chk l).1 = 0
  · have ok : OkL l := chk_ok (x := (chk l).2) (by rw [← h0])
    rw [if_pos h0]
    by_cases h1 : wd < 1 ∨ 20 < wd
    · rw [if_pos h1]; exact ⟨Nat.zero_le _, Nat.zero_le _, Nat.zero_le _⟩
    · rw [if_neg h1]
      obtain ⟨a, b, c⟩ := coN_len l wd (pcX l)
      have := cars_8 ok
      exact ⟨by show (coN l wd (pcX l)).a.length ≤ 8; omega, by show (coN l wd (pcX l)).b.length ≤ 8; omega, by show (coN l wd (pcX l)).c.length ≤ 8; omega⟩
  · rw [if_neg h0]; exact ⟨Nat.zero_le _, Nat.zero_le _, Nat.zero_le _⟩

theorem count_ev (l : List S41) (hw : ∀ v ∈ l, WV v) (wd : Int) : Ev (fun k => report_Count.f k l wd) (coV l wd) := by
  refine Ev.bind (f := fun e k => if e.1 = 0 then (if wd < 1 ∨ 20 < wd then some (num0, 2) else (allF k ((orU l).toNat ||| (orD l).toNat) (orU l) (orD l)).map fun xs => (coN l wd (xs.foldl (pcL l) (0, 0, 0, 0)), 0)) else some (num0, e.1)) (check_ev l hw) ?_
  unfold coV
  by_cases h0 : (chk l).1 = 0
  · rw [if_pos h0]
    by_cases h1 : wd < 1 ∨ 20 < wd
    · rw [if_pos h1]
      exact (Ev.const _).congr (fun k => by rw [if_pos h0, if_pos h1])
    · rw [if_neg h1]
      obtain ⟨xs, ⟨K, hK⟩, hx⟩ := all_ev l hw
      have e := hx (pcL l) (0, 0, 0, 0) (fun b f up hs => by show (spl l (f.val : Int) up).foldl pcS b = b; rw [hs]; rfl)
      refine ⟨K, fun k hk => ?_⟩
      have hk' : allF k ((orU l).toNat ||| (orD l).toNat) (orU l) (orD l) = some xs := hK k hk
      show (if (chk l).1 = 0 then _ else _) = _
      rw [if_pos h0, if_neg h1, hk', Option.map_some, e]
      rfl
  · rw [if_neg h0]
    exact (Ev.const _).congr (fun k => by rw [if_neg h0])

abbrev X3 := Int × Int × Int
end Go.Proofs.YtenlokaaloenmaaDoor.Pure
end

section
set_option linter.unusedVariables false
namespace Go.Proofs.YtenlokaaloenmaaDoor.Pure
open Go.RowKit Go.Proofs.YtenlokaaloenmaaDoor.S Go.Proofs.YtenlokaaloenmaaDoorW.PrintWords Go.Proofs.YtenlokaaloenmaaDoorW.PrintLast Go.Proofs.YtenlokaaloenmaaDoorW.PrintMore
set_option linter.unusedVariables false
set_option linter.unusedSimpArgs false

theorem inc_rd (a : List Int) (i k : Nat) (hi : i < a.length) : rd (incI a i) (k : Int) = if k = i then wrap64 (rd a (i : Int) + 1) else rd a (k : Int) := by
  unfold incI rd
  rw [Int.toNat_natCast, Int.toNat_natCast, List.getD_eq_getElem?_getD, List.getElem?_set]
  by_cases h : k = i
  · subst h
    rw [if_pos rfl, if_pos rfl, if_pos hi]; rfl
  · rw [if_neg (fun h' => h h'.symm), if_neg h, List.getD_eq_getElem?_getD]
/-- All between 0 and a bound. -/
def Sm (B : Nat) (a : List Int) : Prop := ∀ k : Nat, 0 ≤ rd a (k : Int) ∧ rd a (k : Int) ≤ (B : Int)
theorem Sm.inc {B : Nat} {a : List Int} (h : Sm B a) (hB : B < 1000000) (i : Nat) (hi : i < a.length) : Sm (B + 1) (incI a i) ∧ ∀ k : Nat, rd (incI a i) (k : Int) = rd a (k : Int) + (if k = i then 1 else 0) := by
  have hw : wrap64 (rd a (i : Int) + 1) = rd a (i : Int) + 1 := by have := h i; exact wrap_id _ (by omega) (by omega)
  have e : ∀ k : Nat, rd (incI a i) (k : Int) = rd a (k : Int) + (if k = i then 1 else 0) := by
    intro k
    rw [inc_rd a i k hi, hw]
    by_cases hk : k = i
    · subst hk; rw [if_pos rfl, if_pos rfl]
    · rw [if_neg hk, if_neg hk]; omega
  refine ⟨fun k => ?_, e⟩
  rw [e k]
  have := h k
  by_cases hk : k = i
  · rw [if_pos hk]; omega
  · rw [if_neg hk]; omega
theorem Sm.mono {B C : Nat} {a : List Int} (h : Sm B a) (hc : B ≤ C) : Sm C a := fun k => ⟨(h k).1, by have := (h k).2; omega⟩

def p1 (s : S43) : Bool := decide (s.f0 ≥ 0)
end Go.Proofs.YtenlokaaloenmaaDoor.Pure
end
