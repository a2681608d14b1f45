/- A rota made of numbers is valid. -/
import Derived.Test.YthcgcfjcjikjmaaS5
import Derived.Test.YthcgcfjcjikjmaaS6
import Derived.Test.YthcgcfjcjikjmaaRotaP
import Derived.Test.YthcgcfjcjikjmaaKitMod
namespace Go.Proofs.Ythcgcfjcjikjmaa.Pure
open Go.RowKit Go.Proofs.Ythcgcfjcjikjmaa.S Go.Proofs.YthcgcfjcjikjmaaW.PrintWords Go.Proofs.YthcgcfjcjikjmaaW.PrintLast
set_option linter.unusedVariables false
set_option linter.unusedSimpArgs false

theorem at_val (l : List Int) (i : Int) : ∃ v, tipstaffkit_At.f l i = some v ∧ (v = 0 ∨ v ∈ l) := by
  unfold tipstaffkit_At.f
  by_cases h : i < 0
  · exact ⟨0, by rw [if_pos h], Or.inl rfl⟩
  by_cases h2 : i ≥ (l.length : Int)
  · exact ⟨0, by rw [if_neg h, if_pos h2], Or.inl rfl⟩
  refine ⟨rd l i, by rw [if_neg h, if_neg h2, if_pos (by omega), if_pos (by omega)], Or.inr ?_⟩
  obtain ⟨j, rfl⟩ : ∃ m : Nat, i = m := ⟨i.toNat, by omega⟩
  rw [rd_nat l j (by omega)]; exact List.getElem_mem _

def Good (m : Nat) (l : List Int) : Prop := l.length = m ∧ ∀ x ∈ l, 0 ≤ x ∧ x ≤ 3

theorem made_row (a : Int) (m : Nat) (hm : m ≤ 6) (l : List Int) (hl : ∀ x ∈ l, I64 x) (R : List (List Int)) (hR : R.length ≤ 10) (c : Nat) (hc : c ≤ 10) : ∀ (e j : Nat), j + e = m → ∀ row : List Int, Good j row →
    ∃ row', Good m row' ∧ ∀ v, Ev (fun k => tipstafflaw25_made.l0 k a m l (R ++ [row']) ((c + 1 : Nat) : Int)) v → Ev (fun k => tipstafflaw25_made.l1 k a m l R c row j) v
  | 0, j, hj, row, hr => by
    have : j = m := by omega
    subst this
    refine ⟨row, hr, fun v hv => hv.step (fun k => ?_)⟩
    rw [tipstafflaw25_made.l1, if_neg (by omega), if_pos (by omega), wrap_succ c (by omega)]
  | e + 1, j, hj, row, hr => by
    obtain ⟨x, hx, hx'⟩ := at_val l (wrap64 (wrap64 ((c : Int) * m) + j))
    have hi : I64 x := by
      rcases hx' with rfl | hx'
      · unfold I64; omega
      · exact hl x hx'
    obtain ⟨row', h1, h2⟩ := made_row a m hm l hl R hR c hc e (j + 1) (by omega) (row ++ [x % 4]) ⟨by simp [hr.1], fun y hy => by
      rcases List.mem_append.1 hy with hy | hy
      · exact hr.2 y hy
      · have : y = x % 4 := by simpa using hy
        rw [this]; omega⟩
    refine ⟨row', h1, fun v hv => (h2 v hv).step (fun k => ?_)⟩
    have := hr.1
    rw [tipstafflaw25_made.l1, if_pos (by omega), hx, Option.bind_some, mod_val x 4 hi (by omega) (by omega), Option.bind_some, if_pos (by omega), wrap_succ j (by omega)]

theorem made_rows (a : Int) (ha : I64 a) (m : Nat) (hm : m ≤ 6) (l : List Int) (hl : ∀ x ∈ l, I64 x) : ∀ (e c : Nat), ((c + e : Nat) : Int) = a % 4 + 1 → ∀ R : List (List Int), R.length = c → (∀ r ∈ R, Good m r) →
    ∃ R' : List (List Int), Ev (fun k => tipstafflaw25_made.l0 k a m l R c) R' ∧ R'.length = c + e ∧ ∀ r ∈ R', Good m r
  | 0, c, hc, R, hR, hG => by
    refine ⟨R, (Ev.const _).step (fun k => ?_), by omega, hG⟩
    rw [tipstafflaw25_made.l0, mod_val a 4 ha (by omega) (by omega), Option.bind_some, if_neg (by omega)]
  | e + 1, c, hc, R, hR, hG => by
    obtain ⟨row, h1, h2⟩ := made_row a m hm l hl R (by omega) c (by omega) m 0 (by omega) [] ⟨rfl, fun x hx => by simp at hx⟩
    obtain ⟨R', h3, h4, h5⟩ := made_rows a ha m hm l hl e (c + 1) (by omega) (R ++ [row]) (by simp [hR]) (fun r hr => by
      rcases List.mem_append.1 hr with hr | hr
      · exact hG r hr
      · have : r = row := by simpa using hr
        rw [this]; exact h1)
    refine ⟨R', (h2 _ h3).step (fun k => ?_), by omega, h5⟩
    rw [tipstafflaw25_made.l0, mod_val a 4 ha (by omega) (by omega), Option.bind_some, if_pos (by omega)]; rfl

/-- A rota made of numbers. -/
theorem made_val (a b : Int) (ha : I64 a) (hb : I64 b) (l : List Int) (hl : ∀ x ∈ l, I64 x) : ∃ R : List (List Int), Ev (fun k => tipstafflaw25_made.f k a b l) R ∧ (checkF R).1 = 0 ∧ OkR R ∧ R.length ≤ 4 ∧ (rd_L1 R 0).length ≤ 6 := by
  obtain ⟨m, hm⟩ := Int.eq_ofNat_of_zero_le (show 0 ≤ b % 6 by omega)
  obtain ⟨e, he⟩ := Int.eq_ofNat_of_zero_le (show 0 ≤ a % 4 + 1 by omega)
  obtain ⟨R, h1, h2, h3⟩ := made_rows a ha (m + 1) (by omega) l hl e 0 (by omega) [] rfl (fun r hr => by simp at hr)
  have hlen : R.length = e := by omega
  have h0 : (rd_L1 R 0).length = m + 1 := by
    rw [show (0 : Int) = ((0 : Nat) : Int) from rfl, rdL_nat R 0 (by omega)]; exact (h3 _ (List.getElem_mem _)).1
  have hck : (checkF R).1 = 0 := by
    unfold checkF
    rw [if_neg (by omega), checkG_zero _ R 0 (fun r hr => ⟨by rw [h0]; exact (h3 r hr).1, List.any_eq_false.2 (fun x hx => by have := (h3 r hr).2 x hx; unfold bad; simp; omega)⟩)]
  refine ⟨R, h1.congr (fun k => ?_), hck, okR_of R hck, by omega, by omega⟩
  rw [tipstafflaw25_made.f, mod_val b 6 hb (by omega) (by omega), Option.bind_some, hm, wrap_id _ (by omega) (by omega), show (1 + (m : Int)) = ((m + 1 : Nat) : Int) by omega]; rfl

theorem has_loop (l : List Int) (hl : l.length ≤ 1000000) (x : Int) : ∀ (e i : Nat), i + e = l.length → Ev (fun k => tipstaffkit_Has.l0 k l x i) (decide (x ∈ l.drop i))
  | 0, i, hi => (Ev.const _).step (fun k => by rw [tipstaffkit_Has.l0, if_neg (by omega), List.drop_eq_nil_of_le (by omega)]; rfl)
  | e + 1, i, hi => by
    rw [drop_rd l i (by omega)]
    by_cases h : rd l (i : Int) = x
    · rw [decide_eq_true (by rw [h]; simp)]
      refine (Ev.const _).step (fun k => ?_)
      rw [tipstaffkit_Has.l0, if_pos (by omega), if_pos (by omega), if_pos h]
    · rw [show (decide (x ∈ rd l (i : Int) :: l.drop (i + 1))) = decide (x ∈ l.drop (i + 1)) by congr 1; simp [Ne.symm h]]
      refine (has_loop l hl x e (i + 1) (by omega)).step (fun k => ?_)
      rw [tipstaffkit_Has.l0, if_pos (by omega), if_pos (by omega), if_neg h, wrap_succ i (by omega)]

theorem has_val (l : List Int) (hl : l.length ≤ 1000000) (x : Int) : Ev (fun k => tipstaffkit_Has.f k l x) (decide (x ∈ l)) := has_loop l hl x _ 0 (Nat.zero_add _)

end Go.Proofs.Ythcgcfjcjikjmaa.Pure
