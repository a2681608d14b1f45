/- A set kept as a map of bools that a call makes: the look-up's law (the library has it for integer elements), and what the set holds. -/
import Derived.Maps.OwnOps
import Derived.Maps.OwnSet
import Derived.Maps.Views
import Derived.WalkArith
namespace Go.Proofs.Ythcgcfjcjikjmaa.S
open Go Go.Maps Go.RowKit

theorem plainElem_bool_inv {P : Program} {e : TypeId} (he : P.underlying e = some .bool) {v : Value} {z : DataW Unit × List MemPlace} (h : plainElem P e v = some z) : ∃ b, v = .bool b ∧ z = (.lit (.bool b), []) := by
  unfold plainElem at h
  rw [he] at h
  cases v <;> simp at h
  subst h
  exact ⟨_, rfl, rfl⟩

theorem wpList_lookup_own_bool {P : Program} (w : World) {ops : Array Oper} {rest : List Oper} {o : Oper} {a : Act} {Q : Exit → Act → World → Prop}
    (hg : o.guard = none) (m x : Operand) (t : TypeId) (hop : o.op = Op.lookup t m x false)
    (k e : TypeId) (K : Keyed P k) (ht : P.underlying t = some (.map k e)) (he : P.underlying e = some .bool) (hz : (zeroValue e).run P w = .ok (.bool false) w) (b n : Nat) (D : DataW Unit)
    (hm : a.eval m = .map (some b)) (hown : w.ownsMap P k (plainElem P e) b n D) (key : Value) (kl : Lit) (hx : a.eval x = key) (hkey : keyOf P k key = some kl)
    (hK : ∀ c : Bool, D.atKey kl (.lit (.bool false)) = .lit (.bool c) → wpList P ops Q rest (a.put o.dst (.bool c)) w) :
    wpList P ops Q (o :: rest) a w := by
  refine wpList_plain hg fun K' hK' => ?_
  obtain ⟨v, ps, hrun, hv⟩ := hown.lookup K ht hz (plainElem_bool he false) hkey
  obtain ⟨c, rfl, hc⟩ := plainElem_bool_inv he hv
  simp only [Prod.mk.injEq] at hc
  unfold Oper.wp
  simp [execOp, hop, hm, hx, hrun, Result.andThen]
  exact hK' _ _ (hK c hc.1)

/-- The set of these numbers, put one behind the other. -/
def setL (ks : List Int) : DataW Unit := ks.foldl (fun D x => D.put (.int .i64 x) (.lit (.bool true))) (.map [])
theorem setL_snoc (ks : List Int) (x : Int) : setL (ks ++ [x]) = (setL ks).put (.int .i64 x) (.lit (.bool true)) := by unfold setL; rw [List.foldl_append]; rfl
theorem setL_isMap (ks : List Int) : IsMap (setL ks) := by
  unfold setL
  suffices h : ∀ (l : List Int) (D : DataW Unit), IsMap D → IsMap (l.foldl (fun D x => D.put (.int .i64 x) (.lit (.bool true))) D) from h ks _ isMap_empty
  intro l
  induction l with
  | nil => intro D h; exact h
  | cons x l ih => intro D h; exact ih _ (h.put _ _)
theorem setL_at (x : Int) : ∀ (n : Nat) (ks : List Int), ks.length = n → (setL ks).atKey (.int .i64 x) (.lit (.bool false)) = .lit (.bool (decide (x ∈ ks))) := by
  intro n
  induction n with
  | zero =>
    intro ks h
    obtain rfl := List.eq_nil_of_length_eq_zero h
    simp [setL, DataW.atKey]
  | succ n ih =>
    intro ks h
    rcases List.eq_nil_or_concat ks with rfl | ⟨l, y, rfl⟩
    · simp at h
    · rw [List.concat_eq_append] at h ⊢
      rw [setL_snoc]
      by_cases e : x = y
      · subst e
        rw [atKey_put_same (setL_isMap l) (by simp [WideAt.IsKeyLit])]
        simp
      · rw [atKey_put_other (by simpa using e), ih l (by simp at h; omega)]
        simp [e]
theorem setL_size {ks : List Int} (h : ks ≠ []) : ((Maps.size (setL ks) : Int) == 0) = false := by
  rcases List.eq_nil_or_concat ks with rfl | ⟨l, y, rfl⟩
  · exact absurd rfl h
  · rw [List.concat_eq_append, setL_snoc, beq_eq_false_iff_ne]
    obtain ⟨es, hes⟩ := setL_isMap l
    rw [hes]
    show ((DataW.insert _ _).length : Int) ≠ 0
    rw [length_insert]
    omega

end Go.Proofs.Ythcgcfjcjikjmaa.S
