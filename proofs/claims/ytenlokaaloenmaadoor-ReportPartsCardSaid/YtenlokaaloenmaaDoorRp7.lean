/- The longest spell, the spells, the visits, the changes: the reference's answers are the program's. -/
import Derived.Test.YtenlokaaloenmaaDoorM4
import Derived.Test.YtenlokaaloenmaaDoorM5
import Derived.Test.YtenlokaaloenmaaDoorRp4
import Derived.Test.YtenlokaaloenmaaDoorRp6
import Derived.Test.YtenlokaaloenmaaDoorHlongest
import Derived.Test.YtenlokaaloenmaaDoorM3
set_option linter.unusedVariables false
namespace Go.Proofs.YtenlokaaloenmaaDoor.Pure
open Go.RowKit Go.Proofs.YtenlokaaloenmaaDoor.S Go.Proofs.YtenlokaaloenmaaDoorW.PrintWords Go.Proofs.YtenlokaaloenmaaDoorW.PrintLast Go.Proofs.YtenlokaaloenmaaDoorW.PrintMore
set_option linter.unusedVariables false
set_option linter.unusedSimpArgs false

theorem spF_len (l : List S41) (f : Int) (up : Bool) : ∀ (d i : Nat) (frm : Int), (spF l f up d i frm).length ≤ d + 1
  | 0, i, frm => by
    rw [spF]
    by_cases h : frm ≥ 0
    · rw [if_pos h]; exact Nat.le_refl _
    · rw [if_neg h]; exact Nat.zero_le _
  | d + 1, i, frm => by
    rw [spF]
    have a1 := spF_len l f up d (i + 1) i
    have a2 := spF_len l f up d (i + 1) frm
    have a3 := spF_len l f up d (i + 1) (-1)
    by_cases h1 : onV f up (rd_T41 l i).f3 (rd_T41 l i).f4 = true
    · rw [if_pos h1]
      by_cases h2 : frm < 0
      · rw [if_pos h2]; omega
      · rw [if_neg h2]; omega
    · rw [if_neg h1]
      by_cases h2 : frm ≥ 0
      · rw [if_pos h2, List.length_cons]; omega
      · rw [if_neg h2]; omega
theorem spl_len (l : List S41) (f : Int) (up : Bool) : (spl l f up).length ≤ l.length + 1 := spF_len l f up _ _ _

end Go.Proofs.YtenlokaaloenmaaDoor.Pure
