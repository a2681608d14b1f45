/- The pure statement of WordMakes. -/
import Derived.Test.YtbcmlgbhejcjbaaDoorS16
import Derived.Test.YtbcmlgbhejcjbaaDoorOpens
namespace Go.Proofs.YtbcmlgbhejcjbaaDoor.Pure
open Go.RowKit Go.Proofs.YtbcmlgbhejcjbaaDoor.S Go.Proofs.YtbcmlgbhejcjbaaDoorW.PrintWords Go.Proofs.YtbcmlgbhejcjbaaDoorW.PrintLast
set_option linter.unusedVariables false



def WordMakes.Stmt : Prop := ∀ (l0 : List (Int)) (a1 : Int) (a2 : ByteArray), (l0.length ≤ maxLen ∧ ∀ y ∈ l0, (Lit.int .i64 y).wf = true) → l0.length * 8 ≤ 140737488351232 → (Lit.int .i64 a1).wf = true → a2.size ≤ 140737488351232 → ∃ k, tipstafflaw33_WordMakes.f k l0 a1 a2 = some true

end Go.Proofs.YtbcmlgbhejcjbaaDoor.Pure
