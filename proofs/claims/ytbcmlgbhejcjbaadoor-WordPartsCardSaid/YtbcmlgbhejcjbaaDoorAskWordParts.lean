/- The pure statement of WordParts. -/
import Derived.Test.YtbcmlgbhejcjbaaDoorS11
import Derived.Test.YtbcmlgbhejcjbaaDoorOpens
namespace Go.Proofs.YtbcmlgbhejcjbaaDoor.Pure
open Go.RowKit Go.Proofs.YtbcmlgbhejcjbaaDoor.S Go.Proofs.YtbcmlgbhejcjbaaDoorW.PrintWords Go.Proofs.YtbcmlgbhejcjbaaDoorW.PrintLast
set_option linter.unusedVariables false



def WordParts.Stmt : Prop := ∀ (l0 : List (Int)) (a1 : Int), (l0.length ≤ maxLen ∧ ∀ y ∈ l0, (Lit.int .i64 y).wf = true) → l0.length * 8 ≤ 140737488351232 → (Lit.int .i64 a1).wf = true → ∃ k, tipstafflaw33_WordParts.f k l0 a1 = some true

end Go.Proofs.YtbcmlgbhejcjbaaDoor.Pure
