/- The pure statement of WordBack. -/
import Derived.Test.YtbcmlgbhejcjbaaDoorS20
import Derived.Test.YtbcmlgbhejcjbaaDoorOpens
namespace Go.Proofs.YtbcmlgbhejcjbaaDoor.Pure
open Go.RowKit Go.Proofs.YtbcmlgbhejcjbaaDoor.S Go.Proofs.YtbcmlgbhejcjbaaDoorW.PrintWords Go.Proofs.YtbcmlgbhejcjbaaDoorW.PrintLast
set_option linter.unusedVariables false



def WordBack.Stmt : Prop := ∀ (a0 : Int) (a1 : Int) (a2 : Int), (Lit.int .i64 a0).wf = true → (Lit.int .i64 a1).wf = true → (Lit.int .i64 a2).wf = true → ∃ k, tipstafflaw33_WordBack.f k a0 a1 a2 = some true

end Go.Proofs.YtbcmlgbhejcjbaaDoor.Pure
