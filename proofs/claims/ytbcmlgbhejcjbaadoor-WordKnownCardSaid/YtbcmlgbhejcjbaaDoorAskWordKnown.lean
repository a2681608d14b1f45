/- The pure statement of WordKnown. -/
import Derived.Test.YtbcmlgbhejcjbaaDoorS22
import Derived.Test.YtbcmlgbhejcjbaaDoorOpens
namespace Go.Proofs.YtbcmlgbhejcjbaaDoor.Pure
open Go.RowKit Go.Proofs.YtbcmlgbhejcjbaaDoor.S Go.Proofs.YtbcmlgbhejcjbaaDoorW.PrintWords Go.Proofs.YtbcmlgbhejcjbaaDoorW.PrintLast
set_option linter.unusedVariables false



def WordKnown.Stmt : Prop := ∃ k, tipstafflaw33_WordKnown.f k  = some true

end Go.Proofs.YtbcmlgbhejcjbaaDoor.Pure
