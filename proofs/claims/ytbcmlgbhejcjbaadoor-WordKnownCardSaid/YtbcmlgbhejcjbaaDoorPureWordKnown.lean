/- The chapter's examples. -/
import Derived.Test.YtbcmlgbhejcjbaaDoorS22
namespace Go.Proofs.YtbcmlgbhejcjbaaDoor.Pure
open Go.RowKit Go.Proofs.YtbcmlgbhejcjbaaDoor.S Go.Proofs.YtbcmlgbhejcjbaaDoorW.PrintWords Go.Proofs.YtbcmlgbhejcjbaaDoorW.PrintLast
set_option linter.unusedVariables false
set_option linter.unusedSimpArgs false

theorem WordKnown : tipstafflaw33_WordKnown.Pure := ⟨100, by decide +kernel⟩

end Go.Proofs.YtbcmlgbhejcjbaaDoor.Pure
