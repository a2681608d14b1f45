/- Cars, texts, what two words have in common and where they differ. -/
import Derived.Test.YtbcmlgbhejcjbaaDoorS17
import Derived.Test.YtbcmlgbhejcjbaaDoorS10
import Derived.Test.YtbcmlgbhejcjbaaDoorS18
import Derived.Test.YtbcmlgbhejcjbaaDoorWb1
namespace Go.Proofs.YtbcmlgbhejcjbaaDoor.Pure
open Go.RowKit Go.Proofs.YtbcmlgbhejcjbaaDoor.S Go.Proofs.YtbcmlgbhejcjbaaDoorW.PrintWords Go.Proofs.YtbcmlgbhejcjbaaDoorW.PrintLast
set_option linter.unusedVariables false
set_option linter.unusedSimpArgs false

theorem cars_fin : ∀ c : Fin 9, ∀ w : Fin 256, 1 ≤ c.val → w.val < 2 ^ c.val → word_Cars.f 40 (w.val : Int) (c.val : Int) = some (carsL w.val c.val, 0) := by decide +kernel
theorem rcars_fin : ∀ c : Fin 9, ∀ w : Fin 256, 1 ≤ c.val → w.val < 2 ^ c.val → tipstaffref33_Cars.f 40 (w.val : Int) (c.val : Int) = some (carsL w.val c.val, 0) := by decide +kernel
theorem text_fin : ∀ c : Fin 9, ∀ w : Fin 256, 1 ≤ c.val → w.val < 2 ^ c.val → word_Text.f 40 (w.val : Int) (c.val : Int) = some (textB w.val c.val, 0) := by decide +kernel
theorem rtext_fin : ∀ c : Fin 9, ∀ w : Fin 256, 1 ≤ c.val → w.val < 2 ^ c.val → tipstaffref33_Text.f 40 (w.val : Int) (c.val : Int) = some (textB w.val c.val, 0) := by decide +kernel
theorem parse_fin : ∀ c : Fin 9, ∀ w : Fin 256, 1 ≤ c.val → w.val < 2 ^ c.val → word_Parse.f (textB w.val c.val) = some ((w.val : Int), (c.val : Int), 0) := by decide +kernel
def orL : List Int → Nat → Nat
  | [], w => w
  | x :: xs, w => orL xs (w ||| 2 ^ (x - 1).toNat)
theorem carsL_fin : ∀ c : Fin 9, ∀ w : Fin 256, 1 ≤ c.val → w.val < 2 ^ c.val → orL (carsL w.val c.val) 0 = w.val ∧ ∀ x ∈ carsL w.val c.val, inB x 1 (c.val : Int) = true := by decide +kernel

end Go.Proofs.YtbcmlgbhejcjbaaDoor.Pure
