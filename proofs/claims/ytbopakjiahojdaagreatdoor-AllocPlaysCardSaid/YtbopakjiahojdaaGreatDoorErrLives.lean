/- The document's example of chapter 5: scantlinglaw05.lives returns true. -/
import Derived.Test.YtbopakjiahojdaaGreatDoorErrText
namespace Go.Proofs.YtbopakjiahojdaaGreatDoor
open Go.RowKit Go.Extern.Stop Go.Stop Go.Extern
set_option linter.unusedVariables false

theorem numB_digit (n : Nat) (h : n < 10) : numB n = ⟨#[48 + n.toUInt8]⟩ := by
  have : n = 0 ∨ n = 1 ∨ n = 2 ∨ n = 3 ∨ n = 4 ∨ n = 5 ∨ n = 6 ∨ n = 7 ∨ n = 8 ∨ n = 9 := by omega
  rcases this with rfl | rfl | rfl | rfl | rfl | rfl | rfl | rfl | rfl | rfl <;> (simp [numB, Lib.itoa, Lib.decDigits]; try decide)
theorem text_lives : textB [some 3, some 7] (some 4) = ⟨#[98, 108, 111, 99, 107, 32, 51, 58, 32, 98, 108, 111, 99, 107, 32, 55, 58, 32, 101, 114, 114, 111, 114, 32, 52]⟩ := by
  simp only [textB]
  rw [show numB 3 = ⟨#[51]⟩ from numB_digit 3 (by omega), show numB 7 = ⟨#[55]⟩ from numB_digit 7 (by omega), show numB 4 = ⟨#[52]⟩ from numB_digit 4 (by omega)]
  rfl

end Go.Proofs.YtbopakjiahojdaaGreatDoor

