/- The document's example of chapter 5: scantlinglaw05.lives returns true. -/
import Derived.Test.YthjemliaeklecaaDoorErrText
namespace Go.Proofs.YthjemliaeklecaaDoor
open Go.RowKit Go.Extern.Stop Go.Stop Go.Extern
set_option linter.unusedVariables false

theorem numB_digit (n : Nat) (h : n < 10) : numB n = ⟨#[48 + n.toUInt8]⟩ := by
  have : n = 0 ∨ n = 1 ∨ n = 2 ∨ n = 3 ∨ n = 4 ∨ n = 5 ∨ n = 6 ∨ n = 7 ∨ n = 8 ∨ n = 9 := by omega
  rcases this with rfl | rfl | rfl | rfl | rfl | rfl | rfl | rfl | rfl | rfl <;> (simp [numB, Lib.itoa, Lib.decDigits]; try decide)
theorem text_lives : textB [some 3, some 7] (some 4) = ⟨#[98, 108, 111, 99, 107, 32, 51, 58, 32, 98, 108, 111, 99, 107, 32, 55, 58, 32, 101, 114, 114, 111, 114, 32, 52]⟩ := by
  simp only [textB]
  rw [show numB 3 = ⟨#[51]⟩ from numB_digit 3 (by omega), show numB 7 = ⟨#[55]⟩ from numB_digit 7 (by omega), show numB 4 = ⟨#[52]⟩ from numB_digit 4 (by omega)]
  rfl

set_option maxRecDepth 100000 in
set_option maxHeartbeats 2000000 in
theorem lives05 (w : World) (hg : ErrT w) : Calls Tryd.prog 11 #[] w (Ret (.bool true) w) := by
  have hI : ∀ W b, (some b ∈ [some (3 : Int), some 7] ∨ (some (4 : Int)) = some b) → Itoas W b ∧ (numB b).size ≤ 100 := by
    intro W b hb
    simp only [List.mem_cons, Option.some.injEq, List.not_mem_nil, or_false] at hb
    rcases hb with (rfl | rfl) | rfl
    · exact ⟨Itoas.small (n := 3) (by omega) W, by rw [show numB 3 = ⟨#[51]⟩ from numB_digit 3 (by omega)]; decide⟩
    · exact ⟨Itoas.small (n := 7) (by omega) W, by rw [show numB 7 = ⟨#[55]⟩ from numB_digit 7 (by omega)]; decide⟩
    · exact ⟨Itoas.small (n := 4) (by omega) W, by rw [show numB 4 = ⟨#[52]⟩ from numB_digit 4 (by omega)]; decide⟩
  go_enter Tryd.func11, Tryd.ntmps11
  go_wp2_with fail
  refine (fault_At 7 (some 4) [] _ w rfl).mono ?_
  rintro e w1 ⟨r1, rfl, hb1, h1⟩
  go_wp2_with fail
  refine (fault_At 3 (some 4) [some 7] _ w1 h1).mono ?_
  rintro e w2 ⟨r2, rfl, hb2, h2⟩
  have hb := Bl.next hb1 hb2
  have hg2 := hg.below hb
  change ErrV w2 [some 3, some 7] (some 4) r2 at h2
  clear h1 hb1 hb2 hg
  rcases h2.nil_or with ⟨hz, _⟩ | ⟨_, ty, x, rfl⟩
  · exact nomatch hz
  go_wp2_with fail
  refine (fault_Code (some 4) _ _ w2 hg2 h2).mono ?_
  rintro e w3 ⟨rfl, hb3⟩
  rw [show codeOf [some 3, some 7] (some 4) = 4 from rfl]
  go_wp2_with fail
  refine (fault_Text (some 4) _ _ w3 (by simp) (h2.below hb3) (fun _ => rfl) (hI w3)).mono ?_
  rintro e w4 ⟨rfl, hb4⟩
  rw [text_lives]
  have hb' := Bl.next hb (Bl.next hb3 hb4)
  go_wp2_with fail
  refine (fault_Blocks (some 4) _ _ w4 (by simp) (h2.below (Bl.next hb3 hb4))).mono ?_
  rintro e w5 ⟨r3, rfl, hb5, h5⟩
  obtain ⟨a, c, rfl⟩ := (own_sl h5).slice
  rw [show (blocksOf [some 3, some 7]).length = 2 from rfl]
  go_wp2_with fail
  go_ret
  exact ⟨rfl, Bl.next hb' hb5⟩
end Go.Proofs.YthjemliaeklecaaDoor
