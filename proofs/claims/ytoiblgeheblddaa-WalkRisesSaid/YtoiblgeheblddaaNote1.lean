/- slices.Backward of ints. -/
import Derived.Test.YtoiblgeheblddaaBack
import Derived.Test.YtoiblgeheblddaaBlkNode
import Derived.Test.YtoiblgeheblddaaBuild1
namespace Go.Proofs.Ytoiblgeheblddaa
open Go.RowKit Go.Extern.Stop Go.Stop Go.Extern
set_option linter.unusedVariables false
attribute [local irreducible] wpList wpAnyH Code.wp Oper.wp

set_option maxRecDepth 100000 in
set_option maxHeartbeats 1000000 in
theorem slices_Backward (p : Option Addr) (n c : Nat) (w : World) :
    Calls Try.prog 49 #[.slice p n c] w (fun e w' => ∃ b, e = .returned (.func (.func 68) #[] #[.pointer (some ⟨b, 0, none⟩)]) ∧ Below w.heap.size w w' ∧ w.heap.size ≤ b ∧ Blk w' b [.slice p n c] 27) := by
  refine calls_of_wp Try.func49 rfl ?_
  refine g_fr ⟨#[.slice p n c, undef, undef, undef], []⟩ (by kernel_rfl) ?_
  refine wp_seq ?_
  refine wp_region_lit ?_
  refine g_op (by kernel_rfl) (op_box [.slice p n c] rfl (by kernel_rfl) ?_)
  intro b1 W1 n1
  have g1 := n1.ge (Below.refl w.heap.size _)
  have hB := n1.below
  have k1 := n1.blk
  refine g_pv 1 [(2, .nilFunc)] (by kernel_rfl) ?_
  refine wpList_nil ?_
  refine wp_seq ?_
  refine wp_region_lit ?_
  refine g_pv 2 [(3, .func (.func 68) #[] #[.pointer (some ⟨b1, 0, none⟩)]), (2, .func (.func 68) #[] #[.pointer (some ⟨b1, 0, none⟩)])] (by kernel_rfl) ?_
  refine wpList_nil ?_
  refine wp_ret ?_
  exact g_ret (.func (.func 68) #[] #[.pointer (some ⟨b1, 0, none⟩)]) (by kernel_rfl) (by kernel_rfl) ⟨_, rfl, hB, g1, k1⟩
end Go.Proofs.Ytoiblgeheblddaa

