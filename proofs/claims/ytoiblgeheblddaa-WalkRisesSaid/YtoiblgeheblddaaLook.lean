/- slices.Contains of ints. -/
import Derived.Test.YtoiblgeheblddaaNote
namespace Go.Proofs.Ytoiblgeheblddaa
open Go.RowKit Go.Extern.Stop Go.Stop Go.Extern
set_option linter.unusedVariables false
attribute [local irreducible] wpList wpAnyH Code.wp Oper.wp

/-- whether x is in l -/
def hasI (l : List Int) (x : Int) : Bool := l.any fun y => decide (x = y)
theorem hasI_true {l : List Int} {x : Int} {i : Nat} (hi : i < l.length) (h : x = l.getD i 0) : hasI l x = true := by
  unfold hasI
  rw [List.any_eq_true]
  exact ⟨l[i], List.getElem_mem _, by rw [decide_eq_true_iff, h]; simp [hi]⟩
theorem hasI_false {l : List Int} {x : Int} (h : ∀ j, j < l.length → x ≠ l.getD j 0) : hasI l x = false := by
  unfold hasI
  rw [List.any_eq_false]
  intro y hy
  obtain ⟨j, hj, rfl⟩ := List.getElem_of_mem hy
  have := h j hj
  simpa [hj] using this
set_option maxRecDepth 100000 in
set_option maxHeartbeats 1000000 in
theorem indexI (a : Option Addr) (c : Nat) (l : List Int) (x : Int) (w : World) (h : Ints w (.slice a l.length c) l) (hln : l.length ≤ 1000000) :
    Calls Try.prog 69 #[.slice a l.length c, .int .i64 x] w (fun e w' => (hasI l x = false ∧ e = .returned (.int .i64 (-1)) ∧ Below w.heap.size w w') ∨ (hasI l x = true ∧ ∃ i : Nat, e = .returned (.int .i64 (i : Int)) ∧ Below w.heap.size w w')) := by
  refine calls_of_wp Try.func69 rfl ?_
  refine g_fr ⟨#[.slice a l.length c, .int .i64 x, undef, undef, undef, undef, undef, undef, undef, undef, undef, undef, undef, undef, undef, undef, undef, undef, undef], []⟩ (by kernel_rfl) ?_
  refine wp_seq ?_
  refine wp_region_lit ?_
  refine g_pv 1 [(4, .int .i64 0)] (by kernel_rfl) ?_
  refine wpList_nil ?_
  refine wp_seq ?_
  refine wp_seq ?_
  refine wp_region_lit ?_
  refine g_pv 3 [(6, .slice a l.length c), (7, .int .i64 (↑l.length : Int)), (8, .int .i64 0)] (by kernel_rfl) ?_
  refine wpList_nil ?_
  refine wp_block ?_
  refine g_fr ⟨#[.slice a l.length c, .int .i64 x, undef, undef, .int .i64 0, undef, .slice a l.length c, .int .i64 (↑l.length : Int), .int .i64 0, undef, undef, undef, undef, undef, undef, undef, undef, undef, undef], []⟩ (by kernel_rfl) ?_
  have hB := Below.refl w.heap.size w
  refine wp_loop (fun act V => ∃ (i : Nat) (x1 : Nat → Value), act = ⟨#[.slice a l.length c, .int .i64 x, undef, undef, (x1 0), (x1 1), .slice a l.length c, .int .i64 (↑l.length : Int), .int .i64 (↑i : Int), (x1 2), (x1 3), (x1 4), (x1 5), (x1 6), (x1 7), (x1 8), (x1 9), (x1 10), (x1 11)], []⟩ ∧ Below w.heap.size w V ∧ i ≤ l.length ∧ (∀ j, j < i → x ≠ l.getD j 0)) (fun act V => l.length - ((intOf (act.tmps.getD 8 undef))).toNat) ⟨0, (pk [.int .i64 0, undef, undef, undef, undef, undef, undef, undef, undef, undef, undef, undef]), rfl, hB, Nat.zero_le _, ?_⟩ ?_
  · exact fun j hj => absurd hj (by omega)
  rintro _ W1 ⟨i, x1, rfl, hB, hi, hz⟩
  refine wp_seq ?_
  refine wp_region_lit ?_
  refine g_pv 1 [(9, .bool (decide ((↑i : Int) < (↑l.length : Int))))] (by kernel_rfl) ?_
  refine wpList_nil ?_
  refine wp_seq ?_
  refine wp_cond_split (t := decide ((↑i : Int) < (↑l.length : Int))) (by kernel_rfl) (fun hc2 => ?_) (fun hc2 => ?_)
  · have hc2 := of_decide_eq_true hc2
    refine wp_skip ?_
    refine wp_seq ?_
    refine wp_block ?_
    refine wp_seq ?_
    refine wp_region_lit ?_
    refine g_pv 2 [(10, .int .i64 (↑i : Int)), (5, .int .i64 (↑i : Int))] (by kernel_rfl) ?_
    refine wpList_nil ?_
    refine wp_seq ?_
    refine wp_region_lit ?_
    refine g_pv 3 [(11, .int .i64 x), (12, .slice a l.length c), (13, .int .i64 (↑i : Int))] (by kernel_rfl) ?_
    refine g_op (by kernel_rfl) (op_val (run_indexA (size := 1) (k := i) (b := a) (n := l.length) (c := c) (i := (↑i : Int)) (ki := .i64) rfl (by kernel_rfl) (by kernel_rfl) rfl (by omega) (Ints.elem h (k := i) (by omega)).1 Try.underlying27 (by kernel_rfl) W1) ?_)
    refine g_op (by kernel_rfl) (op_load (elemAddr a (i * 1)) (.int .i64 (l.getD i 0)) rfl (by kernel_rfl) (by kernel_rfl) (Ints.elem (h.below hB) (k := i) (by omega)).2 ?_)
    refine g_pv 1 [(16, .bool (x == (l.getD i 0)))] (by kernel_rfl) ?_
    refine wpList_nil ?_
    refine wp_cond_split (t := (x == (l.getD i 0))) (by kernel_rfl) (fun hc3 => ?_) (fun hc3 => ?_)
    · have hc3 := eq_of_beq hc3
      refine wp_seq ?_
      refine wp_region_lit ?_
      refine g_pv 2 [(17, .int .i64 (↑i : Int)), (4, .int .i64 (↑i : Int))] (by kernel_rfl) ?_
      refine wpList_nil ?_
      refine wp_ret (inBlock_ret (then_ret (then_ret (inBlock_ret (then_ret ?_)))))
      exact g_ret (.int .i64 (↑i : Int)) (by kernel_rfl) (by kernel_rfl) (.inr ⟨hasI_true (i := i) (by omega) (by omega), _, rfl, hB⟩)
    · have hc3 := ne_of_beq_false hc3
      refine wp_skip ?_
      refine wp_region_lit ?_
      refine g_op (by kernel_rfl) (op_wrap .i64 ((↑i : Int) + 1) (↑(i + 1) : Int) (by kernel_rfl) ((show IntKind.i64.wrap ((↑i : Int) + 1) = ((↑i : Int) + 1) from by first | exact IntWalk.i64_in _ (by omega) | (simp only [IntKind.wrap]; omega)).trans (by omega)) ?_)
      refine g_pv 1 [(8, .int .i64 (↑(i + 1) : Int))] (by kernel_rfl) ?_
      refine wpList_nil ?_
      refine g_nfr ⟨#[.slice a l.length c, .int .i64 x, undef, undef, (x1 0), .int .i64 (↑i : Int), .slice a l.length c, .int .i64 (↑l.length : Int), .int .i64 (↑(i + 1) : Int), .bool (decide ((↑i : Int) < (↑l.length : Int))), .int .i64 (↑i : Int), .int .i64 x, .slice a l.length c, .int .i64 (↑i : Int), .pointer (some (elemAddr a (i * 1))), .int .i64 (l.getD i 0), .bool (x == (l.getD i 0)), (x1 10), .int .i64 (↑(i + 1) : Int)], []⟩ (by kernel_rfl) ?_
      refine ⟨⟨i + 1, (pk [(x1 0), .int .i64 (↑i : Int), .bool (decide ((↑i : Int) < (↑l.length : Int))), .int .i64 (↑i : Int), .int .i64 x, .slice a l.length c, .int .i64 (↑i : Int), .pointer (some (elemAddr a (i * 1))), .int .i64 (l.getD i 0), .bool (x == (l.getD i 0)), (x1 10), .int .i64 (↑(i + 1) : Int)]), rfl, hB, by omega, fun j hj => (Nat.lt_or_ge j i).elim (hz j) (fun q => by obtain rfl : j = i := (by omega); omega)⟩, ?_⟩
      show l.length - ((↑(i + 1) : Int)).toNat < l.length - ((↑i : Int)).toNat
      omega
  · have hc2 := of_decide_eq_false hc2
    refine wp_exit ?_
    refine then_exit ?_
    refine then_exit ?_
    refine inBlock_hit ?_
    refine wp_seq ?_
    refine wp_region_lit ?_
    refine g_pv 1 [(4, .int .i64 (-1))] (by kernel_rfl) ?_
    refine wpList_nil ?_
    refine wp_ret ?_
    exact g_ret (.int .i64 (-1)) (by kernel_rfl) (by kernel_rfl) (.inl ⟨hasI_false (fun j hj => hz j (by omega)), rfl, hB⟩)
set_option maxRecDepth 100000 in
set_option maxHeartbeats 1000000 in
theorem containsI (a : Option Addr) (c : Nat) (l : List Int) (x : Int) (w : World) (h : Ints w (.slice a l.length c) l) (hln : l.length ≤ 1000000) :
    Calls Try.prog 50 #[.slice a l.length c, .int .i64 x] w (Ret (.bool (hasI l x)) w) := by
  refine calls_of_wp Try.func50 rfl ?_
  refine g_fr ⟨#[.slice a l.length c, .int .i64 x, undef, undef, undef, undef, undef, undef, undef], []⟩ (by kernel_rfl) ?_
  refine wp_seq ?_
  refine wp_region_lit ?_
  refine g_pv 1 [(4, .bool false)] (by kernel_rfl) ?_
  refine wpList_nil ?_
  refine wp_seq ?_
  refine wp_region_lit ?_
  refine g_pv 2 [(5, .slice a l.length c), (6, .int .i64 x)] (by kernel_rfl) ?_
  refine g_op (by kernel_rfl) (op_call (lb := #[]) 69 #[.slice a l.length c, .int .i64 x] rfl (by kernel_rfl) (fun _ _ => by kernel_rfl) (by kernel_rfl) ((indexI a c l x _ (h.below (Below.refl w.heap.size _)) hln).mono ?_))
  rintro e W1 hq1
  rcases hq1 with ⟨hz, rfl, hb1⟩ | ⟨hz, i0, rfl, hb1⟩
  · refine ⟨_, rfl, ?_⟩
    have hB := hb1
    refine g_pv 2 [(8, .bool false), (4, .bool false)] (by kernel_rfl) ?_
    refine wpList_nil ?_
    refine wp_ret ?_
    refine g_ret (.bool false) (by kernel_rfl) (by kernel_rfl) ?_
    rw [hz]; exact ⟨rfl, hB⟩
  · refine ⟨_, rfl, ?_⟩
    have hB := hb1
    refine g_pv 2 [(8, .bool (decide ((↑i0 : Int) ≥ (0 : Int)))), (4, .bool (decide ((↑i0 : Int) ≥ (0 : Int))))] (by kernel_rfl) ?_
    refine wpList_nil ?_
    refine wp_ret ?_
    refine g_ret (.bool (decide ((↑i0 : Int) ≥ (0 : Int)))) (by kernel_rfl) (by kernel_rfl) ?_
    rw [hz, show decide ((↑i0 : Int) ≥ (0 : Int)) = true from decide_eq_true (by omega)]; exact ⟨rfl, hB⟩
end Go.Proofs.Ytoiblgeheblddaa

