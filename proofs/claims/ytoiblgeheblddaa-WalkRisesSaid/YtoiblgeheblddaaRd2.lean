/- code.Zero, seal.Open. -/
import Derived.Test.YtoiblgeheblddaaRd1
import Derived.Test.YtoiblgeheblddaaAllocPl
namespace Go.Proofs.Ytoiblgeheblddaa
open Go.RowKit Go.Extern.Stop Go.Stop Go.Extern
set_option linter.unusedVariables false
attribute [local irreducible] wpList wpAnyH Code.wp Oper.wp

section
variable {P : Program} {a : Act}
/-- a cut of a slice at both bounds -/
theorem run_sliceLHA {o : Oper} {t e : TypeId} {x y y2 : Operand} {b : Option Addr} {n k h c : Nat} {i j : Int} {ki kj : IntKind} (size : Nat) (ho : o.op = .slice t x (some y) (some y2) none) (hx : a.eval x = .slice b n c) (hy : a.eval y = .int ki i) (hi : i = (k : Int)) (hy2 : a.eval y2 = .int kj j) (hj : j = (h : Int)) (hk : k ≤ h) (hc : h ≤ c)
    (ht : P.underlying t = some (.slice e)) (hs : (P.info? e).map (·.size) = some size) (w : World) : (execOp a.eval o).run P w = .ok (.value (.slice (cutA b k c size) (h - k) (c - k))) w := by
  cases hq : P.info? e with
  | none => simp [hq] at hs
  | some q =>
    have hj' : q.size = size := by simpa [hq] using hs
    subst hi hj
    have h1 : (0 : Int) ≤ (k : Int) := by omega
    have h2 : (0 : Int) ≤ (h : Int) := by omega
    have h3 : (k : Int) ≤ (h : Int) := by omega
    have h4 : (h : Int) ≤ (c : Int) := by omega
    by_cases h5 : c = k
    · simp_all [execOp, Instr.sliceAt, Instr.slice, Instr.sliceBounds, Instr.sliceBound, asIntOf, run_underlying ht, sizeOf, typeInfo, cutA]
    · simp_all [execOp, Instr.sliceAt, Instr.slice, Instr.sliceBounds, Instr.sliceBound, asIntOf, run_underlying ht, sizeOf, typeInfo, cutA]
end
theorem Bys.cut {w : World} {b : Option Addr} {n c : Nat} {l : List UInt8} (h : Bys w (.slice b n c) l) (hl : l.length = n) (k m : Nat) (hk : k ≤ m) (hm : m ≤ n) : Bys w (.slice (cutA b k c 1) (m - k) (c - k)) ((l.drop k).take (m - k)) := by
  have hlen : ((l.drop k).take (m - k)).length = m - k := by simp; omega
  have hcap := Bys.cap h hl
  rcases h with ⟨a', c', h1, h2, h3⟩ | ⟨g, off, cap, h1, h2, h3, h4⟩
  · obtain rfl : k = 0 := by omega
    obtain rfl : m = 0 := by omega
    refine .inl ⟨cutA b 0 c 1, c - 0, ?_, by simp, by simp⟩
    simp
  · simp only [Value.slice.injEq] at h1
    obtain ⟨rfl, _, rfl⟩ := h1
    by_cases hz : m - k = 0
    · refine .inl ⟨cutA (some ⟨g, off, none⟩) k c 1, c - k, by rw [hz], by omega, ?_⟩
      rw [hz]; rfl
    · refine .inr ⟨g, off + k * 1, c - k, ?_, by omega, by omega, fun j x hj => ?_⟩
      · rw [cutA, if_neg (by omega), hlen]; simp [Addr.add]
      · rw [List.getElem?_map, List.getElem?_take] at hj
        split at hj
        · rw [List.getElem?_drop] at hj
          have := h4 (k + j) x (by rw [List.getElem?_map]; exact hj)
          rwa [Nat.mul_one, Nat.add_assoc]
        · cases hj
/-- whether all bytes are 0 -/
def zeroB (l : List UInt8) : Bool := l.all (· == 0)
theorem zeroB_true {l : List UInt8} (h : ∀ j, j < l.length → l.getD j 0 = 0) : zeroB l = true := by
  unfold zeroB
  rw [List.all_eq_true]
  intro x hx
  obtain ⟨j, hj, rfl⟩ := List.mem_iff_getElem.1 hx
  have := h j hj
  simpa [List.getD, hj] using this
theorem zeroB_false {l : List UInt8} {j : Nat} (hj : j < l.length) (h : ((l.getD j 0).toNat : Int) ≠ 0) : zeroB l = false := by
  unfold zeroB
  rw [List.all_eq_false]
  refine ⟨l[j], List.getElem_mem hj, ?_⟩
  intro h2
  apply h
  have : l[j] = 0 := by simpa using h2
  simp [List.getD, hj, this]
theorem byte_zero {x : UInt8} (h : (x.toNat : Int) = 0) : x = 0 := by
  have h1 : x.toNat = 0 := by omega
  exact UInt8.toNat_inj.1 (by rw [h1]; rfl)
set_option maxRecDepth 100000 in
set_option maxHeartbeats 1000000 in
theorem zero_1 (n : Int) (w : World) :
    Calls Try.prog 63 #[.int .u8 n] w (Ret (.bool (n != 0)) w) := by
  refine calls_of_wp Try.func63 rfl ?_
  refine g_fr ⟨#[.int .u8 n, undef, undef, undef, undef], []⟩ (by kernel_rfl) ?_
  refine wp_seq ?_
  refine wp_region_lit ?_
  refine g_pv 1 [(2, .bool false)] (by kernel_rfl) ?_
  refine wpList_nil ?_
  refine wp_seq ?_
  refine wp_region_lit ?_
  refine g_pv 3 [(3, .int .u8 n), (4, .bool (n != (0 : Int))), (2, .bool (n != (0 : Int)))] (by kernel_rfl) ?_
  refine wpList_nil ?_
  refine wp_ret ?_
  exact g_ret (.bool (n != (0 : Int))) (by kernel_rfl) (by kernel_rfl) ⟨rfl, (Below.refl w.heap.size _)⟩
set_option maxRecDepth 100000 in
set_option maxHeartbeats 2000000 in
theorem indexZero (a : Option Addr) (c : Nat) (l : List UInt8) (w : World) (hl : l.length ≤ 100000000) (h : Bys w (.slice a l.length c) l) :
    Calls Try.prog 75 #[.slice a l.length c, .func (.func 63) #[] #[]] w (fun e w' => (zeroB l = true ∧ e = .returned (.int .i64 (-1)) ∧ Below w.heap.size w w') ∨ (zeroB l = false ∧ ∃ i : Nat, e = .returned (.int .i64 (i : Int)) ∧ Below w.heap.size w w')) := by
  refine calls_of_wp Try.func75 rfl ?_
  refine g_fr ⟨#[.slice a l.length c, .func (.func 63) #[] #[], undef, undef, undef, undef, undef, undef, undef, undef, undef, undef, undef, undef, undef, undef, undef, undef, undef], []⟩ (by kernel_rfl) ?_
  refine wp_seq ?_
  refine wp_region_lit ?_
  refine g_pv 1 [(4, .int .i64 0)] (by kernel_rfl) ?_
  refine wpList_nil ?_
  refine wp_seq ?_
  refine wp_seq ?_
  refine wp_region_lit ?_
  refine g_pv 3 [(6, .slice a l.length c), (7, .int .i64 (↑l.length : Int)), (8, .int .i64 0)] (by kernel_rfl) ?_
  refine wpList_nil ?_
  refine wp_block ?_
  refine g_fr ⟨#[.slice a l.length c, .func (.func 63) #[] #[], undef, undef, .int .i64 0, undef, .slice a l.length c, .int .i64 (↑l.length : Int), .int .i64 0, undef, undef, undef, undef, undef, undef, undef, undef, undef, undef], []⟩ (by kernel_rfl) ?_
  have hB := Below.refl w.heap.size w
  refine wp_loop (fun act V => ∃ (i : Nat) (x1 : Nat → Value), act = ⟨#[.slice a l.length c, .func (.func 63) #[] #[], undef, undef, (x1 0), (x1 1), .slice a l.length c, .int .i64 (↑l.length : Int), .int .i64 (↑i : Int), (x1 2), (x1 3), (x1 4), (x1 5), (x1 6), (x1 7), (x1 8), (x1 9), (x1 10), (x1 11)], []⟩ ∧ Below w.heap.size w V ∧ i ≤ l.length ∧ (∀ j, j < i → l.getD j 0 = 0)) (fun act V => l.length - ((intOf (act.tmps.getD 8 undef))).toNat) ⟨0, (pk [.int .i64 0, undef, undef, undef, undef, undef, undef, undef, undef, undef, undef, undef]), rfl, hB, Nat.zero_le _, ?_⟩ ?_
  · exact fun j hj => absurd hj (by omega)
  rintro _ W1 ⟨i, x1, rfl, hB, hi, hz⟩
  refine wp_seq ?_
  refine wp_region_lit ?_
  refine g_pv 1 [(9, .bool (decide ((↑i : Int) < (↑l.length : Int))))] (by kernel_rfl) ?_
  refine wpList_nil ?_
  refine wp_seq ?_
  refine wp_cond_split (t := decide ((↑i : Int) < (↑l.length : Int))) (by kernel_rfl) (fun hc2 => ?_) (fun hc2 => ?_)
  · have hc2 := of_decide_eq_true hc2
    refine wp_skip ?_
    refine wp_seq ?_
    refine wp_block ?_
    refine wp_seq ?_
    refine wp_region_lit ?_
    refine g_pv 2 [(10, .int .i64 (↑i : Int)), (5, .int .i64 (↑i : Int))] (by kernel_rfl) ?_
    refine wpList_nil ?_
    refine wp_seq ?_
    refine wp_region_lit ?_
    refine g_pv 3 [(11, .func (.func 63) #[] #[]), (12, .slice a l.length c), (13, .int .i64 (↑i : Int))] (by kernel_rfl) ?_
    refine g_op (by kernel_rfl) (op_val (run_indexA (size := 1) (k := i) (b := a) (n := l.length) (c := c) (i := (↑i : Int)) (ki := .i64) rfl (by kernel_rfl) (by kernel_rfl) rfl (by omega) (Bys.elem h (k := i) (by omega)).1 Try.underlying22 (by kernel_rfl) W1) ?_)
    refine g_op (by kernel_rfl) (op_load (elemAddr a (i * 1)) (.int .u8 (↑(l.getD i 0).toNat : Int)) rfl (by kernel_rfl) (by kernel_rfl) (Bys.elem (h.below hB) (k := i) (by omega)).2 ?_)
    refine g_op (by kernel_rfl) (op_call (lb := #[]) 63 #[.int .u8 (↑(l.getD i 0).toNat : Int)] rfl (by kernel_rfl) (fun _ _ => by kernel_rfl) (by kernel_rfl) ((zero_1 (↑(l.getD i 0).toNat : Int) _).mono ?_))
    rintro e W3 ⟨rfl, hb3⟩
    refine ⟨_, rfl, ?_⟩
    replace hB := Bl.next hB hb3
    refine wpList_nil ?_
    refine wp_cond_split (t := ((↑(l.getD i 0).toNat : Int) != (0 : Int))) (by kernel_rfl) (fun hc4 => ?_) (fun hc4 => ?_)
    · have hc4 := ne_of_bne hc4
      refine wp_seq ?_
      refine wp_region_lit ?_
      refine g_pv 2 [(17, .int .i64 (↑i : Int)), (4, .int .i64 (↑i : Int))] (by kernel_rfl) ?_
      refine wpList_nil ?_
      refine wp_ret (inBlock_ret (then_ret (then_ret (inBlock_ret (then_ret ?_)))))
      exact g_ret (.int .i64 (↑i : Int)) (by kernel_rfl) (by kernel_rfl) (.inr ⟨zeroB_false (j := i) (by omega) (by assumption), _, rfl, hB⟩)
    · have hc4 := eq_of_bne_false hc4
      refine wp_skip ?_
      refine wp_region_lit ?_
      refine g_op (by kernel_rfl) (op_wrap .i64 ((↑i : Int) + 1) (↑(i + 1) : Int) (by kernel_rfl) ((show IntKind.i64.wrap ((↑i : Int) + 1) = ((↑i : Int) + 1) from by first | exact IntWalk.i64_in _ (by omega) | (simp only [IntKind.wrap]; omega)).trans (by omega)) ?_)
      refine g_pv 1 [(8, .int .i64 (↑(i + 1) : Int))] (by kernel_rfl) ?_
      refine wpList_nil ?_
      refine g_nfr ⟨#[.slice a l.length c, .func (.func 63) #[] #[], undef, undef, (x1 0), .int .i64 (↑i : Int), .slice a l.length c, .int .i64 (↑l.length : Int), .int .i64 (↑(i + 1) : Int), .bool (decide ((↑i : Int) < (↑l.length : Int))), .int .i64 (↑i : Int), .func (.func 63) #[] #[], .slice a l.length c, .int .i64 (↑i : Int), .pointer (some (elemAddr a (i * 1))), .int .u8 (↑(l.getD i 0).toNat : Int), .bool ((↑(l.getD i 0).toNat : Int) != (0 : Int)), (x1 10), .int .i64 (↑(i + 1) : Int)], []⟩ (by kernel_rfl) ?_
      refine ⟨⟨i + 1, (pk [(x1 0), .int .i64 (↑i : Int), .bool (decide ((↑i : Int) < (↑l.length : Int))), .int .i64 (↑i : Int), .func (.func 63) #[] #[], .slice a l.length c, .int .i64 (↑i : Int), .pointer (some (elemAddr a (i * 1))), .int .u8 (↑(l.getD i 0).toNat : Int), .bool ((↑(l.getD i 0).toNat : Int) != (0 : Int)), (x1 10), .int .i64 (↑(i + 1) : Int)]), rfl, hB, by omega, fun j hj => (Nat.lt_or_ge j i).elim (hz j) (fun q => by obtain rfl : j = i := (by omega); exact byte_zero (by assumption))⟩, ?_⟩
      show l.length - ((↑(i + 1) : Int)).toNat < l.length - ((↑i : Int)).toNat
      omega
  · have hc2 := of_decide_eq_false hc2
    refine wp_exit ?_
    refine then_exit ?_
    refine then_exit ?_
    refine inBlock_hit ?_
    refine wp_seq ?_
    refine wp_region_lit ?_
    refine g_pv 1 [(4, .int .i64 (-1))] (by kernel_rfl) ?_
    refine wpList_nil ?_
    refine wp_ret ?_
    exact g_ret (.int .i64 (-1)) (by kernel_rfl) (by kernel_rfl) (.inl ⟨zeroB_true (fun j hj => hz j (by omega)), rfl, hB⟩)
set_option maxRecDepth 100000 in
set_option maxHeartbeats 1000000 in
theorem containsZero (a : Option Addr) (c : Nat) (l : List UInt8) (w : World) (hl : l.length ≤ 100000000) (h : Bys w (.slice a l.length c) l) :
    Calls Try.prog 62 #[.slice a l.length c, .func (.func 63) #[] #[]] w (Ret (.bool (!zeroB l)) w) := by
  refine calls_of_wp Try.func62 rfl ?_
  refine g_fr ⟨#[.slice a l.length c, .func (.func 63) #[] #[], undef, undef, undef, undef, undef, undef, undef], []⟩ (by kernel_rfl) ?_
  refine wp_seq ?_
  refine wp_region_lit ?_
  refine g_pv 1 [(4, .bool false)] (by kernel_rfl) ?_
  refine wpList_nil ?_
  refine wp_seq ?_
  refine wp_region_lit ?_
  refine g_pv 2 [(5, .slice a l.length c), (6, .func (.func 63) #[] #[])] (by kernel_rfl) ?_
  refine g_op (by kernel_rfl) (op_call (lb := #[]) 75 #[.slice a l.length c, .func (.func 63) #[] #[]] rfl (by kernel_rfl) (fun _ _ => by kernel_rfl) (by kernel_rfl) ((indexZero a c l _ hl (h.below (Below.refl w.heap.size _))).mono ?_))
  rintro e W1 hq1
  rcases hq1 with ⟨hz, rfl, hb1⟩ | ⟨hz, i0, rfl, hb1⟩
  · refine ⟨_, rfl, ?_⟩
    have hB := hb1
    refine g_pv 2 [(8, .bool false), (4, .bool false)] (by kernel_rfl) ?_
    refine wpList_nil ?_
    refine wp_ret ?_
    refine g_ret (.bool false) (by kernel_rfl) (by kernel_rfl) ?_
    rw [hz]; exact ⟨rfl, hB⟩
  · refine ⟨_, rfl, ?_⟩
    have hB := hb1
    refine g_pv 2 [(8, .bool (decide ((↑i0 : Int) ≥ (0 : Int)))), (4, .bool (decide ((↑i0 : Int) ≥ (0 : Int))))] (by kernel_rfl) ?_
    refine wpList_nil ?_
    refine wp_ret ?_
    refine g_ret (.bool (decide ((↑i0 : Int) ≥ (0 : Int)))) (by kernel_rfl) (by kernel_rfl) ?_
    rw [hz, show decide ((↑i0 : Int) ≥ (0 : Int)) = true from decide_eq_true (by omega)]; exact ⟨rfl, hB⟩
set_option maxRecDepth 100000 in
set_option maxHeartbeats 1000000 in
theorem code_Zero (a : Option Addr) (c : Nat) (l : List UInt8) (w : World) (hl : l.length ≤ 100000000) (h : Bys w (.slice a l.length c) l) :
    Calls Try.prog 37 #[.slice a l.length c] w (Ret (.bool (zeroB l)) w) := by
  refine calls_of_wp Try.func37 rfl ?_
  refine g_fr ⟨#[.slice a l.length c, undef, undef, undef, undef, undef], []⟩ (by kernel_rfl) ?_
  refine wp_seq ?_
  refine wp_region_lit ?_
  refine g_pv 1 [(2, .bool false)] (by kernel_rfl) ?_
  refine wpList_nil ?_
  refine wp_seq ?_
  refine wp_region_lit ?_
  refine g_pv 1 [(3, .slice a l.length c)] (by kernel_rfl) ?_
  refine g_op (by kernel_rfl) (op_call (lb := #[]) 62 #[.slice a l.length c, .func (.func 63) #[] #[]] rfl (by kernel_rfl) (fun _ _ => by kernel_rfl) (by kernel_rfl) ((containsZero a c l _ hl (h.below (Below.refl w.heap.size _))).mono ?_))
  rintro e W1 ⟨rfl, hb1⟩
  refine ⟨_, rfl, ?_⟩
  have hB := hb1
  refine g_pv 2 [(5, .bool (!(!zeroB l))), (2, .bool (!(!zeroB l)))] (by kernel_rfl) ?_
  refine wpList_nil ?_
  refine wp_ret ?_
  refine g_ret (.bool (!(!zeroB l))) (by kernel_rfl) (by kernel_rfl) ?_
  rw [Bool.not_not]; exact ⟨rfl, hB⟩
/-- a kind and a number that may be -/
def knownB (kind no : Int) : Bool := decide (1 ≤ kind ∧ kind ≤ 4 ∧ 0 ≤ no ∧ no < 14400)
set_option maxRecDepth 100000 in
set_option maxHeartbeats 1000000 in
theorem seal_knownB (kind no : Int) (w : World) :
    Calls Try.prog 45 #[.int .i64 kind, .int .i64 no] w (Ret (.bool (knownB kind no)) w) := by
  refine calls_of_wp Try.func45 rfl ?_
  refine g_fr ⟨#[.int .i64 kind, .int .i64 no, undef, undef, undef, undef, undef, undef, undef, undef, undef, undef, undef, undef, undef, undef, undef, undef, undef], []⟩ (by kernel_rfl) ?_
  refine wp_seq ?_
  refine wp_region_lit ?_
  refine g_pv 1 [(4, .bool false)] (by kernel_rfl) ?_
  refine wpList_nil ?_
  refine wp_seq ?_
  refine wp_region_lit ?_
  refine g_pv 3 [(5, .int .i64 kind), (6, .bool (decide (kind ≥ (1 : Int)))), (7, .bool (decide (kind ≥ (1 : Int))))] (by kernel_rfl) ?_
  rcases Bool.eq_false_or_eq_true (decide (kind ≥ (1 : Int))) with hc1 | hc1
  · refine g_b [6, 7] _ _ hc1 (by kernel_rfl) ?_
    have hc1 := of_decide_eq_true hc1
    refine g_pv 4 [(8, .int .i64 kind), (9, .bool (decide (kind ≤ (4 : Int)))), (10, .bool (decide (kind ≤ (4 : Int)))), (11, .bool (decide (kind ≤ (4 : Int))))] (by kernel_rfl) ?_
    rcases Bool.eq_false_or_eq_true (decide (kind ≤ (4 : Int))) with hc2 | hc2
    · refine g_b [9, 10, 11] _ _ hc2 (by kernel_rfl) ?_
      have hc2 := of_decide_eq_true hc2
      refine g_pv 4 [(12, .int .i64 no), (13, .bool (decide (no ≥ (0 : Int)))), (14, .bool (decide (no ≥ (0 : Int)))), (15, .bool (decide (no ≥ (0 : Int))))] (by kernel_rfl) ?_
      rcases Bool.eq_false_or_eq_true (decide (no ≥ (0 : Int))) with hc3 | hc3
      · refine g_b [13, 14, 15] _ _ hc3 (by kernel_rfl) ?_
        have hc3 := of_decide_eq_true hc3
        refine g_pv 4 [(16, .int .i64 no), (17, .bool (decide (no < (14400 : Int)))), (18, .bool (decide (no < (14400 : Int)))), (4, .bool (decide (no < (14400 : Int))))] (by kernel_rfl) ?_
        refine wpList_nil ?_
        refine wp_ret ?_
        exact g_ret (.bool (decide (no < (14400 : Int)))) (by kernel_rfl) (by kernel_rfl) ⟨by rw [show knownB kind no = decide (no < 14400) from decide_eq_decide.2 ⟨fun h => h.2.2.2, fun h => ⟨by omega, by omega, by omega, h⟩⟩], (Below.refl w.heap.size _)⟩
      · refine g_b [13, 14, 15] _ _ hc3 (by kernel_rfl) ?_
        have hc3 := of_decide_eq_false hc3
        refine g_pv 4 [(16, undef), (17, undef), (18, .bool false), (4, .bool false)] (by kernel_rfl) ?_
        refine wpList_nil ?_
        refine wp_ret ?_
        exact g_ret (.bool false) (by kernel_rfl) (by kernel_rfl) ⟨by rw [show knownB kind no = false from decide_eq_false (by omega)], (Below.refl w.heap.size _)⟩
    · refine g_b [9, 10, 11] _ _ hc2 (by kernel_rfl) ?_
      have hc2 := of_decide_eq_false hc2
      refine g_pv 8 [(12, undef), (13, undef), (14, .bool false), (15, .bool false), (16, undef), (17, undef), (18, .bool false), (4, .bool false)] (by kernel_rfl) ?_
      refine wpList_nil ?_
      refine wp_ret ?_
      exact g_ret (.bool false) (by kernel_rfl) (by kernel_rfl) ⟨by rw [show knownB kind no = false from decide_eq_false (by omega)], (Below.refl w.heap.size _)⟩
  · refine g_b [6, 7] _ _ hc1 (by kernel_rfl) ?_
    have hc1 := of_decide_eq_false hc1
    refine g_pv 12 [(8, undef), (9, undef), (10, .bool false), (11, .bool false), (12, undef), (13, undef), (14, .bool false), (15, .bool false), (16, undef), (17, undef), (18, .bool false), (4, .bool false)] (by kernel_rfl) ?_
    refine wpList_nil ?_
    refine wp_ret ?_
    exact g_ret (.bool false) (by kernel_rfl) (by kernel_rfl) ⟨by rw [show knownB kind no = false from decide_eq_false (by omega)], (Below.refl w.heap.size _)⟩
set_option maxRecDepth 100000 in
set_option maxHeartbeats 1000000 in
theorem seal_told (a : Option Addr) (c k w : Nat) (l : List UInt8) (W : World) (hw : w = 1 ∨ w = 2 ∨ w = 4) (hk : k + w ≤ l.length) (hl : l.length ≤ 100000000) (h : Bys W (.slice a l.length c) l) :
    Calls Try.prog 57 #[.slice a l.length c, .int .i64 (↑k : Int), .int .i64 (↑w : Int)] W (Ret (.int .i64 (rawN l k w : Int)) W) := by
  refine calls_of_wp Try.func57 rfl ?_
  refine g_fr ⟨#[.slice a l.length c, .int .i64 (↑k : Int), .int .i64 (↑w : Int), undef, undef, undef, undef, undef, undef, undef, undef, undef, undef, undef, undef, undef, undef], []⟩ (by kernel_rfl) ?_
  refine wp_seq ?_
  refine wp_region_lit ?_
  refine g_pv 1 [(6, .int .i64 0)] (by kernel_rfl) ?_
  refine wpList_nil ?_
  refine wp_seq ?_
  refine wp_region_lit ?_
  refine g_pv 3 [(10, .slice a l.length c), (11, .int .i64 (↑k : Int)), (12, .int .i64 (↑w : Int))] (by kernel_rfl) ?_
  refine g_op (by kernel_rfl) (op_call (lb := #[]) 38 #[.slice a l.length c, .int .i64 (↑k : Int), .int .i64 (↑w : Int)] rfl (by kernel_rfl) (fun _ _ => by kernel_rfl) (by kernel_rfl) ((Get_ok a c k w l _ (by omega) hk hl (h.below (Below.refl W.heap.size _)) (by have := rawN_lt4 l k w (by omega); omega)).mono ?_))
  rintro e W1 ⟨rfl, hb1⟩
  refine ⟨_, rfl, ?_⟩
  have hB := hb1
  refine g_pv 5 [(9, .tuple #[.int .i64 (↑(rawN l k w) : Int), .int .i64 0]), (14, .int .i64 (↑(rawN l k w) : Int)), (15, .int .i64 0), (7, .int .i64 (↑(rawN l k w) : Int)), (8, .int .i64 0)] (by kernel_rfl) ?_
  refine wpList_nil ?_
  refine wp_seq ?_
  refine wp_region_lit ?_
  refine g_pv 2 [(16, .int .i64 (↑(rawN l k w) : Int)), (6, .int .i64 (↑(rawN l k w) : Int))] (by kernel_rfl) ?_
  refine wpList_nil ?_
  refine wp_ret ?_
  exact g_ret (.int .i64 (↑(rawN l k w) : Int)) (by kernel_rfl) (by kernel_rfl) ⟨rfl, hB⟩
theorem seal_toldN (a : Option Addr) (n c k w : Nat) (ki wi : Int) (l : List UInt8) (W : World) (hn : l.length = n) (hki : ki = (k : Int)) (hwi : wi = (w : Int)) (hw : w = 1 ∨ w = 2 ∨ w = 4) (hk : k + w ≤ n) (hl : n ≤ 100000000) (h : Bys W (.slice a n c) l) :
    Calls Try.prog 57 #[.slice a n c, .int .i64 ki, .int .i64 wi] W (Ret (.int .i64 (rawN l k w : Int)) W) := by
  subst hn hki hwi; exact seal_told a c k w l W hw hk hl h
/-- what Open asks, in order -/
def askB (kind no : Int) (l : List UInt8) : Nat → Bool
  | 0 => !knownB kind no
  | 1 => (l.length : Int) != 256
  | 2 => (rawN l 252 4 : Int) != (sumB l kind : Int)
  | 3 => (rawN l 0 4 : Int) != no
  | 4 => (rawN l 4 2 : Int) != kind
  | _ => (rawN l 6 2 : Int) != 0
/-- the number of the first that is so; 0: none -/
def openE (kind no : Int) (l : List UInt8) : Int :=
  if askB kind no l 0 then 1 else if askB kind no l 1 then 7 else if askB kind no l 2 then 4 else if askB kind no l 3 then 5 else if askB kind no l 4 then 6 else if askB kind no l 5 then 7 else 0
theorem ask1 {kind no : Int} {l : List UInt8} (h : askB kind no l 1 = false) : l.length = 256 := by
  have : (l.length : Int) = 256 := eq_of_bne_false h
  omega
set_option maxRecDepth 100000 in
set_option maxHeartbeats 1000000 in
theorem open_1 (kind no : Int) (w : World) (l : List UInt8) (bk : Nat) (kk : Blk w bk [.int .i64 kind] 3) (bn : Nat) (kn : Blk w bn [.int .i64 no] 3) :
    Calls Try.prog 54 #[.pointer (some ⟨bk, 0, none⟩), .pointer (some ⟨bn, 0, none⟩)] w (Ret (.bool (askB kind no l 0)) w) := by
  refine calls_of_wp Try.func54 rfl ?_
  refine g_fr ⟨#[.pointer (some ⟨bk, 0, none⟩), .pointer (some ⟨bn, 0, none⟩), undef, undef, undef, undef, undef], []⟩ (by kernel_rfl) ?_
  refine wp_seq ?_
  refine wp_region_lit ?_
  refine g_pv 1 [(2, .bool false)] (by kernel_rfl) ?_
  refine wpList_nil ?_
  refine wp_seq ?_
  refine wp_region_lit ?_
  refine g_op (by kernel_rfl) (op_load ⟨bk, 0, none⟩ (.int .i64 kind) rfl (by kernel_rfl) (by kernel_rfl) (kk.cell (i := 0) rfl) ?_)
  refine g_op (by kernel_rfl) (op_load ⟨bn, 0, none⟩ (.int .i64 no) rfl (by kernel_rfl) (by kernel_rfl) (kn.cell (i := 0) rfl) ?_)
  refine g_op (by kernel_rfl) (op_call (lb := #[]) 45 #[.int .i64 kind, .int .i64 no] rfl (by kernel_rfl) (fun _ _ => by kernel_rfl) (by kernel_rfl) ((seal_knownB kind no _).mono ?_))
  rintro e W1 ⟨rfl, hb1⟩
  refine ⟨_, rfl, ?_⟩
  have hB := hb1
  replace kk := kk.below hb1
  replace kn := kn.below hb1
  refine g_pv 2 [(6, .bool (!(knownB kind no))), (2, .bool (!(knownB kind no)))] (by kernel_rfl) ?_
  refine wpList_nil ?_
  refine wp_ret ?_
  exact g_ret (.bool (!(knownB kind no))) (by kernel_rfl) (by kernel_rfl) ⟨rfl, hB⟩
set_option maxRecDepth 100000 in
set_option maxHeartbeats 1000000 in
theorem open_2 (kind no : Int) (w : World) (bb : Nat) (a : Option Addr) (c : Nat) (l : List UInt8) (kb : Blk w bb [.slice a l.length c] 22) :
    Calls Try.prog 55 #[.pointer (some ⟨bb, 0, none⟩)] w (Ret (.bool (askB kind no l 1)) w) := by
  refine calls_of_wp Try.func55 rfl ?_
  refine g_fr ⟨#[.pointer (some ⟨bb, 0, none⟩), undef, undef, undef, undef], []⟩ (by kernel_rfl) ?_
  refine wp_seq ?_
  refine wp_region_lit ?_
  refine g_pv 1 [(1, .bool false)] (by kernel_rfl) ?_
  refine wpList_nil ?_
  refine wp_seq ?_
  refine wp_region_lit ?_
  refine g_op (by kernel_rfl) (op_load ⟨bb, 0, none⟩ (.slice a l.length c) rfl (by kernel_rfl) (by kernel_rfl) (kb.cell (i := 0) rfl) ?_)
  refine g_pv 3 [(3, .int .i64 (↑l.length : Int)), (4, .bool ((↑l.length : Int) != (256 : Int))), (1, .bool ((↑l.length : Int) != (256 : Int)))] (by kernel_rfl) ?_
  refine wpList_nil ?_
  refine wp_ret ?_
  exact g_ret (.bool ((↑l.length : Int) != (256 : Int))) (by kernel_rfl) (by kernel_rfl) ⟨rfl, (Below.refl w.heap.size _)⟩
theorem seal_sumN (kind : Int) (a : Option Addr) (c n : Nat) (l : List UInt8) (w : World) (hn : l.length = n) (h256 : n = 256) (hc : 256 ≤ c) (h : Bys w (.slice a n c) l) :
    Calls Try.prog 47 #[.slice a n c, .int .i64 kind] w (Ret (.int .i64 (sumB l kind : Int)) w) := by
  subst h256; exact seal_sum kind a c l w hn hc h
set_option maxRecDepth 100000 in
set_option maxHeartbeats 1000000 in
theorem open_3 (kind no : Int) (w : World) (bb : Nat) (a : Option Addr) (c : Nat) (l : List UInt8) (kb : Blk w bb [.slice a l.length c] 22) (bk : Nat) (kk : Blk w bk [.int .i64 kind] 3) (hl : l.length = 256) (hc : 256 ≤ c) (h : Bys w (.slice a l.length c) l) :
    Calls Try.prog 56 #[.pointer (some ⟨bb, 0, none⟩), .pointer (some ⟨bk, 0, none⟩)] w (Ret (.bool (askB kind no l 2)) w) := by
  refine calls_of_wp Try.func56 rfl ?_
  refine g_fr ⟨#[.pointer (some ⟨bb, 0, none⟩), .pointer (some ⟨bk, 0, none⟩), undef, undef, undef, undef, undef, undef, undef], []⟩ (by kernel_rfl) ?_
  refine wp_seq ?_
  refine wp_region_lit ?_
  refine g_pv 1 [(2, .bool false)] (by kernel_rfl) ?_
  refine wpList_nil ?_
  refine wp_seq ?_
  have hB := (below_drew w)
  replace kb := kb.below (below_drew w)
  replace kk := kk.below (below_drew w)
  refine h_reg (Below (w.drew).heap.size (w.drew)) 7 rfl #[false, false, false, false, false, false, false] rfl (by kernel_rfl) (Below.refl _ _) ?_
  intro hS1
  have hBd3 := hB
  have kd3_bb := kb
  have kd3_bk := kk
  refine h_load 0 6 rfl ⟨bb, 0, none⟩ (.slice a l.length c) rfl (by kernel_rfl) (by kernel_rfl) (by kernel_rfl) (fun _ _ _ _ _ h => h) (by kernel_rfl) rfl (by kernel_rfl) (by kernel_rfl) (fun V hV => ((kd3_bb.below hV).cell (i := 0) rfl)) hS1 ?_
  refine h_load 2 5 rfl ⟨bb, 0, none⟩ (.slice a l.length c) rfl (by kernel_rfl) (by kernel_rfl) (by kernel_rfl) (fun _ _ _ _ _ h => h) (by kernel_rfl) rfl (by kernel_rfl) (by kernel_rfl) (fun V hV => ((kd3_bb.below hV).cell (i := 0) rfl)) hS1 ?_
  refine h_load 3 4 rfl ⟨bk, 0, none⟩ (.int .i64 kind) rfl (by kernel_rfl) (by kernel_rfl) (by kernel_rfl) (fun _ _ _ _ _ h => h) (by kernel_rfl) rfl (by kernel_rfl) (by kernel_rfl) (fun V hV => ((kd3_bk.below hV).cell (i := 0) rfl)) hS1 ?_
  refine h_one 1 3 rfl (by kernel_rfl) rfl (by kernel_rfl) (op_call (lb := #[]) 57 #[.slice a l.length c, .int .i64 252, .int .i64 4] rfl (by kernel_rfl) (fun _ _ => by kernel_rfl) (by kernel_rfl) ((seal_toldN a l.length c 252 4 252 4 l _ rfl rfl rfl (by decide) (by omega) (by omega) (h.below hB)).mono ?_))
  rintro e W4 ⟨rfl, hb4⟩
  refine ⟨_, rfl, ?_⟩
  replace hB := Bl.next hB hb4
  replace kb := kb.below hb4
  replace kk := kk.below hb4
  have hS5 : Below (w.drew).heap.size (w.drew) (W4) := Bl.next hS1 hb4
  refine ⟨hS5, ?_⟩
  refine h_one 4 2 rfl (by kernel_rfl) rfl (by kernel_rfl) (op_call (lb := #[]) 47 #[.slice a l.length c, .int .i64 kind] rfl (by kernel_rfl) (fun _ _ => by kernel_rfl) (by kernel_rfl) ((seal_sumN kind a c l.length l _ rfl hl hc (h.below hB)).mono ?_))
  rintro e W6 ⟨rfl, hb6⟩
  refine ⟨_, rfl, ?_⟩
  replace hB := Bl.next hB hb6
  replace kb := kb.below hb6
  replace kk := kk.below hb6
  have hS7 : Below (w.drew).heap.size (w.drew) (W6) := Bl.next hS5 hb6
  refine ⟨hS7, ?_⟩
  refine h_pv [5, 6] 0 rfl #[true, true, true, true, true, true, true] [(8, .bool ((↑(rawN l 252 4) : Int) != (↑(sumB l kind) : Int))), (2, .bool ((↑(rawN l 252 4) : Int) != (↑(sumB l kind) : Int)))] (by kernel_rfl) (fun _ _ _ _ _ h => h) (by kernel_rfl) hS7 ?_
  refine h_done _ (by kernel_rfl) ?_
  refine wp_ret ?_
  exact g_ret (.bool ((↑(rawN l 252 4) : Int) != (↑(sumB l kind) : Int))) (by kernel_rfl) (by kernel_rfl) ⟨rfl, hB⟩
set_option maxRecDepth 100000 in
set_option maxHeartbeats 1000000 in
theorem open_4 (kind no : Int) (w : World) (bb : Nat) (a : Option Addr) (c : Nat) (l : List UInt8) (kb : Blk w bb [.slice a l.length c] 22) (bn : Nat) (kn : Blk w bn [.int .i64 no] 3) (hl : l.length = 256) (hc : 256 ≤ c) (h : Bys w (.slice a l.length c) l) :
    Calls Try.prog 58 #[.pointer (some ⟨bb, 0, none⟩), .pointer (some ⟨bn, 0, none⟩)] w (Ret (.bool (askB kind no l 3)) w) := by
  refine calls_of_wp Try.func58 rfl ?_
  refine g_fr ⟨#[.pointer (some ⟨bb, 0, none⟩), .pointer (some ⟨bn, 0, none⟩), undef, undef, undef, undef, undef], []⟩ (by kernel_rfl) ?_
  refine wp_seq ?_
  refine wp_region_lit ?_
  refine g_pv 1 [(2, .bool false)] (by kernel_rfl) ?_
  refine wpList_nil ?_
  refine wp_seq ?_
  have hB := (below_drew w)
  replace kb := kb.below (below_drew w)
  replace kn := kn.below (below_drew w)
  refine h_reg (Below (w.drew).heap.size (w.drew)) 5 rfl #[false, false, false, false, false] rfl (by kernel_rfl) (Below.refl _ _) ?_
  intro hS1
  have hBd3 := hB
  have kd3_bb := kb
  have kd3_bn := kn
  refine h_load 0 4 rfl ⟨bb, 0, none⟩ (.slice a l.length c) rfl (by kernel_rfl) (by kernel_rfl) (by kernel_rfl) (fun _ _ _ _ _ h => h) (by kernel_rfl) rfl (by kernel_rfl) (by kernel_rfl) (fun V hV => ((kd3_bb.below hV).cell (i := 0) rfl)) hS1 ?_
  refine h_load 2 3 rfl ⟨bn, 0, none⟩ (.int .i64 no) rfl (by kernel_rfl) (by kernel_rfl) (by kernel_rfl) (fun _ _ _ _ _ h => h) (by kernel_rfl) rfl (by kernel_rfl) (by kernel_rfl) (fun V hV => ((kd3_bn.below hV).cell (i := 0) rfl)) hS1 ?_
  refine h_one 1 2 rfl (by kernel_rfl) rfl (by kernel_rfl) (op_call (lb := #[]) 57 #[.slice a l.length c, .int .i64 0, .int .i64 4] rfl (by kernel_rfl) (fun _ _ => by kernel_rfl) (by kernel_rfl) ((seal_toldN a l.length c 0 4 0 4 l _ rfl rfl rfl (by decide) (by omega) (by omega) (h.below hB)).mono ?_))
  rintro e W4 ⟨rfl, hb4⟩
  refine ⟨_, rfl, ?_⟩
  replace hB := Bl.next hB hb4
  replace kb := kb.below hb4
  replace kn := kn.below hb4
  have hS5 : Below (w.drew).heap.size (w.drew) (W4) := Bl.next hS1 hb4
  refine ⟨hS5, ?_⟩
  refine h_pv [3, 4] 0 rfl #[true, true, true, true, true] [(6, .bool ((↑(rawN l 0 4) : Int) != no)), (2, .bool ((↑(rawN l 0 4) : Int) != no))] (by kernel_rfl) (fun _ _ _ _ _ h => h) (by kernel_rfl) hS5 ?_
  refine h_done _ (by kernel_rfl) ?_
  refine wp_ret ?_
  exact g_ret (.bool ((↑(rawN l 0 4) : Int) != no)) (by kernel_rfl) (by kernel_rfl) ⟨rfl, hB⟩
set_option maxRecDepth 100000 in
set_option maxHeartbeats 1000000 in
theorem open_5 (kind no : Int) (w : World) (bb : Nat) (a : Option Addr) (c : Nat) (l : List UInt8) (kb : Blk w bb [.slice a l.length c] 22) (bk : Nat) (kk : Blk w bk [.int .i64 kind] 3) (hl : l.length = 256) (hc : 256 ≤ c) (h : Bys w (.slice a l.length c) l) :
    Calls Try.prog 59 #[.pointer (some ⟨bb, 0, none⟩), .pointer (some ⟨bk, 0, none⟩)] w (Ret (.bool (askB kind no l 4)) w) := by
  refine calls_of_wp Try.func59 rfl ?_
  refine g_fr ⟨#[.pointer (some ⟨bb, 0, none⟩), .pointer (some ⟨bk, 0, none⟩), undef, undef, undef, undef, undef], []⟩ (by kernel_rfl) ?_
  refine wp_seq ?_
  refine wp_region_lit ?_
  refine g_pv 1 [(2, .bool false)] (by kernel_rfl) ?_
  refine wpList_nil ?_
  refine wp_seq ?_
  have hB := (below_drew w)
  replace kb := kb.below (below_drew w)
  replace kk := kk.below (below_drew w)
  refine h_reg (Below (w.drew).heap.size (w.drew)) 5 rfl #[false, false, false, false, false] rfl (by kernel_rfl) (Below.refl _ _) ?_
  intro hS1
  have hBd3 := hB
  have kd3_bb := kb
  have kd3_bk := kk
  refine h_load 0 4 rfl ⟨bb, 0, none⟩ (.slice a l.length c) rfl (by kernel_rfl) (by kernel_rfl) (by kernel_rfl) (fun _ _ _ _ _ h => h) (by kernel_rfl) rfl (by kernel_rfl) (by kernel_rfl) (fun V hV => ((kd3_bb.below hV).cell (i := 0) rfl)) hS1 ?_
  refine h_load 2 3 rfl ⟨bk, 0, none⟩ (.int .i64 kind) rfl (by kernel_rfl) (by kernel_rfl) (by kernel_rfl) (fun _ _ _ _ _ h => h) (by kernel_rfl) rfl (by kernel_rfl) (by kernel_rfl) (fun V hV => ((kd3_bk.below hV).cell (i := 0) rfl)) hS1 ?_
  refine h_one 1 2 rfl (by kernel_rfl) rfl (by kernel_rfl) (op_call (lb := #[]) 57 #[.slice a l.length c, .int .i64 4, .int .i64 2] rfl (by kernel_rfl) (fun _ _ => by kernel_rfl) (by kernel_rfl) ((seal_toldN a l.length c 4 2 4 2 l _ rfl rfl rfl (by decide) (by omega) (by omega) (h.below hB)).mono ?_))
  rintro e W4 ⟨rfl, hb4⟩
  refine ⟨_, rfl, ?_⟩
  replace hB := Bl.next hB hb4
  replace kb := kb.below hb4
  replace kk := kk.below hb4
  have hS5 : Below (w.drew).heap.size (w.drew) (W4) := Bl.next hS1 hb4
  refine ⟨hS5, ?_⟩
  refine h_pv [3, 4] 0 rfl #[true, true, true, true, true] [(6, .bool ((↑(rawN l 4 2) : Int) != kind)), (2, .bool ((↑(rawN l 4 2) : Int) != kind))] (by kernel_rfl) (fun _ _ _ _ _ h => h) (by kernel_rfl) hS5 ?_
  refine h_done _ (by kernel_rfl) ?_
  refine wp_ret ?_
  exact g_ret (.bool ((↑(rawN l 4 2) : Int) != kind)) (by kernel_rfl) (by kernel_rfl) ⟨rfl, hB⟩
set_option maxRecDepth 100000 in
set_option maxHeartbeats 1000000 in
theorem open_6 (kind no : Int) (w : World) (bb : Nat) (a : Option Addr) (c : Nat) (l : List UInt8) (kb : Blk w bb [.slice a l.length c] 22) (hl : l.length = 256) (hc : 256 ≤ c) (h : Bys w (.slice a l.length c) l) :
    Calls Try.prog 60 #[.pointer (some ⟨bb, 0, none⟩)] w (Ret (.bool (askB kind no l 5)) w) := by
  refine calls_of_wp Try.func60 rfl ?_
  refine g_fr ⟨#[.pointer (some ⟨bb, 0, none⟩), undef, undef, undef, undef], []⟩ (by kernel_rfl) ?_
  refine wp_seq ?_
  refine wp_region_lit ?_
  refine g_pv 1 [(1, .bool false)] (by kernel_rfl) ?_
  refine wpList_nil ?_
  refine wp_seq ?_
  refine wp_region_lit ?_
  refine g_op (by kernel_rfl) (op_load ⟨bb, 0, none⟩ (.slice a l.length c) rfl (by kernel_rfl) (by kernel_rfl) (kb.cell (i := 0) rfl) ?_)
  refine g_op (by kernel_rfl) (op_call (lb := #[]) 57 #[.slice a l.length c, .int .i64 6, .int .i64 2] rfl (by kernel_rfl) (fun _ _ => by kernel_rfl) (by kernel_rfl) ((seal_toldN a l.length c 6 2 6 2 l _ rfl rfl rfl (by decide) (by omega) (by omega) (h.below (Below.refl w.heap.size _))).mono ?_))
  rintro e W1 ⟨rfl, hb1⟩
  refine ⟨_, rfl, ?_⟩
  have hB := hb1
  replace kb := kb.below hb1
  refine g_pv 2 [(4, .bool ((↑(rawN l 6 2) : Int) != (0 : Int))), (1, .bool ((↑(rawN l 6 2) : Int) != (0 : Int)))] (by kernel_rfl) ?_
  refine wpList_nil ?_
  refine wp_ret ?_
  exact g_ret (.bool ((↑(rawN l 6 2) : Int) != (0 : Int))) (by kernel_rfl) (by kernel_rfl) ⟨rfl, hB⟩
/-- what Open hands back -/
def OpenP (kind no : Int) (l : List UInt8) (w : World) (e : Ending) (w' : World) : Prop :=
  (openE kind no l ≠ 0 ∧ e = .returned (.tuple #[.slice none 0 0, .int .i64 (openE kind no l)]) ∧ Below w.heap.size w w') ∨
  (openE kind no l = 0 ∧ ∃ p c, e = .returned (.tuple #[.slice p 244 c, .int .i64 0]) ∧ Below w.heap.size w w' ∧ w'.ownsRow w.heap.size 5 1 (.slice p 244 c) 244 (((l.drop 8).take 244).map bv))
set_option maxRecDepth 100000 in
set_option maxHeartbeats 4000000 in
theorem seal_Open (kind no : Int) (a : Option Addr) (c : Nat) (l : List UInt8) (w : World) (h : Bys w (.slice a l.length c) l) :
    Calls Try.prog 35 #[.slice a l.length c, .int .i64 kind, .int .i64 no] w (OpenP kind no l w) := by
  have hcap := h.cap rfl
  refine calls_of_wp Try.func35 rfl ?_
  refine g_fr ⟨#[.slice a l.length c, .int .i64 kind, .int .i64 no, undef, undef, undef, undef, undef, undef, undef, undef, undef, undef, undef, undef, undef, undef, undef, undef, undef, undef, undef, undef, undef, undef, undef, undef, undef, undef, undef, undef, undef, undef, undef, undef, undef, undef, undef, undef], []⟩ (by kernel_rfl) ?_
  refine wp_seq ?_
  refine wp_region_lit ?_
  refine g_op (by kernel_rfl) (op_box [.slice a l.length c] rfl (by kernel_rfl) ?_)
  intro b1 W1 n1
  have g1 := n1.ge (Below.refl w.heap.size _)
  have hB := n1.below
  have k1 := n1.blk
  refine g_op (by kernel_rfl) (op_box [.int .i64 kind] rfl (by kernel_rfl) ?_)
  intro b2 W2 n2
  have d2_b1 := n2.ne k1
  have g2 := n2.ge hB
  replace hB := Bl.next hB n2.below
  replace k1 := k1.below n2.below
  have k2 := n2.blk
  refine g_op (by kernel_rfl) (op_box [.int .i64 no] rfl (by kernel_rfl) ?_)
  intro b3 W3 n3
  have d3_b1 := n3.ne k1
  have d3_b2 := n3.ne k2
  have g3 := n3.ge hB
  replace hB := Bl.next hB n3.below
  replace k1 := k1.below n3.below
  replace k2 := k2.below n3.below
  have k3 := n3.blk
  refine g_pv 2 [(6, .slice none 0 0), (7, .int .i64 0)] (by kernel_rfl) ?_
  refine wpList_nil ?_
  refine wp_seq ?_
  refine wp_region_lit ?_
  refine g_pv 12 [(11, .func (.func 54) #[] #[.pointer (some ⟨b2, 0, none⟩), .pointer (some ⟨b3, 0, none⟩)]), (12, .agg #[.func (.func 54) #[] #[.pointer (some ⟨b2, 0, none⟩), .pointer (some ⟨b3, 0, none⟩)], .int .i64 1]), (13, .func (.func 55) #[] #[.pointer (some ⟨b1, 0, none⟩)]), (14, .agg #[.func (.func 55) #[] #[.pointer (some ⟨b1, 0, none⟩)], .int .i64 7]), (15, .func (.func 56) #[] #[.pointer (some ⟨b1, 0, none⟩), .pointer (some ⟨b2, 0, none⟩)]), (16, .agg #[.func (.func 56) #[] #[.pointer (some ⟨b1, 0, none⟩), .pointer (some ⟨b2, 0, none⟩)], .int .i64 4]), (17, .func (.func 58) #[] #[.pointer (some ⟨b1, 0, none⟩), .pointer (some ⟨b3, 0, none⟩)]), (18, .agg #[.func (.func 58) #[] #[.pointer (some ⟨b1, 0, none⟩), .pointer (some ⟨b3, 0, none⟩)], .int .i64 5]), (19, .func (.func 59) #[] #[.pointer (some ⟨b1, 0, none⟩), .pointer (some ⟨b2, 0, none⟩)]), (20, .agg #[.func (.func 59) #[] #[.pointer (some ⟨b1, 0, none⟩), .pointer (some ⟨b2, 0, none⟩)], .int .i64 6]), (21, .func (.func 60) #[] #[.pointer (some ⟨b1, 0, none⟩)]), (22, .agg #[.func (.func 60) #[] #[.pointer (some ⟨b1, 0, none⟩)], .int .i64 7])] (by kernel_rfl) ?_
  refine g_op (by kernel_rfl) (op_buildSlice 114 [.func (.func 54) #[] #[.pointer (some ⟨b2, 0, none⟩), .pointer (some ⟨b3, 0, none⟩)], .int .i64 1, .func (.func 55) #[] #[.pointer (some ⟨b1, 0, none⟩)], .int .i64 7, .func (.func 56) #[] #[.pointer (some ⟨b1, 0, none⟩), .pointer (some ⟨b2, 0, none⟩)], .int .i64 4, .func (.func 58) #[] #[.pointer (some ⟨b1, 0, none⟩), .pointer (some ⟨b3, 0, none⟩)], .int .i64 5, .func (.func 59) #[] #[.pointer (some ⟨b1, 0, none⟩), .pointer (some ⟨b2, 0, none⟩)], .int .i64 6, .func (.func 60) #[] #[.pointer (some ⟨b1, 0, none⟩)], .int .i64 7] rfl (by kernel_rfl) ?_)
  intro b4 W4 n4
  have d4_b1 := n4.ne k1
  have d4_b2 := n4.ne k2
  have d4_b3 := n4.ne k3
  have g4 := n4.ge hB
  replace hB := Bl.next hB n4.below
  replace k1 := k1.below n4.below
  replace k2 := k2.below n4.below
  replace k3 := k3.below n4.below
  have k4 := n4.blk
  refine g_pv 1 [(8, .slice (some ⟨b4, 0, none⟩) 6 6)] (by kernel_rfl) ?_
  refine wpList_nil ?_
  refine wp_seq ?_
  refine wp_seq ?_
  refine wp_region_lit ?_
  refine g_pv 3 [(24, .slice (some ⟨b4, 0, none⟩) 6 6), (25, .int .i64 6), (26, .int .i64 0)] (by kernel_rfl) ?_
  refine wpList_nil ?_
  refine wp_block ?_
  refine wp_loop_rounds 7 ?_
  refine g_round ?_
  refine wp_seq ?_
  refine wp_region_lit ?_
  refine g_pv 1 [(27, .bool true)] (by kernel_rfl) ?_
  refine wpList_nil ?_
  refine wp_seq ?_
  refine wp_cond_true (by kernel_rfl) ?_
  refine wp_skip ?_
  refine wp_seq ?_
  refine wp_block ?_
  refine wp_seq ?_
  refine wp_region_lit ?_
  refine g_pv 1 [(28, .pointer (some ⟨b4, 0, none⟩))] (by kernel_rfl) ?_
  refine g_op (by kernel_rfl) (op_loadv (b := b4) (off := 0) [.func (.func 54) #[] #[.pointer (some ⟨b2, 0, none⟩), .pointer (some ⟨b3, 0, none⟩)], .int .i64 1] _ rfl (by kernel_rfl) Try.underlying114 rfl (by kernel_rfl) (k4.part 0 2 (by first | decide | simp)) ?_)
  refine g_op (by kernel_rfl) (op_alloc [.nilFunc, .int .i64 0] rfl (by kernel_rfl) ?_)
  intro b5 W5 n5
  have d5_b1 := n5.ne k1
  have d5_b2 := n5.ne k2
  have d5_b3 := n5.ne k3
  have d5_b4 := n5.ne k4
  have g5 := n5.ge hB
  replace hB := Bl.next hB n5.below
  replace k1 := k1.below n5.below
  replace k2 := k2.below n5.below
  replace k3 := k3.below n5.below
  replace k4 := k4.below n5.below
  have k5 := n5.blk
  refine g_op (by kernel_rfl) (op_storev (b := b5) (off := 0) [.func (.func 54) #[] #[.pointer (some ⟨b2, 0, none⟩), .pointer (some ⟨b3, 0, none⟩)], .int .i64 1] rfl (by kernel_rfl) (by kernel_rfl) (by kernel_rfl) (by first | decide | simp [Value.oneCell']) k5 (by first | decide | simp) ?_)
  intro W6 u6 k6
  change Blk _ _ [.func (.func 54) #[] #[.pointer (some ⟨b2, 0, none⟩), .pointer (some ⟨b3, 0, none⟩)], .int .i64 1] _ at k6
  replace hB := u6.below hB g5
  replace k1 := u6.blk k1 (Ne.symm (Ne.symm d5_b1))
  replace k2 := u6.blk k2 (Ne.symm (Ne.symm d5_b2))
  replace k3 := u6.blk k3 (Ne.symm (Ne.symm d5_b3))
  replace k4 := u6.blk k4 (Ne.symm (Ne.symm d5_b4))
  refine wpList_nil ?_
  refine wp_seq ?_
  refine wp_region_lit ?_
  refine g_pv 1 [(30, .pointer (some ⟨b5, 0, none⟩))] (by kernel_rfl) ?_
  refine g_op (by kernel_rfl) (op_load ⟨b5, 0, none⟩ (.func (.func 54) #[] #[.pointer (some ⟨b2, 0, none⟩), .pointer (some ⟨b3, 0, none⟩)]) rfl (by kernel_rfl) (by kernel_rfl) (k6.cell (i := 0) rfl) ?_)
  refine g_op (by kernel_rfl) (op_call (lb := #[.pointer (some ⟨b2, 0, none⟩), .pointer (some ⟨b3, 0, none⟩)]) 54 #[.pointer (some ⟨b2, 0, none⟩), .pointer (some ⟨b3, 0, none⟩)] rfl (by kernel_rfl) (fun _ _ => by kernel_rfl) (by kernel_rfl) ((open_1 kind no _ l b2 k2 b3 k3).mono ?_))
  rintro e W7 ⟨rfl, hb7⟩
  refine ⟨_, rfl, ?_⟩
  replace hB := Bl.next hB hb7
  replace k1 := k1.below hb7
  replace k2 := k2.below hb7
  replace k3 := k3.below hb7
  replace k4 := k4.below hb7
  replace k6 := k6.below hb7
  refine wpList_nil ?_
  refine wp_cond_split (t := (askB kind no l 0)) (by kernel_rfl) (fun hc8 => ?_) (fun hc8 => ?_)
  · have hk1 := hc8
    refine wp_seq ?_
    replace hB := Bl.next hB (below_drew W7)
    replace k1 := k1.below (below_drew W7)
    replace k2 := k2.below (below_drew W7)
    replace k3 := k3.below (below_drew W7)
    replace k4 := k4.below (below_drew W7)
    replace k6 := k6.below (below_drew W7)
    refine h_reg (Below (W7.drew).heap.size (W7.drew)) 4 rfl #[false, false, false, false] rfl (by kernel_rfl) (Below.refl _ _) ?_
    intro hS9
    have hBd11 := hB
    have kd11_b1 := k1
    have kd11_b2 := k2
    have kd11_b3 := k3
    have kd11_b4 := k4
    have kd11_b5 := k6
    refine h_pv [0] 3 rfl #[true, false, false, false] [(33, .pointer (some ⟨b5, 1, none⟩))] (by kernel_rfl) (fun _ _ _ _ _ h => h) (by kernel_rfl) hS9 ?_
    refine h_load 1 2 rfl ⟨b5, 1, none⟩ (.int .i64 1) rfl (by kernel_rfl) (by kernel_rfl) (by kernel_rfl) (fun _ _ _ _ _ h => h) (by kernel_rfl) rfl (by kernel_rfl) (by kernel_rfl) (fun V hV => ((kd11_b5.below hV).cell (i := 1) rfl)) hS9 ?_
    refine h_pure [2, 3] 0 rfl #[true, true, true, true] ⟨#[.slice a l.length c, .int .i64 kind, .int .i64 no, .pointer (some ⟨b1, 0, none⟩), .pointer (some ⟨b2, 0, none⟩), .pointer (some ⟨b3, 0, none⟩), .slice none 0 0, .int .i64 1, .slice (some ⟨b4, 0, none⟩) 6 6, undef, .pointer (some ⟨b5, 0, none⟩), .func (.func 54) #[] #[.pointer (some ⟨b2, 0, none⟩), .pointer (some ⟨b3, 0, none⟩)], .agg #[.func (.func 54) #[] #[.pointer (some ⟨b2, 0, none⟩), .pointer (some ⟨b3, 0, none⟩)], .int .i64 1], .func (.func 55) #[] #[.pointer (some ⟨b1, 0, none⟩)], .agg #[.func (.func 55) #[] #[.pointer (some ⟨b1, 0, none⟩)], .int .i64 7], .func (.func 56) #[] #[.pointer (some ⟨b1, 0, none⟩), .pointer (some ⟨b2, 0, none⟩)], .agg #[.func (.func 56) #[] #[.pointer (some ⟨b1, 0, none⟩), .pointer (some ⟨b2, 0, none⟩)], .int .i64 4], .func (.func 58) #[] #[.pointer (some ⟨b1, 0, none⟩), .pointer (some ⟨b3, 0, none⟩)], .agg #[.func (.func 58) #[] #[.pointer (some ⟨b1, 0, none⟩), .pointer (some ⟨b3, 0, none⟩)], .int .i64 5], .func (.func 59) #[] #[.pointer (some ⟨b1, 0, none⟩), .pointer (some ⟨b2, 0, none⟩)], .agg #[.func (.func 59) #[] #[.pointer (some ⟨b1, 0, none⟩), .pointer (some ⟨b2, 0, none⟩)], .int .i64 6], .func (.func 60) #[] #[.pointer (some ⟨b1, 0, none⟩)], .agg #[.func (.func 60) #[] #[.pointer (some ⟨b1, 0, none⟩)], .int .i64 7], .slice (some ⟨b4, 0, none⟩) 6 6, .slice (some ⟨b4, 0, none⟩) 6 6, .int .i64 6, .int .i64 0, .bool true, .pointer (some ⟨b4, 0, none⟩), .agg #[.func (.func 54) #[] #[.pointer (some ⟨b2, 0, none⟩), .pointer (some ⟨b3, 0, none⟩)], .int .i64 1], .pointer (some ⟨b5, 0, none⟩), .func (.func 54) #[] #[.pointer (some ⟨b2, 0, none⟩), .pointer (some ⟨b3, 0, none⟩)], .bool (askB kind no l 0), .pointer (some ⟨b5, 1, none⟩), .int .i64 1, undef, undef, undef, undef], []⟩ (by kernel_rfl) (fun _ _ _ _ _ h => h) (by kernel_rfl) hS9 ?_
    refine h_done _ (by kernel_rfl) ?_
    refine wp_ret (inBlock_ret (then_ret (then_ret (inBlock_ret (then_ret ?_)))))
    refine g_ret (.tuple #[.slice none 0 0, .int .i64 1]) (by kernel_rfl) (by kernel_rfl) ?_
    have he : openE kind no l = 1 := by simp [openE, hk1]
    exact .inl ⟨by rw [he]; decide, by rw [he], hB⟩
  · have hk1 := hc8
    refine wp_skip ?_
    refine wp_region_lit ?_
    refine g_pure 2 ⟨#[.slice a l.length c, .int .i64 kind, .int .i64 no, .pointer (some ⟨b1, 0, none⟩), .pointer (some ⟨b2, 0, none⟩), .pointer (some ⟨b3, 0, none⟩), .slice none 0 0, .int .i64 0, .slice (some ⟨b4, 0, none⟩) 6 6, undef, .pointer (some ⟨b5, 0, none⟩), .func (.func 54) #[] #[.pointer (some ⟨b2, 0, none⟩), .pointer (some ⟨b3, 0, none⟩)], .agg #[.func (.func 54) #[] #[.pointer (some ⟨b2, 0, none⟩), .pointer (some ⟨b3, 0, none⟩)], .int .i64 1], .func (.func 55) #[] #[.pointer (some ⟨b1, 0, none⟩)], .agg #[.func (.func 55) #[] #[.pointer (some ⟨b1, 0, none⟩)], .int .i64 7], .func (.func 56) #[] #[.pointer (some ⟨b1, 0, none⟩), .pointer (some ⟨b2, 0, none⟩)], .agg #[.func (.func 56) #[] #[.pointer (some ⟨b1, 0, none⟩), .pointer (some ⟨b2, 0, none⟩)], .int .i64 4], .func (.func 58) #[] #[.pointer (some ⟨b1, 0, none⟩), .pointer (some ⟨b3, 0, none⟩)], .agg #[.func (.func 58) #[] #[.pointer (some ⟨b1, 0, none⟩), .pointer (some ⟨b3, 0, none⟩)], .int .i64 5], .func (.func 59) #[] #[.pointer (some ⟨b1, 0, none⟩), .pointer (some ⟨b2, 0, none⟩)], .agg #[.func (.func 59) #[] #[.pointer (some ⟨b1, 0, none⟩), .pointer (some ⟨b2, 0, none⟩)], .int .i64 6], .func (.func 60) #[] #[.pointer (some ⟨b1, 0, none⟩)], .agg #[.func (.func 60) #[] #[.pointer (some ⟨b1, 0, none⟩)], .int .i64 7], .slice (some ⟨b4, 0, none⟩) 6 6, .slice (some ⟨b4, 0, none⟩) 6 6, .int .i64 6, .int .i64 1, .bool true, .pointer (some ⟨b4, 0, none⟩), .agg #[.func (.func 54) #[] #[.pointer (some ⟨b2, 0, none⟩), .pointer (some ⟨b3, 0, none⟩)], .int .i64 1], .pointer (some ⟨b5, 0, none⟩), .func (.func 54) #[] #[.pointer (some ⟨b2, 0, none⟩), .pointer (some ⟨b3, 0, none⟩)], .bool (askB kind no l 0), undef, undef, .int .i64 1, undef, undef, undef], []⟩ (by kernel_rfl) ?_
    refine wpList_nil ?_
    refine g_round ?_
    refine wp_seq ?_
    refine wp_region_lit ?_
    refine g_pv 1 [(27, .bool true)] (by kernel_rfl) ?_
    refine wpList_nil ?_
    refine wp_seq ?_
    refine wp_cond_true (by kernel_rfl) ?_
    refine wp_skip ?_
    refine wp_seq ?_
    refine wp_block ?_
    refine wp_seq ?_
    refine wp_region_lit ?_
    refine g_pv 1 [(28, .pointer (some ⟨b4, 2, none⟩))] (by kernel_rfl) ?_
    refine g_op (by kernel_rfl) (op_loadv (b := b4) (off := 2) [.func (.func 55) #[] #[.pointer (some ⟨b1, 0, none⟩)], .int .i64 7] _ rfl (by kernel_rfl) Try.underlying114 rfl (by kernel_rfl) (k4.part 2 2 (by first | decide | simp)) ?_)
    refine g_op (by kernel_rfl) (op_alloc [.nilFunc, .int .i64 0] rfl (by kernel_rfl) ?_)
    intro b12 W12 n12
    have d12_b1 := n12.ne k1
    have d12_b2 := n12.ne k2
    have d12_b3 := n12.ne k3
    have d12_b4 := n12.ne k4
    have d12_b5 := n12.ne k6
    have g12 := n12.ge hB
    replace hB := Bl.next hB n12.below
    replace k1 := k1.below n12.below
    replace k2 := k2.below n12.below
    replace k3 := k3.below n12.below
    replace k4 := k4.below n12.below
    replace k6 := k6.below n12.below
    have k12 := n12.blk
    refine g_op (by kernel_rfl) (op_storev (b := b12) (off := 0) [.func (.func 55) #[] #[.pointer (some ⟨b1, 0, none⟩)], .int .i64 7] rfl (by kernel_rfl) (by kernel_rfl) (by kernel_rfl) (by first | decide | simp [Value.oneCell']) k12 (by first | decide | simp) ?_)
    intro W13 u13 k13
    change Blk _ _ [.func (.func 55) #[] #[.pointer (some ⟨b1, 0, none⟩)], .int .i64 7] _ at k13
    replace hB := u13.below hB g12
    replace k1 := u13.blk k1 (Ne.symm (Ne.symm d12_b1))
    replace k2 := u13.blk k2 (Ne.symm (Ne.symm d12_b2))
    replace k3 := u13.blk k3 (Ne.symm (Ne.symm d12_b3))
    replace k4 := u13.blk k4 (Ne.symm (Ne.symm d12_b4))
    replace k6 := u13.blk k6 (Ne.symm (Ne.symm d12_b5))
    refine wpList_nil ?_
    refine wp_seq ?_
    refine wp_region_lit ?_
    refine g_pv 1 [(30, .pointer (some ⟨b12, 0, none⟩))] (by kernel_rfl) ?_
    refine g_op (by kernel_rfl) (op_load ⟨b12, 0, none⟩ (.func (.func 55) #[] #[.pointer (some ⟨b1, 0, none⟩)]) rfl (by kernel_rfl) (by kernel_rfl) (k13.cell (i := 0) rfl) ?_)
    refine g_op (by kernel_rfl) (op_call (lb := #[.pointer (some ⟨b1, 0, none⟩)]) 55 #[.pointer (some ⟨b1, 0, none⟩)] rfl (by kernel_rfl) (fun _ _ => by kernel_rfl) (by kernel_rfl) ((open_2 kind no _ b1 a c l k1).mono ?_))
    rintro e W14 ⟨rfl, hb14⟩
    refine ⟨_, rfl, ?_⟩
    replace hB := Bl.next hB hb14
    replace k1 := k1.below hb14
    replace k2 := k2.below hb14
    replace k3 := k3.below hb14
    replace k4 := k4.below hb14
    replace k6 := k6.below hb14
    replace k13 := k13.below hb14
    refine wpList_nil ?_
    refine wp_cond_split (t := (askB kind no l 1)) (by kernel_rfl) (fun hc15 => ?_) (fun hc15 => ?_)
    · have hk2 := hc15
      refine wp_seq ?_
      replace hB := Bl.next hB (below_drew W14)
      replace k1 := k1.below (below_drew W14)
      replace k2 := k2.below (below_drew W14)
      replace k3 := k3.below (below_drew W14)
      replace k4 := k4.below (below_drew W14)
      replace k6 := k6.below (below_drew W14)
      replace k13 := k13.below (below_drew W14)
      refine h_reg (Below (W14.drew).heap.size (W14.drew)) 4 rfl #[false, false, false, false] rfl (by kernel_rfl) (Below.refl _ _) ?_
      intro hS16
      have hBd18 := hB
      have kd18_b1 := k1
      have kd18_b2 := k2
      have kd18_b3 := k3
      have kd18_b4 := k4
      have kd18_b5 := k6
      have kd18_b12 := k13
      refine h_pv [0] 3 rfl #[true, false, false, false] [(33, .pointer (some ⟨b12, 1, none⟩))] (by kernel_rfl) (fun _ _ _ _ _ h => h) (by kernel_rfl) hS16 ?_
      refine h_load 1 2 rfl ⟨b12, 1, none⟩ (.int .i64 7) rfl (by kernel_rfl) (by kernel_rfl) (by kernel_rfl) (fun _ _ _ _ _ h => h) (by kernel_rfl) rfl (by kernel_rfl) (by kernel_rfl) (fun V hV => ((kd18_b12.below hV).cell (i := 1) rfl)) hS16 ?_
      refine h_pv [2, 3] 0 rfl #[true, true, true, true] [(6, .slice none 0 0), (7, .int .i64 7)] (by kernel_rfl) (fun _ _ _ _ _ h => h) (by kernel_rfl) hS16 ?_
      refine h_done _ (by kernel_rfl) ?_
      refine wp_ret (inBlock_ret (then_ret (then_ret (inBlock_ret (then_ret ?_)))))
      refine g_ret (.tuple #[.slice none 0 0, .int .i64 7]) (by kernel_rfl) (by kernel_rfl) ?_
      have he : openE kind no l = 7 := by simp [openE, hk1, hk2]
      exact .inl ⟨by rw [he]; decide, by rw [he], hB⟩
    · have hk2 := hc15
      have hl256 := ask1 hk2
      refine wp_skip ?_
      refine wp_region_lit ?_
      refine g_pv 2 [(35, .int .i64 2), (26, .int .i64 2)] (by kernel_rfl) ?_
      refine wpList_nil ?_
      refine g_round ?_
      refine wp_seq ?_
      refine wp_region_lit ?_
      refine g_pv 1 [(27, .bool true)] (by kernel_rfl) ?_
      refine wpList_nil ?_
      refine wp_seq ?_
      refine wp_cond_true (by kernel_rfl) ?_
      refine wp_skip ?_
      refine wp_seq ?_
      refine wp_block ?_
      refine wp_seq ?_
      refine wp_region_lit ?_
      refine g_pv 1 [(28, .pointer (some ⟨b4, 4, none⟩))] (by kernel_rfl) ?_
      refine g_op (by kernel_rfl) (op_loadv (b := b4) (off := 4) [.func (.func 56) #[] #[.pointer (some ⟨b1, 0, none⟩), .pointer (some ⟨b2, 0, none⟩)], .int .i64 4] _ rfl (by kernel_rfl) Try.underlying114 rfl (by kernel_rfl) (k4.part 4 2 (by first | decide | simp)) ?_)
      refine g_op (by kernel_rfl) (op_alloc [.nilFunc, .int .i64 0] rfl (by kernel_rfl) ?_)
      intro b19 W19 n19
      have d19_b1 := n19.ne k1
      have d19_b2 := n19.ne k2
      have d19_b3 := n19.ne k3
      have d19_b4 := n19.ne k4
      have d19_b5 := n19.ne k6
      have d19_b12 := n19.ne k13
      have g19 := n19.ge hB
      replace hB := Bl.next hB n19.below
      replace k1 := k1.below n19.below
      replace k2 := k2.below n19.below
      replace k3 := k3.below n19.below
      replace k4 := k4.below n19.below
      replace k6 := k6.below n19.below
      replace k13 := k13.below n19.below
      have k19 := n19.blk
      refine g_op (by kernel_rfl) (op_storev (b := b19) (off := 0) [.func (.func 56) #[] #[.pointer (some ⟨b1, 0, none⟩), .pointer (some ⟨b2, 0, none⟩)], .int .i64 4] rfl (by kernel_rfl) (by kernel_rfl) (by kernel_rfl) (by first | decide | simp [Value.oneCell']) k19 (by first | decide | simp) ?_)
      intro W20 u20 k20
      change Blk _ _ [.func (.func 56) #[] #[.pointer (some ⟨b1, 0, none⟩), .pointer (some ⟨b2, 0, none⟩)], .int .i64 4] _ at k20
      replace hB := u20.below hB g19
      replace k1 := u20.blk k1 (Ne.symm (Ne.symm d19_b1))
      replace k2 := u20.blk k2 (Ne.symm (Ne.symm d19_b2))
      replace k3 := u20.blk k3 (Ne.symm (Ne.symm d19_b3))
      replace k4 := u20.blk k4 (Ne.symm (Ne.symm d19_b4))
      replace k6 := u20.blk k6 (Ne.symm (Ne.symm d19_b5))
      replace k13 := u20.blk k13 (Ne.symm (Ne.symm d19_b12))
      refine wpList_nil ?_
      refine wp_seq ?_
      refine wp_region_lit ?_
      refine g_pv 1 [(30, .pointer (some ⟨b19, 0, none⟩))] (by kernel_rfl) ?_
      refine g_op (by kernel_rfl) (op_load ⟨b19, 0, none⟩ (.func (.func 56) #[] #[.pointer (some ⟨b1, 0, none⟩), .pointer (some ⟨b2, 0, none⟩)]) rfl (by kernel_rfl) (by kernel_rfl) (k20.cell (i := 0) rfl) ?_)
      refine g_op (by kernel_rfl) (op_call (lb := #[.pointer (some ⟨b1, 0, none⟩), .pointer (some ⟨b2, 0, none⟩)]) 56 #[.pointer (some ⟨b1, 0, none⟩), .pointer (some ⟨b2, 0, none⟩)] rfl (by kernel_rfl) (fun _ _ => by kernel_rfl) (by kernel_rfl) ((open_3 kind no _ b1 a c l k1 b2 k2 (ask1 hk2) (by have := ask1 hk2; have := h.cap rfl; omega) (h.below hB)).mono ?_))
      rintro e W21 ⟨rfl, hb21⟩
      refine ⟨_, rfl, ?_⟩
      replace hB := Bl.next hB hb21
      replace k1 := k1.below hb21
      replace k2 := k2.below hb21
      replace k3 := k3.below hb21
      replace k4 := k4.below hb21
      replace k6 := k6.below hb21
      replace k13 := k13.below hb21
      replace k20 := k20.below hb21
      refine wpList_nil ?_
      refine wp_cond_split (t := (askB kind no l 2)) (by kernel_rfl) (fun hc22 => ?_) (fun hc22 => ?_)
      · have hk3 := hc22
        refine wp_seq ?_
        replace hB := Bl.next hB (below_drew W21)
        replace k1 := k1.below (below_drew W21)
        replace k2 := k2.below (below_drew W21)
        replace k3 := k3.below (below_drew W21)
        replace k4 := k4.below (below_drew W21)
        replace k6 := k6.below (below_drew W21)
        replace k13 := k13.below (below_drew W21)
        replace k20 := k20.below (below_drew W21)
        refine h_reg (Below (W21.drew).heap.size (W21.drew)) 4 rfl #[false, false, false, false] rfl (by kernel_rfl) (Below.refl _ _) ?_
        intro hS23
        have hBd25 := hB
        have kd25_b1 := k1
        have kd25_b2 := k2
        have kd25_b3 := k3
        have kd25_b4 := k4
        have kd25_b5 := k6
        have kd25_b12 := k13
        have kd25_b19 := k20
        refine h_pv [0] 3 rfl #[true, false, false, false] [(33, .pointer (some ⟨b19, 1, none⟩))] (by kernel_rfl) (fun _ _ _ _ _ h => h) (by kernel_rfl) hS23 ?_
        refine h_load 1 2 rfl ⟨b19, 1, none⟩ (.int .i64 4) rfl (by kernel_rfl) (by kernel_rfl) (by kernel_rfl) (fun _ _ _ _ _ h => h) (by kernel_rfl) rfl (by kernel_rfl) (by kernel_rfl) (fun V hV => ((kd25_b19.below hV).cell (i := 1) rfl)) hS23 ?_
        refine h_pv [2, 3] 0 rfl #[true, true, true, true] [(6, .slice none 0 0), (7, .int .i64 4)] (by kernel_rfl) (fun _ _ _ _ _ h => h) (by kernel_rfl) hS23 ?_
        refine h_done _ (by kernel_rfl) ?_
        refine wp_ret (inBlock_ret (then_ret (then_ret (inBlock_ret (then_ret ?_)))))
        refine g_ret (.tuple #[.slice none 0 0, .int .i64 4]) (by kernel_rfl) (by kernel_rfl) ?_
        have he : openE kind no l = 4 := by simp [openE, hk1, hk2, hk3]
        exact .inl ⟨by rw [he]; decide, by rw [he], hB⟩
      · have hk3 := hc22
        refine wp_skip ?_
        refine wp_region_lit ?_
        refine g_pv 2 [(35, .int .i64 3), (26, .int .i64 3)] (by kernel_rfl) ?_
        refine wpList_nil ?_
        refine g_round ?_
        refine wp_seq ?_
        refine wp_region_lit ?_
        refine g_pv 1 [(27, .bool true)] (by kernel_rfl) ?_
        refine wpList_nil ?_
        refine wp_seq ?_
        refine wp_cond_true (by kernel_rfl) ?_
        refine wp_skip ?_
        refine wp_seq ?_
        refine wp_block ?_
        refine wp_seq ?_
        refine wp_region_lit ?_
        refine g_pv 1 [(28, .pointer (some ⟨b4, 6, none⟩))] (by kernel_rfl) ?_
        refine g_op (by kernel_rfl) (op_loadv (b := b4) (off := 6) [.func (.func 58) #[] #[.pointer (some ⟨b1, 0, none⟩), .pointer (some ⟨b3, 0, none⟩)], .int .i64 5] _ rfl (by kernel_rfl) Try.underlying114 rfl (by kernel_rfl) (k4.part 6 2 (by first | decide | simp)) ?_)
        refine g_op (by kernel_rfl) (op_alloc [.nilFunc, .int .i64 0] rfl (by kernel_rfl) ?_)
        intro b26 W26 n26
        have d26_b1 := n26.ne k1
        have d26_b2 := n26.ne k2
        have d26_b3 := n26.ne k3
        have d26_b4 := n26.ne k4
        have d26_b5 := n26.ne k6
        have d26_b12 := n26.ne k13
        have d26_b19 := n26.ne k20
        have g26 := n26.ge hB
        replace hB := Bl.next hB n26.below
        replace k1 := k1.below n26.below
        replace k2 := k2.below n26.below
        replace k3 := k3.below n26.below
        replace k4 := k4.below n26.below
        replace k6 := k6.below n26.below
        replace k13 := k13.below n26.below
        replace k20 := k20.below n26.below
        have k26 := n26.blk
        refine g_op (by kernel_rfl) (op_storev (b := b26) (off := 0) [.func (.func 58) #[] #[.pointer (some ⟨b1, 0, none⟩), .pointer (some ⟨b3, 0, none⟩)], .int .i64 5] rfl (by kernel_rfl) (by kernel_rfl) (by kernel_rfl) (by first | decide | simp [Value.oneCell']) k26 (by first | decide | simp) ?_)
        intro W27 u27 k27
        change Blk _ _ [.func (.func 58) #[] #[.pointer (some ⟨b1, 0, none⟩), .pointer (some ⟨b3, 0, none⟩)], .int .i64 5] _ at k27
        replace hB := u27.below hB g26
        replace k1 := u27.blk k1 (Ne.symm (Ne.symm d26_b1))
        replace k2 := u27.blk k2 (Ne.symm (Ne.symm d26_b2))
        replace k3 := u27.blk k3 (Ne.symm (Ne.symm d26_b3))
        replace k4 := u27.blk k4 (Ne.symm (Ne.symm d26_b4))
        replace k6 := u27.blk k6 (Ne.symm (Ne.symm d26_b5))
        replace k13 := u27.blk k13 (Ne.symm (Ne.symm d26_b12))
        replace k20 := u27.blk k20 (Ne.symm (Ne.symm d26_b19))
        refine wpList_nil ?_
        refine wp_seq ?_
        refine wp_region_lit ?_
        refine g_pv 1 [(30, .pointer (some ⟨b26, 0, none⟩))] (by kernel_rfl) ?_
        refine g_op (by kernel_rfl) (op_load ⟨b26, 0, none⟩ (.func (.func 58) #[] #[.pointer (some ⟨b1, 0, none⟩), .pointer (some ⟨b3, 0, none⟩)]) rfl (by kernel_rfl) (by kernel_rfl) (k27.cell (i := 0) rfl) ?_)
        refine g_op (by kernel_rfl) (op_call (lb := #[.pointer (some ⟨b1, 0, none⟩), .pointer (some ⟨b3, 0, none⟩)]) 58 #[.pointer (some ⟨b1, 0, none⟩), .pointer (some ⟨b3, 0, none⟩)] rfl (by kernel_rfl) (fun _ _ => by kernel_rfl) (by kernel_rfl) ((open_4 kind no _ b1 a c l k1 b3 k3 (ask1 hk2) (by have := ask1 hk2; have := h.cap rfl; omega) (h.below hB)).mono ?_))
        rintro e W28 ⟨rfl, hb28⟩
        refine ⟨_, rfl, ?_⟩
        replace hB := Bl.next hB hb28
        replace k1 := k1.below hb28
        replace k2 := k2.below hb28
        replace k3 := k3.below hb28
        replace k4 := k4.below hb28
        replace k6 := k6.below hb28
        replace k13 := k13.below hb28
        replace k20 := k20.below hb28
        replace k27 := k27.below hb28
        refine wpList_nil ?_
        refine wp_cond_split (t := (askB kind no l 3)) (by kernel_rfl) (fun hc29 => ?_) (fun hc29 => ?_)
        · have hk4 := hc29
          refine wp_seq ?_
          replace hB := Bl.next hB (below_drew W28)
          replace k1 := k1.below (below_drew W28)
          replace k2 := k2.below (below_drew W28)
          replace k3 := k3.below (below_drew W28)
          replace k4 := k4.below (below_drew W28)
          replace k6 := k6.below (below_drew W28)
          replace k13 := k13.below (below_drew W28)
          replace k20 := k20.below (below_drew W28)
          replace k27 := k27.below (below_drew W28)
          refine h_reg (Below (W28.drew).heap.size (W28.drew)) 4 rfl #[false, false, false, false] rfl (by kernel_rfl) (Below.refl _ _) ?_
          intro hS30
          have hBd32 := hB
          have kd32_b1 := k1
          have kd32_b2 := k2
          have kd32_b3 := k3
          have kd32_b4 := k4
          have kd32_b5 := k6
          have kd32_b12 := k13
          have kd32_b19 := k20
          have kd32_b26 := k27
          refine h_pv [0] 3 rfl #[true, false, false, false] [(33, .pointer (some ⟨b26, 1, none⟩))] (by kernel_rfl) (fun _ _ _ _ _ h => h) (by kernel_rfl) hS30 ?_
          refine h_load 1 2 rfl ⟨b26, 1, none⟩ (.int .i64 5) rfl (by kernel_rfl) (by kernel_rfl) (by kernel_rfl) (fun _ _ _ _ _ h => h) (by kernel_rfl) rfl (by kernel_rfl) (by kernel_rfl) (fun V hV => ((kd32_b26.below hV).cell (i := 1) rfl)) hS30 ?_
          refine h_pv [2, 3] 0 rfl #[true, true, true, true] [(6, .slice none 0 0), (7, .int .i64 5)] (by kernel_rfl) (fun _ _ _ _ _ h => h) (by kernel_rfl) hS30 ?_
          refine h_done _ (by kernel_rfl) ?_
          refine wp_ret (inBlock_ret (then_ret (then_ret (inBlock_ret (then_ret ?_)))))
          refine g_ret (.tuple #[.slice none 0 0, .int .i64 5]) (by kernel_rfl) (by kernel_rfl) ?_
          have he : openE kind no l = 5 := by simp [openE, hk1, hk2, hk3, hk4]
          exact .inl ⟨by rw [he]; decide, by rw [he], hB⟩
        · have hk4 := hc29
          refine wp_skip ?_
          refine wp_region_lit ?_
          refine g_pv 2 [(35, .int .i64 4), (26, .int .i64 4)] (by kernel_rfl) ?_
          refine wpList_nil ?_
          refine g_round ?_
          refine wp_seq ?_
          refine wp_region_lit ?_
          refine g_pv 1 [(27, .bool true)] (by kernel_rfl) ?_
          refine wpList_nil ?_
          refine wp_seq ?_
          refine wp_cond_true (by kernel_rfl) ?_
          refine wp_skip ?_
          refine wp_seq ?_
          refine wp_block ?_
          refine wp_seq ?_
          refine wp_region_lit ?_
          refine g_pv 1 [(28, .pointer (some ⟨b4, 8, none⟩))] (by kernel_rfl) ?_
          refine g_op (by kernel_rfl) (op_loadv (b := b4) (off := 8) [.func (.func 59) #[] #[.pointer (some ⟨b1, 0, none⟩), .pointer (some ⟨b2, 0, none⟩)], .int .i64 6] _ rfl (by kernel_rfl) Try.underlying114 rfl (by kernel_rfl) (k4.part 8 2 (by first | decide | simp)) ?_)
          refine g_op (by kernel_rfl) (op_alloc [.nilFunc, .int .i64 0] rfl (by kernel_rfl) ?_)
          intro b33 W33 n33
          have d33_b1 := n33.ne k1
          have d33_b2 := n33.ne k2
          have d33_b3 := n33.ne k3
          have d33_b4 := n33.ne k4
          have d33_b5 := n33.ne k6
          have d33_b12 := n33.ne k13
          have d33_b19 := n33.ne k20
          have d33_b26 := n33.ne k27
          have g33 := n33.ge hB
          replace hB := Bl.next hB n33.below
          replace k1 := k1.below n33.below
          replace k2 := k2.below n33.below
          replace k3 := k3.below n33.below
          replace k4 := k4.below n33.below
          replace k6 := k6.below n33.below
          replace k13 := k13.below n33.below
          replace k20 := k20.below n33.below
          replace k27 := k27.below n33.below
          have k33 := n33.blk
          refine g_op (by kernel_rfl) (op_storev (b := b33) (off := 0) [.func (.func 59) #[] #[.pointer (some ⟨b1, 0, none⟩), .pointer (some ⟨b2, 0, none⟩)], .int .i64 6] rfl (by kernel_rfl) (by kernel_rfl) (by kernel_rfl) (by first | decide | simp [Value.oneCell']) k33 (by first | decide | simp) ?_)
          intro W34 u34 k34
          change Blk _ _ [.func (.func 59) #[] #[.pointer (some ⟨b1, 0, none⟩), .pointer (some ⟨b2, 0, none⟩)], .int .i64 6] _ at k34
          replace hB := u34.below hB g33
          replace k1 := u34.blk k1 (Ne.symm (Ne.symm d33_b1))
          replace k2 := u34.blk k2 (Ne.symm (Ne.symm d33_b2))
          replace k3 := u34.blk k3 (Ne.symm (Ne.symm d33_b3))
          replace k4 := u34.blk k4 (Ne.symm (Ne.symm d33_b4))
          replace k6 := u34.blk k6 (Ne.symm (Ne.symm d33_b5))
          replace k13 := u34.blk k13 (Ne.symm (Ne.symm d33_b12))
          replace k20 := u34.blk k20 (Ne.symm (Ne.symm d33_b19))
          replace k27 := u34.blk k27 (Ne.symm (Ne.symm d33_b26))
          refine wpList_nil ?_
          refine wp_seq ?_
          refine wp_region_lit ?_
          refine g_pure 1 ⟨#[.slice a l.length c, .int .i64 kind, .int .i64 no, .pointer (some ⟨b1, 0, none⟩), .pointer (some ⟨b2, 0, none⟩), .pointer (some ⟨b3, 0, none⟩), .slice none 0 0, .int .i64 0, .slice (some ⟨b4, 0, none⟩) 6 6, undef, .pointer (some ⟨b33, 0, none⟩), .func (.func 54) #[] #[.pointer (some ⟨b2, 0, none⟩), .pointer (some ⟨b3, 0, none⟩)], .agg #[.func (.func 54) #[] #[.pointer (some ⟨b2, 0, none⟩), .pointer (some ⟨b3, 0, none⟩)], .int .i64 1], .func (.func 55) #[] #[.pointer (some ⟨b1, 0, none⟩)], .agg #[.func (.func 55) #[] #[.pointer (some ⟨b1, 0, none⟩)], .int .i64 7], .func (.func 56) #[] #[.pointer (some ⟨b1, 0, none⟩), .pointer (some ⟨b2, 0, none⟩)], .agg #[.func (.func 56) #[] #[.pointer (some ⟨b1, 0, none⟩), .pointer (some ⟨b2, 0, none⟩)], .int .i64 4], .func (.func 58) #[] #[.pointer (some ⟨b1, 0, none⟩), .pointer (some ⟨b3, 0, none⟩)], .agg #[.func (.func 58) #[] #[.pointer (some ⟨b1, 0, none⟩), .pointer (some ⟨b3, 0, none⟩)], .int .i64 5], .func (.func 59) #[] #[.pointer (some ⟨b1, 0, none⟩), .pointer (some ⟨b2, 0, none⟩)], .agg #[.func (.func 59) #[] #[.pointer (some ⟨b1, 0, none⟩), .pointer (some ⟨b2, 0, none⟩)], .int .i64 6], .func (.func 60) #[] #[.pointer (some ⟨b1, 0, none⟩)], .agg #[.func (.func 60) #[] #[.pointer (some ⟨b1, 0, none⟩)], .int .i64 7], .slice (some ⟨b4, 0, none⟩) 6 6, .slice (some ⟨b4, 0, none⟩) 6 6, .int .i64 6, .int .i64 4, .bool true, .pointer (some ⟨b4, 8, none⟩), .agg #[.func (.func 59) #[] #[.pointer (some ⟨b1, 0, none⟩), .pointer (some ⟨b2, 0, none⟩)], .int .i64 6], .pointer (some ⟨b33, 0, none⟩), .func (.func 58) #[] #[.pointer (some ⟨b1, 0, none⟩), .pointer (some ⟨b3, 0, none⟩)], .bool (askB kind no l 3), undef, undef, .int .i64 4, undef, undef, undef], []⟩ (by kernel_rfl) ?_
          refine g_op (by kernel_rfl) (op_load ⟨b33, 0, none⟩ (.func (.func 59) #[] #[.pointer (some ⟨b1, 0, none⟩), .pointer (some ⟨b2, 0, none⟩)]) rfl (by kernel_rfl) (by kernel_rfl) (k34.cell (i := 0) rfl) ?_)
          refine g_op (by kernel_rfl) (op_call (lb := #[.pointer (some ⟨b1, 0, none⟩), .pointer (some ⟨b2, 0, none⟩)]) 59 #[.pointer (some ⟨b1, 0, none⟩), .pointer (some ⟨b2, 0, none⟩)] rfl (by kernel_rfl) (fun _ _ => by kernel_rfl) (by kernel_rfl) ((open_5 kind no _ b1 a c l k1 b2 k2 (ask1 hk2) (by have := ask1 hk2; have := h.cap rfl; omega) (h.below hB)).mono ?_))
          rintro e W35 ⟨rfl, hb35⟩
          refine ⟨_, rfl, ?_⟩
          replace hB := Bl.next hB hb35
          replace k1 := k1.below hb35
          replace k2 := k2.below hb35
          replace k3 := k3.below hb35
          replace k4 := k4.below hb35
          replace k6 := k6.below hb35
          replace k13 := k13.below hb35
          replace k20 := k20.below hb35
          replace k27 := k27.below hb35
          replace k34 := k34.below hb35
          refine wpList_nil ?_
          refine wp_cond_split (t := (askB kind no l 4)) (by kernel_rfl) (fun hc36 => ?_) (fun hc36 => ?_)
          · have hk5 := hc36
            refine wp_seq ?_
            replace hB := Bl.next hB (below_drew W35)
            replace k1 := k1.below (below_drew W35)
            replace k2 := k2.below (below_drew W35)
            replace k3 := k3.below (below_drew W35)
            replace k4 := k4.below (below_drew W35)
            replace k6 := k6.below (below_drew W35)
            replace k13 := k13.below (below_drew W35)
            replace k20 := k20.below (below_drew W35)
            replace k27 := k27.below (below_drew W35)
            replace k34 := k34.below (below_drew W35)
            refine h_reg (Below (W35.drew).heap.size (W35.drew)) 4 rfl #[false, false, false, false] rfl (by kernel_rfl) (Below.refl _ _) ?_
            intro hS37
            have hBd39 := hB
            have kd39_b1 := k1
            have kd39_b2 := k2
            have kd39_b3 := k3
            have kd39_b4 := k4
            have kd39_b5 := k6
            have kd39_b12 := k13
            have kd39_b19 := k20
            have kd39_b26 := k27
            have kd39_b33 := k34
            refine h_pv [0] 3 rfl #[true, false, false, false] [(33, .pointer (some ⟨b33, 1, none⟩))] (by kernel_rfl) (fun _ _ _ _ _ h => h) (by kernel_rfl) hS37 ?_
            refine h_load 1 2 rfl ⟨b33, 1, none⟩ (.int .i64 6) rfl (by kernel_rfl) (by kernel_rfl) (by kernel_rfl) (fun _ _ _ _ _ h => h) (by kernel_rfl) rfl (by kernel_rfl) (by kernel_rfl) (fun V hV => ((kd39_b33.below hV).cell (i := 1) rfl)) hS37 ?_
            refine h_pv [2, 3] 0 rfl #[true, true, true, true] [(6, .slice none 0 0), (7, .int .i64 6)] (by kernel_rfl) (fun _ _ _ _ _ h => h) (by kernel_rfl) hS37 ?_
            refine h_done _ (by kernel_rfl) ?_
            refine wp_ret (inBlock_ret (then_ret (then_ret (inBlock_ret (then_ret ?_)))))
            refine g_ret (.tuple #[.slice none 0 0, .int .i64 6]) (by kernel_rfl) (by kernel_rfl) ?_
            have he : openE kind no l = 6 := by simp [openE, hk1, hk2, hk3, hk4, hk5]
            exact .inl ⟨by rw [he]; decide, by rw [he], hB⟩
          · have hk5 := hc36
            refine wp_skip ?_
            refine wp_region_lit ?_
            refine g_pv 2 [(35, .int .i64 5), (26, .int .i64 5)] (by kernel_rfl) ?_
            refine wpList_nil ?_
            refine g_round ?_
            refine wp_seq ?_
            refine wp_region_lit ?_
            refine g_pv 1 [(27, .bool true)] (by kernel_rfl) ?_
            refine wpList_nil ?_
            refine wp_seq ?_
            refine wp_cond_true (by kernel_rfl) ?_
            refine wp_skip ?_
            refine wp_seq ?_
            refine wp_block ?_
            refine wp_seq ?_
            refine wp_region_lit ?_
            refine g_pv 1 [(28, .pointer (some ⟨b4, 10, none⟩))] (by kernel_rfl) ?_
            refine g_op (by kernel_rfl) (op_loadv (b := b4) (off := 10) [.func (.func 60) #[] #[.pointer (some ⟨b1, 0, none⟩)], .int .i64 7] _ rfl (by kernel_rfl) Try.underlying114 rfl (by kernel_rfl) (k4.part 10 2 (by first | decide | simp)) ?_)
            refine g_op (by kernel_rfl) (op_alloc [.nilFunc, .int .i64 0] rfl (by kernel_rfl) ?_)
            intro b40 W40 n40
            have d40_b1 := n40.ne k1
            have d40_b2 := n40.ne k2
            have d40_b3 := n40.ne k3
            have d40_b4 := n40.ne k4
            have d40_b5 := n40.ne k6
            have d40_b12 := n40.ne k13
            have d40_b19 := n40.ne k20
            have d40_b26 := n40.ne k27
            have d40_b33 := n40.ne k34
            have g40 := n40.ge hB
            replace hB := Bl.next hB n40.below
            replace k1 := k1.below n40.below
            replace k2 := k2.below n40.below
            replace k3 := k3.below n40.below
            replace k4 := k4.below n40.below
            replace k6 := k6.below n40.below
            replace k13 := k13.below n40.below
            replace k20 := k20.below n40.below
            replace k27 := k27.below n40.below
            replace k34 := k34.below n40.below
            have k40 := n40.blk
            refine g_op (by kernel_rfl) (op_storev (b := b40) (off := 0) [.func (.func 60) #[] #[.pointer (some ⟨b1, 0, none⟩)], .int .i64 7] rfl (by kernel_rfl) (by kernel_rfl) (by kernel_rfl) (by first | decide | simp [Value.oneCell']) k40 (by first | decide | simp) ?_)
            intro W41 u41 k41
            change Blk _ _ [.func (.func 60) #[] #[.pointer (some ⟨b1, 0, none⟩)], .int .i64 7] _ at k41
            replace hB := u41.below hB g40
            replace k1 := u41.blk k1 (Ne.symm (Ne.symm d40_b1))
            replace k2 := u41.blk k2 (Ne.symm (Ne.symm d40_b2))
            replace k3 := u41.blk k3 (Ne.symm (Ne.symm d40_b3))
            replace k4 := u41.blk k4 (Ne.symm (Ne.symm d40_b4))
            replace k6 := u41.blk k6 (Ne.symm (Ne.symm d40_b5))
            replace k13 := u41.blk k13 (Ne.symm (Ne.symm d40_b12))
            replace k20 := u41.blk k20 (Ne.symm (Ne.symm d40_b19))
            replace k27 := u41.blk k27 (Ne.symm (Ne.symm d40_b26))
            replace k34 := u41.blk k34 (Ne.symm (Ne.symm d40_b33))
            refine wpList_nil ?_
            refine wp_seq ?_
            refine wp_region_lit ?_
            refine g_pv 1 [(30, .pointer (some ⟨b40, 0, none⟩))] (by kernel_rfl) ?_
            refine g_op (by kernel_rfl) (op_load ⟨b40, 0, none⟩ (.func (.func 60) #[] #[.pointer (some ⟨b1, 0, none⟩)]) rfl (by kernel_rfl) (by kernel_rfl) (k41.cell (i := 0) rfl) ?_)
            refine g_op (by kernel_rfl) (op_call (lb := #[.pointer (some ⟨b1, 0, none⟩)]) 60 #[.pointer (some ⟨b1, 0, none⟩)] rfl (by kernel_rfl) (fun _ _ => by kernel_rfl) (by kernel_rfl) ((open_6 kind no _ b1 a c l k1  (ask1 hk2) (by have := ask1 hk2; have := h.cap rfl; omega) (h.below hB)).mono ?_))
            rintro e W42 ⟨rfl, hb42⟩
            refine ⟨_, rfl, ?_⟩
            replace hB := Bl.next hB hb42
            replace k1 := k1.below hb42
            replace k2 := k2.below hb42
            replace k3 := k3.below hb42
            replace k4 := k4.below hb42
            replace k6 := k6.below hb42
            replace k13 := k13.below hb42
            replace k20 := k20.below hb42
            replace k27 := k27.below hb42
            replace k34 := k34.below hb42
            replace k41 := k41.below hb42
            refine wpList_nil ?_
            refine wp_cond_split (t := (askB kind no l 5)) (by kernel_rfl) (fun hc43 => ?_) (fun hc43 => ?_)
            · have hk6 := hc43
              refine wp_seq ?_
              replace hB := Bl.next hB (below_drew W42)
              replace k1 := k1.below (below_drew W42)
              replace k2 := k2.below (below_drew W42)
              replace k3 := k3.below (below_drew W42)
              replace k4 := k4.below (below_drew W42)
              replace k6 := k6.below (below_drew W42)
              replace k13 := k13.below (below_drew W42)
              replace k20 := k20.below (below_drew W42)
              replace k27 := k27.below (below_drew W42)
              replace k34 := k34.below (below_drew W42)
              replace k41 := k41.below (below_drew W42)
              refine h_reg (Below (W42.drew).heap.size (W42.drew)) 4 rfl #[false, false, false, false] rfl (by kernel_rfl) (Below.refl _ _) ?_
              intro hS44
              have hBd46 := hB
              have kd46_b1 := k1
              have kd46_b2 := k2
              have kd46_b3 := k3
              have kd46_b4 := k4
              have kd46_b5 := k6
              have kd46_b12 := k13
              have kd46_b19 := k20
              have kd46_b26 := k27
              have kd46_b33 := k34
              have kd46_b40 := k41
              refine h_pv [0] 3 rfl #[true, false, false, false] [(33, .pointer (some ⟨b40, 1, none⟩))] (by kernel_rfl) (fun _ _ _ _ _ h => h) (by kernel_rfl) hS44 ?_
              refine h_load 1 2 rfl ⟨b40, 1, none⟩ (.int .i64 7) rfl (by kernel_rfl) (by kernel_rfl) (by kernel_rfl) (fun _ _ _ _ _ h => h) (by kernel_rfl) rfl (by kernel_rfl) (by kernel_rfl) (fun V hV => ((kd46_b40.below hV).cell (i := 1) rfl)) hS44 ?_
              refine h_pv [2, 3] 0 rfl #[true, true, true, true] [(6, .slice none 0 0), (7, .int .i64 7)] (by kernel_rfl) (fun _ _ _ _ _ h => h) (by kernel_rfl) hS44 ?_
              refine h_done _ (by kernel_rfl) ?_
              refine wp_ret (inBlock_ret (then_ret (then_ret (inBlock_ret (then_ret ?_)))))
              refine g_ret (.tuple #[.slice none 0 0, .int .i64 7]) (by kernel_rfl) (by kernel_rfl) ?_
              have he : openE kind no l = 7 := by simp [openE, hk1, hk2, hk3, hk4, hk5, hk6]
              exact .inl ⟨by rw [he]; decide, by rw [he], hB⟩
            · have hk6 := hc43
              refine wp_skip ?_
              refine wp_region_lit ?_
              refine g_pv 2 [(35, .int .i64 6), (26, .int .i64 6)] (by kernel_rfl) ?_
              refine wpList_nil ?_
              refine g_round ?_
              refine wp_seq ?_
              refine wp_region_lit ?_
              refine g_pv 1 [(27, .bool false)] (by kernel_rfl) ?_
              refine wpList_nil ?_
              refine wp_seq ?_
              refine wp_cond_false (by kernel_rfl) ?_
              refine wp_exit ?_
              refine then_exit ?_
              refine then_exit ?_
              refine inBlock_hit ?_
              refine wp_seq ?_
              refine wp_region_lit ?_
              refine g_op (by kernel_rfl) (op_load ⟨b1, 0, none⟩ (.slice a l.length c) rfl (by kernel_rfl) (by kernel_rfl) (k1.cell (i := 0) rfl) ?_)
              refine g_op (by kernel_rfl) (op_val (run_sliceLHA (k := 8) (h := 252) (b := a) (n := l.length) (c := c) (i := 8) (ki := .i64) (j := 252) (kj := .i64) 1 rfl (by kernel_rfl) (by kernel_rfl) rfl (by kernel_rfl) rfl (by omega) (by omega) Try.underlying22 (by kernel_rfl) _) ?_)
              have hs47 : w.heap.size ≤ (W42).heap.size := hB.size
              refine g_op (by kernel_rfl) (op_call (lb := #[]) 12 #[.slice (cutA a 8 c 1) 244 (c - 8)] rfl (by kernel_rfl) (fun _ _ => by kernel_rfl) (by kernel_rfl) ((clone_bytesN (cutA a 8 c 1) 244 (c - 8) ((l.drop 8).take 244) _ (by have := ask1 hk2; simp; omega) ((Bys.cut h rfl 8 252 (by decide) (by have := ask1 hk2; omega)).below hB) (by decide)).mono ?_))
              rintro e W47 ⟨_, rfl, hb47, ho⟩
              refine ⟨_, rfl, ?_⟩
              replace hB := Bl.next hB hb47
              replace k1 := k1.below hb47
              replace k2 := k2.below hb47
              replace k3 := k3.below hb47
              replace k4 := k4.below hb47
              replace k6 := k6.below hb47
              replace k13 := k13.below hb47
              replace k20 := k20.below hb47
              replace k27 := k27.below hb47
              replace k34 := k34.below hb47
              replace k41 := k41.below hb47
              replace ho := own_mono ho hs47
              unfold OwnB at ho
              rw [show ((l.drop 8).take 244).length = 244 from by have := ask1 hk2; simp; omega] at ho
              obtain ⟨p, c3, rfl⟩ := (own_sl ho).slice
              refine g_pv 2 [(6, .slice p 244 c3), (7, .int .i64 0)] (by kernel_rfl) ?_
              refine wpList_nil ?_
              refine wp_ret ?_
              exact g_ret (.tuple #[.slice p 244 c3, .int .i64 0]) (by kernel_rfl) (by kernel_rfl) (.inr ⟨by simp [openE, hk1, hk2, hk3, hk4, hk5, hk6], _, _, rfl, hB, ho⟩)
end Go.Proofs.Ytoiblgeheblddaa

