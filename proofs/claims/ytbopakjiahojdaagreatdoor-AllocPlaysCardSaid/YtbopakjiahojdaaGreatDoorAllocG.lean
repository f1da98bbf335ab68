/- Package alloc at any numbers: New and From with their errors, Next, Lay, Left, Used, Ahead. -/
import Derived.Test.YtbopakjiahojdaaGreatDoorBlkWr
import Derived.Test.YtbopakjiahojdaaGreatDoorAllocPl
namespace Go.Proofs.YtbopakjiahojdaaGreatDoor
open Go.RowKit Go.Extern.Stop Go.Stop Go.Extern
set_option linter.unusedVariables false
attribute [local irreducible] wpList wpAnyH Code.wp Oper.wp

/-- an allocator of the numbers L, k of them handed out, of the image at b -/
structure AlG (B ba b : Nat) (pa : Option Addr) (N ca k : Nat) (L : List Int) (w : World) : Prop where
  blk : Blk w ba [.slice pa N ca, .int .i64 (k : Int), .pointer (some ⟨b, 0, none⟩)] 95
  nums : w.ownsRow B 3 1 (.slice pa N ca) N (L.map (Value.int .i64))
  hL : L.length = N
  hB : B ≤ ba
  hN : N ≤ 1000000
  hk : k ≤ N
theorem AlG.below {B ba b : Nat} {pa : Option Addr} {N ca k : Nat} {L : List Int} {w W : World} (h : AlG B ba b pa N ca k L w) (hb : Below w.heap.size w W) : AlG B ba b pa N ca k L W := ⟨h.blk.below hb, own_below h.nums hb, h.hL, h.hB, h.hN, h.hk⟩
theorem AlG.only {B ba b : Nat} {pa : Option Addr} {N ca k : Nat} {L : List Int} {w W : World} {T : List TypeId} (h : AlG B ba b pa N ca k L w) (hO : Only T w W) (hT : T.contains 95 = false ∧ T.contains 3 = false) : AlG B ba b pa N ca k L W := ⟨h.blk.only hO hT.1, own_only h.nums hO hT.2, h.hL, h.hB, h.hN, h.hk⟩
theorem AlG.mono {B B' ba b : Nat} {pa : Option Addr} {N ca k : Nat} {L : List Int} {w : World} (h : AlG B ba b pa N ca k L w) (hB : B' ≤ B) : AlG B' ba b pa N ca k L w := ⟨h.blk, own_mono h.nums hB, h.hL, Nat.le_trans hB h.hB, h.hN, h.hk⟩
def goodB (K : Nat) (L : List Int) : Bool := L.all fun x => decide (1 ≤ x ∧ x < (K : Int))
def riseB (L : List Int) : Bool := (List.range (L.length - 1)).all fun i => decide (L.getD i 0 < L.getD (i + 1) 0)
/-- the number of From's error -/
def fromE (K : Nat) (L : List Int) : Int := if goodB K L then (if riseB L then 0 else 8) else 1
theorem goodB_true {K : Nat} {L : List Int} (h : ∀ j, j < L.length → 1 ≤ L.getD j 0 ∧ L.getD j 0 < (K : Int)) : goodB K L = true := by
  unfold goodB
  rw [List.all_eq_true]
  intro x hx
  obtain ⟨j, hj, rfl⟩ := List.mem_iff_getElem.1 hx
  have := h j hj
  simpa [List.getD, hj] using this
theorem goodB_get {K : Nat} {L : List Int} (h : goodB K L = true) {j : Nat} (hj : j < L.length) : 1 ≤ L.getD j 0 ∧ L.getD j 0 < (K : Int) := by
  unfold goodB at h
  rw [List.all_eq_true] at h
  have := h L[j] (List.getElem_mem hj)
  simpa [List.getD, hj] using this
theorem goodB_false {K : Nat} {L : List Int} {j : Nat} (hj : j < L.length) (h : ¬ (1 ≤ L.getD j 0 ∧ L.getD j 0 < (K : Int))) : goodB K L = false := by
  cases hg : goodB K L with
  | false => rfl
  | true => exact absurd (goodB_get hg hj) h
theorem riseB_true {L : List Int} (h : ∀ j, j + 1 < L.length → L.getD j 0 < L.getD (j + 1) 0) : riseB L = true := by
  unfold riseB
  rw [List.all_eq_true]
  intro j hj
  exact decide_eq_true (h j (by have := List.mem_range.1 hj; omega))
theorem riseB_false {L : List Int} {j : Nat} (hj : j + 1 < L.length) (h : ¬ L.getD j 0 < L.getD (j + 1) 0) : riseB L = false := by
  unfold riseB
  rw [List.all_eq_false]
  exact ⟨j, List.mem_range.2 (by omega), by simpa using h⟩
theorem ints_one (l : List Int) : ∀ u ∈ l.map (Value.int .i64), u.oneCell' = true := by
  intro u hu
  obtain ⟨x, _, rfl⟩ := List.mem_map.1 hu
  rfl
set_option maxRecDepth 100000 in
set_option maxHeartbeats 1000000 in
theorem alloc_New_bad (b : Nat) (p0 : Option Addr) (n c : Nat) (f : Int) (w : World) (hk : Blk w b [.slice p0 n c] 98) (hn : n ≤ 100000000) (hf : ¬ (1 ≤ f ∧ f ≤ (n / 256 : Nat))) :
    Calls Tryz.prog 22 #[.pointer (some ⟨b, 0, none⟩), .int .i64 f] w (Ret (.tuple #[.pointer none, .iface 40 (.int .i64 1)]) w) := by
  refine calls_of_wp Tryz.func22 rfl ?_
  refine g_fr ⟨#[.pointer (some ⟨b, 0, none⟩), .int .i64 f, undef, undef, undef, undef, undef, undef, undef, undef, undef, undef, undef, undef, undef, undef, undef, undef, undef, undef, undef, undef, undef, undef, undef, undef, undef, undef, undef, undef, undef, undef, undef, undef, undef, undef, undef], []⟩ (by kernel_rfl) ?_
  refine wp_seq ?_
  refine wp_region_lit ?_
  refine g_pv 2 [(4, .pointer none), (5, .nilIface)] (by kernel_rfl) ?_
  refine wpList_nil ?_
  refine wp_seq ?_
  refine wp_seq ?_
  refine wp_region_lit ?_
  refine g_pv 7 [(8, .pointer (some ⟨b, 0, none⟩)), (9, .bool false), (10, .bool false), (11, .int .i64 f), (12, .bool (decide (f < (1 : Int)))), (13, .bool (decide (f < (1 : Int)))), (14, .bool (decide (f < (1 : Int))))] (by kernel_rfl) ?_
  rcases Bool.eq_false_or_eq_true (decide (f < (1 : Int))) with hc1 | hc1
  · refine g_b [12, 13, 14] _ _ hc1 (by kernel_rfl) ?_
    have hc1 := of_decide_eq_true hc1
    refine g_pv 5 [(15, undef), (16, undef), (17, undef), (18, undef), (19, .bool true)] (by kernel_rfl) ?_
    refine wpList_nil ?_
    refine wp_cond_true (by kernel_rfl) ?_
    refine wp_seq ?_
    refine wp_region_lit ?_
    refine g_pv 3 [(20, .iface 40 (.int .i64 1)), (4, .pointer none), (5, .iface 40 (.int .i64 1))] (by kernel_rfl) ?_
    refine wpList_nil ?_
    refine wp_ret (then_ret ?_)
    exact g_ret (.tuple #[.pointer none, .iface 40 (.int .i64 1)]) (by kernel_rfl) (by kernel_rfl) ⟨rfl, (Below.refl w.heap.size _)⟩
  · refine g_b [12, 13, 14] _ _ hc1 (by kernel_rfl) ?_
    have hc1 := of_decide_eq_false hc1
    refine g_pv 2 [(15, .int .i64 f), (16, .pointer (some ⟨b, 0, none⟩))] (by kernel_rfl) ?_
    refine g_op (by kernel_rfl) (op_call (lb := #[]) 52 #[.pointer (some ⟨b, 0, none⟩)] rfl (by kernel_rfl) (fun _ _ => by kernel_rfl) (by kernel_rfl) ((image_Blocks b _ n c _ (hk.below (Below.refl w.heap.size _)) hn).mono ?_))
    rintro e W2 ⟨rfl, hb2⟩
    refine ⟨_, rfl, ?_⟩
    have hB := hb2
    replace hk := hk.below hb2
    refine g_pv 2 [(18, .bool (decide (f > (↑(n / 256) : Int)))), (19, .bool (decide (f > (↑(n / 256) : Int))))] (by kernel_rfl) ?_
    refine wpList_nil ?_
    refine wp_cond_split (t := decide (f > (↑(n / 256) : Int))) (by kernel_rfl) (fun _ => ?_) (fun hh => absurd (hh.symm.trans (show (decide (f > (↑(n / 256) : Int)) : Bool) = true from decide_eq_true (by omega))) (by decide))
    refine wp_seq ?_
    refine wp_region_lit ?_
    refine g_pv 3 [(20, .iface 40 (.int .i64 1)), (4, .pointer none), (5, .iface 40 (.int .i64 1))] (by kernel_rfl) ?_
    refine wpList_nil ?_
    refine wp_ret (then_ret ?_)
    exact g_ret (.tuple #[.pointer none, .iface 40 (.int .i64 1)]) (by kernel_rfl) (by kernel_rfl) ⟨rfl, hB⟩
set_option maxRecDepth 100000 in
set_option maxHeartbeats 1000000 in
theorem from_1 (bx b : Nat) (p0 : Option Addr) (n c : Nat) (x : Int) (w : World) (kx : Blk w bx [.pointer (some ⟨b, 0, none⟩)] 49) (hk : Blk w b [.slice p0 n c] 98) (hn : n ≤ 100000000) :
    Calls Tryz.prog 54 #[.int .i64 x, .pointer (some ⟨bx, 0, none⟩)] w (Ret (.bool (decide (¬ (1 ≤ x ∧ x < (n / 256 : Nat))))) w) := by
  refine calls_of_wp Tryz.func54 rfl ?_
  refine g_fr ⟨#[.int .i64 x, .pointer (some ⟨bx, 0, none⟩), undef, undef, undef, undef, undef, undef, undef, undef, undef, undef], []⟩ (by kernel_rfl) ?_
  refine wp_seq ?_
  refine wp_region_lit ?_
  refine g_pv 1 [(3, .bool false)] (by kernel_rfl) ?_
  refine wpList_nil ?_
  refine wp_seq ?_
  refine wp_region_lit ?_
  refine g_pv 3 [(4, .int .i64 x), (5, .bool (decide (x < (1 : Int)))), (6, .bool (decide (x < (1 : Int))))] (by kernel_rfl) ?_
  rcases Bool.eq_false_or_eq_true (decide (x < (1 : Int))) with hc1 | hc1
  · refine g_b [5, 6] _ _ hc1 (by kernel_rfl) ?_
    have hc1 := of_decide_eq_true hc1
    refine g_pv 6 [(7, undef), (8, undef), (9, undef), (10, undef), (11, .bool true), (3, .bool true)] (by kernel_rfl) ?_
    refine wpList_nil ?_
    refine wp_ret ?_
    exact g_ret (.bool true) (by kernel_rfl) (by kernel_rfl) ⟨by rw [show decide (¬ (1 ≤ x ∧ x < (n / 256 : Nat))) = true from decide_eq_true (by omega)], (Below.refl w.heap.size _)⟩
  · refine g_b [5, 6] _ _ hc1 (by kernel_rfl) ?_
    have hc1 := of_decide_eq_false hc1
    refine g_pv 1 [(7, .int .i64 x)] (by kernel_rfl) ?_
    refine g_op (by kernel_rfl) (op_load ⟨bx, 0, none⟩ (.pointer (some ⟨b, 0, none⟩)) rfl (by kernel_rfl) (by kernel_rfl) (kx.cell (i := 0) rfl) ?_)
    refine g_op (by kernel_rfl) (op_call (lb := #[]) 52 #[.pointer (some ⟨b, 0, none⟩)] rfl (by kernel_rfl) (fun _ _ => by kernel_rfl) (by kernel_rfl) ((image_Blocks b _ n c _ (hk.below (Below.refl w.heap.size _)) hn).mono ?_))
    rintro e W2 ⟨rfl, hb2⟩
    refine ⟨_, rfl, ?_⟩
    have hB := hb2
    replace kx := kx.below hb2
    refine g_pv 3 [(10, .bool (decide (x ≥ (↑(n / 256) : Int)))), (11, .bool (decide (x ≥ (↑(n / 256) : Int)))), (3, .bool (decide (x ≥ (↑(n / 256) : Int))))] (by kernel_rfl) ?_
    refine wpList_nil ?_
    refine wp_ret ?_
    exact g_ret (.bool (decide (x ≥ (↑(n / 256) : Int)))) (by kernel_rfl) (by kernel_rfl) ⟨by congr 1; congr 1; exact decide_eq_decide.2 ⟨fun h => by omega, fun h => by omega⟩, hB⟩
set_option maxRecDepth 100000 in
set_option maxHeartbeats 1000000 in
theorem indexBad (bx b : Nat) (p0 : Option Addr) (n c : Nat) (aL : Option Addr) (cL : Nat) (L : List Int) (w : World) (kx : Blk w bx [.pointer (some ⟨b, 0, none⟩)] 49) (hk : Blk w b [.slice p0 n c] 98) (hn : n ≤ 100000000) (h : Sl w (.slice aL L.length cL) L.length (L.map (Value.int .i64))) (hLn : L.length ≤ 1000000) :
    Calls Tryz.prog 81 #[.slice aL L.length cL, .func (.func 54) #[] #[.pointer (some ⟨bx, 0, none⟩)]] w (fun e w' => (goodB (n / 256) L = true ∧ e = .returned (.int .i64 (-1)) ∧ Below w.heap.size w w') ∨ (goodB (n / 256) L = false ∧ ∃ i : Nat, e = .returned (.int .i64 (i : Int)) ∧ Below w.heap.size w w')) := by
  refine calls_of_wp Tryz.func81 rfl ?_
  refine g_fr ⟨#[.slice aL L.length cL, .func (.func 54) #[] #[.pointer (some ⟨bx, 0, none⟩)], undef, undef, undef, undef, undef, undef, undef, undef, undef, undef, undef, undef, undef, undef, undef, undef, undef], []⟩ (by kernel_rfl) ?_
  refine wp_seq ?_
  refine wp_region_lit ?_
  refine g_pv 1 [(4, .int .i64 0)] (by kernel_rfl) ?_
  refine wpList_nil ?_
  refine wp_seq ?_
  refine wp_seq ?_
  refine wp_region_lit ?_
  refine g_pv 3 [(6, .slice aL L.length cL), (7, .int .i64 (↑L.length : Int)), (8, .int .i64 0)] (by kernel_rfl) ?_
  refine wpList_nil ?_
  refine wp_block ?_
  refine g_fr ⟨#[.slice aL L.length cL, .func (.func 54) #[] #[.pointer (some ⟨bx, 0, none⟩)], undef, undef, .int .i64 0, undef, .slice aL L.length cL, .int .i64 (↑L.length : Int), .int .i64 0, undef, undef, undef, undef, undef, undef, undef, undef, undef, undef], []⟩ (by kernel_rfl) ?_
  have hB := Below.refl w.heap.size w
  refine wp_loop (fun act V => ∃ (i : Nat) (x1 : Nat → Value), act = ⟨#[.slice aL L.length cL, .func (.func 54) #[] #[.pointer (some ⟨bx, 0, none⟩)], undef, undef, (x1 0), (x1 1), .slice aL L.length cL, .int .i64 (↑L.length : Int), .int .i64 (↑i : Int), (x1 2), (x1 3), (x1 4), (x1 5), (x1 6), (x1 7), (x1 8), (x1 9), (x1 10), (x1 11)], []⟩ ∧ Below w.heap.size w V ∧ i ≤ L.length ∧ (∀ j, j < i → 1 ≤ L.getD j 0 ∧ L.getD j 0 < ((n / 256 : Nat) : Int))) (fun act V => L.length - ((intOf (act.tmps.getD 8 undef))).toNat) ⟨0, (pk [.int .i64 0, undef, undef, undef, undef, undef, undef, undef, undef, undef, undef, undef]), rfl, hB, Nat.zero_le _, ?_⟩ ?_
  · exact fun j hj => absurd hj (by omega)
  rintro _ W1 ⟨i, x1, rfl, hB, hi, hz⟩
  refine wp_seq ?_
  refine wp_region_lit ?_
  refine g_pv 1 [(9, .bool (decide ((↑i : Int) < (↑L.length : Int))))] (by kernel_rfl) ?_
  refine wpList_nil ?_
  refine wp_seq ?_
  refine wp_cond_split (t := decide ((↑i : Int) < (↑L.length : Int))) (by kernel_rfl) (fun hc2 => ?_) (fun hc2 => ?_)
  · have hc2 := of_decide_eq_true hc2
    refine wp_skip ?_
    refine wp_seq ?_
    refine wp_block ?_
    refine wp_seq ?_
    refine wp_region_lit ?_
    refine g_pv 2 [(10, .int .i64 (↑i : Int)), (5, .int .i64 (↑i : Int))] (by kernel_rfl) ?_
    refine wpList_nil ?_
    refine wp_seq ?_
    refine wp_region_lit ?_
    refine g_pv 3 [(11, .func (.func 54) #[] #[.pointer (some ⟨bx, 0, none⟩)]), (12, .slice aL L.length cL), (13, .int .i64 (↑i : Int))] (by kernel_rfl) ?_
    refine g_op (by kernel_rfl) (op_val (run_indexA (size := 1) (k := i) (b := aL) (n := L.length) (c := cL) (i := (↑i : Int)) (ki := .i64) rfl (by kernel_rfl) (by kernel_rfl) rfl (by omega) (Ints.elem h (k := i) (by omega)).1 Tryz.underlying31 (by kernel_rfl) W1) ?_)
    refine g_op (by kernel_rfl) (op_load (elemAddr aL (i * 1)) (.int .i64 (L.getD i 0)) rfl (by kernel_rfl) (by kernel_rfl) (Ints.elem (h.below hB) (k := i) (by omega)).2 ?_)
    refine g_op (by kernel_rfl) (op_call (lb := #[.pointer (some ⟨bx, 0, none⟩)]) 54 #[.int .i64 (L.getD i 0), .pointer (some ⟨bx, 0, none⟩)] rfl (by kernel_rfl) (fun _ _ => by kernel_rfl) (by kernel_rfl) ((from_1 bx b p0 n c (L.getD i 0) _ (kx.below hB) (hk.below hB) hn).mono ?_))
    rintro e W3 ⟨rfl, hb3⟩
    refine ⟨_, rfl, ?_⟩
    replace hB := Bl.next hB hb3
    refine wpList_nil ?_
    refine wp_cond_split (t := decide (¬ (1 ≤ (L.getD i 0) ∧ (L.getD i 0) < (↑(n / 256) : Int)))) (by kernel_rfl) (fun hc4 => ?_) (fun hc4 => ?_)
    · have hc4 := of_decide_eq_true hc4
      refine wp_seq ?_
      refine wp_region_lit ?_
      refine g_pv 2 [(17, .int .i64 (↑i : Int)), (4, .int .i64 (↑i : Int))] (by kernel_rfl) ?_
      refine wpList_nil ?_
      refine wp_ret (inBlock_ret (then_ret (then_ret (inBlock_ret (then_ret ?_)))))
      exact g_ret (.int .i64 (↑i : Int)) (by kernel_rfl) (by kernel_rfl) (.inr ⟨goodB_false (j := i) (by omega) (by omega), _, rfl, hB⟩)
    · have hc4 := of_decide_eq_false hc4
      refine wp_skip ?_
      refine wp_region_lit ?_
      refine g_op (by kernel_rfl) (op_wrap .i64 ((↑i : Int) + 1) (↑(i + 1) : Int) (by kernel_rfl) ((show IntKind.i64.wrap ((↑i : Int) + 1) = ((↑i : Int) + 1) from by first | exact IntWalk.i64_in _ (by omega) | (simp only [IntKind.wrap]; omega)).trans (by omega)) ?_)
      refine g_pv 1 [(8, .int .i64 (↑(i + 1) : Int))] (by kernel_rfl) ?_
      refine wpList_nil ?_
      refine g_nfr ⟨#[.slice aL L.length cL, .func (.func 54) #[] #[.pointer (some ⟨bx, 0, none⟩)], undef, undef, (x1 0), .int .i64 (↑i : Int), .slice aL L.length cL, .int .i64 (↑L.length : Int), .int .i64 (↑(i + 1) : Int), .bool (decide ((↑i : Int) < (↑L.length : Int))), .int .i64 (↑i : Int), .func (.func 54) #[] #[.pointer (some ⟨bx, 0, none⟩)], .slice aL L.length cL, .int .i64 (↑i : Int), .pointer (some (elemAddr aL (i * 1))), .int .i64 (L.getD i 0), .bool (decide (¬ (1 ≤ (L.getD i 0) ∧ (L.getD i 0) < (↑(n / 256) : Int)))), (x1 10), .int .i64 (↑(i + 1) : Int)], []⟩ (by kernel_rfl) ?_
      refine ⟨⟨i + 1, (pk [(x1 0), .int .i64 (↑i : Int), .bool (decide ((↑i : Int) < (↑L.length : Int))), .int .i64 (↑i : Int), .func (.func 54) #[] #[.pointer (some ⟨bx, 0, none⟩)], .slice aL L.length cL, .int .i64 (↑i : Int), .pointer (some (elemAddr aL (i * 1))), .int .i64 (L.getD i 0), .bool (decide (¬ (1 ≤ (L.getD i 0) ∧ (L.getD i 0) < (↑(n / 256) : Int)))), (x1 10), .int .i64 (↑(i + 1) : Int)]), rfl, hB, by omega, fun j hj => (Nat.lt_or_ge j i).elim (hz j) (fun q => by obtain rfl : j = i := (by omega); omega)⟩, ?_⟩
      show L.length - ((↑(i + 1) : Int)).toNat < L.length - ((↑i : Int)).toNat
      omega
  · have hc2 := of_decide_eq_false hc2
    refine wp_exit ?_
    refine then_exit ?_
    refine then_exit ?_
    refine inBlock_hit ?_
    refine wp_seq ?_
    refine wp_region_lit ?_
    refine g_pv 1 [(4, .int .i64 (-1))] (by kernel_rfl) ?_
    refine wpList_nil ?_
    refine wp_ret ?_
    exact g_ret (.int .i64 (-1)) (by kernel_rfl) (by kernel_rfl) (.inl ⟨goodB_true (fun j hj => hz j (by omega)), rfl, hB⟩)
set_option maxRecDepth 100000 in
set_option maxHeartbeats 1000000 in
theorem containsBad (bx b : Nat) (p0 : Option Addr) (n c : Nat) (aL : Option Addr) (cL : Nat) (L : List Int) (w : World) (kx : Blk w bx [.pointer (some ⟨b, 0, none⟩)] 49) (hk : Blk w b [.slice p0 n c] 98) (hn : n ≤ 100000000) (h : Sl w (.slice aL L.length cL) L.length (L.map (Value.int .i64))) (hLn : L.length ≤ 1000000) :
    Calls Tryz.prog 53 #[.slice aL L.length cL, .func (.func 54) #[] #[.pointer (some ⟨bx, 0, none⟩)]] w (Ret (.bool (!goodB (n / 256) L)) w) := by
  refine calls_of_wp Tryz.func53 rfl ?_
  refine g_fr ⟨#[.slice aL L.length cL, .func (.func 54) #[] #[.pointer (some ⟨bx, 0, none⟩)], undef, undef, undef, undef, undef, undef, undef], []⟩ (by kernel_rfl) ?_
  refine wp_seq ?_
  refine wp_region_lit ?_
  refine g_pv 1 [(4, .bool false)] (by kernel_rfl) ?_
  refine wpList_nil ?_
  refine wp_seq ?_
  refine wp_region_lit ?_
  refine g_pv 2 [(5, .slice aL L.length cL), (6, .func (.func 54) #[] #[.pointer (some ⟨bx, 0, none⟩)])] (by kernel_rfl) ?_
  refine g_op (by kernel_rfl) (op_call (lb := #[]) 81 #[.slice aL L.length cL, .func (.func 54) #[] #[.pointer (some ⟨bx, 0, none⟩)]] rfl (by kernel_rfl) (fun _ _ => by kernel_rfl) (by kernel_rfl) ((indexBad bx b p0 n c aL cL L _ (kx.below (Below.refl w.heap.size _)) (hk.below (Below.refl w.heap.size _)) hn (h.below (Below.refl w.heap.size _)) hLn).mono ?_))
  rintro e W1 hq1
  rcases hq1 with ⟨hz, rfl, hb1⟩ | ⟨hz, i0, rfl, hb1⟩
  · refine ⟨_, rfl, ?_⟩
    have hB := hb1
    refine g_pv 2 [(8, .bool false), (4, .bool false)] (by kernel_rfl) ?_
    refine wpList_nil ?_
    refine wp_ret ?_
    refine g_ret (.bool false) (by kernel_rfl) (by kernel_rfl) ?_
    rw [hz]; exact ⟨rfl, hB⟩
  · refine ⟨_, rfl, ?_⟩
    have hB := hb1
    refine g_pv 2 [(8, .bool (decide ((↑i0 : Int) ≥ (0 : Int)))), (4, .bool (decide ((↑i0 : Int) ≥ (0 : Int))))] (by kernel_rfl) ?_
    refine wpList_nil ?_
    refine wp_ret ?_
    refine g_ret (.bool (decide ((↑i0 : Int) ≥ (0 : Int)))) (by kernel_rfl) (by kernel_rfl) ?_
    rw [hz, show decide ((↑i0 : Int) ≥ (0 : Int)) = true from decide_eq_true (by omega)]; exact ⟨rfl, hB⟩
set_option maxRecDepth 100000 in
set_option maxHeartbeats 1000000 in
theorem clone_ints (p : Addr) (N c : Nat) (xs : List Value) (w : World) (h : Sl w (.slice (some p) N c) N xs) (hl : xs.length = N) (h1 : ∀ u ∈ xs, u.oneCell' = true) (hn : N ≤ 1000000) :
    Calls Tryz.prog 55 #[.slice (some p) N c] w (RetS (fun w' r => ∃ q c2, r = .slice q N c2 ∧ w'.ownsRow w.heap.size 3 1 (.slice q N c2) N xs) w) := by
  refine calls_of_wp Tryz.func55 rfl ?_
  refine g_fr ⟨#[.slice (some p) N c, undef, undef, undef, undef, undef, undef, undef], []⟩ (by kernel_rfl) ?_
  refine wp_seq ?_
  refine wp_region_lit ?_
  refine g_pv 1 [(2, .slice none 0 0)] (by kernel_rfl) ?_
  refine wpList_nil ?_
  refine wp_seq ?_
  refine wp_seq ?_
  refine wp_region_lit ?_
  refine g_pv 2 [(3, .slice (some p) N c), (4, .bool false)] (by kernel_rfl) ?_
  refine wpList_nil ?_
  refine wp_cond_false (by kernel_rfl) ?_
  refine wp_skip ?_
  refine wp_seq ?_
  refine wp_region_lit ?_
  refine g_op (by kernel_rfl) (op_buildSlice0 rfl Tryz.underlying31 (by kernel_rfl) ?_)
  intro b1 W1 n1
  have g1 := n1.ge (Below.refl w.heap.size _)
  have hB := n1.below
  have k1 := n1.blk
  have o2 := own_of_blk (size := 1) (n := 0) k1 g1 rfl (by decide)
  refine g_pv 1 [(6, .slice (some p) N c)] (by kernel_rfl) ?_
  refine g_op (by kernel_rfl) (op_app (e := 3) (n := 0) (xs := []) (m := N) (news := xs) (.int .i64 0) 1 8 (N) (xs) rfl Tryz.underlying31 (by kernel_rfl) rfl (by decide) (by kernel_rfl) o2 (by kernel_rfl) (h.below hB) (by rw [hl, Nat.mul_one]) h1 (by unfold maxLen; omega) (by omega) hB.size (by omega) (by rfl) ?_)
  intro p3 c3 W3 o3 hg3 hb3
  replace hB := hB.trans hb3
  refine g_pv 1 [(2, .slice p3 N c3)] (by kernel_rfl) ?_
  refine wpList_nil ?_
  refine wp_ret ?_
  exact g_ret (.slice p3 N c3) (by kernel_rfl) (by kernel_rfl) ⟨_, rfl, hB, _, _, rfl, o3⟩
set_option maxRecDepth 100000 in
set_option maxHeartbeats 1000000 in
theorem clone_ints_nil (w : World) :
    Calls Tryz.prog 55 #[.slice none 0 0] w (Ret (.slice none 0 0) w) := by
  refine calls_of_wp Tryz.func55 rfl ?_
  refine g_fr ⟨#[.slice none 0 0, undef, undef, undef, undef, undef, undef, undef], []⟩ (by kernel_rfl) ?_
  refine wp_seq ?_
  refine wp_region_lit ?_
  refine g_pv 1 [(2, .slice none 0 0)] (by kernel_rfl) ?_
  refine wpList_nil ?_
  refine wp_seq ?_
  refine wp_seq ?_
  refine wp_region_lit ?_
  refine g_pv 2 [(3, .slice none 0 0), (4, .bool true)] (by kernel_rfl) ?_
  refine wpList_nil ?_
  refine wp_cond_true (by kernel_rfl) ?_
  refine wp_seq ?_
  refine wp_region_lit ?_
  refine g_pv 1 [(2, .slice none 0 0)] (by kernel_rfl) ?_
  refine wpList_nil ?_
  refine wp_ret (then_ret ?_)
  exact g_ret (.slice none 0 0) (by kernel_rfl) (by kernel_rfl) ⟨rfl, (Below.refl w.heap.size _)⟩
theorem clone_intsG (a : Option Addr) (N c : Nat) (xs : List Value) (w : World) (h : Sl w (.slice a N c) N xs) (hc : a = none → c = 0) (hl : xs.length = N) (h1 : ∀ u ∈ xs, u.oneCell' = true) (hn : N ≤ 1000000) :
    Calls Tryz.prog 55 #[.slice a N c] w (RetS (fun w' r => ∃ q c2, r = .slice q N c2 ∧ w'.ownsRow w.heap.size 3 1 (.slice q N c2) N xs) w) := by
  cases a with
  | some p => exact clone_ints p N c xs w h hl h1 hn
  | none =>
    have hN : N = 0 ∧ xs = [] := by
      rcases h with ⟨a', c', h2, h3, h4⟩ | ⟨b', off, cap, h2, _⟩
      · simp only [Value.slice.injEq] at h2; exact ⟨h2.2.1, h4⟩
      · cases h2
    obtain ⟨rfl, rfl⟩ := hN
    obtain rfl := hc rfl
    refine (clone_ints_nil w).mono ?_
    rintro e W ⟨rfl, hb⟩
    exact ⟨_, rfl, hb, none, 0, rfl, World.ownsRow_nil _ _ _ _⟩
def FromP (b : Nat) (K : Nat) (L : List Int) (w : World) (e : Ending) (w' : World) : Prop :=
  (fromE K L ≠ 0 ∧ e = .returned (.tuple #[.pointer none, .iface 40 (.int .i64 (fromE K L))]) ∧ Below w.heap.size w w') ∨
  (fromE K L = 0 ∧ ∃ ba pa ca, e = .returned (.tuple #[.pointer (some ⟨ba, 0, none⟩), .nilIface]) ∧ Below w.heap.size w w' ∧ AlG w.heap.size ba b pa L.length ca 0 L w')
set_option maxRecDepth 100000 in
set_option maxHeartbeats 4000000 in
theorem alloc_From (b : Nat) (p0 : Option Addr) (n c : Nat) (aL : Option Addr) (cL : Nat) (L : List Int) (w : World) (hk : Blk w b [.slice p0 n c] 98) (hn : n ≤ 100000000) (h : Sl w (.slice aL L.length cL) L.length (L.map (Value.int .i64))) (hac : aL = none → cL = 0) (hLn : L.length ≤ 1000000) :
    Calls Tryz.prog 23 #[.pointer (some ⟨b, 0, none⟩), .slice aL L.length cL] w (FromP b (n / 256) L w) := by
  refine calls_of_wp Tryz.func23 rfl ?_
  refine g_fr ⟨#[.pointer (some ⟨b, 0, none⟩), .slice aL L.length cL, undef, undef, undef, undef, undef, undef, undef, undef, undef, undef, undef, undef, undef, undef, undef, undef, undef, undef, undef, undef, undef, undef, undef, undef, undef, undef, undef, undef, undef, undef, undef, undef, undef, undef, undef, undef], []⟩ (by kernel_rfl) ?_
  refine wp_seq ?_
  refine wp_region_lit ?_
  refine g_op (by kernel_rfl) (op_box [.pointer (some ⟨b, 0, none⟩)] rfl (by kernel_rfl) ?_)
  intro b1 W1 n1
  have g1 := n1.ge (Below.refl w.heap.size _)
  have hB := n1.below
  have k1 := n1.blk
  refine g_pv 2 [(4, .pointer none), (5, .nilIface)] (by kernel_rfl) ?_
  refine wpList_nil ?_
  refine wp_seq ?_
  refine wp_seq ?_
  refine wp_region_lit ?_
  refine g_op (by kernel_rfl) (op_load ⟨b1, 0, none⟩ (.pointer (some ⟨b, 0, none⟩)) rfl (by kernel_rfl) (by kernel_rfl) (k1.cell (i := 0) rfl) ?_)
  refine g_pv 4 [(8, .bool false), (9, .bool false), (10, .slice aL L.length cL), (11, .func (.func 54) #[] #[.pointer (some ⟨b1, 0, none⟩)])] (by kernel_rfl) ?_
  refine g_op (by kernel_rfl) (op_call (lb := #[]) 53 #[.slice aL L.length cL, .func (.func 54) #[] #[.pointer (some ⟨b1, 0, none⟩)]] rfl (by kernel_rfl) (fun _ _ => by kernel_rfl) (by kernel_rfl) ((containsBad b1 b p0 n c aL cL L _ k1 (hk.below hB) hn (h.below hB) hLn).mono ?_))
  rintro e W2 ⟨rfl, hb2⟩
  refine ⟨_, rfl, ?_⟩
  replace hB := Bl.next hB hb2
  replace k1 := k1.below hb2
  refine g_pv 1 [(13, .bool (!goodB (n / 256) L))] (by kernel_rfl) ?_
  refine wpList_nil ?_
  refine wp_cond_split (t := (!goodB (n / 256) L)) (by kernel_rfl) (fun hc3 => ?_) (fun hc3 => ?_)
  · have hgd : goodB (n / 256) L = false := by simpa using hc3
    refine wp_seq ?_
    refine wp_region_lit ?_
    refine g_pv 3 [(14, .iface 40 (.int .i64 1)), (4, .pointer none), (5, .iface 40 (.int .i64 1))] (by kernel_rfl) ?_
    refine wpList_nil ?_
    refine wp_ret (then_ret ?_)
    refine g_ret (.tuple #[.pointer none, .iface 40 (.int .i64 1)]) (by kernel_rfl) (by kernel_rfl) ?_
    have he : fromE (n / 256) L = 1 := by unfold fromE; rw [hgd]; rfl
    exact .inl ⟨by rw [he]; decide, by rw [he], hB⟩
  · have hgd : goodB (n / 256) L = true := by simpa using hc3
    refine wp_skip ?_
    refine wp_seq ?_
    refine wp_seq ?_
    refine wp_region_lit ?_
    refine g_pv 1 [(6, .int .i64 1)] (by kernel_rfl) ?_
    refine wpList_nil ?_
    refine wp_block ?_
    refine g_fr ⟨#[.pointer (some ⟨b, 0, none⟩), .slice aL L.length cL, .pointer (some ⟨b1, 0, none⟩), undef, .pointer none, .nilIface, .int .i64 1, .pointer (some ⟨b, 0, none⟩), .bool false, .bool false, .slice aL L.length cL, .func (.func 54) #[] #[.pointer (some ⟨b1, 0, none⟩)], .bool (!goodB (n / 256) L), .bool (!goodB (n / 256) L), undef, undef, undef, undef, undef, undef, undef, undef, undef, undef, undef, undef, undef, undef, undef, undef, undef, undef, undef, undef, undef, undef, undef, undef], []⟩ (by kernel_rfl) ?_
    refine wp_loop (fun act V => ∃ (j : Nat) (x4 : Nat → Value), act = ⟨#[.pointer (some ⟨b, 0, none⟩), .slice aL L.length cL, .pointer (some ⟨b1, 0, none⟩), undef, (x4 0), (x4 1), .int .i64 (↑j : Int), .pointer (some ⟨b, 0, none⟩), .bool false, .bool false, .slice aL L.length cL, .func (.func 54) #[] #[.pointer (some ⟨b1, 0, none⟩)], .bool (!goodB (n / 256) L), .bool (!goodB (n / 256) L), undef, (x4 2), (x4 3), (x4 4), (x4 5), (x4 6), (x4 7), (x4 8), (x4 9), (x4 10), (x4 11), (x4 12), (x4 13), (x4 14), (x4 15), (x4 16), (x4 17), (x4 18), undef, undef, undef, undef, undef, undef], []⟩ ∧ Below w.heap.size w V ∧ Blk V b1 ([.pointer (some ⟨b, 0, none⟩)]) 49 ∧ 1 ≤ j ∧ j ≤ max 1 L.length ∧ (∀ i, i + 1 < j → L.getD i 0 < L.getD (i + 1) 0)) (fun act V => L.length - ((intOf (act.tmps.getD 6 undef))).toNat) ⟨1, (pk [.pointer none, .nilIface, undef, undef, undef, undef, undef, undef, undef, undef, undef, undef, undef, undef, undef, undef, undef, undef, undef]), rfl, hB, k1, Nat.le_refl _, by omega, ?_⟩ ?_
    · exact fun i hi => absurd hi (by omega)
    rintro _ W4 ⟨j, x4, rfl, hB, k4_b1, hj0, hj, hz⟩
    refine wp_seq ?_
    refine wp_seq ?_
    refine wp_region_lit ?_
    refine g_pv 4 [(15, .int .i64 (↑j : Int)), (16, .slice aL L.length cL), (17, .int .i64 (↑L.length : Int)), (18, .bool (decide ((↑j : Int) < (↑L.length : Int))))] (by kernel_rfl) ?_
    refine wpList_nil ?_
    refine wp_cond_split (t := decide ((↑j : Int) < (↑L.length : Int))) (by kernel_rfl) (fun hc5 => ?_) (fun hc5 => ?_)
    · have hc5 := of_decide_eq_true hc5
      refine wp_skip ?_
      refine wp_seq ?_
      refine wp_block ?_
      refine wp_seq ?_
      replace hB := Bl.next hB (below_drew W4)
      replace k4_b1 := k4_b1.below (below_drew W4)
      refine h_reg (Below (W4.drew).heap.size (W4.drew)) 10 rfl #[false, false, false, false, false, false, false, false, false, false] rfl (by kernel_rfl) (Below.refl _ _) ?_
      intro hS6
      have hBd8 := hB
      have kd8_b1 := k4_b1
      refine h_pv [0, 1] 8 rfl #[true, true, false, false, false, false, false, false, false, false] [(21, .slice aL L.length cL), (22, .int .i64 (↑j : Int))] (by kernel_rfl) (fun _ _ _ _ _ h => h) (by kernel_rfl) hS6 ?_
      refine h_val 2 7 rfl (.int .i64 (↑(j - 1) : Int)) rfl (by kernel_rfl) (by kernel_rfl) (by kernel_rfl) (fun _ _ _ _ _ h => h) (by kernel_rfl) (fun V hV => run_wrap .i64 ((↑j : Int) - 1) (↑(j - 1) : Int) (by kernel_rfl) ((show IntKind.i64.wrap ((↑j : Int) - 1) = ((↑j : Int) - 1) from by first | exact IntWalk.i64_in _ (by omega) | (simp only [IntKind.wrap]; omega)).trans (by omega)) V) hS6 ?_
      refine h_val 3 6 rfl (.pointer (some (elemAddr aL ((j - 1) * 1)))) rfl (by kernel_rfl) (by kernel_rfl) (by kernel_rfl) (fun _ _ _ _ _ h => h) (by kernel_rfl) (fun V hV => run_indexA (size := 1) (k := (j - 1)) (b := aL) (n := L.length) (c := cL) (i := (↑(j - 1) : Int)) (ki := .i64) rfl (by kernel_rfl) (by kernel_rfl) rfl (by omega) (Ints.elem h (k := (j - 1)) (by omega)).1 Tryz.underlying31 (by kernel_rfl) V) hS6 ?_
      refine h_load 4 5 rfl (elemAddr aL ((j - 1) * 1)) (.int .i64 (L.getD (j - 1) 0)) rfl (by kernel_rfl) (by kernel_rfl) (by kernel_rfl) (fun _ _ _ _ _ h => h) (by kernel_rfl) rfl (by kernel_rfl) (by kernel_rfl) (fun V hV => (Ints.elem ((h.below hBd8).below hV) (k := (j - 1)) (by omega)).2) hS6 ?_
      refine h_pv [5, 6] 3 rfl #[true, true, true, true, true, true, true, false, false, false] [(26, .slice aL L.length cL), (27, .int .i64 (↑j : Int))] (by kernel_rfl) (fun _ _ _ _ _ h => h) (by kernel_rfl) hS6 ?_
      refine h_val 7 2 rfl (.pointer (some (elemAddr aL (j * 1)))) rfl (by kernel_rfl) (by kernel_rfl) (by kernel_rfl) (fun _ _ _ _ _ h => h) (by kernel_rfl) (fun V hV => run_indexA (size := 1) (k := j) (b := aL) (n := L.length) (c := cL) (i := (↑j : Int)) (ki := .i64) rfl (by kernel_rfl) (by kernel_rfl) rfl (by omega) (Ints.elem h (k := j) (by omega)).1 Tryz.underlying31 (by kernel_rfl) V) hS6 ?_
      refine h_load 8 1 rfl (elemAddr aL (j * 1)) (.int .i64 (L.getD j 0)) rfl (by kernel_rfl) (by kernel_rfl) (by kernel_rfl) (fun _ _ _ _ _ h => h) (by kernel_rfl) rfl (by kernel_rfl) (by kernel_rfl) (fun V hV => (Ints.elem ((h.below hBd8).below hV) (k := j) (by omega)).2) hS6 ?_
      refine h_pv [9] 0 rfl #[true, true, true, true, true, true, true, true, true, true] [(30, .bool (decide ((L.getD (j - 1) 0) ≥ (L.getD j 0))))] (by kernel_rfl) (fun _ _ _ _ _ h => h) (by kernel_rfl) hS6 ?_
      refine h_done _ (by kernel_rfl) ?_
      refine wp_cond_split (t := decide ((L.getD (j - 1) 0) ≥ (L.getD j 0))) (by kernel_rfl) (fun hc9 => ?_) (fun hc9 => ?_)
      · have hc9 := of_decide_eq_true hc9
        refine wp_seq ?_
        refine wp_region_lit ?_
        refine g_pv 3 [(31, .iface 40 (.int .i64 8)), (4, .pointer none), (5, .iface 40 (.int .i64 8))] (by kernel_rfl) ?_
        refine wpList_nil ?_
        refine wp_ret (inBlock_ret (then_ret (then_ret (inBlock_ret (then_ret ?_)))))
        refine g_ret (.tuple #[.pointer none, .iface 40 (.int .i64 8)]) (by kernel_rfl) (by kernel_rfl) ?_
        have he : fromE (n / 256) L = 8 := by unfold fromE; rw [if_pos hgd, riseB_false (j := j - 1) (by omega) (by rw [show j - 1 + 1 = j by omega]; omega)]; rfl
        exact .inl ⟨by rw [he]; decide, by rw [he], hB⟩
      · have hc9 := of_decide_eq_false hc9
        refine wp_skip ?_
        refine wp_region_lit ?_
        refine g_pv 1 [(19, .int .i64 (↑j : Int))] (by kernel_rfl) ?_
        refine g_op (by kernel_rfl) (op_wrap .i64 ((↑j : Int) + 1) (↑(j + 1) : Int) (by kernel_rfl) ((show IntKind.i64.wrap ((↑j : Int) + 1) = ((↑j : Int) + 1) from by first | exact IntWalk.i64_in _ (by omega) | (simp only [IntKind.wrap]; omega)).trans (by omega)) ?_)
        refine g_pv 1 [(6, .int .i64 (↑(j + 1) : Int))] (by kernel_rfl) ?_
        refine wpList_nil ?_
        refine g_nfr ⟨#[.pointer (some ⟨b, 0, none⟩), .slice aL L.length cL, .pointer (some ⟨b1, 0, none⟩), undef, (x4 0), (x4 1), .int .i64 (↑(j + 1) : Int), .pointer (some ⟨b, 0, none⟩), .bool false, .bool false, .slice aL L.length cL, .func (.func 54) #[] #[.pointer (some ⟨b1, 0, none⟩)], .bool (!goodB (n / 256) L), .bool (!goodB (n / 256) L), undef, .int .i64 (↑j : Int), .slice aL L.length cL, .int .i64 (↑L.length : Int), .bool (decide ((↑j : Int) < (↑L.length : Int))), .int .i64 (↑j : Int), .int .i64 (↑(j + 1) : Int), .slice aL L.length cL, .int .i64 (↑j : Int), .int .i64 (↑(j - 1) : Int), .pointer (some (elemAddr aL ((j - 1) * 1))), .int .i64 (L.getD (j - 1) 0), .slice aL L.length cL, .int .i64 (↑j : Int), .pointer (some (elemAddr aL (j * 1))), .int .i64 (L.getD j 0), .bool (decide ((L.getD (j - 1) 0) ≥ (L.getD j 0))), (x4 18), undef, undef, undef, undef, undef, undef], []⟩ (by kernel_rfl) ?_
        refine ⟨⟨j + 1, (pk [(x4 0), (x4 1), .int .i64 (↑j : Int), .slice aL L.length cL, .int .i64 (↑L.length : Int), .bool (decide ((↑j : Int) < (↑L.length : Int))), .int .i64 (↑j : Int), .int .i64 (↑(j + 1) : Int), .slice aL L.length cL, .int .i64 (↑j : Int), .int .i64 (↑(j - 1) : Int), .pointer (some (elemAddr aL ((j - 1) * 1))), .int .i64 (L.getD (j - 1) 0), .slice aL L.length cL, .int .i64 (↑j : Int), .pointer (some (elemAddr aL (j * 1))), .int .i64 (L.getD j 0), .bool (decide ((L.getD (j - 1) 0) ≥ (L.getD j 0))), (x4 18)]), rfl, hB, k4_b1, by omega, by omega, fun i hi => (Nat.lt_or_ge (i + 1) j).elim (hz i) (fun q => by obtain rfl : j = i + 1 := (by omega); rw [Nat.add_sub_cancel] at *; omega)⟩, ?_⟩
        show L.length - ((↑(j + 1) : Int)).toNat < L.length - ((↑j : Int)).toNat
        omega
    · have hc5 := of_decide_eq_false hc5
      refine wp_exit ?_
      refine then_exit ?_
      refine then_exit ?_
      refine inBlock_hit ?_
      refine wp_seq ?_
      replace hB := Bl.next hB (below_drew W4)
      replace k4_b1 := k4_b1.below (below_drew W4)
      refine h_reg (Below (W4.drew).heap.size (W4.drew)) 8 rfl #[false, false, false, false, false, false, false, false] rfl (by kernel_rfl) (Below.refl _ _) ?_
      intro hS10
      have hBd12 := hB
      have kd12_b1 := k4_b1
      refine h_pv [0] 7 rfl #[true, false, false, false, false, false, false, false] [(32, .slice aL L.length cL)] (by kernel_rfl) (fun _ _ _ _ _ h => h) (by kernel_rfl) hS10 ?_
      refine h_load 3 6 rfl ⟨b1, 0, none⟩ (.pointer (some ⟨b, 0, none⟩)) rfl (by kernel_rfl) (by kernel_rfl) (by kernel_rfl) (fun _ _ _ _ _ h => h) (by kernel_rfl) rfl (by kernel_rfl) (by kernel_rfl) (fun V hV => ((k4_b1.below hV).cell (i := 0) rfl)) hS10 ?_
      have hs13 : w.heap.size ≤ (W4.drew).heap.size := hB.size
      refine h_one 1 5 rfl (by kernel_rfl) rfl (by kernel_rfl) (op_call (lb := #[]) 55 #[.slice aL L.length cL] rfl (by kernel_rfl) (fun _ _ => by kernel_rfl) (by kernel_rfl) ((clone_intsG aL L.length cL (L.map (Value.int .i64)) _ (h.below hB) hac (by simp) (ints_one L) hLn).mono ?_))
      rintro e W13 ⟨_, rfl, hb13, pq, cq, rfl, hq⟩
      refine ⟨_, rfl, ?_⟩
      replace hB := Bl.next hB hb13
      replace k4_b1 := k4_b1.below hb13
      replace hq := own_mono hq hs13
      have hS14 : Below (W4.drew).heap.size (W4.drew) (W13) := Bl.next hS10 hb13
      refine ⟨hS14, ?_⟩
      refine h_str (Below (W13).heap.size (W13)) (fun V hV => Bl.next hS14 hV) ?_
      have hS15 : Below (W13).heap.size (W13) (W13) := Below.refl _ _
      refine h_pv [2, 4] 3 rfl #[true, true, true, true, true, false, false, false] [(34, .agg #[.slice pq L.length cq, .int .i64 0]), (36, .agg #[.slice pq L.length cq, .int .i64 0, .pointer (some ⟨b, 0, none⟩)])] (by kernel_rfl) (fun _ _ _ _ _ h => h) (by kernel_rfl) hS15 ?_
      refine h_one 5 2 rfl (by kernel_rfl) rfl (by kernel_rfl) (op_box [.slice pq L.length cq, .int .i64 0, .pointer (some ⟨b, 0, none⟩)] rfl (by kernel_rfl) ?_)
      intro b16 W16 n16
      have d16_b1 := n16.ne k4_b1
      have g16 := n16.ge hB
      have gd_b16 : (W13).heap.size ≤ b16 := by have := hS15.size; have := n16.at_; omega
      replace hB := Bl.next hB n16.below
      replace k4_b1 := k4_b1.below n16.below
      replace hq := own_below hq n16.below
      have k16 := n16.blk
      have hS17 : Below (W13).heap.size (W13) (W16) := Bl.next hS15 n16.below
      refine ⟨hS17, ?_⟩
      refine h_str (Below (W16).heap.size (W16)) (fun V hV => Bl.next hS17 hV) ?_
      have hS18 : Below (W16).heap.size (W16) (W16) := Below.refl _ _
      refine h_pv [6, 7] 0 rfl #[true, true, true, true, true, true, true, true] [(4, .pointer (some ⟨b16, 0, none⟩)), (5, .nilIface)] (by kernel_rfl) (fun _ _ _ _ _ h => h) (by kernel_rfl) hS18 ?_
      refine h_done _ (by kernel_rfl) ?_
      refine wp_ret ?_
      exact g_ret (.tuple #[.pointer (some ⟨b16, 0, none⟩), .nilIface]) (by kernel_rfl) (by kernel_rfl) (.inr ⟨by unfold fromE; rw [if_pos hgd, if_pos (riseB_true fun i hi => hz i (by omega))], _, _, _, rfl, hB, k16, hq, rfl, g16, hLn, Nat.zero_le _⟩)
end Go.Proofs.YtbopakjiahojdaaGreatDoor

