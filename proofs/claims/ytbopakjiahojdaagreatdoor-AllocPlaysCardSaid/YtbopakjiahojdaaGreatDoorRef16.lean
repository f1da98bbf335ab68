/- The document's answer for layer 16: From, New, Take, Lay, Ahead; Same of two lists. -/
import Derived.Test.YtbopakjiahojdaaGreatDoorAllocG2
namespace Go.Proofs.YtbopakjiahojdaaGreatDoor
open Go.RowKit Go.Extern.Stop Go.Stop Go.Extern
set_option linter.unusedVariables false
attribute [local irreducible] wpList wpAnyH Code.wp Oper.wp

structure RAl (B bc bm : Nat) (pg : Option Addr) (N cg : Nat) (fa : Option Addr) (m fc k : Nat) (L : List Int) (w : World) : Prop where
  blk : Blk w bc [.pointer (some ⟨bm, 0, none⟩), .slice fa m fc, .int .i64 (k : Int)] 48
  nums : w.ownsRow B 3 1 (.slice pg N cg) N (L.map (Value.int .i64))
  hfree : 0 < m → fa = cutA pg k cg 1 ∧ fc = cg - k
  hm : m + k = N
  hL : L.length = N
  hB : B ≤ bc
  hN : N ≤ 1000000
theorem RAl.below {B bc bm : Nat} {pg : Option Addr} {N cg : Nat} {fa : Option Addr} {m fc k : Nat} {L : List Int} {w W : World} (h : RAl B bc bm pg N cg fa m fc k L w) (hb : Below w.heap.size w W) : RAl B bc bm pg N cg fa m fc k L W := ⟨h.blk.below hb, own_below h.nums hb, h.hfree, h.hm, h.hL, h.hB, h.hN⟩
theorem RAl.only {B bc bm : Nat} {pg : Option Addr} {N cg : Nat} {fa : Option Addr} {m fc k : Nat} {L : List Int} {w W : World} {T : List TypeId} (h : RAl B bc bm pg N cg fa m fc k L w) (hO : Only T w W) (hT : T.contains 48 = false ∧ T.contains 3 = false) : RAl B bc bm pg N cg fa m fc k L W := ⟨h.blk.only hO hT.1, own_only h.nums hO hT.2, h.hfree, h.hm, h.hL, h.hB, h.hN⟩
theorem RAl.mono {B B' bc bm : Nat} {pg : Option Addr} {N cg : Nat} {fa : Option Addr} {m fc k : Nat} {L : List Int} {w : World} (h : RAl B bc bm pg N cg fa m fc k L w) (hB : B' ≤ B) : RAl B' bc bm pg N cg fa m fc k L w := ⟨h.blk, own_mono h.nums hB, h.hfree, h.hm, h.hL, Nat.le_trans hB h.hB, h.hN⟩
theorem free_sl {w : World} {pg : Option Addr} {N cg : Nat} {fa : Option Addr} {m fc k : Nat} {L : List Int} (h : Sl w (.slice pg N cg) N (L.map (Value.int .i64))) (hf : 0 < m → fa = cutA pg k cg 1 ∧ fc = cg - k) (hm : m + k = N) (hL : L.length = N) : Sl w (.slice fa m fc) m ((L.drop k).map (Value.int .i64)) := by
  rcases Nat.eq_zero_or_pos m with rfl | hp
  · rw [List.drop_eq_nil_of_le (by omega)]; exact .inl ⟨fa, fc, rfl, rfl, rfl⟩
  · obtain ⟨rfl, rfl⟩ := hf hp
    have := sl_cut h (by simpa using hL) k (by omega)
    rw [show N - k = m by omega, ← List.map_drop] at this
    exact this
theorem free_elem {w : World} {fa : Option Addr} {m fc k : Nat} {L : List Int} (h : Sl w (.slice fa m fc) m ((L.drop k).map (Value.int .i64))) (hL : L.length = m + k) {i : Nat} (hi : i < m) : fa.isSome = true ∧ w.cell? (elemAddr fa (i * 1)) = some (.int .i64 (L.getD (k + i) 0)) := by
  have := IntsN.elem h (by simp; omega) hi
  rwa [show (L.drop k).getD i 0 = L.getD (k + i) 0 by simp [List.getD, List.getElem?_drop]] at this
theorem cutA_zero (g c : Nat) : cutA (some ⟨g, 0, none⟩) 0 c 1 = some ⟨g, 0, none⟩ := by
  unfold cutA; split
  · rfl
  · simp [Addr.add]
theorem cutA_step {w : World} {B N cg k : Nat} {pg : Option Addr} {xs : List Value} {e size : Nat} (h : w.ownsRow B e size (.slice pg N cg) N xs) (hk : k + 1 < N) : cutA (cutA pg k cg 1) 1 (cg - k) 1 = cutA pg (k + 1) cg 1 ∧ cg - k - 1 = cg - (k + 1) := by
  have hc := own_cap h (by omega)
  obtain ⟨g, rfl, _⟩ := own_someN h (by omega)
  refine ⟨?_, by omega⟩
  unfold cutA
  rw [if_neg (by omega), if_neg (by omega), if_neg (by omega)]
  by_cases h0 : k = 0
  · subst h0; simp [Addr.add]
  · simp [Addr.add, h0]
set_option maxRecDepth 100000 in
set_option maxHeartbeats 1000000 in
theorem ref_Take_none (B bc bm : Nat) (pg : Option Addr) (N cg : Nat) (fa : Option Addr) (m fc k : Nat) (L : List Int) (w : World) (hA : RAl B bc bm pg N cg fa m fc k L w) (hBw : B ≤ w.heap.size) (h0 : m = 0) :
    Calls Tryz.prog 26 #[.pointer (some ⟨bc, 0, none⟩)] w (Ret (.tuple #[.int .i64 0, .agg #[.slice none 0 0, .int .i64 14]]) w) := by
  have hk := hA.blk
  have hr := hA.nums
  have hm := hA.hm
  have hL := hA.hL
  have hN := hA.hN
  refine calls_of_wp Tryz.func26 rfl ?_
  refine g_fr ⟨#[.pointer (some ⟨bc, 0, none⟩), undef, undef, undef, undef, undef, undef, undef, undef, undef, undef, undef, undef, undef, undef, undef, undef, undef, undef, undef, undef, undef, undef, undef, undef, undef, undef, undef, undef, undef, undef, undef, undef, undef, undef], []⟩ (by kernel_rfl) ?_
  refine wp_seq ?_
  refine wp_region_lit ?_
  refine g_pv 1 [(2, .int .i64 0)] (by kernel_rfl) ?_
  refine g_op (by kernel_rfl) (op_alloc [.slice none 0 0, .int .i64 0] rfl (by kernel_rfl) ?_)
  intro b1 W1 n1
  have d1_bc := n1.ne hk
  have g1 := n1.ge (Below.refl w.heap.size _)
  have hB := n1.below
  replace hk := hk.below n1.below
  have k1 := n1.blk
  refine wpList_nil ?_
  refine wp_seq ?_
  refine wp_seq ?_
  refine wp_region_lit ?_
  refine g_pv 3 [(5, .pointer (some ⟨bc, 0, none⟩)), (6, .pointer (some ⟨bc, 0, none⟩)), (7, .pointer (some ⟨bc, 1, none⟩))] (by kernel_rfl) ?_
  refine g_op (by kernel_rfl) (op_load ⟨bc, 1, none⟩ (.slice fa m fc) rfl (by kernel_rfl) (by kernel_rfl) (hk.cell (i := 1) rfl) ?_)
  refine g_pv 2 [(9, .int .i64 (↑m : Int)), (10, .bool ((↑m : Int) == (0 : Int)))] (by kernel_rfl) ?_
  refine wpList_nil ?_
  refine wp_cond_split (t := ((↑m : Int) == (0 : Int))) (by kernel_rfl) (fun _ => ?_) (fun hh => absurd (hh.symm.trans (show (((↑m : Int) == (0 : Int)) : Bool) = true from by subst h0; rfl)) (by decide))
  refine wp_seq ?_
  refine wp_region_lit ?_
  refine g_pv 2 [(11, .agg #[.slice none 0 0, .int .i64 14]), (2, .int .i64 0)] (by kernel_rfl) ?_
  refine g_op (by kernel_rfl) (op_storev (b := b1) (off := 0) [.slice none 0 0, .int .i64 14] rfl (by kernel_rfl) (by kernel_rfl) (by kernel_rfl) (by first | decide | simp [Value.oneCell']) k1 (by first | decide | simp) ?_)
  intro W3 u3 k3
  change Blk _ _ [.slice none 0 0, .int .i64 14] _ at k3
  replace hB := u3.below hB g1
  replace hk := u3.blk hk (Ne.symm (Ne.symm d1_bc))
  refine wpList_nil ?_
  refine wp_ret (then_ret ?_)
  exact g_ret (.tuple #[.int .i64 0, .agg #[.slice none 0 0, .int .i64 14]]) (by kernel_rfl) (res_tc (d := _) (cs := [.slice none 0 0, .int .i64 14]) rfl (by kernel_rfl) (by kernel_rfl) k3.whole Tryz.underlying33 rfl (by kernel_rfl)) ⟨rfl, hB⟩
def Took16 (B bc bm : Nat) (pg : Option Addr) (N cg k : Nat) (L : List Int) (v : Value) (w : World) (e : Ending) (w' : World) : Prop :=
  ∃ fa m fc, e = .returned v ∧ Below B w w' ∧ Only [48] w w' ∧ RAl B bc bm pg N cg fa m fc k L w'
set_option maxRecDepth 100000 in
set_option maxHeartbeats 2000000 in
theorem ref_Take_some (B bc bm : Nat) (pg : Option Addr) (N cg : Nat) (fa : Option Addr) (m fc k : Nat) (L : List Int) (w : World) (hA : RAl B bc bm pg N cg fa m fc k L w) (hBw : B ≤ w.heap.size) (h0 : 0 < m) :
    Calls Tryz.prog 26 #[.pointer (some ⟨bc, 0, none⟩)] w (Took16 B bc bm pg N cg (k + 1) L (.tuple #[.int .i64 (L.getD (k + 0) 0), .agg #[.slice none 0 0, .int .i64 0]]) w) := by
  have hk := hA.blk
  have hr := hA.nums
  have hm := hA.hm
  have hL := hA.hL
  have hN := hA.hN
  refine calls_of_wp Tryz.func26 rfl ?_
  refine g_fr ⟨#[.pointer (some ⟨bc, 0, none⟩), undef, undef, undef, undef, undef, undef, undef, undef, undef, undef, undef, undef, undef, undef, undef, undef, undef, undef, undef, undef, undef, undef, undef, undef, undef, undef, undef, undef, undef, undef, undef, undef, undef, undef], []⟩ (by kernel_rfl) ?_
  refine wp_seq ?_
  refine wp_region_lit ?_
  refine g_pv 1 [(2, .int .i64 0)] (by kernel_rfl) ?_
  refine g_op (by kernel_rfl) (op_alloc [.slice none 0 0, .int .i64 0] rfl (by kernel_rfl) ?_)
  intro b1 W1 n1
  have d1_bc := n1.ne hk
  have g1 := n1.ge0 (Below.refl B _)
  have hO : Only [48] w _ := (Only.of_below n1.below)
  have hB := Bl.nextB (Below.refl B w) hBw n1.below
  replace hk := hk.below n1.below
  replace hr := own_below hr n1.below
  have k1 := n1.blk
  refine wpList_nil ?_
  refine wp_seq ?_
  refine wp_seq ?_
  refine wp_region_lit ?_
  refine g_pv 3 [(5, .pointer (some ⟨bc, 0, none⟩)), (6, .pointer (some ⟨bc, 0, none⟩)), (7, .pointer (some ⟨bc, 1, none⟩))] (by kernel_rfl) ?_
  refine g_op (by kernel_rfl) (op_load ⟨bc, 1, none⟩ (.slice fa m fc) rfl (by kernel_rfl) (by kernel_rfl) (hk.cell (i := 1) rfl) ?_)
  refine g_pv 2 [(9, .int .i64 (↑m : Int)), (10, .bool ((↑m : Int) == (0 : Int)))] (by kernel_rfl) ?_
  refine wpList_nil ?_
  refine wp_cond_split (t := ((↑m : Int) == (0 : Int))) (by kernel_rfl) (fun hh => absurd (hh.symm.trans (show (((↑m : Int) == (0 : Int)) : Bool) = false from by simp; omega)) (by decide)) (fun _ => ?_)
  refine wp_skip ?_
  refine wp_seq ?_
  refine wp_region_lit ?_
  refine g_pv 3 [(12, .pointer (some ⟨bc, 0, none⟩)), (13, .pointer (some ⟨bc, 0, none⟩)), (14, .pointer (some ⟨bc, 1, none⟩))] (by kernel_rfl) ?_
  refine g_op (by kernel_rfl) (op_load ⟨bc, 1, none⟩ (.slice fa m fc) rfl (by kernel_rfl) (by kernel_rfl) (hk.cell (i := 1) rfl) ?_)
  refine g_op (by kernel_rfl) (op_val (run_indexA (size := 1) (k := 0) (b := fa) (n := m) (c := fc) (i := 0) (ki := .i64) rfl (by kernel_rfl) (by kernel_rfl) rfl (by omega) (free_elem (free_sl (own_sl hr) hA.hfree hm hL) (by omega) (i := 0) (by omega)).1 Tryz.underlying31 (by kernel_rfl) W1) ?_)
  refine g_op (by kernel_rfl) (op_load (elemAddr fa (0 * 1)) (.int .i64 (L.getD (k + 0) 0)) rfl (by kernel_rfl) (by kernel_rfl) (free_elem (free_sl (own_sl hr) hA.hfree hm hL) (by omega) (i := 0) (by omega)).2 ?_)
  refine g_pv 1 [(4, .int .i64 (L.getD (k + 0) 0))] (by kernel_rfl) ?_
  refine wpList_nil ?_
  refine wp_seq ?_
  refine wp_region_lit ?_
  refine g_pv 4 [(18, .pointer (some ⟨bc, 0, none⟩)), (19, .pointer (some ⟨bc, 0, none⟩)), (20, .pointer (some ⟨bc, 0, none⟩)), (21, .pointer (some ⟨bc, 1, none⟩))] (by kernel_rfl) ?_
  refine g_op (by kernel_rfl) (op_load ⟨bc, 1, none⟩ (.slice fa m fc) rfl (by kernel_rfl) (by kernel_rfl) (hk.cell (i := 1) rfl) ?_)
  refine g_op (by kernel_rfl) (op_val (run_sliceLA (k := 1) (b := fa) (n := m) (c := fc) (i := 1) (ki := .i64) 1 rfl (by kernel_rfl) (by kernel_rfl) rfl (by omega) Tryz.underlying31 (by kernel_rfl) _) ?_)
  refine g_pv 2 [(24, .pointer (some ⟨bc, 0, none⟩)), (25, .pointer (some ⟨bc, 1, none⟩))] (by kernel_rfl) ?_
  refine g_op (by kernel_rfl) (op_store (v := .slice (cutA fa 1 fc 1) (m - 1) (fc - 1)) (b := bc) (off := 1) rfl (by kernel_rfl) (by kernel_rfl) (by kernel_rfl) rfl hk (by first | decide | simp) ?_)
  intro W3 u3 k3
  change Blk _ _ [.pointer (some ⟨bm, 0, none⟩), .slice (cutA fa 1 fc 1) (m - 1) (fc - 1), .int .i64 (↑k : Int)] _ at k3
  replace hO := hO.trans (Only.of_upd u3 hk (by decide))
  replace hB := u3.below hB hA.hB
  replace k1 := u3.blk k1 (Ne.symm d1_bc)
  replace hr := u3.own2 hr hk (by decide)
  refine wpList_nil ?_
  refine wp_seq ?_
  refine wp_region_lit ?_
  refine g_pv 3 [(26, .pointer (some ⟨bc, 0, none⟩)), (27, .pointer (some ⟨bc, 0, none⟩)), (28, .pointer (some ⟨bc, 2, none⟩))] (by kernel_rfl) ?_
  refine g_op (by kernel_rfl) (op_load ⟨bc, 2, none⟩ (.int .i64 (↑k : Int)) rfl (by kernel_rfl) (by kernel_rfl) (k3.cell (i := 2) rfl) ?_)
  refine g_op (by kernel_rfl) (op_wrap .i64 ((↑k : Int) + 1) (↑(k + 1) : Int) (by kernel_rfl) ((show IntKind.i64.wrap ((↑k : Int) + 1) = ((↑k : Int) + 1) from by first | exact IntWalk.i64_in _ (by omega) | (simp only [IntKind.wrap]; omega)).trans (by omega)) ?_)
  refine g_pv 2 [(31, .pointer (some ⟨bc, 0, none⟩)), (32, .pointer (some ⟨bc, 2, none⟩))] (by kernel_rfl) ?_
  refine g_op (by kernel_rfl) (op_store (v := .int .i64 (↑(k + 1) : Int)) (b := bc) (off := 2) rfl (by kernel_rfl) (by kernel_rfl) (by kernel_rfl) rfl k3 (by first | decide | simp) ?_)
  intro W4 u4 k4
  change Blk _ _ [.pointer (some ⟨bm, 0, none⟩), .slice (cutA fa 1 fc 1) (m - 1) (fc - 1), .int .i64 (↑(k + 1) : Int)] _ at k4
  replace hO := hO.trans (Only.of_upd u4 k3 (by decide))
  replace hB := u4.below hB hA.hB
  replace k1 := u4.blk k1 (Ne.symm d1_bc)
  replace hr := u4.own2 hr k3 (by decide)
  refine wpList_nil ?_
  refine wp_seq ?_
  refine wp_region_lit ?_
  refine g_pv 3 [(33, .int .i64 (L.getD (k + 0) 0)), (34, .agg #[.slice none 0 0, .int .i64 0]), (2, .int .i64 (L.getD (k + 0) 0))] (by kernel_rfl) ?_
  refine g_op (by kernel_rfl) (op_storev (b := b1) (off := 0) [.slice none 0 0, .int .i64 0] rfl (by kernel_rfl) (by kernel_rfl) (by kernel_rfl) (by first | decide | simp [Value.oneCell']) k1 (by first | decide | simp) ?_)
  intro W5 u5 k5
  change Blk _ _ [.slice none 0 0, .int .i64 0] _ at k5
  replace hO := (Only.upd_new hO u5 g1)
  replace hB := u5.below hB (Nat.le_trans hBw g1)
  replace k4 := u5.blk k4 (Ne.symm (Ne.symm d1_bc))
  replace hr := u5.own2 hr k1 (by decide)
  refine wpList_nil ?_
  refine wp_ret ?_
  exact g_ret (.tuple #[.int .i64 (L.getD (k + 0) 0), .agg #[.slice none 0 0, .int .i64 0]]) (by kernel_rfl) (res_tc (d := _) (cs := [.slice none 0 0, .int .i64 0]) rfl (by kernel_rfl) (by kernel_rfl) k5.whole Tryz.underlying33 rfl (by kernel_rfl)) ⟨_, _, _, rfl, hB, hO, k4, hr, fun hp => by rw [(hA.hfree h0).1, (hA.hfree h0).2]; exact cutA_step hr (by omega), by omega, hL, hA.hB, hN⟩
theorem ref_Take (B bc bm : Nat) (pg : Option Addr) (N cg : Nat) (fa : Option Addr) (m fc k : Nat) (L : List Int) (w : World) (hA : RAl B bc bm pg N cg fa m fc k L w) (hBw : B ≤ w.heap.size) :
    Calls Tryz.prog 26 #[.pointer (some ⟨bc, 0, none⟩)] w (Took16 B bc bm pg N cg (nxK k N) L (.tuple #[.int .i64 (nxV k N L), .agg #[.slice none 0 0, .int .i64 (nxE k N)]]) w) := by
  have hm := hA.hm
  rcases Nat.eq_zero_or_pos m with h0 | h0
  · refine (ref_Take_none B bc bm pg N cg fa m fc k L w hA hBw h0).mono ?_
    rintro e W ⟨rfl, hb⟩
    rw [nxV, nxE, nxK, if_neg (by omega), if_neg (by omega), if_neg (by omega)]
    exact ⟨_, _, _, rfl, hb.mono hBw, Only.of_below hb, hA.below hb⟩
  · rw [nxV, nxE, nxK, if_pos (by omega), if_pos (by omega), if_pos (by omega)]
    exact ref_Take_some B bc bm pg N cg fa m fc k L w hA hBw h0
theorem only_r1 {w w' : World} (h : Only [48] w w') : Only [48, 9] w w' := h.mono fun t ht => by simp at ht ⊢; exact ht.1
theorem only_r2 {w w' : World} (h : Only [9] w w') : Only [48, 9] w w' := h.mono fun t ht => by simp at ht ⊢; exact ht.2
def RLayG (B bc bm : Nat) (pg : Option Addr) (N cg k : Nat) (L : List Int) (p : Option Addr) (K c : Nat) (l : List UInt8) (kind : Int) (li : List UInt8) (w : World) (e : Ending) (w' : World) : Prop :=
  ∃ a c2 fa m fc, e = .returned (.tuple #[.int .i64 (lyV k N K L kind li), .agg #[.slice a (lyB k N K L kind li).length c2, .int .i64 (lyE k N K L kind li)]]) ∧ Below B w w' ∧ Only [48, 9] w w' ∧ RAl B bc bm pg N cg fa m fc (lyK k N K L kind li) L w' ∧ RefI B bm p K c (lyL k N K L kind li l) w' ∧
    w'.ownsRow B 3 1 (.slice a (lyB k N K L kind li).length c2) (lyB k N K L kind li).length ((lyB k N K L kind li).map (Value.int .i64))
set_option maxRecDepth 100000 in
set_option maxHeartbeats 1000000 in
theorem ref_Lay_none (B bc bm : Nat) (pg : Option Addr) (N cg : Nat) (fa : Option Addr) (m fc k : Nat) (L : List Int) (p : Option Addr) (K c : Nat) (l : List UInt8) (kind : Int) (a : Option Addr) (ci : Nat) (li : List UInt8) (w : World) (hA : RAl B bc bm pg N cg fa m fc k L w) (hI : RefI B bm p K c l w) (hin : ∀ W, Below B w W → Bys W (.slice a li.length ci) li) (hBw : B ≤ w.heap.size) (h0 : m = 0) :
    Calls Tryz.prog 28 #[.pointer (some ⟨bc, 0, none⟩), .int .i64 kind, .slice a li.length ci] w (Ret (.tuple #[.int .i64 0, .agg #[.slice none 0 0, .int .i64 14]]) w) := by
  have hk := hA.blk
  refine calls_of_wp Tryz.func28 rfl ?_
  refine g_fr ⟨#[.pointer (some ⟨bc, 0, none⟩), .int .i64 kind, .slice a li.length ci, undef, undef, undef, undef, undef, undef, undef, undef, undef, undef, undef, undef, undef, undef, undef, undef, undef, undef, undef, undef, undef, undef, undef, undef, undef, undef, undef, undef, undef, undef, undef, undef, undef, undef], []⟩ (by kernel_rfl) ?_
  refine wp_seq ?_
  refine wp_region_lit ?_
  refine g_pv 1 [(6, .int .i64 0)] (by kernel_rfl) ?_
  refine g_op (by kernel_rfl) (op_alloc [.slice none 0 0, .int .i64 0] rfl (by kernel_rfl) ?_)
  intro b1 W1 n1
  have d1_bc := n1.ne hk
  have g1 := n1.ge (Below.refl w.heap.size _)
  have hB := n1.below
  replace hk := hk.below n1.below
  have k1 := n1.blk
  refine wpList_nil ?_
  refine wp_seq ?_
  refine wp_seq ?_
  refine wp_region_lit ?_
  refine g_pv 3 [(9, .pointer (some ⟨bc, 0, none⟩)), (10, .pointer (some ⟨bc, 0, none⟩)), (11, .pointer (some ⟨bc, 1, none⟩))] (by kernel_rfl) ?_
  refine g_op (by kernel_rfl) (op_load ⟨bc, 1, none⟩ (.slice fa m fc) rfl (by kernel_rfl) (by kernel_rfl) (hk.cell (i := 1) rfl) ?_)
  refine g_pv 2 [(13, .int .i64 (↑m : Int)), (14, .bool ((↑m : Int) == (0 : Int)))] (by kernel_rfl) ?_
  refine wpList_nil ?_
  refine wp_cond_split (t := ((↑m : Int) == (0 : Int))) (by kernel_rfl) (fun _ => ?_) (fun hh => absurd (hh.symm.trans (show (((↑m : Int) == (0 : Int)) : Bool) = true from by subst h0; rfl)) (by decide))
  refine wp_seq ?_
  refine wp_region_lit ?_
  refine g_pv 2 [(15, .agg #[.slice none 0 0, .int .i64 14]), (6, .int .i64 0)] (by kernel_rfl) ?_
  refine g_op (by kernel_rfl) (op_storev (b := b1) (off := 0) [.slice none 0 0, .int .i64 14] rfl (by kernel_rfl) (by kernel_rfl) (by kernel_rfl) (by first | decide | simp [Value.oneCell']) k1 (by first | decide | simp) ?_)
  intro W3 u3 k3
  change Blk _ _ [.slice none 0 0, .int .i64 14] _ at k3
  replace hB := u3.below hB g1
  replace hk := u3.blk hk (Ne.symm (Ne.symm d1_bc))
  refine wpList_nil ?_
  refine wp_ret (then_ret ?_)
  exact g_ret (.tuple #[.int .i64 0, .agg #[.slice none 0 0, .int .i64 14]]) (by kernel_rfl) (res_tc (d := _) (cs := [.slice none 0 0, .int .i64 14]) rfl (by kernel_rfl) (by kernel_rfl) k3.whole Tryz.underlying33 rfl (by kernel_rfl)) ⟨rfl, hB⟩
set_option maxRecDepth 100000 in
set_option maxHeartbeats 4000000 in
theorem ref_Lay_some (B bc bm : Nat) (pg : Option Addr) (N cg : Nat) (fa : Option Addr) (m fc k : Nat) (L : List Int) (p : Option Addr) (K c : Nat) (l : List UInt8) (kind : Int) (a : Option Addr) (ci : Nat) (li : List UInt8) (w : World) (hA : RAl B bc bm pg N cg fa m fc k L w) (hI : RefI B bm p K c l w) (hin : ∀ W, Below B w W → Bys W (.slice a li.length ci) li) (hBw : B ≤ w.heap.size) (h0 : 0 < m) :
    Calls Tryz.prog 28 #[.pointer (some ⟨bc, 0, none⟩), .int .i64 kind, .slice a li.length ci] w (RLayG B bc bm pg N cg k L p K c l kind li w) := by
  have hk := hA.blk
  have hr := hA.nums
  have hm := hA.hm
  have hL := hA.hL
  have hN := hA.hN
  have hkN : k < N := by omega
  refine calls_of_wp Tryz.func28 rfl ?_
  refine g_fr ⟨#[.pointer (some ⟨bc, 0, none⟩), .int .i64 kind, .slice a li.length ci, undef, undef, undef, undef, undef, undef, undef, undef, undef, undef, undef, undef, undef, undef, undef, undef, undef, undef, undef, undef, undef, undef, undef, undef, undef, undef, undef, undef, undef, undef, undef, undef, undef, undef], []⟩ (by kernel_rfl) ?_
  refine wp_seq ?_
  refine wp_region_lit ?_
  refine g_pv 1 [(6, .int .i64 0)] (by kernel_rfl) ?_
  refine g_op (by kernel_rfl) (op_alloc [.slice none 0 0, .int .i64 0] rfl (by kernel_rfl) ?_)
  intro b1 W1 n1
  have d1_bc := n1.ne hk
  have g1 := n1.ge0 (Below.refl B _)
  have hO : Only [48, 9] w _ := (Only.of_below n1.below)
  have hB := Bl.nextB (Below.refl B w) hBw n1.below
  replace hk := hk.below n1.below
  replace hr := own_below hr n1.below
  replace hI := hI.below n1.below
  have k1 := n1.blk
  refine wpList_nil ?_
  refine wp_seq ?_
  refine wp_seq ?_
  refine wp_region_lit ?_
  refine g_pv 3 [(9, .pointer (some ⟨bc, 0, none⟩)), (10, .pointer (some ⟨bc, 0, none⟩)), (11, .pointer (some ⟨bc, 1, none⟩))] (by kernel_rfl) ?_
  refine g_op (by kernel_rfl) (op_load ⟨bc, 1, none⟩ (.slice fa m fc) rfl (by kernel_rfl) (by kernel_rfl) (hk.cell (i := 1) rfl) ?_)
  refine g_pv 2 [(13, .int .i64 (↑m : Int)), (14, .bool ((↑m : Int) == (0 : Int)))] (by kernel_rfl) ?_
  refine wpList_nil ?_
  refine wp_cond_split (t := ((↑m : Int) == (0 : Int))) (by kernel_rfl) (fun hh => absurd (hh.symm.trans (show (((↑m : Int) == (0 : Int)) : Bool) = false from by simp; omega)) (by decide)) (fun _ => ?_)
  refine wp_skip ?_
  refine wp_seq ?_
  replace hO := hO.trans (Only.of_below (below_drew W1))
  replace hB := Bl.nextB hB hBw (below_drew W1)
  replace hk := hk.below (below_drew W1)
  replace k1 := k1.below (below_drew W1)
  replace hr := own_below hr (below_drew W1)
  replace hI := hI.below (below_drew W1)
  refine h_reg (fun V => Below B (W1.drew) V ∧ Only [9] (W1.drew) V) 15 rfl #[false, false, false, false, false, false, false, false, false, false, false, false, false, false, false] rfl (by kernel_rfl) ⟨Below.refl _ _, Only.refl _ _⟩ ?_
  intro hS3
  have hBd5 := hB
  have kd5_bc := hk
  have kd5_b1 := k1
  have fd_hr := hr
  have hOd5 := hO
  refine h_pv [0, 1, 2] 12 rfl #[true, true, true, false, false, false, false, false, false, false, false, false, false, false, false] [(16, .pointer (some ⟨bc, 0, none⟩)), (17, .pointer (some ⟨bc, 0, none⟩)), (18, .pointer (some ⟨bc, 0, none⟩))] (by kernel_rfl) (fun _ _ _ _ _ h => h) (by kernel_rfl) hS3 ?_
  refine h_load 3 11 rfl ⟨bc, 0, none⟩ (.pointer (some ⟨bm, 0, none⟩)) rfl (by kernel_rfl) (by kernel_rfl) (by kernel_rfl) (fun _ _ _ _ _ h => h) (by kernel_rfl) rfl (by kernel_rfl) (by kernel_rfl) (fun V hV => ((kd5_bc.only hV.2 (by decide)).cell (i := 0) rfl)) hS3 ?_
  refine h_pv [4, 5, 6] 8 rfl #[true, true, true, true, true, true, true, false, false, false, false, false, false, false, false] [(20, .pointer (some ⟨bc, 0, none⟩)), (21, .pointer (some ⟨bc, 0, none⟩)), (22, .pointer (some ⟨bc, 1, none⟩))] (by kernel_rfl) (fun _ _ _ _ _ h => h) (by kernel_rfl) hS3 ?_
  refine h_load 7 7 rfl ⟨bc, 1, none⟩ (.slice fa m fc) rfl (by kernel_rfl) (by kernel_rfl) (by kernel_rfl) (fun _ _ _ _ _ h => h) (by kernel_rfl) rfl (by kernel_rfl) (by kernel_rfl) (fun V hV => ((kd5_bc.only hV.2 (by decide)).cell (i := 1) rfl)) hS3 ?_
  refine h_val 8 6 rfl (.pointer (some (elemAddr fa (0 * 1)))) rfl (by kernel_rfl) (by kernel_rfl) (by kernel_rfl) (fun _ _ _ _ _ h => h) (by kernel_rfl) (fun V hV => run_indexA (size := 1) (k := 0) (b := fa) (n := m) (c := fc) (i := 0) (ki := .i64) rfl (by kernel_rfl) (by kernel_rfl) rfl (by omega) (free_elem (free_sl (own_sl hr) hA.hfree hm hL) (by omega) (i := 0) (by omega)).1 Tryz.underlying31 (by kernel_rfl) V) hS3 ?_
  refine h_load 9 5 rfl (elemAddr fa (0 * 1)) (.int .i64 (L.getD (k + 0) 0)) rfl (by kernel_rfl) (by kernel_rfl) (by kernel_rfl) (fun _ _ _ _ _ h => h) (by kernel_rfl) rfl (by kernel_rfl) (by kernel_rfl) (fun V hV => (free_elem (free_sl (own_sl (own_only fd_hr hV.2 (by decide))) hA.hfree hm hL) (by omega) (i := 0) (by omega)).2) hS3 ?_
  refine h_pv [10, 11] 3 rfl #[true, true, true, true, true, true, true, true, true, true, true, true, false, false, false] [(26, .int .i64 kind), (27, .slice a li.length ci)] (by kernel_rfl) (fun _ _ _ _ _ h => h) (by kernel_rfl) hS3 ?_
  refine h_two 12 13 2 rfl (by kernel_rfl) rfl rfl (by kernel_rfl) (by kernel_rfl) ?_ ?_
  · have hs7 : B ≤ (W1.drew).heap.size := Nat.le_trans hBw hB.size
    refine op_call (lb := #[]) 35 #[.pointer (some ⟨bm, 0, none⟩), .int .i64 (L.getD (k + 0) 0), .int .i64 kind, .slice a li.length ci] rfl (by kernel_rfl) (fun _ _ => by kernel_rfl) (by kernel_rfl) ((ref11_Write B bm p K c l (L.getD (k + 0) 0) kind a ci li _ hI (hin _ hB) (Nat.le_trans hBw hB.size)).mono ?_)
    rintro e W6 ⟨a5, c5, rfl, hb6, hO6, hI, h5⟩
    refine ⟨_, rfl, ?_⟩
    replace hO := hO.trans (only_r2 hO6)
    replace hB := hB.trans hb6
    replace hk := hk.only hO6 (by decide)
    replace k1 := k1.only hO6 (by decide)
    replace hr := own_only hr hO6 (by decide)
    replace h5 := own_mono h5 hs7
    have hS7 : Below B (W1.drew) (W6) ∧ Only [9] (W1.drew) (W6) := ⟨hS3.1.trans hb6, hS3.2.trans hO6⟩
    refine ⟨hS7, ?_⟩
    refine h_one 13 1 rfl (by kernel_rfl) rfl (by kernel_rfl) (op_alloc [.slice none 0 0, .int .i64 0] rfl (by kernel_rfl) ?_)
    intro b8 W8 n8
    have d8_bc := n8.ne hk
    have d8_b1 := n8.ne k1
    have g8 := n8.ge0 hB
    have gd_b8 : (W1.drew).heap.size ≤ b8 := by have := hS7.1.size; have := n8.at_; omega
    replace hO := hO.trans (Only.of_below n8.below)
    replace hB := Bl.nextB hB hBw n8.below
    replace hk := hk.below n8.below
    replace k1 := k1.below n8.below
    replace hr := own_below hr n8.below
    replace hI := hI.below n8.below
    replace h5 := own_below h5 n8.below
    have k8 := n8.blk
    have hS9 : Below B (W1.drew) (W8) ∧ Only [9] (W1.drew) (W8) := ⟨Bl.nextB hS7.1 (Nat.le_trans hBw hBd5.size) n8.below, hS7.2.trans (Only.of_below n8.below)⟩
    refine ⟨hS9, ?_⟩
    refine h_one 14 0 rfl (by kernel_rfl) rfl (by kernel_rfl) (op_storev (b := b8) (off := 0) [.slice a5 ((fltL (L.getD (k + 0) 0) (wrE kind (L.getD (k + 0) 0) K li)).length) c5, .int .i64 (wrE kind (L.getD (k + 0) 0) K li)] rfl (by kernel_rfl) (by kernel_rfl) (by kernel_rfl) (by first | decide | simp [Value.oneCell']) k8 (by first | decide | simp) ?_)
    intro W10 u10 k10
    change Blk _ _ [.slice a5 ((fltL (L.getD (k + 0) 0) (wrE kind (L.getD (k + 0) 0) K li)).length) c5, .int .i64 (wrE kind (L.getD (k + 0) 0) K li)] _ at k10
    replace hO := (Only.upd_new hO u10 g8)
    replace hB := u10.below hB (Nat.le_trans hBw g8)
    replace hk := u10.blk hk (Ne.symm (Ne.symm d8_bc))
    replace k1 := u10.blk k1 (Ne.symm (Ne.symm d8_b1))
    replace hr := u10.own2 hr k8 (by decide)
    replace hI := hI.only (Only.of_upd (T := [33]) u10 k8 (by decide)) (by decide)
    replace h5 := u10.own2 h5 k8 (by decide)
    have hS11 : Below B (W1.drew) (W10) ∧ Only [9] (W1.drew) (W10) := ⟨u10.below hS9.1 (Nat.le_trans hBw g8), Only.upd_new hS9.2 u10 gd_b8⟩
    refine ⟨hS11, ?_⟩
    refine h_done _ (by kernel_rfl) ?_
    refine wp_seq ?_
    refine wp_seq ?_
    refine wp_region_lit ?_
    refine g_pv 1 [(29, .pointer (some ⟨b8, 1, none⟩))] (by kernel_rfl) ?_
    refine g_op (by kernel_rfl) (op_load ⟨b8, 1, none⟩ (.int .i64 (wrE kind (L.getD (k + 0) 0) K li)) rfl (by kernel_rfl) (by kernel_rfl) (k10.cell (i := 1) rfl) ?_)
    refine g_pv 1 [(31, .bool ((wrE kind (L.getD (k + 0) 0) K li) != (0 : Int)))] (by kernel_rfl) ?_
    refine wpList_nil ?_
    refine wp_cond_split (t := ((wrE kind (L.getD (k + 0) 0) K li) != (0 : Int))) (by kernel_rfl) (fun hc12 => ?_) (fun hc12 => ?_)
    · have hc12 := ne_of_bne hc12
      have hne : wrE kind (L.getD k 0) K li ≠ 0 := hc12
      refine wp_seq ?_
      replace hO := hO.trans (Only.of_below (below_drew W10))
      replace hB := Bl.nextB hB hBw (below_drew W10)
      replace hk := hk.below (below_drew W10)
      replace k1 := k1.below (below_drew W10)
      replace k10 := k10.below (below_drew W10)
      replace hr := own_below hr (below_drew W10)
      replace hI := hI.below (below_drew W10)
      replace h5 := own_below h5 (below_drew W10)
      refine h_reg (BelowBut (W10.drew) b1) 3 rfl #[false, false, false] rfl (by kernel_rfl) ((Below.refl _ _).but _) ?_
      intro hS13
      have hBd15 := hB
      have kd15_bc := hk
      have kd15_b1 := k1
      have kd15_b8 := k10
      have fd_hr := hr
      have hOd15 := hO
      refine h_loadv (b := b8) (off := 0) 0 2 rfl [.slice a5 ((fltL (L.getD (k + 0) 0) (wrE kind (L.getD (k + 0) 0) K li)).length) c5, .int .i64 (wrE kind (L.getD (k + 0) 0) K li)] _ rfl (by kernel_rfl) (by kernel_rfl) (by kernel_rfl) (fun _ _ _ _ _ h => h) (by kernel_rfl) rfl (by kernel_rfl) Tryz.underlying33 rfl (by kernel_rfl) (fun V hV => (hV.blk kd15_b8 (Ne.symm d8_b1)).whole) hS13 ?_
      refine h_pv [1] 1 rfl #[true, true, false] [(6, .int .i64 0)] (by kernel_rfl) (fun _ _ _ _ _ h => h) (by kernel_rfl) hS13 ?_
      refine h_one 2 0 rfl (by kernel_rfl) rfl (by kernel_rfl) (op_storev (b := b1) (off := 0) [.slice a5 ((fltL (L.getD (k + 0) 0) (wrE kind (L.getD (k + 0) 0) K li)).length) c5, .int .i64 (wrE kind (L.getD (k + 0) 0) K li)] rfl (by kernel_rfl) (by kernel_rfl) (by kernel_rfl) (by first | decide | simp [Value.oneCell']) k1 (by first | decide | simp) ?_)
      intro W16 u16 k16
      change Blk _ _ [.slice a5 ((fltL (L.getD (k + 0) 0) (wrE kind (L.getD (k + 0) 0) K li)).length) c5, .int .i64 (wrE kind (L.getD (k + 0) 0) K li)] _ at k16
      replace hO := (Only.upd_new hO u16 g1)
      replace hB := u16.below hB (Nat.le_trans hBw g1)
      replace hk := u16.blk hk (Ne.symm (Ne.symm d1_bc))
      replace k10 := u16.blk k10 (Ne.symm d8_b1)
      replace hr := u16.own2 hr k1 (by decide)
      replace hI := hI.only (Only.of_upd (T := [33]) u16 k1 (by decide)) (by decide)
      replace h5 := u16.own2 h5 k1 (by decide)
      have hS17 : BelowBut (W10.drew) b1 (W16) := hS13.upd u16
      refine ⟨hS17, ?_⟩
      refine h_done _ (by kernel_rfl) ?_
      refine wp_ret (then_ret ?_)
      refine g_ret (.tuple #[.int .i64 0, .agg #[.slice a5 ((fltL (L.getD (k + 0) 0) (wrE kind (L.getD (k + 0) 0) K li)).length) c5, .int .i64 (wrE kind (L.getD (k + 0) 0) K li)]]) (by kernel_rfl) (res_tc (d := _) (cs := [.slice a5 ((fltL (L.getD (k + 0) 0) (wrE kind (L.getD (k + 0) 0) K li)).length) c5, .int .i64 (wrE kind (L.getD (k + 0) 0) K li)]) rfl (by kernel_rfl) (by kernel_rfl) k16.whole Tryz.underlying33 rfl (by kernel_rfl)) ?_
      have h2 : ¬ (k < N ∧ wrE kind (L.getD k 0) K li = 0) := fun h => hne h.2
      exact ⟨a5, c5, _, _, _, by rw [lyV, if_neg h2, lyE, if_pos hkN, lyB, if_pos hkN]; rfl, hB, hO, by rw [lyK, if_neg h2]; exact ⟨hk, hr, hA.hfree, hm, hL, hA.hB, hN⟩, by rw [lyL, if_pos hkN]; exact hI, by rw [lyB, if_pos hkN]; exact h5⟩
    · have hc12 := eq_of_bne_false hc12
      have heq : wrE kind (L.getD k 0) K li = 0 := hc12
      refine wp_skip ?_
      refine wp_seq ?_
      refine wp_region_lit ?_
      refine g_pv 1 [(33, .pointer (some ⟨bc, 0, none⟩))] (by kernel_rfl) ?_
      refine g_op (by kernel_rfl) (op_call (lb := #[]) 26 #[.pointer (some ⟨bc, 0, none⟩)] rfl (by kernel_rfl) (fun _ _ => by kernel_rfl) (by kernel_rfl) ((ref_Take_some B bc bm pg N cg fa m fc k L _ ⟨hk, hr, hA.hfree, hm, hL, hA.hB, hN⟩ (Nat.le_trans hBw hB.size) (by omega)).mono ?_))
      rintro e W18 ⟨fa2, m2, fc2, rfl, hb18, hO18, hA2⟩
      refine ⟨_, rfl, ?_⟩
      replace hO := hO.trans (only_r1 hO18)
      replace hB := hB.trans hb18
      replace k1 := k1.only hO18 (by decide)
      replace k10 := k10.only hO18 (by decide)
      replace hI := hI.only hO18 (by decide)
      replace h5 := own_only h5 hO18 (by decide)
      refine g_pv 3 [(35, .int .i64 (L.getD (k + 0) 0)), (36, .agg #[.slice none 0 0, .int .i64 0]), (6, .int .i64 (L.getD (k + 0) 0))] (by kernel_rfl) ?_
      refine g_op (by kernel_rfl) (op_storev (b := b1) (off := 0) [.slice none 0 0, .int .i64 0] rfl (by kernel_rfl) (by kernel_rfl) (by kernel_rfl) (by first | decide | simp [Value.oneCell']) k1 (by first | decide | simp) ?_)
      intro W19 u19 k19
      change Blk _ _ [.slice none 0 0, .int .i64 0] _ at k19
      replace hO := (Only.upd_new hO u19 g1)
      replace hB := u19.below hB (Nat.le_trans hBw g1)
      replace hA2.blk := u19.blk hA2.blk (Ne.symm (Ne.symm d1_bc))
      replace k10 := u19.blk k10 (Ne.symm d8_b1)
      replace hI := hI.only (Only.of_upd (T := [33]) u19 k1 (by decide)) (by decide)
      replace h5 := u19.own2 h5 k1 (by decide)
      replace hA2 := hA2.only (Only.of_upd (T := [33]) u19 k1 (by decide)) (by decide)
      refine wpList_nil ?_
      refine wp_ret ?_
      refine g_ret (.tuple #[.int .i64 (L.getD (k + 0) 0), .agg #[.slice none 0 0, .int .i64 0]]) (by kernel_rfl) (res_tc (d := _) (cs := [.slice none 0 0, .int .i64 0]) rfl (by kernel_rfl) (by kernel_rfl) k19.whole Tryz.underlying33 rfl (by kernel_rfl)) ?_
      have h2 : k < N ∧ wrE kind (L.getD k 0) K li = 0 := ⟨hkN, heq⟩
      have h3 : fltL (L.getD k 0) (wrE kind (L.getD k 0) K li) = [] := by rw [h2.2]; rfl
      exact ⟨none, 0, _, _, _, by rw [lyV, if_pos h2, lyE, if_pos hkN, lyB, if_pos hkN, h3, h2.2]; rfl, hB, hO, by rw [lyK, if_pos h2]; exact hA2, by rw [lyL, if_pos hkN]; exact hI, by rw [lyB, if_pos hkN, h3]; exact World.ownsRow_nil _ _ _ _⟩
  · refine op_alloc [.slice none 0 0, .int .i64 0] rfl (by kernel_rfl) ?_
    intro b20 W20 n20
    have d20_bc := n20.ne hk
    have d20_b1 := n20.ne k1
    have g20 := n20.ge0 hB
    have gd_b20 : (W1.drew).heap.size ≤ b20 := by have := hS3.1.size; have := n20.at_; omega
    replace hO := hO.trans (Only.of_below n20.below)
    replace hB := Bl.nextB hB hBw n20.below
    replace hk := hk.below n20.below
    replace k1 := k1.below n20.below
    replace hr := own_below hr n20.below
    replace hI := hI.below n20.below
    have k20 := n20.blk
    have hS21 : Below B (W1.drew) (W20) ∧ Only [9] (W1.drew) (W20) := ⟨Bl.nextB hS3.1 (Nat.le_trans hBw hBd5.size) n20.below, hS3.2.trans (Only.of_below n20.below)⟩
    refine ⟨hS21, ?_⟩
    have hs7 : B ≤ (W20).heap.size := Nat.le_trans hBw hB.size
    refine h_one 12 1 rfl (by kernel_rfl) rfl (by kernel_rfl) (op_call (lb := #[]) 35 #[.pointer (some ⟨bm, 0, none⟩), .int .i64 (L.getD (k + 0) 0), .int .i64 kind, .slice a li.length ci] rfl (by kernel_rfl) (fun _ _ => by kernel_rfl) (by kernel_rfl) ((ref11_Write B bm p K c l (L.getD (k + 0) 0) kind a ci li _ hI (hin _ hB) (Nat.le_trans hBw hB.size)).mono ?_))
    rintro e W22 ⟨a5, c5, rfl, hb22, hO22, hI, h5⟩
    refine ⟨_, rfl, ?_⟩
    replace hO := hO.trans (only_r2 hO22)
    replace hB := hB.trans hb22
    replace hk := hk.only hO22 (by decide)
    replace k1 := k1.only hO22 (by decide)
    replace k20 := k20.only hO22 (by decide)
    replace hr := own_only hr hO22 (by decide)
    replace h5 := own_mono h5 hs7
    have hS23 : Below B (W1.drew) (W22) ∧ Only [9] (W1.drew) (W22) := ⟨hS21.1.trans hb22, hS21.2.trans hO22⟩
    refine ⟨hS23, ?_⟩
    refine h_one 14 0 rfl (by kernel_rfl) rfl (by kernel_rfl) (op_storev (b := b20) (off := 0) [.slice a5 ((fltL (L.getD (k + 0) 0) (wrE kind (L.getD (k + 0) 0) K li)).length) c5, .int .i64 (wrE kind (L.getD (k + 0) 0) K li)] rfl (by kernel_rfl) (by kernel_rfl) (by kernel_rfl) (by first | decide | simp [Value.oneCell']) k20 (by first | decide | simp) ?_)
    intro W24 u24 k24
    change Blk _ _ [.slice a5 ((fltL (L.getD (k + 0) 0) (wrE kind (L.getD (k + 0) 0) K li)).length) c5, .int .i64 (wrE kind (L.getD (k + 0) 0) K li)] _ at k24
    replace hO := (Only.upd_new hO u24 g20)
    replace hB := u24.below hB (Nat.le_trans hBw g20)
    replace hk := u24.blk hk (Ne.symm (Ne.symm d20_bc))
    replace k1 := u24.blk k1 (Ne.symm (Ne.symm d20_b1))
    replace hr := u24.own2 hr k20 (by decide)
    replace hI := hI.only (Only.of_upd (T := [33]) u24 k20 (by decide)) (by decide)
    replace h5 := u24.own2 h5 k20 (by decide)
    have hS25 : Below B (W1.drew) (W24) ∧ Only [9] (W1.drew) (W24) := ⟨u24.below hS23.1 (Nat.le_trans hBw g20), Only.upd_new hS23.2 u24 gd_b20⟩
    refine ⟨hS25, ?_⟩
    refine h_done _ (by kernel_rfl) ?_
    refine wp_seq ?_
    refine wp_seq ?_
    refine wp_region_lit ?_
    refine g_pv 1 [(29, .pointer (some ⟨b20, 1, none⟩))] (by kernel_rfl) ?_
    refine g_op (by kernel_rfl) (op_load ⟨b20, 1, none⟩ (.int .i64 (wrE kind (L.getD (k + 0) 0) K li)) rfl (by kernel_rfl) (by kernel_rfl) (k24.cell (i := 1) rfl) ?_)
    refine g_pv 1 [(31, .bool ((wrE kind (L.getD (k + 0) 0) K li) != (0 : Int)))] (by kernel_rfl) ?_
    refine wpList_nil ?_
    refine wp_cond_split (t := ((wrE kind (L.getD (k + 0) 0) K li) != (0 : Int))) (by kernel_rfl) (fun hc26 => ?_) (fun hc26 => ?_)
    · have hc26 := ne_of_bne hc26
      have hne : wrE kind (L.getD k 0) K li ≠ 0 := hc26
      refine wp_seq ?_
      replace hO := hO.trans (Only.of_below (below_drew W24))
      replace hB := Bl.nextB hB hBw (below_drew W24)
      replace hk := hk.below (below_drew W24)
      replace k1 := k1.below (below_drew W24)
      replace k24 := k24.below (below_drew W24)
      replace hr := own_below hr (below_drew W24)
      replace hI := hI.below (below_drew W24)
      replace h5 := own_below h5 (below_drew W24)
      refine h_reg (BelowBut (W24.drew) b1) 3 rfl #[false, false, false] rfl (by kernel_rfl) ((Below.refl _ _).but _) ?_
      intro hS27
      have hBd29 := hB
      have kd29_bc := hk
      have kd29_b1 := k1
      have kd29_b20 := k24
      have fd_hr := hr
      have hOd29 := hO
      refine h_loadv (b := b20) (off := 0) 0 2 rfl [.slice a5 ((fltL (L.getD (k + 0) 0) (wrE kind (L.getD (k + 0) 0) K li)).length) c5, .int .i64 (wrE kind (L.getD (k + 0) 0) K li)] _ rfl (by kernel_rfl) (by kernel_rfl) (by kernel_rfl) (fun _ _ _ _ _ h => h) (by kernel_rfl) rfl (by kernel_rfl) Tryz.underlying33 rfl (by kernel_rfl) (fun V hV => (hV.blk kd29_b20 (Ne.symm d20_b1)).whole) hS27 ?_
      refine h_pv [1] 1 rfl #[true, true, false] [(6, .int .i64 0)] (by kernel_rfl) (fun _ _ _ _ _ h => h) (by kernel_rfl) hS27 ?_
      refine h_one 2 0 rfl (by kernel_rfl) rfl (by kernel_rfl) (op_storev (b := b1) (off := 0) [.slice a5 ((fltL (L.getD (k + 0) 0) (wrE kind (L.getD (k + 0) 0) K li)).length) c5, .int .i64 (wrE kind (L.getD (k + 0) 0) K li)] rfl (by kernel_rfl) (by kernel_rfl) (by kernel_rfl) (by first | decide | simp [Value.oneCell']) k1 (by first | decide | simp) ?_)
      intro W30 u30 k30
      change Blk _ _ [.slice a5 ((fltL (L.getD (k + 0) 0) (wrE kind (L.getD (k + 0) 0) K li)).length) c5, .int .i64 (wrE kind (L.getD (k + 0) 0) K li)] _ at k30
      replace hO := (Only.upd_new hO u30 g1)
      replace hB := u30.below hB (Nat.le_trans hBw g1)
      replace hk := u30.blk hk (Ne.symm (Ne.symm d1_bc))
      replace k24 := u30.blk k24 (Ne.symm d20_b1)
      replace hr := u30.own2 hr k1 (by decide)
      replace hI := hI.only (Only.of_upd (T := [33]) u30 k1 (by decide)) (by decide)
      replace h5 := u30.own2 h5 k1 (by decide)
      have hS31 : BelowBut (W24.drew) b1 (W30) := hS27.upd u30
      refine ⟨hS31, ?_⟩
      refine h_done _ (by kernel_rfl) ?_
      refine wp_ret (then_ret ?_)
      refine g_ret (.tuple #[.int .i64 0, .agg #[.slice a5 ((fltL (L.getD (k + 0) 0) (wrE kind (L.getD (k + 0) 0) K li)).length) c5, .int .i64 (wrE kind (L.getD (k + 0) 0) K li)]]) (by kernel_rfl) (res_tc (d := _) (cs := [.slice a5 ((fltL (L.getD (k + 0) 0) (wrE kind (L.getD (k + 0) 0) K li)).length) c5, .int .i64 (wrE kind (L.getD (k + 0) 0) K li)]) rfl (by kernel_rfl) (by kernel_rfl) k30.whole Tryz.underlying33 rfl (by kernel_rfl)) ?_
      have h2 : ¬ (k < N ∧ wrE kind (L.getD k 0) K li = 0) := fun h => hne h.2
      exact ⟨a5, c5, _, _, _, by rw [lyV, if_neg h2, lyE, if_pos hkN, lyB, if_pos hkN]; rfl, hB, hO, by rw [lyK, if_neg h2]; exact ⟨hk, hr, hA.hfree, hm, hL, hA.hB, hN⟩, by rw [lyL, if_pos hkN]; exact hI, by rw [lyB, if_pos hkN]; exact h5⟩
    · have hc26 := eq_of_bne_false hc26
      have heq : wrE kind (L.getD k 0) K li = 0 := hc26
      refine wp_skip ?_
      refine wp_seq ?_
      refine wp_region_lit ?_
      refine g_pv 1 [(33, .pointer (some ⟨bc, 0, none⟩))] (by kernel_rfl) ?_
      refine g_op (by kernel_rfl) (op_call (lb := #[]) 26 #[.pointer (some ⟨bc, 0, none⟩)] rfl (by kernel_rfl) (fun _ _ => by kernel_rfl) (by kernel_rfl) ((ref_Take_some B bc bm pg N cg fa m fc k L _ ⟨hk, hr, hA.hfree, hm, hL, hA.hB, hN⟩ (Nat.le_trans hBw hB.size) (by omega)).mono ?_))
      rintro e W32 ⟨fa2, m2, fc2, rfl, hb32, hO32, hA2⟩
      refine ⟨_, rfl, ?_⟩
      replace hO := hO.trans (only_r1 hO32)
      replace hB := hB.trans hb32
      replace k1 := k1.only hO32 (by decide)
      replace k24 := k24.only hO32 (by decide)
      replace hI := hI.only hO32 (by decide)
      replace h5 := own_only h5 hO32 (by decide)
      refine g_pv 3 [(35, .int .i64 (L.getD (k + 0) 0)), (36, .agg #[.slice none 0 0, .int .i64 0]), (6, .int .i64 (L.getD (k + 0) 0))] (by kernel_rfl) ?_
      refine g_op (by kernel_rfl) (op_storev (b := b1) (off := 0) [.slice none 0 0, .int .i64 0] rfl (by kernel_rfl) (by kernel_rfl) (by kernel_rfl) (by first | decide | simp [Value.oneCell']) k1 (by first | decide | simp) ?_)
      intro W33 u33 k33
      change Blk _ _ [.slice none 0 0, .int .i64 0] _ at k33
      replace hO := (Only.upd_new hO u33 g1)
      replace hB := u33.below hB (Nat.le_trans hBw g1)
      replace hA2.blk := u33.blk hA2.blk (Ne.symm (Ne.symm d1_bc))
      replace k24 := u33.blk k24 (Ne.symm d20_b1)
      replace hI := hI.only (Only.of_upd (T := [33]) u33 k1 (by decide)) (by decide)
      replace h5 := u33.own2 h5 k1 (by decide)
      replace hA2 := hA2.only (Only.of_upd (T := [33]) u33 k1 (by decide)) (by decide)
      refine wpList_nil ?_
      refine wp_ret ?_
      refine g_ret (.tuple #[.int .i64 (L.getD (k + 0) 0), .agg #[.slice none 0 0, .int .i64 0]]) (by kernel_rfl) (res_tc (d := _) (cs := [.slice none 0 0, .int .i64 0]) rfl (by kernel_rfl) (by kernel_rfl) k33.whole Tryz.underlying33 rfl (by kernel_rfl)) ?_
      have h2 : k < N ∧ wrE kind (L.getD k 0) K li = 0 := ⟨hkN, heq⟩
      have h3 : fltL (L.getD k 0) (wrE kind (L.getD k 0) K li) = [] := by rw [h2.2]; rfl
      exact ⟨none, 0, _, _, _, by rw [lyV, if_pos h2, lyE, if_pos hkN, lyB, if_pos hkN, h3, h2.2]; rfl, hB, hO, by rw [lyK, if_pos h2]; exact hA2, by rw [lyL, if_pos hkN]; exact hI, by rw [lyB, if_pos hkN, h3]; exact World.ownsRow_nil _ _ _ _⟩
theorem ref_Lay (B bc bm : Nat) (pg : Option Addr) (N cg : Nat) (fa : Option Addr) (m fc k : Nat) (L : List Int) (p : Option Addr) (K c : Nat) (l : List UInt8) (kind : Int) (a : Option Addr) (ci : Nat) (li : List UInt8) (w : World) (hA : RAl B bc bm pg N cg fa m fc k L w) (hI : RefI B bm p K c l w) (hin : ∀ W, Below B w W → Bys W (.slice a li.length ci) li) (hBw : B ≤ w.heap.size) :
    Calls Tryz.prog 28 #[.pointer (some ⟨bc, 0, none⟩), .int .i64 kind, .slice a li.length ci] w (RLayG B bc bm pg N cg k L p K c l kind li w) := by
  have hm := hA.hm
  rcases Nat.eq_zero_or_pos m with h0 | h0
  · refine (ref_Lay_none B bc bm pg N cg fa m fc k L p K c l kind a ci li w hA hI hin hBw h0).mono ?_
    rintro e W ⟨rfl, hb⟩
    have hk : ¬ k < N := by omega
    have h2 : ¬ (k < N ∧ wrE kind (L.getD k 0) K li = 0) := fun h => hk h.1
    exact ⟨none, 0, _, _, _, by rw [lyV, if_neg h2, lyE, if_neg hk, lyB, if_neg hk]; rfl, hb.mono hBw, Only.of_below hb, by rw [lyK, if_neg h2]; exact hA.below hb, by rw [lyL, if_neg hk]; exact hI.below hb, by rw [lyB, if_neg hk]; exact World.ownsRow_nil _ _ _ _⟩
  · exact ref_Lay_some B bc bm pg N cg fa m fc k L p K c l kind a ci li w hA hI hin hBw h0
set_option maxRecDepth 100000 in
set_option maxHeartbeats 1000000 in
theorem ref_Ahead (B bc bm : Nat) (pg : Option Addr) (N cg : Nat) (fa : Option Addr) (m fc k j : Nat) (L : List Int) (w : World) (hA : RAl B bc bm pg N cg fa m fc k L w) (hj : j ≤ 1000000) :
    Calls Tryz.prog 32 #[.pointer (some ⟨bc, 0, none⟩), .int .i64 (↑j : Int)] w (RetS (fun w' r => ∃ q c2, r = .slice q (min j (N - k)) c2 ∧ w'.ownsRow w.heap.size 3 1 (.slice q (min j (N - k)) c2) (min j (N - k)) (((L.drop k).take j).map (Value.int .i64))) w) := by
  have hk := hA.blk
  have hm := hA.hm
  have hL := hA.hL
  have hN := hA.hN
  have hf := free_sl (own_sl hA.nums) hA.hfree hA.hm hA.hL
  refine calls_of_wp Tryz.func32 rfl ?_
  refine g_fr ⟨#[.pointer (some ⟨bc, 0, none⟩), .int .i64 (↑j : Int), undef, undef, undef, undef, undef, undef, undef, undef, undef, undef, undef, undef, undef, undef, undef, undef, undef, undef, undef, undef, undef, undef, undef, undef, undef, undef, undef, undef, undef, undef], []⟩ (by kernel_rfl) ?_
  refine wp_seq ?_
  refine wp_region_lit ?_
  refine g_pv 1 [(4, .slice none 0 0)] (by kernel_rfl) ?_
  refine wpList_nil ?_
  refine wp_seq ?_
  refine wp_region_lit ?_
  refine g_pv 1 [(5, .slice none 0 0)] (by kernel_rfl) ?_
  refine wpList_nil ?_
  refine wp_seq ?_
  refine wp_seq ?_
  refine wp_region_lit ?_
  refine g_pv 1 [(6, .int .i64 0)] (by kernel_rfl) ?_
  refine wpList_nil ?_
  refine wp_block ?_
  refine g_fr ⟨#[.pointer (some ⟨bc, 0, none⟩), .int .i64 (↑j : Int), undef, undef, .slice none 0 0, .slice none 0 0, .int .i64 0, undef, undef, undef, undef, undef, undef, undef, undef, undef, undef, undef, undef, undef, undef, undef, undef, undef, undef, undef, undef, undef, undef, undef, undef, undef], []⟩ (by kernel_rfl) ?_
  have hB := Below.refl w.heap.size w
  refine wp_loop (fun act V => ∃ (i : Nat) (pq : Option Addr) (cq : Nat) (x1 : Nat → Value), act = ⟨#[.pointer (some ⟨bc, 0, none⟩), .int .i64 (↑j : Int), undef, undef, .slice none 0 0, .slice pq i cq, .int .i64 (↑i : Int), (x1 0), (x1 1), (x1 2), (x1 3), (x1 4), (x1 5), (x1 6), (x1 7), (x1 8), (x1 9), (x1 10), (x1 11), (x1 12), (x1 13), (x1 14), (x1 15), (x1 16), (x1 17), (x1 18), (x1 19), (x1 20), (x1 21), (x1 22), (x1 23), undef], []⟩ ∧ Below w.heap.size w V ∧ Blk V bc ([.pointer (some ⟨bm, 0, none⟩), .slice fa m fc, .int .i64 (↑k : Int)]) 48 ∧ V.ownsRow w.heap.size 3 1 (.slice pq i cq) i (((L.drop k).take i).map (Value.int .i64)) ∧ i ≤ min j m) (fun act V => j - ((intOf (act.tmps.getD 6 undef))).toNat) ⟨0, _, _, (pk [undef, undef, undef, undef, undef, undef, undef, undef, undef, undef, undef, undef, undef, undef, undef, undef, undef, undef, undef, undef, undef, undef, undef, undef]), rfl, hB, hk, World.ownsRow_nil _ _ _ _, Nat.zero_le _⟩ ?_
  rintro _ W1 ⟨i, pq, cq, x1, rfl, hB, k1_bc, hq, hi⟩
  refine wp_seq ?_
  refine wp_seq ?_
  refine wp_region_lit ?_
  refine g_pv 4 [(7, .int .i64 (↑i : Int)), (8, .int .i64 (↑j : Int)), (9, .bool (decide ((↑i : Int) < (↑j : Int)))), (10, .bool (decide ((↑i : Int) < (↑j : Int))))] (by kernel_rfl) ?_
  rcases Bool.eq_false_or_eq_true (decide ((↑i : Int) < (↑j : Int))) with hc2 | hc2
  · refine g_b [9, 10] _ _ hc2 (by kernel_rfl) ?_
    have hc2 := of_decide_eq_true hc2
    refine g_pv 4 [(11, .int .i64 (↑i : Int)), (12, .pointer (some ⟨bc, 0, none⟩)), (13, .pointer (some ⟨bc, 0, none⟩)), (14, .pointer (some ⟨bc, 1, none⟩))] (by kernel_rfl) ?_
    refine g_op (by kernel_rfl) (op_load ⟨bc, 1, none⟩ (.slice fa m fc) rfl (by kernel_rfl) (by kernel_rfl) (k1_bc.cell (i := 1) rfl) ?_)
    refine g_pv 3 [(16, .int .i64 (↑m : Int)), (17, .bool (decide ((↑i : Int) < (↑m : Int)))), (18, .bool (decide ((↑i : Int) < (↑m : Int))))] (by kernel_rfl) ?_
    refine wpList_nil ?_
    refine wp_cond_split (t := decide ((↑i : Int) < (↑m : Int))) (by kernel_rfl) (fun hc3 => ?_) (fun hc3 => ?_)
    · have hc3 := of_decide_eq_true hc3
      refine wp_skip ?_
      refine wp_seq ?_
      refine wp_block ?_
      refine wp_region_lit ?_
      refine g_pv 4 [(21, .slice pq i cq), (22, .pointer (some ⟨bc, 0, none⟩)), (23, .pointer (some ⟨bc, 0, none⟩)), (24, .pointer (some ⟨bc, 1, none⟩))] (by kernel_rfl) ?_
      refine g_op (by kernel_rfl) (op_load ⟨bc, 1, none⟩ (.slice fa m fc) rfl (by kernel_rfl) (by kernel_rfl) (k1_bc.cell (i := 1) rfl) ?_)
      refine g_pv 1 [(26, .int .i64 (↑i : Int))] (by kernel_rfl) ?_
      refine g_op (by kernel_rfl) (op_val (run_indexA (size := 1) (k := i) (b := fa) (n := m) (c := fc) (i := (↑i : Int)) (ki := .i64) rfl (by kernel_rfl) (by kernel_rfl) rfl (by omega) (free_elem hf (by omega) (i := i) (by omega)).1 Tryz.underlying31 (by kernel_rfl) W1) ?_)
      refine g_op (by kernel_rfl) (op_load (elemAddr fa (i * 1)) (.int .i64 (L.getD (k + i) 0)) rfl (by kernel_rfl) (by kernel_rfl) (free_elem (hf.below hB) (by omega) (i := i) (by omega)).2 ?_)
      refine g_op (by kernel_rfl) (op_buildSlice 3 [.int .i64 (L.getD (k + i) 0)] rfl (by kernel_rfl) ?_)
      intro b4 W4 n4
      have d4_bc := n4.ne k1_bc
      have g4 := n4.ge hB
      have r4_hq := own_ne hq n4
      replace hB := Bl.next hB n4.below
      replace k1_bc := k1_bc.below n4.below
      replace hq := own_below hq n4.below
      have k4 := n4.blk
      refine g_op (by kernel_rfl) (op_app (e := 3) (n := i) (xs := ((L.drop k).take i).map (Value.int .i64)) (m := 1) (news := [.int .i64 (L.getD (k + i) 0)]) (.int .i64 0) 1 8 (i + 1) (((L.drop k).take (i + 1)).map (Value.int .i64)) rfl Tryz.underlying31 (by kernel_rfl) rfl (by decide) (by kernel_rfl) hq (by kernel_rfl) (k4.sl 1 1 (by decide) (by decide)) rfl (by simp [Value.oneCell']) (by unfold maxLen; omega) (by omega) hB.size (by rfl) (by rw [List.take_succ_eq_append_getElem (by simp; omega), List.map_append]; simp [List.getD, List.getElem?_eq_getElem (show k + i < L.length by omega)]) ?_)
      intro p5 c5 W5 o5 hg5 hb5
      replace k1_bc := k1_bc.grown hg5 hq (by decide)
      replace hB := hB.trans hb5
      refine g_pv 1 [(5, .slice p5 (i + 1) c5)] (by kernel_rfl) ?_
      refine wpList_nil ?_
      refine wp_region_lit ?_
      refine g_pv 1 [(19, .int .i64 (↑i : Int))] (by kernel_rfl) ?_
      refine g_op (by kernel_rfl) (op_wrap .i64 ((↑i : Int) + 1) (↑(i + 1) : Int) (by kernel_rfl) ((show IntKind.i64.wrap ((↑i : Int) + 1) = ((↑i : Int) + 1) from by first | exact IntWalk.i64_in _ (by omega) | (simp only [IntKind.wrap]; omega)).trans (by omega)) ?_)
      refine g_pv 1 [(6, .int .i64 (↑(i + 1) : Int))] (by kernel_rfl) ?_
      refine wpList_nil ?_
      refine g_nfr ⟨#[.pointer (some ⟨bc, 0, none⟩), .int .i64 (↑j : Int), undef, undef, .slice none 0 0, .slice p5 (i + 1) c5, .int .i64 (↑(i + 1) : Int), .int .i64 (↑i : Int), .int .i64 (↑j : Int), .bool true, .bool true, .int .i64 (↑i : Int), .pointer (some ⟨bc, 0, none⟩), .pointer (some ⟨bc, 0, none⟩), .pointer (some ⟨bc, 1, none⟩), .slice fa m fc, .int .i64 (↑m : Int), .bool (decide ((↑i : Int) < (↑m : Int))), .bool (decide ((↑i : Int) < (↑m : Int))), .int .i64 (↑i : Int), .int .i64 (↑(i + 1) : Int), .slice pq i cq, .pointer (some ⟨bc, 0, none⟩), .pointer (some ⟨bc, 0, none⟩), .pointer (some ⟨bc, 1, none⟩), .slice fa m fc, .int .i64 (↑i : Int), .pointer (some (elemAddr fa (i * 1))), .int .i64 (L.getD (k + i) 0), .slice (some ⟨b4, 0, none⟩) 1 1, .slice p5 (i + 1) c5, undef], []⟩ (by kernel_rfl) ?_
      refine ⟨⟨i + 1, _, _, (pk [.int .i64 (↑i : Int), .int .i64 (↑j : Int), .bool true, .bool true, .int .i64 (↑i : Int), .pointer (some ⟨bc, 0, none⟩), .pointer (some ⟨bc, 0, none⟩), .pointer (some ⟨bc, 1, none⟩), .slice fa m fc, .int .i64 (↑m : Int), .bool (decide ((↑i : Int) < (↑m : Int))), .bool (decide ((↑i : Int) < (↑m : Int))), .int .i64 (↑i : Int), .int .i64 (↑(i + 1) : Int), .slice pq i cq, .pointer (some ⟨bc, 0, none⟩), .pointer (some ⟨bc, 0, none⟩), .pointer (some ⟨bc, 1, none⟩), .slice fa m fc, .int .i64 (↑i : Int), .pointer (some (elemAddr fa (i * 1))), .int .i64 (L.getD (k + i) 0), .slice (some ⟨b4, 0, none⟩) 1 1, .slice p5 (i + 1) c5]), rfl, hB, k1_bc, o5, by omega⟩, ?_⟩
      show j - ((↑(i + 1) : Int)).toNat < j - ((↑i : Int)).toNat
      omega
    · have hc3 := of_decide_eq_false hc3
      refine wp_exit ?_
      refine then_exit ?_
      refine then_exit ?_
      refine inBlock_hit ?_
      refine wp_seq ?_
      refine wp_region_lit ?_
      refine g_pv 2 [(31, .slice pq i cq), (4, .slice pq i cq)] (by kernel_rfl) ?_
      refine wpList_nil ?_
      refine wp_ret ?_
      refine g_ret (.slice pq i cq) (by kernel_rfl) (by kernel_rfl) ?_
      have hi2 : i = min j m := by omega
      have e1 : min j (N - k) = i := by omega
      have e2 : (L.drop k).take j = (L.drop k).take i := by
        rcases Nat.le_total j m with q | q
        · rw [hi2, Nat.min_eq_left q]
        · rw [List.take_of_length_le (by simp; omega), List.take_of_length_le (by simp; omega)]
      rw [e1, e2]
      exact ⟨_, rfl, hB, _, _, rfl, hq⟩
  · refine g_b [9, 10] _ _ hc2 (by kernel_rfl) ?_
    have hc2 := of_decide_eq_false hc2
    refine g_pv 8 [(11, undef), (12, undef), (13, undef), (14, undef), (15, undef), (16, undef), (17, undef), (18, .bool false)] (by kernel_rfl) ?_
    refine wpList_nil ?_
    refine wp_cond_false (by kernel_rfl) ?_
    refine wp_exit ?_
    refine then_exit ?_
    refine then_exit ?_
    refine inBlock_hit ?_
    refine wp_seq ?_
    refine wp_region_lit ?_
    refine g_pv 2 [(31, .slice pq i cq), (4, .slice pq i cq)] (by kernel_rfl) ?_
    refine wpList_nil ?_
    refine wp_ret ?_
    refine g_ret (.slice pq i cq) (by kernel_rfl) (by kernel_rfl) ?_
    have hi2 : i = min j m := by omega
    have e1 : min j (N - k) = i := by omega
    have e2 : (L.drop k).take j = (L.drop k).take i := by
      rcases Nat.le_total j m with q | q
      · rw [hi2, Nat.min_eq_left q]
      · rw [List.take_of_length_le (by simp; omega), List.take_of_length_le (by simp; omega)]
    rw [e1, e2]
    exact ⟨_, rfl, hB, _, _, rfl, hq⟩
set_option maxRecDepth 100000 in
set_option maxHeartbeats 1000000 in
theorem ref01_Same (a b : Option Addr) (ca cb : Nat) (L : List Int) (w : World) (ha : Sl w (.slice a L.length ca) L.length (L.map (Value.int .i64))) (hb : Sl w (.slice b L.length cb) L.length (L.map (Value.int .i64))) (hL : L.length ≤ 1000000) :
    Calls Tryz.prog 30 #[.slice a L.length ca, .slice b L.length cb] w (Ret (.bool true) w) := by
  refine calls_of_wp Tryz.func30 rfl ?_
  refine g_fr ⟨#[.slice a L.length ca, .slice b L.length cb, undef, undef, undef, undef, undef, undef, undef, undef, undef, undef, undef, undef, undef, undef, undef, undef, undef, undef, undef, undef, undef, undef, undef, undef], []⟩ (by kernel_rfl) ?_
  refine wp_seq ?_
  refine wp_region_lit ?_
  refine g_pv 1 [(4, .bool false)] (by kernel_rfl) ?_
  refine wpList_nil ?_
  refine wp_seq ?_
  refine wp_seq ?_
  refine wp_region_lit ?_
  refine g_pv 5 [(6, .slice a L.length ca), (7, .int .i64 (↑L.length : Int)), (8, .slice b L.length cb), (9, .int .i64 (↑L.length : Int)), (10, .bool ((↑L.length : Int) != (↑L.length : Int)))] (by kernel_rfl) ?_
  refine wpList_nil ?_
  refine wp_cond_split (t := ((↑L.length : Int) != (↑L.length : Int))) (by kernel_rfl) (fun hh => absurd (hh.symm.trans (show (((↑L.length : Int) != (↑L.length : Int)) : Bool) = false from by simp)) (by decide)) (fun _ => ?_)
  refine wp_skip ?_
  refine wp_seq ?_
  refine wp_seq ?_
  refine wp_region_lit ?_
  refine g_pv 1 [(5, .int .i64 0)] (by kernel_rfl) ?_
  refine wpList_nil ?_
  refine wp_block ?_
  refine g_fr ⟨#[.slice a L.length ca, .slice b L.length cb, undef, undef, .bool false, .int .i64 0, .slice a L.length ca, .int .i64 (↑L.length : Int), .slice b L.length cb, .int .i64 (↑L.length : Int), .bool ((↑L.length : Int) != (↑L.length : Int)), undef, undef, undef, undef, undef, undef, undef, undef, undef, undef, undef, undef, undef, undef, undef], []⟩ (by kernel_rfl) ?_
  have hB := Below.refl w.heap.size w
  refine wp_loop (fun act V => ∃ (i : Nat) (x2 : Nat → Value), act = ⟨#[.slice a L.length ca, .slice b L.length cb, undef, undef, (x2 0), .int .i64 (↑i : Int), .slice a L.length ca, .int .i64 (↑L.length : Int), .slice b L.length cb, .int .i64 (↑L.length : Int), .bool ((↑L.length : Int) != (↑L.length : Int)), (x2 1), (x2 2), (x2 3), (x2 4), (x2 5), (x2 6), (x2 7), (x2 8), (x2 9), (x2 10), (x2 11), (x2 12), (x2 13), (x2 14), (x2 15)], []⟩ ∧ Below w.heap.size w V ∧ i ≤ L.length) (fun act V => L.length - ((intOf (act.tmps.getD 5 undef))).toNat) ⟨0, (pk [.bool false, undef, undef, undef, undef, undef, undef, undef, undef, undef, undef, undef, undef, undef, undef, undef]), rfl, hB, Nat.zero_le _⟩ ?_
  rintro _ W2 ⟨i, x2, rfl, hB, hi⟩
  refine wp_seq ?_
  refine wp_seq ?_
  refine wp_region_lit ?_
  refine g_pv 4 [(11, .int .i64 (↑i : Int)), (12, .slice a L.length ca), (13, .int .i64 (↑L.length : Int)), (14, .bool (decide ((↑i : Int) < (↑L.length : Int))))] (by kernel_rfl) ?_
  refine wpList_nil ?_
  refine wp_cond_split (t := decide ((↑i : Int) < (↑L.length : Int))) (by kernel_rfl) (fun hc3 => ?_) (fun hc3 => ?_)
  · have hc3 := of_decide_eq_true hc3
    refine wp_skip ?_
    refine wp_seq ?_
    refine wp_block ?_
    refine wp_seq ?_
    replace hB := Bl.next hB (below_drew W2)
    refine h_reg (Below (W2.drew).heap.size (W2.drew)) 9 rfl #[false, false, false, false, false, false, false, false, false] rfl (by kernel_rfl) (Below.refl _ _) ?_
    intro hS4
    have hBd6 := hB
    refine h_pv [0, 1] 7 rfl #[true, true, false, false, false, false, false, false, false] [(17, .slice a L.length ca), (18, .int .i64 (↑i : Int))] (by kernel_rfl) (fun _ _ _ _ _ h => h) (by kernel_rfl) hS4 ?_
    refine h_val 2 6 rfl (.pointer (some (elemAddr a (i * 1)))) rfl (by kernel_rfl) (by kernel_rfl) (by kernel_rfl) (fun _ _ _ _ _ h => h) (by kernel_rfl) (fun V hV => run_indexA (size := 1) (k := i) (b := a) (n := L.length) (c := ca) (i := (↑i : Int)) (ki := .i64) rfl (by kernel_rfl) (by kernel_rfl) rfl (by omega) (Ints.elem ha (k := i) (by omega)).1 Tryz.underlying31 (by kernel_rfl) V) hS4 ?_
    refine h_load 3 5 rfl (elemAddr a (i * 1)) (.int .i64 (L.getD i 0)) rfl (by kernel_rfl) (by kernel_rfl) (by kernel_rfl) (fun _ _ _ _ _ h => h) (by kernel_rfl) rfl (by kernel_rfl) (by kernel_rfl) (fun V hV => (Ints.elem ((ha.below hBd6).below hV) (k := i) (by omega)).2) hS4 ?_
    refine h_pv [4, 5] 3 rfl #[true, true, true, true, true, true, false, false, false] [(21, .slice b L.length cb), (22, .int .i64 (↑i : Int))] (by kernel_rfl) (fun _ _ _ _ _ h => h) (by kernel_rfl) hS4 ?_
    refine h_val 6 2 rfl (.pointer (some (elemAddr b (i * 1)))) rfl (by kernel_rfl) (by kernel_rfl) (by kernel_rfl) (fun _ _ _ _ _ h => h) (by kernel_rfl) (fun V hV => run_indexA (size := 1) (k := i) (b := b) (n := L.length) (c := cb) (i := (↑i : Int)) (ki := .i64) rfl (by kernel_rfl) (by kernel_rfl) rfl (by omega) (Ints.elem hb (k := i) (by omega)).1 Tryz.underlying31 (by kernel_rfl) V) hS4 ?_
    refine h_load 7 1 rfl (elemAddr b (i * 1)) (.int .i64 (L.getD i 0)) rfl (by kernel_rfl) (by kernel_rfl) (by kernel_rfl) (fun _ _ _ _ _ h => h) (by kernel_rfl) rfl (by kernel_rfl) (by kernel_rfl) (fun V hV => (Ints.elem ((hb.below hBd6).below hV) (k := i) (by omega)).2) hS4 ?_
    refine h_pv [8] 0 rfl #[true, true, true, true, true, true, true, true, true] [(25, .bool ((L.getD i 0) != (L.getD i 0)))] (by kernel_rfl) (fun _ _ _ _ _ h => h) (by kernel_rfl) hS4 ?_
    refine h_done _ (by kernel_rfl) ?_
    refine wp_cond_split (t := ((L.getD i 0) != (L.getD i 0))) (by kernel_rfl) (fun hh => absurd (hh.symm.trans (show (((L.getD i 0) != (L.getD i 0)) : Bool) = false from by simp)) (by decide)) (fun _ => ?_)
    refine wp_skip ?_
    refine wp_region_lit ?_
    refine g_pv 1 [(15, .int .i64 (↑i : Int))] (by kernel_rfl) ?_
    refine g_op (by kernel_rfl) (op_wrap .i64 ((↑i : Int) + 1) (↑(i + 1) : Int) (by kernel_rfl) ((show IntKind.i64.wrap ((↑i : Int) + 1) = ((↑i : Int) + 1) from by first | exact IntWalk.i64_in _ (by omega) | (simp only [IntKind.wrap]; omega)).trans (by omega)) ?_)
    refine g_pv 1 [(5, .int .i64 (↑(i + 1) : Int))] (by kernel_rfl) ?_
    refine wpList_nil ?_
    refine g_nfr ⟨#[.slice a L.length ca, .slice b L.length cb, undef, undef, (x2 0), .int .i64 (↑(i + 1) : Int), .slice a L.length ca, .int .i64 (↑L.length : Int), .slice b L.length cb, .int .i64 (↑L.length : Int), .bool ((↑L.length : Int) != (↑L.length : Int)), .int .i64 (↑i : Int), .slice a L.length ca, .int .i64 (↑L.length : Int), .bool (decide ((↑i : Int) < (↑L.length : Int))), .int .i64 (↑i : Int), .int .i64 (↑(i + 1) : Int), .slice a L.length ca, .int .i64 (↑i : Int), .pointer (some (elemAddr a (i * 1))), .int .i64 (L.getD i 0), .slice b L.length cb, .int .i64 (↑i : Int), .pointer (some (elemAddr b (i * 1))), .int .i64 (L.getD i 0), .bool ((L.getD i 0) != (L.getD i 0))], []⟩ (by kernel_rfl) ?_
    refine ⟨⟨i + 1, (pk [(x2 0), .int .i64 (↑i : Int), .slice a L.length ca, .int .i64 (↑L.length : Int), .bool (decide ((↑i : Int) < (↑L.length : Int))), .int .i64 (↑i : Int), .int .i64 (↑(i + 1) : Int), .slice a L.length ca, .int .i64 (↑i : Int), .pointer (some (elemAddr a (i * 1))), .int .i64 (L.getD i 0), .slice b L.length cb, .int .i64 (↑i : Int), .pointer (some (elemAddr b (i * 1))), .int .i64 (L.getD i 0), .bool ((L.getD i 0) != (L.getD i 0))]), rfl, hB, by omega⟩, ?_⟩
    show L.length - ((↑(i + 1) : Int)).toNat < L.length - ((↑i : Int)).toNat
    omega
  · have hc3 := of_decide_eq_false hc3
    refine wp_exit ?_
    refine then_exit ?_
    refine then_exit ?_
    refine inBlock_hit ?_
    refine wp_seq ?_
    refine wp_region_lit ?_
    refine g_pv 1 [(4, .bool true)] (by kernel_rfl) ?_
    refine wpList_nil ?_
    refine wp_ret ?_
    exact g_ret (.bool true) (by kernel_rfl) (by kernel_rfl) ⟨rfl, hB⟩
end Go.Proofs.YtbopakjiahojdaaGreatDoor

