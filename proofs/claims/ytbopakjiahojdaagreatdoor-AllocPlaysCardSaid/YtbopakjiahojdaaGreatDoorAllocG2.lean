/- Package alloc at any numbers: Next, Lay, Ahead. -/
import Derived.Test.YtbopakjiahojdaaGreatDoorAllocG
namespace Go.Proofs.YtbopakjiahojdaaGreatDoor
open Go.RowKit Go.Extern.Stop Go.Stop Go.Extern
set_option linter.unusedVariables false
attribute [local irreducible] wpList wpAnyH Code.wp Oper.wp

theorem sl_cut {w : World} {b : Option Addr} {n c : Nat} {xs : List Value} (h : Sl w (.slice b n c) n xs) (hl : xs.length = n) (k : Nat) (hk : k ≤ n) : Sl w (.slice (cutA b k c 1) (n - k) (c - k)) (n - k) (xs.drop k) := by
  rcases h with ⟨a', c', h1, h2, h3⟩ | ⟨g, off, cap, h1, h2, h3, h4⟩
  · obtain rfl : k = 0 := by omega
    subst h3 h2
    exact .inl ⟨cutA b 0 c 1, c - 0, rfl, rfl, rfl⟩
  · simp only [Value.slice.injEq] at h1
    obtain ⟨rfl, _, rfl⟩ := h1
    by_cases hz : n - k = 0
    · refine .inl ⟨cutA (some ⟨g, off, none⟩) k c 1, c - k, by rw [hz], by omega, ?_⟩
      exact List.drop_eq_nil_of_le (by omega)
    · refine .inr ⟨g, off + k * 1, c - k, ?_, by omega, by omega, fun j x hj => ?_⟩
      · rw [cutA, if_neg (by omega)]; simp [Addr.add]
      · rw [List.getElem?_drop] at hj
        have := h4 (k + j) x hj
        rwa [Nat.mul_one, Nat.add_assoc]
theorem sl_take {w : World} {b : Option Addr} {n c : Nat} {xs : List Value} (h : Sl w (.slice b n c) n xs) (hl : xs.length = n) (m : Nat) (hm : m ≤ n) : Sl w (.slice b m c) m (xs.take m) := Sl.head h hl m hm
def nxV (k N : Nat) (L : List Int) : Int := if k < N then L.getD k 0 else 0
def nxE (k N : Nat) : Int := if k < N then 0 else 14
def nxK (k N : Nat) : Nat := if k < N then k + 1 else k
def NextG (B ba b : Nat) (pa : Option Addr) (N ca k : Nat) (L : List Int) (w : World) (e : Ending) (w' : World) : Prop :=
  ∃ v, e = .returned (.tuple #[.int .i64 (nxV k N L), v]) ∧ Below B w w' ∧ Only [95] w w' ∧ AlG B ba b pa N ca (nxK k N) L w' ∧ ErrV w' [] (erT (nxE k N)) v
theorem alloc_NextG (B ba b : Nat) (pa : Option Addr) (N ca k : Nat) (L : List Int) (w : World) (hA : AlG B ba b pa N ca k L w) (hg : k < N → 0 ≤ L.getD k 0) (hBw : B ≤ w.heap.size) :
    Calls Tryz.prog 25 #[.pointer (some ⟨ba, 0, none⟩)] w (NextG B ba b pa N ca k L w) := by
  by_cases hk : k < N
  · obtain ⟨q, hq⟩ : ∃ q : Nat, L.getD k 0 = q := ⟨(L.getD k 0).toNat, by have := hg hk; omega⟩
    refine (alloc_Next B ba pa N ca k L hA.hL b q hq w hA.blk hA.nums hA.hB hBw hA.hN hk).mono ?_
    rintro e W ⟨rfl, hb, hO, _, hk2, hn2⟩
    have e1 : nxV k N L = (q : Int) := by unfold nxV; rw [if_pos hk, hq]
    have e2 : nxE k N = 0 := if_pos hk
    have e3 : nxK k N = k + 1 := if_pos hk
    exact ⟨_, by rw [e1], hb, hO, by rw [e3]; exact ⟨hk2, hn2, hA.hL, hA.hB, hA.hN, hk⟩, by rw [e2]; exact rfl⟩
  · refine (alloc_Next_none ba b pa N ca k w hA.blk (by omega)).mono ?_
    rintro e W ⟨rfl, hb⟩
    have e1 : nxV k N L = 0 := by unfold nxV; rw [if_neg hk]
    have e2 : nxE k N = 14 := if_neg hk
    have e3 : nxK k N = k := if_neg hk
    exact ⟨_, by rw [e1], hb.mono hBw, Only.of_below hb, by rw [e3]; exact hA.below hb, by rw [e2]; exact rfl⟩
/-- Write, by its two ends -/
def WroteA (B b : Nat) (p : Option Addr) (k n c : Nat) (l : List UInt8) (no kind : Int) (li : List UInt8) (w : World) (e : Ending) (w' : World) : Prop :=
  (wrE kind no k li = 0 ∧ e = .returned .nilIface ∧ Below B w w' ∧ Only [5] w w' ∧ ImgR B b p n c (wrL kind no k li l) w') ∨
  (wrE kind no k li ≠ 0 ∧ ∃ bf, e = .returned (.iface 133 (.pointer (some ⟨bf, 0, none⟩))) ∧ Below B w w' ∧ Only [5] w w' ∧ ImgR B b p n c (wrL kind no k li l) w' ∧ ErrV w' [some no] (some (wrE kind no k li)) (.iface 133 (.pointer (some ⟨bf, 0, none⟩))))
theorem block_WriteA (B b : Nat) (p : Option Addr) (k n c : Nat) (l : List UInt8) (no kind : Int) (a : Option Addr) (ca : Nat) (li : List UInt8) (w : World) (hn : n = k * 256) (hI : ImgR B b p n c l w) (hin : Bys w (.slice a li.length ca) li) (hBw : B ≤ w.heap.size) :
    Calls Tryz.prog 34 #[.pointer (some ⟨b, 0, none⟩), .int .i64 no, .int .i64 kind, .slice a li.length ca] w (WroteA B b p k n c l no kind li w) := by
  refine (block_WriteG B b p k n c l no kind a ca li w hn hI hin hBw).mono ?_
  rintro e W ⟨v, rfl, hb, hO, hI2, hv⟩
  by_cases he : wrE kind no k li = 0
  · rw [he] at hv
    obtain rfl : v = .nilIface := hv
    exact .inl ⟨he, rfl, hb, hO, hI2⟩
  · rw [erL, erT, if_neg he, if_neg he] at hv
    have hq := hv
    obtain ⟨bf, vf, rfl, _, _⟩ := hq
    exact .inr ⟨he, bf, rfl, hb, hO, hI2, hv⟩
def lyE (k N K : Nat) (L : List Int) (kind : Int) (li : List UInt8) : Int := if k < N then wrE kind (L.getD k 0) K li else 14
def lyB (k N K : Nat) (L : List Int) (kind : Int) (li : List UInt8) : List Int := if k < N then fltL (L.getD k 0) (wrE kind (L.getD k 0) K li) else []
def lyV (k N K : Nat) (L : List Int) (kind : Int) (li : List UInt8) : Int := if k < N ∧ wrE kind (L.getD k 0) K li = 0 then L.getD k 0 else 0
def lyK (k N K : Nat) (L : List Int) (kind : Int) (li : List UInt8) : Nat := if k < N ∧ wrE kind (L.getD k 0) K li = 0 then k + 1 else k
def lyL (k N K : Nat) (L : List Int) (kind : Int) (li l : List UInt8) : List UInt8 := if k < N then wrL kind (L.getD k 0) K li l else l
def LayG (B ba b : Nat) (pa : Option Addr) (N ca k : Nat) (L : List Int) (p : Option Addr) (K n c : Nat) (l : List UInt8) (kind : Int) (li : List UInt8) (w : World) (e : Ending) (w' : World) : Prop :=
  ∃ v, e = .returned (.tuple #[.int .i64 (lyV k N K L kind li), v]) ∧ Below B w w' ∧ Only [95, 5] w w' ∧ AlG B ba b pa N ca (lyK k N K L kind li) L w' ∧ ImgR B b p n c (lyL k N K L kind li l) w' ∧ ErrV w' ((lyB k N K L kind li).map some) (erT (lyE k N K L kind li)) v
set_option maxRecDepth 100000 in
set_option maxHeartbeats 1000000 in
theorem alloc_back (B ba : Nat) (v m : Value) (k : Nat) (w : World) (hk : Blk w ba [v, .int .i64 ((k + 1 : Nat) : Int), m] 95) (hB0 : B ≤ ba) (hBw : B ≤ w.heap.size) (hk2 : k ≤ 1000000) :
    Calls Tryz.prog 57 #[.pointer (some ⟨ba, 0, none⟩)] w ((fun e w' => e = .returned (.tuple #[]) ∧ Below B w w' ∧ Only [95] w w' ∧ Blk w' ba [v, .int .i64 (k : Int), m] 95)) := by
  refine calls_of_wp Tryz.func57 rfl ?_
  refine g_fr ⟨#[.pointer (some ⟨ba, 0, none⟩), undef, undef, undef, undef, undef, undef, undef, undef], []⟩ (by kernel_rfl) ?_
  refine wp_region_lit ?_
  refine g_pv 3 [(2, .pointer (some ⟨ba, 0, none⟩)), (3, .pointer (some ⟨ba, 0, none⟩)), (4, .pointer (some ⟨ba, 1, none⟩))] (by kernel_rfl) ?_
  refine g_op (by kernel_rfl) (op_load ⟨ba, 1, none⟩ (.int .i64 (↑(k + 1) : Int)) rfl (by kernel_rfl) (by kernel_rfl) (hk.cell (i := 1) rfl) ?_)
  refine g_op (by kernel_rfl) (op_wrap .i64 ((↑(k + 1) : Int) - 1) (↑k : Int) (by kernel_rfl) ((show IntKind.i64.wrap ((↑(k + 1) : Int) - 1) = ((↑(k + 1) : Int) - 1) from by first | exact IntWalk.i64_in _ (by omega) | (simp only [IntKind.wrap]; omega)).trans (by omega)) ?_)
  refine g_pv 2 [(7, .pointer (some ⟨ba, 0, none⟩)), (8, .pointer (some ⟨ba, 1, none⟩))] (by kernel_rfl) ?_
  refine g_op (by kernel_rfl) (op_store (v := .int .i64 (↑k : Int)) (b := ba) (off := 1) rfl (by kernel_rfl) (by kernel_rfl) (by kernel_rfl) rfl hk (by first | decide | simp) ?_)
  intro W1 u1 k1
  change Blk _ _ [v, .int .i64 (↑k : Int), m] _ at k1
  have hO : Only [95] w _ := (Only.of_upd u1 hk (by decide))
  have hB := u1.below (Below.refl B w) hB0
  refine wpList_nil ?_
  exact g_end (.tuple #[]) (by kernel_rfl) (by kernel_rfl) ⟨rfl, hB, hO, k1⟩
set_option maxRecDepth 100000 in
set_option maxHeartbeats 4000000 in
theorem alloc_Lay_g (B ba b : Nat) (p0 : Option Addr) (N ca k q : Nat) (L : List Int) (p : Option Addr) (K n c : Nat) (l : List UInt8) (kind : Int) (a : Option Addr) (ci : Nat) (li : List UInt8) (w : World) (hk : Blk w ba [.slice p0 N ca, .int .i64 (k : Int), .pointer (some ⟨b, 0, none⟩)] 95) (ho : w.ownsRow B 3 1 (.slice p0 N ca) N (L.map (Value.int .i64))) (hL : L.length = N) (hB0 : B ≤ ba) (hN : N ≤ 1000000) (hkN : k < N) (hq : L.getD k 0 = (q : Int)) (hn : n = K * 256) (hI : ImgR B b p n c l w) (hin : ∀ W, Below B w W → Bys W (.slice a li.length ci) li) (hBw : B ≤ w.heap.size) :
    Calls Tryz.prog 27 #[.pointer (some ⟨ba, 0, none⟩), .int .i64 kind, .slice a li.length ci] w (LayG B ba b p0 N ca k L p K n c l kind li w) := by
  refine calls_of_wp Tryz.func27 rfl ?_
  refine g_fr ⟨#[.pointer (some ⟨ba, 0, none⟩), .int .i64 kind, .slice a li.length ci, undef, undef, undef, undef, undef, undef, undef, undef, undef, undef, undef, undef, undef, undef, undef, undef, undef, undef, undef, undef, undef, undef, undef, undef, undef, undef, undef, undef, undef, undef, undef, undef], []⟩ (by kernel_rfl) ?_
  refine wp_seq ?_
  refine wp_region_lit ?_
  refine g_pv 2 [(6, .int .i64 0), (7, .nilIface)] (by kernel_rfl) ?_
  refine wpList_nil ?_
  refine wp_seq ?_
  refine wp_region_lit ?_
  refine g_pv 1 [(12, .pointer (some ⟨ba, 0, none⟩))] (by kernel_rfl) ?_
  refine g_op (by kernel_rfl) (op_call (lb := #[]) 25 #[.pointer (some ⟨ba, 0, none⟩)] rfl (by kernel_rfl) (fun _ _ => by kernel_rfl) (by kernel_rfl) ((alloc_Next B ba p0 N ca k L hL b q hq _ hk ho hB0 (Nat.le_trans hBw (Below.refl B _).size) hN hkN).mono ?_))
  rintro e W1 ⟨rfl, hb1, hO1, _, kA, ho⟩
  refine ⟨_, rfl, ?_⟩
  have hO : Only [95, 5] w _ := (only_aa hO1)
  have hB := hb1
  replace hI := hI.only hO1 (by decide)
  refine g_pv 5 [(11, .tuple #[.int .i64 (↑q : Int), .nilIface]), (14, .int .i64 (↑q : Int)), (15, .nilIface), (8, .int .i64 (↑q : Int)), (9, .nilIface)] (by kernel_rfl) ?_
  refine wpList_nil ?_
  refine wp_seq ?_
  refine wp_seq ?_
  refine wp_region_lit ?_
  refine g_pv 2 [(16, .nilIface), (17, .bool false)] (by kernel_rfl) ?_
  refine wpList_nil ?_
  refine wp_cond_false (by kernel_rfl) ?_
  refine wp_skip ?_
  refine wp_seq ?_
  refine wp_seq ?_
  refine wp_region_lit ?_
  refine g_pv 3 [(19, .pointer (some ⟨ba, 0, none⟩)), (20, .pointer (some ⟨ba, 0, none⟩)), (21, .pointer (some ⟨ba, 2, none⟩))] (by kernel_rfl) ?_
  refine g_op (by kernel_rfl) (op_load ⟨ba, 2, none⟩ (.pointer (some ⟨b, 0, none⟩)) rfl (by kernel_rfl) (by kernel_rfl) (kA.cell (i := 2) rfl) ?_)
  refine g_pv 3 [(23, .int .i64 (↑q : Int)), (24, .int .i64 kind), (25, .slice a li.length ci)] (by kernel_rfl) ?_
  refine g_op (by kernel_rfl) (op_call (lb := #[]) 34 #[.pointer (some ⟨b, 0, none⟩), .int .i64 (↑q : Int), .int .i64 kind, .slice a li.length ci] rfl (by kernel_rfl) (fun _ _ => by kernel_rfl) (by kernel_rfl) ((block_WriteA B b p K n c l (↑q : Int) kind a ci li _ hn hI (hin _ hB) (Nat.le_trans hBw hB.size)).mono ?_))
  rintro e W2 hq2
  rcases hq2 with ⟨he, rfl, hb2, hO2, hI⟩ | ⟨he, bf, rfl, hb2, hO2, hI, hv⟩
  · refine ⟨_, rfl, ?_⟩
    replace hO := hO.trans (only_ab hO2)
    replace hB := hB.trans hb2
    replace kA := kA.only hO2 (by decide)
    replace ho := own_only ho hO2 (by decide)
    refine g_pv 1 [(10, .nilIface)] (by kernel_rfl) ?_
    refine wpList_nil ?_
    refine wp_seq ?_
    refine wp_region_lit ?_
    refine g_pv 2 [(27, .nilIface), (28, .bool false)] (by kernel_rfl) ?_
    refine wpList_nil ?_
    refine wp_cond_false (by kernel_rfl) ?_
    refine wp_skip ?_
    refine wp_seq ?_
    refine wp_region_lit ?_
    refine g_pv 3 [(34, .int .i64 (↑q : Int)), (6, .int .i64 (↑q : Int)), (7, .nilIface)] (by kernel_rfl) ?_
    refine wpList_nil ?_
    refine wp_ret ?_
    refine g_ret (.tuple #[.int .i64 (↑q : Int), .nilIface]) (by kernel_rfl) (by kernel_rfl) ?_
    have h2 : k < N ∧ wrE kind (L.getD k 0) K li = 0 := ⟨hkN, by rw [hq]; exact he⟩
    exact ⟨_, by rw [lyV, if_pos h2, hq], hB, hO, by rw [lyK, if_pos h2]; exact ⟨kA, ho, hL, hB0, hN, hkN⟩, by rw [lyL, if_pos hkN, hq]; exact hI, by rw [lyB, lyE, if_pos hkN, if_pos hkN, h2.2]; exact rfl⟩
  · refine ⟨_, rfl, ?_⟩
    replace hO := hO.trans (only_ab hO2)
    replace hB := hB.trans hb2
    replace kA := kA.only hO2 (by decide)
    replace ho := own_only ho hO2 (by decide)
    refine g_pv 1 [(10, .iface 133 (.pointer (some ⟨bf, 0, none⟩)))] (by kernel_rfl) ?_
    refine wpList_nil ?_
    refine wp_seq ?_
    refine wp_region_lit ?_
    refine g_pv 2 [(27, .iface 133 (.pointer (some ⟨bf, 0, none⟩))), (28, .bool true)] (by kernel_rfl) ?_
    refine wpList_nil ?_
    refine wp_cond_true (by kernel_rfl) ?_
    refine wp_seq ?_
    refine wp_region_lit ?_
    refine g_pv 3 [(29, .pointer (some ⟨ba, 0, none⟩)), (30, .pointer (some ⟨ba, 0, none⟩)), (31, .pointer (some ⟨ba, 0, none⟩))] (by kernel_rfl) ?_
    refine g_op (by kernel_rfl) (op_call (lb := #[]) 57 #[.pointer (some ⟨ba, 0, none⟩)] rfl (by kernel_rfl) (fun _ _ => by kernel_rfl) (by kernel_rfl) ((alloc_back B ba _ _ k _ kA hB0 (Nat.le_trans hBw hB.size) (by omega)).mono ?_))
    rintro e W3 ⟨rfl, hb3, hO3, kA2⟩
    refine ⟨_, rfl, ?_⟩
    replace hO := hO.trans (only_aa hO3)
    replace hB := hB.trans hb3
    replace ho := own_only ho hO3 (by decide)
    replace hI := hI.only hO3 (by decide)
    replace hv := hv.only hO3 (by decide)
    refine wpList_nil ?_
    refine wp_seq ?_
    refine wp_region_lit ?_
    refine g_pv 3 [(33, .iface 133 (.pointer (some ⟨bf, 0, none⟩))), (6, .int .i64 0), (7, .iface 133 (.pointer (some ⟨bf, 0, none⟩)))] (by kernel_rfl) ?_
    refine wpList_nil ?_
    refine wp_ret (then_ret ?_)
    refine g_ret (.tuple #[.int .i64 0, .iface 133 (.pointer (some ⟨bf, 0, none⟩))]) (by kernel_rfl) (by kernel_rfl) ?_
    have h2 : ¬ (k < N ∧ wrE kind (L.getD k 0) K li = 0) := fun h => he (by rw [← hq]; exact h.2)
    exact ⟨_, by rw [lyV, if_neg h2], hB, hO, by rw [lyK, if_neg h2]; exact ⟨kA2, ho, hL, hB0, hN, by omega⟩, by rw [lyL, if_pos hkN, hq]; exact hI, by rw [lyB, lyE, if_pos hkN, if_pos hkN, hq, fltL_nz he, erT, if_neg he]; exact hv⟩
theorem alloc_LayG (B ba b : Nat) (pa : Option Addr) (N ca k : Nat) (L : List Int) (p : Option Addr) (K n c : Nat) (l : List UInt8) (kind : Int) (a : Option Addr) (ci : Nat) (li : List UInt8) (w : World) (hA : AlG B ba b pa N ca k L w) (hg : k < N → 0 ≤ L.getD k 0) (hn : n = K * 256) (hI : ImgR B b p n c l w) (hin : ∀ W, Below B w W → Bys W (.slice a li.length ci) li) (hBw : B ≤ w.heap.size) :
    Calls Tryz.prog 27 #[.pointer (some ⟨ba, 0, none⟩), .int .i64 kind, .slice a li.length ci] w (LayG B ba b pa N ca k L p K n c l kind li w) := by
  by_cases hk : k < N
  · obtain ⟨q, hq⟩ : ∃ q : Nat, L.getD k 0 = q := ⟨(L.getD k 0).toNat, by have := hg hk; omega⟩
    exact alloc_Lay_g B ba b pa N ca k q L p K n c l kind a ci li w hA.blk hA.nums hA.hL hA.hB hA.hN hk hq hn hI hin hBw
  · refine (alloc_Lay_none ba b pa N ca k _ _ w hA.blk (by omega)).mono ?_
    rintro e W ⟨rfl, hb⟩
    have h2 : ¬ (k < N ∧ wrE kind (L.getD k 0) K li = 0) := fun h => hk h.1
    exact ⟨_, by rw [lyV, if_neg h2], hb.mono hBw, Only.of_below hb, by rw [lyK, if_neg h2]; exact hA.below hb, by rw [lyL, if_neg hk]; exact hI.below hb, by rw [lyB, lyE, if_neg hk, if_neg hk]; exact rfl⟩
theorem aheadSl {w : World} {b : Option Addr} {n c k i : Nat} {L : List Int} (h : Sl w (.slice b n c) n (L.map (Value.int .i64))) (hl : L.length = n) (hk : k ≤ n) : Sl w (.slice (cutA b k c 1) (min i (n - k)) (c - k)) (min i (n - k)) (((L.drop k).take i).map (Value.int .i64)) := by
  have h1 := sl_cut h (by simpa using hl) k hk
  have h2 := sl_take h1 (by simp [hl]) (min i (n - k)) (by omega)
  rw [← List.map_drop, ← List.map_take] at h2
  have e : (L.drop k).take (min i (n - k)) = (L.drop k).take i := by
    rcases Nat.le_total i (n - k) with q | q
    · rw [Nat.min_eq_left q]
    · rw [Nat.min_eq_right q, List.take_of_length_le (by simp [hl]), List.take_of_length_le (by simp [hl]; omega)]
  rw [e] at h2
  exact h2
theorem aheadN {w : World} {B : Nat} {b : Option Addr} {n c k : Nat} {xs : List Value} {e size : Nat} (h : w.ownsRow B e size (.slice b n c) n xs) : cutA b k c 1 = none → c - k = 0 := by
  intro hn
  have hb : b = none := by
    unfold cutA at hn
    split at hn
    · exact hn
    · simpa using hn
  subst hb
  rcases h.2 with ⟨h2, _⟩ | ⟨g, cap, cur, h2, _⟩
  · simp only [Value.slice.injEq] at h2; omega
  · cases h2
set_option maxRecDepth 100000 in
set_option maxHeartbeats 1000000 in
theorem alloc_Ahead (B ba b : Nat) (p0 : Option Addr) (N ca k i : Nat) (L : List Int) (w : World) (hA : AlG B ba b p0 N ca k L w) (hi : i ≤ 1000000) :
    Calls Tryz.prog 31 #[.pointer (some ⟨ba, 0, none⟩), .int .i64 (↑i : Int)] w (RetS (fun w' r => ∃ q c2, r = .slice q (min i (N - k)) c2 ∧ w'.ownsRow w.heap.size 3 1 (.slice q (min i (N - k)) c2) (min i (N - k)) (((L.drop k).take i).map (Value.int .i64))) w) := by
  have hk := hA.blk
  have hkN := hA.hk
  have hL := hA.hL
  have hN := hA.hN
  have hca : N ≤ ca := by
    rcases Nat.eq_zero_or_pos N with q | q
    · omega
    · exact own_cap hA.nums q
  refine calls_of_wp Tryz.func31 rfl ?_
  refine g_fr ⟨#[.pointer (some ⟨ba, 0, none⟩), .int .i64 (↑i : Int), undef, undef, undef, undef, undef, undef, undef, undef, undef, undef, undef, undef, undef, undef, undef, undef, undef, undef, undef, undef, undef], []⟩ (by kernel_rfl) ?_
  refine wp_seq ?_
  refine wp_region_lit ?_
  refine g_pv 1 [(4, .slice none 0 0)] (by kernel_rfl) ?_
  refine wpList_nil ?_
  refine wp_seq ?_
  refine wp_seq ?_
  refine wp_region_lit ?_
  refine g_pv 1 [(6, .pointer (some ⟨ba, 0, none⟩))] (by kernel_rfl) ?_
  refine g_op (by kernel_rfl) (op_call (lb := #[]) 49 #[.pointer (some ⟨ba, 0, none⟩)] rfl (by kernel_rfl) (fun _ _ => by kernel_rfl) (by kernel_rfl) ((alloc_nobody ba b _ _ _ hk).mono ?_))
  rintro e W1 ⟨rfl, hb1⟩
  refine ⟨_, rfl, ?_⟩
  have hB := hb1
  replace hk := hk.below hb1
  refine g_pv 4 [(8, .bool false), (9, .int .i64 (↑i : Int)), (10, .bool (decide ((↑i : Int) < (1 : Int)))), (11, .bool (decide ((↑i : Int) < (1 : Int))))] (by kernel_rfl) ?_
  refine wpList_nil ?_
  refine wp_cond_split (t := decide ((↑i : Int) < (1 : Int))) (by kernel_rfl) (fun hc2 => ?_) (fun hc2 => ?_)
  · have hc2 := of_decide_eq_true hc2
    refine wp_seq ?_
    refine wp_region_lit ?_
    refine g_pv 1 [(4, .slice none 0 0)] (by kernel_rfl) ?_
    refine wpList_nil ?_
    refine wp_ret (then_ret ?_)
    refine g_ret (.slice none 0 0) (by kernel_rfl) (by kernel_rfl) ?_
    obtain rfl : i = 0 := by omega
    exact ⟨_, rfl, hB, none, 0, by rw [Nat.zero_min], by rw [Nat.zero_min, List.take_zero]; exact World.ownsRow_nil _ _ _ _⟩
  · have hc2 := of_decide_eq_false hc2
    refine wp_skip ?_
    refine wp_seq ?_
    refine wp_region_lit ?_
    refine g_pv 3 [(12, .pointer (some ⟨ba, 0, none⟩)), (13, .pointer (some ⟨ba, 0, none⟩)), (14, .pointer (some ⟨ba, 0, none⟩))] (by kernel_rfl) ?_
    refine g_op (by kernel_rfl) (op_call (lb := #[]) 58 #[.pointer (some ⟨ba, 0, none⟩)] rfl (by kernel_rfl) (fun _ _ => by kernel_rfl) (by kernel_rfl) ((alloc_left ba p0 N ca k _ _ hk hkN).mono ?_))
    rintro e W3 ⟨rfl, hb3⟩
    refine ⟨_, rfl, ?_⟩
    replace hB := Bl.next hB hb3
    replace hk := hk.below hb3
    refine g_pv 1 [(5, .slice (cutA p0 k ca 1) (N - k) (ca - k))] (by kernel_rfl) ?_
    refine wpList_nil ?_
    refine wp_seq ?_
    refine wp_region_lit ?_
    refine g_pv 4 [(16, .slice (cutA p0 k ca 1) (N - k) (ca - k)), (17, .int .i64 (↑i : Int)), (18, .slice (cutA p0 k ca 1) (N - k) (ca - k)), (19, .int .i64 (↑(N - k) : Int))] (by kernel_rfl) ?_
    refine g_op (by kernel_rfl) (op_eq (.int .i64 (↑(min i (N - k)) : Int)) (.int .i64 (if (↑(N - k) : Int) < (↑i : Int) then (↑(N - k) : Int) else (↑i : Int))) (by kernel_rfl) (congrArg (Value.int .i64) (min_cast i (N - k))) ?_)
    refine g_op (by kernel_rfl) (op_val (run_sliceH (k := (min i (N - k))) (b := (cutA p0 k ca 1)) (n := (N - k)) (c := (ca - k)) (i := (↑(min i (N - k)) : Int)) (ki := .i64) rfl (by kernel_rfl) (by kernel_rfl) rfl (by omega) Tryz.underlying31 (by kernel_rfl) _) ?_)
    have hs4 : w.heap.size ≤ (W3).heap.size := hB.size
    refine g_op (by kernel_rfl) (op_call (lb := #[]) 55 #[.slice (cutA p0 k ca 1) (min i (N - k)) (ca - k)] rfl (by kernel_rfl) (fun _ _ => by kernel_rfl) (by kernel_rfl) ((clone_intsG (cutA p0 k ca 1) (min i (N - k)) (ca - k) (((L.drop k).take i).map (Value.int .i64)) _ (aheadSl (own_sl (own_below hA.nums hB)) hL hkN) (aheadN hA.nums) (by simp; omega) (ints_one _) (by omega)).mono ?_))
    rintro e W4 ⟨_, rfl, hb4, pq, cq, rfl, hq⟩
    refine ⟨_, rfl, ?_⟩
    replace hB := Bl.next hB hb4
    replace hk := hk.below hb4
    replace hq := own_mono hq hs4
    refine g_pv 1 [(4, .slice pq (min i (N - k)) cq)] (by kernel_rfl) ?_
    refine wpList_nil ?_
    refine wp_ret ?_
    exact g_ret (.slice pq (min i (N - k)) cq) (by kernel_rfl) (by kernel_rfl) ⟨_, rfl, hB, _, _, rfl, hq⟩
set_option maxRecDepth 100000 in
set_option maxHeartbeats 1000000 in
theorem allocG_Image (B ba b : Nat) (p0 : Option Addr) (N ca k : Nat) (L : List Int) (w : World) (hA : AlG B ba b p0 N ca k L w) :
    Calls Tryz.prog 17 #[.pointer (some ⟨ba, 0, none⟩)] w (Ret (.pointer (some ⟨b, 0, none⟩)) w) := by
  have hk := hA.blk
  refine calls_of_wp Tryz.func17 rfl ?_
  refine g_fr ⟨#[.pointer (some ⟨ba, 0, none⟩), undef, undef, undef, undef, undef, undef, undef, undef], []⟩ (by kernel_rfl) ?_
  refine wp_seq ?_
  refine wp_region_lit ?_
  refine g_pv 1 [(2, .pointer none)] (by kernel_rfl) ?_
  refine wpList_nil ?_
  refine wp_seq ?_
  refine wp_seq ?_
  refine wp_region_lit ?_
  refine g_pv 1 [(3, .pointer (some ⟨ba, 0, none⟩))] (by kernel_rfl) ?_
  refine g_op (by kernel_rfl) (op_call (lb := #[]) 49 #[.pointer (some ⟨ba, 0, none⟩)] rfl (by kernel_rfl) (fun _ _ => by kernel_rfl) (by kernel_rfl) ((alloc_nobody ba b _ _ _ hk).mono ?_))
  rintro e W1 ⟨rfl, hb1⟩
  refine ⟨_, rfl, ?_⟩
  have hB := hb1
  replace hk := hk.below hb1
  refine wpList_nil ?_
  refine wp_cond_false (by kernel_rfl) ?_
  refine wp_skip ?_
  refine wp_seq ?_
  refine wp_region_lit ?_
  refine g_pv 3 [(5, .pointer (some ⟨ba, 0, none⟩)), (6, .pointer (some ⟨ba, 0, none⟩)), (7, .pointer (some ⟨ba, 2, none⟩))] (by kernel_rfl) ?_
  refine g_op (by kernel_rfl) (op_load ⟨ba, 2, none⟩ (.pointer (some ⟨b, 0, none⟩)) rfl (by kernel_rfl) (by kernel_rfl) (hk.cell (i := 2) rfl) ?_)
  refine g_pv 1 [(2, .pointer (some ⟨b, 0, none⟩))] (by kernel_rfl) ?_
  refine wpList_nil ?_
  refine wp_ret ?_
  exact g_ret (.pointer (some ⟨b, 0, none⟩)) (by kernel_rfl) (by kernel_rfl) ⟨rfl, hB⟩
/-- New, whatever the first block -/
def NewP (b : Nat) (K : Nat) (f : Int) (w : World) (e : Ending) (w' : World) : Prop :=
  (¬ (1 ≤ f ∧ f ≤ (K : Int)) ∧ e = .returned (.tuple #[.pointer none, .iface 40 (.int .i64 1)]) ∧ Below w.heap.size w w') ∨
  ((1 ≤ f ∧ f ≤ (K : Int)) ∧ ∃ ba pa ca, e = .returned (.tuple #[.pointer (some ⟨ba, 0, none⟩), .nilIface]) ∧ Below w.heap.size w w' ∧ AlG w.heap.size ba b pa (K - f.toNat) ca 0 (rngJ f.toNat (K - f.toNat)) w')
theorem alloc_NewP (b : Nat) (p0 : Option Addr) (n c K : Nat) (f : Int) (w : World) (hk : Blk w b [.slice p0 n c] 98) (hn : n ≤ 3686400) (hK : n = K * 256) :
    Calls Tryz.prog 22 #[.pointer (some ⟨b, 0, none⟩), .int .i64 f] w (NewP b K f w) := by
  have e : n / 256 = K := by omega
  by_cases hf : 1 ≤ f ∧ f ≤ (K : Int)
  · refine (alloc_NewN b p0 n c f.toNat (K - f.toNat) f (by omega) (by rw [e]) w hk hn (by omega) (by omega)).mono ?_
    rintro q W ⟨_, rfl, hb, ba, pa, ca, rfl, h1, h2, h3⟩
    exact .inr ⟨hf, ba, pa, ca, rfl, hb, h2, h3, rngJ_len _ _, h1, by omega, Nat.zero_le _⟩
  · refine (alloc_New_bad b p0 n c f w hk (by omega) (by rw [e]; exact hf)).mono ?_
    rintro q W ⟨rfl, hb⟩
    exact .inl ⟨hf, rfl, hb⟩
end Go.Proofs.YtbopakjiahojdaaGreatDoor

