/- crc.Sum of one slice, and package seal: Salt, known, sum and Seal. -/
import Derived.Test.YtoiblgeheblddaaCrc
import Derived.Test.YtoiblgeheblddaaBytesPut
namespace Go.Proofs.Ytoiblgeheblddaa
open Go.RowKit Go.Extern.Stop Go.Stop Go.Extern
set_option linter.unusedVariables false
attribute [local irreducible] wpList wpAnyH Code.wp Oper.wp

def crcSum (l : List UInt8) : Nat := crcRun 4294967295 l ^^^ 4294967295
theorem crcSum_lt (l : List UInt8) : crcSum l < 4294967296 := Nat.xor_lt_two_pow (n := 32) (crcRun_lt (by decide) l) (by decide)
theorem i64_nat {n : Nat} (h : n < 9223372036854775808) : IntKind.i64.wrap (n : Int) = (n : Int) := IntWalk.i64_in _ (by omega)
theorem i64_xor {a b : Nat} (ha : a < 4294967296) (hb : b < 4294967296) : IntKind.i64.wrap (↑(BitVec.ofInt 64 (a : Int) ^^^ BitVec.ofInt 64 (b : Int)).toNat : Int) = ((a ^^^ b : Nat) : Int) := by
  rw [BitVec.ofInt_natCast, BitVec.ofInt_natCast, BitVec.toNat_xor, BitVec.toNat_ofNat, BitVec.toNat_ofNat, Nat.mod_eq_of_lt (by omega), Nat.mod_eq_of_lt (by omega)]
  have := Nat.xor_lt_two_pow (n := 32) ha hb
  exact i64_nat (by omega)
set_option maxRecDepth 100000 in
set_option maxHeartbeats 1000000 in
theorem crc_Sum1 (g : Nat) (a : Option Addr) (c : Nat) (l : List UInt8) (w : World) (hk : Blk w g [.slice a l.length c] 22) (h : Bys w (.slice a l.length c) l) (hl : l.length ≤ 100000000) :
    Calls Try.prog 65 #[.slice (some ⟨g, 0, none⟩) 1 1] w (Ret (.int .i64 (crcSum l : Int)) w) := by
  refine calls_of_wp Try.func65 rfl ?_
  refine g_fr ⟨#[.slice (some ⟨g, 0, none⟩) 1 1, undef, undef, undef, undef, undef, undef, undef, undef, undef, undef, undef, undef, undef, undef, undef, undef, undef, undef], []⟩ (by kernel_rfl) ?_
  refine wp_seq ?_
  refine wp_region_lit ?_
  refine g_pv 1 [(2, .int .i64 0)] (by kernel_rfl) ?_
  refine wpList_nil ?_
  refine wp_seq ?_
  refine wp_region_lit ?_
  refine g_pv 1 [(3, .int .u32 4294967295)] (by kernel_rfl) ?_
  refine wpList_nil ?_
  refine wp_seq ?_
  refine wp_seq ?_
  refine wp_region_lit ?_
  refine g_pv 3 [(6, .slice (some ⟨g, 0, none⟩) 1 1), (7, .int .i64 1), (8, .int .i64 0)] (by kernel_rfl) ?_
  refine wpList_nil ?_
  refine wp_block ?_
  refine wp_loop_rounds 3 ?_
  refine g_round ?_
  refine wp_seq ?_
  refine wp_region_lit ?_
  refine g_pv 1 [(9, .bool true)] (by kernel_rfl) ?_
  refine wpList_nil ?_
  refine wp_seq ?_
  refine wp_cond_true (by kernel_rfl) ?_
  refine wp_skip ?_
  refine wp_seq ?_
  refine wp_block ?_
  refine wp_seq ?_
  refine wp_region_lit ?_
  refine g_pv 1 [(10, .pointer (some ⟨g, 0, none⟩))] (by kernel_rfl) ?_
  refine g_op (by kernel_rfl) (op_load ⟨g, 0, none⟩ (.slice a l.length c) rfl (by kernel_rfl) (by kernel_rfl) (hk.cell (i := 0) rfl) ?_)
  refine g_pv 1 [(5, .slice a l.length c)] (by kernel_rfl) ?_
  refine wpList_nil ?_
  refine wp_region_lit ?_
  refine g_pv 2 [(12, .int .u32 4294967295), (13, .slice a l.length c)] (by kernel_rfl) ?_
  refine g_op (by kernel_rfl) (op_call (lb := #[]) 76 #[.int .u32 4294967295, .slice a l.length c] rfl (by kernel_rfl) (fun _ _ => by kernel_rfl) (by kernel_rfl) ((crc_run 4294967295 (by decide) a c l _ (h.below (Below.refl w.heap.size _)) hl).mono ?_))
  rintro e W1 ⟨rfl, hb1⟩
  refine ⟨_, rfl, ?_⟩
  have hB := hb1
  replace hk := hk.below hb1
  refine g_pv 1 [(3, .int .u32 (↑(crcRun 4294967295 l) : Int))] (by kernel_rfl) ?_
  refine wpList_nil ?_
  refine wp_region_lit ?_
  refine g_pv 2 [(15, .int .i64 1), (8, .int .i64 1)] (by kernel_rfl) ?_
  refine wpList_nil ?_
  refine g_round ?_
  refine wp_seq ?_
  refine wp_region_lit ?_
  refine g_pv 1 [(9, .bool false)] (by kernel_rfl) ?_
  refine wpList_nil ?_
  refine wp_seq ?_
  refine wp_cond_false (by kernel_rfl) ?_
  refine wp_exit ?_
  refine then_exit ?_
  refine then_exit ?_
  refine inBlock_hit ?_
  refine wp_seq ?_
  refine wp_region_lit ?_
  refine g_pv 1 [(16, .int .u32 (↑(crcRun 4294967295 l) : Int))] (by kernel_rfl) ?_
  refine g_op (by kernel_rfl) (op_eq (.int .u32 (↑(crcSum l) : Int)) (.int .u32 (IntKind.u32.wrap (↑(BitVec.ofInt 32 (↑(crcRun 4294967295 l) : Int) ^^^ BitVec.ofInt 32 (4294967295 : Int)).toNat : Int))) (by kernel_rfl) (congrArg (Value.int .u32) (u32_xor (b := 4294967295) (crcRun_lt (by decide) l) (by decide))) ?_)
  refine g_op (by kernel_rfl) (op_eq (.int .i64 (↑(crcSum l) : Int)) (.int .i64 (IntKind.i64.wrap (↑(crcSum l) : Int))) (by kernel_rfl) (congrArg (Value.int .i64) (i64_nat (by have := crcSum_lt l; omega))) ?_)
  refine g_pv 1 [(2, .int .i64 (↑(crcSum l) : Int))] (by kernel_rfl) ?_
  refine wpList_nil ?_
  refine wp_ret ?_
  exact g_ret (.int .i64 (↑(crcSum l) : Int)) (by kernel_rfl) (by kernel_rfl) ⟨rfl, hB⟩
theorem crc_Sum1N (g : Nat) (a : Option Addr) (n c : Nat) (l : List UInt8) (w : World) (hn : l.length = n) (hk : Blk w g [.slice a n c] 22) (h : Bys w (.slice a n c) l) (hl : n ≤ 100000000) :
    Calls Try.prog 65 #[.slice (some ⟨g, 0, none⟩) 1 1] w (Ret (.int .i64 (crcSum l : Int)) w) := by
  subst hn; exact crc_Sum1 g a c l w hk h hl
/-- the salt of a kind -/
def saltN (kind : Int) : Nat := if kind = 1 then 160774 else if kind = 2 then 121107 else if kind = 3 then 240779 else if kind = 4 then 160478 else 0
theorem saltN_lt (kind : Int) : saltN kind < 4294967296 := by unfold saltN; (repeat' split) <;> omega
set_option maxRecDepth 100000 in
set_option maxHeartbeats 1000000 in
theorem seal_Salt (kind : Int) (w : World) :
    Calls Try.prog 66 #[.int .i64 kind] w (Ret (.int .i64 (saltN kind : Int)) w) := by
  refine calls_of_wp Try.func66 rfl ?_
  refine g_fr ⟨#[.int .i64 kind, undef, undef, undef, undef, undef, undef, undef, undef, undef, undef, undef], []⟩ (by kernel_rfl) ?_
  refine wp_seq ?_
  refine wp_region_lit ?_
  refine g_pv 1 [(2, .int .i64 0)] (by kernel_rfl) ?_
  refine wpList_nil ?_
  refine wp_seq ?_
  refine wp_seq ?_
  refine wp_region_lit ?_
  refine g_pv 1 [(3, .int .i64 kind)] (by kernel_rfl) ?_
  refine wpList_nil ?_
  refine wp_block ?_
  refine wp_seq ?_
  refine wp_region_lit ?_
  refine g_pv 2 [(5, .bool (kind == (1 : Int))), (4, .bool (kind == (1 : Int)))] (by kernel_rfl) ?_
  refine wpList_nil ?_
  refine wp_cond_split (t := (kind == (1 : Int))) (by kernel_rfl) (fun hc1 => ?_) (fun hc1 => ?_)
  · have hc1 := eq_of_beq hc1
    refine wp_seq ?_
    refine wp_region_lit ?_
    refine g_pv 1 [(2, .int .i64 160774)] (by kernel_rfl) ?_
    refine wpList_nil ?_
    refine wp_ret (inBlock_ret (then_ret ?_))
    exact g_ret (.int .i64 160774) (by kernel_rfl) (by kernel_rfl) ⟨by simp_all [saltN], (Below.refl w.heap.size _)⟩
  · have hc1 := ne_of_beq_false hc1
    refine wp_seq ?_
    refine wp_region_lit ?_
    refine g_pv 2 [(7, .bool (kind == (2 : Int))), (6, .bool (kind == (2 : Int)))] (by kernel_rfl) ?_
    refine wpList_nil ?_
    refine wp_cond_split (t := (kind == (2 : Int))) (by kernel_rfl) (fun hc2 => ?_) (fun hc2 => ?_)
    · have hc2 := eq_of_beq hc2
      refine wp_seq ?_
      refine wp_region_lit ?_
      refine g_pv 1 [(2, .int .i64 121107)] (by kernel_rfl) ?_
      refine wpList_nil ?_
      refine wp_ret (inBlock_ret (then_ret ?_))
      exact g_ret (.int .i64 121107) (by kernel_rfl) (by kernel_rfl) ⟨by simp_all [saltN], (Below.refl w.heap.size _)⟩
    · have hc2 := ne_of_beq_false hc2
      refine wp_seq ?_
      refine wp_region_lit ?_
      refine g_pv 2 [(9, .bool (kind == (3 : Int))), (8, .bool (kind == (3 : Int)))] (by kernel_rfl) ?_
      refine wpList_nil ?_
      refine wp_cond_split (t := (kind == (3 : Int))) (by kernel_rfl) (fun hc3 => ?_) (fun hc3 => ?_)
      · have hc3 := eq_of_beq hc3
        refine wp_seq ?_
        refine wp_region_lit ?_
        refine g_pv 1 [(2, .int .i64 240779)] (by kernel_rfl) ?_
        refine wpList_nil ?_
        refine wp_ret (inBlock_ret (then_ret ?_))
        exact g_ret (.int .i64 240779) (by kernel_rfl) (by kernel_rfl) ⟨by simp_all [saltN], (Below.refl w.heap.size _)⟩
      · have hc3 := ne_of_beq_false hc3
        refine wp_seq ?_
        refine wp_region_lit ?_
        refine g_pv 2 [(11, .bool (kind == (4 : Int))), (10, .bool (kind == (4 : Int)))] (by kernel_rfl) ?_
        refine wpList_nil ?_
        refine wp_cond_split (t := (kind == (4 : Int))) (by kernel_rfl) (fun hc4 => ?_) (fun hc4 => ?_)
        · have hc4 := eq_of_beq hc4
          refine wp_seq ?_
          refine wp_region_lit ?_
          refine g_pv 1 [(2, .int .i64 160478)] (by kernel_rfl) ?_
          refine wpList_nil ?_
          refine wp_ret (inBlock_ret (then_ret ?_))
          exact g_ret (.int .i64 160478) (by kernel_rfl) (by kernel_rfl) ⟨by simp_all [saltN], (Below.refl w.heap.size _)⟩
        · have hc4 := ne_of_beq_false hc4
          refine wp_skip ?_
          refine wp_seq ?_
          refine wp_region_lit ?_
          refine g_pv 1 [(2, .int .i64 0)] (by kernel_rfl) ?_
          refine wpList_nil ?_
          refine wp_ret ?_
          exact g_ret (.int .i64 0) (by kernel_rfl) (by kernel_rfl) ⟨by simp_all [saltN], (Below.refl w.heap.size _)⟩
set_option maxRecDepth 100000 in
set_option maxHeartbeats 1000000 in
theorem seal_known (kind no : Int) (h1 : 1 ≤ kind) (h2 : kind ≤ 4) (h3 : 0 ≤ no) (h4 : no < 14400) (w : World) :
    Calls Try.prog 45 #[.int .i64 kind, .int .i64 no] w (Ret (.bool true) w) := by
  refine calls_of_wp Try.func45 rfl ?_
  refine g_fr ⟨#[.int .i64 kind, .int .i64 no, undef, undef, undef, undef, undef, undef, undef, undef, undef, undef, undef, undef, undef, undef, undef, undef, undef], []⟩ (by kernel_rfl) ?_
  refine wp_seq ?_
  refine wp_region_lit ?_
  refine g_pv 1 [(4, .bool false)] (by kernel_rfl) ?_
  refine wpList_nil ?_
  refine wp_seq ?_
  refine wp_region_lit ?_
  refine g_pv 3 [(5, .int .i64 kind), (6, .bool (decide (kind ≥ (1 : Int)))), (7, .bool (decide (kind ≥ (1 : Int))))] (by kernel_rfl) ?_
  have hc1 : (decide (kind ≥ (1 : Int)) : Bool) = true := decide_eq_true h1
  refine g_b [6, 7] _ _ hc1 (by kernel_rfl) ?_
  refine g_pv 4 [(8, .int .i64 kind), (9, .bool (decide (kind ≤ (4 : Int)))), (10, .bool (decide (kind ≤ (4 : Int)))), (11, .bool (decide (kind ≤ (4 : Int))))] (by kernel_rfl) ?_
  have hc2 : (decide (kind ≤ (4 : Int)) : Bool) = true := decide_eq_true h2
  refine g_b [9, 10, 11] _ _ hc2 (by kernel_rfl) ?_
  refine g_pv 4 [(12, .int .i64 no), (13, .bool (decide (no ≥ (0 : Int)))), (14, .bool (decide (no ≥ (0 : Int)))), (15, .bool (decide (no ≥ (0 : Int))))] (by kernel_rfl) ?_
  have hc3 : (decide (no ≥ (0 : Int)) : Bool) = true := decide_eq_true h3
  refine g_b [13, 14, 15] _ _ hc3 (by kernel_rfl) ?_
  refine g_pv 4 [(16, .int .i64 no), (17, .bool (decide (no < (14400 : Int)))), (18, .bool (decide (no < (14400 : Int)))), (4, .bool (decide (no < (14400 : Int))))] (by kernel_rfl) ?_
  refine wpList_nil ?_
  refine wp_ret ?_
  exact g_ret (.bool (decide (no < (14400 : Int)))) (by kernel_rfl) (by kernel_rfl) ⟨by rw [decide_eq_true h4], (Below.refl w.heap.size _)⟩
theorem Bys.take {w : World} {a : Option Addr} {n c : Nat} {l : List UInt8} (h : Bys w (.slice a n c) l) (hn : l.length = n) (m : Nat) (hm : m ≤ n) : Bys w (.slice a m c) (l.take m) := by
  have hlen : (l.take m).length = m := by simp; omega
  rcases h with ⟨a', c', h1, h2, h3⟩ | ⟨b, off, cap, h1, h2, h3, h4⟩
  · obtain rfl : m = 0 := by omega
    simp only [Value.slice.injEq] at h1
    exact .inl ⟨a, c, rfl, by simp, by simp⟩
  · simp only [Value.slice.injEq] at h1
    obtain ⟨rfl, _, rfl⟩ := h1
    refine .inr ⟨b, off, c, by rw [hlen], by omega, h3, fun j x hj => h4 j x ?_⟩
    have hjm : j < m := by have := (List.getElem?_eq_some_iff.1 hj).1; simp at this; omega
    rwa [List.map_take, List.getElem?_take_of_lt hjm] at hj
/-- the sum that a block must have -/
def sumB (l : List UInt8) (kind : Int) : Nat := crcSum (l.take 252) ^^^ saltN kind
theorem sumB_lt (l : List UInt8) (kind : Int) : sumB l kind < 4294967296 := Nat.xor_lt_two_pow (n := 32) (crcSum_lt _) (saltN_lt _)
set_option maxRecDepth 100000 in
set_option maxHeartbeats 1000000 in
theorem seal_sum (kind : Int) (a : Option Addr) (c : Nat) (l : List UInt8) (w : World) (hn : l.length = 256) (hc : 256 ≤ c) (h : Bys w (.slice a 256 c) l) :
    Calls Try.prog 47 #[.slice a 256 c, .int .i64 kind] w (Ret (.int .i64 (sumB l kind : Int)) w) := by
  refine calls_of_wp Try.func47 rfl ?_
  refine g_fr ⟨#[.slice a 256 c, .int .i64 kind, undef, undef, undef, undef, undef, undef, undef, undef, undef, undef], []⟩ (by kernel_rfl) ?_
  refine wp_seq ?_
  refine wp_region_lit ?_
  refine g_pv 1 [(4, .int .i64 0)] (by kernel_rfl) ?_
  refine wpList_nil ?_
  refine wp_seq ?_
  refine wp_region_lit ?_
  refine g_pv 1 [(5, .slice a 256 c)] (by kernel_rfl) ?_
  refine g_op (by kernel_rfl) (op_val (run_sliceH (k := 252) (b := a) (n := 256) (c := c) (i := 252) (ki := .i64) rfl (by kernel_rfl) (by kernel_rfl) rfl (by omega) Try.underlying22 (by kernel_rfl) _) ?_)
  refine g_op (by kernel_rfl) (op_buildSlice 22 [.slice a 252 c] rfl (by kernel_rfl) ?_)
  intro b1 W1 n1
  have g1 := n1.ge (Below.refl w.heap.size _)
  have hB := n1.below
  have k1 := n1.blk
  refine g_op (by kernel_rfl) (op_call (lb := #[]) 65 #[.slice (some ⟨b1, 0, none⟩) 1 1] rfl (by kernel_rfl) (fun _ _ => by kernel_rfl) (by kernel_rfl) ((crc_Sum1N b1 a 252 c (l.take 252) _ (by simp; omega) k1 ((h.take hn 252 (by decide)).below hB) (by decide)).mono ?_))
  rintro e W2 ⟨rfl, hb2⟩
  refine ⟨_, rfl, ?_⟩
  replace hB := Bl.next hB hb2
  replace k1 := k1.below hb2
  refine g_pv 1 [(9, .int .i64 kind)] (by kernel_rfl) ?_
  refine g_op (by kernel_rfl) (op_call (lb := #[]) 66 #[.int .i64 kind] rfl (by kernel_rfl) (fun _ _ => by kernel_rfl) (by kernel_rfl) ((seal_Salt kind _).mono ?_))
  rintro e W3 ⟨rfl, hb3⟩
  refine ⟨_, rfl, ?_⟩
  replace hB := Bl.next hB hb3
  replace k1 := k1.below hb3
  refine g_op (by kernel_rfl) (op_eq (.int .i64 (↑(sumB l kind) : Int)) (.int .i64 (IntKind.i64.wrap (↑(BitVec.ofInt 64 (↑(crcSum (l.take 252)) : Int) ^^^ BitVec.ofInt 64 (↑(saltN kind) : Int)).toNat : Int))) (by kernel_rfl) (congrArg (Value.int .i64) (i64_xor (crcSum_lt _) (saltN_lt _))) ?_)
  refine g_pv 1 [(4, .int .i64 (↑(sumB l kind) : Int))] (by kernel_rfl) ?_
  refine wpList_nil ?_
  refine wp_ret ?_
  exact g_ret (.int .i64 (↑(sumB l kind) : Int)) (by kernel_rfl) (by kernel_rfl) ⟨rfl, hB⟩
theorem putB_len {l : List UInt8} {k : Nat} {x : List UInt8} (h : k + x.length ≤ l.length) : (putB l k x).length = l.length := by simp [putB]; omega
theorem zerosB (n : Nat) : zeros (Value.int .u8 0).cells.toList n = (List.replicate n (0 : UInt8)).map bv := by
  rw [show (Value.int .u8 0).cells.toList = [Value.int .u8 0] from rfl, zeros, List.map_replicate]
  induction n with
  | zero => rfl
  | succ n ih => rw [List.replicate_succ, List.flatten_cons, ih, List.replicate_succ]; rfl
theorem bys_of {w : World} {v : Value} {n : Nat} {l : List UInt8} (h : Sl w v n (l.map bv)) (hn : l.length = n) : Bys w v l := by subst hn; exact h
theorem own_cap {w : World} {base n c size : Nat} {e : TypeId} {p : Option Addr} {xs : List Value} (h : w.ownsRow base e size (.slice p n c) n xs) (hn : 0 < n) : n ≤ c := by
  rcases h.2 with ⟨_, h0⟩ | ⟨g, cap, cur, hv, _, _, hc, _⟩
  · omega
  · simp only [Value.slice.injEq] at hv; omega
theorem putN {m : Nat} {l : List UInt8} {k : Nat} {x : List UInt8} {w : World} {e : Ending} {w' : World} (hm : l.length = m) (hk : k + x.length ≤ m) (h : RetS (fun w' r => ∃ v, r = .tuple #[v, .int .i64 0] ∧ OwnB w.heap.size w' v (putB l k x)) w e w') :
    RetS (fun w' r => ∃ p c, r = .tuple #[.slice p m c, .int .i64 0] ∧ w'.ownsRow w.heap.size 5 1 (.slice p m c) m ((putB l k x).map bv)) w e w' := by
  obtain ⟨r, h1, h2, v, h3, h4⟩ := h
  unfold OwnB at h4
  rw [putB_len (by omega), hm] at h4
  obtain ⟨p, c, rfl⟩ := (own_sl h4).slice
  exact ⟨r, h1, h2, p, c, h3, h4⟩
theorem Put_4N (a : Option Addr) (m c k : Nat) (ki : Int) (l : List UInt8) (n : Int) (w : World) (hm : l.length = m) (hki : ki = (k : Int)) (h : Bys w (.slice a m c) l) (hl : m ≤ 100000) (hk : k + 4 ≤ m) (h0 : 0 ≤ n) (hb : n < 4294967296) :
    Calls Try.prog 46 #[.slice a m c, .int .i64 ki, .int .i64 4, .int .i64 n] w (RetS (fun w' r => ∃ p c, r = .tuple #[.slice p m c, .int .i64 0] ∧ w'.ownsRow w.heap.size 5 1 (.slice p m c) m ((putB l k (leB n 4)).map bv)) w) := by
  subst hki
  refine (show Calls _ _ #[.slice a m c, .int .i64 (k : Int), .int .i64 4, .int .i64 n] w _ from ?_)
  have := Put_4 a c k l n w (by rw [hm]; exact h) (by omega) (by omega) h0 hb
  rw [hm] at this
  exact this.mono fun e w' q => putN hm (by rw [leB_len]; omega) q
theorem Put_2N (a : Option Addr) (m c k : Nat) (ki : Int) (l : List UInt8) (n : Int) (w : World) (hm : l.length = m) (hki : ki = (k : Int)) (h : Bys w (.slice a m c) l) (hl : m ≤ 100000) (hk : k + 2 ≤ m) (h0 : 0 ≤ n) (hb : n < 65536) :
    Calls Try.prog 46 #[.slice a m c, .int .i64 ki, .int .i64 2, .int .i64 n] w (RetS (fun w' r => ∃ p c, r = .tuple #[.slice p m c, .int .i64 0] ∧ w'.ownsRow w.heap.size 5 1 (.slice p m c) m ((putB l k (leB n 2)).map bv)) w) := by
  subst hki
  have := Put_2 a c k l n w (by rw [hm]; exact h) (by omega) (by omega) h0 hb
  rw [hm] at this
  exact this.mono fun e w' q => putN hm (by rw [leB_len]; omega) q
def seal1 (li : List UInt8) : List UInt8 := putB (List.replicate 256 0) 8 li
def seal2 (no : Int) (li : List UInt8) : List UInt8 := putB (seal1 li) 0 (leB no 4)
def seal3 (kind no : Int) (li : List UInt8) : List UInt8 := putB (seal2 no li) 4 (leB kind 2)
/-- a sealed block -/
def sealB (kind no : Int) (li : List UInt8) : List UInt8 := putB (seal3 kind no li) 252 (leB (sumB (seal3 kind no li) kind) 4)
theorem seal1_len {li : List UInt8} (h : li.length ≤ 244) : (seal1 li).length = 256 := by rw [seal1, putB_len (by rw [List.length_replicate]; omega), List.length_replicate]
theorem seal2_len {no : Int} {li : List UInt8} (h : li.length ≤ 244) : (seal2 no li).length = 256 := by rw [seal2, putB_len (by rw [leB_len, seal1_len h]; omega), seal1_len h]
theorem seal3_len {kind no : Int} {li : List UInt8} (h : li.length ≤ 244) : (seal3 kind no li).length = 256 := by rw [seal3, putB_len (by rw [leB_len, seal2_len h]; omega), seal2_len h]
theorem sealB_len {kind no : Int} {li : List UInt8} (h : li.length ≤ 244) : (sealB kind no li).length = 256 := by rw [sealB, putB_len (by rw [leB_len, seal3_len h]; omega), seal3_len h]
set_option maxRecDepth 100000 in
set_option maxHeartbeats 1000000 in
theorem seal_Seal (kind no : Int) (h1 : 1 ≤ kind) (h2 : kind ≤ 4) (h3 : 0 ≤ no) (h4 : no < 14400) (a : Option Addr) (c : Nat) (li : List UInt8) (w : World) (hl : li.length ≤ 244) (h : Bys w (.slice a li.length c) li) :
    Calls Try.prog 25 #[.int .i64 kind, .int .i64 no, .slice a li.length c] w (RetS (fun w' r => ∃ p c, r = .tuple #[.slice p 256 c, .int .i64 0] ∧ w'.ownsRow w.heap.size 5 1 (.slice p 256 c) 256 ((sealB kind no li).map bv)) w) := by
  refine calls_of_wp Try.func25 rfl ?_
  refine g_fr ⟨#[.int .i64 kind, .int .i64 no, .slice a li.length c, undef, undef, undef, undef, undef, undef, undef, undef, undef, undef, undef, undef, undef, undef, undef, undef, undef, undef, undef, undef, undef, undef, undef, undef, undef, undef, undef, undef, undef, undef, undef, undef, undef, undef, undef, undef, undef, undef, undef, undef, undef, undef, undef, undef, undef, undef, undef, undef, undef, undef, undef], []⟩ (by kernel_rfl) ?_
  refine wp_seq ?_
  refine wp_region_lit ?_
  refine g_pv 2 [(6, .slice none 0 0), (7, .int .i64 0)] (by kernel_rfl) ?_
  refine wpList_nil ?_
  refine wp_seq ?_
  refine wp_seq ?_
  refine wp_region_lit ?_
  refine g_pv 2 [(11, .int .i64 kind), (12, .int .i64 no)] (by kernel_rfl) ?_
  refine g_op (by kernel_rfl) (op_call (lb := #[]) 45 #[.int .i64 kind, .int .i64 no] rfl (by kernel_rfl) (fun _ _ => by kernel_rfl) (by kernel_rfl) ((seal_known kind no h1 h2 h3 h4 _).mono ?_))
  rintro e W1 ⟨rfl, hb1⟩
  refine ⟨_, rfl, ?_⟩
  have hB := hb1
  refine g_pv 1 [(14, .bool false)] (by kernel_rfl) ?_
  refine wpList_nil ?_
  refine wp_cond_false (by kernel_rfl) ?_
  refine wp_skip ?_
  refine wp_seq ?_
  refine wp_seq ?_
  refine wp_region_lit ?_
  refine g_pv 3 [(15, .slice a li.length c), (16, .int .i64 (↑li.length : Int)), (17, .bool (decide ((↑li.length : Int) > (244 : Int))))] (by kernel_rfl) ?_
  refine wpList_nil ?_
  refine wp_cond_split (t := decide ((↑li.length : Int) > (244 : Int))) (by kernel_rfl) (fun hh => absurd (hh.symm.trans (show (decide ((↑li.length : Int) > (244 : Int)) : Bool) = false from decide_eq_false (by omega))) (by decide)) (fun _ => ?_)
  refine wp_skip ?_
  refine wp_seq ?_
  refine wp_region_lit ?_
  refine g_op (by kernel_rfl) (op_make 256 (.int .u8 0) 1 1 ((List.replicate 256 (0 : UInt8)).map bv) rfl (by kernel_rfl) (by kernel_rfl) Try.underlying22 (by kernel_rfl) rfl (by omega) (by omega) (zerosB 256) ?_)
  intro b3 W3 n3
  have g3 := n3.ge hB
  replace hB := Bl.next hB n3.below
  have k3 := n3.blk
  have o4 := own_of_blk (size := 1) (n := 256) k3 g3 (by simp) (by unfold maxLen; omega)
  refine g_pv 1 [(8, .slice (some ⟨b3, 0, none⟩) 256 256)] (by kernel_rfl) ?_
  refine wpList_nil ?_
  refine wp_seq ?_
  refine wp_region_lit ?_
  refine g_pv 3 [(19, .slice (some ⟨b3, 0, none⟩) 256 256), (20, .slice (some ⟨b3, 8, none⟩) 248 248), (21, .slice a li.length c)] (by kernel_rfl) ?_
  refine g_op (by kernel_rfl) (op_copy (dLen := 248) (dCap := 248) (base := w.heap.size) (g := b3) (off := 8) (n := 256) (cap := 256) (xs := ((List.replicate 256 (0 : UInt8)).map bv)) (li.length) (li.map bv) ((seal1 li).map bv) rfl Try.underlying22 (by kernel_rfl) (by kernel_rfl) (by kernel_rfl) (h.below hB) o4 (by simp) (by omega) (by omega) (bv_one li) (hB.size) (by simp [seal1, putB, List.map_drop]) ?_)
  intro W5 o5 hg5 hb5
  replace hB := hB.trans hb5
  clear hg5
  refine wpList_nil ?_
  refine wp_seq ?_
  refine wp_seq ?_
  refine wp_region_lit ?_
  refine g_pv 4 [(23, .int .i64 no), (24, .agg #[.int .i64 0, .int .i64 4, .int .i64 no]), (25, .int .i64 kind), (26, .agg #[.int .i64 4, .int .i64 2, .int .i64 kind])] (by kernel_rfl) ?_
  refine g_op (by kernel_rfl) (op_buildSlice 101 [.int .i64 0, .int .i64 4, .int .i64 no, .int .i64 4, .int .i64 2, .int .i64 kind] rfl (by kernel_rfl) ?_)
  intro b6 W6 n6
  have g6 := n6.ge hB
  replace hB := Bl.next hB n6.below
  replace o5 := own_below o5 n6.below
  have k6 := n6.blk
  refine g_pv 2 [(28, .int .i64 2), (29, .int .i64 0)] (by kernel_rfl) ?_
  refine wpList_nil ?_
  refine wp_block ?_
  refine wp_loop_rounds 4 ?_
  refine g_round ?_
  refine wp_seq ?_
  refine wp_region_lit ?_
  refine g_pv 1 [(30, .bool true)] (by kernel_rfl) ?_
  refine wpList_nil ?_
  refine wp_seq ?_
  refine wp_cond_true (by kernel_rfl) ?_
  refine wp_skip ?_
  refine wp_seq ?_
  refine wp_block ?_
  refine wp_seq ?_
  refine wp_region_lit ?_
  refine g_pv 1 [(31, .pointer (some ⟨b6, 0, none⟩))] (by kernel_rfl) ?_
  refine g_op (by kernel_rfl) (op_loadv (b := b6) (off := 0) [.int .i64 0, .int .i64 4, .int .i64 no] _ rfl (by kernel_rfl) Try.underlying101 rfl (by kernel_rfl) (k6.part 0 3 (by first | decide | simp)) ?_)
  refine g_op (by kernel_rfl) (op_alloc [.int .i64 0, .int .i64 0, .int .i64 0] rfl (by kernel_rfl) ?_)
  intro b7 W7 n7
  have d7_b6 := n7.ne k6
  have g7 := n7.ge hB
  replace hB := Bl.next hB n7.below
  replace k6 := k6.below n7.below
  replace o5 := own_below o5 n7.below
  have k7 := n7.blk
  refine g_op (by kernel_rfl) (op_storev (b := b7) (off := 0) [.int .i64 0, .int .i64 4, .int .i64 no] rfl (by kernel_rfl) (by kernel_rfl) (by kernel_rfl) (by first | decide | simp [Value.oneCell']) k7 (by first | decide | simp) ?_)
  intro W8 u8 k8
  change Blk _ _ [.int .i64 0, .int .i64 4, .int .i64 no] _ at k8
  replace hB := u8.below hB g7
  replace k6 := u8.blk k6 (Ne.symm (Ne.symm d7_b6))
  replace o5 := u8.own2 o5 k7 (by decide)
  refine wpList_nil ?_
  refine wp_region_lit ?_
  refine g_pv 2 [(34, .slice (some ⟨b3, 0, none⟩) 256 256), (35, .pointer (some ⟨b7, 0, none⟩))] (by kernel_rfl) ?_
  refine g_op (by kernel_rfl) (op_load ⟨b7, 0, none⟩ (.int .i64 0) rfl (by kernel_rfl) (by kernel_rfl) (k8.cell (i := 0) rfl) ?_)
  refine g_pv 1 [(37, .pointer (some ⟨b7, 1, none⟩))] (by kernel_rfl) ?_
  refine g_op (by kernel_rfl) (op_load ⟨b7, 1, none⟩ (.int .i64 4) rfl (by kernel_rfl) (by kernel_rfl) (k8.cell (i := 1) rfl) ?_)
  refine g_pure 1 ⟨#[.int .i64 kind, .int .i64 no, .slice a li.length c, undef, undef, undef, .slice none 0 0, .int .i64 0, .slice (some ⟨b3, 0, none⟩) 256 256, undef, .pointer (some ⟨b7, 0, none⟩), .int .i64 kind, .int .i64 no, .bool true, .bool false, .slice a li.length c, .int .i64 (↑li.length : Int), .bool (decide ((↑li.length : Int) > (244 : Int))), .slice (some ⟨b3, 0, none⟩) 256 256, .slice (some ⟨b3, 0, none⟩) 256 256, .slice (some ⟨b3, 8, none⟩) 248 248, .slice a li.length c, .int .i64 (↑li.length : Int), .int .i64 no, .agg #[.int .i64 0, .int .i64 4, .int .i64 no], .int .i64 kind, .agg #[.int .i64 4, .int .i64 2, .int .i64 kind], .slice (some ⟨b6, 0, none⟩) 2 2, .int .i64 2, .int .i64 0, .bool true, .pointer (some ⟨b6, 0, none⟩), .agg #[.int .i64 0, .int .i64 4, .int .i64 no], undef, .slice (some ⟨b3, 0, none⟩) 256 256, .pointer (some ⟨b7, 0, none⟩), .int .i64 0, .pointer (some ⟨b7, 1, none⟩), .int .i64 4, .pointer (some ⟨b7, 2, none⟩), undef, undef, undef, undef, undef, undef, undef, undef, undef, undef, undef, undef, undef, undef], []⟩ (by kernel_rfl) ?_
  refine g_op (by kernel_rfl) (op_load ⟨b7, 2, none⟩ (.int .i64 no) rfl (by kernel_rfl) (by kernel_rfl) (k8.cell (i := 2) rfl) ?_)
  have hs9 : w.heap.size ≤ (W8).heap.size := hB.size
  refine g_op (by kernel_rfl) (op_call (lb := #[]) 46 #[.slice (some ⟨b3, 0, none⟩) 256 256, .int .i64 0, .int .i64 4, .int .i64 no] rfl (by kernel_rfl) (fun _ _ => by kernel_rfl) (by kernel_rfl) ((Put_4N (some ⟨b3, 0, none⟩) 256 256 0 0 (seal1 li) (no) _ (seal1_len hl) rfl (bys_of (own_sl o5) (seal1_len hl)) (by decide) (by decide) (h3) (by omega)).mono ?_))
  rintro e W9 ⟨_, rfl, hb9, p1, c1, rfl, o1⟩
  refine ⟨_, rfl, ?_⟩
  replace hB := Bl.next hB hb9
  replace k6 := k6.below hb9
  replace k8 := k8.below hb9
  replace o5 := own_below o5 hb9
  replace o1 := own_mono o1 hs9
  refine g_pv 4 [(33, .tuple #[.slice p1 256 c1, .int .i64 0]), (42, .slice p1 256 c1), (43, .int .i64 0), (8, .slice p1 256 c1)] (by kernel_rfl) ?_
  refine wpList_nil ?_
  refine wp_region_lit ?_
  refine g_pv 2 [(44, .int .i64 1), (29, .int .i64 1)] (by kernel_rfl) ?_
  refine wpList_nil ?_
  refine g_round ?_
  refine wp_seq ?_
  refine wp_region_lit ?_
  refine g_pv 1 [(30, .bool true)] (by kernel_rfl) ?_
  refine wpList_nil ?_
  refine wp_seq ?_
  refine wp_cond_true (by kernel_rfl) ?_
  refine wp_skip ?_
  refine wp_seq ?_
  refine wp_block ?_
  refine wp_seq ?_
  refine wp_region_lit ?_
  refine g_pv 1 [(31, .pointer (some ⟨b6, 3, none⟩))] (by kernel_rfl) ?_
  refine g_op (by kernel_rfl) (op_loadv (b := b6) (off := 3) [.int .i64 4, .int .i64 2, .int .i64 kind] _ rfl (by kernel_rfl) Try.underlying101 rfl (by kernel_rfl) (k6.part 3 3 (by first | decide | simp)) ?_)
  refine g_op (by kernel_rfl) (op_alloc [.int .i64 0, .int .i64 0, .int .i64 0] rfl (by kernel_rfl) ?_)
  intro b10 W10 n10
  have d10_b6 := n10.ne k6
  have d10_b7 := n10.ne k8
  have g10 := n10.ge hB
  replace hB := Bl.next hB n10.below
  replace k6 := k6.below n10.below
  replace k8 := k8.below n10.below
  replace o1 := own_below o1 n10.below
  have k10 := n10.blk
  refine g_op (by kernel_rfl) (op_storev (b := b10) (off := 0) [.int .i64 4, .int .i64 2, .int .i64 kind] rfl (by kernel_rfl) (by kernel_rfl) (by kernel_rfl) (by first | decide | simp [Value.oneCell']) k10 (by first | decide | simp) ?_)
  intro W11 u11 k11
  change Blk _ _ [.int .i64 4, .int .i64 2, .int .i64 kind] _ at k11
  replace hB := u11.below hB g10
  replace k6 := u11.blk k6 (Ne.symm (Ne.symm d10_b6))
  replace k8 := u11.blk k8 (Ne.symm (Ne.symm d10_b7))
  replace o1 := u11.own2 o1 k10 (by decide)
  refine wpList_nil ?_
  refine wp_region_lit ?_
  refine g_pv 2 [(34, .slice p1 256 c1), (35, .pointer (some ⟨b10, 0, none⟩))] (by kernel_rfl) ?_
  refine g_op (by kernel_rfl) (op_load ⟨b10, 0, none⟩ (.int .i64 4) rfl (by kernel_rfl) (by kernel_rfl) (k11.cell (i := 0) rfl) ?_)
  refine g_pv 1 [(37, .pointer (some ⟨b10, 1, none⟩))] (by kernel_rfl) ?_
  refine g_op (by kernel_rfl) (op_load ⟨b10, 1, none⟩ (.int .i64 2) rfl (by kernel_rfl) (by kernel_rfl) (k11.cell (i := 1) rfl) ?_)
  refine g_pv 1 [(39, .pointer (some ⟨b10, 2, none⟩))] (by kernel_rfl) ?_
  refine g_op (by kernel_rfl) (op_load ⟨b10, 2, none⟩ (.int .i64 kind) rfl (by kernel_rfl) (by kernel_rfl) (k11.cell (i := 2) rfl) ?_)
  have hs12 : w.heap.size ≤ (W11).heap.size := hB.size
  refine g_op (by kernel_rfl) (op_call (lb := #[]) 46 #[.slice p1 256 c1, .int .i64 4, .int .i64 2, .int .i64 kind] rfl (by kernel_rfl) (fun _ _ => by kernel_rfl) (by kernel_rfl) ((Put_2N p1 256 c1 4 4 (seal2 no li) (kind) _ (seal2_len hl) rfl (bys_of (own_sl o1) (seal2_len hl)) (by decide) (by decide) (by omega) (by omega)).mono ?_))
  rintro e W12 ⟨_, rfl, hb12, p2, c2, rfl, o2⟩
  refine ⟨_, rfl, ?_⟩
  replace hB := Bl.next hB hb12
  replace k6 := k6.below hb12
  replace k8 := k8.below hb12
  replace k11 := k11.below hb12
  replace o1 := own_below o1 hb12
  replace o2 := own_mono o2 hs12
  refine g_pv 4 [(33, .tuple #[.slice p2 256 c2, .int .i64 0]), (42, .slice p2 256 c2), (43, .int .i64 0), (8, .slice p2 256 c2)] (by kernel_rfl) ?_
  refine wpList_nil ?_
  refine wp_region_lit ?_
  refine g_pv 2 [(44, .int .i64 2), (29, .int .i64 2)] (by kernel_rfl) ?_
  refine wpList_nil ?_
  refine g_round ?_
  refine wp_seq ?_
  refine wp_region_lit ?_
  refine g_pv 1 [(30, .bool false)] (by kernel_rfl) ?_
  refine wpList_nil ?_
  refine wp_seq ?_
  refine wp_cond_false (by kernel_rfl) ?_
  refine wp_exit ?_
  refine then_exit ?_
  refine then_exit ?_
  refine inBlock_hit ?_
  refine wp_seq ?_
  refine wp_region_lit ?_
  refine g_pv 3 [(46, .slice p2 256 c2), (47, .slice p2 256 c2), (48, .int .i64 kind)] (by kernel_rfl) ?_
  refine g_op (by kernel_rfl) (op_call (lb := #[]) 47 #[.slice p2 256 c2, .int .i64 kind] rfl (by kernel_rfl) (fun _ _ => by kernel_rfl) (by kernel_rfl) ((seal_sum kind p2 c2 (seal3 kind no li) _ (seal3_len hl) (own_cap o2 (by decide)) (bys_of (own_sl o2) (seal3_len hl))).mono ?_))
  rintro e W13 ⟨rfl, hb13⟩
  refine ⟨_, rfl, ?_⟩
  replace hB := Bl.next hB hb13
  replace k6 := k6.below hb13
  replace k8 := k8.below hb13
  replace k11 := k11.below hb13
  replace o2 := own_below o2 hb13
  have hs14 : w.heap.size ≤ (W13).heap.size := hB.size
  refine g_op (by kernel_rfl) (op_call (lb := #[]) 46 #[.slice p2 256 c2, .int .i64 252, .int .i64 4, .int .i64 (↑(sumB (seal3 kind no li) kind) : Int)] rfl (by kernel_rfl) (fun _ _ => by kernel_rfl) (by kernel_rfl) ((Put_4N p2 256 c2 252 252 (seal3 kind no li) ((sumB (seal3 kind no li) kind : Int)) _ (seal3_len hl) rfl (bys_of (own_sl o2) (seal3_len hl)) (by decide) (by decide) (Int.natCast_nonneg _) (by have := sumB_lt (seal3 kind no li) kind; omega)).mono ?_))
  rintro e W14 ⟨_, rfl, hb14, p3, c3, rfl, o3⟩
  refine ⟨_, rfl, ?_⟩
  replace hB := Bl.next hB hb14
  replace k6 := k6.below hb14
  replace k8 := k8.below hb14
  replace k11 := k11.below hb14
  replace o2 := own_below o2 hb14
  replace o3 := own_mono o3 hs14
  refine g_pure 4 ⟨#[.int .i64 kind, .int .i64 no, .slice a li.length c, undef, undef, undef, .slice none 0 0, .int .i64 0, .slice p3 256 c3, undef, .pointer (some ⟨b10, 0, none⟩), .int .i64 kind, .int .i64 no, .bool true, .bool false, .slice a li.length c, .int .i64 (↑li.length : Int), .bool (decide ((↑li.length : Int) > (244 : Int))), .slice (some ⟨b3, 0, none⟩) 256 256, .slice (some ⟨b3, 0, none⟩) 256 256, .slice (some ⟨b3, 8, none⟩) 248 248, .slice a li.length c, .int .i64 (↑li.length : Int), .int .i64 no, .agg #[.int .i64 0, .int .i64 4, .int .i64 no], .int .i64 kind, .agg #[.int .i64 4, .int .i64 2, .int .i64 kind], .slice (some ⟨b6, 0, none⟩) 2 2, .int .i64 2, .int .i64 2, .bool false, .pointer (some ⟨b6, 3, none⟩), .agg #[.int .i64 4, .int .i64 2, .int .i64 kind], .tuple #[.slice p2 256 c2, .int .i64 0], .slice p1 256 c1, .pointer (some ⟨b10, 0, none⟩), .int .i64 4, .pointer (some ⟨b10, 1, none⟩), .int .i64 2, .pointer (some ⟨b10, 2, none⟩), .int .i64 kind, .tuple #[.slice p2 256 c2, .int .i64 0], .slice p2 256 c2, .int .i64 0, .int .i64 2, .tuple #[.slice p3 256 c3, .int .i64 0], .slice p2 256 c2, .slice p2 256 c2, .int .i64 kind, .int .i64 (↑(sumB (seal3 kind no li) kind) : Int), .tuple #[.slice p3 256 c3, .int .i64 0], .slice p3 256 c3, .int .i64 0, undef], []⟩ (by kernel_rfl) ?_
  refine wpList_nil ?_
  refine wp_seq ?_
  refine wp_region_lit ?_
  refine g_pv 3 [(53, .slice p3 256 c3), (6, .slice p3 256 c3), (7, .int .i64 0)] (by kernel_rfl) ?_
  refine wpList_nil ?_
  refine wp_ret ?_
  exact g_ret (.tuple #[.slice p3 256 c3, .int .i64 0]) (by kernel_rfl) (by kernel_rfl) ⟨_, rfl, hB, _, _, rfl, o3⟩
end Go.Proofs.Ytoiblgeheblddaa

