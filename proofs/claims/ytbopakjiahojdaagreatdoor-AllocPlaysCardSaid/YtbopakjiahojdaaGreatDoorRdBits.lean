/- bits.Read. -/
import Derived.Test.YtbopakjiahojdaaGreatDoorRd2
namespace Go.Proofs.YtbopakjiahojdaaGreatDoor
open Go.RowKit Go.Extern.Stop Go.Stop Go.Extern
set_option linter.unusedVariables false
attribute [local irreducible] wpList wpAnyH Code.wp Oper.wp

section
variable {P : Program} {a : Act}
theorem run_shrU8 {o : Oper} {t t2 : TypeId} {x y : Operand} {n s : Nat} {j : Int} {kj : IntKind} (ho : o.op = .binOp .shr t x y t2) (hx : a.eval x = .int .u8 (n : Int)) (hy : a.eval y = .int kj j) (hj : j = (s : Int)) (hs : s ≤ 8) (w : World) : (execOp a.eval o).run P w = .ok (.value (.int .u8 ((n / 2 ^ s : Nat) : Int))) w := by
  subst hj
  have e := shift_shr_u8 kj (n : Int) (s : Int) (Int.natCast_nonneg s) (by omega)
  simp only [execOp, ho, hx, hy, eqGuard_shr, binOp_shr, e]
  simp
end
theorem Get_okN (a : Option Addr) (n c k w : Nat) (ki wi : Int) (l : List UInt8) (W : World) (hn : l.length = n) (hki : ki = (k : Int)) (hwi : wi = (w : Int)) (hw : w = 1 ∨ w = 2 ∨ w = 4) (hk : k + w ≤ n) (hl : n ≤ 100000000) (h : Bys W (.slice a n c) l) :
    Calls Tryz.prog 111 #[.slice a n c, .int .i64 ki, .int .i64 wi] W (Ret (.tuple #[.int .i64 (rawN l k w : Int), .int .i64 0]) W) := by
  subst hn hki hwi; exact Get_ok a c k w l W (by omega) hk hl h (by have := rawN_lt4 l k w (by omega); omega)
/-- the i-th count of a block of bits -/
def bitN (l : List UInt8) (i : Nat) : Nat := (l.getD (4 + i / 4) 0).toNat / 2 ^ (i % 4 * 2) % 4
theorem i64_and3 {n : Nat} (h : n < 9223372036854775808) : IntKind.i64.wrap (↑(BitVec.ofInt 64 (n : Int) &&& BitVec.ofInt 64 (3 : Int)).toNat : Int) = ((n % 4 : Nat) : Int) := by
  rw [show (3 : Int) = ((3 : Nat) : Int) from rfl, BitVec.ofInt_natCast, BitVec.ofInt_natCast, BitVec.toNat_and, BitVec.toNat_ofNat, BitVec.toNat_ofNat, Nat.mod_eq_of_lt (by omega), Nat.mod_eq_of_lt (by omega)]
  rw [show n &&& 3 = n % 4 from Nat.and_two_pow_sub_one_eq_mod n 2]
  exact i64_nat (by omega)
theorem quo_natB (n k : Nat) (hn : n < 9223372036854775808) (hk : 0 < k) : IntKind.i64.wrap (Int.tdiv (n : Int) (k : Int)) = ((n / k : Nat) : Int) := by
  rw [Int.tdiv_eq_ediv_of_nonneg (Int.natCast_nonneg _), ← Int.natCast_ediv]
  exact i64_nat (Nat.lt_of_le_of_lt (Nat.div_le_self _ _) hn)
theorem tmod_natB (n k : Nat) : Int.tmod (n : Int) (k : Int) = ((n % k : Nat) : Int) := by
  rw [Int.tmod_eq_emod_of_nonneg (Int.natCast_nonneg _), ← Int.natCast_emod]
theorem shr_lt (l : List UInt8) (k s : Nat) : (l.getD k 0).toNat / 2 ^ s < 256 := Nat.lt_of_le_of_lt (Nat.div_le_self _ _) (l.getD k 0).toNat_lt
def bitsL (l : List UInt8) (n : Nat) : List Nat := (List.range n).map (bitN l)
theorem bitsL_snoc (l : List UInt8) (n : Nat) : bitsL l (n + 1) = bitsL l n ++ [bitN l n] := by simp [bitsL, List.range_succ]
/-- whether bytes are a block of counts -/
def bitsOk (l : List UInt8) : Prop := l.length = 244 ∧ rawN l 0 4 ≤ 960 ∧ ∀ i, i < 960 → rawN l 0 4 ≤ i → bitN l i = 0
def BitsP (l : List UInt8) (w : World) (e : Ending) (w' : World) : Prop :=
  (¬ bitsOk l ∧ e = .returned (.tuple #[.slice none 0 0, .int .i64 7]) ∧ Below w.heap.size w w') ∨
  (bitsOk l ∧ ∃ p c, e = .returned (.tuple #[.slice p (rawN l 0 4) c, .int .i64 0]) ∧ Below w.heap.size w w' ∧ w'.ownsRow w.heap.size 3 1 (.slice p (rawN l 0 4) c) (rawN l 0 4) ((bitsL l (rawN l 0 4)).map nv))
set_option maxRecDepth 100000 in
set_option maxHeartbeats 2000000 in
theorem bits_Read (a : Option Addr) (c : Nat) (l : List UInt8) (w : World) (hl : l.length ≤ 100000000) (h : Bys w (.slice a l.length c) l) :
    Calls Tryz.prog 86 #[.slice a l.length c] w (BitsP l w) := by
  refine calls_of_wp Tryz.func86 rfl ?_
  refine g_fr ⟨#[.slice a l.length c, undef, undef, undef, undef, undef, undef, undef, undef, undef, undef, undef, undef, undef, undef, undef, undef, undef, undef, undef, undef, undef, undef, undef, undef, undef, undef, undef, undef, undef, undef, undef, undef, undef, undef, undef, undef, undef, undef, undef, undef, undef, undef, undef, undef, undef, undef], []⟩ (by kernel_rfl) ?_
  refine wp_seq ?_
  refine wp_region_lit ?_
  refine g_pv 2 [(2, .slice none 0 0), (3, .int .i64 0)] (by kernel_rfl) ?_
  refine wpList_nil ?_
  refine wp_seq ?_
  refine wp_seq ?_
  refine wp_region_lit ?_
  refine g_pv 3 [(9, .slice a l.length c), (10, .int .i64 (↑l.length : Int)), (11, .bool ((↑l.length : Int) != (244 : Int)))] (by kernel_rfl) ?_
  refine wpList_nil ?_
  refine wp_cond_split (t := ((↑l.length : Int) != (244 : Int))) (by kernel_rfl) (fun hc1 => ?_) (fun hc1 => ?_)
  · have hc1 := ne_of_bne hc1
    refine wp_seq ?_
    refine wp_region_lit ?_
    refine g_pv 2 [(2, .slice none 0 0), (3, .int .i64 7)] (by kernel_rfl) ?_
    refine wpList_nil ?_
    refine wp_ret (then_ret ?_)
    exact g_ret (.tuple #[.slice none 0 0, .int .i64 7]) (by kernel_rfl) (by kernel_rfl) (.inl ⟨fun h => by have := h.1; omega, rfl, (Below.refl w.heap.size _)⟩)
  · have hc1 := eq_of_bne_false hc1
    refine wp_skip ?_
    refine wp_seq ?_
    refine wp_region_lit ?_
    refine g_pv 1 [(13, .slice a l.length c)] (by kernel_rfl) ?_
    refine g_op (by kernel_rfl) (op_call (lb := #[]) 111 #[.slice a l.length c, .int .i64 0, .int .i64 4] rfl (by kernel_rfl) (fun _ _ => by kernel_rfl) (by kernel_rfl) ((Get_okN a l.length c 0 4 0 4 l _ rfl rfl rfl (by decide) (by omega) hl (h.below (Below.refl w.heap.size _))).mono ?_))
    rintro e W2 ⟨rfl, hb2⟩
    refine ⟨_, rfl, ?_⟩
    have hB := hb2
    refine g_pv 5 [(12, .tuple #[.int .i64 (↑(rawN l 0 4) : Int), .int .i64 0]), (15, .int .i64 (↑(rawN l 0 4) : Int)), (16, .int .i64 0), (4, .int .i64 (↑(rawN l 0 4) : Int)), (5, .int .i64 0)] (by kernel_rfl) ?_
    refine wpList_nil ?_
    refine wp_seq ?_
    refine wp_seq ?_
    refine wp_region_lit ?_
    refine g_pv 2 [(17, .int .i64 (↑(rawN l 0 4) : Int)), (18, .bool (decide ((↑(rawN l 0 4) : Int) > (960 : Int))))] (by kernel_rfl) ?_
    refine wpList_nil ?_
    refine wp_cond_split (t := decide ((↑(rawN l 0 4) : Int) > (960 : Int))) (by kernel_rfl) (fun hc3 => ?_) (fun hc3 => ?_)
    · have hc3 := of_decide_eq_true hc3
      refine wp_seq ?_
      refine wp_region_lit ?_
      refine g_pv 2 [(2, .slice none 0 0), (3, .int .i64 7)] (by kernel_rfl) ?_
      refine wpList_nil ?_
      refine wp_ret (then_ret ?_)
      exact g_ret (.tuple #[.slice none 0 0, .int .i64 7]) (by kernel_rfl) (by kernel_rfl) (.inl ⟨fun h => by have := h.2.1; omega, rfl, hB⟩)
    · have hc3 := of_decide_eq_false hc3
      refine wp_skip ?_
      refine wp_seq ?_
      refine wp_region_lit ?_
      refine g_pv 1 [(6, .slice none 0 0)] (by kernel_rfl) ?_
      refine wpList_nil ?_
      refine wp_seq ?_
      refine wp_seq ?_
      refine wp_region_lit ?_
      refine g_pv 1 [(19, .int .i64 0)] (by kernel_rfl) ?_
      refine wpList_nil ?_
      refine wp_block ?_
      refine g_fr ⟨#[.slice a l.length c, undef, .slice none 0 0, .int .i64 0, .int .i64 (↑(rawN l 0 4) : Int), .int .i64 0, .slice none 0 0, undef, undef, .slice a l.length c, .int .i64 (↑l.length : Int), .bool ((↑l.length : Int) != (244 : Int)), .tuple #[.int .i64 (↑(rawN l 0 4) : Int), .int .i64 0], .slice a l.length c, .tuple #[.int .i64 (↑(rawN l 0 4) : Int), .int .i64 0], .int .i64 (↑(rawN l 0 4) : Int), .int .i64 0, .int .i64 (↑(rawN l 0 4) : Int), .bool (decide ((↑(rawN l 0 4) : Int) > (960 : Int))), .int .i64 0, undef, undef, undef, undef, undef, undef, undef, undef, undef, undef, undef, undef, undef, undef, undef, undef, undef, undef, undef, undef, undef, undef, undef, undef, undef, undef, undef], []⟩ (by kernel_rfl) ?_
      refine wp_loop (fun act V => ∃ (i m : Nat) (p : Option Addr) (c2 : Nat) (x4 : Nat → Value), act = ⟨#[.slice a l.length c, undef, (x4 0), (x4 1), .int .i64 (↑(rawN l 0 4) : Int), .int .i64 0, .slice p m c2, (x4 2), (x4 3), .slice a l.length c, .int .i64 (↑l.length : Int), .bool ((↑l.length : Int) != (244 : Int)), .tuple #[.int .i64 (↑(rawN l 0 4) : Int), .int .i64 0], .slice a l.length c, .tuple #[.int .i64 (↑(rawN l 0 4) : Int), .int .i64 0], .int .i64 (↑(rawN l 0 4) : Int), .int .i64 0, .int .i64 (↑(rawN l 0 4) : Int), .bool (decide ((↑(rawN l 0 4) : Int) > (960 : Int))), .int .i64 (↑i : Int), (x4 4), (x4 5), (x4 6), (x4 7), (x4 8), (x4 9), (x4 10), (x4 11), (x4 12), (x4 13), (x4 14), (x4 15), (x4 16), (x4 17), (x4 18), (x4 19), (x4 20), (x4 21), (x4 22), (x4 23), (x4 24), (x4 25), (x4 26), (x4 27), (x4 28), (x4 29), undef], []⟩ ∧ Below w.heap.size w V ∧ V.ownsRow w.heap.size 3 1 (.slice p m c2) m ((bitsL l m).map nv) ∧ i ≤ 960 ∧ m = min i (rawN l 0 4) ∧ (∀ j, j < i → rawN l 0 4 ≤ j → bitN l j = 0)) (fun act V => 960 - ((intOf (act.tmps.getD 19 undef))).toNat) ⟨0, 0, _, _, (pk [.slice none 0 0, .int .i64 0, undef, undef, undef, undef, undef, undef, undef, undef, undef, undef, undef, undef, undef, undef, undef, undef, undef, undef, undef, undef, undef, undef, undef, undef, undef, undef, undef, undef]), rfl, hB, World.ownsRow_nil _ _ _ _, Nat.zero_le _, by omega, ?_⟩ ?_
      · exact fun j hj => absurd hj (by omega)
      rintro _ W4 ⟨i, m, p, c2, x4, rfl, hB, ho, hi, hm, hz⟩
      refine wp_seq ?_
      refine wp_region_lit ?_
      refine g_pv 1 [(20, .bool (decide ((↑i : Int) < (960 : Int))))] (by kernel_rfl) ?_
      refine wpList_nil ?_
      refine wp_seq ?_
      refine wp_cond_split (t := decide ((↑i : Int) < (960 : Int))) (by kernel_rfl) (fun hc5 => ?_) (fun hc5 => ?_)
      · have hc5 := of_decide_eq_true hc5
        refine wp_skip ?_
        refine wp_seq ?_
        refine wp_block ?_
        refine wp_seq ?_
        refine wp_region_lit ?_
        refine g_pv 2 [(21, .int .i64 (↑i : Int)), (7, .int .i64 (↑i : Int))] (by kernel_rfl) ?_
        refine wpList_nil ?_
        refine wp_seq ?_
        refine wp_region_lit ?_
        refine g_pv 2 [(22, .slice a l.length c), (23, .int .i64 (↑i : Int))] (by kernel_rfl) ?_
        refine g_op (by kernel_rfl) (op_eq (.int .i64 (↑(i / 4) : Int)) (.int .i64 (IntKind.i64.wrap (Int.tdiv (↑i : Int) 4))) (by kernel_rfl) (congrArg (Value.int .i64) (quo_natB i 4 (by omega) (by decide))) ?_)
        refine g_op (by kernel_rfl) (op_val (run_wrap .i64 (4 + (↑(i / 4) : Int)) (↑(4 + (i / 4)) : Int) (by kernel_rfl) ((show IntKind.i64.wrap (4 + (↑(i / 4) : Int)) = (4 + (↑(i / 4) : Int)) from by first | exact IntWalk.i64_in _ (by omega) | (simp only [IntKind.wrap]; omega)).trans (by omega)) _) ?_)
        refine g_op (by kernel_rfl) (op_val (run_indexA (size := 1) (k := (4 + (i / 4))) (b := a) (n := l.length) (c := c) (i := (↑(4 + (i / 4)) : Int)) (ki := .i64) rfl (by kernel_rfl) (by kernel_rfl) rfl (by omega) (Bys.elem h (k := (4 + (i / 4))) (by omega)).1 Tryz.underlying29 (by kernel_rfl) _) ?_)
        refine g_op (by kernel_rfl) (op_load (elemAddr a ((4 + (i / 4)) * 1)) (.int .u8 (↑(l.getD (4 + (i / 4)) 0).toNat : Int)) rfl (by kernel_rfl) (by kernel_rfl) (Bys.elem (h.below hB) (k := (4 + (i / 4))) (by omega)).2 ?_)
        refine g_pv 1 [(28, .int .i64 (↑i : Int))] (by kernel_rfl) ?_
        refine g_op (by kernel_rfl) (op_eq (.int .i64 (↑(i % 4) : Int)) (.int .i64 (Int.tmod (↑i : Int) 4)) (by kernel_rfl) (congrArg (Value.int .i64) (tmod_natB i 4)) ?_)
        refine g_op (by kernel_rfl) (op_val (run_wrap .i64 ((↑(i % 4) : Int) * 2) (↑((i % 4) * 2) : Int) (by kernel_rfl) ((show IntKind.i64.wrap ((↑(i % 4) : Int) * 2) = ((↑(i % 4) : Int) * 2) from by first | exact IntWalk.i64_in _ (by omega) | (simp only [IntKind.wrap]; omega)).trans (by omega)) _) ?_)
        refine g_op (by kernel_rfl) (op_val (run_shrU8 (n := ((l.getD (4 + (i / 4)) 0).toNat)) (s := ((i % 4) * 2)) (kj := .i64) (j := (↑((i % 4) * 2) : Int)) rfl (by kernel_rfl) (by kernel_rfl) rfl (by omega) _) ?_)
        refine g_op (by kernel_rfl) (op_eq (.int .i64 (↑((l.getD (4 + (i / 4)) 0).toNat / 2 ^ ((i % 4) * 2)) : Int)) (.int .i64 (IntKind.i64.wrap (↑((l.getD (4 + (i / 4)) 0).toNat / 2 ^ ((i % 4) * 2)) : Int))) (by kernel_rfl) (congrArg (Value.int .i64) (i64_nat (by have := shr_lt l (4 + i / 4) (i % 4 * 2); omega))) ?_)
        refine g_op (by kernel_rfl) (op_eq (.int .i64 (↑(bitN l i) : Int)) (.int .i64 (IntKind.i64.wrap (↑(BitVec.ofInt 64 (↑((l.getD (4 + (i / 4)) 0).toNat / 2 ^ ((i % 4) * 2)) : Int) &&& BitVec.ofInt 64 (3 : Int)).toNat : Int))) (by kernel_rfl) (congrArg (Value.int .i64) (i64_and3 (by have := shr_lt l (4 + i / 4) (i % 4 * 2); omega))) ?_)
        refine g_pv 1 [(8, .int .i64 (↑(bitN l i) : Int))] (by kernel_rfl) ?_
        refine wpList_nil ?_
        refine wp_block ?_
        refine wp_seq ?_
        refine wp_region_lit ?_
        refine g_pv 4 [(35, .int .i64 (↑i : Int)), (36, .int .i64 (↑(rawN l 0 4) : Int)), (37, .bool (decide ((↑i : Int) < (↑(rawN l 0 4) : Int)))), (34, .bool (decide ((↑i : Int) < (↑(rawN l 0 4) : Int))))] (by kernel_rfl) ?_
        refine wpList_nil ?_
        refine wp_cond_split (t := decide ((↑i : Int) < (↑(rawN l 0 4) : Int))) (by kernel_rfl) (fun hc6 => ?_) (fun hc6 => ?_)
        · have hc6 := of_decide_eq_true hc6
          refine wp_region_lit ?_
          refine g_pv 2 [(38, .slice p m c2), (39, .int .i64 (↑(bitN l i) : Int))] (by kernel_rfl) ?_
          refine g_op (by kernel_rfl) (op_buildSlice 3 [.int .i64 (↑(bitN l i) : Int)] rfl (by kernel_rfl) ?_)
          intro b7 W7 n7
          have g7 := n7.ge hB
          have r7_ho := own_ne ho n7
          replace hB := Bl.next hB n7.below
          replace ho := own_below ho n7.below
          have k7 := n7.blk
          refine g_op (by kernel_rfl) (op_app (e := 3) (n := m) (xs := (bitsL l m).map nv) (m := 1) (news := [.int .i64 (↑(bitN l i) : Int)]) (.int .i64 0) 1 8 (m + 1) ((bitsL l (m + 1)).map nv) rfl Tryz.underlying31 (by kernel_rfl) rfl (by decide) (by kernel_rfl) ho (by kernel_rfl) (k7.sl 1 1 (by decide) (by decide)) rfl (by simp [Value.oneCell']) (by unfold maxLen; omega) (by omega) hB.size (by rfl) (by rw [bitsL_snoc, List.map_append, show m = i by omega]; rfl) ?_)
          intro p8 c8 W8 o8 hg8 hb8
          replace hB := hB.trans hb8
          refine g_pv 1 [(6, .slice p8 (m + 1) c8)] (by kernel_rfl) ?_
          refine wpList_nil ?_
          refine wp_region_lit ?_
          refine g_op (by kernel_rfl) (op_val (run_wrap .i64 ((↑i : Int) + 1) (↑(i + 1) : Int) (by kernel_rfl) ((show IntKind.i64.wrap ((↑i : Int) + 1) = ((↑i : Int) + 1) from by first | exact IntWalk.i64_in _ (by omega) | (simp only [IntKind.wrap]; omega)).trans (by omega)) _) ?_)
          refine g_pv 1 [(19, .int .i64 (↑(i + 1) : Int))] (by kernel_rfl) ?_
          refine wpList_nil ?_
          refine g_nfr ⟨#[.slice a l.length c, undef, (x4 0), (x4 1), .int .i64 (↑(rawN l 0 4) : Int), .int .i64 0, .slice p8 (m + 1) c8, .int .i64 (↑i : Int), .int .i64 (↑(bitN l i) : Int), .slice a l.length c, .int .i64 (↑l.length : Int), .bool ((↑l.length : Int) != (244 : Int)), .tuple #[.int .i64 (↑(rawN l 0 4) : Int), .int .i64 0], .slice a l.length c, .tuple #[.int .i64 (↑(rawN l 0 4) : Int), .int .i64 0], .int .i64 (↑(rawN l 0 4) : Int), .int .i64 0, .int .i64 (↑(rawN l 0 4) : Int), .bool (decide ((↑(rawN l 0 4) : Int) > (960 : Int))), .int .i64 (↑(i + 1) : Int), .bool (decide ((↑i : Int) < (960 : Int))), .int .i64 (↑i : Int), .slice a l.length c, .int .i64 (↑i : Int), .int .i64 (↑(i / 4) : Int), .int .i64 (↑(4 + (i / 4)) : Int), .pointer (some (elemAddr a ((4 + (i / 4)) * 1))), .int .u8 (↑(l.getD (4 + (i / 4)) 0).toNat : Int), .int .i64 (↑i : Int), .int .i64 (↑(i % 4) : Int), .int .i64 (↑((i % 4) * 2) : Int), .int .u8 (↑((l.getD (4 + (i / 4)) 0).toNat / 2 ^ ((i % 4) * 2)) : Int), .int .i64 (↑((l.getD (4 + (i / 4)) 0).toNat / 2 ^ ((i % 4) * 2)) : Int), .int .i64 (↑(bitN l i) : Int), .bool (decide ((↑i : Int) < (↑(rawN l 0 4) : Int))), .int .i64 (↑i : Int), .int .i64 (↑(rawN l 0 4) : Int), .bool (decide ((↑i : Int) < (↑(rawN l 0 4) : Int))), .slice p m c2, .int .i64 (↑(bitN l i) : Int), .slice (some ⟨b7, 0, none⟩) 1 1, .slice p8 (m + 1) c8, (x4 26), (x4 27), (x4 28), .int .i64 (↑(i + 1) : Int), undef], []⟩ (by kernel_rfl) ?_
          refine ⟨⟨i + 1, m + 1, _, _, (pk [(x4 0), (x4 1), .int .i64 (↑i : Int), .int .i64 (↑(bitN l i) : Int), .bool (decide ((↑i : Int) < (960 : Int))), .int .i64 (↑i : Int), .slice a l.length c, .int .i64 (↑i : Int), .int .i64 (↑(i / 4) : Int), .int .i64 (↑(4 + (i / 4)) : Int), .pointer (some (elemAddr a ((4 + (i / 4)) * 1))), .int .u8 (↑(l.getD (4 + (i / 4)) 0).toNat : Int), .int .i64 (↑i : Int), .int .i64 (↑(i % 4) : Int), .int .i64 (↑((i % 4) * 2) : Int), .int .u8 (↑((l.getD (4 + (i / 4)) 0).toNat / 2 ^ ((i % 4) * 2)) : Int), .int .i64 (↑((l.getD (4 + (i / 4)) 0).toNat / 2 ^ ((i % 4) * 2)) : Int), .int .i64 (↑(bitN l i) : Int), .bool (decide ((↑i : Int) < (↑(rawN l 0 4) : Int))), .int .i64 (↑i : Int), .int .i64 (↑(rawN l 0 4) : Int), .bool (decide ((↑i : Int) < (↑(rawN l 0 4) : Int))), .slice p m c2, .int .i64 (↑(bitN l i) : Int), .slice (some ⟨b7, 0, none⟩) 1 1, .slice p8 (m + 1) c8, (x4 26), (x4 27), (x4 28), .int .i64 (↑(i + 1) : Int)]), rfl, hB, o8, by omega, by omega, fun j hj hc => (Nat.lt_or_ge j i).elim (fun q => hz j q hc) (fun q => by obtain rfl : j = i := (by omega); omega)⟩, ?_⟩
          show 960 - ((↑(i + 1) : Int)).toNat < 960 - ((↑i : Int)).toNat
          omega
        · have hc6 := of_decide_eq_false hc6
          refine wp_seq ?_
          refine wp_region_lit ?_
          refine g_pv 3 [(43, .int .i64 (↑(bitN l i) : Int)), (44, .bool ((↑(bitN l i) : Int) != (0 : Int))), (42, .bool ((↑(bitN l i) : Int) != (0 : Int)))] (by kernel_rfl) ?_
          refine wpList_nil ?_
          refine wp_cond_split (t := ((↑(bitN l i) : Int) != (0 : Int))) (by kernel_rfl) (fun hc9 => ?_) (fun hc9 => ?_)
          · have hc9 := ne_of_bne hc9
            refine wp_seq ?_
            refine wp_region_lit ?_
            refine g_pv 2 [(2, .slice none 0 0), (3, .int .i64 7)] (by kernel_rfl) ?_
            refine wpList_nil ?_
            refine wp_ret (inBlock_ret (inBlock_ret (then_ret (then_ret (inBlock_ret (then_ret ?_))))))
            exact g_ret (.tuple #[.slice none 0 0, .int .i64 7]) (by kernel_rfl) (by kernel_rfl) (.inl ⟨fun h => by have := h.2.2 i (by omega) (by omega); omega, rfl, hB⟩)
          · have hc9 := eq_of_bne_false hc9
            refine wp_skip ?_
            refine wp_region_lit ?_
            refine g_op (by kernel_rfl) (op_val (run_wrap .i64 ((↑i : Int) + 1) (↑(i + 1) : Int) (by kernel_rfl) ((show IntKind.i64.wrap ((↑i : Int) + 1) = ((↑i : Int) + 1) from by first | exact IntWalk.i64_in _ (by omega) | (simp only [IntKind.wrap]; omega)).trans (by omega)) _) ?_)
            refine g_pv 1 [(19, .int .i64 (↑(i + 1) : Int))] (by kernel_rfl) ?_
            refine wpList_nil ?_
            refine g_nfr ⟨#[.slice a l.length c, undef, (x4 0), (x4 1), .int .i64 (↑(rawN l 0 4) : Int), .int .i64 0, .slice p m c2, .int .i64 (↑i : Int), .int .i64 (↑(bitN l i) : Int), .slice a l.length c, .int .i64 (↑l.length : Int), .bool ((↑l.length : Int) != (244 : Int)), .tuple #[.int .i64 (↑(rawN l 0 4) : Int), .int .i64 0], .slice a l.length c, .tuple #[.int .i64 (↑(rawN l 0 4) : Int), .int .i64 0], .int .i64 (↑(rawN l 0 4) : Int), .int .i64 0, .int .i64 (↑(rawN l 0 4) : Int), .bool (decide ((↑(rawN l 0 4) : Int) > (960 : Int))), .int .i64 (↑(i + 1) : Int), .bool (decide ((↑i : Int) < (960 : Int))), .int .i64 (↑i : Int), .slice a l.length c, .int .i64 (↑i : Int), .int .i64 (↑(i / 4) : Int), .int .i64 (↑(4 + (i / 4)) : Int), .pointer (some (elemAddr a ((4 + (i / 4)) * 1))), .int .u8 (↑(l.getD (4 + (i / 4)) 0).toNat : Int), .int .i64 (↑i : Int), .int .i64 (↑(i % 4) : Int), .int .i64 (↑((i % 4) * 2) : Int), .int .u8 (↑((l.getD (4 + (i / 4)) 0).toNat / 2 ^ ((i % 4) * 2)) : Int), .int .i64 (↑((l.getD (4 + (i / 4)) 0).toNat / 2 ^ ((i % 4) * 2)) : Int), .int .i64 (↑(bitN l i) : Int), .bool (decide ((↑i : Int) < (↑(rawN l 0 4) : Int))), .int .i64 (↑i : Int), .int .i64 (↑(rawN l 0 4) : Int), .bool (decide ((↑i : Int) < (↑(rawN l 0 4) : Int))), (x4 22), (x4 23), (x4 24), (x4 25), .bool ((↑(bitN l i) : Int) != (0 : Int)), .int .i64 (↑(bitN l i) : Int), .bool ((↑(bitN l i) : Int) != (0 : Int)), .int .i64 (↑(i + 1) : Int), undef], []⟩ (by kernel_rfl) ?_
            refine ⟨⟨i + 1, m, _, _, (pk [(x4 0), (x4 1), .int .i64 (↑i : Int), .int .i64 (↑(bitN l i) : Int), .bool (decide ((↑i : Int) < (960 : Int))), .int .i64 (↑i : Int), .slice a l.length c, .int .i64 (↑i : Int), .int .i64 (↑(i / 4) : Int), .int .i64 (↑(4 + (i / 4)) : Int), .pointer (some (elemAddr a ((4 + (i / 4)) * 1))), .int .u8 (↑(l.getD (4 + (i / 4)) 0).toNat : Int), .int .i64 (↑i : Int), .int .i64 (↑(i % 4) : Int), .int .i64 (↑((i % 4) * 2) : Int), .int .u8 (↑((l.getD (4 + (i / 4)) 0).toNat / 2 ^ ((i % 4) * 2)) : Int), .int .i64 (↑((l.getD (4 + (i / 4)) 0).toNat / 2 ^ ((i % 4) * 2)) : Int), .int .i64 (↑(bitN l i) : Int), .bool (decide ((↑i : Int) < (↑(rawN l 0 4) : Int))), .int .i64 (↑i : Int), .int .i64 (↑(rawN l 0 4) : Int), .bool (decide ((↑i : Int) < (↑(rawN l 0 4) : Int))), (x4 22), (x4 23), (x4 24), (x4 25), .bool ((↑(bitN l i) : Int) != (0 : Int)), .int .i64 (↑(bitN l i) : Int), .bool ((↑(bitN l i) : Int) != (0 : Int)), .int .i64 (↑(i + 1) : Int)]), rfl, hB, ho, by omega, by omega, fun j hj hc => (Nat.lt_or_ge j i).elim (fun q => hz j q hc) (fun q => by obtain rfl : j = i := (by omega); omega)⟩, ?_⟩
            show 960 - ((↑(i + 1) : Int)).toNat < 960 - ((↑i : Int)).toNat
            omega
      · have hc5 := of_decide_eq_false hc5
        refine wp_exit ?_
        refine then_exit ?_
        refine then_exit ?_
        refine inBlock_hit ?_
        refine wp_seq ?_
        refine wp_region_lit ?_
        refine g_pv 3 [(46, .slice p m c2), (2, .slice p m c2), (3, .int .i64 0)] (by kernel_rfl) ?_
        refine wpList_nil ?_
        refine wp_ret ?_
        refine g_ret (.tuple #[.slice p m c2, .int .i64 0]) (by kernel_rfl) (by kernel_rfl) ?_
        obtain rfl : m = rawN l 0 4 := by omega
        exact .inr ⟨⟨by omega, by omega, fun j hj hc => hz j (by omega) hc⟩, _, _, rfl, hB, ho⟩
end Go.Proofs.YtbopakjiahojdaaGreatDoor

