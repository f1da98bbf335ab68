/- bits.Put and bits.Free of small counts, slices.Clone of counts. plot.Data$1: a slot noted as an entry. Errors that lie in memory stay what they are while a block of another type is written. Blocks of an image that are read: (*Image).Read, whatever the number. What was sealed opens: a plain law on lists of bytes. append(s, make([]byte, k)...) at a literal s. An error's text, as contracts. Package block at an image that is none, and the example of law 11. The document's answer for the layers 1, 2 and 4: Bytes, Sum, Salt, known, Seal. The document's answer for layer 1, read: width, room, Get, Unpack, Zero. Strings compared, and the bytes of a number that was read. No program is named here. The document's example of chapter 5: scantlinglaw05.lives returns true. scantlinglaw05.Own and Told, scantlingref05.At and Same, as contracts. The document's answer for the layers 3 and 11: an image's blocks, Of, Write, Bytes; Write of a block. The document's answer for the layers 3, 4 and 11, read: Open, Image.Read, in. node.Read, whatever the bytes. value.ReadRoot, whatever the string. The document's answer for the layers 3 and 11, read: Image.Read, in. block.Bits, whatever lies in the image. The document's answer for layer 9: Put of small counts, Read. Two strings, one behind the other. No program is named here. The document's answer for layer 8, written: text, Slot, Count. build.level at entries that are right, in an allocator with room. -/
import Derived.Lib.AppendZerosOnto
import Derived.Lib.ItoaNum
import Derived.Laws.IdiomStrings
import Derived.Test.YtbhjgcokpmiopaaGreatDoorMg2
namespace Go.Proofs.YtbhjgcokpmiopaaGreatDoor
open Go.RowKit Go.Extern.Stop Go.Stop Go.Extern
set_option linter.unusedVariables false
attribute [local irreducible] wpList wpAnyH Code.wp Oper.wp Go

section
variable {P : Program} {a : Act}
theorem shl_bd {n : Int} (h : 0 ≤ n ∧ n ≤ 3) {s : Nat} (hs : s ≤ 6) : 0 ≤ n * 2 ^ s ∧ n * 2 ^ s ≤ 192 := by
  obtain rfl | rfl | rfl | rfl : n = 0 ∨ n = 1 ∨ n = 2 ∨ n = 3 := by omega
  all_goals obtain rfl | rfl | rfl | rfl | rfl | rfl | rfl : s = 0 ∨ s = 1 ∨ s = 2 ∨ s = 3 ∨ s = 4 ∨ s = 5 ∨ s = 6 := by omega
  all_goals decide
theorem run_shlS {o : Oper} {t t2 : TypeId} {x y : Operand} {n : Int} {s : Nat} {j : Int} {kj : IntKind} (ho : o.op = .binOp .shl t x y t2) (hx : a.eval x = .int .i64 n) (hy : a.eval y = .int kj j) (hj : j = (s : Int)) (hn : 0 ≤ n ∧ n ≤ 3) (hs : s ≤ 6) (w : World) : (execOp a.eval o).run P w = .ok (.value (.int .i64 (n * 2 ^ s))) w := by
  subst hj
  have e := shift_shl .i64 kj n (s : Int) (Int.natCast_nonneg s) (by show (s : Int) ≤ 64; omega)
  rw [show ((s : Int)).toNat = s from by omega] at e
  have hb := shl_bd hn hs
  rw [IntWalk.i64_in _ (by omega)] at e
  simp only [execOp, ho, hx, hy, eqGuard_shl, binOp_shl, e]
  simp
end
section
variable {P : Program} {fn : Func} {R : Ending → World → Prop} {w : World} {s : Zs}
theorem xbot (q : Zq) {b : BinOp} {t t2 : TypeId} {u1 u2 v : Value} (hv : ∀ (a : Act) (o : Oper) (x y : Operand), o.op = .binOp b t x y t2 → a.eval x = u1 → a.eval y = u2 → ∀ V, True → (execOp a.eval o).run P V = .ok (.value v) V) (g : Go P fn R (znx (zq P q s) v) w) (h : zk (zq P q s) = some (.bn b t t2 u1 u2) := by kernel_rfl) : Go P fn R s w := by
  refine zq_sound q s ?_
  obtain ⟨o, ho, h⟩ := zop_of h
  exact zgov ho (fun V _ => by
    obtain ⟨x, y, h1, h2, h3⟩ := zkf_ok h
    exact hv _ o x y h1 h2 h3 V trivial) g
end
theorem u8_shl {n : Int} (h : 0 ≤ n ∧ n ≤ 3) {s : Nat} (hs : s ≤ 6) : IntKind.u8.wrap (n * 2 ^ s) = n * 2 ^ s := by
  have hb := shl_bd h hs
  generalize n * 2 ^ s = m at *
  simp [IntKind.wrap, IntKind.bits, IntKind.signed]; omega
theorem bitsT_at (l : List Int) (i : Nat) {k : Nat} (hk : k < 240) : (bitsT l i).getD (4 + k) 0 = g4B l i k := by
  unfold bitsT
  rw [List.getD, List.getElem?_append_right (by rw [leB_len]; omega), leB_len, Nat.add_sub_cancel_left]
  simp [hk]
theorem bits_or {l : List Int} (h : Small l) {i : Nat} (hi : i < 960) : IntKind.u8.wrap (↑(BitVec.ofInt 8 (↑((bitsT l i).getD (4 + (i / 4)) 0).toNat : Int) ||| BitVec.ofInt 8 (l.getD i 0 * 2 ^ ((i % 4) * 2))).toNat : Int) = ((g4B l (i + 1) (i / 4)).toNat : Int) := by
  rw [bitsT_at l i (by omega)]
  obtain ⟨h1, h2⟩ := g4B_at h (i := i)
  rw [h1]
  obtain ⟨n, hn⟩ : ∃ n : Nat, l.getD i 0 = n := ⟨(l.getD i 0).toNat, by have := (getI_bd h i).1; omega⟩
  have hb := getI_bd h i
  rw [hn] at hb ⊢
  generalize (g4B l i (i / 4)).toNat = o at *
  have hr : i % 4 < 4 := by omega
  generalize i % 4 = r at *
  have ho : o < 64 := Nat.lt_of_lt_of_le h2 (by obtain rfl | rfl | rfl | rfl : r = 0 ∨ r = 1 ∨ r = 2 ∨ r = 3 := by omega
                                                all_goals decide)
  have hs := or_step ⟨r, hr⟩ ⟨n, by omega⟩ ⟨o, ho⟩ h2
  simp only at hs
  have e4 : (4 : Nat) ^ r = 2 ^ (r * 2) := by rw [Nat.mul_comm, Nat.pow_mul]
  have e : ((n : Int) * 2 ^ (r * 2)) = ((n * 4 ^ r : Nat) : Int) := by rw [e4]; simp
  have e' : ((n : Int) * 4 ^ r) = ((n * 4 ^ r : Nat) : Int) := by simp
  have hm : n * 4 ^ r ≤ 192 := by
    have h3 : 4 ^ r ≤ 64 := by obtain rfl | rfl | rfl | rfl : r = 0 ∨ r = 1 ∨ r = 2 ∨ r = 3 := by omega
                               all_goals decide
    calc n * 4 ^ r ≤ 3 * 64 := Nat.mul_le_mul (by omega) h3
      _ = 192 := rfl
  rw [e, e', BitVec.ofInt_natCast, BitVec.ofInt_natCast, BitVec.toNat_or, BitVec.toNat_ofNat, BitVec.toNat_ofNat, Nat.mod_eq_of_lt (by omega), Nat.mod_eq_of_lt (by omega), hs]
  generalize n * 4 ^ r = m at *
  simp [IntKind.wrap, IntKind.bits, IntKind.signed]; omega
theorem bits_set {l : List Int} {i : Nat} (hi : i < 960) : ((bitsT l i).map bv).set (4 + (i / 4)) (.int .u8 ((g4B l (i + 1) (i / 4)).toNat : Int)) = (bitsT l (i + 1)).map bv := by
  rw [show Value.int .u8 ((g4B l (i + 1) (i / 4)).toNat : Int) = bv (g4B l (i + 1) (i / 4)) from rfl, ← List.map_set]
  congr 1
  unfold bitsT
  rw [List.set_append_right _ _ (by rw [leB_len]; omega), leB_len, Nat.add_sub_cancel_left]
  congr 1
  apply List.ext_getElem
  · simp
  · intro k h1 h2
    rw [List.getElem_set]
    split
    · rename_i e; subst e; simp
    · rename_i e; simp only [List.getElem_map, List.getElem_range]; unfold g4B; rw [g4_ne (by omega)]
set_option maxRecDepth 100000 in
theorem bits0 (l : List Int) : ((List.replicate 244 (0 : UInt8)).map bv).take 0 ++ (leB (↑l.length : Int) 4).map bv ++ ((List.replicate 244 (0 : UInt8)).map bv).drop (0 + 4) = (bitsT l 0).map bv := by
  unfold bitsT
  rw [List.map_append, List.take_zero, List.nil_append]
  congr 1
theorem BysN.elem {w : World} {b : Option Addr} {n c : Nat} {l : List UInt8} (h : Sl w (.slice b n c) n (l.map bv)) (hl : l.length = n) {k : Nat} (hk : k < n) : b.isSome = true ∧ w.cell? (elemAddr b (k * 1)) = some (.int .u8 ((l.getD k 0).toNat : Int)) := by
  subst hl; exact Bys.elem (bys_of h rfl) hk
set_option maxRecDepth 100000 in
set_option maxHeartbeats 1000000 in
theorem bits_put1 (n : Int) (w : World) (h0 : 0 ≤ n) (h3 : n ≤ 3) :
    Calls Tryz.prog 89 #[.int .i64 n] w (Ret (.bool false) w) := by
 refine zin 9 Tryz.func89 ?_
 refine xgk 10 [4, 5] (show (decide (n < (0 : Int)) : Bool) = false from decide_eq_false (by omega)) ?_
 refine xe 7 (.bool (decide (n > (3 : Int)))) ?_
 rw [show decide (n > (3 : Int)) = false from decide_eq_false (by omega)]; exact ⟨rfl, (Below.refl w.heap.size _)⟩
set_option maxRecDepth 100000 in
set_option maxHeartbeats 1000000 in
theorem indexSmall (a : Option Addr) (c : Nat) (l : List Int) (w : World) (hS : Small l) (hl : l.length ≤ 960) (h : Sl w (.slice a l.length c) l.length (l.map (Value.int .i64))) :
    Calls Tryz.prog 111 #[.slice a l.length c, .func (.func 89) #[] #[]] w (Ret (.int .i64 (-1)) w) := by
 refine zin 19 Tryz.func111 ?_
 have hB := Below.refl w.heap.size w
 refine zl 14 19 (fun zm zkv V => ∃ (i : Nat), zkv = [(0, .slice a l.length c), (1, .func (.func 89) #[] #[]), (7, .int .i64 (↑l.length : Int)), (8, .int .i64 (↑i : Int))] ∧ zm = l.length - ((↑i : Int)).toNat ∧ Below w.heap.size w V ∧ i ≤ l.length) ⟨0, rfl, rfl, hB, Nat.zero_le _⟩ ?_
 rintro _ _ W1 ⟨i, rfl, rfl, hB_1, hi⟩ J1 hJ1 r1
 refine xid 6 ((↑i : Int) < (↑l.length : Int)) (fun hc2 => ?_) (fun hc2 => ?_)
 · refine xx 15 _ l.length i 1 (Ints.elem h (k := i) (by omega)).1 ?_
   refine xl 0 ((Ints.elem (h.below hB_1) (k := i) (by omega)).2) ?_
   refine xr 0 (args := #[.int .i64 (l.getD i 0)]) (bits_put1 (l.getD i 0) _ (getI_bd hS i).1 (getI_bd hS i).2) fun W3 hb3 => ?_
   refine xwm 7 ((↑i : Int) + 1) (↑(i + 1) : Int) ?_
   have hB'1 := Bl.next hB_1 hb3
   exact ze 2 (hJ1 _ _ _ ⟨i + 1, rfl, rfl, hB'1, by omega⟩ (by omega))
 exact xe 11 (.int .i64 (-1)) ⟨rfl, hB_1⟩
set_option maxRecDepth 100000 in
set_option maxHeartbeats 1000000 in
theorem containsSmall (a : Option Addr) (c : Nat) (l : List Int) (w : World) (hS : Small l) (hl : l.length ≤ 960) (h : Sl w (.slice a l.length c) l.length (l.map (Value.int .i64))) :
    Calls Tryz.prog 88 #[.slice a l.length c, .func (.func 89) #[] #[]] w (Ret (.bool false) w) := by
 refine zin 9 Tryz.func88 ?_
 refine xr 9 (args := #[.slice a l.length c, .func (.func 89) #[] #[]]) (indexSmall a c l _ hS hl (h.below (Below.refl w.heap.size _))) fun W1 hb1 => ?_
 exact xe 5 (.bool false) ⟨rfl, hb1⟩
set_option maxRecDepth 100000 in
set_option maxHeartbeats 2000000 in
theorem bits_Free (a : Option Addr) (c : Nat) (l : List Int) (w : World) (hl : l.length ≤ 960) (h : Sl w (.slice a l.length c) l.length (l.map (Value.int .i64))) :
    Calls Tryz.prog 57 #[.slice a l.length c] w (Ret (.tuple #[.int .i64 (↑(freeN l) : Int), .int .i64 (↑(firstN l) : Int)]) w) := by
 refine zin 27 Tryz.func57 ?_
 have hB := Below.refl w.heap.size w
 refine zl 23 27 (fun zm zkv V => ∃ (i f g : Nat), zkv = [(2, .int .i64 0), (3, .int .i64 0), (4, .int .i64 (↑f : Int)), (5, .int .i64 (↑g : Int)), (10, .slice a l.length c), (11, .int .i64 (↑l.length : Int)), (12, .int .i64 (↑i : Int))] ∧ zm = l.length - ((↑i : Int)).toNat ∧ Below w.heap.size w V ∧ i ≤ l.length ∧ f = freeK l i ∧ ((f = 0 ∧ g = l.length ∧ ∀ j, j < i → l.getD j 0 ≠ 0) ∨ (0 < f ∧ g = firstN l))) ⟨0, 0, l.length, rfl, rfl, hB, Nat.zero_le _, rfl, ?_⟩ ?_
 · exact .inl ⟨rfl, rfl, fun j hj => absurd hj (by omega)⟩
 rintro _ _ W1 ⟨i, f, g, rfl, rfl, hB_1, hi, hf, hg⟩ J1 hJ1 r1
 have hfs := fun (q : i < l.length) => freeK_succ q
 have hfb := freeK_le l i
 refine xid 6 ((↑i : Int) < (↑l.length : Int)) (fun hc2 => ?_) (fun hc2 => ?_)
 · refine xx 7 _ l.length i 1 (Ints.elem h (k := i) (by omega)).1 ?_
   refine xl 0 ((Ints.elem (h.below hB_1) (k := i) (by omega)).2) ?_
   refine xin 11 (l.getD i 0) (0 : Int) (fun hc3 => ?_) (fun hc3 => ?_)
   · refine xwm 5 ((↑i : Int) + 1) (↑(i + 1) : Int) ?_
     exact ze 2 (hJ1 _ _ _ ⟨i + 1, f, g, rfl, rfl, hB_1, by omega, by rw [hfs (by omega), if_neg (by assumption)]; exact hf, hg.elim (fun ⟨h1, h2, h3⟩ => .inl ⟨h1, h2, fun j hj => (Nat.lt_or_ge j i).elim (fun q => h3 j q) (fun q => by obtain rfl : j = i := (by omega); assumption)⟩) .inr⟩ (by omega))
   refine xie 9 (↑f : Int) (0 : Int) (fun hc4 => ?_) (fun hc4 => ?_)
   · refine xwm 7 ((↑f : Int) + 1) (↑(f + 1) : Int) ?_
     refine xwm 5 ((↑i : Int) + 1) (↑(i + 1) : Int) ?_
     exact ze 2 (hJ1 _ _ _ ⟨i + 1, f + 1, i, rfl, rfl, hB_1, by omega, by rw [hfs (by omega), if_pos (by assumption), hf], .inr ⟨by omega, hg.elim (fun ⟨_, _, h3⟩ => (firstN_at (by omega) (by assumption) h3).symm) (fun q => absurd q.1 (by omega))⟩⟩ (by omega))
   refine xwm 4 ((↑f : Int) + 1) (↑(f + 1) : Int) ?_
   refine xwm 5 ((↑i : Int) + 1) (↑(i + 1) : Int) ?_
   exact ze 2 (hJ1 _ _ _ ⟨i + 1, f + 1, g, rfl, rfl, hB_1, by omega, by rw [hfs (by omega), if_pos (by assumption), hf], .inr ⟨by omega, hg.elim (fun ⟨h1, _, _⟩ => absurd h1 (by omega)) (fun q => q.2)⟩⟩ (by omega))
 refine xe 14 (.tuple #[.int .i64 (↑f : Int), .int .i64 (↑g : Int)]) ?_
 obtain rfl : i = l.length := by omega
 have hfin : f = freeN l := hf
 rcases hg with ⟨h1, h2, h3⟩ | ⟨h1, h2⟩
 · exact ⟨by rw [hfin, h2, firstN_none h3], hB_1⟩
 · exact ⟨by rw [hfin, h2], hB_1⟩
set_option maxRecDepth 100000 in
set_option maxHeartbeats 4000000 in
theorem bits_Put (a : Option Addr) (c : Nat) (l : List Int) (w : World) (hS : Small l) (hl : l.length ≤ 960) (h : Sl w (.slice a l.length c) l.length (l.map (Value.int .i64))) :
    Calls Tryz.prog 56 #[.slice a l.length c] w (RetS (fun w' r => ∃ g, r = .tuple #[.slice (some ⟨g, 0, none⟩) 244 244, .int .i64 0] ∧ w'.ownsRow w.heap.size 5 1 (.slice (some ⟨g, 0, none⟩) 244 244) 244 ((bitsB l).map bv)) w) := by
 refine zin 51 Tryz.func56 ?_
 refine xgk 13 [11, 12] (show (decide ((↑l.length : Int) > (960 : Int)) : Bool) = false from decide_eq_false (by omega)) ?_
 refine xr 1 (args := #[.slice a l.length c, .func (.func 89) #[] #[]]) (containsSmall a c l _ hS hl (h.below (Below.refl w.heap.size _))) fun W2 hb2 => ?_
 refine xbs 11 1 [.int .i64 4, .int .i64 (↑l.length : Int)] 114 fun b3 W3 n3 => ?_
 refine xc 0 (args := #[.slice (some ⟨b3, 0, none⟩) 1 1]) (Pack_4 b3 (↑l.length : Int) (by omega) (by omega) _ n3.blk) ?_
 rintro _ W4 ⟨_, rfl, hb4, p2, c2, rfl, h2⟩
 have hs4 := (Bl.next hb2 n3.below).size
 refine xmk 9 fun _ _ _ _ zJ zQ zo zx zy zK => op_make 244 (.int .u8 0) 1 1 ((List.replicate 244 (0 : UInt8)).map bv) zo zx zy Tryz.underlying28 (by kernel_rfl) rfl (by omega) (by omega) (zerosB 244) fun b5 W5 n5 => ?_
 have h2'1 := own_mono h2 hs4
 have r5_h2 := own_ne h2'1 n5
 refine zK _ _ ?_
 have o5 := own_of_blk (size := 1) (n := 244) n5.blk (n5.ge (Bl.next (Bl.next hb2 n3.below) hb4)) (by rw [List.length_map, List.length_replicate]) (by unfold maxLen; omega)
 have h2'2 := own_below h2'1 n5.below
 have hB := Bl.next (Bl.next (Bl.next hb2 n3.below) hb4) n5.below
 refine xbi 7 (t2 := 28) fun _ _ _ _ zJ zQ zo zx zy zK => op_copy (dLen := 244) (dCap := 244) (off := 0) 4 ((leB (↑l.length : Int) 4).map bv) ((bitsT l 0).map bv) zo Tryz.underlying28 (by kernel_rfl) zx zy (own_sl h2'2) o5 (by simp [leB_len]) (by omega) (by omega) (bv_one _) hB.size (bits0 l) fun W6 o6 hg6 hb6 => ?_
 refine zK _ _ ?_
 have hB'1 := hB.trans hb6
 have k3'1 := ((n3.blk.below hb4).below n5.below).grown hg6 o5 (by decide)
 refine zl 11 51 (fun zm zkv V => ∃ (i : Nat), zkv = [(2, .slice none 0 0), (3, .int .i64 0), (6, .slice (some ⟨b5, 0, none⟩) 244 244), (28, .slice a l.length c), (29, .int .i64 (↑l.length : Int)), (30, .int .i64 (↑i : Int))] ∧ zm = l.length - ((↑i : Int)).toNat ∧ Below w.heap.size w V ∧ Blk V b3 ([.int .i64 4, .int .i64 (↑l.length : Int)]) 114 ∧ V.ownsRow w.heap.size 5 1 (.slice (some ⟨b5, 0, none⟩) 244 244) 244 ((bitsT l i).map bv) ∧ i ≤ l.length) ⟨0, rfl, rfl, hB'1, k3'1, o6, Nat.zero_le _⟩ ?_
 rintro _ _ W7 ⟨i, rfl, rfl, hB_7, k7_b3, ho, hi⟩ J7 hJ7 r7
 refine xid 6 ((↑i : Int) < (↑l.length : Int)) (fun hc8 => ?_) (fun hc8 => ?_)
 · refine xx 7 _ l.length i 1 (Ints.elem h (k := i) (by omega)).1 ?_
   refine xl 0 ((Ints.elem (h.below hB_7) (k := i) (by omega)).2) ?_
   refine xd 4 (.t w.heap.size [5]) ?_
   refine xq (.e [0, 1] 2) (congrArg (Value.int .i64) (show (IntKind.i64.wrap (Int.tdiv (↑i : Int) 4) : Int) = (↑(i / 4) : Int) from quo_natB i 4 (by omega) (by decide))) ?_
   refine xwm (.e [] 3) (4 + (↑(i / 4) : Int)) (↑(4 + (i / 4)) : Int) ?_
   refine xx (.e [] 4) _ 244 (4 + (i / 4)) 1 (show (some (⟨b5, 0, none⟩ : Addr)).isSome = true from rfl) ?_
   refine xq (.e [6, 7] 8) (congrArg (Value.int .i64) (show (Int.tmod (↑i : Int) 4 : Int) = (↑(i % 4) : Int) from tmod_natB i 4)) ?_
   refine xwm (.e [] 9) ((↑(i % 4) : Int) * 2) (↑((i % 4) * 2) : Int) ?_
   refine xbot (.e [] 10) (t := 3) (t2 := 3) (fun _ _ _ _ zo zx zy V hV => run_shlS (n := (l.getD i 0)) (s := ((i % 4) * 2)) (kj := .i64) (j := (↑((i % 4) * 2) : Int)) zo zx zy rfl (getI_bd hS i) (by omega) V) ?_
   refine xq (.e [] 11) (congrArg (Value.int .u8) (show (IntKind.u8.wrap (l.getD i 0 * 2 ^ ((i % 4) * 2)) : Int) = l.getD i 0 * 2 ^ ((i % 4) * 2) from u8_shl (getI_bd hS i) (by omega))) ?_
   have ho'1 := own_below ho (below_drew W7)
   refine xl (.o [] 5) ((BysN.elem (own_sl ho'1) (bitsT_len l i) (k := (4 + (i / 4))) (by omega)).2) ?_
   refine xq (.e [] 12) (congrArg (Value.int .u8) (show (IntKind.u8.wrap (↑(BitVec.ofInt 8 (↑((bitsT l i).getD (4 + (i / 4)) 0).toNat : Int) ||| BitVec.ofInt 8 (l.getD i 0 * 2 ^ ((i % 4) * 2))).toNat : Int) : Int) = (↑(g4B l (i + 1) (i / 4)).toNat : Int) from bits_or hS (by omega))) ?_
   refine xx (.e [] 13) _ 244 (4 + (i / 4)) 1 (show (some (⟨b5, 0, none⟩ : Addr)).isSome = true from rfl) ?_
   refine yst (.o [] 14) (.t w.heap.size [5]) fun _ _ _ _ zJ zQ zo zx zy zK => op_storeRow (t := 5) (k := (4 + (i / 4))) (v := .int .u8 (↑(g4B l (i + 1) (i / 4)).toNat : Int)) zo zx zy (by kernel_rfl) rfl ho'1 (by omega) fun W9 u9 o9 => ?_
   rw [bits_set (l := l) (i := i) (by omega)] at o9
   have k7_b3'1 := k7_b3.below (below_drew W7)
   refine zK _ _ (sft_only (T := [5]) (u9.below (Below.refl _ _) (own_ge ho'1)) (Only.of_updRow u9 ho'1 (by decide))) ?_
   refine xwm 4 ((↑i : Int) + 1) (↑(i + 1) : Int) ?_
   have hB'2 := u9.below (Bl.next hB_7 (below_drew W7)) (own_ge ho'1)
   have k7_b3'2 := u9.blk k7_b3'1 (own_blk_ne k7_b3'1 ho'1 (by decide))
   exact ze 2 (hJ7 _ _ _ ⟨i + 1, rfl, rfl, hB'2, k7_b3'2, o9, by omega⟩ (by omega))
 refine xe 13 (.tuple #[.slice (some ⟨b5, 0, none⟩) 244 244, .int .i64 0]) ?_
 obtain rfl : i = l.length := by omega
 exact ⟨_, rfl, hB_7, _, rfl, ho⟩
set_option maxRecDepth 100000 in
set_option maxHeartbeats 1000000 in
theorem clone_cnt (p : Addr) (N c : Nat) (xs : List Value) (w : World) (h : Sl w (.slice (some p) N c) N xs) (hl : xs.length = N) (h1 : ∀ u ∈ xs, u.oneCell' = true) (hn : N ≤ 1000000) :
    Calls Tryz.prog 27 #[.slice (some p) N c] w (RetS (fun w' r => ∃ q c2, r = .slice q N c2 ∧ w'.ownsRow w.heap.size 3 1 (.slice q N c2) N xs) w) := by
 refine zin 8 Tryz.func27 ?_
 refine xb0 17 3 fun b1 W1 n1 => ?_
 have o1 := own_of_blk (size := 1) (n := 0) n1.blk (n1.ge (Below.refl w.heap.size _)) rfl (by decide)
 refine xbi 1 fun _ _ _ _ zJ zQ zo zx zy zK => op_app (m := N) (news := xs) (.int .i64 0) 1 8 (N) (xs) zo Tryz.underlying22 (by kernel_rfl) rfl (by decide) zx o1 zy (h.below n1.below) (by rw [hl, Nat.mul_one]) h1 (by unfold maxLen; omega) (by omega) n1.below.size (by omega) (by rfl) fun px2 cx2 W2 o2 hg2 hb2 => ?_
 refine zK _ _ ?_
 have hB'1 := n1.below.trans hb2
 exact xe 4 (.slice px2 N cx2) ⟨_, rfl, hB'1, _, _, rfl, o2⟩
end Go.Proofs.YtbhjgcokpmiopaaGreatDoor
namespace Go.Proofs.YtbhjgcokpmiopaaGreatDoor
open Go.RowKit Go.Extern.Stop Go.Stop Go.Extern
set_option linter.unusedVariables false
attribute [local irreducible] wpList wpAnyH Code.wp Oper.wp Go

def ClosP (B Bx bl : Nat) (L : List (List Int)) (q i : Nat) (w : World) (e : Ending) (w' : World) : Prop :=
  ∃ u p c, e = .returned u ∧ Below B w w' ∧ Only [60, 99] w w' ∧ Blk w' bl [.slice p (i + 1) c] 60 ∧ w'.ownsRow Bx 99 3 (.slice p (i + 1) c) (i + 1) ((slotsE L q (i + 1)).flatMap entC) ∧ FrB Bx [bl] w w'
theorem slots_row (L : List (List Int)) (q i : Nat) : (slotsE L q i).flatMap entC ++ [.int .i64 (i : Int), .string ⟨(leB ((q + i : Nat) : Int) 8 ++ leB (freeN (L.getD i []) : Int) 4 ++ leB (firstN (L.getD i []) : Int) 4).toArray⟩, .int .i64 0] = (slotsE L q (i + 1)).flatMap entC := by
  rw [slotsE_succ]; simp [entC, slotX, slotB]
structure FrZ (Bx : Nat) (S : List Nat) (a w : World) : Prop where
  fr : FrB Bx S a w
  le : Bx ≤ a.heap.size
theorem FrZ.refl {Bx : Nat} {S : List Nat} {w : World} (h : Bx ≤ w.heap.size) : FrZ Bx S w w := ⟨⟨Nat.le_refl _, fun _ _ _ => rfl⟩, h⟩
theorem FrZ.below {Bx : Nat} {S : List Nat} {a w W : World} (h : FrZ Bx S a w) (hb : Below w.heap.size w W) : FrZ Bx S a W := ⟨⟨Nat.le_trans h.fr.1 hb.size, fun k hk hn => (hb.block k (by have := h.fr.1; have := h.le; omega)).trans (h.fr.2 k hk hn)⟩, h.le⟩
theorem FrZ.upd {Bx b : Nat} {S : List Nat} {a w W : World} (h : FrZ Bx S a w) (u : Upd w b W) (hb : b ∈ S) : FrZ Bx S a W := ⟨⟨Nat.le_trans h.fr.1 (Nat.le_of_eq u.size.symm), fun k hk hn => (u.block k fun e => hn (e ▸ hb)).trans (h.fr.2 k hk hn)⟩, h.le⟩
theorem FrZ.grown {Bx : Nat} {S : List Nat} {a w W : World} {size n : Nat} {e : TypeId} {v : Value} {xs : List Value} (h : FrZ Bx S a w) (hg : w.grownBy W v.ownBlock) (hown : w.ownsRow Bx e size v n xs) : FrZ Bx S a W := ⟨⟨Nat.le_trans h.fr.1 hg.size, fun k hk hn => (hg.block k (by have := h.fr.1; have := h.le; omega) (fun e => by have := (hown.lt k e.symm).1; omega)).trans (h.fr.2 k hk hn)⟩, h.le⟩
set_option maxRecDepth 100000 in
set_option maxHeartbeats 4000000 in
theorem plot_data1 (B Bx bl : Nat) (p : Option Addr) (c : Nat) (L : List (List Int)) (q i : Nat) (w : World) (hBm : B ≤ Bx) (hBx : Bx ≤ w.heap.size) (hBw : B ≤ w.heap.size) (hBl : B ≤ bl) (kl : Blk w bl [.slice p i c] 60) (hup : w.ownsRow Bx 99 3 (.slice p i c) i ((slotsE L q i).flatMap entC)) (hq : 1 ≤ q + i) (hq2 : q + i ≤ 14399) (hi : i ≤ 100000) (hf : freeN (L.getD i []) ≤ 960) (hg : firstN (L.getD i []) ≤ 960) :
    Calls Tryz.prog 48 #[.agg #[.int .i64 (↑(q + i) : Int), .int .i64 (↑(freeN (L.getD i [])) : Int), .int .i64 (↑(firstN (L.getD i [])) : Int)], .pointer (some ⟨bl, 0, none⟩)] w (ClosP B Bx bl L q i w) := by
 have hZ : FrZ Bx [bl] w w := FrZ.refl hBx
 refine zin 11 Tryz.func48 ?_
 refine xa 2 [.int .i64 (↑(q + i) : Int), .int .i64 (↑(freeN (L.getD i [])) : Int), .int .i64 (↑(firstN (L.getD i [])) : Int)] 72 fun b1 W1 n1 => ?_
 refine xd 2 (.t B [60, 99]) ?_
 have k1 := n1.blk.below (below_drew W1)
 refine xlvt (.e [] 3) (.t B [60, 99]) (fun V hV => (k1.only hV.2 (by decide)).rp) ?_
 refine xm3 0 0 1 4 ?_ ?_ ?_
 · have kl'1 := (kl.below n1.below).below (below_drew W1)
   refine xb 0 0 kl'1 ?_
   refine xm2 0 1 4 ?_ ?_
   · refine xb 0 0 kl'1 ?_
     refine xr (.o [2] 4) (args := #[.agg #[.int .i64 (↑(q + i) : Int), .int .i64 (↑(freeN (L.getD i [])) : Int), .int .i64 (↑(firstN (L.getD i [])) : Int)]]) (value_Slot (↑(q + i) : Int) (↑(freeN (L.getD i [])) : Int) (↑(firstN (L.getD i [])) : Int) (by omega) (by omega) (by omega) (by omega) (by omega) (by omega) _) fun W2 hb2 => ?_
     refine xbs (.o [5] 6) 1 [.int .i64 (↑i : Int), .string ⟨(leB (↑(q + i) : Int) 8 ++ leB (↑(freeN (L.getD i [])) : Int) 4 ++ leB (↑(firstN (L.getD i [])) : Int) 4).toArray⟩, .int .i64 0] 99 fun b3 W3 n3 => ?_
     have hup'1 := own_below (own_below (own_below hup n1.below) (below_drew W1)) hb2
     have r3_hup := own_ne hup'1 n3
     have hup'2 := own_below hup'1 n3.below
     have hB := Bl.nextB (Bl.nextB (Bl.nextB (Bl.nextB (Below.refl B w) hBw n1.below) hBw (below_drew W1)) hBw hb2) hBw n3.below
     refine ybi (.o [] 7) (.t B [60, 99]) fun _ _ _ _ zJ zQ zo zx zy zK => op_app (m := 1) (news := [.int .i64 (↑i : Int), .string ⟨(leB (↑(q + i) : Int) 8 ++ leB (↑(freeN (L.getD i [])) : Int) 4 ++ leB (↑(firstN (L.getD i [])) : Int) 4).toArray⟩, .int .i64 0]) (.agg #[.int .i64 0, .string ⟨#[]⟩, .int .i64 0]) 3 32 (i + 1) ((slotsE L q (i + 1)).flatMap entC) zo Tryz.underlying60 (by kernel_rfl) rfl (by decide) zx hup'2 zy (n3.blk.sl 1 1 (by decide) (by decide)) rfl (by simp [Value.oneCell']) (by unfold maxLen; omega) (by omega) (Nat.le_trans hBx hB.size) (by rfl) (slots_row L q i) fun px4 cx4 W4 o4 hg4 hb4 => ?_
     refine zK _ _ (sft_grown (hb4.mono hBm) hg4 hup'2 (by decide)) ?_
     have kl'2 := ((kl'1.below hb2).below n3.below).grown hg4 hup'2 (by decide)
     refine ys (.o [] 8) kl'2 [.slice px4 (i + 1) cx4] (.t B [60, 99]) fun W5 u5 k5 => ⟨(sft_upd u5 kl'2 hBl (by decide)), ?_⟩
     have hB'1 := u5.below (hB.trans (hb4.mono hBm)) hBl
     have hO := (((((show Only [60, 99] w _ from (Only.of_below n1.below)).trans (Only.of_below (below_drew W1))).trans (Only.of_below hb2)).trans (Only.of_below n3.below)).trans (Only.of_grown hg4 hup'2 (by decide))).trans (Only.of_upd u5 kl'2 (by decide))
     have o4'1 := u5.own2 o4 kl'2 (by decide)
     have hZ'1 := (((((hZ.below n1.below).below (below_drew W1)).below hb2).below n3.below).grown hg4 hup'2).upd u5 (by simp)
     exact xe 1 (.tuple #[]) ⟨_, _, _, rfl, hB'1, hO, k5, o4'1, hZ'1.fr⟩
   refine xr 0 (args := #[.agg #[.int .i64 (↑(q + i) : Int), .int .i64 (↑(freeN (L.getD i [])) : Int), .int .i64 (↑(firstN (L.getD i [])) : Int)]]) (value_Slot (↑(q + i) : Int) (↑(freeN (L.getD i [])) : Int) (↑(firstN (L.getD i [])) : Int) (by omega) (by omega) (by omega) (by omega) (by omega) (by omega) _) fun W6 hb6 => ?_
   have kl'3 := kl'1.below hb6
   refine xb (.o [] 1) 0 kl'3 ?_
   refine xbs (.o [2, 5] 6) 1 [.int .i64 (↑i : Int), .string ⟨(leB (↑(q + i) : Int) 8 ++ leB (↑(freeN (L.getD i [])) : Int) 4 ++ leB (↑(firstN (L.getD i [])) : Int) 4).toArray⟩, .int .i64 0] 99 fun b7 W7 n7 => ?_
   have hup'3 := own_below (own_below (own_below hup n1.below) (below_drew W1)) hb6
   have r7_hup := own_ne hup'3 n7
   have hup'4 := own_below hup'3 n7.below
   have hB := Bl.nextB (Bl.nextB (Bl.nextB (Bl.nextB (Below.refl B w) hBw n1.below) hBw (below_drew W1)) hBw hb6) hBw n7.below
   refine ybi (.o [] 7) (.t B [60, 99]) fun _ _ _ _ zJ zQ zo zx zy zK => op_app (m := 1) (news := [.int .i64 (↑i : Int), .string ⟨(leB (↑(q + i) : Int) 8 ++ leB (↑(freeN (L.getD i [])) : Int) 4 ++ leB (↑(firstN (L.getD i [])) : Int) 4).toArray⟩, .int .i64 0]) (.agg #[.int .i64 0, .string ⟨#[]⟩, .int .i64 0]) 3 32 (i + 1) ((slotsE L q (i + 1)).flatMap entC) zo Tryz.underlying60 (by kernel_rfl) rfl (by decide) zx hup'4 zy (n7.blk.sl 1 1 (by decide) (by decide)) rfl (by simp [Value.oneCell']) (by unfold maxLen; omega) (by omega) (Nat.le_trans hBx hB.size) (by rfl) (slots_row L q i) fun px8 cx8 W8 o8 hg8 hb8 => ?_
   refine zK _ _ (sft_grown (hb8.mono hBm) hg8 hup'4 (by decide)) ?_
   have kl'4 := (kl'3.below n7.below).grown hg8 hup'4 (by decide)
   refine ys (.o [] 8) kl'4 [.slice px8 (i + 1) cx8] (.t B [60, 99]) fun W9 u9 k9 => ⟨(sft_upd u9 kl'4 hBl (by decide)), ?_⟩
   have hB'2 := u9.below (hB.trans (hb8.mono hBm)) hBl
   have hO := (((((show Only [60, 99] w _ from (Only.of_below n1.below)).trans (Only.of_below (below_drew W1))).trans (Only.of_below hb6)).trans (Only.of_below n7.below)).trans (Only.of_grown hg8 hup'4 (by decide))).trans (Only.of_upd u9 kl'4 (by decide))
   have o8'1 := u9.own2 o8 kl'4 (by decide)
   have hZ'2 := (((((hZ.below n1.below).below (below_drew W1)).below hb6).below n7.below).grown hg8 hup'4).upd u9 (by simp)
   exact xe 1 (.tuple #[]) ⟨_, _, _, rfl, hB'2, hO, k9, o8'1, hZ'2.fr⟩
 · have kl'5 := (kl.below n1.below).below (below_drew W1)
   refine xb 0 0 kl'5 ?_
   refine xm2 (.b [2]) 0 4 ?_ ?_
   · refine xb 0 0 kl'5 ?_
     refine xr (.o [] 4) (args := #[.agg #[.int .i64 (↑(q + i) : Int), .int .i64 (↑(freeN (L.getD i [])) : Int), .int .i64 (↑(firstN (L.getD i [])) : Int)]]) (value_Slot (↑(q + i) : Int) (↑(freeN (L.getD i [])) : Int) (↑(firstN (L.getD i [])) : Int) (by omega) (by omega) (by omega) (by omega) (by omega) (by omega) _) fun W10 hb10 => ?_
     refine xbs (.o [5] 6) 1 [.int .i64 (↑i : Int), .string ⟨(leB (↑(q + i) : Int) 8 ++ leB (↑(freeN (L.getD i [])) : Int) 4 ++ leB (↑(firstN (L.getD i [])) : Int) 4).toArray⟩, .int .i64 0] 99 fun b11 W11 n11 => ?_
     have hup'5 := own_below (own_below (own_below hup n1.below) (below_drew W1)) hb10
     have r11_hup := own_ne hup'5 n11
     have hup'6 := own_below hup'5 n11.below
     have hB := Bl.nextB (Bl.nextB (Bl.nextB (Bl.nextB (Below.refl B w) hBw n1.below) hBw (below_drew W1)) hBw hb10) hBw n11.below
     refine ybi (.o [] 7) (.t B [60, 99]) fun _ _ _ _ zJ zQ zo zx zy zK => op_app (m := 1) (news := [.int .i64 (↑i : Int), .string ⟨(leB (↑(q + i) : Int) 8 ++ leB (↑(freeN (L.getD i [])) : Int) 4 ++ leB (↑(firstN (L.getD i [])) : Int) 4).toArray⟩, .int .i64 0]) (.agg #[.int .i64 0, .string ⟨#[]⟩, .int .i64 0]) 3 32 (i + 1) ((slotsE L q (i + 1)).flatMap entC) zo Tryz.underlying60 (by kernel_rfl) rfl (by decide) zx hup'6 zy (n11.blk.sl 1 1 (by decide) (by decide)) rfl (by simp [Value.oneCell']) (by unfold maxLen; omega) (by omega) (Nat.le_trans hBx hB.size) (by rfl) (slots_row L q i) fun px12 cx12 W12 o12 hg12 hb12 => ?_
     refine zK _ _ (sft_grown (hb12.mono hBm) hg12 hup'6 (by decide)) ?_
     have kl'6 := ((kl'5.below hb10).below n11.below).grown hg12 hup'6 (by decide)
     refine ys (.o [] 8) kl'6 [.slice px12 (i + 1) cx12] (.t B [60, 99]) fun W13 u13 k13 => ⟨(sft_upd u13 kl'6 hBl (by decide)), ?_⟩
     have hB'3 := u13.below (hB.trans (hb12.mono hBm)) hBl
     have hO := (((((show Only [60, 99] w _ from (Only.of_below n1.below)).trans (Only.of_below (below_drew W1))).trans (Only.of_below hb10)).trans (Only.of_below n11.below)).trans (Only.of_grown hg12 hup'6 (by decide))).trans (Only.of_upd u13 kl'6 (by decide))
     have o12'1 := u13.own2 o12 kl'6 (by decide)
     have hZ'3 := (((((hZ.below n1.below).below (below_drew W1)).below hb10).below n11.below).grown hg12 hup'6).upd u13 (by simp)
     exact xe 1 (.tuple #[]) ⟨_, _, _, rfl, hB'3, hO, k13, o12'1, hZ'3.fr⟩
   refine xr 0 (args := #[.agg #[.int .i64 (↑(q + i) : Int), .int .i64 (↑(freeN (L.getD i [])) : Int), .int .i64 (↑(firstN (L.getD i [])) : Int)]]) (value_Slot (↑(q + i) : Int) (↑(freeN (L.getD i [])) : Int) (↑(firstN (L.getD i [])) : Int) (by omega) (by omega) (by omega) (by omega) (by omega) (by omega) _) fun W14 hb14 => ?_
   refine xm2 (.b [5]) 0 6 ?_ ?_
   · have kl'7 := kl'5.below hb14
     refine xb 0 0 kl'7 ?_
     refine xbs (.o [] 6) 1 [.int .i64 (↑i : Int), .string ⟨(leB (↑(q + i) : Int) 8 ++ leB (↑(freeN (L.getD i [])) : Int) 4 ++ leB (↑(firstN (L.getD i [])) : Int) 4).toArray⟩, .int .i64 0] 99 fun b15 W15 n15 => ?_
     have hup'7 := own_below (own_below (own_below hup n1.below) (below_drew W1)) hb14
     have r15_hup := own_ne hup'7 n15
     have hup'8 := own_below hup'7 n15.below
     have hB := Bl.nextB (Bl.nextB (Bl.nextB (Bl.nextB (Below.refl B w) hBw n1.below) hBw (below_drew W1)) hBw hb14) hBw n15.below
     refine ybi (.o [] 7) (.t B [60, 99]) fun _ _ _ _ zJ zQ zo zx zy zK => op_app (m := 1) (news := [.int .i64 (↑i : Int), .string ⟨(leB (↑(q + i) : Int) 8 ++ leB (↑(freeN (L.getD i [])) : Int) 4 ++ leB (↑(firstN (L.getD i [])) : Int) 4).toArray⟩, .int .i64 0]) (.agg #[.int .i64 0, .string ⟨#[]⟩, .int .i64 0]) 3 32 (i + 1) ((slotsE L q (i + 1)).flatMap entC) zo Tryz.underlying60 (by kernel_rfl) rfl (by decide) zx hup'8 zy (n15.blk.sl 1 1 (by decide) (by decide)) rfl (by simp [Value.oneCell']) (by unfold maxLen; omega) (by omega) (Nat.le_trans hBx hB.size) (by rfl) (slots_row L q i) fun px16 cx16 W16 o16 hg16 hb16 => ?_
     refine zK _ _ (sft_grown (hb16.mono hBm) hg16 hup'8 (by decide)) ?_
     have kl'8 := (kl'7.below n15.below).grown hg16 hup'8 (by decide)
     refine ys (.o [] 8) kl'8 [.slice px16 (i + 1) cx16] (.t B [60, 99]) fun W17 u17 k17 => ⟨(sft_upd u17 kl'8 hBl (by decide)), ?_⟩
     have hB'4 := u17.below (hB.trans (hb16.mono hBm)) hBl
     have hO := (((((show Only [60, 99] w _ from (Only.of_below n1.below)).trans (Only.of_below (below_drew W1))).trans (Only.of_below hb14)).trans (Only.of_below n15.below)).trans (Only.of_grown hg16 hup'8 (by decide))).trans (Only.of_upd u17 kl'8 (by decide))
     have o16'1 := u17.own2 o16 kl'8 (by decide)
     have hZ'4 := (((((hZ.below n1.below).below (below_drew W1)).below hb14).below n15.below).grown hg16 hup'8).upd u17 (by simp)
     exact xe 1 (.tuple #[]) ⟨_, _, _, rfl, hB'4, hO, k17, o16'1, hZ'4.fr⟩
   refine xbs 0 1 [.int .i64 (↑i : Int), .string ⟨(leB (↑(q + i) : Int) 8 ++ leB (↑(freeN (L.getD i [])) : Int) 4 ++ leB (↑(firstN (L.getD i [])) : Int) 4).toArray⟩, .int .i64 0] 99 fun b18 W18 n18 => ?_
   have hup'9 := own_below (own_below (own_below hup n1.below) (below_drew W1)) hb14
   have r18_hup := own_ne hup'9 n18
   have kl'9 := (kl'5.below hb14).below n18.below
   refine xb (.o [] 0) 0 kl'9 ?_
   have hup'10 := own_below hup'9 n18.below
   have hB := Bl.nextB (Bl.nextB (Bl.nextB (Bl.nextB (Below.refl B w) hBw n1.below) hBw (below_drew W1)) hBw hb14) hBw n18.below
   refine ybi (.o [] 7) (.t B [60, 99]) fun _ _ _ _ zJ zQ zo zx zy zK => op_app (m := 1) (news := [.int .i64 (↑i : Int), .string ⟨(leB (↑(q + i) : Int) 8 ++ leB (↑(freeN (L.getD i [])) : Int) 4 ++ leB (↑(firstN (L.getD i [])) : Int) 4).toArray⟩, .int .i64 0]) (.agg #[.int .i64 0, .string ⟨#[]⟩, .int .i64 0]) 3 32 (i + 1) ((slotsE L q (i + 1)).flatMap entC) zo Tryz.underlying60 (by kernel_rfl) rfl (by decide) zx hup'10 zy (n18.blk.sl 1 1 (by decide) (by decide)) rfl (by simp [Value.oneCell']) (by unfold maxLen; omega) (by omega) (Nat.le_trans hBx hB.size) (by rfl) (slots_row L q i) fun px19 cx19 W19 o19 hg19 hb19 => ?_
   refine zK _ _ (sft_grown (hb19.mono hBm) hg19 hup'10 (by decide)) ?_
   have kl'10 := kl'9.grown hg19 hup'10 (by decide)
   refine ys (.o [] 8) kl'10 [.slice px19 (i + 1) cx19] (.t B [60, 99]) fun W20 u20 k20 => ⟨(sft_upd u20 kl'10 hBl (by decide)), ?_⟩
   have hB'5 := u20.below (hB.trans (hb19.mono hBm)) hBl
   have hO := (((((show Only [60, 99] w _ from (Only.of_below n1.below)).trans (Only.of_below (below_drew W1))).trans (Only.of_below hb14)).trans (Only.of_below n18.below)).trans (Only.of_grown hg19 hup'10 (by decide))).trans (Only.of_upd u20 kl'10 (by decide))
   have o19'1 := u20.own2 o19 kl'10 (by decide)
   have hZ'5 := (((((hZ.below n1.below).below (below_drew W1)).below hb14).below n18.below).grown hg19 hup'10).upd u20 (by simp)
   exact xe 1 (.tuple #[]) ⟨_, _, _, rfl, hB'5, hO, k20, o19'1, hZ'5.fr⟩
 refine xr 0 (args := #[.agg #[.int .i64 (↑(q + i) : Int), .int .i64 (↑(freeN (L.getD i [])) : Int), .int .i64 (↑(firstN (L.getD i [])) : Int)]]) (value_Slot (↑(q + i) : Int) (↑(freeN (L.getD i [])) : Int) (↑(firstN (L.getD i [])) : Int) (by omega) (by omega) (by omega) (by omega) (by omega) (by omega) _) fun W21 hb21 => ?_
 refine xm2 0 0 1 ?_ ?_
 · have kl'11 := ((kl.below n1.below).below (below_drew W1)).below hb21
   refine xb 0 0 kl'11 ?_
   refine xb (.o [] 1) 0 kl'11 ?_
   refine xbs (.o [2, 5] 6) 1 [.int .i64 (↑i : Int), .string ⟨(leB (↑(q + i) : Int) 8 ++ leB (↑(freeN (L.getD i [])) : Int) 4 ++ leB (↑(firstN (L.getD i [])) : Int) 4).toArray⟩, .int .i64 0] 99 fun b22 W22 n22 => ?_
   have hup'11 := own_below (own_below (own_below hup n1.below) (below_drew W1)) hb21
   have r22_hup := own_ne hup'11 n22
   have hup'12 := own_below hup'11 n22.below
   have hB := Bl.nextB (Bl.nextB (Bl.nextB (Bl.nextB (Below.refl B w) hBw n1.below) hBw (below_drew W1)) hBw hb21) hBw n22.below
   refine ybi (.o [] 7) (.t B [60, 99]) fun _ _ _ _ zJ zQ zo zx zy zK => op_app (m := 1) (news := [.int .i64 (↑i : Int), .string ⟨(leB (↑(q + i) : Int) 8 ++ leB (↑(freeN (L.getD i [])) : Int) 4 ++ leB (↑(firstN (L.getD i [])) : Int) 4).toArray⟩, .int .i64 0]) (.agg #[.int .i64 0, .string ⟨#[]⟩, .int .i64 0]) 3 32 (i + 1) ((slotsE L q (i + 1)).flatMap entC) zo Tryz.underlying60 (by kernel_rfl) rfl (by decide) zx hup'12 zy (n22.blk.sl 1 1 (by decide) (by decide)) rfl (by simp [Value.oneCell']) (by unfold maxLen; omega) (by omega) (Nat.le_trans hBx hB.size) (by rfl) (slots_row L q i) fun px23 cx23 W23 o23 hg23 hb23 => ?_
   refine zK _ _ (sft_grown (hb23.mono hBm) hg23 hup'12 (by decide)) ?_
   have kl'12 := (kl'11.below n22.below).grown hg23 hup'12 (by decide)
   refine ys (.o [] 8) kl'12 [.slice px23 (i + 1) cx23] (.t B [60, 99]) fun W24 u24 k24 => ⟨(sft_upd u24 kl'12 hBl (by decide)), ?_⟩
   have hB'6 := u24.below (hB.trans (hb23.mono hBm)) hBl
   have hO := (((((show Only [60, 99] w _ from (Only.of_below n1.below)).trans (Only.of_below (below_drew W1))).trans (Only.of_below hb21)).trans (Only.of_below n22.below)).trans (Only.of_grown hg23 hup'12 (by decide))).trans (Only.of_upd u24 kl'12 (by decide))
   have o23'1 := u24.own2 o23 kl'12 (by decide)
   have hZ'6 := (((((hZ.below n1.below).below (below_drew W1)).below hb21).below n22.below).grown hg23 hup'12).upd u24 (by simp)
   exact xe 1 (.tuple #[]) ⟨_, _, _, rfl, hB'6, hO, k24, o23'1, hZ'6.fr⟩
 have kl'13 := ((kl.below n1.below).below (below_drew W1)).below hb21
 refine xb 0 0 kl'13 ?_
 refine xm2 (.b [2, 5]) 0 6 ?_ ?_
 · refine xb 0 0 kl'13 ?_
   refine xbs (.o [] 6) 1 [.int .i64 (↑i : Int), .string ⟨(leB (↑(q + i) : Int) 8 ++ leB (↑(freeN (L.getD i [])) : Int) 4 ++ leB (↑(firstN (L.getD i [])) : Int) 4).toArray⟩, .int .i64 0] 99 fun b25 W25 n25 => ?_
   have hup'13 := own_below (own_below (own_below hup n1.below) (below_drew W1)) hb21
   have r25_hup := own_ne hup'13 n25
   have hup'14 := own_below hup'13 n25.below
   have hB := Bl.nextB (Bl.nextB (Bl.nextB (Bl.nextB (Below.refl B w) hBw n1.below) hBw (below_drew W1)) hBw hb21) hBw n25.below
   refine ybi (.o [] 7) (.t B [60, 99]) fun _ _ _ _ zJ zQ zo zx zy zK => op_app (m := 1) (news := [.int .i64 (↑i : Int), .string ⟨(leB (↑(q + i) : Int) 8 ++ leB (↑(freeN (L.getD i [])) : Int) 4 ++ leB (↑(firstN (L.getD i [])) : Int) 4).toArray⟩, .int .i64 0]) (.agg #[.int .i64 0, .string ⟨#[]⟩, .int .i64 0]) 3 32 (i + 1) ((slotsE L q (i + 1)).flatMap entC) zo Tryz.underlying60 (by kernel_rfl) rfl (by decide) zx hup'14 zy (n25.blk.sl 1 1 (by decide) (by decide)) rfl (by simp [Value.oneCell']) (by unfold maxLen; omega) (by omega) (Nat.le_trans hBx hB.size) (by rfl) (slots_row L q i) fun px26 cx26 W26 o26 hg26 hb26 => ?_
   refine zK _ _ (sft_grown (hb26.mono hBm) hg26 hup'14 (by decide)) ?_
   have kl'14 := (kl'13.below n25.below).grown hg26 hup'14 (by decide)
   refine ys (.o [] 8) kl'14 [.slice px26 (i + 1) cx26] (.t B [60, 99]) fun W27 u27 k27 => ⟨(sft_upd u27 kl'14 hBl (by decide)), ?_⟩
   have hB'7 := u27.below (hB.trans (hb26.mono hBm)) hBl
   have hO := (((((show Only [60, 99] w _ from (Only.of_below n1.below)).trans (Only.of_below (below_drew W1))).trans (Only.of_below hb21)).trans (Only.of_below n25.below)).trans (Only.of_grown hg26 hup'14 (by decide))).trans (Only.of_upd u27 kl'14 (by decide))
   have o26'1 := u27.own2 o26 kl'14 (by decide)
   have hZ'7 := (((((hZ.below n1.below).below (below_drew W1)).below hb21).below n25.below).grown hg26 hup'14).upd u27 (by simp)
   exact xe 1 (.tuple #[]) ⟨_, _, _, rfl, hB'7, hO, k27, o26'1, hZ'7.fr⟩
 refine xbs 0 1 [.int .i64 (↑i : Int), .string ⟨(leB (↑(q + i) : Int) 8 ++ leB (↑(freeN (L.getD i [])) : Int) 4 ++ leB (↑(firstN (L.getD i [])) : Int) 4).toArray⟩, .int .i64 0] 99 fun b28 W28 n28 => ?_
 have hup'15 := own_below (own_below (own_below hup n1.below) (below_drew W1)) hb21
 have r28_hup := own_ne hup'15 n28
 have kl'15 := kl'13.below n28.below
 refine xb (.o [] 0) 0 kl'15 ?_
 have hup'16 := own_below hup'15 n28.below
 have hB := Bl.nextB (Bl.nextB (Bl.nextB (Bl.nextB (Below.refl B w) hBw n1.below) hBw (below_drew W1)) hBw hb21) hBw n28.below
 refine ybi (.o [] 7) (.t B [60, 99]) fun _ _ _ _ zJ zQ zo zx zy zK => op_app (m := 1) (news := [.int .i64 (↑i : Int), .string ⟨(leB (↑(q + i) : Int) 8 ++ leB (↑(freeN (L.getD i [])) : Int) 4 ++ leB (↑(firstN (L.getD i [])) : Int) 4).toArray⟩, .int .i64 0]) (.agg #[.int .i64 0, .string ⟨#[]⟩, .int .i64 0]) 3 32 (i + 1) ((slotsE L q (i + 1)).flatMap entC) zo Tryz.underlying60 (by kernel_rfl) rfl (by decide) zx hup'16 zy (n28.blk.sl 1 1 (by decide) (by decide)) rfl (by simp [Value.oneCell']) (by unfold maxLen; omega) (by omega) (Nat.le_trans hBx hB.size) (by rfl) (slots_row L q i) fun px29 cx29 W29 o29 hg29 hb29 => ?_
 refine zK _ _ (sft_grown (hb29.mono hBm) hg29 hup'16 (by decide)) ?_
 have kl'16 := kl'15.grown hg29 hup'16 (by decide)
 refine ys (.o [] 8) kl'16 [.slice px29 (i + 1) cx29] (.t B [60, 99]) fun W30 u30 k30 => ⟨(sft_upd u30 kl'16 hBl (by decide)), ?_⟩
 have hB'8 := u30.below (hB.trans (hb29.mono hBm)) hBl
 have hO := (((((show Only [60, 99] w _ from (Only.of_below n1.below)).trans (Only.of_below (below_drew W1))).trans (Only.of_below hb21)).trans (Only.of_below n28.below)).trans (Only.of_grown hg29 hup'16 (by decide))).trans (Only.of_upd u30 kl'16 (by decide))
 have o29'1 := u30.own2 o29 kl'16 (by decide)
 have hZ'8 := (((((hZ.below n1.below).below (below_drew W1)).below hb21).below n28.below).grown hg29 hup'16).upd u30 (by simp)
 exact xe 1 (.tuple #[]) ⟨_, _, _, rfl, hB'8, hO, k30, o29'1, hZ'8.fr⟩
end Go.Proofs.YtbhjgcokpmiopaaGreatDoor
namespace Go.Proofs.YtbhjgcokpmiopaaGreatDoor
open Go.RowKit
theorem Blk.ty {w : World} {b : Nat} {cs cs' : List Value} {t t' : TypeId} (k : Blk w b cs t) (q : Blk w b cs' t') : t = t' := by
  have h1 : w.heap[b]? = some (.cells cs.toArray t (0, 0)) := k
  have h2 : w.heap[b]? = some (.cells cs'.toArray t' (0, 0)) := q
  rw [h1] at h2
  simp only [Option.some.injEq, Obj.cells.injEq] at h2
  exact h2.2.1
theorem ErrV.upd {w W : World} {b : Nat} {cs : List Value} {t : TypeId} {l : List (Option Int)} {c : Option Int} {v : Value} (h : ErrV w l c v) (u : Upd w b W) (k : Blk w b cs t) (hne : t ≠ 140) : ErrV W l c v :=
  h.kept fun _ _ q => u.blk q (by rintro rfl; exact hne (k.ty q))
theorem ErrV.grown {w W : World} {e : TypeId} {base size n : Nat} {s : Value} {xs : List Value} {l : List (Option Int)} {c : Option Int} {v : Value} (h : ErrV w l c v) (hg : w.grownBy W s.ownBlock) (hown : w.ownsRow base e size s n xs) (hne : e ≠ 140) : ErrV W l c v :=
  h.kept fun _ _ q => q.grown hg hown hne
theorem ErrV.only {T : List TypeId} {w W : World} {l : List (Option Int)} {c : Option Int} {v : Value} (h : ErrV w l c v) (k : Only T w W) (hne : T.contains 140 = false) : ErrV W l c v := h.kept fun _ _ q => q.only k hne
end Go.Proofs.YtbhjgcokpmiopaaGreatDoor
namespace Go.Proofs.YtbhjgcokpmiopaaGreatDoor
open Go.RowKit Go.Extern.Stop Go.Stop Go.Extern
set_option linter.unusedVariables false
attribute [local irreducible] wpList wpAnyH Code.wp Oper.wp Go

/-- an image at block b, its bytes l in a row of its own -/
structure ImgR (B b : Nat) (p : Option Addr) (n c : Nat) (l : List UInt8) (w : World) : Prop where
  blk : Blk w b [.slice p n c] 96
  row : w.ownsRow B 5 1 (.slice p n c) n (l.map bv)
  hn : n ≤ 3686400
theorem ImgR.below {B b : Nat} {p : Option Addr} {n c : Nat} {l : List UInt8} {w W : World} (h : ImgR B b p n c l w) (hb : Below w.heap.size w W) : ImgR B b p n c l W := ⟨h.blk.below hb, own_below h.row hb, h.hn⟩
theorem ImgR.only {B b : Nat} {p : Option Addr} {n c : Nat} {l : List UInt8} {w W : World} {T : List TypeId} (h : ImgR B b p n c l w) (hO : Only T w W) (hT : T.contains 96 = false ∧ T.contains 5 = false) : ImgR B b p n c l W := ⟨h.blk.only hO hT.1, own_only h.row hO hT.2, h.hn⟩
theorem ImgR.len {B b : Nat} {p : Option Addr} {n c : Nat} {l : List UInt8} {w : World} (h : ImgR B b p n c l w) : l.length = n := by have := h.row.1; simpa using this
theorem ImgR.base {B b : Nat} {p : Option Addr} {n c : Nat} {l : List UInt8} {w : World} (h : ImgR B b p n c l w) (hn : 0 < n) : ∃ g, p = some ⟨g, 0, none⟩ ∧ n ≤ c := by
  rcases h.row.2 with ⟨_, h0⟩ | ⟨g, cap, cur, hv, _, _, hc, _⟩
  · omega
  · simp only [Value.slice.injEq] at hv
    obtain ⟨rfl, _, rfl⟩ := hv
    exact ⟨g, rfl, hc⟩
/-- the bytes of a block -/
def blkB (l : List UInt8) (j : Nat) : List UInt8 := (l.drop (j * 256)).take 256
theorem blkB_len {l : List UInt8} {j : Nat} (h : j < l.length / 256) : (blkB l j).length = 256 := by simp [blkB]; omega
theorem Bys.mid {w : World} {g off n c : Nat} {l : List UInt8} (h : Bys w (.slice (some ⟨g, off, none⟩) n c) l) (hl : l.length = n) (k m : Nat) (hm : 0 < m) (hk : k + m ≤ n) : Bys w (.slice (some ⟨g, off + k, none⟩) m m) ((l.drop k).take m) := by
  have hlen : ((l.drop k).take m).length = m := by simp; omega
  rcases h with ⟨a', c', h1, h2, h3⟩ | ⟨g', off', cap, h1, h2, h3, h4⟩
  · omega
  · simp only [Value.slice.injEq, Option.some.injEq, Addr.mk.injEq] at h1
    obtain ⟨⟨rfl, rfl, _⟩, _, rfl⟩ := h1
    refine .inr ⟨g, off + k, m, by rw [hlen], by omega, by omega, fun j x hj => ?_⟩
    rw [List.getElem?_map, List.getElem?_take] at hj
    split at hj
    · rw [List.getElem?_drop] at hj
      have := h4 (k + j) x (by rw [List.getElem?_map]; exact hj)
      rwa [← Nat.add_assoc] at this
    · cases hj
theorem ImgR.part {B b g : Nat} {n c : Nat} {l : List UInt8} {w : World} (h : ImgR B b (some ⟨g, 0, none⟩) n c l w) {j : Nat} (hj : j < n / 256) : Bys w (.slice (some ⟨g, j * 256, none⟩) 256 256) (blkB l j) := by
  have := Bys.mid (bys_of (own_sl h.row) h.len) h.len (j * 256) 256 (by decide) (by omega)
  rwa [Nat.zero_add] at this
/-- what Read hands back -/
def ReadP (n : Nat) (l : List UInt8) (k : Int) (w : World) (e : Ending) (w' : World) : Prop :=
  (¬ (0 ≤ k ∧ k < (n / 256 : Nat)) ∧ ∃ v, e = .returned (.tuple #[v, .int .i64 3]) ∧ Below w.heap.size w w') ∨
  (∃ j : Nat, k = (j : Int) ∧ j < n / 256 ∧ ∃ p c, e = .returned (.tuple #[.slice p 256 c, .int .i64 0]) ∧ Below w.heap.size w w' ∧ w'.ownsRow w.heap.size 5 1 (.slice p 256 c) 256 ((blkB l j).map bv))
set_option maxRecDepth 100000 in
set_option maxHeartbeats 1000000 in
theorem image_block_out (b : Nat) (p : Option Addr) (n c : Nat) (k : Int) (w : World) (hk : Blk w b [.slice p n c] 96) (hn : n ≤ 100000000) (ho : ¬ (0 ≤ k ∧ k < (n / 256 : Nat))) :
    Calls Tryz.prog 115 #[.pointer (some ⟨b, 0, none⟩), .int .i64 k] w (Ret (.tuple #[.slice none 0 0, .int .i64 3]) w) := by
 refine zin 33 Tryz.func115 ?_
 refine xg 21 [13, 14] (decide (k < (0 : Int))) (fun hc1 => ?_) (fun hc1 => ?_)
 · have hc1 := of_decide_eq_true hc1
   exact xe 18 (.tuple #[.slice none 0 0, .int .i64 3]) ⟨rfl, (Below.refl w.heap.size _)⟩
 have hc1 := of_decide_eq_false hc1
 refine xr 2 (args := #[.pointer (some ⟨b, 0, none⟩)]) (image_Blocks b _ n c _ (hk.below (Below.refl w.heap.size _)) hn) fun W2 hb2 => ?_
 refine xk 5 (show (decide (k ≥ (↑(n / 256) : Int)) : Bool) = true from decide_eq_true (by omega)) ?_
 exact xe 9 (.tuple #[.slice none 0 0, .int .i64 3]) ⟨rfl, hb2⟩
set_option maxRecDepth 100000 in
set_option maxHeartbeats 1000000 in
theorem image_block_nil (k : Int) (w : World) :
    Calls Tryz.prog 115 #[.pointer none, .int .i64 k] w (Ret (.tuple #[.slice none 0 0, .int .i64 18]) w) := by
 refine zin 33 Tryz.func115 ?_
 exact xe 25 (.tuple #[.slice none 0 0, .int .i64 18]) ⟨rfl, (Below.refl w.heap.size _)⟩
/-- what a block of a kind has within: the error's number -/
def inE (l : List UInt8) (kind no : Int) : Int := if 0 ≤ no ∧ no < (l.length / 256 : Nat) then openE kind no (blkB l no.toNat) else 3
/-- and the bytes -/
def inB (l : List UInt8) (no : Int) : List UInt8 := ((blkB l no.toNat).drop 8).take 244
theorem inE_out {l : List UInt8} {kind no : Int} {n : Nat} (hl : l.length = n) (h : ¬ (0 ≤ no ∧ no < (n / 256 : Nat))) : inE l kind no = 3 := by subst hl; exact if_neg h
theorem inE_in {l : List UInt8} {kind no : Int} {n j : Nat} (hl : l.length = n) (hk : no = (j : Int)) (h : j < n / 256) : inE l kind no = openE kind no (blkB l j) := by
  subst hl hk; rw [inE, if_pos ⟨by omega, by omega⟩]; rfl
theorem inB_in {l : List UInt8} {no : Int} {j : Nat} (hk : no = (j : Int)) : inB l no = ((blkB l j).drop 8).take 244 := by subst hk; rfl
theorem inB_len {l : List UInt8} {no : Int} {n j : Nat} (hl : l.length = n) (hk : no = (j : Int)) (h : j < n / 256) : (inB l no).length = 244 := by
  subst hl hk; have := blkB_len h; simp [inB, this]
end Go.Proofs.YtbhjgcokpmiopaaGreatDoor
namespace Go.Proofs.YtbhjgcokpmiopaaGreatDoor
open Go.RowKit Go.Extern.Stop Go.Stop Go.Extern
set_option linter.unusedVariables false
attribute [local irreducible] wpList wpAnyH Code.wp Oper.wp Go

theorem ext_getD {l l' : List UInt8} (h : l.length = l'.length) (h2 : ∀ j, j < l.length → l.getD j 0 = l'.getD j 0) : l = l' := by
  apply List.ext_getElem h
  intro j h3 h4
  have := h2 j h3
  simpa [List.getD, h3, h4] using this
theorem putB_get {l : List UInt8} {k : Nat} {x : List UInt8} (h : k + x.length ≤ l.length) (j : Nat) : (putB l k x).getD j 0 = if k ≤ j ∧ j < k + x.length then x.getD (j - k) 0 else l.getD j 0 := by
  unfold putB
  simp only [List.getD]
  rw [List.append_assoc, List.getElem?_append, List.getElem?_append]
  have e : (l.take k).length = k := by simp; omega
  rw [e]
  by_cases h1 : j < k
  · rw [if_pos h1, if_neg (by omega), List.getElem?_take, if_pos h1]
  · rw [if_neg h1]
    by_cases h2 : j - k < x.length
    · rw [if_pos h2, if_pos (by omega)]
    · rw [if_neg h2, if_neg (by omega), List.getElem?_drop, show k + x.length + (j - k - x.length) = j by omega]
theorem rawN_congr {l l' : List UInt8} : ∀ (w k : Nat), (∀ j, k ≤ j → j < k + w → l.getD j 0 = l'.getD j 0) → rawN l k w = rawN l' k w
  | 0, k, h => rfl
  | w + 1, k, h => by rw [rawN, rawN, h k (by omega) (by omega), rawN_congr w (k + 1) fun j h1 h2 => h j (by omega) (by omega)]
theorem rawN_bytes {l : List UInt8} : ∀ (w k m : Nat), (∀ i, i < w → l.getD (k + i) 0 = UInt8.ofNat (m / 256 ^ i)) → rawN l k w = m % 256 ^ w
  | 0, k, m, h => by simp [rawN, Nat.mod_one]
  | w + 1, k, m, h => by
    have h0 := h 0 (by omega)
    simp only [Nat.add_zero, Nat.pow_zero, Nat.div_one] at h0
    have h1 := rawN_bytes (l := l) w (k + 1) (m / 256) fun i hi => by
      have := h (i + 1) (by omega)
      rw [Nat.pow_succ, Nat.mul_comm, ← Nat.div_div_eq_div_mul] at this
      rw [show k + 1 + i = k + (i + 1) by omega]; exact this
    rw [rawN, h0, h1, Nat.pow_succ, Nat.mul_comm (256 ^ w) 256, Nat.mod_mul]
    congr 1
theorem rawN_put {l : List UInt8} {k w : Nat} {n : Int} (h : k + w ≤ l.length) (h0 : 0 ≤ n) (hb : n.toNat < 256 ^ w) : (rawN (putB l k (leB n w)) k w : Int) = n := by
  rw [rawN_bytes w k n.toNat, Nat.mod_eq_of_lt hb]
  · omega
  · intro i hi
    rw [putB_get (by rw [leB_len]; exact h), if_pos (by rw [leB_len]; omega), show k + i - k = i by omega]
    simp [leB, byteAt, List.getD, List.getElem?_range hi]
theorem rawN_put_other {l x : List UInt8} {k j w : Nat} (h : k + x.length ≤ l.length) (hd : j + w ≤ k ∨ k + x.length ≤ j) : rawN (putB l k x) j w = rawN l j w :=
  rawN_congr w j fun i h1 h2 => by rw [putB_get h, if_neg (by omega)]
theorem rawN_zero {l : List UInt8} {k w : Nat} (h : ∀ j, k ≤ j → j < k + w → l.getD j 0 = 0) : rawN l k w = 0 := by
  have := rawN_bytes (l := l) w k 0 fun i hi => by rw [h (k + i) (by omega) (by omega)]; simp
  simpa using this
theorem sumB_put {l x : List UInt8} {kind : Int} (h : 252 ≤ l.length) : sumB (putB l 252 x) kind = sumB l kind := by
  unfold sumB putB
  rw [List.append_assoc, List.take_append_of_le_length (by simp; omega), List.take_take]; rfl
theorem zeros_get (n j : Nat) : (List.replicate n (0 : UInt8)).getD j 0 = 0 := by
  simp [List.getD, List.getElem?_replicate]; split <;> rfl
/-- what lies within a sealed block -/
def inSeal (li : List UInt8) : List UInt8 := li ++ List.replicate (244 - li.length) 0
theorem open_seal {kind no : Int} {li : List UInt8} (h1 : 1 ≤ kind) (h2 : kind ≤ 4) (h3 : 0 ≤ no) (h4 : no < 14400) (hl : li.length ≤ 244) : openE kind no (sealB kind no li) = 0 := by
  have l1 := seal1_len hl
  have l2 := seal2_len (no := no) hl
  have l3 := seal3_len (kind := kind) (no := no) hl
  have l4 := sealB_len (kind := kind) (no := no) hl
  have a0 : askB kind no (sealB kind no li) 0 = false := by simp only [askB]; rw [show knownB kind no = true from decide_eq_true (by omega)]; rfl
  have a1 : askB kind no (sealB kind no li) 1 = false := by simp only [askB, l4]; rfl
  have a2 : askB kind no (sealB kind no li) 2 = false := by
    have hs : sumB (sealB kind no li) kind = sumB (seal3 kind no li) kind := by unfold sealB; exact sumB_put (by omega)
    have hr : (rawN (sealB kind no li) 252 4 : Int) = (sumB (seal3 kind no li) kind : Int) := by
      unfold sealB
      exact rawN_put (by omega) (by omega) (by have := sumB_lt (seal3 kind no li) kind; simpa using this)
    simp only [askB, hr, hs]; simp
  have a3 : askB kind no (sealB kind no li) 3 = false := by
    have hr : (rawN (sealB kind no li) 0 4 : Int) = no := by
      unfold sealB
      rw [rawN_put_other (by rw [leB_len]; omega) (.inl (by omega))]
      unfold seal3
      rw [rawN_put_other (by rw [leB_len]; omega) (.inl (by omega))]
      unfold seal2
      exact rawN_put (by omega) (by omega) (by omega)
    simp only [askB, hr]; simp
  have a4 : askB kind no (sealB kind no li) 4 = false := by
    have hr : (rawN (sealB kind no li) 4 2 : Int) = kind := by
      unfold sealB
      rw [rawN_put_other (by rw [leB_len]; omega) (.inl (by omega))]
      unfold seal3
      exact rawN_put (by omega) (by omega) (by omega)
    simp only [askB, hr]; simp
  have a5 : askB kind no (sealB kind no li) 5 = false := by
    have hr : rawN (sealB kind no li) 6 2 = 0 := by
      unfold sealB
      rw [rawN_put_other (by rw [leB_len]; omega) (.inl (by omega))]
      unfold seal3
      rw [rawN_put_other (by rw [leB_len]; omega) (.inr (by rw [leB_len]; omega))]
      unfold seal2
      rw [rawN_put_other (by rw [leB_len]; omega) (.inr (by rw [leB_len]; omega))]
      unfold seal1
      rw [rawN_put_other (by rw [List.length_replicate]; omega) (.inl (by omega))]
      exact rawN_zero fun j _ _ => zeros_get 256 j
    simp only [askB, hr]; rfl
  simp [openE, a0, a1, a2, a3, a4, a5]
theorem in_seal {kind no : Int} {li : List UInt8} (hl : li.length ≤ 244) : ((sealB kind no li).drop 8).take 244 = inSeal li := by
  have l1 := seal1_len hl
  have l2 := seal2_len (no := no) hl
  have l3 := seal3_len (kind := kind) (no := no) hl
  have l4 := sealB_len (kind := kind) (no := no) hl
  apply ext_getD
  · simp [inSeal, l4]; omega
  · intro j hj
    have hj2 : j < 244 := by simp [l4] at hj; omega
    have e : (((sealB kind no li).drop 8).take 244).getD j 0 = (sealB kind no li).getD (8 + j) 0 := by
      simp only [List.getD]; rw [List.getElem?_take, if_pos hj2, List.getElem?_drop]
    rw [e]
    unfold sealB
    rw [putB_get (by rw [leB_len]; omega), if_neg (by rw [leB_len]; omega)]
    unfold seal3
    rw [putB_get (by rw [leB_len]; omega), if_neg (by rw [leB_len]; omega)]
    unfold seal2
    rw [putB_get (by rw [leB_len]; omega), if_neg (by rw [leB_len]; omega)]
    unfold seal1
    rw [putB_get (by rw [List.length_replicate]; omega), zeros_get]
    unfold inSeal
    simp only [List.getD]
    rw [List.getElem?_append]
    by_cases h : j < li.length
    · rw [if_pos ⟨by omega, by omega⟩, if_pos h, show 8 + j - 8 = j by omega]
    · rw [if_neg (by omega), if_neg h]
      have := zeros_get (244 - li.length) (j - li.length)
      simp only [List.getD] at this
      exact this.symm
/-- a block that was written stands in the image -/
theorem blkB_put {l x : List UInt8} {k : Nat} (hx : x.length = 256) (hk : k < l.length / 256) : blkB (putB l (k * 256) x) k = x := by
  have hkl : k * 256 + 256 ≤ l.length := by omega
  have hp := putB_len (l := l) (k := k * 256) (x := x) (by omega)
  apply ext_getD
  · rw [blkB_len (by rw [hp]; exact hk), hx]
  · intro j hj
    rw [blkB_len (by rw [hp]; exact hk)] at hj
    have e : (blkB (putB l (k * 256) x) k).getD j 0 = (putB l (k * 256) x).getD (k * 256 + j) 0 := by
      simp only [blkB, List.getD]; rw [List.getElem?_take, if_pos hj, List.getElem?_drop]
    rw [e, putB_get (by omega), if_pos (by omega), show k * 256 + j - k * 256 = j by omega]
theorem blkB_put_other {l x : List UInt8} {k i : Nat} (hx : x.length = 256) (hk : k < l.length / 256) (hne : i ≠ k) (hi : i < l.length / 256) : blkB (putB l (k * 256) x) i = blkB l i := by
  have hkl : k * 256 + 256 ≤ l.length := by omega
  have hp := putB_len (l := l) (k := k * 256) (x := x) (by omega)
  apply ext_getD
  · rw [blkB_len (by rw [hp]; exact hi), blkB_len hi]
  · intro j hj
    rw [blkB_len (by rw [hp]; exact hi)] at hj
    have e : ∀ l : List UInt8, (blkB l i).getD j 0 = l.getD (i * 256 + j) 0 := fun l => by
      simp only [blkB, List.getD]; rw [List.getElem?_take, if_pos hj, List.getElem?_drop]
    rw [e, e, putB_get (by omega), if_neg (by omega)]
end Go.Proofs.YtbhjgcokpmiopaaGreatDoor
namespace Go.Proofs.YtbhjgcokpmiopaaGreatDoor
open Go.RowKit Go.Extern.Stop Go.Stop Go.Extern
set_option linter.unusedVariables false
attribute [local irreducible] wpList wpAnyH Code.wp Oper.wp Go

theorem zeroCells_u8 (k : Nat) : Builtin.zeroCells #[Value.int .u8 0] k = (List.replicate k (Value.int .u8 0)).toArray := by
  apply Array.ext'
  unfold Builtin.zeroCells
  simp only [List.size_toArray, List.length_cons, List.length_nil, Nat.zero_add, Nat.mul_one, Nat.mod_one]
  rw [Array.toList_map]
  simp only [Array.toList_range]
  apply List.ext_getElem?
  intro i
  simp only [List.getElem?_map, List.getElem?_replicate]
  by_cases h : i < k
  · rw [List.getElem?_range h, if_pos h]; rfl
  · rw [if_neg h, List.getElem?_eq_none (by simpa using h)]; rfl
theorem op_appZ {P : Program} {a : Act} {w : World} {K : Act → World → Prop} {Q : Exit → Act → World → Prop} {o : Oper} {s x : Operand} {t tn e te : TypeId} {kq kn : IntKind} (b n k : Nat) (cs : List Value)
    (ho : o.op = .call { callee := .builtin .append, args := #[s, x], argTypes := #[t, tn] }) (ht : P.underlying t = some (.slice e)) (htn : P.underlying tn = some (.int kn)) (hi : (P.info? e).map (fun i => (i.zero, i.size, i.bytes)) = some (some (.int .u8 0), 1, 1))
    (hs : a.eval s = .slice (some ⟨b, 0, none⟩) n n) (hb : Blk w b cs te) (hl : cs.length = n) (hx : a.eval x = .int kq (k : Int)) (h0 : 0 < k) (hk : n + k ≤ 1000000)
    (h : ∀ g c W, W.ownsRow w.heap.size e 1 (.slice (some ⟨g, 0, none⟩) (n + k) c) (n + k) (cs ++ List.replicate k (.int .u8 0)) → Below w.heap.size w W → K (a.put o.dst (.slice (some ⟨g, 0, none⟩) (n + k) c)) W) : o.wp P a w K Q := by
  cases hq : P.info? e with
  | none => simp [hq] at hi
  | some i =>
    simp only [hq, Option.map_some, Option.some.injEq, Prod.mk.injEq] at hi
    obtain ⟨hz, h1, h2⟩ := hi
    have hb' : Blk w.drew b cs te := hb
    have hold := run_firstCells_some (P := P) (w := w.drew) i.size n ⟨b, 0, none⟩ n n cs (by rw [hl, h1, Nat.mul_one]) (fun j v hj => by
      have := hb'.cell hj
      by_cases h : j = 0
      · subst h; simpa [Addr.add] using this
      · simpa [Addr.add, h] using this)
    have hr := Lib.run_append_grow_zeros (P := P) w t tn o.type e i (.int .u8 0) kq kn ht htn hq hz (some ⟨b, 0, none⟩) n n cs hold k h0 (by omega) (by omega) (by omega) (by rw [h2]; omega) (growslice_fits (by omega) (by rw [h2]; omega))
    unfold Oper.wp execOp
    simp only [ho, resolve, invoke, builtin, Sem.run_bind, Sem.run_pure, Result.andThen_ok, List.map_toArray, List.map_cons, List.map_nil, hs, hx, hr]
    have hge := grownCap_ge w (n + k) n e
    have hcm : grownCap w (n + k) n e ≤ maxLen := grownCap_le_maxLen w (n + k) n e (by unfold maxLen; omega)
    refine h _ _ _ ⟨by simp [hl], .inr ⟨w.heap.size, _, _, rfl, Nat.le_refl _, heap_alloc_new w.drew _, hge, hcm, ?_, ?_⟩⟩ ((below_drew w).trans (show Below w.drew.heap.size w.drew _ from Bl.box w.drew _))
    · rw [show (Value.int .u8 0).cells = #[Value.int .u8 0] from rfl, zeroCells_u8, zeroCells_u8]; simp [hl]; omega
    · rw [show (Value.int .u8 0).cells = #[Value.int .u8 0] from rfl, zeroCells_u8, zeroCells_u8]
      simp only [Array.toList_append, List.append_assoc, Nat.mul_one]
      rw [← List.append_assoc, show n + k = (cs ++ List.replicate k (Value.int .u8 0)).length by simp [hl]]
      exact List.take_left
theorem run_append_room_zeros {P : Program} (w : World) (t tn ty e : TypeId) (i : TypeInfo) (kq kn : IntKind) (ht : P.underlying t = some (.slice e)) (htn : P.underlying tn = some (.int kn)) (hi : P.info? e = some i) (hz : i.zero = some (.int .u8 0)) (hs1 : i.size = 1) (hb1 : i.bytes = 1)
    (g n c k : Nat) (cur : Array Value) (hg : w.heap[g]? = some (.cells cur e (0, 0))) (h0 : 0 < k) (hroom : n + k ≤ c) (hfit : n + k ≤ cur.size) (hk : n + k ≤ 1000000) :
    (Builtin.append_ #[t, tn] ty #[.slice (some ⟨g, 0, none⟩) n c, .int kq k]).run P w =
      .ok (.slice (some ⟨g, 0, none⟩) (n + k) c) (w.setRow g (cur.toList.take n ++ List.replicate k (Value.int .u8 0) ++ cur.toList.drop (n + k)).toArray) := by
  have hk0 : k ≠ 0 := by omega
  have hw : IntKind.i64.wrap (k : Int) = k := by rw [IntKind.wrap_i64]; omega
  have h48i : ¬ (281474976710656 < (k : Int)) := by omega
  have hneg : ¬ ((k : Int) < 0) := by omega
  have hst := run_storeCells_at P g n e (List.replicate k (.int .u8 0)) 0 cur w hg (by simpa using hfit) (by intro u hu; rw [(List.mem_replicate.1 hu).2]; rfl)
  simp only [Nat.add_zero, List.length_replicate] at hst
  simp [Builtin.append_, run_underlying ht, run_underlying htn, sizeOf, typeInfo, zeroValue, hi, hz, hs1, hb1, asInt, asIntOf, hw, hneg, h48i, hk0, hroom, Addr.add_lit, show (Value.int IntKind.u8 0).cells = #[Value.int .u8 0] from rfl, zeroCells_u8, hst]
/-- append(s, make([]byte, k)...) onto a row of the call's own -/
theorem op_appZo {P : Program} {a : Act} {w : World} {K : Act → World → Prop} {Q : Exit → Act → World → Prop} {o : Oper} {s x : Operand} {t tn e : TypeId} {kq kn : IntKind} {base : Nat} {v : Value} {n : Nat} {xs : List Value} (k n' : Nat) (xs' : List Value)
    (ho : o.op = .call { callee := .builtin .append, args := #[s, x], argTypes := #[t, tn] }) (ht : P.underlying t = some (.slice e)) (htn : P.underlying tn = some (.int kn)) (hi : (P.info? e).map (fun i => (i.zero, i.size, i.bytes)) = some (some (.int .u8 0), 1, 1))
    (hs : a.eval s = v) (hown : w.ownsRow base e 1 v n xs) (hx : a.eval x = .int kq (k : Int)) (h0 : 0 < k) (hk : n + k ≤ 1000000) (hbase : base ≤ w.heap.size) (hn : n + k = n') (hxs : xs ++ List.replicate k (.int .u8 0) = xs')
    (h : ∀ b c' W, W.ownsRow base e 1 (.slice b n' c') n' xs' → w.grownBy W v.ownBlock → Below base w W → K (a.put o.dst (.slice b n' c')) W) : o.wp P a w K Q := by
  subst hn hxs
  cases hq : P.info? e with
  | none => simp [hq] at hi
  | some i =>
    simp only [hq, Option.map_some, Option.some.injEq, Prod.mk.injEq] at hi
    obtain ⟨hz, h1, h2⟩ := hi
    have hxl : xs.length = n := by simpa using hown.1
    have hlen : (xs ++ List.replicate k (Value.int .u8 0)).length = (n + k) * 1 := by simp [hxl]
    rcases hown.2 with ⟨rfl, rfl⟩ | ⟨g, c, cur, rfl, hbg, hg, hnc, hcm, hcs, htake⟩
    · obtain rfl : xs = [] := List.eq_nil_of_length_eq_zero hxl
      have hr := Lib.run_append_nil_zeros (P := P) w t tn o.type e i (.int .u8 0) kq kn ht htn hq hz k h0 (by omega) (by omega) (by rw [h2]; omega)
      unfold Oper.wp execOp
      simp only [ho, resolve, invoke, builtin, Sem.run_bind, Sem.run_pure, Result.andThen_ok, List.map_toArray, List.map_cons, List.map_nil, hs, hx, hr]
      have hge := grownCap_ge w k 0 e
      have hcm : grownCap w k 0 e ≤ maxLen := grownCap_le_maxLen w k 0 e (by unfold maxLen; omega)
      simp only [Nat.zero_add, List.nil_append] at h
      refine h _ _ _ ⟨by simp, .inr ⟨w.heap.size, _, _, rfl, hbase, heap_alloc_new w.drew _, hge, hcm, ?_, ?_⟩⟩ ⟨rfl, rfl, rfl, by simp, fun k hk _ => by first | exact heap_alloc_old w.drew _ k hk | exact heap_alloc_old w.drew _ hk⟩ (((below_drew w).trans (show Below w.drew.heap.size w.drew _ from Bl.box w.drew _)).mono hbase)
      · rw [show (Value.int .u8 0).cells = #[Value.int .u8 0] from rfl, zeroCells_u8, zeroCells_u8]; simp; omega
      · rw [show (Value.int .u8 0).cells = #[Value.int .u8 0] from rfl, zeroCells_u8, zeroCells_u8]
        simp only [Array.toList_append, Nat.mul_one]
        exact List.take_left' (by simp)
    by_cases hroom : n + k ≤ c
    · have hcs' : cur.size = c := by simpa using hcs
      have hr := run_append_room_zeros (P := P) w t tn o.type e i kq kn ht htn hq hz h1 h2 g n c k cur hg h0 hroom (by omega) hk
      unfold Oper.wp execOp
      simp only [ho, resolve, invoke, builtin, Sem.run_bind, Sem.run_pure, Result.andThen_ok, List.map_toArray, List.map_cons, List.map_nil, hs, hx, hr]
      have hgr : w.grownBy (w.setRow g (cur.toList.take n ++ List.replicate k (Value.int .u8 0) ++ cur.toList.drop (n + k)).toArray) (Value.ownBlock (.slice (some ⟨g, 0, none⟩) n c)) := ⟨rfl, rfl, rfl, by simp, fun k' _ hk' => setRow_other w g k' _ (fun e => hk' (by simp [Value.ownBlock, e]))⟩
      refine h _ _ _ ⟨hlen, .inr ⟨g, c, _, rfl, hbg, setRow_heap w g cur _ e _ hg, hroom, hcm, ?_, ?_⟩⟩ hgr (grown_below hgr hown (Nat.le_refl _) hbase)
      · simp only [List.size_toArray, List.length_append, List.length_take, List.length_drop, Array.length_toList, List.length_replicate]
        omega
      · have ht' : cur.toList.take n = xs := by simpa using htake
        rw [ht', ← hlen]
        exact List.take_left
    · have holds : ∀ j u, xs[j]? = some u → w.cell? ((⟨g, 0, none⟩ : Addr).add j) = some u := hown.cells (g := g) rfl
      have hold := run_firstCells_some (P := P) (w := w.drew) i.size n ⟨g, 0, none⟩ n c xs (by rw [hxl, h1, Nat.mul_one]) (by simpa using holds)
      have hr := Lib.run_append_grow_zeros (P := P) w t tn o.type e i (.int .u8 0) kq kn ht htn hq hz (some ⟨g, 0, none⟩) n c xs hold k h0 (by omega) (by omega) (by omega) (by rw [h2]; omega) (by rw [h2]; exact growslice_fits (by omega) (by omega))
      unfold Oper.wp execOp
      simp only [ho, resolve, invoke, builtin, Sem.run_bind, Sem.run_pure, Result.andThen_ok, List.map_toArray, List.map_cons, List.map_nil, hs, hx, hr]
      have hge := grownCap_ge w (n + k) c e
      have hcm : grownCap w (n + k) c e ≤ maxLen := grownCap_le_maxLen w (n + k) c e (by unfold maxLen; omega)
      refine h _ _ _ ⟨hlen, .inr ⟨w.heap.size, _, _, rfl, hbase, heap_alloc_new w.drew _, hge, hcm, ?_, ?_⟩⟩ ⟨rfl, rfl, rfl, by simp, fun k hk _ => by first | exact heap_alloc_old w.drew _ k hk | exact heap_alloc_old w.drew _ hk⟩ (((below_drew w).trans (show Below w.drew.heap.size w.drew _ from Bl.box w.drew _)).mono hbase)
      · rw [show (Value.int .u8 0).cells = #[Value.int .u8 0] from rfl, zeroCells_u8, zeroCells_u8]; simp [hxl]; omega
      · rw [show (Value.int .u8 0).cells = #[Value.int .u8 0] from rfl, zeroCells_u8, zeroCells_u8]
        simp only [Array.toList_append, List.append_assoc]
        rw [← List.append_assoc, ← hlen]
        exact List.take_left
end Go.Proofs.YtbhjgcokpmiopaaGreatDoor
namespace Go.Proofs.YtbhjgcokpmiopaaGreatDoor
open Go.RowKit Go.Extern.Stop Go.Stop Go.Extern
set_option linter.unusedVariables false

def sBlock : ByteArray := ⟨#[98, 108, 111, 99, 107, 32]⟩
def sColon : ByteArray := ⟨#[58, 32]⟩
def sError : ByteArray := ⟨#[101, 114, 114, 111, 114, 32]⟩
def sOther : ByteArray := ⟨#[111, 116, 104, 101, 114]⟩
def numB (n : Int) : ByteArray := ⟨(Lib.itoa n).toArray⟩
/-- an error's text -/
def textB : List (Option Int) → Option Int → ByteArray
  | [], none => ⟨#[]⟩
  | [], some c => sError ++ numB c
  | some b :: r, t => sBlock ++ numB b ++ sColon ++ textB r t
  | none :: r, t => sOther
theorem Tryz.nilErrorF (a : Addr) (w : World) : (nilAhead 332 137 (.pointer (some a)) "Error").run Tryz.prog w = .ok (some false) w := by kernel_rfl

/-- how long a text may become -/
theorem textB_size {l : List (Option Int)} {t : Option Int} (h : ∀ b, (some b ∈ l ∨ t = some b) → (numB b).size ≤ 100) : (textB l t).size ≤ 108 * l.length + 108 := by
  induction l with
  | nil =>
    cases t with
    | none => exact Nat.zero_le _
    | some c =>
      have := h c (.inr rfl)
      simp only [textB, ByteArray.size_append, sError, ByteArray.size_mk']; simp; omega
  | cons x r ih =>
    cases x with
    | none => simp only [textB, sOther, ByteArray.size_mk']; simp; try omega
    | some b =>
      have h1 := h b (.inl (by simp))
      have h2 := ih (fun b hb => h b (hb.imp (List.mem_cons_of_mem _) id))
      simp only [textB, ByteArray.size_append, sBlock, sColon, ByteArray.size_mk', List.length_cons]; simp; omega
/-- no Fault wraps nothing -/
def okE : List (Option Int) → Option Int → Bool
  | [], t => t.isSome
  | some _ :: r, t => okE r t
  | none :: r, t => true
end Go.Proofs.YtbhjgcokpmiopaaGreatDoor
namespace Go.Proofs.YtbhjgcokpmiopaaGreatDoor
open Go.RowKit Go.Extern.Stop Go.Stop Go.Extern
set_option linter.unusedVariables false
attribute [local irreducible] wpList wpAnyH Code.wp Oper.wp Go

/-- the number that Seal hands back -/
def sealE (kind no : Int) (li : List UInt8) : Int := if knownB kind no then (if li.length ≤ 244 then 0 else 2) else 1
theorem knownB_all {kind no : Int} (h : knownB kind no = true) : 1 ≤ kind ∧ kind ≤ 4 ∧ 0 ≤ no ∧ no < 14400 := of_decide_eq_true h
set_option maxRecDepth 100000 in
set_option maxHeartbeats 1000000 in
theorem seal_Seal_bad (kind no : Int) (a : Option Addr) (c : Nat) (li : List UInt8) (w : World) (hk : knownB kind no = false) :
    Calls Tryz.prog 94 #[.int .i64 kind, .int .i64 no, .slice a li.length c] w (Ret (.tuple #[.slice none 0 0, .int .i64 1]) w) := by
 refine zin 54 Tryz.func94 ?_
 refine xr 11 (args := #[.int .i64 kind, .int .i64 no]) (seal_knownB kind no _) fun W1 hb1 => ?_
 refine xk 3 (show (!(knownB kind no) : Bool) = true from by rw [hk]; rfl) ?_
 exact xe 8 (.tuple #[.slice none 0 0, .int .i64 1]) ⟨rfl, hb1⟩
set_option maxRecDepth 100000 in
set_option maxHeartbeats 1000000 in
theorem seal_Seal_long (kind no : Int) (a : Option Addr) (c : Nat) (li : List UInt8) (w : World) (hk : knownB kind no = true) (hl : 244 < li.length) :
    Calls Tryz.prog 94 #[.int .i64 kind, .int .i64 no, .slice a li.length c] w (Ret (.tuple #[.slice none 0 0, .int .i64 2]) w) := by
 refine zin 54 Tryz.func94 ?_
 refine xr 11 (args := #[.int .i64 kind, .int .i64 no]) (seal_knownB kind no _) fun W1 hb1 => ?_
 refine xk 3 (show (!(knownB kind no) : Bool) = false from by rw [hk]; rfl) ?_
 refine xk 10 (show (decide ((↑li.length : Int) > (244 : Int)) : Bool) = true from decide_eq_true (by omega)) ?_
 exact xe 8 (.tuple #[.slice none 0 0, .int .i64 2]) ⟨rfl, hb1⟩
def SealP (kind no : Int) (li : List UInt8) (w : World) (e : Ending) (w' : World) : Prop :=
  (sealE kind no li ≠ 0 ∧ e = .returned (.tuple #[.slice none 0 0, .int .i64 (sealE kind no li)]) ∧ Below w.heap.size w w') ∨
  (sealE kind no li = 0 ∧ knownB kind no = true ∧ li.length ≤ 244 ∧ ∃ p c, e = .returned (.tuple #[.slice p 256 c, .int .i64 0]) ∧ Below w.heap.size w w' ∧ w'.ownsRow w.heap.size 5 1 (.slice p 256 c) 256 ((sealB kind no li).map bv))
theorem seal_SealG (kind no : Int) (a : Option Addr) (c : Nat) (li : List UInt8) (w : World) (h : Bys w (.slice a li.length c) li) :
    Calls Tryz.prog 94 #[.int .i64 kind, .int .i64 no, .slice a li.length c] w (SealP kind no li w) := by
  cases hk : knownB kind no with
  | false =>
    refine (seal_Seal_bad kind no a c li w hk).mono ?_
    rintro e W ⟨rfl, hb⟩
    have he : sealE kind no li = 1 := by simp [sealE, hk]
    exact .inl ⟨by rw [he]; decide, by rw [he], hb⟩
  | true =>
    by_cases hl : li.length ≤ 244
    · obtain ⟨h1, h2, h3, h4⟩ := knownB_all hk
      refine (seal_Seal kind no h1 h2 h3 h4 a c li w hl h).mono ?_
      rintro e W ⟨_, rfl, hb, p, c2, rfl, ho⟩
      exact .inr ⟨by simp [sealE, hk, hl], hk, hl, p, c2, rfl, hb, ho⟩
    · refine (seal_Seal_long kind no a c li w hk (by omega)).mono ?_
      rintro e W ⟨rfl, hb⟩
      have he : sealE kind no li = 2 := by simp [sealE, hk, hl]
      exact .inl ⟨by rw [he]; decide, by rw [he], hb⟩
set_option maxRecDepth 100000 in
set_option maxHeartbeats 1000000 in
theorem image_Write_nil (k : Int) (x : Value) (w : World) :
    Calls Tryz.prog 95 #[.pointer none, .int .i64 k, x] w (Ret (.int .i64 18) w) := by
 refine zin 24 Tryz.func95 ?_
 refine xr 9 (args := #[.pointer none, .int .i64 k]) (image_block_nil k _) fun W1 hb1 => ?_
 exact xe 23 (.int .i64 18) ⟨rfl, hb1⟩
set_option maxRecDepth 100000 in
set_option maxHeartbeats 1000000 in
theorem blkN_Write (no kind : Int) (a : Option Addr) (c : Nat) (li : List UInt8) (w : World) (h : Bys w (.slice a li.length c) li) :
    Calls Tryz.prog 60 #[.pointer none, .int .i64 no, .int .i64 kind, .slice a li.length c] w (RetS (fun w' r => ∃ b er, r = .iface 137 (.pointer (some ⟨b, 0, none⟩)) ∧ er ≠ 0 ∧ ErrV w' [some no] (some er) (.iface 137 (.pointer (some ⟨b, 0, none⟩)))) w) := by
 refine zin 28 Tryz.func60 ?_
 refine xc 10 (args := #[.int .i64 kind, .int .i64 no, .slice a li.length c]) (seal_SealG kind no a c li _ (h.below (Below.refl w.heap.size _))) ?_
 rintro e W1 hq1
 rcases hq1 with ⟨hs, rfl, hb1⟩ | ⟨_, _, _, p2, c2, rfl, hb1, _⟩
 · refine xk 14 (show (((sealE kind no li) == (0 : Int)) : Bool) = false from beq_false_of_ne hs) ?_
   refine xc 7 (args := #[.int .i64 no, .iface 38 (.int .i64 (sealE kind no li))]) (block_told no (sealE kind no li) _) ?_
   rintro _ W2 ⟨_, rfl, hb2, hv2⟩
   rw [if_neg hs, if_neg hs] at hv2
   have hq2 := hv2
   obtain ⟨bf2, vf2, rfl, _, _⟩ := hq2
   have hB := Bl.next hb1 hb2
   exact xe 4 (.iface 137 (.pointer (some ⟨bf2, 0, none⟩))) ⟨_, rfl, hB, _, _, rfl, hs, hv2⟩
 refine xr 19 (args := #[.pointer none, .int .i64 no, .slice p2 256 c2]) (image_Write_nil no _ _) fun W3 hb3 => ?_
 refine xc 8 (args := #[.int .i64 no, .iface 38 (.int .i64 18)]) (block_told no 18 _) ?_
 rintro _ W4 ⟨_, rfl, hb4, hv4⟩
 rw [if_neg (by decide), if_neg (by decide)] at hv4
 have hq4 := hv4
 obtain ⟨bf4, vf4, rfl, _, _⟩ := hq4
 have hB := Bl.next (Bl.next hb1 hb3) hb4
 exact xe 4 (.iface 137 (.pointer (some ⟨bf4, 0, none⟩))) ⟨_, rfl, hB, _, _, rfl, (by decide), hv4⟩
end Go.Proofs.YtbhjgcokpmiopaaGreatDoor
namespace Go.Proofs.YtbhjgcokpmiopaaGreatDoor
open Go.RowKit Go.Extern.Stop Go.Stop Go.Extern
set_option linter.unusedVariables false
attribute [local irreducible] wpList wpAnyH Code.wp Oper.wp Go

theorem step1_xor (a b : Nat) : step1 (a ^^^ b) = step1 a ^^^ step1 b := by
  have e : ∀ r, step1 r = (r / 2) ^^^ (if r % 2 = 1 then 2197175160 else 0) := fun r => by unfold step1; split <;> simp
  rw [e, e, e, Nat.xor_div_two]
  have hp := Nat.xor_mod_two_eq_one (a := a) (b := b)
  by_cases h1 : a % 2 = 1 <;> by_cases h2 : b % 2 = 1
  · rw [if_neg (by rw [hp]; simp [h1, h2]), if_pos h1, if_pos h2, Nat.xor_zero]
    rw [show a / 2 ^^^ 2197175160 ^^^ (b / 2 ^^^ 2197175160) = a / 2 ^^^ b / 2 ^^^ (2197175160 ^^^ 2197175160) by ac_rfl]; simp
  · rw [if_pos (by rw [hp]; simp [h1, h2]), if_pos h1, if_neg h2, Nat.xor_zero]; ac_rfl
  · rw [if_pos (by rw [hp]; simp [h1, h2]), if_neg h1, if_pos h2, Nat.xor_zero]; ac_rfl
  · rw [if_neg (by rw [hp]; simp [h1, h2]), if_neg h1, if_neg h2, Nat.xor_zero, Nat.xor_zero, Nat.xor_zero]
theorem stepN_xor (n a b : Nat) : stepN n (a ^^^ b) = stepN n a ^^^ stepN n b := by
  induction n with
  | zero => rfl
  | succ n ih => rw [stepN, ih, step1_xor]; rfl
theorem step1_even (q : Nat) : step1 (2 * q) = q := by unfold step1; rw [if_neg (by omega)]; omega
theorem stepN_16 (q : Nat) : stepN 4 (16 * q) = q := by
  show step1 (step1 (step1 (step1 (16 * q)))) = q
  rw [show 16 * q = 2 * (2 * (2 * (2 * q))) by omega, step1_even, step1_even, step1_even, step1_even]
theorem split16 (r : Nat) : r = (16 * (r / 16)) ^^^ (r % 16) := by
  apply Nat.eq_of_testBit_eq
  intro i
  rw [Nat.testBit_xor, show 16 * (r / 16) = 2 ^ 4 * (r / 2 ^ 4) from rfl, Nat.testBit_two_pow_mul, Nat.testBit_div_two_pow, show r % 16 = r % 2 ^ 4 from rfl, Nat.testBit_mod_two_pow]
  by_cases h : 4 ≤ i
  · rw [show i - 4 + 4 = i by omega, show decide (i ≥ 4) = true from decide_eq_true h, show decide (i < 4) = false from decide_eq_false (by omega)]; simp
  · rw [show decide (i ≥ 4) = false from decide_eq_false h, show decide (i < 4) = true from decide_eq_true (by omega)]; simp
theorem stepN_4 (r : Nat) : stepN 4 r = (r / 16) ^^^ half (r % 16) := by
  conv => lhs; rw [split16 r]
  rw [stepN_xor, stepN_16]; rfl
theorem stepN_add (m n r : Nat) : stepN (m + n) r = stepN m (stepN n r) := by
  induction m with
  | zero => simp [stepN]
  | succ m ih => rw [Nat.succ_add, stepN, ih]; rfl
theorem crcStep_8 (r : Nat) (x : UInt8) : crcStep r x = stepN 8 (r ^^^ x.toNat) := by
  show _ = stepN (4 + 4) (r ^^^ x.toNat)
  rw [stepN_add, stepN_4, stepN_4]; rfl
theorem step1_odd {r : Nat} (h : r % 2 = 1) : step1 r = (r / 2) ^^^ 2197175160 := if_pos h
theorem step1_ev {r : Nat} (h : ¬ r % 2 = 1) : step1 r = r / 2 := if_neg h
set_option maxRecDepth 100000 in
set_option maxHeartbeats 1000000 in
theorem ref_Step (r : Nat) (w : World) (hr : r < 4294967296) :
    Calls Tryz.prog 129 #[.int .i64 (↑r : Int)] w (Ret (.int .i64 (stepN 8 r : Int)) w) := by
 refine zin 18 Tryz.func129 ?_
 have hB := Below.refl w.heap.size w
 refine zl 12 18 (fun zm zkv V => ∃ (j : Nat), zkv = [(0, .int .i64 (↑(stepN j r) : Int)), (2, .int .i64 0), (3, .int .i64 (↑j : Int))] ∧ zm = 8 - ((↑j : Int)).toNat ∧ Below w.heap.size w V ∧ j ≤ 8) ⟨0, rfl, rfl, hB, by decide⟩ ?_
 rintro _ _ W1 ⟨j, rfl, rfl, hB_1, hj⟩ J1 hJ1 r1
 refine xid 7 ((↑j : Int) < (8 : Int)) (fun hc2 => ?_) (fun hc2 => ?_)
 · refine xq 7 (congrArg (Value.int .i64) (show (Int.tmod (↑(stepN j r) : Int) 2 : Int) = (↑((stepN j r) % 2) : Int) from tmod_natB (stepN j r) 2)) ?_
   refine xq 7 (congrArg (Value.int .i64) (show (IntKind.i64.wrap (Int.tdiv (↑(stepN j r) : Int) 2) : Int) = (↑((stepN j r) / 2) : Int) from quo_natB (stepN j r) 2 (by have := stepN_lt (j := j) hr; omega) (by decide))) ?_
   refine xie 8 (↑((stepN j r) % 2) : Int) (1 : Int) (fun hc3 => ?_) (fun hc3 => ?_)
   · refine xq 2 (congrArg (Value.int .i64) (show (IntKind.i64.wrap (↑(BitVec.ofInt 64 (↑((stepN j r) / 2) : Int) ^^^ BitVec.ofInt 64 (2197175160 : Int)).toNat : Int) : Int) = (↑(((stepN j r) / 2) ^^^ 2197175160) : Int) from i64_xor (a := (stepN j r) / 2) (b := 2197175160) (by have := stepN_lt (j := j) hr; omega) (by decide))) ?_
     refine xwm 6 ((↑j : Int) + 1) (↑(j + 1) : Int) ?_
     refine xv1 2 0 (show (.int .i64 (↑(((stepN j r) / 2) ^^^ 2197175160) : Int) : Value) = .int .i64 (↑(stepN (j + 1) r) : Int) from by rw [show stepN (j + 1) r = step1 (stepN j r) from rfl, step1_odd (by omega)]) ?_
     exact ze 0 (hJ1 _ _ _ ⟨j + 1, rfl, rfl, hB_1, by omega⟩ (by omega))
   refine xwm 5 ((↑j : Int) + 1) (↑(j + 1) : Int) ?_
   refine xv1 2 0 (show (.int .i64 (↑((stepN j r) / 2) : Int) : Value) = .int .i64 (↑(stepN (j + 1) r) : Int) from by rw [show stepN (j + 1) r = step1 (stepN j r) from rfl, step1_ev (by omega)]) ?_
   exact ze 0 (hJ1 _ _ _ ⟨j + 1, rfl, rfl, hB_1, by omega⟩ (by omega))
 refine xe 12 (.int .i64 (↑(stepN j r) : Int)) ?_
 obtain rfl : j = 8 := by omega
 exact ⟨rfl, hB_1⟩
set_option maxRecDepth 100000 in
set_option maxHeartbeats 1000000 in
theorem ref_More (a : Option Addr) (c : Nat) (l : List UInt8) (w : World) (hl : l.length ≤ 100000000) (h : Bys w (.slice a l.length c) l) :
    Calls Tryz.prog 127 #[.int .i64 0, .slice a l.length c] w (Ret (.int .i64 (crcSum l : Int)) w) := by
 refine zin 31 Tryz.func127 ?_
 have hB := Below.refl w.heap.size w
 refine zl 33 31 (fun zm zkv V => ∃ (i : Nat), zkv = [(1, .slice a l.length c), (4, .int .i64 0), (5, .int .i64 (↑(crcRun 4294967295 (l.take i)) : Int)), (6, .int .i64 (↑i : Int))] ∧ zm = l.length - ((↑i : Int)).toNat ∧ Below w.heap.size w V ∧ i ≤ l.length) ⟨0, rfl, rfl, hB, Nat.zero_le _⟩ ?_
 rintro _ _ W1 ⟨i, rfl, rfl, hB_1, hi⟩ J1 hJ1 r1
 refine xid 9 ((↑i : Int) < (↑l.length : Int)) (fun hc2 => ?_) (fun hc2 => ?_)
 · refine xx 8 _ l.length i 1 (Bys.elem h (k := i) (by omega)).1 ?_
   refine xl 0 ((Bys.elem (h.below hB_1) (k := i) (by omega)).2) ?_
   refine xq 0 (congrArg (Value.int .i64) (show (IntKind.i64.wrap (↑(l.getD i 0).toNat : Int) : Int) = (↑(l.getD i 0).toNat : Int) from i64_nat (by have := (l.getD i 0).toNat_lt; omega))) ?_
   refine xq 0 (congrArg (Value.int .i64) (show (IntKind.i64.wrap (↑(BitVec.ofInt 64 (↑(crcRun 4294967295 (l.take i)) : Int) ^^^ BitVec.ofInt 64 (↑(l.getD i 0).toNat : Int)).toNat : Int) : Int) = (↑((crcRun 4294967295 (l.take i)) ^^^ (l.getD i 0).toNat) : Int) from i64_xor (crcRun_lt (by decide) _) (u8_lt _))) ?_
   refine xr 0 (args := #[.int .i64 (↑((crcRun 4294967295 (l.take i)) ^^^ (l.getD i 0).toNat) : Int)]) (ref_Step ((crcRun 4294967295 (l.take i)) ^^^ (l.getD i 0).toNat) _ (Nat.xor_lt_two_pow (n := 32) (crcRun_lt (by decide) _) (u8_lt _))) fun W3 hb3 => ?_
   refine xwm 6 ((↑i : Int) + 1) (↑(i + 1) : Int) ?_
   refine xv1 2 5 (show (.int .i64 (↑(stepN 8 ((crcRun 4294967295 (l.take i)) ^^^ (l.getD i 0).toNat)) : Int) : Value) = .int .i64 (↑(crcRun 4294967295 (l.take (i + 1))) : Int) from by rw [crcRun_take (by omega), crcStep_8]) ?_
   have hB'1 := Bl.next hB_1 hb3
   exact ze 0 (hJ1 _ _ _ ⟨i + 1, rfl, rfl, hB'1, by omega⟩ (by omega))
 refine xq 8 (congrArg (Value.int .i64) (show (IntKind.i64.wrap (↑(BitVec.ofInt 64 (↑(crcRun 4294967295 (l.take i)) : Int) ^^^ BitVec.ofInt 64 (4294967295 : Int)).toNat : Int) : Int) = (↑((crcRun 4294967295 (l.take i)) ^^^ 4294967295) : Int) from i64_xor (b := 4294967295) (crcRun_lt (by decide) _) (by decide))) ?_
 refine xe 4 (.int .i64 (↑((crcRun 4294967295 (l.take i)) ^^^ 4294967295) : Int)) ?_
 obtain rfl : i = l.length := by omega
 rw [List.take_length]
 exact ⟨rfl, hB_1⟩
set_option maxRecDepth 100000 in
set_option maxHeartbeats 1000000 in
theorem ref_Sum (a : Option Addr) (c : Nat) (l : List UInt8) (w : World) (hl : l.length ≤ 100000000) (h : Bys w (.slice a l.length c) l) :
    Calls Tryz.prog 119 #[.slice a l.length c] w (Ret (.int .i64 (crcSum l : Int)) w) := by
 refine zin 5 Tryz.func119 ?_
 refine xr 8 (args := #[.int .i64 0, .slice a l.length c]) (ref_More a c l _ hl (h.below (Below.refl w.heap.size _))) fun W1 hb1 => ?_
 exact xe 4 (.int .i64 (↑(crcSum l) : Int)) ⟨rfl, hb1⟩
theorem ref_SumN (a : Option Addr) (n c : Nat) (l : List UInt8) (w : World) (hn : l.length = n) (hl : n ≤ 100000000) (h : Bys w (.slice a n c) l) : Calls Tryz.prog 119 #[.slice a n c] w (Ret (.int .i64 (crcSum l : Int)) w) := by
  subst hn; exact ref_Sum a c l w hl h
theorem leB_snoc (n : Int) (w : Nat) : leB n (w + 1) = leB n w ++ [byteAt n w] := by simp [leB, List.range_succ]
theorem u8_byteAt (m i : Nat) : IntKind.u8.wrap (((m / 256 ^ i) % 256 : Nat) : Int) = ((byteAt (m : Int) i).toNat : Int) := by
  rw [byte_0 (Int.natCast_nonneg _)]
  unfold byteAt
  simp only [Int.toNat_natCast, Nat.pow_zero, Nat.div_one]
  congr 2
  apply UInt8.toNat_inj.1
  simp [UInt8.toNat_ofNat']
set_option maxRecDepth 100000 in
set_option maxHeartbeats 1000000 in
theorem ref_Bytes (m w : Nat) (W : World) (hm : m < 9223372036854775808) (hw : w ≤ 8) :
    Calls Tryz.prog 71 #[.int .i64 (↑m : Int), .int .i64 (↑w : Int)] W (RetS (fun W' r => ∃ p c, r = .slice p w c ∧ W'.ownsRow W.heap.size 5 1 (.slice p w c) w ((leB (↑m : Int) w).map bv)) W) := by
 refine zin 21 Tryz.func71 ?_
 refine xv1 17 0 (show (.int .i64 (↑m : Int) : Value) = .int .i64 ((m / 256 ^ 0 : Nat) : Int) from by rw [Nat.pow_zero, Nat.div_one]) ?_
 have hB := Below.refl W.heap.size W
 refine zl 0 21 (fun zm zkv V => ∃ (i : Nat) (p : Option Addr) (c : Nat), zkv = [(0, .int .i64 (↑(m / 256 ^ i) : Int)), (1, .int .i64 (↑w : Int)), (4, .slice none 0 0), (5, .slice p i c), (6, .int .i64 (↑i : Int))] ∧ zm = w - ((↑i : Int)).toNat ∧ Below W.heap.size W V ∧ V.ownsRow W.heap.size 5 1 (.slice p i c) i ((leB (↑m : Int) i).map bv) ∧ i ≤ w) ⟨0, _, _, rfl, rfl, hB, World.ownsRow_nil _ _ _ _, Nat.zero_le _⟩ ?_
 rintro _ _ W1 ⟨i, p, c, rfl, rfl, hB_1, ho, hi⟩ J1 hJ1 r1
 refine xid 8 ((↑i : Int) < (↑w : Int)) (fun hc2 => ?_) (fun hc2 => ?_)
 · refine xq 8 (congrArg (Value.int .i64) (show (Int.tmod (↑(m / 256 ^ i) : Int) 256 : Int) = (↑((m / 256 ^ i) % 256) : Int) from tmod_natB (m / 256 ^ i) 256)) ?_
   refine xq 0 (congrArg (Value.int .u8) (show (IntKind.u8.wrap (↑((m / 256 ^ i) % 256) : Int) : Int) = (↑(byteAt (↑m : Int) i).toNat : Int) from u8_byteAt m i)) ?_
   refine xbs 0 1 [.int .u8 (↑(byteAt (↑m : Int) i).toNat : Int)] 5 fun b3 W3 n3 => ?_
   have r3_ho := own_ne ho n3
   have ho'1 := own_below ho n3.below
   have hB'1 := Bl.next hB_1 n3.below
   refine xbi 0 fun _ _ _ _ zJ zQ zo zx zy zK => op_app (m := 1) (news := [.int .u8 (↑(byteAt (↑m : Int) i).toNat : Int)]) (.int .u8 0) 1 1 (i + 1) ((leB (↑m : Int) (i + 1)).map bv) zo Tryz.underlying28 (by kernel_rfl) rfl (by decide) zx ho'1 zy (n3.blk.sl 1 1 (by decide) (by decide)) rfl (by simp [Value.oneCell']) (by unfold maxLen; omega) (by omega) hB'1.size (by rfl) (by rw [leB_snoc, List.map_append]; rfl) fun p4 c4 W4 o4 hg4 hb4 => ?_
   refine zK _ _ ?_
   refine xq 5 (congrArg (Value.int .i64) (show (IntKind.i64.wrap (Int.tdiv (↑(m / 256 ^ i) : Int) 256) : Int) = (↑((m / 256 ^ i) / 256) : Int) from quo_natB (m / 256 ^ i) 256 (Nat.lt_of_le_of_lt (Nat.div_le_self _ _) hm) (by decide))) ?_
   refine xwm 6 ((↑i : Int) + 1) (↑(i + 1) : Int) ?_
   refine xv1 2 0 (show (.int .i64 (↑((m / 256 ^ i) / 256) : Int) : Value) = .int .i64 (↑(m / 256 ^ (i + 1)) : Int) from by rw [Nat.pow_succ, ← Nat.div_div_eq_div_mul]) ?_
   have hB'2 := hB'1.trans hb4
   exact ze 0 (hJ1 _ _ _ ⟨i + 1, _, _, rfl, rfl, hB'2, o4, by omega⟩ (by omega))
 refine xe 12 (.slice p i c) ?_
 obtain rfl : i = w := by omega
 exact ⟨_, rfl, hB_1, _, _, rfl, ho⟩
theorem ref_BytesN (n : Int) (w : Nat) (wi : Int) (W : World) (h0 : 0 ≤ n) (hn : n < 9223372036854775808) (hwi : wi = (w : Int)) (hw : w ≤ 8) : Calls Tryz.prog 71 #[.int .i64 n, .int .i64 wi] W (RetS (fun W' r => ∃ p c, r = .slice p w c ∧ W'.ownsRow W.heap.size 5 1 (.slice p w c) w ((leB n w).map bv)) W) := by
  subst hwi
  obtain ⟨m, rfl⟩ : ∃ m : Nat, n = m := ⟨n.toNat, by omega⟩
  exact ref_Bytes m w W (by omega) hw
set_option maxRecDepth 100000 in
set_option maxHeartbeats 1000000 in
theorem ref_Salt1 (w : World) :
    Calls Tryz.prog 120 #[.int .i64 1] w (Ret (.int .i64 (saltN 1 : Int)) w) := by
 refine zin 15 Tryz.func120 ?_
 refine xbs 7 5 [.int .i64 0, .int .i64 160774, .int .i64 121107, .int .i64 240779, .int .i64 160478] 3 fun b1 W1 n1 => ?_
 refine xb 22 1 n1.blk ?_
 exact xe 4 (.int .i64 160774) ⟨rfl, n1.below⟩
set_option maxRecDepth 100000 in
set_option maxHeartbeats 1000000 in
theorem ref_Salt2 (w : World) :
    Calls Tryz.prog 120 #[.int .i64 2] w (Ret (.int .i64 (saltN 2 : Int)) w) := by
 refine zin 15 Tryz.func120 ?_
 refine xbs 7 5 [.int .i64 0, .int .i64 160774, .int .i64 121107, .int .i64 240779, .int .i64 160478] 3 fun b1 W1 n1 => ?_
 refine xb 22 2 n1.blk ?_
 exact xe 4 (.int .i64 121107) ⟨rfl, n1.below⟩
set_option maxRecDepth 100000 in
set_option maxHeartbeats 1000000 in
theorem ref_Salt3 (w : World) :
    Calls Tryz.prog 120 #[.int .i64 3] w (Ret (.int .i64 (saltN 3 : Int)) w) := by
 refine zin 15 Tryz.func120 ?_
 refine xbs 7 5 [.int .i64 0, .int .i64 160774, .int .i64 121107, .int .i64 240779, .int .i64 160478] 3 fun b1 W1 n1 => ?_
 refine xb 22 3 n1.blk ?_
 exact xe 4 (.int .i64 240779) ⟨rfl, n1.below⟩
set_option maxRecDepth 100000 in
set_option maxHeartbeats 1000000 in
theorem ref_Salt4 (w : World) :
    Calls Tryz.prog 120 #[.int .i64 4] w (Ret (.int .i64 (saltN 4 : Int)) w) := by
 refine zin 15 Tryz.func120 ?_
 refine xbs 7 5 [.int .i64 0, .int .i64 160774, .int .i64 121107, .int .i64 240779, .int .i64 160478] 3 fun b1 W1 n1 => ?_
 refine xb 22 4 n1.blk ?_
 exact xe 4 (.int .i64 160478) ⟨rfl, n1.below⟩
theorem ref_Salt (kind : Int) (h1 : 1 ≤ kind) (h2 : kind ≤ 4) (w : World) : Calls Tryz.prog 120 #[.int .i64 kind] w (Ret (.int .i64 (saltN kind : Int)) w) := by
  obtain rfl | rfl | rfl | rfl : kind = 1 ∨ kind = 2 ∨ kind = 3 ∨ kind = 4 := by omega
  · exact ref_Salt1 w
  · exact ref_Salt2 w
  · exact ref_Salt3 w
  · exact ref_Salt4 w
set_option maxRecDepth 100000 in
set_option maxHeartbeats 1000000 in
theorem ref_known (kind no : Int) (w : World) :
    Calls Tryz.prog 118 #[.int .i64 kind, .int .i64 no] w (Ret (.bool (knownB kind no)) w) := by
 refine zin 19 Tryz.func118 ?_
 refine xg 10 [6, 7] (decide (kind ≥ (1 : Int))) (fun hc1 => ?_) (fun hc1 => ?_)
 · have hc1 := of_decide_eq_true hc1
   refine xg 4 [9, 10, 11] (decide (kind ≤ (4 : Int))) (fun hc2 => ?_) (fun hc2 => ?_)
   · have hc2 := of_decide_eq_true hc2
     refine xg 4 [13, 14, 15] (decide (no ≥ (0 : Int))) (fun hc3 => ?_) (fun hc3 => ?_)
     · have hc3 := of_decide_eq_true hc3
       exact xe 7 (.bool (decide (no < (14400 : Int)))) ⟨by rw [show knownB kind no = decide (no < 14400) from decide_eq_decide.2 ⟨fun h => h.2.2.2, fun h => ⟨by omega, by omega, by omega, h⟩⟩], (Below.refl w.heap.size _)⟩
     have hc3 := of_decide_eq_false hc3
     exact xe 7 (.bool false) ⟨by rw [show knownB kind no = false from decide_eq_false (by omega)], (Below.refl w.heap.size _)⟩
   have hc2 := of_decide_eq_false hc2
   exact xe 11 (.bool false) ⟨by rw [show knownB kind no = false from decide_eq_false (by omega)], (Below.refl w.heap.size _)⟩
 have hc1 := of_decide_eq_false hc1
 exact xe 15 (.bool false) ⟨by rw [show knownB kind no = false from decide_eq_false (by omega)], (Below.refl w.heap.size _)⟩
set_option maxRecDepth 100000 in
set_option maxHeartbeats 1000000 in
theorem ref_Seal_bad (kind no : Int) (a : Option Addr) (c : Nat) (li : List UInt8) (w : World) (hk : knownB kind no = false) :
    Calls Tryz.prog 105 #[.int .i64 kind, .int .i64 no, .slice a li.length c] w (Ret (.tuple #[.slice none 0 0, .int .i64 1]) w) := by
 refine zin 42 Tryz.func105 ?_
 refine xr 11 (args := #[.int .i64 kind, .int .i64 no]) (ref_known kind no _) fun W1 hb1 => ?_
 refine xk 3 (show (!(knownB kind no) : Bool) = true from by rw [hk]; rfl) ?_
 exact xe 8 (.tuple #[.slice none 0 0, .int .i64 1]) ⟨rfl, hb1⟩
set_option maxRecDepth 100000 in
set_option maxHeartbeats 1000000 in
theorem ref_Seal_long (kind no : Int) (a : Option Addr) (c : Nat) (li : List UInt8) (w : World) (hk : knownB kind no = true) (hl : 244 < li.length) :
    Calls Tryz.prog 105 #[.int .i64 kind, .int .i64 no, .slice a li.length c] w (Ret (.tuple #[.slice none 0 0, .int .i64 2]) w) := by
 refine zin 42 Tryz.func105 ?_
 refine xr 11 (args := #[.int .i64 kind, .int .i64 no]) (ref_known kind no _) fun W1 hb1 => ?_
 refine xk 3 (show (!(knownB kind no) : Bool) = false from by rw [hk]; rfl) ?_
 refine xk 10 (show (decide ((↑li.length : Int) > (244 : Int)) : Bool) = true from decide_eq_true (by omega)) ?_
 exact xe 8 (.tuple #[.slice none 0 0, .int .i64 2]) ⟨rfl, hb1⟩
def refHead (kind no : Int) (li : List UInt8) : List UInt8 := leB no 4 ++ leB kind 2 ++ [0, 0] ++ li
theorem refHead_len (kind no : Int) (li : List UInt8) : (refHead kind no li).length = 8 + li.length := by simp [refHead, leB_len]; omega
def refPad (kind no : Int) (li : List UInt8) (m : Nat) : List UInt8 := refHead kind no li ++ List.replicate (m - (8 + li.length)) 0
theorem refPad_len {kind no : Int} {li : List UInt8} {m : Nat} (h : 8 + li.length ≤ m) : (refPad kind no li m).length = m := by simp [refPad, refHead_len]; omega
theorem refPad_zero (kind no : Int) (li : List UInt8) : refPad kind no li (8 + li.length) = refHead kind no li := by simp [refPad]
theorem refPad_next {kind no : Int} {li : List UInt8} {m : Nat} (h : 8 + li.length ≤ m) : refPad kind no li (m + 1) = refPad kind no li m ++ [0] := by
  unfold refPad
  rw [show m + 1 - (8 + li.length) = (m - (8 + li.length)) + 1 by omega, List.replicate_succ', ← List.append_assoc]
theorem refPad_seal3 {kind no : Int} {li : List UInt8} (hl : li.length ≤ 244) : refPad kind no li 252 = (seal3 kind no li).take 252 := by
  have l1 := seal1_len hl
  have l2 := seal2_len (no := no) hl
  have l3 := seal3_len (kind := kind) (no := no) hl
  apply ext_getD
  · rw [refPad_len (by omega)]; simp [l3]
  · intro j hj
    rw [refPad_len (by omega)] at hj
    have e : ((seal3 kind no li).take 252).getD j 0 = (seal3 kind no li).getD j 0 := by simp only [List.getD]; rw [List.getElem?_take, if_pos hj]
    rw [e]
    unfold seal3
    rw [putB_get (by rw [leB_len]; omega), leB_len]
    unfold refPad refHead
    simp only [List.getD, List.append_assoc]
    rw [List.getElem?_append, leB_len]
    by_cases h1 : j < 4
    · rw [if_pos h1, if_neg (by omega)]
      have := putB_get (l := seal1 li) (k := 0) (x := leB no 4) (by rw [leB_len]; omega) j
      rw [if_pos (by rw [leB_len]; omega)] at this
      unfold seal2
      simp only [List.getD] at this
      rw [this, Nat.sub_zero]
    · rw [if_neg h1, List.getElem?_append, leB_len]
      by_cases h2 : j < 6
      · rw [if_pos (by omega), if_pos (by omega)]
      · rw [if_neg (by omega), if_neg (by omega)]
        have := putB_get (l := seal1 li) (k := 0) (x := leB no 4) (by rw [leB_len]; omega) j
        rw [if_neg (by rw [leB_len]; omega)] at this
        have h3 := putB_get (l := List.replicate 256 (0 : UInt8)) (k := 8) (x := li) (by rw [List.length_replicate]; omega) j
        unfold seal2
        simp only [List.getD] at this h3
        rw [this]
        unfold seal1
        rw [h3, List.getElem?_append]
        have hz := zeros_get 256 j
        simp only [List.getD] at hz
        by_cases h4 : j < 8
        · rw [if_pos (by simp; omega), if_neg (by omega), hz]
          obtain rfl | rfl : j = 6 ∨ j = 7 := by omega
          · rfl
          · rfl
        · rw [if_neg (by simp; omega), List.getElem?_append]
          simp only [List.length_cons, List.length_nil]
          by_cases h5 : j < 8 + li.length
          · rw [if_pos (by omega), if_pos (by omega), show j - 4 - 2 - (0 + 1 + 1) = j - 8 by omega]
          · rw [if_neg (by omega), if_neg (by omega), hz]
            have := zeros_get (252 - (8 + li.length)) (j - 4 - 2 - (0 + 1 + 1) - li.length)
            simpa only [List.getD] using this
theorem refSeal_eq {kind no : Int} {li : List UInt8} (hl : li.length ≤ 244) : refPad kind no li 252 ++ leB ((crcSum (refPad kind no li 252) ^^^ saltN kind : Nat) : Int) 4 = sealB kind no li := by
  have l3 := seal3_len (kind := kind) (no := no) hl
  rw [refPad_seal3 hl]
  unfold sealB putB sumB
  rw [leB_len, List.drop_eq_nil_of_le (by omega), List.append_nil]
set_option maxRecDepth 100000 in
set_option maxHeartbeats 4000000 in
theorem ref_Seal_ok (kind no : Int) (a : Option Addr) (c : Nat) (li : List UInt8) (w : World) (h1 : 1 ≤ kind) (h2 : kind ≤ 4) (h0 : 0 ≤ no) (hno : no < 14400) (hk : knownB kind no = true) (hl : li.length ≤ 244) (h : Bys w (.slice a li.length c) li) :
    Calls Tryz.prog 105 #[.int .i64 kind, .int .i64 no, .slice a li.length c] w (RetS (fun w' r => ∃ p c, r = .tuple #[.slice p 256 c, .int .i64 0] ∧ w'.ownsRow w.heap.size 5 1 (.slice p 256 c) 256 ((sealB kind no li).map bv)) w) := by
 refine zin 42 Tryz.func105 ?_
 refine xr 11 (args := #[.int .i64 kind, .int .i64 no]) (ref_known kind no _) fun W1 hb1 => ?_
 refine xk 3 (show (!(knownB kind no) : Bool) = false from by rw [hk]; rfl) ?_
 refine xk 10 (show (decide ((↑li.length : Int) > (244 : Int)) : Bool) = false from decide_eq_false (by omega)) ?_
 refine xc 5 (args := #[.int .i64 no, .int .i64 4]) (ref_BytesN no 4 4 _ (h0) (by omega) rfl (by decide)) ?_
 rintro _ W2 ⟨_, rfl, hb2, p1_, c1_, rfl, b1_⟩
 refine xc 7 (args := #[.int .i64 kind, .int .i64 2]) (ref_BytesN kind 2 2 _ (by omega) (by omega) rfl (by decide)) ?_
 rintro _ W3 ⟨_, rfl, hb3, p2_, c2_, rfl, b2_⟩
 have hs3 := (Bl.next hb1 hb2).size
 have b1_'1 := own_below (own_mono b1_ hb1.size) hb3
 have b2_'1 := own_mono b2_ hs3
 have hB := Bl.next (Bl.next hb1 hb2) hb3
 refine xbi 0 fun _ _ _ _ zJ zQ zo zx zy zK => op_app (m := 2) (news := (leB kind 2).map bv) (.int .u8 0) 1 1 (6) ((leB no 4 ++ leB kind 2).map bv) zo Tryz.underlying28 (by kernel_rfl) rfl (by decide) zx b1_'1 zy (own_sl b2_'1) (by rw [List.length_map, leB_len]) (bv_one _) (by unfold maxLen; omega) (by omega) hB.size (by rfl) (by rw [List.map_append]) fun p4 c4 W4 o4 hg4 hb4 => ?_
 refine zK _ _ ?_
 refine xbs 6 2 [.int .u8 0, .int .u8 0] 5 fun b5 W5 n5 => ?_
 have r5_o4 := own_ne o4 n5
 have o4'1 := own_below o4 n5.below
 have hB'1 := Bl.next (hB.trans hb4) n5.below
 refine xbi 0 fun _ _ _ _ zJ zQ zo zx zy zK => op_app (m := 2) (news := [.int .u8 0, .int .u8 0]) (.int .u8 0) 1 1 (8) ((leB no 4 ++ leB kind 2 ++ [0, 0]).map bv) zo Tryz.underlying28 (by kernel_rfl) rfl (by decide) zx o4'1 zy (n5.blk.sl 2 2 (by decide) (by decide)) rfl (by simp [Value.oneCell']) (by unfold maxLen; omega) (by omega) hB'1.size (by rfl) (by rw [List.map_append (l₂ := [0, 0])]; rfl) fun p6 c6 W6 o6 hg6 hb6 => ?_
 refine zK _ _ ?_
 have hB'2 := hB'1.trans hb6
 refine xbi 7 fun _ _ _ _ zJ zQ zo zx zy zK => op_app (m := li.length) (news := li.map bv) (.int .u8 0) 1 1 (8 + li.length) ((refPad kind no li (8 + li.length)).map bv) zo Tryz.underlying28 (by kernel_rfl) rfl (by decide) zx o6 zy (h.below hB'2) (by simp) (bv_one _) (by unfold maxLen; omega) (by omega) hB'2.size (by rfl) (by rw [refPad_zero, refHead, List.map_append (l₂ := li)]) fun p7 c7 W7 o7 hg7 hb7 => ?_
 refine zK _ _ ?_
 have hB'3 := hB'2.trans hb7
 refine zl 5 42 (fun zm zkv V => ∃ (m : Nat) (p : Option Addr) (c5 : Nat), zkv = [(0, .int .i64 kind), (6, .slice none 0 0), (7, .int .i64 0), (8, .slice p m c5)] ∧ zm = 252 - m ∧ Below w.heap.size w V ∧ V.ownsRow w.heap.size 5 1 (.slice p m c5) m ((refPad kind no li m).map bv) ∧ 8 + li.length ≤ m ∧ m ≤ 252) ⟨_, _, _, rfl, rfl, hB'3, o7, Nat.le_refl _, by omega⟩ ?_
 rintro _ _ W8 ⟨m, p, c5, rfl, rfl, hB_8, hm, hm1, hm2⟩ J8 hJ8 r8
 refine xid 8 ((↑m : Int) < (252 : Int)) (fun hc9 => ?_) (fun hc9 => ?_)
 · refine xbs 5 1 [.int .u8 0] 5 fun b10 W10 n10 => ?_
   have r10_hm := own_ne hm n10
   have hm'1 := own_below hm n10.below
   have hB'4 := Bl.next hB_8 n10.below
   refine xbi 0 fun _ _ _ _ zJ zQ zo zx zy zK => op_app (m := 1) (news := [.int .u8 0]) (.int .u8 0) 1 1 (m + 1) ((refPad kind no li (m + 1)).map bv) zo Tryz.underlying28 (by kernel_rfl) rfl (by decide) zx hm'1 zy (n10.blk.sl 1 1 (by decide) (by decide)) rfl (by simp [Value.oneCell']) (by unfold maxLen; omega) (by omega) hB'4.size (by rfl) (by rw [refPad_next (by omega), List.map_append]; rfl) fun p11 c11 W11 o11 hg11 hb11 => ?_
   refine zK _ _ ?_
   have hB'5 := hB'4.trans hb11
   exact ze 3 (hJ8 _ _ _ ⟨m + 1, _, _, rfl, rfl, hB'5, o11, by omega, by omega⟩ (by omega))
 have hme : m = 252 := by omega
 refine xr 9 (args := #[.slice p m c5]) (ref_SumN p m c5 (refPad kind no li m) _ (refPad_len hm1) (by omega) (bys_of (own_sl hm) (refPad_len hm1))) fun W12 hb12 => ?_
 refine xr 1 (args := #[.int .i64 kind]) (ref_Salt kind h1 h2 _) fun W13 hb13 => ?_
 refine xq 0 (congrArg (Value.int .i64) (show (IntKind.i64.wrap (↑(BitVec.ofInt 64 (↑(crcSum (refPad kind no li m)) : Int) ^^^ BitVec.ofInt 64 (↑(saltN kind) : Int)).toNat : Int) : Int) = (↑(crcSum (refPad kind no li m) ^^^ saltN kind) : Int) from i64_xor (crcSum_lt _) (saltN_lt _))) ?_
 refine xc 0 (args := #[.int .i64 (↑(crcSum (refPad kind no li m) ^^^ saltN kind) : Int), .int .i64 4]) (ref_BytesN ((crcSum (refPad kind no li m) ^^^ saltN kind : Nat) : Int) 4 4 _ (Int.natCast_nonneg _) (by have := Nat.xor_lt_two_pow (n := 32) (crcSum_lt (refPad kind no li m)) (saltN_lt kind); omega) rfl (by decide)) ?_
 rintro _ W14 ⟨_, rfl, hb14, p3_, c3_, rfl, b3_⟩
 have hs14 := (Bl.next (Bl.next hB_8 hb12) hb13).size
 have hm'2 := own_below (own_below (own_below hm hb12) hb13) hb14
 have b3_'1 := own_mono b3_ hs14
 have hB'6 := Bl.next (Bl.next (Bl.next hB_8 hb12) hb13) hb14
 refine xbi 0 fun _ _ _ _ zJ zQ zo zx zy zK => op_app (m := 4) (news := (leB ((crcSum (refPad kind no li m) ^^^ saltN kind : Nat) : Int) 4).map bv) (.int .u8 0) 1 1 (256) ((sealB kind no li).map bv) zo Tryz.underlying28 (by kernel_rfl) rfl (by decide) zx hm'2 zy (own_sl b3_'1) (by rw [List.length_map, leB_len]) (bv_one _) (by unfold maxLen; omega) (by omega) hB'6.size (by omega) (by rw [hme, ← refSeal_eq hl, List.map_append]) fun p15 c15 W15 o15 hg15 hb15 => ?_
 refine zK _ _ ?_
 have hB'7 := hB'6.trans hb15
 exact xe 5 (.tuple #[.slice p15 256 c15, .int .i64 0]) ⟨_, rfl, hB'7, _, _, rfl, o15⟩
theorem ref_Seal (kind no : Int) (a : Option Addr) (c : Nat) (li : List UInt8) (w : World) (h : Bys w (.slice a li.length c) li) :
    Calls Tryz.prog 105 #[.int .i64 kind, .int .i64 no, .slice a li.length c] w (SealP kind no li w) := by
  cases hk : knownB kind no with
  | false =>
    refine (ref_Seal_bad kind no a c li w hk).mono ?_
    rintro e W ⟨rfl, hb⟩
    have he : sealE kind no li = 1 := by simp [sealE, hk]
    exact .inl ⟨by rw [he]; decide, by rw [he], hb⟩
  | true =>
    by_cases hl : li.length ≤ 244
    · obtain ⟨h1, h2, h3, h4⟩ := knownB_all hk
      refine (ref_Seal_ok kind no a c li w h1 h2 h3 h4 hk hl h).mono ?_
      rintro e W ⟨_, rfl, hb, p, c2, rfl, ho⟩
      exact .inr ⟨by simp [sealE, hk, hl], hk, hl, p, c2, rfl, hb, ho⟩
    · refine (ref_Seal_long kind no a c li w hk (by omega)).mono ?_
      rintro e W ⟨rfl, hb⟩
      have he : sealE kind no li = 2 := by simp [sealE, hk, hl]
      exact .inl ⟨by rw [he]; decide, by rw [he], hb⟩
end Go.Proofs.YtbhjgcokpmiopaaGreatDoor
namespace Go.Proofs.YtbhjgcokpmiopaaGreatDoor
open Go.RowKit Go.Extern.Stop Go.Stop Go.Extern
set_option linter.unusedVariables false
attribute [local irreducible] wpList wpAnyH Code.wp Oper.wp Go

theorem rawN_hi (l : List UInt8) : ∀ (j k r : Nat), rawN l (k + j) r ≤ rawN l k (j + r)
  | 0, k, r => by simp
  | j + 1, k, r => by
    have ih := rawN_hi l j (k + 1) r
    rw [show j + 1 + r = (j + r) + 1 by omega, rawN, show k + (j + 1) = k + 1 + j by omega]
    omega
theorem raw8 (l : List UInt8) (k : Nat) : rawN l k 8 < 9223372036854775808 ↔ (l.getD (k + 7) 0).toNat < 128 := by
  have h : ∀ i, (l.getD i 0).toNat < 256 := fun i => (l.getD i 0).toNat_lt
  have h0 := h k
  have h1 := h (k + 1)
  have h2 := h (k + 2)
  have h3 := h (k + 3)
  have h4 := h (k + 4)
  have h5 := h (k + 5)
  have h6 := h (k + 6)
  have h7 := h (k + 7)
  simp only [rawN, Nat.add_assoc, Nat.reduceAdd]
  omega
theorem rawN_last {l : List UInt8} {k w j r : Nat} (h : rawN l k w < 9223372036854775808) (hj : 0 < j) (e : j + r = w) : (l.getD (k + (j - 1)) 0).toNat + 256 * rawN l (k + j) r < 9223372036854775808 ∧ rawN l (k + (j - 1)) (r + 1) = rawN l (k + j) r * 256 + (l.getD (k + (j - 1)) 0).toNat := by
  have h1 := rawN_hi l (j - 1) k (r + 1)
  rw [show j - 1 + (r + 1) = w by omega, rawN, show k + (j - 1) + 1 = k + j by omega] at h1
  refine ⟨by omega, ?_⟩
  rw [rawN, show k + (j - 1) + 1 = k + j by omega]; omega
end Go.Proofs.YtbhjgcokpmiopaaGreatDoor
namespace Go.Proofs.YtbhjgcokpmiopaaGreatDoor
open Go.RowKit
set_option linter.unusedVariables false
theorem loop_eq (bs : ByteArray) (i : Nat) (r : List UInt8) : ByteArray.toList.loop bs i r = r.reverse ++ bs.data.toList.drop i := by
  have hs : bs.data.toList.length = bs.size := by rw [Array.length_toList]; rfl
  rw [ByteArray.toList.loop]
  split
  · rename_i h
    have h' : i < bs.data.toList.length := by omega
    rw [loop_eq bs (i + 1) _, List.drop_eq_getElem_cons h']
    have e : bs.get! i = bs.data.toList[i] := by
      have h2 : i < bs.data.size := by rw [← Array.length_toList]; exact h'
      show bs.data[i]! = _
      rw [getElem!_pos bs.data i h2]; simp
    rw [e]; simp
  · rename_i h
    rw [List.drop_eq_nil_of_le (by omega)]; simp
termination_by bs.size - i
theorem str_list (a : List UInt8) : (⟨a.toArray⟩ : ByteArray).toList = a := by
  unfold ByteArray.toList; rw [loop_eq]; simp
theorem str_beq (a b : List UInt8) : ((⟨a.toArray⟩ : ByteArray).toList == (⟨b.toArray⟩ : ByteArray).toList) = (a == b) := by rw [str_list, str_list]
theorem byte_at_raw (l : List UInt8) : ∀ (w k i : Nat), i < w → rawN l k w / 256 ^ i % 256 = (l.getD (k + i) 0).toNat
  | 0, k, i, h => absurd h (by omega)
  | w + 1, k, 0, _ => by
    have := (l.getD k 0).toNat_lt
    rw [rawN]; simp only [Nat.pow_zero, Nat.div_one, Nat.add_zero]; omega
  | w + 1, k, i + 1, h => by
    have := (l.getD k 0).toNat_lt
    have ih := byte_at_raw l w (k + 1) i (by omega)
    rw [rawN, Nat.pow_succ, Nat.mul_comm (256 ^ i) 256, ← Nat.div_div_eq_div_mul, show ((l.getD k 0).toNat + 256 * rawN l (k + 1) w) / 256 = rawN l (k + 1) w by omega, ih, show k + 1 + i = k + (i + 1) by omega]
/-- the bytes of a number that was read are the bytes that were read -/
theorem leB_raw {l : List UInt8} {k w : Nat} (h : k + w ≤ l.length) : leB (rawN l k w : Int) w = (l.drop k).take w := by
  apply List.ext_getElem
  · simp [leB_len]; omega
  intro i h1 h2
  have hw : i < w := by simpa [leB_len] using h1
  have e := byte_at_raw l w k i hw
  apply UInt8.toNat_inj.1
  simp only [leB, List.getElem_map, List.getElem_range, byteAt, Int.toNat_natCast, UInt8.toNat_ofNat', List.getElem_take, List.getElem_drop]
  have e2 : l.getD (k + i) 0 = l[k + i]'(by omega) := by simp [List.getD, show k + i < l.length by omega]
  rw [e2] at e
  rw [← e]
theorem leB_inj {m n w : Nat} (hm : m < 256 ^ w) (hn : n < 256 ^ w) (h : leB (m : Int) w = leB (n : Int) w) : m = n := by
  have e : ∀ i, i < w → m / 256 ^ i % 256 = n / 256 ^ i % 256 := fun i hi => by
    have := congrArg (fun l => (l.getD i 0).toNat) h
    simpa [leB, byteAt, List.getD, List.getElem?_range hi, UInt8.toNat_ofNat'] using this
  clear h
  induction w generalizing m n with
  | zero => simp at hm hn; omega
  | succ w ih =>
    have h0 := e 0 (by omega)
    have h1 : m / 256 = n / 256 := ih (by rw [Nat.pow_succ] at hm; omega) (by rw [Nat.pow_succ] at hn; omega) fun i hi => by
      have := e (i + 1) (by omega)
      rw [Nat.pow_succ, Nat.mul_comm (256 ^ i) 256, ← Nat.div_div_eq_div_mul, ← Nat.div_div_eq_div_mul] at this
      exact this
    simp only [Nat.pow_zero, Nat.div_one] at h0
    omega
theorem str_bne (a b : List UInt8) : (!((⟨a.toArray⟩ : ByteArray).toList == (⟨b.toArray⟩ : ByteArray).toList)) = !(a == b) := by rw [str_beq]
theorem not_t {b : Bool} (h : (!b) = true) : b = false := by simpa using h
theorem not_f {b : Bool} (h : (!b) = false) : b = true := by simpa using h
end Go.Proofs.YtbhjgcokpmiopaaGreatDoor
namespace Go.Proofs.YtbhjgcokpmiopaaGreatDoor
open Go.RowKit Go.Extern.Stop Go.Stop Go.Extern
set_option linter.unusedVariables false

theorem numB_digit (n : Nat) (h : n < 10) : numB n = ⟨#[48 + n.toUInt8]⟩ := by
  have : n = 0 ∨ n = 1 ∨ n = 2 ∨ n = 3 ∨ n = 4 ∨ n = 5 ∨ n = 6 ∨ n = 7 ∨ n = 8 ∨ n = 9 := by omega
  rcases this with rfl | rfl | rfl | rfl | rfl | rfl | rfl | rfl | rfl | rfl <;> (simp [numB, Lib.itoa, Lib.decDigits]; try decide)
theorem text_lives : textB [some 3, some 7] (some 4) = ⟨#[98, 108, 111, 99, 107, 32, 51, 58, 32, 98, 108, 111, 99, 107, 32, 55, 58, 32, 101, 114, 114, 111, 114, 32, 52]⟩ := by
  simp only [textB]
  rw [show numB 3 = ⟨#[51]⟩ from numB_digit 3 (by omega), show numB 7 = ⟨#[55]⟩ from numB_digit 7 (by omega), show numB 4 = ⟨#[52]⟩ from numB_digit 4 (by omega)]
  rfl

end Go.Proofs.YtbhjgcokpmiopaaGreatDoor
namespace Go.Proofs.YtbhjgcokpmiopaaGreatDoor
open Go.RowKit Go.Extern.Stop Go.Stop Go.Extern
set_option linter.unusedVariables false

/-- an error as the document has it -/
def FltV (w : World) (v : Value) (l : List Int) (c : Int) : Prop := ∃ s, v = .agg #[s, .int .i64 c] ∧ Ints w s l
theorem FltV.below {w w' : World} {v : Value} {l : List Int} {c : Int} (h : FltV w v l c) (hb : Below w.heap.size w w') : FltV w' v l c := by
  obtain ⟨s, rfl, hs⟩ := h
  exact ⟨s, rfl, hs.below hb⟩
def ownL (l : List Int) (c : Int) : List (Option Int) := if c = 0 then [] else l.map some
def ownT (c : Int) : Option Int := if c = 0 then none else some c
theorem ownL_nz {l : List Int} {c : Int} (h : c ≠ 0) : ownL l c = l.map some := if_neg h
theorem ownT_nz {c : Int} (h : c ≠ 0) : ownT c = some c := if_neg h
theorem codeOf_own (l : List Int) (c : Int) : codeOf (ownL l c) (ownT c) = c := by
  by_cases h : c = 0
  · subst h; rfl
  · rw [ownL_nz h, ownT_nz h]; simp [codeOf, noErr]
theorem blocksOf_own (l : List Int) (c : Int) : blocksOf (ownL l c) = if c = 0 then [] else l := by
  by_cases h : c = 0
  · subst h; rfl
  · rw [ownL_nz h, if_neg h]; simp [blocksOf, List.filterMap_map]
theorem drop_some {l : List Int} {k : Nat} (h : k < l.length) : (l.drop k).map some = some l[k] :: (l.drop (k + 1)).map some := by
  rw [List.drop_eq_getElem_cons h]; rfl

theorem res_told {w : World} {B : Nat} {s : Value} {c : Int} {t : TypeId} (h : Blk w B [s, .int .i64 c] t) (hs : ∃ a n m, s = .slice a n m) {tmps : Array Value} (e : tmps.getD 2 undef = .pointer (some ⟨B, 0, none⟩)) :
    (results Tryz.f13 tmps).run Tryz.prog w = .ok (.agg #[s, .int .i64 c]) w := by
  obtain ⟨a, n, m, rfl⟩ := hs
  have c0 := h.cell (i := 0) rfl
  have c1 := h.cell (i := 1) rfl
  have e' : tmps[2]?.getD undef = .pointer (some ⟨B, 0, none⟩) := by simpa using e
  simp [results, Tryz.results13, go_sem, c0, c1, e']
set_option maxHeartbeats 1000000 in
theorem law05_Told (t : Option Int) (l : List (Option Int)) (v : Value) (w : World) (hlen : l.length ≤ 1000000) (hg : ErrT w) (hv : ErrV w l t v) :
    Calls Tryz.prog 13 #[v] w (RetS (fun w' r => FltV w' r (blocksOf l) (codeOf l t)) w) := by
  have hB := Bl.box w (.cells #[.slice none 0 0, .int .i64 0] 31)
  have k0 := Blk.new w [.slice none 0 0, .int .i64 0] 31
  rcases hv.nil_or with ⟨hz, rfl⟩ | ⟨hz, ty, x, rfl⟩
  · obtain ⟨rfl, rfl⟩ := noErr_true hz
    go_enter Tryz.func13, Tryz.ntmps13
    go_wp2_with fail
    exact bodyPost_ret (res_told k0 ⟨_, _, _, rfl⟩ rfl) rfl ⟨_, rfl, hB, _, rfl, .inl ⟨_, _, rfl, rfl, rfl⟩⟩
  · go_enter Tryz.func13, Tryz.ntmps13
    have hv1 := hv.below hB
    go_wp2_with fail
    refine (fault_Blocks t l _ _ hlen hv1).mono ?_
    rintro e w1 ⟨r, rfl, hb1, h1⟩
    have hB1 := Bl.next hB hb1
    go_wp2_with fail
    refine (fault_Code t l _ w1 (hg.below hB1) (hv.below hB1)).mono ?_
    rintro e w2 ⟨rfl, hb2⟩
    have k2 := (k0.below hb1).below hb2
    obtain ⟨a, m, rfl⟩ := (own_sl h1).slice
    have d0 := k2.cell (i := 0) rfl
    have d1 := k2.cell (i := 1) rfl
    have f0 := k2.frozen 0
    have f1 := k2.frozen 1
    have hB2 := Bl.next hB1 hb2
    have hB3 : Below w.heap.size w ((w2.setCell ⟨w.heap.size, 0, none⟩ (.slice a (blocksOf l).length m)).setCell ⟨w.heap.size, 1, none⟩ (.int .i64 (codeOf l t))) := (hB2.setCell (Nat.le_refl _) _).setCell (Nat.le_refl _) _
    have h3 := ownsRow_setCell_below (ownsRow_setCell_below (own_below h1 hb2) (a := ⟨w.heap.size, 0, none⟩) (by simp) (.slice a (blocksOf l).length m)) (a := ⟨w.heap.size, 1, none⟩) (by simp) (.int .i64 (codeOf l t))
    go_wp2_with fail
    exact bodyPost_ret (res_told ((k2.set 0 _).set 1 _) ⟨_, _, _, rfl⟩ rfl) rfl ⟨_, rfl, hB3, _, rfl, own_sl h3⟩
set_option maxRecDepth 100000 in
set_option maxHeartbeats 2000000 in
theorem ref05_Same (l : List Int) (c : Int) (v1 v2 : Value) (w : World) (h1 : FltV w v1 l c) (h2 : FltV w v2 l c) :
    Calls Tryz.prog 12 #[v1, v2] w (Ret (.bool true) w) := by
  obtain ⟨s1, rfl, k1⟩ := h1
  obtain ⟨s2, rfl, k2⟩ := h2
  obtain ⟨a1, p1, rfl⟩ := k1.slice
  obtain ⟨a2, p2, rfl⟩ := k2.slice
  have hmax := k1.len
  have hB : Below w.heap.size w ((w.alloc (.cells #[.slice a1 l.length p1, .int .i64 c] 31)).alloc (.cells #[.slice a2 l.length p2, .int .i64 c] 31)) := Bl.next (Bl.box _ _) (Bl.box _ _)
  have b1 : Blk ((w.alloc (.cells #[.slice a1 l.length p1, .int .i64 c] 31)).alloc (.cells #[.slice a2 l.length p2, .int .i64 c] 31)) w.heap.size [.slice a1 l.length p1, .int .i64 c] 31 := (Blk.new _ _ _).alloc _
  have b2 := Blk.new (w.alloc (.cells #[.slice a1 l.length p1, .int .i64 c] 31)) [.slice a2 l.length p2, .int .i64 c] 31
  simp only [World.size_alloc] at b2
  go_enter Tryz.func12, Tryz.ntmps12
  go_wp2_with fail
  obtain ⟨W, hW⟩ : ∃ W, (w.alloc (.cells #[.slice a1 l.length p1, .int .i64 c] 31)).alloc (.cells #[.slice a2 l.length p2, .int .i64 c] 31) = W := ⟨_, rfl⟩
  change Blk ((w.alloc (.cells #[.slice a1 l.length p1, .int .i64 c] 31)).alloc (.cells #[.slice a2 l.length p2, .int .i64 c] 31)) _ _ _ at b2
  rw [hW] at hB b1 b2 ⊢
  have k1 := k1.below hB
  have k2 := k2.below hB
  clear hW
  go_loopw [5] (fun i wr => ∃ k : Nat, k ≤ l.length ∧ i = .int .i64 k ∧ Below W.heap.size W wr) (fun i _ => l.length - (intOf i).toNat)
  case atStart => exact ⟨0, by omega, rfl, Below.refl _ _⟩
  case round =>
    obtain ⟨k, hk, rfl, hbr⟩ := hrel
    have q1 := b1.below hbr
    have q2 := b2.below hbr
    have c1 := q1.cell (i := 0) rfl
    have c2 := q2.cell (i := 0) rfl
    by_cases hlt : k < l.length
    · rcases Sl.at (k1.below hbr) with h0 | ⟨g1, o1, rfl, hc1⟩
      · rw [List.map_eq_nil_iff] at h0; subst h0; exact absurd hlt (by simp)
      rcases Sl.at (k2.below hbr) with h0 | ⟨g2, o2, rfl, hc2⟩
      · rw [List.map_eq_nil_iff] at h0; subst h0; exact absurd hlt (by simp)
      have e1 : ∀ z : Ext wr, z.val.cell? ⟨w.heap.size, 0, none⟩ = some (.slice (some ⟨g1, o1, none⟩) l.length p1) := fun z => z.get c1
      have e2 : ∀ z : Ext wr, z.val.cell? ⟨w.heap.size + 1, 0, none⟩ = some (.slice (some ⟨g2, o2, none⟩) l.length p2) := fun z => z.get c2
      have e3 : ∀ z : Ext wr, z.val.cell? ⟨g1, o1 + k, none⟩ = some (.int .i64 l[k]) := fun z => z.get (hc1 k _ (by simp [hlt]))
      have e4 : ∀ z : Ext wr, z.val.cell? ⟨g2, o2 + k, none⟩ = some (.int .i64 l[k]) := fun z => z.get (hc2 k _ (by simp [hlt]))
      have i1 : (0 : Int) ≤ (k : Int) := by omega
      have i2 : (k : Int) < (l.length : Int) := by omega
      clear hc1 hc2
      go_wp2_with fail
      refine wp_region_ext (by kernel_rfl) (by kernel_rfl) ?_
      repeat (go_big_quiet_step (fail))
      refine wpQuiet_nil ?_
      intro wx
      go_wp2_with fail
      exact ⟨⟨k + 1, by omega, by go_num, Bl.next hbr wx.below⟩, by simp [intOf]; omega⟩
    · go_wp2_with fail
      go_ret
      exact ⟨rfl, Bl.next hB hbr⟩

theorem res_at05 {w : World} {B : Nat} {s : Value} {c : Int} {t : TypeId} (h : Blk w B [s, .int .i64 c] t) (hs : ∃ a n m, s = .slice a n m) {tmps : Array Value} (e : tmps.getD 4 undef = .pointer (some ⟨B, 0, none⟩)) :
    (results Tryz.f121 tmps).run Tryz.prog w = .ok (.agg #[s, .int .i64 c]) w := by
  obtain ⟨a, n, m, rfl⟩ := hs
  have c0 := h.cell (i := 0) rfl
  have c1 := h.cell (i := 1) rfl
  have e' : tmps[4]?.getD undef = .pointer (some ⟨B, 0, none⟩) := by simpa using e
  simp [results, Tryz.results121, go_sem, c0, c1, e']
set_option maxRecDepth 100000 in
set_option maxHeartbeats 2000000 in
theorem ref05_At (b : Int) (l : List Int) (c : Int) (v : Value) (w : World) (hlen : l.length ≤ 1000000) (hv : FltV w v l c) :
    Calls Tryz.prog 121 #[.int .i64 b, v] w (RetS (fun w' r => FltV w' r (if c = 0 then [] else b :: l) c) w) := by
  obtain ⟨s, rfl, k⟩ := hv
  obtain ⟨i0, hi0, hz0, hz1, hz2⟩ := info_parts (P := Tryz.prog) (e := 3) (z := .int .i64 0) (size := 1) (bytes := 8) (by kernel_rfl)
  obtain ⟨a, p, rfl⟩ := k.slice
  have hB : Below w.heap.size w ((w.alloc (.cells #[.slice a l.length p, .int .i64 c] 31)).alloc (.cells #[.slice none 0 0, .int .i64 0] 31)) := Bl.next (Bl.box _ _) (Bl.box _ _)
  have b1 : Blk ((w.alloc (.cells #[.slice a l.length p, .int .i64 c] 31)).alloc (.cells #[.slice none 0 0, .int .i64 0] 31)) w.heap.size [.slice a l.length p, .int .i64 c] 31 := (Blk.new _ _ _).alloc _
  have b2 := Blk.new (w.alloc (.cells #[.slice a l.length p, .int .i64 c] 31)) [.slice none 0 0, .int .i64 0] 31
  simp only [World.size_alloc] at b2
  by_cases hc : c = 0
  · subst hc
    go_enter Tryz.func121, Tryz.ntmps121
    go_wp2_with fail
    exact bodyPost_ret (res_at05 b2 ⟨_, _, _, rfl⟩ rfl) rfl ⟨_, rfl, hB, _, rfl, .inl ⟨_, _, rfl, rfl, rfl⟩⟩
  have hc' : (c == 0) = false := by simpa using hc
  simp only [hc, if_false]
  clear hc
  go_enter Tryz.func121, Tryz.ntmps121
  go_wp2_with fail
  obtain ⟨W, hW⟩ : ∃ W, (w.alloc (.cells #[.slice a l.length p, .int .i64 c] 31)).alloc (.cells #[.slice none 0 0, .int .i64 0] 31) = W := ⟨_, rfl⟩
  have hsz : w.heap.size + 1 + 1 = W.heap.size := by rw [← hW]; simp
  change Blk ((w.alloc (.cells #[.slice a l.length p, .int .i64 c] 31)).alloc (.cells #[.slice none 0 0, .int .i64 0] 31)) _ _ _ at b2
  rw [hW] at hB b1 b2 ⊢
  have k1 := k.below hB
  clear hW k
  have c10 := b1.cell (i := 0) rfl
  have c11 := b1.cell (i := 1) rfl
  have c20 := b2.cell (i := 0) rfl
  have c21 := b2.cell (i := 1) rfl
  have f20 := b2.frozen 0
  have f21 := b2.frozen 1
  have hO : (W.alloc (.cells #[.int .i64 b] 3)).ownsRow W.heap.size 3 1 (.slice (some ⟨W.heap.size, 0, none⟩) 1 1) 1 [.int .i64 b] := World.ownsRow_lit W #[.int .i64 b] 1 (Nat.le_refl _) (by unfold maxLen; omega) rfl
  have kA := k1.below (Bl.box W (.cells #[.int .i64 b] 3))
  have hz : w.heap.size < W.heap.size := by omega
  have hz2' : w.heap.size + 1 < W.heap.size := by omega
  have hone : ∀ u ∈ l.map (Value.int .i64), u.oneCell' = true := by intro u hu; obtain ⟨x, _, rfl⟩ := List.mem_map.1 hu; rfl
  go_region_held3 (fun w' => w'.cell? ⟨w.heap.size, 0, none⟩ = some (.slice a l.length p) ∧ w'.cell? ⟨w.heap.size, 1, none⟩ = some (.int .i64 c))
    (first | go_keep | exact ⟨(hb2.cell (by exact hz)).trans (getA _ c10), (hb2.cell (by exact hz)).trans (getA _ c11)⟩)
    ((refine step_app_sl (by rfl) _ _ _ (by rfl) W.heap.size 3 i0 (.int .i64 0) 1 8 Tryz.underlying22 hi0 hz0 hz1 hz2 rfl (by omega) (.slice (some ⟨W.heap.size, 0, none⟩) 1 1) 1 [.int .i64 b] (by rfl) hO (.slice a l.length p) l.length (l.map (Value.int .i64)) (by rfl) kA (by simp) hone (by unfold maxLen; omega) (by omega) (by simp) ?_; intro v2 w2 hown2 hgrow2 hb2; obtain ⟨a2, p2, rfl⟩ := (own_sl hown2).slice; have q2 : Blk w2 (w.heap.size + 1) [.slice none 0 0, .int .i64 0] 31 := Blk.below' (by exact b2.alloc (.cells #[.int .i64 b] 3)) hb2 hz2'; have d0 := q2.cell (i := 0) rfl; have d1 := q2.cell (i := 1) rfl; have g0 := q2.frozen 0; have g1 := q2.frozen 1))
  rename_i hHeld
  clear hHeld
  have hB2 : Below w.heap.size w w2 := Bl.next hB (Below.trans (Bl.box W (.cells #[.int .i64 b] 3)).drew hb2)
  have hB3 : Below w.heap.size w ((w2.setCell ⟨w.heap.size + 1, 0, none⟩ (.slice a2 (1 + l.length) p2)).setCell ⟨w.heap.size + 1, 1, none⟩ (.int .i64 c)) := (hB2.setCell (by simp) _).setCell (by simp) _
  have h3 := own_sl (ownsRow_setCell_below (ownsRow_setCell_below hown2 (a := ⟨w.heap.size + 1, 0, none⟩) hz2' (.slice a2 (1 + l.length) p2)) (a := ⟨w.heap.size + 1, 1, none⟩) hz2' (.int .i64 c))
  go_wp2_with fail
  refine bodyPost_ret (res_at05 ((q2.set 0 _).set 1 _) ⟨_, _, _, rfl⟩ rfl) rfl ⟨_, rfl, hB3, _, rfl, ?_⟩
  simpa [Ints, Nat.add_comm] using h3
end Go.Proofs.YtbhjgcokpmiopaaGreatDoor
namespace Go.Proofs.YtbhjgcokpmiopaaGreatDoor
open Go.RowKit Go.Extern.Stop Go.Stop Go.Extern
set_option linter.unusedVariables false
attribute [local irreducible] wpList wpAnyH Code.wp Oper.wp Go

def blksL (l : List UInt8) (k : Nat) : List (List UInt8) := (List.range k).map (blkB l)
theorem blksL_len (l : List UInt8) (k : Nat) : (blksL l k).length = k := by simp [blksL]
theorem blksL_snoc (l : List UInt8) (k : Nat) : blksL l (k + 1) = blksL l k ++ [blkB l k] := by simp [blksL, List.range_succ]
theorem blksL_get (l : List UInt8) {k i : Nat} (h : i < k) : (blksL l k).getD i [] = blkB l i := by simp [blksL, List.getD, List.getElem?_range h]
theorem blkB_take {l : List UInt8} {i m : Nat} (h : i < m) : blkB (l.take (m * 256)) i = blkB l i := by
  unfold blkB
  rw [List.drop_take, List.take_take, Nat.min_eq_left (by omega)]
theorem blksL_take {l : List UInt8} {k : Nat} : blksL (l.take (k * 256)) k = blksL l k := List.map_congr_left fun i hi => blkB_take (List.mem_range.1 hi)
theorem blksL_set {l x : List UInt8} {k j : Nat} (hx : x.length = 256) (hl : k * 256 ≤ l.length) (hj : j < k) : (blksL l k).set j x = blksL (putB l (j * 256) x) k := by
  apply List.ext_getElem?
  intro i
  by_cases hi : i < k
  · rw [List.getElem?_set]
    have e1 : ∀ l : List UInt8, (blksL l k)[i]? = some (blkB l i) := fun l => by simp [blksL, List.getElem?_range hi]
    rw [e1, e1]
    by_cases h : j = i
    · subst h; rw [if_pos rfl, blksL_len, if_pos hi, blkB_put hx (by omega)]
    · rw [if_neg h, blkB_put_other hx (by omega) (by omega) (by omega)]
  · rw [List.getElem?_eq_none (by rw [List.length_set, blksL_len]; omega), List.getElem?_eq_none (by rw [blksL_len]; omega)]
theorem take_blk {l : List UInt8} {i : Nat} : l.take (i * 256) ++ blkB l i = l.take ((i + 1) * 256) := by
  unfold blkB
  rw [Nat.add_mul, Nat.one_mul, List.take_add]
/-- an image of the document's at block bm: k blocks, their bytes l -/
structure RefI (B bm : Nat) (p : Option Addr) (k c : Nat) (l : List UInt8) (w : World) : Prop where
  blk : Blk w bm [.slice p k c] 57
  row : w.ownsRow B 9 1 (.slice p k c) k ((blksL l k).map sv)
  hk : k ≤ 14400
  hl : l.length = k * 256
theorem RefI.below {B bm : Nat} {p : Option Addr} {k c : Nat} {l : List UInt8} {w W : World} (h : RefI B bm p k c l w) (hb : Below w.heap.size w W) : RefI B bm p k c l W := ⟨h.blk.below hb, own_below h.row hb, h.hk, h.hl⟩
theorem RefI.only {B bm : Nat} {p : Option Addr} {k c : Nat} {l : List UInt8} {w W : World} {T : List TypeId} (h : RefI B bm p k c l w) (hO : Only T w W) (hT : T.contains 57 = false ∧ T.contains 9 = false) : RefI B bm p k c l W := ⟨h.blk.only hO hT.1, own_only h.row hO hT.2, h.hk, h.hl⟩
theorem RefI.mono {B B' bm : Nat} {p : Option Addr} {k c : Nat} {l : List UInt8} {w : World} (h : RefI B bm p k c l w) (hB : B' ≤ B) : RefI B' bm p k c l w := ⟨h.blk, own_mono h.row hB, h.hk, h.hl⟩
theorem RefI.base {B bm : Nat} {p : Option Addr} {k c : Nat} {l : List UInt8} {w : World} (h : RefI B bm p k c l w) (hn : 0 < k) : ∃ g, p = some ⟨g, 0, none⟩ := by
  rcases h.row.2 with ⟨_, h0⟩ | ⟨g, cap, cur, hv, _, _, hc, _⟩
  · omega
  · simp only [Value.slice.injEq] at hv
    obtain ⟨rfl, _, rfl⟩ := hv
    exact ⟨g, rfl⟩
set_option maxRecDepth 100000 in
set_option maxHeartbeats 1000000 in
theorem ref_Of (a : Option Addr) (c : Nat) (l : List UInt8) (w : World) (h : Bys w (.slice a l.length c) l) (hl : l.length ≤ 100000000) :
    Calls Tryz.prog 6 #[.slice a l.length c] w (RetS (fun w' r => ∃ bm p c2, r = .pointer (some ⟨bm, 0, none⟩) ∧ w.heap.size ≤ bm ∧ RefI w.heap.size bm p (min (l.length / 256) 14400) c2 (l.take (min (l.length / 256) 14400 * 256)) w') w) := by
 refine zin 32 Tryz.func6 ?_
 refine xa 8 [.slice none 0 0] 57 fun b1 W1 n1 => ?_
 refine zl 5 32 (fun zm zkv V => ∃ (k : Nat) (p : Option Addr) (cp : Nat) (a2 : Option Addr) (c2 : Nat) (l2 : List UInt8), zkv = [(0, .slice a2 l2.length c2), (2, .pointer none), (3, .pointer (some ⟨b1, 0, none⟩))] ∧ zm = l2.length ∧ Below w.heap.size w V ∧ Blk V b1 ([.slice p k cp]) 57 ∧ V.ownsRow w.heap.size 9 1 (.slice p k cp) k ((blksL l k).map sv) ∧ Bys w (.slice a2 l2.length c2) l2 ∧ l2 = l.drop (k * 256) ∧ k * 256 ≤ l.length ∧ k ≤ 14400) ⟨0, none, 0, a, c, l, rfl, rfl, n1.below, n1.blk, World.ownsRow_nil _ _ _ _, h, by simp, by omega, by decide⟩ ?_
 rintro _ _ W2 ⟨k, p, cp, a2, c2, l2, rfl, rfl, hB_2, k2_b1, ho, hen, hl2, hk1, hk2⟩ J2 hJ2 r2
 have hcap := hen.cap rfl
 have hl2n : l2.length = l.length - k * 256 := by rw [hl2]; simp
 refine xg 7 [8, 9] (decide ((↑l2.length : Int) ≥ (256 : Int))) (fun hc3 => ?_) (fun hc3 => ?_)
 · have hc3 := of_decide_eq_true hc3
   refine xb 3 0 k2_b1 ?_
   refine xid 5 ((↑k : Int) < (14400 : Int)) (fun hc4 => ?_) (fun hc4 => ?_)
   · refine xd 4 (.t w.heap.size [9, 57]) ?_
     refine xsH (.e [0, 1, 2, 3, 5] 6) (fun _ _ _ _ zo zx zy V => run_sliceH (k := 256) (b := a2) (n := l2.length) (c := c2) (i := 256) (ki := .i64) zo zx zy rfl (by omega) Tryz.underlying28 (by kernel_rfl) V) ?_
     have hB'1 := Bl.next hB_2 (below_drew W2)
     refine xcvt (.e [] 7) (.t w.heap.size [9, 57]) (fun _ _ _ zo zx V hV => run_bstr zo zx ((Bys.take hen rfl 256 (by omega)).below (sft_keep hB'1 hV (Nat.le_refl _))) (by simp; omega) Tryz.underlying28 Tryz.underlying5 Tryz.underlying9) ?_
     refine xm2 0 4 8 ?_ ?_
     · have k2_b1'1 := k2_b1.below (below_drew W2)
       refine xb 0 0 k2_b1'1 ?_
       refine xbs (.o [] 8) 1 [.string ⟨(l2.take 256).toArray⟩] 9 fun b5 W5 n5 => ?_
       have g5 := n5.ge hB'1
       have ho'1 := own_below ho (below_drew W2)
       have r5_ho := own_ne ho'1 n5
       have ho'2 := own_below ho'1 n5.below
       have hB'2 := Bl.next hB'1 n5.below
       refine ybi (.o [] 9) (.t w.heap.size [9, 57]) fun _ _ _ _ zJ zQ zo zx zy zK => op_app (m := 1) (news := [.string ⟨(l2.take 256).toArray⟩]) (.string ⟨#[]⟩) 1 16 (k + 1) ((blksL l (k + 1)).map sv) zo Tryz.underlying55 (by kernel_rfl) rfl (by decide) zx ho'2 zy (n5.blk.sl 1 1 (by decide) (by decide)) rfl (by simp [Value.oneCell']) (by unfold maxLen; omega) (by omega) hB'2.size (by rfl) (by rw [blksL_snoc, List.map_append, show blkB l k = l2.take 256 from by rw [hl2]; rfl]; rfl) fun px6 cx6 W6 o6 hg6 hb6 => ?_
       refine zK _ _ (sft_grown hb6 hg6 ho'2 (by decide)) ?_
       have k2_b1'2 := (k2_b1'1.below n5.below).grown hg6 ho'2 (by decide)
       have g1 := n1.ge (Below.refl w.heap.size _)
       refine ys (.o [10, 11] 12) k2_b1'2 [.slice px6 (k + 1) cx6] (.t w.heap.size [9, 57]) fun W7 u7 k7 => ⟨(sft_upd u7 k2_b1'2 g1 (by decide)), ?_⟩
       refine xsL 4 (fun _ _ _ _ zo zx zy V => run_sliceLA (k := 256) (b := a2) (n := l2.length) (c := c2) (i := 256) (ki := .i64) 1 zo zx zy rfl (by omega) Tryz.underlying28 (by kernel_rfl) V) ?_
       refine xv1 3 0 (show (.slice (cutA a2 256 c2 1) (l2.length - 256) (c2 - 256) : Value) = .slice (cutA a2 256 c2 1) ((l2.drop 256).length) (c2 - 256) from by rw [List.length_drop]) ?_
       have hB'3 := u7.below (hB'2.trans hb6) g1
       have o6'1 := u7.own2 o6 k2_b1'2 (by decide)
       refine ze 0 (hJ2 _ _ _ ⟨k + 1, _, _, _, _, (l2.drop 256), rfl, rfl, hB'3, k7, o6'1, (by have := Bys.cut hen rfl 256 l2.length (by omega) (Nat.le_refl _); rw [List.take_of_length_le (by simp)] at this; rwa [show (l2.drop 256).length = l2.length - 256 by simp]), by rw [hl2, List.drop_drop, Nat.add_mul, Nat.one_mul], by omega, by omega⟩ ?_)
       show ((l2.drop 256).length) < l2.length
       rw [List.length_drop]; omega
     refine xbs 0 1 [.string ⟨(l2.take 256).toArray⟩] 9 fun b8 W8 n8 => ?_
     have g8 := n8.ge hB'1
     have ho'3 := own_below ho (below_drew W2)
     have r8_ho := own_ne ho'3 n8
     have k2_b1'3 := (k2_b1.below (below_drew W2)).below n8.below
     refine xb (.o [] 4) 0 k2_b1'3 ?_
     have ho'4 := own_below ho'3 n8.below
     have hB'4 := Bl.next hB'1 n8.below
     refine ybi (.o [] 9) (.t w.heap.size [9, 57]) fun _ _ _ _ zJ zQ zo zx zy zK => op_app (m := 1) (news := [.string ⟨(l2.take 256).toArray⟩]) (.string ⟨#[]⟩) 1 16 (k + 1) ((blksL l (k + 1)).map sv) zo Tryz.underlying55 (by kernel_rfl) rfl (by decide) zx ho'4 zy (n8.blk.sl 1 1 (by decide) (by decide)) rfl (by simp [Value.oneCell']) (by unfold maxLen; omega) (by omega) hB'4.size (by rfl) (by rw [blksL_snoc, List.map_append, show blkB l k = l2.take 256 from by rw [hl2]; rfl]; rfl) fun px9 cx9 W9 o9 hg9 hb9 => ?_
     refine zK _ _ (sft_grown hb9 hg9 ho'4 (by decide)) ?_
     have k2_b1'4 := k2_b1'3.grown hg9 ho'4 (by decide)
     have g1 := n1.ge (Below.refl w.heap.size _)
     refine ys (.o [10, 11] 12) k2_b1'4 [.slice px9 (k + 1) cx9] (.t w.heap.size [9, 57]) fun W10 u10 k10 => ⟨(sft_upd u10 k2_b1'4 g1 (by decide)), ?_⟩
     refine xsL 4 (fun _ _ _ _ zo zx zy V => run_sliceLA (k := 256) (b := a2) (n := l2.length) (c := c2) (i := 256) (ki := .i64) 1 zo zx zy rfl (by omega) Tryz.underlying28 (by kernel_rfl) V) ?_
     refine xv1 3 0 (show (.slice (cutA a2 256 c2 1) (l2.length - 256) (c2 - 256) : Value) = .slice (cutA a2 256 c2 1) ((l2.drop 256).length) (c2 - 256) from by rw [List.length_drop]) ?_
     have hB'5 := u10.below (hB'4.trans hb9) g1
     have o9'1 := u10.own2 o9 k2_b1'4 (by decide)
     refine ze 0 (hJ2 _ _ _ ⟨k + 1, _, _, _, _, (l2.drop 256), rfl, rfl, hB'5, k10, o9'1, (by have := Bys.cut hen rfl 256 l2.length (by omega) (Nat.le_refl _); rw [List.take_of_length_le (by simp)] at this; rwa [show (l2.drop 256).length = l2.length - 256 by simp]), by rw [hl2, List.drop_drop, Nat.add_mul, Nat.one_mul], by omega, by omega⟩ ?_)
     show ((l2.drop 256).length) < l2.length
     rw [List.length_drop]; omega
   have g1 := n1.ge (Below.refl w.heap.size _)
   refine xe 12 (.pointer (some ⟨b1, 0, none⟩)) ?_
   obtain rfl : k = min (l.length / 256) 14400 := by omega
   exact ⟨_, rfl, hB_2, _, _, _, rfl, g1, k2_b1, by rw [blksL_take]; exact ho, by omega, by simp; omega⟩
 have hc3 := of_decide_eq_false hc3
 have g1 := n1.ge (Below.refl w.heap.size _)
 refine xe 22 (.pointer (some ⟨b1, 0, none⟩)) ?_
 obtain rfl : k = min (l.length / 256) 14400 := by omega
 exact ⟨_, rfl, hB_2, _, _, _, rfl, g1, k2_b1, by rw [blksL_take]; exact ho, by omega, by simp; omega⟩
set_option maxRecDepth 100000 in
set_option maxHeartbeats 1000000 in
theorem ref_ImgBytes (B bm : Nat) (p : Option Addr) (k c : Nat) (l : List UInt8) (w : World) (hI : RefI B bm p k c l w) :
    Calls Tryz.prog 17 #[.pointer (some ⟨bm, 0, none⟩)] w (RetS (fun w' r => ∃ p2 c2, r = .slice p2 (k * 256) c2 ∧ w'.ownsRow w.heap.size 5 1 (.slice p2 (k * 256) c2) (k * 256) (l.map bv)) w) := by
 have hk := hI.blk
 have hkl := hI.hk
 have hll := hI.hl
 have hr := own_sl hI.row
 refine zin 24 Tryz.func17 ?_
 refine xv1 17 3 (show (.slice none 0 0 : Value) = .slice none (0 * 256) 0 from by rw [Nat.zero_mul]) ?_
 have hB := Below.refl w.heap.size w
 refine zl 0 24 (fun zm zkv V => ∃ (i : Nat) (pb : Option Addr) (cb : Nat), zkv = [(0, .pointer (some ⟨bm, 0, none⟩)), (2, .slice none 0 0), (3, .slice pb (i * 256) cb), (4, .int .i64 (↑i : Int))] ∧ zm = k - ((↑i : Int)).toNat ∧ Below w.heap.size w V ∧ Blk V bm ([.slice p k c]) 57 ∧ V.ownsRow w.heap.size 5 1 (.slice pb (i * 256) cb) (i * 256) ((l.take (i * 256)).map bv) ∧ i ≤ k) ⟨0, _, _, rfl, rfl, hB, hk, by rw [Nat.zero_mul]; exact World.ownsRow_nil _ _ _ _, Nat.zero_le _⟩ ?_
 rintro _ _ W1 ⟨i, pb, cb, rfl, rfl, hB_1, k1_bm, hb_, hi⟩ J1 hJ1 r1
 refine xb 7 0 k1_bm ?_
 refine xid 4 ((↑i : Int) < (↑k : Int)) (fun hc2 => ?_) (fun hc2 => ?_)
 · refine xb 9 0 k1_bm ?_
   refine xx 1 _ k i 1 (Strs.elem hr (blksL_len l k) (k := i) (by omega)).1 ?_
   refine xl 0 ((Strs.elem (hr.below hB_1) (blksL_len l k) (k := i) (by omega)).2) ?_
   have hge3 : (blksL l k).getD i [] = blkB l i := blksL_get l (by omega)
   have hgl3 : ((blksL l k).getD i []).length = 256 := by rw [hge3]; exact blkB_len (by omega)
   refine xbi 0 (t2 := 9) fun _ _ _ _ zJ zQ zo zx zy zK => op_appS ((blksL l k).getD i []) ((i + 1) * 256) ((l.take ((i + 1) * 256)).map bv) zo Tryz.underlying28 Tryz.underlying9 (by kernel_rfl) zx hb_ zy (by omega) hB_1.size (by omega) (by rw [hge3, ← List.map_append, take_blk]) ?_
   intro p3 c3 W3 o3 hg3 hb3
   refine zK _ _ ?_
   refine xwm 6 ((↑i : Int) + 1) (↑(i + 1) : Int) ?_
   have hB'1 := hB_1.trans hb3
   have k1_bm'1 := k1_bm.grown hg3 hb_ (by decide)
   exact ze 2 (hJ1 _ _ _ ⟨i + 1, _, _, rfl, rfl, hB'1, k1_bm'1, o3, by omega⟩ (by omega))
 refine xe 12 (.slice pb (i * 256) cb) ?_
 obtain rfl : i = k := by omega
 rw [List.take_of_length_le (by omega)] at hb_
 exact ⟨_, rfl, hB_1, _, _, rfl, hb_⟩
set_option maxRecDepth 100000 in
set_option maxHeartbeats 1000000 in
theorem ref_ImgWrite_out (B bm : Nat) (p : Option Addr) (k c : Nat) (l : List UInt8) (w : World) (hI : RefI B bm p k c l w) (no : Int) (x : Value) (ho : ¬ (0 ≤ no ∧ no < (k : Int))) :
    Calls Tryz.prog 107 #[.pointer (some ⟨bm, 0, none⟩), .int .i64 no, x] w (Ret (.int .i64 3) w) := by
 have hk := hI.blk
 have hkl := hI.hk
 have hll := hI.hl
 refine zin 29 Tryz.func107 ?_
 refine xg 11 [8, 9] (decide (no < (0 : Int))) (fun hc1 => ?_) (fun hc1 => ?_)
 · have hc1 := of_decide_eq_true hc1
   exact xe 18 (.int .i64 3) ⟨rfl, (Below.refl w.heap.size _)⟩
 have hc1 := of_decide_eq_false hc1
 refine xb 4 0 hk ?_
 refine xk 5 (show (decide (no ≥ (↑k : Int)) : Bool) = true from decide_eq_true (by omega)) ?_
 exact xe 7 (.int .i64 3) ⟨rfl, (Below.refl w.heap.size _)⟩
set_option maxRecDepth 100000 in
set_option maxHeartbeats 1000000 in
theorem ref_ImgWrite_raw (B bm g Bx : Nat) (k c j : Nat) (cur : List Value) (a : Option Addr) (cx : Nat) (lx : List UInt8) (w : World) (hk : Blk w bm [.slice (some ⟨g, 0, none⟩) k c] 57) (kg : Blk w g cur 9) (hne : bm ≠ g) (hcl : k ≤ cur.length) (hj : j < k) (hx : w.ownsRow Bx 5 1 (.slice a 256 cx) 256 (lx.map bv)) (hlx : lx.length = 256) (hBw : B ≤ w.heap.size) (hBg : B ≤ g) :
    Calls Tryz.prog 107 #[.pointer (some ⟨bm, 0, none⟩), .int .i64 (↑j : Int), .slice a 256 cx] w ((fun e w' => e = .returned (.int .i64 0) ∧ Below B w w' ∧ Only [9] w w' ∧ Blk w' g (cur.set j (sv lx)) 9)) := by
 refine zin 29 Tryz.func107 ?_
 refine xgk 11 [8, 9] (show (decide ((↑j : Int) < (0 : Int)) : Bool) = false from decide_eq_false (by omega)) ?_
 refine xb 4 0 hk ?_
 refine xk 5 (show (decide ((↑j : Int) ≥ (↑k : Int)) : Bool) = false from decide_eq_false (by omega)) ?_
 refine xd 14 (.t B [9]) ?_
 have hk'1 := hk.below (below_drew w)
 refine xbt (.e [0, 1, 2] 3) 0 B [9] hk'1 ?_
 have hx'1 := own_below hx (below_drew w)
 refine xcvt (.e [4, 5] 6) (.t B [9]) (fun _ _ _ zo zx V hV => run_bstr zo zx (bys_of (own_sl (own_only hx'1 hV.2 (by decide))) hlx) hlx Tryz.underlying28 Tryz.underlying5 Tryz.underlying9) ?_
 refine xxb (.e [] 7) g 0 k j 1 ?_
 have kg'1 := kg.below (below_drew w)
 refine ysg (.o [] 8) kg'1 (0 + j * 1) (.string ⟨lx.toArray⟩) (by omega) (.t B [9]) fun W2 u2 k2 => ⟨(sft_upd u2 kg'1 hBg (by decide)), ?_⟩
 replace k2 : Blk W2 g (cur.set j (sv lx)) 9 := by rw [← (show cur.set (0 + j * 1) (.string ⟨lx.toArray⟩) = cur.set j (sv lx) from by rw [Nat.zero_add, Nat.mul_one]; rfl)]; exact k2
 have hB := u2.below (Bl.nextB (Below.refl B w) hBw (below_drew w)) hBg
 have hO := (show Only [9] w _ from (Only.of_below (below_drew w))).trans (Only.of_upd u2 kg'1 (by decide))
 exact xe 8 (.int .i64 0) ⟨rfl, hB, hO, k2⟩
def WroteI (B bm : Nat) (p : Option Addr) (k c : Nat) (l : List UInt8) (v : Value) (w : World) (e : Ending) (w' : World) : Prop :=
  e = .returned v ∧ Below B w w' ∧ Only [9] w w' ∧ RefI B bm p k c l w'
theorem ref_ImgWrite (B bm Bx : Nat) (p : Option Addr) (k c : Nat) (l : List UInt8) (j : Nat) (a : Option Addr) (cx : Nat) (lx : List UInt8) (w : World) (hI : RefI B bm p k c l w) (hj : j < k) (hx : w.ownsRow Bx 5 1 (.slice a 256 cx) 256 (lx.map bv)) (hlx : lx.length = 256) (hBw : B ≤ w.heap.size) :
    Calls Tryz.prog 107 #[.pointer (some ⟨bm, 0, none⟩), .int .i64 (j : Int), .slice a 256 cx] w (WroteI B bm p k c (putB l (j * 256) lx) (.int .i64 0) w) := by
  obtain ⟨g, rfl⟩ := hI.base (by omega)
  have hrow := hI.row
  have hge := own_ge hrow
  have hne := own_blk_ne hI.blk hrow (by decide)
  have hkl := hI.hk
  have hll := hI.hl
  obtain ⟨hl1, h2⟩ := hrow
  rcases h2 with ⟨h2, _⟩ | ⟨g', cap, cur, hv, hg, hh, hc, hm, hsz, htk⟩
  · cases h2
  · simp only [Value.slice.injEq, Option.some.injEq, Addr.mk.injEq] at hv
    obtain ⟨⟨rfl, _⟩, _, rfl⟩ := hv
    have hb : Blk w g cur.toList 9 := by unfold Blk; simpa using hh
    refine (ref_ImgWrite_raw B bm g Bx k c j cur.toList a cx lx w hI.blk hb hne (by simp; omega) hj hx hlx hBw hge).mono ?_
    rintro e W ⟨rfl, hB, hO, k2⟩
    refine ⟨rfl, hB, hO, hI.blk.only hO (by decide), ⟨by rw [List.length_map, blksL_len, Nat.mul_one], .inr ⟨g, c, (cur.toList.set j (sv lx)).toArray, rfl, hg, k2, hc, hm, by simpa using hsz, ?_⟩⟩, hkl, by rw [putB_len (by omega), hll]⟩
    rw [← blksL_set hlx (by omega) hj, List.map_set, ← htk]
    simp [List.take_set]
/-- the document's fault of a number at a block -/
def fltL (no er : Int) : List Int := if er = 0 then [] else [no]
theorem fltL_nz {no er : Int} (h : er ≠ 0) : fltL no er = [no] := if_neg h
set_option maxRecDepth 100000 in
set_option maxHeartbeats 1000000 in
theorem ref05_At_z (no : Int) (w : World) :
    Calls Tryz.prog 121 #[.int .i64 no, .agg #[.slice none 0 0, .int .i64 0]] w (Ret (.agg #[.slice none 0 0, .int .i64 0]) w) := by
 refine zin 17 Tryz.func121 ?_
 refine xa 2 [.slice none 0 0, .int .i64 0] 31 fun b1 W1 n1 => ?_
 refine xa 0 [.slice none 0 0, .int .i64 0] 31 fun b2 W2 n2 => ?_
 have d2_b1 := n2.ne n1.blk
 have k1'1 := n1.blk.below n2.below
 refine xb 6 1 k1'1 ?_
 refine xsv 7 n2.blk [.slice none 0 0, .int .i64 0] fun W3 u3 k3 => ?_
 have g2 := n2.ge n1.below
 have hB := u3.below (Bl.next n1.below n2.below) g2
 exact xec 4 k3 (.agg #[.slice none 0 0, .int .i64 0]) ⟨rfl, hB⟩
set_option maxRecDepth 100000 in
set_option maxHeartbeats 1000000 in
theorem ref05_At_n (no er : Int) (w : World) (he : er ≠ 0) :
    Calls Tryz.prog 121 #[.int .i64 no, .agg #[.slice none 0 0, .int .i64 er]] w (RetS (fun w' r => ∃ a c, r = .agg #[.slice a 1 c, .int .i64 er] ∧ w'.ownsRow w.heap.size 3 1 (.slice a 1 c) 1 [.int .i64 no]) w) := by
 refine zin 17 Tryz.func121 ?_
 refine xa 2 [.slice none 0 0, .int .i64 er] 31 fun b1 W1 n1 => ?_
 refine xa 0 [.slice none 0 0, .int .i64 0] 31 fun b2 W2 n2 => ?_
 have d2_b1 := n2.ne n1.blk
 have k1'1 := n1.blk.below n2.below
 refine xb 6 1 k1'1 ?_
 refine xk 3 (show ((er == (0 : Int)) : Bool) = false from beq_false_of_ne he) ?_
 refine xd 3 (.t w.heap.size [3, 31]) ?_
 refine xm3 (.b [0, 2, 5]) 1 3 6 ?_ ?_ ?_
 · refine xbs 0 1 [.int .i64 no] 3 fun b3 W3 n3 => ?_
   refine xm2 0 3 6 ?_ ?_
   · have k1'2 := (k1'1.below (below_drew W2)).below n3.below
     refine xb 0 0 k1'2 ?_
     refine xm2 0 4 6 ?_ ?_
     · have g3 := n3.ge (Bl.next (Bl.next n1.below n2.below) (below_drew W2))
       have o4 := own_of_blk (size := 1) (n := 1) n3.blk g3 rfl (by decide)
       have hB := Bl.next (Bl.next (Bl.next n1.below n2.below) (below_drew W2)) n3.below
       refine ybi 0 (.t w.heap.size [3, 31]) fun _ _ _ _ zJ zQ zo zx zy zK => op_app (m := 0) (news := []) (.int .i64 0) 1 8 (1) ([.int .i64 no]) zo Tryz.underlying22 (by kernel_rfl) rfl (by decide) zx o4 zy (.inl ⟨none, 0, rfl, rfl, rfl⟩) rfl (by simp) (by unfold maxLen; omega) (by omega) hB.size (by rfl) (by rfl) fun px5 cx5 W5 o5 hg5 hb5 => ?_
       refine zK _ _ (sft_grown hb5 hg5 o4 (by decide)) ?_
       have k1'3 := k1'2.grown hg5 o4 (by decide)
       refine xb (.o [] 6) 1 k1'3 ?_
       have k2 := ((n2.blk.below (below_drew W2)).below n3.below).grown hg5 o4 (by decide)
       have g2 := n2.ge n1.below
       refine ysv (.o [7] 8) k2 [.slice px5 1 cx5, .int .i64 er] (.t w.heap.size [3, 31]) fun W6 u6 k6 => ⟨(sft_upd u6 k2 g2 (by decide)), ?_⟩
       have hB'1 := u6.below (hB.trans hb5) g2
       have o5'1 := u6.own2 o5 k2 (by decide)
       exact xec 3 k6 (.agg #[.slice px5 1 cx5, .int .i64 er]) ⟨_, rfl, hB'1, _, _, rfl, o5'1⟩
     refine xb 0 1 k1'2 ?_
     have g3 := n3.ge (Bl.next (Bl.next n1.below n2.below) (below_drew W2))
     have o7 := own_of_blk (size := 1) (n := 1) n3.blk g3 rfl (by decide)
     have hB := Bl.next (Bl.next (Bl.next n1.below n2.below) (below_drew W2)) n3.below
     refine ybi (.o [] 4) (.t w.heap.size [3, 31]) fun _ _ _ _ zJ zQ zo zx zy zK => op_app (m := 0) (news := []) (.int .i64 0) 1 8 (1) ([.int .i64 no]) zo Tryz.underlying22 (by kernel_rfl) rfl (by decide) zx o7 zy (.inl ⟨none, 0, rfl, rfl, rfl⟩) rfl (by simp) (by unfold maxLen; omega) (by omega) hB.size (by rfl) (by rfl) fun px8 cx8 W8 o8 hg8 hb8 => ?_
     refine zK _ _ (sft_grown hb8 hg8 o7 (by decide)) ?_
     have k2 := ((n2.blk.below (below_drew W2)).below n3.below).grown hg8 o7 (by decide)
     have g2 := n2.ge n1.below
     refine ysv (.o [7] 8) k2 [.slice px8 1 cx8, .int .i64 er] (.t w.heap.size [3, 31]) fun W9 u9 k9 => ⟨(sft_upd u9 k2 g2 (by decide)), ?_⟩
     have hB'2 := u9.below (hB.trans hb8) g2
     have o8'1 := u9.own2 o8 k2 (by decide)
     exact xec 3 k9 (.agg #[.slice px8 1 cx8, .int .i64 er]) ⟨_, rfl, hB'2, _, _, rfl, o8'1⟩
   have k1'4 := (k1'1.below (below_drew W2)).below n3.below
   refine xb 0 1 k1'4 ?_
   refine xb (.o [] 3) 0 k1'4 ?_
   have g3 := n3.ge (Bl.next (Bl.next n1.below n2.below) (below_drew W2))
   have o10 := own_of_blk (size := 1) (n := 1) n3.blk g3 rfl (by decide)
   have hB := Bl.next (Bl.next (Bl.next n1.below n2.below) (below_drew W2)) n3.below
   refine ybi (.o [] 4) (.t w.heap.size [3, 31]) fun _ _ _ _ zJ zQ zo zx zy zK => op_app (m := 0) (news := []) (.int .i64 0) 1 8 (1) ([.int .i64 no]) zo Tryz.underlying22 (by kernel_rfl) rfl (by decide) zx o10 zy (.inl ⟨none, 0, rfl, rfl, rfl⟩) rfl (by simp) (by unfold maxLen; omega) (by omega) hB.size (by rfl) (by rfl) fun px11 cx11 W11 o11 hg11 hb11 => ?_
   refine zK _ _ (sft_grown hb11 hg11 o10 (by decide)) ?_
   have k2 := ((n2.blk.below (below_drew W2)).below n3.below).grown hg11 o10 (by decide)
   have g2 := n2.ge n1.below
   refine ysv (.o [7] 8) k2 [.slice px11 1 cx11, .int .i64 er] (.t w.heap.size [3, 31]) fun W12 u12 k12 => ⟨(sft_upd u12 k2 g2 (by decide)), ?_⟩
   have hB'3 := u12.below (hB.trans hb11) g2
   have o11'1 := u12.own2 o11 k2 (by decide)
   exact xec 3 k12 (.agg #[.slice px11 1 cx11, .int .i64 er]) ⟨_, rfl, hB'3, _, _, rfl, o11'1⟩
 · have k1'5 := k1'1.below (below_drew W2)
   refine xb 0 0 k1'5 ?_
   refine xm2 0 1 6 ?_ ?_
   · refine xbs 0 1 [.int .i64 no] 3 fun b13 W13 n13 => ?_
     refine xm2 0 4 6 ?_ ?_
     · have g13 := n13.ge (Bl.next (Bl.next n1.below n2.below) (below_drew W2))
       have o14 := own_of_blk (size := 1) (n := 1) n13.blk g13 rfl (by decide)
       have hB := Bl.next (Bl.next (Bl.next n1.below n2.below) (below_drew W2)) n13.below
       refine ybi 0 (.t w.heap.size [3, 31]) fun _ _ _ _ zJ zQ zo zx zy zK => op_app (m := 0) (news := []) (.int .i64 0) 1 8 (1) ([.int .i64 no]) zo Tryz.underlying22 (by kernel_rfl) rfl (by decide) zx o14 zy (.inl ⟨none, 0, rfl, rfl, rfl⟩) rfl (by simp) (by unfold maxLen; omega) (by omega) hB.size (by rfl) (by rfl) fun px15 cx15 W15 o15 hg15 hb15 => ?_
       refine zK _ _ (sft_grown hb15 hg15 o14 (by decide)) ?_
       have k1'6 := (k1'5.below n13.below).grown hg15 o14 (by decide)
       refine xb (.o [] 6) 1 k1'6 ?_
       have k2 := ((n2.blk.below (below_drew W2)).below n13.below).grown hg15 o14 (by decide)
       have g2 := n2.ge n1.below
       refine ysv (.o [7] 8) k2 [.slice px15 1 cx15, .int .i64 er] (.t w.heap.size [3, 31]) fun W16 u16 k16 => ⟨(sft_upd u16 k2 g2 (by decide)), ?_⟩
       have hB'4 := u16.below (hB.trans hb15) g2
       have o15'1 := u16.own2 o15 k2 (by decide)
       exact xec 3 k16 (.agg #[.slice px15 1 cx15, .int .i64 er]) ⟨_, rfl, hB'4, _, _, rfl, o15'1⟩
     have k1'7 := k1'5.below n13.below
     refine xb 0 1 k1'7 ?_
     have g13 := n13.ge (Bl.next (Bl.next n1.below n2.below) (below_drew W2))
     have o17 := own_of_blk (size := 1) (n := 1) n13.blk g13 rfl (by decide)
     have hB := Bl.next (Bl.next (Bl.next n1.below n2.below) (below_drew W2)) n13.below
     refine ybi (.o [] 4) (.t w.heap.size [3, 31]) fun _ _ _ _ zJ zQ zo zx zy zK => op_app (m := 0) (news := []) (.int .i64 0) 1 8 (1) ([.int .i64 no]) zo Tryz.underlying22 (by kernel_rfl) rfl (by decide) zx o17 zy (.inl ⟨none, 0, rfl, rfl, rfl⟩) rfl (by simp) (by unfold maxLen; omega) (by omega) hB.size (by rfl) (by rfl) fun px18 cx18 W18 o18 hg18 hb18 => ?_
     refine zK _ _ (sft_grown hb18 hg18 o17 (by decide)) ?_
     have k2 := ((n2.blk.below (below_drew W2)).below n13.below).grown hg18 o17 (by decide)
     have g2 := n2.ge n1.below
     refine ysv (.o [7] 8) k2 [.slice px18 1 cx18, .int .i64 er] (.t w.heap.size [3, 31]) fun W19 u19 k19 => ⟨(sft_upd u19 k2 g2 (by decide)), ?_⟩
     have hB'5 := u19.below (hB.trans hb18) g2
     have o18'1 := u19.own2 o18 k2 (by decide)
     exact xec 3 k19 (.agg #[.slice px18 1 cx18, .int .i64 er]) ⟨_, rfl, hB'5, _, _, rfl, o18'1⟩
   refine xb 0 1 k1'5 ?_
   refine xbs (.o [] 1) 1 [.int .i64 no] 3 fun b20 W20 n20 => ?_
   have g20 := n20.ge (Bl.next (Bl.next n1.below n2.below) (below_drew W2))
   have o21 := own_of_blk (size := 1) (n := 1) n20.blk g20 rfl (by decide)
   have hB := Bl.next (Bl.next (Bl.next n1.below n2.below) (below_drew W2)) n20.below
   refine ybi (.o [] 4) (.t w.heap.size [3, 31]) fun _ _ _ _ zJ zQ zo zx zy zK => op_app (m := 0) (news := []) (.int .i64 0) 1 8 (1) ([.int .i64 no]) zo Tryz.underlying22 (by kernel_rfl) rfl (by decide) zx o21 zy (.inl ⟨none, 0, rfl, rfl, rfl⟩) rfl (by simp) (by unfold maxLen; omega) (by omega) hB.size (by rfl) (by rfl) fun px22 cx22 W22 o22 hg22 hb22 => ?_
   refine zK _ _ (sft_grown hb22 hg22 o21 (by decide)) ?_
   have k2 := ((n2.blk.below (below_drew W2)).below n20.below).grown hg22 o21 (by decide)
   have g2 := n2.ge n1.below
   refine ysv (.o [7] 8) k2 [.slice px22 1 cx22, .int .i64 er] (.t w.heap.size [3, 31]) fun W23 u23 k23 => ⟨(sft_upd u23 k2 g2 (by decide)), ?_⟩
   have hB'6 := u23.below (hB.trans hb22) g2
   have o22'1 := u23.own2 o22 k2 (by decide)
   exact xec 3 k23 (.agg #[.slice px22 1 cx22, .int .i64 er]) ⟨_, rfl, hB'6, _, _, rfl, o22'1⟩
 have k1'8 := k1'1.below (below_drew W2)
 refine xb 0 1 k1'8 ?_
 refine xm2 0 1 3 ?_ ?_
 · refine xbs 0 1 [.int .i64 no] 3 fun b24 W24 n24 => ?_
   have k1'9 := k1'8.below n24.below
   refine xb (.o [] 3) 0 k1'9 ?_
   have g24 := n24.ge (Bl.next (Bl.next n1.below n2.below) (below_drew W2))
   have o25 := own_of_blk (size := 1) (n := 1) n24.blk g24 rfl (by decide)
   have hB := Bl.next (Bl.next (Bl.next n1.below n2.below) (below_drew W2)) n24.below
   refine ybi (.o [] 4) (.t w.heap.size [3, 31]) fun _ _ _ _ zJ zQ zo zx zy zK => op_app (m := 0) (news := []) (.int .i64 0) 1 8 (1) ([.int .i64 no]) zo Tryz.underlying22 (by kernel_rfl) rfl (by decide) zx o25 zy (.inl ⟨none, 0, rfl, rfl, rfl⟩) rfl (by simp) (by unfold maxLen; omega) (by omega) hB.size (by rfl) (by rfl) fun px26 cx26 W26 o26 hg26 hb26 => ?_
   refine zK _ _ (sft_grown hb26 hg26 o25 (by decide)) ?_
   have k2 := ((n2.blk.below (below_drew W2)).below n24.below).grown hg26 o25 (by decide)
   have g2 := n2.ge n1.below
   refine ysv (.o [7] 8) k2 [.slice px26 1 cx26, .int .i64 er] (.t w.heap.size [3, 31]) fun W27 u27 k27 => ⟨(sft_upd u27 k2 g2 (by decide)), ?_⟩
   have hB'7 := u27.below (hB.trans hb26) g2
   have o26'1 := u27.own2 o26 k2 (by decide)
   exact xec 3 k27 (.agg #[.slice px26 1 cx26, .int .i64 er]) ⟨_, rfl, hB'7, _, _, rfl, o26'1⟩
 refine xb 0 0 k1'8 ?_
 refine xbs (.o [] 1) 1 [.int .i64 no] 3 fun b28 W28 n28 => ?_
 have g28 := n28.ge (Bl.next (Bl.next n1.below n2.below) (below_drew W2))
 have o29 := own_of_blk (size := 1) (n := 1) n28.blk g28 rfl (by decide)
 have hB := Bl.next (Bl.next (Bl.next n1.below n2.below) (below_drew W2)) n28.below
 refine ybi (.o [] 4) (.t w.heap.size [3, 31]) fun _ _ _ _ zJ zQ zo zx zy zK => op_app (m := 0) (news := []) (.int .i64 0) 1 8 (1) ([.int .i64 no]) zo Tryz.underlying22 (by kernel_rfl) rfl (by decide) zx o29 zy (.inl ⟨none, 0, rfl, rfl, rfl⟩) rfl (by simp) (by unfold maxLen; omega) (by omega) hB.size (by rfl) (by rfl) fun px30 cx30 W30 o30 hg30 hb30 => ?_
 refine zK _ _ (sft_grown hb30 hg30 o29 (by decide)) ?_
 have k2 := ((n2.blk.below (below_drew W2)).below n28.below).grown hg30 o29 (by decide)
 have g2 := n2.ge n1.below
 refine ysv (.o [7] 8) k2 [.slice px30 1 cx30, .int .i64 er] (.t w.heap.size [3, 31]) fun W31 u31 k31 => ⟨(sft_upd u31 k2 g2 (by decide)), ?_⟩
 have hB'8 := u31.below (hB.trans hb30) g2
 have o30'1 := u31.own2 o30 k2 (by decide)
 exact xec 3 k31 (.agg #[.slice px30 1 cx30, .int .i64 er]) ⟨_, rfl, hB'8, _, _, rfl, o30'1⟩
def FltO (no er : Int) (w : World) (e : Ending) (w' : World) : Prop := ∃ a c, e = .returned (.agg #[.slice a (fltL no er).length c, .int .i64 er]) ∧ Below w.heap.size w w' ∧ w'.ownsRow w.heap.size 3 1 (.slice a (fltL no er).length c) (fltL no er).length ((fltL no er).map (Value.int .i64))
theorem ref05_AtP (no er : Int) (w : World) : Calls Tryz.prog 121 #[.int .i64 no, .agg #[.slice none 0 0, .int .i64 er]] w (FltO no er w) := by
  by_cases he : er = 0
  · subst he
    refine (ref05_At_z no w).mono ?_
    rintro e W ⟨rfl, hb⟩
    exact ⟨none, 0, rfl, hb, World.ownsRow_nil _ _ _ _⟩
  · refine (ref05_At_n no er w he).mono ?_
    rintro e W ⟨_, rfl, hb, a, c, rfl, ho⟩
    rw [FltO, fltL_nz he]
    exact ⟨a, c, rfl, hb, ho⟩
set_option maxRecDepth 100000 in
set_option maxHeartbeats 1000000 in
theorem ref11_At (no er : Int) (w : World) :
    Calls Tryz.prog 106 #[.int .i64 no, .int .i64 er] w (FltO no er w) := by
 refine zin 9 Tryz.func106 ?_
 refine xa 2 [.slice none 0 0, .int .i64 0] 31 fun b1 W1 n1 => ?_
 refine xc 7 (args := #[.int .i64 no, .agg #[.slice none 0 0, .int .i64 er]]) (ref05_AtP no er _) ?_
 rintro _ W2 ⟨a5, c5, rfl, hb2, hs5⟩
 have k1 := n1.blk.below hb2
 refine xsv 0 k1 [.slice a5 ((fltL no er).length) c5, .int .i64 er] fun W3 u3 k3 => ?_
 have g1 := n1.ge (Below.refl w.heap.size _)
 have hB := u3.below (Bl.next n1.below hb2) g1
 have hs5'1 := u3.own2 (own_mono hs5 n1.below.size) k1 (by decide)
 exact xec 3 k3 (.agg #[.slice a5 ((fltL no er).length) c5, .int .i64 er]) ⟨_, _, rfl, hB, hs5'1⟩
/-- the number that a block's writing hands back -/
def wrE (kind no : Int) (k : Nat) (li : List UInt8) : Int := if sealE kind no li = 0 then (if 0 ≤ no ∧ no < (k : Int) then 0 else 3) else sealE kind no li
/-- the image behind it -/
def wrL (kind no : Int) (k : Nat) (li l : List UInt8) : List UInt8 := if wrE kind no k li = 0 then putB l (no.toNat * 256) (sealB kind no li) else l
theorem wrL_len {kind no : Int} {k : Nat} {li l : List UInt8} (hl : l.length = k * 256) (hs : li.length ≤ 244 ∨ wrE kind no k li ≠ 0) : (wrL kind no k li l).length = k * 256 := by
  unfold wrL
  split
  · rename_i h
    have h1 : sealE kind no li = 0 := by unfold wrE at h; split at h; assumption; rename_i h2; exact absurd h h2
    have h2 : 0 ≤ no ∧ no < (k : Int) := by unfold wrE at h; rw [if_pos h1] at h; split at h; assumption; cases h
    have h3 : li.length ≤ 244 := by
      rcases hs with hs | hs
      · exact hs
      · exact absurd h hs
    rw [putB_len (by rw [sealB_len h3]; omega), hl]
  · exact hl
def RefWr (B bm : Nat) (p : Option Addr) (k c : Nat) (l : List UInt8) (no er : Int) (w : World) (e : Ending) (w' : World) : Prop :=
  ∃ a c2, e = .returned (.agg #[.slice a (fltL no er).length c2, .int .i64 er]) ∧ Below B w w' ∧ Only [9] w w' ∧ RefI B bm p k c l w' ∧ w'.ownsRow w.heap.size 3 1 (.slice a (fltL no er).length c2) (fltL no er).length ((fltL no er).map (Value.int .i64))
theorem ref_Seal_err (kind no : Int) (a : Option Addr) (c : Nat) (li : List UInt8) (w : World) (h : Bys w (.slice a li.length c) li) (hs : sealE kind no li ≠ 0) :
    Calls Tryz.prog 105 #[.int .i64 kind, .int .i64 no, .slice a li.length c] w (Ret (.tuple #[.slice none 0 0, .int .i64 (sealE kind no li)]) w) := by
  refine (ref_Seal kind no a c li w h).mono ?_
  rintro e W (⟨_, rfl, hb⟩ | ⟨h0, _⟩)
  · exact ⟨rfl, hb⟩
  · exact absurd h0 hs
theorem ref_Seal_yes (kind no : Int) (a : Option Addr) (c : Nat) (li : List UInt8) (w : World) (h : Bys w (.slice a li.length c) li) (hs : sealE kind no li = 0) :
    Calls Tryz.prog 105 #[.int .i64 kind, .int .i64 no, .slice a li.length c] w (fun e w' => li.length ≤ 244 ∧ ∃ p c, e = .returned (.tuple #[.slice p 256 c, .int .i64 0]) ∧ Below w.heap.size w w' ∧ w'.ownsRow w.heap.size 5 1 (.slice p 256 c) 256 ((sealB kind no li).map bv)) := by
  refine (ref_Seal kind no a c li w h).mono ?_
  rintro e W (⟨h0, _⟩ | ⟨_, _, hl, p, c2, rfl, hb, ho⟩)
  · exact absurd hs h0
  · exact ⟨hl, p, c2, rfl, hb, ho⟩
set_option maxRecDepth 100000 in
set_option maxHeartbeats 1000000 in
theorem ref11_Write_bad (B bm : Nat) (p : Option Addr) (k c : Nat) (l : List UInt8) (no kind : Int) (a : Option Addr) (ca : Nat) (li : List UInt8) (w : World) (hI : RefI B bm p k c l w) (hin : Bys w (.slice a li.length ca) li) (hBw : B ≤ w.heap.size) (hs : sealE kind no li ≠ 0) :
    Calls Tryz.prog 75 #[.pointer (some ⟨bm, 0, none⟩), .int .i64 no, .int .i64 kind, .slice a li.length ca] w (RefWr B bm p k c l no (sealE kind no li) w) := by
 refine zin 29 Tryz.func75 ?_
 refine xa 2 [.slice none 0 0, .int .i64 0] 31 fun b1 W1 n1 => ?_
 have hin'1 := hin.below n1.below
 refine xc 7 (args := #[.int .i64 kind, .int .i64 no, .slice a li.length ca]) (ref_Seal_err kind no a ca li _ hin'1 hs) ?_
 rintro _ W2 ⟨rfl, hb2⟩
 refine xk 14 (show (((sealE kind no li) != (0 : Int)) : Bool) = true from bne_iff_ne.2 hs) ?_
 refine xc 4 (args := #[.int .i64 no, .int .i64 (sealE kind no li)]) (ref11_At no (sealE kind no li) _) ?_
 rintro _ W3 ⟨a5, c5, rfl, hb3, hs5⟩
 have hs3 := (Bl.nextB (Bl.nextB (Below.refl B w) hBw n1.below) hBw hb2).size
 have k1 := (n1.blk.below hb2).below hb3
 refine xsv 0 k1 [.slice a5 ((fltL no (sealE kind no li)).length) c5, .int .i64 (sealE kind no li)] fun W4 u4 k4 => ?_
 have g1 := n1.ge0 (Below.refl B _)
 have hB := u4.below (Bl.nextB (Bl.nextB (Bl.nextB (Below.refl B w) hBw n1.below) hBw hb2) hBw hb3) (Nat.le_trans hBw g1)
 have hO := (Only.upd_new (((show Only [9] w _ from (Only.of_below n1.below)).trans (Only.of_below hb2)).trans (Only.of_below hb3)) u4 g1)
 have hI'1 := (((hI.below n1.below).below hb2).below hb3).only (Only.of_upd (T := [31]) u4 k1 (by decide)) (by decide)
 have hs5'1 := u4.own2 (own_mono hs5 hs3) k1 (by decide)
 exact xec 4 k4 (.agg #[.slice a5 ((fltL no (sealE kind no li)).length) c5, .int .i64 (sealE kind no li)]) ⟨_, _, rfl, hB, hO, hI'1, hs5'1⟩
set_option maxRecDepth 100000 in
set_option maxHeartbeats 1000000 in
theorem ref11_Write_out (B bm : Nat) (p : Option Addr) (k c : Nat) (l : List UInt8) (no kind : Int) (a : Option Addr) (ca : Nat) (li : List UInt8) (w : World) (hI : RefI B bm p k c l w) (hin : Bys w (.slice a li.length ca) li) (hBw : B ≤ w.heap.size) (hs : sealE kind no li = 0) (ho : ¬ (0 ≤ no ∧ no < (k : Int))) :
    Calls Tryz.prog 75 #[.pointer (some ⟨bm, 0, none⟩), .int .i64 no, .int .i64 kind, .slice a li.length ca] w (RefWr B bm p k c l no 3 w) := by
 refine zin 29 Tryz.func75 ?_
 refine xa 2 [.slice none 0 0, .int .i64 0] 31 fun b1 W1 n1 => ?_
 have hin'1 := hin.below n1.below
 refine xc 7 (args := #[.int .i64 kind, .int .i64 no, .slice a li.length ca]) (ref_Seal_yes kind no a ca li _ hin'1 hs) ?_
 rintro _ W2 ⟨hl4, p2, c2, rfl, hb2, h2⟩
 have hs2 := (Bl.nextB (Below.refl B w) hBw n1.below).size
 have hI'1 := (hI.below n1.below).below hb2
 refine xr 23 (args := #[.pointer (some ⟨bm, 0, none⟩), .int .i64 no, .slice p2 256 c2]) (ref_ImgWrite_out B bm p k c l _ hI'1 no _ ho) fun W3 hb3 => ?_
 refine xc 0 (args := #[.int .i64 no, .int .i64 3]) (ref11_At no 3 _) ?_
 rintro _ W4 ⟨a5, c5, rfl, hb4, hs5⟩
 have hs4 := (Bl.nextB (Bl.nextB (Bl.nextB (Below.refl B w) hBw n1.below) hBw hb2) hBw hb3).size
 have k1 := ((n1.blk.below hb2).below hb3).below hb4
 refine xsv 0 k1 [.slice a5 ((fltL no 3).length) c5, .int .i64 3] fun W5 u5 k5 => ?_
 have g1 := n1.ge0 (Below.refl B _)
 have hB := u5.below (Bl.nextB (Bl.nextB (Bl.nextB (Bl.nextB (Below.refl B w) hBw n1.below) hBw hb2) hBw hb3) hBw hb4) (Nat.le_trans hBw g1)
 have hO := (Only.upd_new ((((show Only [9] w _ from (Only.of_below n1.below)).trans (Only.of_below hb2)).trans (Only.of_below hb3)).trans (Only.of_below hb4)) u5 g1)
 have hI'2 := ((hI'1.below hb3).below hb4).only (Only.of_upd (T := [31]) u5 k1 (by decide)) (by decide)
 have hs5'1 := u5.own2 (own_mono hs5 hs4) k1 (by decide)
 exact xec 3 k5 (.agg #[.slice a5 ((fltL no 3).length) c5, .int .i64 3]) ⟨_, _, rfl, hB, hO, hI'2, hs5'1⟩
set_option maxRecDepth 100000 in
set_option maxHeartbeats 1000000 in
theorem ref11_Write_in (B bm : Nat) (p : Option Addr) (k c : Nat) (l : List UInt8) (j : Nat) (kind : Int) (a : Option Addr) (ca : Nat) (li : List UInt8) (w : World) (hI : RefI B bm p k c l w) (hin : Bys w (.slice a li.length ca) li) (hBw : B ≤ w.heap.size) (hs : sealE kind j li = 0) (hj : j < k) :
    Calls Tryz.prog 75 #[.pointer (some ⟨bm, 0, none⟩), .int .i64 (↑j : Int), .int .i64 kind, .slice a li.length ca] w (RefWr B bm p k c (putB l (j * 256) (sealB kind j li)) (j : Int) 0 w) := by
 refine zin 29 Tryz.func75 ?_
 refine xa 2 [.slice none 0 0, .int .i64 0] 31 fun b1 W1 n1 => ?_
 have hin'1 := hin.below n1.below
 refine xc 7 (args := #[.int .i64 kind, .int .i64 (↑j : Int), .slice a li.length ca]) (ref_Seal_yes kind j a ca li _ hin'1 hs) ?_
 rintro _ W2 ⟨hl4, p2, c2, rfl, hb2, h2⟩
 have hs2 := (Bl.nextB (Below.refl B w) hBw n1.below).size
 have hI'1 := (hI.below n1.below).below hb2
 have h2'1 := own_mono h2 hs2
 have hB := Bl.nextB (Bl.nextB (Below.refl B w) hBw n1.below) hBw hb2
 refine xc 23 (args := #[.pointer (some ⟨bm, 0, none⟩), .int .i64 (↑j : Int), .slice p2 256 c2]) (ref_ImgWrite B bm _ p k c l j p2 c2 (sealB kind j li) _ hI'1 hj h2'1 (sealB_len hl4) (Nat.le_trans hBw hB.size)) ?_
 rintro _ W3 ⟨rfl, hb3, hO3, hI⟩
 refine xc 0 (args := #[.int .i64 (↑j : Int), .int .i64 0]) (ref11_At (↑j : Int) 0 _) ?_
 rintro _ W4 ⟨a5, c5, rfl, hb4, hs5⟩
 have hs4 := (hB.trans hb3).size
 have k1 := ((n1.blk.below hb2).only hO3 (by decide)).below hb4
 refine xsv 0 k1 [.slice a5 ((fltL (↑j : Int) 0).length) c5, .int .i64 0] fun W5 u5 k5 => ?_
 have g1 := n1.ge0 (Below.refl B _)
 have hB'1 := u5.below (Bl.nextB (hB.trans hb3) hBw hb4) (Nat.le_trans hBw g1)
 have hO := (Only.upd_new ((((show Only [9] w _ from (Only.of_below n1.below)).trans (Only.of_below hb2)).trans hO3).trans (Only.of_below hb4)) u5 g1)
 have hI'2 := (hI.below hb4).only (Only.of_upd (T := [31]) u5 k1 (by decide)) (by decide)
 have hs5'1 := u5.own2 (own_mono hs5 hs4) k1 (by decide)
 exact xec 3 k5 (.agg #[.slice a5 ((fltL (↑j : Int) 0).length) c5, .int .i64 0]) ⟨_, _, rfl, hB'1, hO, hI'2, hs5'1⟩
theorem ref11_Write (B bm : Nat) (p : Option Addr) (k c : Nat) (l : List UInt8) (no kind : Int) (a : Option Addr) (ca : Nat) (li : List UInt8) (w : World) (hI : RefI B bm p k c l w) (hin : Bys w (.slice a li.length ca) li) (hBw : B ≤ w.heap.size) :
    Calls Tryz.prog 75 #[.pointer (some ⟨bm, 0, none⟩), .int .i64 no, .int .i64 kind, .slice a li.length ca] w (RefWr B bm p k c (wrL kind no k li l) no (wrE kind no k li) w) := by
  by_cases hs : sealE kind no li = 0
  · by_cases ho : 0 ≤ no ∧ no < (k : Int)
    · have he : wrE kind no k li = 0 := by unfold wrE; rw [if_pos hs, if_pos ho]
      obtain ⟨j, rfl⟩ : ∃ j : Nat, no = j := ⟨no.toNat, by omega⟩
      rw [wrL, if_pos he, he]
      exact ref11_Write_in B bm p k c l j kind a ca li w hI hin hBw hs (by omega)
    · have he : wrE kind no k li = 3 := by unfold wrE; rw [if_pos hs, if_neg ho]
      rw [wrL, if_neg (by rw [he]; decide), he]
      exact ref11_Write_out B bm p k c l no kind a ca li w hI hin hBw hs ho
  · have he : wrE kind no k li = sealE kind no li := by unfold wrE; rw [if_neg hs]
    rw [wrL, if_neg (by rw [he]; exact hs), he]
    exact ref11_Write_bad B bm p k c l no kind a ca li w hI hin hBw hs
end Go.Proofs.YtbhjgcokpmiopaaGreatDoor
namespace Go.Proofs.YtbhjgcokpmiopaaGreatDoor
open Go.RowKit Go.Extern.Stop Go.Stop Go.Extern
set_option linter.unusedVariables false
attribute [local irreducible] wpList wpAnyH Code.wp Oper.wp Go

theorem raw1 (l : List UInt8) (k : Nat) : rawN l k 1 = (l.getD k 0).toNat := by simp [rawN]
theorem raw2 (l : List UInt8) (k : Nat) : rawN l k 2 = (l.getD k 0).toNat + 256 * (l.getD (k + 1) 0).toNat := by simp [rawN]
theorem BysM.elem {w : World} {a : Option Addr} {n c : Nat} {l : List UInt8} (h : Bys w (.slice a n c) l) (hl : l.length = n) {k : Nat} (hk : k < n) : a.isSome = true ∧ w.cell? (elemAddr a (k * 1)) = some (.int .u8 (↑(l.getD k 0).toNat : Int)) := by
  subst hl; exact Bys.elem h hk
theorem slN_of {w : World} {v : Value} {n : Nat} {l : List UInt8} (h : Bys w v l) (hl : l.length = n) : Sl w v n (l.map bv) := by subst hl; exact h
theorem drop_take_len {l : List UInt8} {k m n : Nat} (h : l.length = n) (hk : k ≤ m) (hm : m ≤ n) : ((l.drop k).take (m - k)).length = m - k := by simp; omega
/-- the sum is asked by its bytes -/
theorem ask_sum {kind no : Int} {l : List UInt8} (hl : l.length = 256) : (!(((l.drop 252).take 4) == leB ((sumB l kind : Nat) : Int) 4)) = askB kind no l 2 := by
  have h1 := leB_raw (l := l) (k := 252) (w := 4) (by omega)
  have hs : sumB l kind < 256 ^ 4 := by
    have := Nat.xor_lt_two_pow (n := 32) (crcSum_lt (l.take 252)) (saltN_lt kind)
    unfold sumB; exact this
  have hr := rawN_lt l 4 252
  show _ = ((rawN l 252 4 : Int) != (sumB l kind : Int))
  rw [← h1]
  by_cases e : rawN l 252 4 = sumB l kind
  · rw [e]; simp
  · have e2 : leB (rawN l 252 4 : Int) 4 ≠ leB (sumB l kind : Int) 4 := fun h => e (leB_inj hr hs h)
    rw [beq_false_of_ne e2, bne_iff_ne.2 (by omega)]; rfl
end Go.Proofs.YtbhjgcokpmiopaaGreatDoor
namespace Go.Proofs.YtbhjgcokpmiopaaGreatDoor
open Go.RowKit Go.Extern.Stop Go.Stop Go.Extern
set_option linter.unusedVariables false
attribute [local irreducible] wpList wpAnyH Code.wp Oper.wp Go

def widG (t : Int) (leaf : Bool) : Nat := if 1 ≤ t ∧ t ≤ 5 then widN t leaf else 0
def maxG (t : Int) (leaf : Bool) : Nat := if 1 ≤ t ∧ t ≤ 5 then maxN t leaf else 0
theorem fitG (t : Int) (leaf : Bool) : 12 + maxG t leaf * 8 + maxG t leaf * widG t leaf ≤ 244 := by
  unfold maxG widG; split
  · exact fitN t leaf
  · decide
theorem maxG_le (t : Int) (leaf : Bool) : maxG t leaf ≤ 18 := by
  unfold maxG; split
  · exact (maxN_pos t leaf).2
  · decide
theorem widG_le (t : Int) (leaf : Bool) : widG t leaf ≤ 24 := by
  unfold widG; split
  · exact (widN_bd t leaf).2
  · decide
set_option maxRecDepth 100000 in
set_option maxHeartbeats 1000000 in
theorem node_Width_out (t : Int) (leaf : Bool) (w : World) (h : ¬ (1 ≤ t ∧ t ≤ 5)) :
    Calls Tryz.prog 84 #[.int .i64 t, .bool leaf] w (Ret (.int .i64 0) w) := by
 refine zin 31 Tryz.func84 ?_
 refine xg 17 [8, 9] (decide (t < (1 : Int))) (fun hc1 => ?_) (fun hc1 => ?_)
 · have hc1 := of_decide_eq_true hc1
   exact xe 15 (.int .i64 0) ⟨rfl, (Below.refl w.heap.size _)⟩
 have hc1 := of_decide_eq_false hc1
 refine xk 6 (show (decide (t > (5 : Int)) : Bool) = true from decide_eq_true (by omega)) ?_
 exact xe 8 (.int .i64 0) ⟨rfl, (Below.refl w.heap.size _)⟩
theorem node_WidthG (t : Int) (leaf : Bool) (w : World) : Calls Tryz.prog 84 #[.int .i64 t, .bool leaf] w (Ret (.int .i64 (widG t leaf : Int)) w) := by
  unfold widG
  by_cases h : 1 ≤ t ∧ t ≤ 5
  · rw [if_pos h]; exact node_Width t leaf h.1 h.2 w
  · rw [if_neg h]; exact node_Width_out t leaf w h
set_option maxRecDepth 100000 in
set_option maxHeartbeats 1000000 in
theorem node_Max_out (t : Int) (leaf : Bool) (w : World) (h : ¬ (1 ≤ t ∧ t ≤ 5)) :
    Calls Tryz.prog 82 #[.int .i64 t, .bool leaf] w (Ret (.int .i64 0) w) := by
 refine zin 16 Tryz.func82 ?_
 refine xr 9 (args := #[.int .i64 t, .bool leaf]) (node_Width_out t leaf _ h) fun W1 hb1 => ?_
 exact xe 18 (.int .i64 0) ⟨rfl, hb1⟩
theorem node_MaxG (t : Int) (leaf : Bool) (w : World) : Calls Tryz.prog 82 #[.int .i64 t, .bool leaf] w (Ret (.int .i64 (maxG t leaf : Int)) w) := by
  unfold maxG
  by_cases h : 1 ≤ t ∧ t ≤ 5
  · rw [if_pos h]; exact node_Max t leaf h.1 h.2 w
  · rw [if_neg h]; exact node_Max_out t leaf w h
/-- a key's number, by the last of the keys ahead -/
def keyR (L : List Int) (i : Nat) (k : Int) : Int := if k < 0 ∨ 281474976710655 < k then 2 else if 0 < i ∧ k ≤ L.getD (i - 1) 0 then 8 else 0
/-- the head of a node's bytes -/
def nodT (l : List UInt8) : Int := (rawN l 1 1 : Int)
def nodL (l : List UInt8) : Bool := (rawN l 0 1 : Int) == (1 : Int)
def nodC (l : List UInt8) : Nat := rawN l 2 2
def nodW (l : List UInt8) : Nat := widG (nodT l) (nodL l)
def nodM (l : List UInt8) : Nat := maxG (nodT l) (nodL l)
def shapeB (l : List UInt8) : Bool := decide (rawN l 0 1 ≤ 1 ∧ nodW l ≠ 0 ∧ rawN l 2 2 ≤ nodM l ∧ rawN l 4 2 = nodW l ∧ rawN l 6 2 = nodM l ∧ rawN l 8 4 = 0 ∧ (rawN l 0 1 = 1 ∨ 0 < rawN l 2 2))
def ShapeP (l : List UInt8) (w : World) (e : Ending) (w' : World) : Prop :=
  (shapeB l = false ∧ ∃ a b c, e = .returned (.tuple #[.agg #[.int .i64 a, .bool b, .slice none 0 0, .slice none 0 0], .int .i64 c, .bool false]) ∧ Below w.heap.size w w') ∨
  (shapeB l = true ∧ e = .returned (.tuple #[.agg #[.int .i64 (nodT l), .bool (nodL l), .slice none 0 0, .slice none 0 0], .int .i64 (nodC l : Int), .bool true]) ∧ Below w.heap.size w w')
def head6 (l : List UInt8) : List Nat := [rawN l 0 1, rawN l 1 1, rawN l 2 2, rawN l 4 2, rawN l 6 2, rawN l 8 4]
theorem head6_bd (l : List UInt8) (i : Nat) (hi : i < 6) : (unpL l 0 [1, 1, 2, 2, 2, 4]).getD i 0 < 9223372036854775808 := by
  have h1 := rawN_lt4 l 0 1 (by decide)
  have h2 := rawN_lt4 l 1 1 (by decide)
  have h3 := rawN_lt4 l 2 2 (by decide)
  have h4 := rawN_lt4 l 4 2 (by decide)
  have h5 := rawN_lt4 l 6 2 (by decide)
  have h6 := rawN_lt4 l 8 4 (by decide)
  obtain rfl | rfl | rfl | rfl | rfl | rfl : i = 0 ∨ i = 1 ∨ i = 2 ∨ i = 3 ∨ i = 4 ∨ i = 5 := by omega
  all_goals simp [unpL]
  all_goals omega
set_option maxRecDepth 100000 in
set_option maxHeartbeats 1000000 in
theorem node_keyG (a : Option Addr) (i c : Nat) (L : List Int) (k : Int) (w : World) (hL : L.length = i) (h : Sl w (.slice a i c) i (L.map (Value.int .i64))) (hi : i ≤ 1000) :
    Calls Tryz.prog 122 #[.slice a i c, .int .i64 k] w (Ret (.int .i64 (keyR L i k)) w) := by
 refine zin 26 Tryz.func122 ?_
 refine xg 12 [7, 8] (decide (k < (0 : Int))) (fun hc1 => ?_) (fun hc1 => ?_)
 · have hc1 := of_decide_eq_true hc1
   exact xe 15 (.int .i64 2) ⟨by rw [show keyR L i k = 2 from by unfold keyR; rw [if_pos (by omega)]], (Below.refl w.heap.size _)⟩
 have hc1 := of_decide_eq_false hc1
 refine xid 6 (k > (281474976710655 : Int)) (fun hc2 => ?_) (fun hc2 => ?_)
 · exact xe 8 (.int .i64 2) ⟨by rw [show keyR L i k = 2 from by unfold keyR; rw [if_pos (by omega)]], (Below.refl w.heap.size _)⟩
 refine xg 6 [15, 16] (decide ((↑i : Int) > (0 : Int))) (fun hc3 => ?_) (fun hc3 => ?_)
 · have hc3 := of_decide_eq_true hc3
   refine xwm 3 ((↑i : Int) - 1) (↑(i - 1) : Int) ?_
   refine xx 0 _ i (i - 1) 1 (IntsN.elem h hL (k := (i - 1)) (by omega)).1 ?_
   refine xl 0 ((IntsN.elem h hL (k := (i - 1)) (by omega)).2) ?_
   refine xid 6 ((L.getD (i - 1) 0) ≥ k) (fun hc4 => ?_) (fun hc4 => ?_)
   · exact xe 8 (.int .i64 8) ⟨by rw [show keyR L i k = 8 from by unfold keyR; rw [if_neg (by omega), if_pos (by omega)]], (Below.refl w.heap.size _)⟩
   exact xe 9 (.int .i64 0) ⟨by rw [show keyR L i k = 0 from by unfold keyR; rw [if_neg (by omega), if_neg (by omega)]], (Below.refl w.heap.size _)⟩
 have hc3 := of_decide_eq_false hc3
 exact xe 22 (.int .i64 0) ⟨by rw [show keyR L i k = 0 from by unfold keyR; rw [if_neg (by omega), if_neg (by omega)]], (Below.refl w.heap.size _)⟩
def keyN (l : List UInt8) (i : Nat) : Nat := rawN l (12 + i * 8) 8
def keysI (l : List UInt8) (n : Nat) : List Int := (List.range n).map fun i => (keyN l i : Int)
theorem keysI_len (l : List UInt8) (n : Nat) : (keysI l n).length = n := by simp [keysI]
theorem keysI_snoc (l : List UInt8) (n : Nat) : keysI l (n + 1) = keysI l n ++ [(keyN l n : Int)] := by simp [keysI, List.range_succ]
theorem keysI_get (l : List UInt8) {n i : Nat} (h : i < n) : (keysI l n).getD i 0 = (keyN l i : Int) := by simp [keysI, List.getD, List.getElem?_range h]
def valN (l : List UInt8) (i : Nat) : List UInt8 := (l.drop (12 + nodM l * 8 + i * nodW l)).take (nodW l)
def valsL (l : List UInt8) (n : Nat) : List (List UInt8) := (List.range n).map (valN l)
theorem valsL_len (l : List UInt8) (n : Nat) : (valsL l n).length = n := by simp [valsL]
theorem valsL_snoc (l : List UInt8) (n : Nat) : valsL l (n + 1) = valsL l n ++ [valN l n] := by simp [valsL, List.range_succ]
theorem valsL_get (l : List UInt8) {n i : Nat} (h : i < n) : (valsL l n).getD i [] = valN l i := by simp [valsL, List.getD, List.getElem?_range h]
def keyE (l : List UInt8) (i : Nat) : Int := if 281474976710655 < keyN l i then 2 else if 0 < i ∧ keyN l i ≤ keyN l (i - 1) then 8 else 0
def keysErr (l : List UInt8) : Nat → Int
  | 0 => 0
  | i + 1 => if keysErr l i ≠ 0 then keysErr l i else keyE l i
theorem keysErr_stop {l : List UInt8} {i : Nat} (h : keysErr l i ≠ 0) : ∀ n, i ≤ n → keysErr l n = keysErr l i
  | 0, h2 => by obtain rfl : i = 0 := by omega
                rfl
  | n + 1, h2 => by
    by_cases e : i = n + 1
    · rw [e]
    · have ih := keysErr_stop h n (by omega)
      rw [keysErr, if_pos (by rw [ih]; exact h), ih]
theorem keysErr_at {l : List UInt8} {i n : Nat} (h : keysErr l i = 0) (he : keyE l i ≠ 0) (hi : i < n) : keysErr l n = keyE l i := by
  have e : keysErr l (i + 1) = keyE l i := by rw [keysErr, if_neg (by rw [h]; decide)]
  rw [keysErr_stop (by rw [e]; exact he) n hi, e]
theorem keysErr_next {l : List UInt8} {i : Nat} (h : keysErr l i = 0) (he : keyE l i = 0) : keysErr l (i + 1) = 0 := by rw [keysErr, if_neg (by rw [h]; decide), he]
theorem keyE_R {l : List UInt8} {i : Nat} : keyR (keysI l i) i (keyN l i : Int) = keyE l i := by
  unfold keyR keyE
  by_cases h : 281474976710655 < keyN l i
  · rw [if_pos (by omega), if_pos h]
  · rw [if_neg (by omega), if_neg h]
    by_cases h2 : 0 < i
    · rw [keysI_get l (show i - 1 < i by omega)]
      by_cases h3 : keyN l i ≤ keyN l (i - 1)
      · rw [if_pos (by omega), if_pos (by omega)]
      · rw [if_neg (by omega), if_neg (by omega)]
    · rw [if_neg (by omega), if_neg (by omega)]
def node0 (l : List UInt8) : Nat := 12 + nodC l * 8
def node1 (l : List UInt8) : Nat := 12 + nodM l * 8
def node2 (l : List UInt8) : Nat := node1 l + nodC l * nodW l
def nodeZ (l : List UInt8) : Bool := zeroB ((l.drop (node0 l)).take (node1 l - node0 l)) && zeroB ((l.drop (node2 l)).take (244 - node2 l))
def nodeE (l : List UInt8) : Int := if shapeB l then (if nodeZ l then keysErr l (nodC l) else 7) else 7
def NodeP (l : List UInt8) (w : World) (e : Ending) (w' : World) : Prop :=
  (nodeE l ≠ 0 ∧ e = .returned (.tuple #[.agg #[.int .i64 0, .bool false, .slice none 0 0, .slice none 0 0], .int .i64 (nodeE l)]) ∧ Below w.heap.size w w') ∨
  (nodeE l = 0 ∧ ∃ kp kc vp vc, e = .returned (.tuple #[.agg #[.int .i64 (nodT l), .bool (nodL l), .slice kp (nodC l) kc, .slice vp (nodC l) vc], .int .i64 0]) ∧ Below w.heap.size w w' ∧
    w'.ownsRow w.heap.size 3 1 (.slice kp (nodC l) kc) (nodC l) ((keysI l (nodC l)).map (Value.int .i64)) ∧ w'.ownsRow w.heap.size 9 1 (.slice vp (nodC l) vc) (nodC l) ((valsL l (nodC l)).map sv))
theorem node_shapeP {l : List UInt8} (h : shapeB l = true) : nodC l ≤ nodM l := (of_decide_eq_true h).2.2.1
theorem valN_bys {a : Option Addr} {c i : Nat} {l : List UInt8} {w : World} (h : Bys w (.slice a 244 c) l) (hl : l.length = 244) (hb : 12 + nodM l * 8 + (i + 1) * nodW l ≤ 244) (hi : (i + 1) * nodW l = i * nodW l + nodW l) :
    Bys w (.slice (cutA a (12 + nodM l * 8 + i * nodW l) c 1) (12 + nodM l * 8 + (i + 1) * nodW l - (12 + nodM l * 8 + i * nodW l)) (c - (12 + nodM l * 8 + i * nodW l))) (valN l i) := by
  have := Bys.cut h hl (12 + nodM l * 8 + i * nodW l) (12 + nodM l * 8 + (i + 1) * nodW l) (by omega) hb
  rw [show 12 + nodM l * 8 + (i + 1) * nodW l - (12 + nodM l * 8 + i * nodW l) = nodW l by omega] at this ⊢
  exact this
theorem valN_lenN {i : Nat} {l : List UInt8} (hl : l.length = 244) (hb : 12 + nodM l * 8 + (i + 1) * nodW l ≤ 244) (hi : (i + 1) * nodW l = i * nodW l + nodW l) : (valN l i).length = 12 + nodM l * 8 + (i + 1) * nodW l - (12 + nodM l * 8 + i * nodW l) := by
  unfold valN; simp only [List.length_take, List.length_drop]; omega
def GetP (l : List UInt8) (k w : Nat) (W : World) (e : Ending) (w' : World) : Prop :=
  (rawN l k w < 9223372036854775808 ∧ e = .returned (.tuple #[.int .i64 (rawN l k w : Int), .int .i64 0]) ∧ Below W.heap.size W w') ∨ (¬ rawN l k w < 9223372036854775808 ∧ e = .returned (.tuple #[.int .i64 0, .int .i64 2]) ∧ Below W.heap.size W w')
theorem node_keyP (l : List UInt8) (a : Option Addr) (i c : Nat) (w : World) (h : Sl w (.slice a i c) i ((keysI l i).map (Value.int .i64))) (hi : i ≤ 1000) :
    Calls Tryz.prog 122 #[.slice a i c, .int .i64 (↑(keyN l i) : Int)] w (fun e w' => (keyE l i = 0 ∧ e = .returned (.int .i64 0) ∧ Below w.heap.size w w') ∨ (keyE l i ≠ 0 ∧ e = .returned (.int .i64 (keyE l i)) ∧ Below w.heap.size w w')) := by
  refine (node_keyG a i c (keysI l i) (keyN l i) w (keysI_len l i) h hi).mono ?_
  rintro e W ⟨rfl, hb⟩
  rw [keyE_R]
  by_cases hz : keyE l i = 0
  · exact .inl ⟨hz, by rw [hz], hb⟩
  · exact .inr ⟨hz, rfl, hb⟩
end Go.Proofs.YtbhjgcokpmiopaaGreatDoor
namespace Go.Proofs.YtbhjgcokpmiopaaGreatDoor
open Go.RowKit Go.Extern.Stop Go.Stop Go.Extern
set_option linter.unusedVariables false
attribute [local irreducible] wpList wpAnyH Code.wp Oper.wp Go

theorem op_strBytes {P : Program} {a : Act} {w : World} {K : Act → World → Prop} {Q : Exit → Act → World → Prop} {o : Oper} {src dst e : TypeId} {x : Operand} (l : List UInt8) (ho : o.op = .convert src dst x) (hx : a.eval x = .string ⟨l.toArray⟩)
    (hs : P.underlying src = some .string) (hd : P.underlying dst = some (.slice e)) (he : P.underlying e = some (.int .u8)) (hl : l.length ≤ 1000000)
    (k : ∀ b c W, Below w.heap.size w W → Bys W (.slice (some ⟨b, 0, none⟩) l.length c) l → K (a.put o.dst (.slice (some ⟨b, 0, none⟩) l.length c)) W) : o.wp P a w K Q := by
  have hr := run_bytes_of_string (P := P) w src dst e ⟨l.toArray⟩ hs hd he
  have hsz : (⟨l.toArray⟩ : ByteArray).size = l.length := by simp [ByteArray.size]
  rw [hsz] at hr
  obtain ⟨W1, hW1⟩ : ∃ W1, W1 = w.drew.alloc (.cells (bytesRow ⟨l.toArray⟩ (grownCap w l.length 0 e)) e ((bytesRow ⟨l.toArray⟩ (grownCap w l.length 0 e)).size, (bytesRow ⟨l.toArray⟩ (grownCap w l.length 0 e)).size + 1)) := ⟨_, rfl⟩
  rw [← hW1] at hr
  have h2 : (execOp a.eval o).run P w = .ok (.value (.slice (some ⟨w.heap.size, 0, none⟩) l.length (grownCap w l.length 0 e))) W1 := by
    simp only [execOp, ho, hx, Sem.run_bind, hr]; rfl
  refine op_val h2 (k _ _ _ (by rw [hW1]; exact (below_drew w).trans (show Below w.drew.heap.size w.drew _ from Bl.box w.drew _)) (.inr ⟨w.heap.size, 0, _, rfl, grownCap_ge w l.length 0 e, grownCap_le_maxLen w l.length 0 e (by unfold maxLen; omega), fun j y hj => ?_⟩))
  have hjl : j < l.length := by have := (List.getElem?_eq_some_iff.1 hj).1; simpa using this
  have hb := bytesRow_at ⟨l.toArray⟩ (grownCap w l.length 0 e) j (by simpa using hjl)
  have hy : y = .int .u8 ((l.toArray[j]'(by simpa using hjl)).toNat : Int) := by
    rw [List.getElem?_map, List.getElem?_eq_getElem hjl] at hj
    simp only [Option.map_some, Option.some.injEq] at hj
    rw [← hj]; rfl
  have hh : W1.heap[w.heap.size]? = some (.cells (bytesRow ⟨l.toArray⟩ (grownCap w l.length 0 e)) e ((bytesRow ⟨l.toArray⟩ (grownCap w l.length 0 e)).size, (bytesRow ⟨l.toArray⟩ (grownCap w l.length 0 e)).size + 1)) := by rw [hW1]; exact heap_alloc_new w.drew _
  rw [hy]
  simp [World.cell?, hh, hb]
/-- a root's number, by the four bytes of a value -/
def rootE (s : List UInt8) : Int := if s.length = 4 then (if 1 ≤ rawN s 0 4 ∧ rawN s 0 4 ≤ 14399 then 0 else 2) else 7
def rootN (s : List UInt8) : Nat := if rootE s = 0 then rawN s 0 4 else 0
theorem loop_len (bs : ByteArray) (i : Nat) (r : List UInt8) (h : i ≤ bs.size) : (ByteArray.toList.loop bs i r).length = r.length + (bs.size - i) := by
  rw [ByteArray.toList.loop]
  split
  · rename_i h2
    rw [loop_len bs (i + 1) _ (by omega)]
    simp; omega
  · simp; omega
termination_by bs.size - i
theorem toList_len (bs : ByteArray) : bs.toList.length = bs.size := by
  unfold ByteArray.toList; rw [loop_len _ _ _ (Nat.zero_le _)]; simp
theorem four_ne (n : Int) : ((⟨(leB n 4).toArray⟩ : ByteArray).toList == (⟨#[]⟩ : ByteArray).toList) = false := by
  cases hq : ((⟨(leB n 4).toArray⟩ : ByteArray).toList == (⟨#[]⟩ : ByteArray).toList) with
  | false => rfl
  | true =>
    have e := congrArg List.length (eq_of_beq hq)
    rw [toList_len, toList_len] at e
    simp [ByteArray.size, leB_len] at e
set_option maxRecDepth 100000 in
set_option maxHeartbeats 1000000 in
theorem value_rootR (w : World) :
    Calls Tryz.prog 110 #[] w (RetS (fun w' r => ∃ b, r = .slice (some ⟨b, 0, none⟩) 1 1 ∧ w.heap.size ≤ b ∧ Blk w' b [.int .i64 4, .int .i64 1, .int .i64 14399] 179) w) := by
 refine zin 3 Tryz.func110 ?_
 refine xbs 8 1 [.int .i64 4, .int .i64 1, .int .i64 14399] 179 fun b1 W1 n1 => ?_
 have g1 := n1.ge (Below.refl w.heap.size _)
 exact xe 4 (.slice (some ⟨b1, 0, none⟩) 1 1) ⟨_, rfl, n1.below, _, rfl, g1, n1.blk⟩
set_option maxRecDepth 100000 in
set_option maxHeartbeats 1000000 in
theorem value_putR (gl : Nat) (an : Option Addr) (cn : Nat) (n : Int) (w : World) (hl : Blk w gl [.int .i64 4, .int .i64 1, .int .i64 14399] 179) (hn : Sl w (.slice an 1 cn) 1 [.int .i64 n]) (h1 : 1 ≤ n) (h2 : n ≤ 14399) :
    Calls Tryz.prog 78 #[.slice (some ⟨gl, 0, none⟩) 1 1, .slice an 1 cn] w (Ret (.string ⟨(leB n 4).toArray⟩) w) := by
 have hlo := h1
 have hhi := h2
 clear h2
 refine zin 51 Tryz.func78 ?_
 refine xu 19 2 ?_
 refine xlv 15 hl.rp ?_
 refine xa 0 [.int .i64 0, .int .i64 0, .int .i64 0] 179 fun b1 W1 n1 => ?_
 have d1_gl := n1.ne hl
 refine xsv 1 n1.blk [.int .i64 4, .int .i64 1, .int .i64 14399] fun W2 u2 k2 => ?_
 have g1 := n1.ge (Below.refl w.heap.size _)
 refine xd 4 .z ?_
 refine xx (.e [0, 1] 2) _ 1 0 1 (Ints.elem (l := [n]) hn (k := 0) (by simp)).1 ?_
 have hB := Bl.next (u2.below n1.below g1) (below_drew W2)
 refine xl (.e [] 3) ((Ints.elem (l := [n]) (hn.below hB) (k := 0) (by simp)).2) ?_
 have k2'1 := k2.below (below_drew W2)
 refine xb (.e [4] 5) 1 k2'1 ?_
 refine xgk (.b [6, 7]) [23, 24] (show (decide (n < (1 : Int)) : Bool) = false from decide_eq_false (by omega)) ?_
 refine xx (.e [8, 9] 10) _ 1 0 1 (Ints.elem (l := [n]) hn (k := 0) (by simp)).1 ?_
 refine xl (.e [] 11) ((Ints.elem (l := [n]) (hn.below hB) (k := 0) (by simp)).2) ?_
 refine xb (.e [12] 13) 2 k2'1 ?_
 refine xk (.r [14, 15] 2) (show (decide (n > (14399 : Int)) : Bool) = false from decide_eq_false (by omega)) ?_
 refine xd 3 .z ?_
 have k2'2 := k2'1.below (below_drew W2.drew)
 refine xb (.e [0] 1) 0 k2'2 ?_
 refine xx (.e [2, 3] 4) _ 1 0 1 (Ints.elem (l := [n]) hn (k := 0) (by simp)).1 ?_
 have hB'1 := Bl.next hB (below_drew W2.drew)
 refine xl (.e [] 5) ((Ints.elem (l := [n]) (hn.below hB'1) (k := 0) (by simp)).2) ?_
 refine xbs (.o [6] 7) 1 [.int .i64 4, .int .i64 n] 114 fun b4 W4 n4 => ?_
 have g4 := n4.ge hB'1
 refine yc (.o [] 8) (args := #[.slice (some ⟨b4, 0, none⟩) 1 1]) .z (Pack_4 b4 n (by omega) (by omega) _ n4.blk) ?_
 rintro _ W5 ⟨_, rfl, hb5, p2, c2, rfl, h2⟩
 have hs5 := (Bl.next hB'1 n4.below).size
 refine ⟨hb5, ?_⟩
 have o6 := World.ownsRow_nil W5 w.heap.size 5 1
 have h2'1 := own_mono h2 hs5
 have hB'2 := Bl.next (Bl.next hB'1 n4.below) hb5
 refine xbi (.r [9, 10, 11, 12, 13] 5) fun _ _ _ _ zJ zQ zo zx zy zK => op_app (m := 4) (news := (leB n 4).map bv) (.int .u8 0) 1 1 (4) ((leB n 4).map bv) zo Tryz.underlying28 (by kernel_rfl) rfl (by decide) zx o6 zy (own_sl h2'1) (by simp [leB_len]) (bv_one _) (by unfold maxLen; omega) (by omega) hB'2.size (by rfl) (by simp) fun p7 c7 W7 o7 hg7 hb7 => ?_
 refine zK _ _ ?_
 refine xcv0 24 (fun _ _ _ zo zx => run_bstr zo zx (bys_of (own_sl o7) (leB_len _ _)) (leB_len _ _) Tryz.underlying28 Tryz.underlying5 Tryz.underlying9) ?_
 have hB'3 := hB'2.trans hb7
 exact xe 4 (.string ⟨(leB n 4).toArray⟩) ⟨rfl, hB'3⟩
set_option maxRecDepth 100000 in
set_option maxHeartbeats 1000000 in
theorem value_putX (gl : Nat) (an : Option Addr) (cn : Nat) (n : Int) (w : World) (hl : Blk w gl [.int .i64 4, .int .i64 1, .int .i64 14399] 179) (hn : Sl w (.slice an 1 cn) 1 [.int .i64 n]) (h : ¬ (1 ≤ n ∧ n ≤ 14399)) :
    Calls Tryz.prog 78 #[.slice (some ⟨gl, 0, none⟩) 1 1, .slice an 1 cn] w (Ret (.string ⟨#[]⟩) w) := by
 refine zin 51 Tryz.func78 ?_
 refine xu 19 2 ?_
 refine xlv 15 hl.rp ?_
 refine xa 0 [.int .i64 0, .int .i64 0, .int .i64 0] 179 fun b1 W1 n1 => ?_
 have d1_gl := n1.ne hl
 refine xsv 1 n1.blk [.int .i64 4, .int .i64 1, .int .i64 14399] fun W2 u2 k2 => ?_
 have g1 := n1.ge (Below.refl w.heap.size _)
 refine xd 4 .z ?_
 refine xx (.e [0, 1] 2) _ 1 0 1 (Ints.elem (l := [n]) hn (k := 0) (by simp)).1 ?_
 have hB := Bl.next (u2.below n1.below g1) (below_drew W2)
 refine xl (.e [] 3) ((Ints.elem (l := [n]) (hn.below hB) (k := 0) (by simp)).2) ?_
 have k2'1 := k2.below (below_drew W2)
 refine xb (.e [4] 5) 1 k2'1 ?_
 refine xg (.b [6, 7]) [23, 24] (decide (n < (1 : Int))) (fun hc3 => ?_) (fun hc3 => ?_)
 · have hc3 := of_decide_eq_true hc3
   exact xe (.r [8, 9, 10, 11, 12, 13, 14, 15] 15) (.string ⟨#[]⟩) ⟨rfl, hB⟩
 have hc3 := of_decide_eq_false hc3
 refine xx (.e [8, 9] 10) _ 1 0 1 (Ints.elem (l := [n]) hn (k := 0) (by simp)).1 ?_
 refine xl (.e [] 11) ((Ints.elem (l := [n]) (hn.below hB) (k := 0) (by simp)).2) ?_
 refine xb (.e [12] 13) 2 k2'1 ?_
 refine xk (.r [14, 15] 2) (show (decide (n > (14399 : Int)) : Bool) = true from decide_eq_true (by omega)) ?_
 exact xe 12 (.string ⟨#[]⟩) ⟨rfl, hB⟩
end Go.Proofs.YtbhjgcokpmiopaaGreatDoor
namespace Go.Proofs.YtbhjgcokpmiopaaGreatDoor
open Go.RowKit Go.Extern.Stop Go.Stop Go.Extern
set_option linter.unusedVariables false
attribute [local irreducible] wpList wpAnyH Code.wp Oper.wp Go

def RReadP (k : Nat) (l : List UInt8) (no : Int) (w : World) (e : Ending) (w' : World) : Prop :=
  (¬ (0 ≤ no ∧ no < (k : Int)) ∧ e = .returned (.tuple #[.slice none 0 0, .int .i64 3]) ∧ Below w.heap.size w w') ∨
  (∃ j : Nat, no = (j : Int) ∧ j < k ∧ ∃ b c, e = .returned (.tuple #[.slice (some ⟨b, 0, none⟩) 256 c, .int .i64 0]) ∧ Below w.heap.size w w' ∧ Bys w' (.slice (some ⟨b, 0, none⟩) 256 c) (blkB l j))
def RInP (l : List UInt8) (kind no : Int) (w : World) (e : Ending) (w' : World) : Prop :=
  (inE l kind no ≠ 0 ∧ e = .returned (.tuple #[.slice none 0 0, .int .i64 (inE l kind no)]) ∧ Below w.heap.size w w') ∨
  (inE l kind no = 0 ∧ (inB l no).length = 244 ∧ ∃ p c, e = .returned (.tuple #[.slice p 244 c, .int .i64 0]) ∧ Below w.heap.size w w' ∧ w'.ownsRow w.heap.size 5 1 (.slice p 244 c) 244 ((inB l no).map bv))
end Go.Proofs.YtbhjgcokpmiopaaGreatDoor
namespace Go.Proofs.YtbhjgcokpmiopaaGreatDoor
open Go.RowKit Go.Extern.Stop Go.Stop Go.Extern
set_option linter.unusedVariables false
attribute [local irreducible] wpList wpAnyH Code.wp Oper.wp Go

def bitsOkB (l : List UInt8) : Bool := decide (l.length = 244) && decide (rawN l 0 4 ≤ 960) && (List.range 960).all fun i => decide (i < rawN l 0 4) || bitN l i == 0
theorem bitsOkB_iff (l : List UInt8) : bitsOkB l = true ↔ bitsOk l := by
  unfold bitsOkB bitsOk
  simp only [Bool.and_eq_true, decide_eq_true_eq, List.all_eq_true, List.mem_range, Bool.or_eq_true, beq_iff_eq]
  constructor
  · rintro ⟨⟨h1, h2⟩, h3⟩
    exact ⟨h1, h2, fun i hi hc => (h3 i hi).resolve_left (by omega)⟩
  · rintro ⟨h1, h2, h3⟩
    exact ⟨⟨h1, h2⟩, fun i hi => by by_cases h : i < rawN l 0 4; exact .inl h; exact .inr (h3 i hi (by omega))⟩
/-- the number of Bits' error -/
def bitsErr (l : List UInt8) (no : Int) : Int := if inE l 3 no = 0 then (if bitsOkB (inB l no) then 0 else 7) else inE l 3 no
def BlkBitsP (l : List UInt8) (no : Int) (w : World) (e : Ending) (w' : World) : Prop :=
  (bitsErr l no ≠ 0 ∧ ∃ b, e = .returned (.tuple #[.slice none 0 0, .iface 137 (.pointer (some ⟨b, 0, none⟩))]) ∧ Below w.heap.size w w' ∧ ErrV w' [some no] (some (bitsErr l no)) (.iface 137 (.pointer (some ⟨b, 0, none⟩)))) ∨
  (bitsErr l no = 0 ∧ ∃ p c, e = .returned (.tuple #[.slice p (rawN (inB l no) 0 4) c, .nilIface]) ∧ Below w.heap.size w w' ∧ w'.ownsRow w.heap.size 3 1 (.slice p (rawN (inB l no) 0 4) c) (rawN (inB l no) 0 4) ((bitsL (inB l no) (rawN (inB l no) 0 4)).map nv))
end Go.Proofs.YtbhjgcokpmiopaaGreatDoor
namespace Go.Proofs.YtbhjgcokpmiopaaGreatDoor
open Go.RowKit Go.Extern.Stop Go.Stop Go.Extern
set_option linter.unusedVariables false
attribute [local irreducible] wpList wpAnyH Code.wp Oper.wp Go

def padI (l : List Int) (n : Nat) : List Int := (List.range 960).map (atI l n)
theorem padI_len (l : List Int) (n : Nat) : (padI l n).length = 960 := by simp [padI]
theorem padI_get (l : List Int) (n : Nat) {k : Nat} (h : k < 960) : (padI l n).getD k 0 = atI l n k := by simp [padI, List.getD, List.getElem?_range h]
theorem padN_zero (l : List Int) (n : Nat) : (List.range n).map (atI l 0) = List.replicate n 0 := by
  apply List.ext_getElem
  · simp
  · intro i h1 h2; simp [atI]
theorem padI_zero (l : List Int) : padI l 0 = List.replicate 960 0 := padN_zero l 960
theorem padN_set {l : List Int} {i n : Nat} (hi : i < n) : (((List.range n).map (atI l i)).map (Value.int .i64)).set i (.int .i64 (l.getD i 0)) = ((List.range n).map (atI l (i + 1))).map (Value.int .i64) := by
  rw [← List.map_set]
  congr 1
  apply List.ext_getElem
  · simp
  · intro k h1 h2
    rw [List.getElem_set]
    simp only [List.getElem_map, List.getElem_range, atI]
    by_cases e : i = k
    · subst e; rw [if_pos rfl, if_pos (by omega)]
    · rw [if_neg e]
      by_cases h3 : k < i
      · rw [if_pos h3, if_pos (by omega)]
      · rw [if_neg h3, if_neg (by omega)]
theorem padI_set {l : List Int} {i : Nat} (hi : i < 960) : ((padI l i).map (Value.int .i64)).set i (.int .i64 (l.getD i 0)) = (padI l (i + 1)).map (Value.int .i64) := padN_set hi
theorem zeros960 : zeros (Value.int .i64 0).cells.toList 960 = (List.replicate 960 (0 : Int)).map (Value.int .i64) := by
  rw [show (Value.int .i64 0).cells.toList = [Value.int .i64 0] from rfl, zeros, List.map_replicate]
  generalize 960 = n
  induction n with
  | zero => rfl
  | succ n ih => rw [List.replicate_succ, List.flatten_cons, ih, List.replicate_succ]; rfl
/-- the bytes of the first k groups of four -/
def grpB (l : List Int) (k : Nat) : List UInt8 := leB l.length 4 ++ (List.range k).map (g4B l l.length)
theorem grpB_len (l : List Int) (k : Nat) : (grpB l k).length = 4 + k := by simp [grpB, leB_len]
theorem grpB_succ (l : List Int) (k : Nat) : grpB l (k + 1) = grpB l k ++ [g4B l l.length k] := by simp [grpB, List.range_succ]
theorem g4_u8 {x : Int} (h0 : 0 ≤ x) (h1 : x < 256) : IntKind.u8.wrap x = ((UInt8.ofNat x.toNat).toNat : Int) := by
  rw [UInt8.toNat_ofNat', Nat.mod_eq_of_lt (by omega), IntWalk.u8_in x (by omega)]; omega
set_option maxRecDepth 100000 in
set_option maxHeartbeats 4000000 in
theorem ref09_Put (a : Option Addr) (c : Nat) (l : List Int) (w : World) (hS : Small l) (hl : l.length ≤ 960) (h : Sl w (.slice a l.length c) l.length (l.map (Value.int .i64))) :
    Calls Tryz.prog 73 #[.slice a l.length c] w (RetS (fun w' r => ∃ p c, r = .tuple #[.slice p 244 c, .int .i64 0] ∧ w'.ownsRow w.heap.size 5 1 (.slice p 244 c) 244 ((bitsB l).map bv)) w) := by
 refine zin 74 Tryz.func73 ?_
 refine xk 14 (show (decide ((↑l.length : Int) > (960 : Int)) : Bool) = false from decide_eq_false (by omega)) ?_
 refine xmk 4 fun _ _ _ _ zJ zQ zo zx zy zK => op_make 960 (.int .i64 0) 1 8 ((List.replicate 960 (0 : Int)).map (Value.int .i64)) zo zx zy Tryz.underlying22 (by kernel_rfl) rfl (by omega) (by omega) (zeros960) fun b1 W1 n1 => ?_
 refine zK _ _ ?_
 have o1 := own_of_blk (size := 1) (n := 960) n1.blk (n1.ge (Below.refl w.heap.size _)) (by rw [List.length_map, List.length_replicate]) (by unfold maxLen; omega)
 refine zl 10 74 (fun zm zkv V => ∃ (i : Nat), zkv = [(0, .slice a l.length c), (4, .slice (some ⟨b1, 0, none⟩) 960 960), (5, .int .i64 (↑i : Int))] ∧ zm = l.length - ((↑i : Int)).toNat ∧ Below w.heap.size w V ∧ V.ownsRow w.heap.size 3 1 (.slice (some ⟨b1, 0, none⟩) 960 960) 960 ((padI l i).map (Value.int .i64)) ∧ i ≤ l.length) ⟨0, rfl, rfl, n1.below, (by rw [padI_zero]; exact o1), Nat.zero_le _⟩ ?_
 rintro _ _ W2 ⟨i, rfl, rfl, hB_2, ho, hi⟩ J2 hJ2 r2
 refine xid 9 ((↑i : Int) < (↑l.length : Int)) (fun hc3 => ?_) (fun hc3 => ?_)
 · refine xx 9 _ l.length i 1 (IntsN.elem h rfl (k := i) (by omega)).1 ?_
   refine xl 0 ((IntsN.elem (h.below hB_2) rfl (k := i) (by omega)).2) ?_
   refine xgk 2 [22, 23] (show (decide ((l.getD i 0) < (0 : Int)) : Bool) = false from decide_eq_false (by have := getI_bd hS i; omega)) ?_
   refine xx 2 _ l.length i 1 (IntsN.elem h rfl (k := i) (by omega)).1 ?_
   refine xl 0 ((IntsN.elem (h.below hB_2) rfl (k := i) (by omega)).2) ?_
   refine xk 4 (show (decide ((l.getD i 0) > (3 : Int)) : Bool) = false from decide_eq_false (by have := getI_bd hS i; omega)) ?_
   refine xx 7 _ l.length i 1 (IntsN.elem h rfl (k := i) (by omega)).1 ?_
   refine xl 0 ((IntsN.elem (h.below hB_2) rfl (k := i) (by omega)).2) ?_
   refine xx 0 _ 960 i 1 (show (some (⟨b1, 0, none⟩ : Addr)).isSome = true from rfl) ?_
   refine xst 0 fun _ _ _ _ zJ zQ zo zx zy zK => op_storeRow (t := 3) (k := i) (v := .int .i64 (l.getD i 0)) zo zx zy (by kernel_rfl) rfl ho (by omega) fun W5 u5 o5 => ?_
   rw [padI_set (l := l) (i := i) (by omega)] at o5
   refine zK _ _ ?_
   refine xwm 5 ((↑i : Int) + 1) (↑(i + 1) : Int) ?_
   have hB'1 := u5.below hB_2 (own_ge ho)
   exact ze 2 (hJ2 _ _ _ ⟨i + 1, rfl, rfl, hB'1, o5, by omega⟩ (by omega))
 refine xc 9 (args := #[.int .i64 (↑l.length : Int), .int .i64 4]) (ref_BytesN (↑l.length : Int) 4 4 _ (Int.natCast_nonneg _) (by omega) rfl (by decide)) ?_
 rintro _ W6 ⟨_, rfl, hb6, p4, c4, rfl, h4⟩
 have hin : i = l.length := by omega
 have ho'1 := own_below ho hb6
 have h4'1 := own_mono h4 hB_2.size
 have hB'2 := Bl.next hB_2 hb6
 refine zl 10 74 (fun zm zkv V => ∃ (k m : Nat) (q : Option Addr) (d : Nat), zkv = [(4, .slice (some ⟨b1, 0, none⟩) 960 960), (6, .slice q m d), (7, .int .i64 (↑(4 * k) : Int))] ∧ zm = 960 - ((↑(4 * k) : Int)).toNat ∧ Below w.heap.size w V ∧ V.ownsRow w.heap.size 3 1 (.slice (some ⟨b1, 0, none⟩) 960 960) 960 ((padI l l.length).map (Value.int .i64)) ∧ V.ownsRow w.heap.size 5 1 (.slice q m d) m ((grpB l k).map bv) ∧ k ≤ 240 ∧ m = 4 + k) ⟨0, 4, _, _, rfl, rfl, hB'2, (by rw [← hin]; exact ho'1), (by simpa [grpB] using h4'1), Nat.zero_le _, rfl⟩ ?_
 rintro _ _ W7 ⟨k, m, q, d, rfl, rfl, hB_7, hq, hr, hk, hm⟩ J7 hJ7 r7
 have hp : ∀ j, j < 960 → (padI l l.length).getD j 0 = atI l l.length j := fun j hj => padI_get l _ hj
 have hb0 := atI_bd hS l.length (4 * k)
 have hb1 := atI_bd hS l.length (4 * k + 1)
 have hb2 := atI_bd hS l.length (4 * k + 2)
 have hb3 := atI_bd hS l.length (4 * k + 3)
 have h9 : k < 240 → (padI l l.length).getD (4 * k) 0 = atI l l.length (4 * k) ∧ (padI l l.length).getD (4 * k + 1) 0 = atI l l.length (4 * k + 1) ∧ (padI l l.length).getD (4 * k + 2) 0 = atI l l.length (4 * k + 2) ∧ (padI l l.length).getD (4 * k + 3) 0 = atI l l.length (4 * k + 3) := fun q => ⟨hp _ (by omega), hp _ (by omega), hp _ (by omega), hp _ (by omega)⟩
 refine xid 7 ((↑(4 * k) : Int) < (960 : Int)) (fun hc8 => ?_) (fun hc8 => ?_)
 · refine xd 4 (.t w.heap.size [5]) ?_
   refine xx (.e [0, 1, 2] 3) _ 960 (4 * k) 1 (show (some (⟨b1, 0, none⟩ : Addr)).isSome = true from rfl) ?_
   have hq'1 := own_below hq (below_drew W7)
   refine xlt (.e [] 4) (.t w.heap.size [5]) (fun V hV => (IntsN.elem (own_sl (own_only hq'1 hV.2 (by decide))) (padI_len l l.length) (k := (4 * k)) (by omega)).2) ?_
   refine xwm (.e [5, 6] 7) ((↑(4 * k) : Int) + 1) (↑((4 * k) + 1) : Int) ?_
   refine xx (.e [] 8) _ 960 ((4 * k) + 1) 1 (show (some (⟨b1, 0, none⟩ : Addr)).isSome = true from rfl) ?_
   refine xlt (.e [] 9) (.t w.heap.size [5]) (fun V hV => (IntsN.elem (own_sl (own_only hq'1 hV.2 (by decide))) (padI_len l l.length) (k := ((4 * k) + 1)) (by omega)).2) ?_
   refine xw (.e [] 10) (4 * ((padI l l.length).getD ((4 * k) + 1) 0)) ?_
   refine xw (.e [] 11) (((padI l l.length).getD (4 * k) 0) + (4 * ((padI l l.length).getD ((4 * k) + 1) 0))) ?_
   refine xwm (.e [12, 13] 14) ((↑(4 * k) : Int) + 2) (↑((4 * k) + 2) : Int) ?_
   refine xx (.e [] 15) _ 960 ((4 * k) + 2) 1 (show (some (⟨b1, 0, none⟩ : Addr)).isSome = true from rfl) ?_
   refine xlt (.e [] 16) (.t w.heap.size [5]) (fun V hV => (IntsN.elem (own_sl (own_only hq'1 hV.2 (by decide))) (padI_len l l.length) (k := ((4 * k) + 2)) (by omega)).2) ?_
   refine xw (.e [] 17) (16 * ((padI l l.length).getD ((4 * k) + 2) 0)) ?_
   refine xw (.e [] 18) (((padI l l.length).getD (4 * k) 0) + (4 * ((padI l l.length).getD ((4 * k) + 1) 0)) + (16 * ((padI l l.length).getD ((4 * k) + 2) 0))) ?_
   refine xwm (.e [19, 20] 21) ((↑(4 * k) : Int) + 3) (↑((4 * k) + 3) : Int) ?_
   refine xx (.e [] 22) _ 960 ((4 * k) + 3) 1 (show (some (⟨b1, 0, none⟩ : Addr)).isSome = true from rfl) ?_
   refine xlt (.e [] 23) (.t w.heap.size [5]) (fun V hV => (IntsN.elem (own_sl (own_only hq'1 hV.2 (by decide))) (padI_len l l.length) (k := ((4 * k) + 3)) (by omega)).2) ?_
   refine xw (.e [] 24) (64 * ((padI l l.length).getD ((4 * k) + 3) 0)) ?_
   refine xw (.e [] 25) (((padI l l.length).getD (4 * k) 0) + (4 * ((padI l l.length).getD ((4 * k) + 1) 0)) + (16 * ((padI l l.length).getD ((4 * k) + 2) 0)) + (64 * ((padI l l.length).getD ((4 * k) + 3) 0))) ?_
   refine xq (.e [] 26) (congrArg (Value.int .u8) (show (IntKind.u8.wrap (((padI l l.length).getD (4 * k) 0) + (4 * ((padI l l.length).getD ((4 * k) + 1) 0)) + (16 * ((padI l l.length).getD ((4 * k) + 2) 0)) + (64 * ((padI l l.length).getD ((4 * k) + 3) 0))) : Int) = (↑(g4B l l.length k).toNat : Int) from by obtain ⟨q0, q1, q2, q3⟩ := h9 (by omega); rw [q0, q1, q2, q3]; exact g4_u8 (by omega) (by omega))) ?_
   refine xbs (.o [] 27) 1 [.int .u8 (↑(g4B l l.length k).toNat : Int)] 5 fun b9 W9 n9 => ?_
   have hB'3 := Bl.next hB_7 (below_drew W7)
   have g9 := n9.ge hB'3
   have hr'1 := own_below hr (below_drew W7)
   have r9_hr := own_ne hr'1 n9
   have hr'2 := own_below hr'1 n9.below
   have hB'4 := Bl.next hB'3 n9.below
   refine ybi (.o [] 28) (.t w.heap.size [5]) fun _ _ _ _ zJ zQ zo zx zy zK => op_app (m := 1) (news := [.int .u8 (↑(g4B l l.length k).toNat : Int)]) (.int .u8 0) 1 1 (m + 1) (((grpB l (k + 1)).map bv)) zo Tryz.underlying28 (by kernel_rfl) rfl (by decide) zx hr'2 zy (n9.blk.sl 1 1 (by decide) (by decide)) rfl (by simp [Value.oneCell']) (by unfold maxLen; omega) (by omega) hB'4.size (by rfl) (by rw [grpB_succ, List.map_append]; rfl) fun px10 cx10 W10 o10 hg10 hb10 => ?_
   refine zK _ _ (sft_grown hb10 hg10 hr'2 (by decide)) ?_
   refine xwm (.r [29] 5) ((↑(4 * k) : Int) + 4) (↑((4 * k) + 4) : Int) ?_
   refine xv1 2 7 (show (.int .i64 (↑((4 * k) + 4) : Int) : Value) = .int .i64 (↑(4 * (k + 1)) : Int) from by congr 1) ?_
   have hB'5 := hB'4.trans hb10
   have hq'2 := own_grown (own_below hq'1 n9.below) hg10 hr'2 (by decide)
   exact ze 0 (hJ7 _ _ _ ⟨k + 1, m + 1, _, _, rfl, rfl, hB'5, hq'2, o10, by omega, by omega⟩ (by omega))
 refine xe 13 (.tuple #[.slice q m d, .int .i64 0]) ?_
 obtain rfl : k = 240 := by omega
 subst hm
 exact ⟨_, rfl, hB_7, _, _, rfl, hr⟩
end Go.Proofs.YtbhjgcokpmiopaaGreatDoor
namespace Go.Proofs.YtbhjgcokpmiopaaGreatDoor
open Go.RowKit
set_option linter.unusedVariables false
theorem run_cat {P : Program} {a : Act} {o : Oper} {t t2 : TypeId} {x y : Operand} {l m : List UInt8} (ho : o.op = .binOp .add t x y t2) (hx : a.eval x = .string ⟨l.toArray⟩) (hy : a.eval y = .string ⟨m.toArray⟩) (hl : l.length + m.length ≤ 1000000) (w : World) : (execOp a.eval o).run P w = .ok (.value (.string ⟨(l ++ m).toArray⟩)) w := by
  have e : (⟨l.toArray⟩ : ByteArray) ++ ⟨m.toArray⟩ = ⟨(l ++ m).toArray⟩ := by
    apply ByteArray.ext
    simp
  have g : binOp .add t (.string ⟨l.toArray⟩) (.string ⟨m.toArray⟩) = pure (.string ((⟨l.toArray⟩ : ByteArray) ++ ⟨m.toArray⟩)) := by
    have h : ¬ (9223372036854775807 : Int) < ((⟨l.toArray⟩ : ByteArray).size : Int) + ((⟨m.toArray⟩ : ByteArray).size : Int) := by simp [ByteArray.size]; omega
    simp [binOp, Op.stringOp]
    intro q; exact absurd q h
  have q : eqGuard .add t x y (.string ⟨l.toArray⟩ : Value) (.string ⟨m.toArray⟩ : Value) = pure () := rfl
  simp only [execOp, ho, hx, hy, g, e, q]
  simp
end Go.Proofs.YtbhjgcokpmiopaaGreatDoor
namespace Go.Proofs.YtbhjgcokpmiopaaGreatDoor
open Go.RowKit Go.Extern.Stop Go.Stop Go.Extern
set_option linter.unusedVariables false
attribute [local irreducible] wpList wpAnyH Code.wp Oper.wp Go

set_option maxRecDepth 100000 in
set_option maxHeartbeats 1000000 in
theorem ref08_inT (n lo hi : Int) (w : World) :
    Calls Tryz.prog 100 #[.int .i64 n, .int .i64 lo, .int .i64 hi] w (Ret (.bool (decide (lo ≤ n ∧ n ≤ hi))) w) := by
 refine zin 15 Tryz.func100 ?_
 refine xg 11 [9, 10] (decide (n ≥ lo)) (fun hc1 => ?_) (fun hc1 => ?_)
 · have hc1 := of_decide_eq_true hc1
   exact xe 8 (.bool (decide (n ≤ hi))) ⟨by rw [show decide (lo ≤ n ∧ n ≤ hi) = decide (n ≤ hi) from by simp; omega], (Below.refl w.heap.size _)⟩
 have hc1 := of_decide_eq_false hc1
 exact xe 8 (.bool false) ⟨by rw [show decide (lo ≤ n ∧ n ≤ hi) = false from decide_eq_false (by omega)], (Below.refl w.heap.size _)⟩
def txtL (N : List Int) (ws : List Nat) (k : Nat) : List UInt8 := (List.range k).flatMap fun i => leB (N.getD i 0) (ws.getD i 0)
theorem txtL_succ (N : List Int) (ws : List Nat) (k : Nat) : txtL N ws (k + 1) = txtL N ws k ++ leB (N.getD k 0) (ws.getD k 0) := by simp [txtL, List.range_succ]
/-- numbers that may be told, in so many bytes each -/
def TxtOk (N : List Int) (ws : List Nat) : Prop := N.length ≤ 100 ∧ ws.length = N.length ∧ ∀ i, i < N.length → 0 ≤ N.getD i 0 ∧ N.getD i 0 < 9223372036854775808 ∧ ws.getD i 0 ≤ 8
theorem txtL_len {N : List Int} {ws : List Nat} (h : TxtOk N ws) : ∀ k, k ≤ N.length → (txtL N ws k).length ≤ k * 8
  | 0, _ => Nat.zero_le _
  | k + 1, hk => by
    rw [txtL_succ, List.length_append, leB_len]
    have := txtL_len h k (by omega)
    have := (h.2.2 k (by omega)).2.2
    omega
set_option maxRecDepth 100000 in
set_option maxHeartbeats 1000000 in
theorem ref08_textG (N : List Int) (ws : List Nat) (gn gw : Option Addr) (cn cw : Nat) (w : World) (hok : TxtOk N ws) (hN : Sl w (.slice gn N.length cn) N.length (N.map (Value.int .i64))) (hW : Sl w (.slice gw N.length cw) N.length (ws.map nv)) :
    Calls Tryz.prog 101 #[.slice gn N.length cn, .slice gw N.length cw] w (Ret (.string ⟨(txtL N ws N.length).toArray⟩) w) := by
 have hnl := hok.1
 have hwl := hok.2.1
 refine zin 26 Tryz.func101 ?_
 have hB := Below.refl w.heap.size w
 refine zl 17 26 (fun zm zkv V => ∃ (i : Nat), zkv = [(0, .slice gn N.length cn), (1, .slice gw N.length cw), (4, .string ⟨#[]⟩), (5, .string ⟨(txtL N ws i).toArray⟩), (6, .int .i64 (↑i : Int))] ∧ zm = N.length - ((↑i : Int)).toNat ∧ Below w.heap.size w V ∧ i ≤ N.length) ⟨0, rfl, rfl, hB, Nat.zero_le _⟩ ?_
 rintro _ _ W1 ⟨i, rfl, rfl, hB_1, hi⟩ J1 hJ1 r1
 have htl := txtL_len hok i hi
 have hw8 : i < N.length → ws.getD i 0 ≤ 8 := fun q => (hok.2.2 i q).2.2
 refine xid 9 ((↑i : Int) < (↑N.length : Int)) (fun hc2 => ?_) (fun hc2 => ?_)
 · refine xd 4 .z ?_
   refine xx (.e [0, 1, 2] 3) _ N.length i 1 (IntsN.elem hN rfl (k := i) (by omega)).1 ?_
   have hB'1 := Bl.next hB_1 (below_drew W1)
   refine xl (.e [] 4) ((IntsN.elem (hN.below hB'1) rfl (k := i) (by omega)).2) ?_
   refine xx (.e [5, 6] 7) _ N.length i 1 (nv_elem hW hwl (k := i) (by omega)).1 ?_
   refine xl (.e [] 8) ((nv_elem (hW.below hB'1) hwl (k := i) (by omega)).2) ?_
   refine yc (.o [] 9) (args := #[.int .i64 (N.getD i 0), .int .i64 (↑(ws.getD i 0) : Int)]) .z (ref_BytesN (N.getD i 0) (ws.getD i 0) (↑(ws.getD i 0) : Int) _ (hok.2.2 i (by omega)).1 (hok.2.2 i (by omega)).2.1 rfl (hok.2.2 i (by omega)).2.2) ?_
   rintro _ W3 ⟨_, rfl, hb3, p2, c2, rfl, h2⟩
   refine ⟨hb3, ?_⟩
   have h2'1 := own_mono h2 hB'1.size
   refine xcv (.e [] 10) (fun _ _ _ zo zx V hV => run_bstr zo zx (bys_of (own_sl (own_below h2'1 hV)) (leB_len _ _)) (leB_len _ _) Tryz.underlying28 Tryz.underlying5 Tryz.underlying9) ?_
   refine xbo (.e [] 11) (t := 9) (t2 := 9) (fun _ _ _ _ zo zx zy V hV => run_cat (l := txtL N ws i) (m := leB (N.getD i 0) (ws.getD i 0)) zo zx zy (by rw [leB_len]; omega) V) ?_
   refine xwm (.r [12] 5) ((↑i : Int) + 1) (↑(i + 1) : Int) ?_
   refine xv1 2 5 (show (.string ⟨(txtL N ws i ++ leB (N.getD i 0) (ws.getD i 0)).toArray⟩ : Value) = .string ⟨(txtL N ws (i + 1)).toArray⟩ from by rw [txtL_succ]) ?_
   have hB'2 := Bl.next hB'1 hb3
   exact ze 0 (hJ1 _ _ _ ⟨i + 1, rfl, rfl, hB'2, by omega⟩ (by omega))
 refine xe 12 (.string ⟨(txtL N ws i).toArray⟩) ?_
 obtain rfl : i = N.length := by omega
 exact ⟨rfl, hB_1⟩
def slotQ (x y z : Int) : Bool := decide (1 ≤ x ∧ x ≤ 14399) && decide (0 ≤ y ∧ y ≤ 960) && decide (0 ≤ z ∧ z ≤ 960)
def SlotStrP (x y z : Int) (w : World) (e : Ending) (w' : World) : Prop :=
  (slotQ x y z = false ∧ e = .returned (.string ⟨#[]⟩) ∧ Below w.heap.size w w') ∨ (slotQ x y z = true ∧ e = .returned (.string ⟨(txtL [x, y, z] [8, 4, 4] 3).toArray⟩) ∧ Below w.heap.size w w')
theorem slotQ_ok {x y z : Int} (h : slotQ x y z = true) : TxtOk [x, y, z] [8, 4, 4] := by
  unfold slotQ at h
  simp only [Bool.and_eq_true, decide_eq_true_iff] at h
  refine ⟨show 3 ≤ 100 from by decide, rfl, fun i hi => ?_⟩
  have hi' : i < 3 := hi
  obtain rfl | rfl | rfl : i = 0 ∨ i = 1 ∨ i = 2 := by omega
  all_goals simp [List.getD]
  all_goals omega
theorem txt3_ne (x y z : Int) : ((⟨(txtL [x, y, z] [8, 4, 4] 3).toArray⟩ : ByteArray).toList == (⟨#[]⟩ : ByteArray).toList) = false := by
  rw [show (⟨#[]⟩ : ByteArray) = ⟨([] : List UInt8).toArray⟩ from rfl, str_beq]
  apply beq_false_of_ne
  intro q
  have h1 := congrArg List.length q
  rw [txtL_succ, List.length_append, leB_len, List.length_nil] at h1
  simp at h1
set_option maxRecDepth 100000 in
set_option maxHeartbeats 1000000 in
theorem ref08_Slot (x y z : Int) (w : World) :
    Calls Tryz.prog 72 #[.agg #[.int .i64 x, .int .i64 y, .int .i64 z]] w (SlotStrP x y z w) := by
 refine zin 28 Tryz.func72 ?_
 refine xa 2 [.int .i64 x, .int .i64 y, .int .i64 z] 72 fun b1 W1 n1 => ?_
 refine xb 7 0 n1.blk ?_
 refine xr 0 (args := #[.int .i64 x, .int .i64 1, .int .i64 14399]) (ref08_inT x 1 14399 _) fun W2 hb2 => ?_
 refine xg 2 [6, 7] (!(decide ((1 : Int) ≤ x ∧ x ≤ 14399))) (fun hc3 => ?_) (fun hc3 => ?_)
 · have hd4 : (decide ((1 : Int) ≤ x ∧ x ≤ 14399)) = false := not_t hc3
   have hB := Bl.next n1.below hb2
   exact xe 21 (.string ⟨#[]⟩) (.inl ⟨by unfold slotQ; first | (rw [hd4]; done) | (rw [hd4]; rfl), rfl, hB⟩)
 have hd5 : (decide ((1 : Int) ≤ x ∧ x ≤ 14399)) = true := not_f hc3
 have k1'1 := n1.blk.below hb2
 refine xb 1 1 k1'1 ?_
 refine xr 0 (args := #[.int .i64 y, .int .i64 0, .int .i64 960]) (ref08_inT y 0 960 _) fun W6 hb6 => ?_
 refine xg 3 [11, 12, 13] (!(decide ((0 : Int) ≤ y ∧ y ≤ 960))) (fun hc7 => ?_) (fun hc7 => ?_)
 · have hd8 : (decide ((0 : Int) ≤ y ∧ y ≤ 960)) = false := not_t hc7
   have hB := Bl.next (Bl.next n1.below hb2) hb6
   exact xe 15 (.string ⟨#[]⟩) (.inl ⟨by unfold slotQ; first | (rw [hd5, hd8]; done) | (rw [hd5, hd8]; rfl), rfl, hB⟩)
 have hd9 : (decide ((0 : Int) ≤ y ∧ y ≤ 960)) = true := not_f hc7
 have k1'2 := k1'1.below hb6
 refine xb 1 2 k1'2 ?_
 refine xr 0 (args := #[.int .i64 z, .int .i64 0, .int .i64 960]) (ref08_inT z 0 960 _) fun W10 hb10 => ?_
 refine xi 4 (!(decide ((0 : Int) ≤ z ∧ z ≤ 960))) (fun hc11 => ?_) (fun hc11 => ?_)
 · have hd12 : (decide ((0 : Int) ≤ z ∧ z ≤ 960)) = false := not_t hc11
   have hB := Bl.next (Bl.next (Bl.next n1.below hb2) hb6) hb10
   exact xe 7 (.string ⟨#[]⟩) (.inl ⟨by unfold slotQ; first | (rw [hd5, hd9, hd12]; done) | (rw [hd5, hd9, hd12]; rfl), rfl, hB⟩)
 have hd13 : (decide ((0 : Int) ≤ z ∧ z ≤ 960)) = true := not_f hc11
 have k1'3 := k1'2.below hb10
 refine xb 5 0 k1'3 ?_
 refine xb 1 1 k1'3 ?_
 refine xb 1 2 k1'3 ?_
 refine xbs 0 3 [.int .i64 x, .int .i64 y, .int .i64 z] 3 fun b14 W14 n14 => ?_
 refine xbs 0 3 [.int .i64 8, .int .i64 4, .int .i64 4] 3 fun b15 W15 n15 => ?_
 have d15_b14 := n15.ne n14.blk
 have hsb : slotQ x y z = true := by
   unfold slotQ
   rw [hd5, hd9, hd13]; rfl
 have k14'1 := n14.blk.below n15.below
 refine xr 0 (args := #[.slice (some ⟨b14, 0, none⟩) 3 3, .slice (some ⟨b15, 0, none⟩) 3 3]) (ref08_textG [x, y, z] [8, 4, 4] (some ⟨b14, 0, none⟩) (some ⟨b15, 0, none⟩) 3 3 _ (slotQ_ok hsb) (k14'1.sl 3 3 (by decide) (by decide)) (n15.blk.sl 3 3 (by decide) (by decide))) fun W16 hb16 => ?_
 have hB := Bl.next (Bl.next (Bl.next (Bl.next (Bl.next (Bl.next n1.below hb2) hb6) hb10) n14.below) n15.below) hb16
 exact xe 4 (.string ⟨(txtL [x, y, z] [8, 4, 4] 3).toArray⟩) (.inr ⟨hsb, rfl, hB⟩)
theorem slot_txt (x y z : Int) : txtL [x, y, z] [8, 4, 4] 3 = leB x 8 ++ leB y 4 ++ leB z 4 := by simp [txtL, List.range, List.range.loop]
theorem cnt_txt (x : Int) : txtL [x] [4] 1 = leB x 4 := by simp [txtL, List.range, List.range.loop]
theorem cnt_ok {n : Int} (h : 3 ≤ n ∧ n ≤ 2147483647) : TxtOk [n] [4] := by
  refine ⟨show 1 ≤ 100 from by decide, rfl, fun i hi => ?_⟩
  have hi' : i < 1 := hi
  obtain rfl : i = 0 := by omega
  simp [List.getD]
  omega
set_option maxRecDepth 100000 in
set_option maxHeartbeats 1000000 in
theorem ref08_CountT (n : Int) (w : World) (hn : 3 ≤ n ∧ n ≤ 2147483647) :
    Calls Tryz.prog 66 #[.int .i64 n] w (Ret (.string ⟨(leB n 4).toArray⟩) w) := by
 refine zin 10 Tryz.func66 ?_
 refine xr 9 (args := #[.int .i64 n, .int .i64 3, .int .i64 2147483647]) (ref08_inT n 3 2147483647 _) fun W1 hb1 => ?_
 refine xk 3 (show (!(decide ((3 : Int) ≤ n ∧ n ≤ (2147483647 : Int))) : Bool) = false from by rw [decide_eq_true hn]; rfl) ?_
 refine xbs 5 1 [.int .i64 n] 3 fun b2 W2 n2 => ?_
 refine xbs 0 1 [.int .i64 4] 3 fun b3 W3 n3 => ?_
 have d3_b2 := n3.ne n2.blk
 have k2'1 := n2.blk.below n3.below
 refine xr 0 (args := #[.slice (some ⟨b2, 0, none⟩) 1 1, .slice (some ⟨b3, 0, none⟩) 1 1]) (ref08_textG [n] [4] (some ⟨b2, 0, none⟩) (some ⟨b3, 0, none⟩) 1 1 _ (cnt_ok hn) (k2'1.sl 1 1 (by decide) (by decide)) (n3.blk.sl 1 1 (by decide) (by decide))) fun W4 hb4 => ?_
 have hB := Bl.next (Bl.next (Bl.next hb1 n2.below) n3.below) hb4
 exact xe 4 (.string ⟨(txtL [n] [4] 1).toArray⟩) ⟨by rw [cnt_txt], hB⟩
theorem ref08_SlotT (x y z : Int) (w : World) (h1 : 1 ≤ x ∧ x ≤ 14399) (h2 : 0 ≤ y ∧ y ≤ 960) (h3 : 0 ≤ z ∧ z ≤ 960) : Calls Tryz.prog 72 #[.agg #[.int .i64 x, .int .i64 y, .int .i64 z]] w (Ret (.string ⟨(leB x 8 ++ leB y 4 ++ leB z 4).toArray⟩) w) := by
  refine (ref08_Slot x y z w).mono ?_
  rintro e W (⟨h, _, _⟩ | ⟨_, rfl, hb⟩)
  · unfold slotQ at h
    rw [decide_eq_true h1, decide_eq_true h2, decide_eq_true h3] at h
    exact absurd h (by decide)
  · exact ⟨by rw [slot_txt], hb⟩
end Go.Proofs.YtbhjgcokpmiopaaGreatDoor
namespace Go.Proofs.YtbhjgcokpmiopaaGreatDoor
open Go.RowKit Go.Extern.Stop Go.Stop Go.Extern
set_option linter.unusedVariables false
attribute [local irreducible] wpList wpAnyH Code.wp Oper.wp Go

def LevelPost (B ba b g nn cc : Nat) (pa : Option Addr) (ca f N k0 : Nat) (bs : List UInt8) (t : Int) (leaf : Bool) (m v : Nat) (l : List Ent) (w : World) (e : Ending) (w' : World) : Prop :=
  ∃ p c, e = .returned (.tuple #[.slice p (ovN l.length m) c, .nilIface]) ∧ Below B w w' ∧ Only [93, 5] w w' ∧ Fr [ba, g] w w' ∧ Al B ba b g nn cc pa ca f N (k0 + ovN l.length m) (levB t leaf m v l (f + k0) bs (ovN l.length m)) w' ∧ w'.ownsRow w.heap.size 99 3 (.slice p (ovN l.length m) c) (ovN l.length m) ((upE l m (f + k0) (ovN l.length m)).flatMap entC)
set_option maxRecDepth 100000 in
set_option maxHeartbeats 8000000 in
theorem build_level (B ba b g nn cc : Nat) (pa : Option Addr) (ca f N k0 : Nat) (bs : List UInt8) (t : Int) (leaf : Bool) (m v : Nat) (a : Option Addr) (c : Nat) (l : List Ent) (w : World) (hC : AlC B ba nn cc ca f N) (hA : Al B ba b g nn cc pa ca f N k0 bs w) (ht1 : 1 ≤ t) (ht2 : t ≤ 5) (hm : maxN t leaf = m) (hv : widN t leaf = v) (E : EntsOk v l) (hl : leaf = false → 1 ≤ l.length) (hn : l.length ≤ 32768) (hf1 : 1 ≤ f) (hk : k0 + ovN l.length m ≤ N) (hin : ∀ W, Below B w W → Only [93, 5] w W → Sts entC W (.slice a l.length c) l) (hBw : B ≤ w.heap.size) :
    Calls Tryz.prog 55 #[.pointer (some ⟨ba, 0, none⟩), .int .i64 t, .bool leaf, .slice a l.length c] w (LevelPost B ba b g nn cc pa ca f N k0 bs t leaf m v l w) := by
 have hmb := maxN_pos t leaf
 rw [hm] at hmb
 have hcf := hC.hf
 have hcn := hC.hn
 refine zin 96 Tryz.func55 ?_
 refine xr 18 (args := #[.int .i64 t, .bool leaf]) (node_MaxN t leaf m hm ht1 ht2 _) fun W1 hb1 => ?_
 refine xc 0 (args := #[.int .i64 (↑l.length : Int), .int .i64 (↑m : Int)]) (tall_Sizes l.length m _ hn (by omega) (by omega)) ?_
 rintro _ W2 ⟨_, rfl, hb2, ps, cs, rfl, hsz⟩
 have hs2 := (Bl.nextB (Below.refl B w) hBw hb1).size
 have hsz'1 := own_mono hsz hs2
 have hA'1 := (hA.below hb1).below hb2
 have hB := Bl.nextB (Bl.nextB (Below.refl B w) hBw hb1) hBw hb2
 have hX := (show Fr [ba, g] w _ from (Fr.of_below hb1)).trans (Fr.of_below hb2)
 have hO := (show Only [93, 5] w _ from (Only.of_below hb1)).trans (Only.of_below hb2)
 refine zl 5 96 (fun zm zkv V => ∃ (i : Nat) (a2 : Option Addr) (c2 : Nat) (l2 : List Ent) (p4 : Option Addr) (c4 : Nat), zkv = [(0, .pointer (some ⟨ba, 0, none⟩)), (1, .int .i64 t), (2, .bool leaf), (3, .slice a2 l2.length c2), (10, .slice p4 i c4), (26, .slice ps (ovN l.length m) cs), (27, .int .i64 (↑(ovN l.length m) : Int)), (28, .int .i64 (↑i : Int))] ∧ zm = ovN l.length m - ((↑i : Int)).toNat ∧ Below B w V ∧ Fr [ba, g] w V ∧ Only [93, 5] w V ∧ V.ownsRow w.heap.size 3 1 (.slice ps (ovN l.length m) cs) (ovN l.length m) ((sizL l.length m).map nv) ∧ V.ownsRow w.heap.size 99 3 (.slice p4 i c4) i ((upE l m (f + k0) i).flatMap entC) ∧ Al B ba b g nn cc pa ca f N (k0 + i) (levB t leaf m v l (f + k0) bs i) V ∧ (∀ W, Below B w W → Only [93, 5] w W → Sts entC W (.slice a2 l2.length c2) l2) ∧ i ≤ ovN l.length m ∧ l2 = l.drop (i * m)) ⟨0, a, c, l, none, 0, rfl, rfl, hB, hX, hO, hsz'1, World.ownsRow_nil _ _ _ _, hA'1, ?_, Nat.zero_le _, by simp⟩ ?_
 · exact hin
 rintro _ _ W3 ⟨i, a2, c2, l2, p4, c4, rfl, rfl, hB_3, hX_3, hO_3, hsz, hup, hA, hen, hi, hl2⟩ J3 hJ3 r3
 have hcap := Sl.cap (hen _ hB_3 hO_3)
 have hsl : i < ovN l.length m → i * m ≤ l.length := siz_le (by omega)
 have hl2n : l2.length = l.length - i * m := by rw [hl2]; simp
 have hszn : sizN l.length m i ≤ l2.length := by rw [hl2n]; unfold sizN; omega
 refine xid 6 ((↑i : Int) < (↑(ovN l.length m) : Int)) (fun hc4 => ?_) (fun hc4 => ?_)
 · refine xx 6 _ (ovN l.length m) i 1 (siz_elem (own_sl hsz) (k := i) (by omega)).1 ?_
   refine xl 0 ((siz_elem (own_sl hsz) (k := i) (by omega)).2) ?_
   have hF5 := hB_3
   have hOhF5 := hO_3
   have hXhF5 := hX_3
   refine xa 8 [.int .i64 0, .bool false, .slice none 0 0, .slice none 0 0] 131 fun b6 W6 n6 => ?_
   refine xsv 0 n6.blk [.int .i64 t, .bool leaf, .slice none 0 0, .slice none 0 0] fun W7 u7 k7 => ?_
   have g6 := n6.ge (Below.refl W3.heap.size _)
   refine xsH 7 (fun _ _ _ _ zo zx zy V => run_sliceH (k := (sizN l.length m i)) (b := a2) (n := l2.length) (c := c2) (i := (↑(sizN l.length m i) : Int)) (ki := .i64) zo zx zy rfl (by omega) Tryz.underlying60 (by kernel_rfl) V) ?_
   have hB := u7.below n6.below g6
   refine zl 5 96 (fun zm zkv V => ∃ (j : Nat) (kp : Option Addr) (kc : Nat) (vp : Option Addr) (vc : Nat), zkv = [(0, .pointer (some ⟨ba, 0, none⟩)), (1, .int .i64 t), (2, .bool leaf), (3, .slice a2 l2.length c2), (10, .slice p4 i c4), (12, .int .i64 (↑(sizN l.length m i) : Int)), (13, .pointer (some ⟨b6, 0, none⟩)), (26, .slice ps (ovN l.length m) cs), (27, .int .i64 (↑(ovN l.length m) : Int)), (28, .int .i64 (↑i : Int)), (37, .slice a2 (sizN l.length m i) c2), (38, .int .i64 (↑(sizN l.length m i) : Int)), (39, .int .i64 (↑j : Int))] ∧ zm = sizN l.length m i - ((↑j : Int)).toNat ∧ Below W3.heap.size W3 V ∧ Blk V b6 ([.int .i64 t, .bool leaf, .slice kp j kc, .slice vp j vc]) 131 ∧ V.ownsRow W3.heap.size 3 1 (.slice kp j kc) j (((keysE l2).take j).map (Value.int .i64)) ∧ V.ownsRow W3.heap.size 9 1 (.slice vp j vc) j (((valsE l2).take j).map sv) ∧ j ≤ sizN l.length m i) ⟨0, none, 0, none, 0, rfl, rfl, hB, k7, World.ownsRow_nil _ _ _ _, World.ownsRow_nil _ _ _ _, Nat.zero_le _⟩ ?_
   rintro _ _ W8 ⟨j, kp, kc, vp, vc, rfl, rfl, hB_8, k8_b6, hK, hV, hj⟩ J8 hJ8 r8
   refine xid 6 ((↑j : Int) < (↑(sizN l.length m i) : Int)) (fun hc9 => ?_) (fun hc9 => ?_)
   · have hen_hF5 := hen _ hF5 hOhF5
     refine xx 6 _ (sizN l.length m i) j 3 (Sts.cell hen_hF5 entC_len entD (k := j) (i := 0) (by omega) rfl).1 ?_
     refine xlv 0 (Sts.rp (k := j) (hen_hF5.below hB_8) entC_len entD (by omega) (by decide)) ?_
     refine xa 0 [.int .i64 0, .string ⟨#[]⟩, .int .i64 0] 99 fun b10 W10 n10 => ?_
     have g10 := n10.ge hB_8
     refine xsv 0 n10.blk [.int .i64 ((l2.getD j entD).1), .string ⟨((l2.getD j entD).2.1).toArray⟩, .int .i64 ((l2.getD j entD).2.2)] fun W11 u11 k11 => ?_
     have k8_b6'1 := u11.blkT (k8_b6.below n10.below) n10.blk (by decide)
     refine xb 5 2 k8_b6'1 ?_
     refine xb 1 0 k11 ?_
     refine xbs 0 1 [.int .i64 ((l2.getD j entD).1)] 3 fun b12 W12 n12 => ?_
     have hB'1 := u11.below (Bl.next hB_8 n10.below) g10
     have g12 := n12.ge hB'1
     have hK'1 := u11.own2 (own_below hK n10.below) n10.blk (by decide)
     have r12_hK := own_ne hK'1 n12
     have hK'2 := own_below hK'1 n12.below
     have hB'2 := Bl.next hB'1 n12.below
     refine xbi 0 fun _ _ _ _ zJ zQ zo zx zy zK => op_app (m := 1) (news := [.int .i64 ((l2.getD j entD).1)]) (.int .i64 0) 1 8 (j + 1) (((keysE l2).take (j + 1)).map (Value.int .i64)) zo Tryz.underlying22 (by kernel_rfl) rfl (by decide) zx hK'2 zy (n12.blk.sl 1 1 (by decide) (by decide)) rfl (by simp [Value.oneCell']) (by unfold maxLen; omega) (by omega) hB'2.size (by rfl) ((keys_take (by omega)).symm) fun px13 cx13 W13 o13 hg13 hb13 => ?_
     refine zK _ _ ?_
     have k8_b6'2 := (k8_b6'1.below n12.below).grown hg13 hK'2 (by decide)
     refine xs 1 k8_b6'2 [.int .i64 t, .bool leaf, .slice px13 (j + 1) cx13, .slice vp j vc] fun W14 u14 k14 => ?_
     refine xb 4 3 k14 ?_
     have k11'1 := u14.blkT ((k11.below n12.below).grown hg13 hK'2 (by decide)) k8_b6'2 (by decide)
     refine xb 1 1 k11'1 ?_
     refine xbs 0 1 [.string ⟨((l2.getD j entD).2.1).toArray⟩] 9 fun b15 W15 n15 => ?_
     have hB'3 := u14.below (hB'2.trans hb13) g6
     have g15 := n15.ge hB'3
     have hV'1 := u14.own2 (own_grown (own_below (u11.own2 (own_below hV n10.below) n10.blk (by decide)) n12.below) hg13 hK'2 (by decide)) k8_b6'2 (by decide)
     have r15_hV := own_ne hV'1 n15
     have hV'2 := own_below hV'1 n15.below
     have hB'4 := Bl.next hB'3 n15.below
     refine xbi 0 fun _ _ _ _ zJ zQ zo zx zy zK => op_app (m := 1) (news := [.string ⟨((l2.getD j entD).2.1).toArray⟩]) (.string ⟨#[]⟩) 1 16 (j + 1) (((valsE l2).take (j + 1)).map sv) zo Tryz.underlying55 (by kernel_rfl) rfl (by decide) zx hV'2 zy (n15.blk.sl 1 1 (by decide) (by decide)) rfl (by simp [Value.oneCell']) (by unfold maxLen; omega) (by omega) hB'4.size (by rfl) ((vals_take (by omega)).symm) fun px16 cx16 W16 o16 hg16 hb16 => ?_
     refine zK _ _ ?_
     have k14'1 := (k14.below n15.below).grown hg16 hV'2 (by decide)
     refine xs 1 k14'1 [.int .i64 t, .bool leaf, .slice px13 (j + 1) cx13, .slice px16 (j + 1) cx16] fun W17 u17 k17 => ?_
     refine xwm 4 ((↑j : Int) + 1) (↑(j + 1) : Int) ?_
     have hB'5 := u17.below (hB'4.trans hb16) g6
     have o13'1 := u17.own2 (own_grown (own_below (u14.own2 o13 k8_b6'2 (by decide)) n15.below) hg16 hV'2 (by decide)) k14'1 (by decide)
     have o16'1 := u17.own2 o16 k14'1 (by decide)
     exact ze 2 (hJ8 _ _ _ ⟨j + 1, _, _, _, _, rfl, rfl, hB'5, k17, o13'1, o16'1, by omega⟩ (by omega))
   refine xsL 9 (fun _ _ _ _ zo zx zy V => run_sliceLA (k := (sizN l.length m i)) (b := a2) (n := l2.length) (c := c2) (i := (↑(sizN l.length m i) : Int)) (ki := .i64) 3 zo zx zy rfl (by omega) Tryz.underlying60 (by kernel_rfl) V) ?_
   refine xlv 5 k8_b6.rp ?_
   have hT18 : Below W3.heap.size W3 W8 := hB_8
   have hs18 : w.heap.size ≤ W3.heap.size := hF5.size
   have hjs : sizN l.length m i = j := by omega
   have hck : (keysE l2).take j = keysE (chunkE l m i) := by rw [hl2]; exact keys_chunk hjs
   have hcv : (valsE l2).take j = valsE (chunkE l m i) := by rw [hl2]; exact vals_chunk hjs
   have hcl : (chunkE l m i).length = j := by rw [chunk_len, hjs]
   have hK'3 := own_mono hK hs18
   rw [hck] at hK'3
   have hV'3 := own_mono hV hs18
   rw [hcv] at hV'3
   have hN := chunk_ok E ht1 ht2 hm hv hl (show i < ovN l.length m by omega)
   have hlen := nodB_len hN
   rw [hcl] at hN
   have hnd : nodeP m v (headB t leaf j m v) (keysE (chunkE l m i)) (valsE (chunkE l m i)) j = nodB t leaf m v (chunkE l m i) := by rw [← hcl]; rfl
   refine xc 0 (args := #[.agg #[.int .i64 t, .bool leaf, .slice kp j kc, .slice vp j vc]]) (node_Put t leaf j m v (keysE (chunkE l m i)) (valsE (chunkE l m i)) kp vp kc vc _ hN (own_sl hK'3) (own_sl hV'3)) ?_
   rintro _ W19 ⟨_, rfl, hb19, p6, c6, rfl, h6⟩
   have hs19 := (Bl.nextB hF5 hBw hT18).size
   have h6'1 := own_mono h6 hs19
   rw [hnd] at h6'1
   have hA'2 := (hA.below hT18).below hb19
   have hO := (hOhF5.trans (Only.of_below hT18)).trans (Only.of_below hb19)
   have hB := Bl.nextB (Bl.nextB hF5 hBw hT18) hBw hb19
   refine xc 21 (args := #[.pointer (some ⟨ba, 0, none⟩), .int .i64 2, .slice p6 244 c6]) (alloc_LayQ B ba b g nn cc pa ca f N (k0 + i) (levB t leaf m v l (f + k0) bs i) 2 p6 c6 (nodB t leaf m v (chunkE l m i)) (f + k0 + i) 244 _ (Nat.add_assoc _ _ _).symm hlen hC hA'2 (by omega) (by decide) (by decide) (fun W _ hO => bys_of (own_sl (own_only h6'1 hO (by decide))) hlen) (by decide) (Nat.le_trans hBw hB.size)) ?_
   rintro _ W20 ⟨rfl, hb20, hO20, hX20, hA⟩
   refine xr 20 (args := #[.int .i64 (↑(f + k0 + i) : Int)]) (value_Root ((f + k0 + i : Nat) : Int) (by omega) (by omega) _) fun W21 hb21 => ?_
   refine xa 2 [.int .i64 0, .string ⟨#[]⟩, .int .i64 0] 99 fun b22 W22 n22 => ?_
   have hB'6 := Bl.nextB (hB.trans hb20) hBw hb21
   have g22 := n22.ge0 hB'6
   have hup'1 := own_below (own_only (own_below (own_below hup hT18) hb19) hO20 (by decide)) hb21
   have r22_hup := own_ne hup'1 n22
   refine xsv 0 n22.blk [.int .i64 0, .string ⟨(leB (↑(f + k0 + i) : Int) 4).toArray⟩, .int .i64 (↑(f + k0 + i) : Int)] fun W23 u23 k23 => ?_
   refine xid 9 ((↑(sizN l.length m i) : Int) > (0 : Int)) (fun hc24 => ?_) (fun hc24 => ?_)
   · have hkey : ((keysE (chunkE l m i))).getD 0 0 = ((chunkE l m i).getD 0 entD).1 := chunk_key hjs (by omega)
     have k8_b6'3 := u23.blkT ((((k8_b6.below hb19).only hO20 (by decide)).below hb21).below n22.below) n22.blk (by decide)
     refine xb 2 2 k8_b6'3 ?_
     have hK'4 := u23.own2 (own_below (own_below (own_only (own_below hK'3 hb19) hO20 (by decide)) hb21) n22.below) n22.blk (by decide)
     refine xx 0 _ j 0 1 (IntsN.elem (own_sl hK'4) (by rw [keysE_len, hcl]) (k := 0) (by omega)).1 ?_
     refine xl 0 ((IntsN.elem (own_sl hK'4) (by rw [keysE_len, hcl]) (k := 0) (by omega)).2) ?_
     refine xs 1 k23 [.int .i64 ((keysE (chunkE l m i)).getD 0 0), .string ⟨(leB (↑(f + k0 + i) : Int) 4).toArray⟩, .int .i64 (↑(f + k0 + i) : Int)] fun W25 u25 k25 => ?_
     refine xlv 4 k25.rp ?_
     refine xbs 0 1 [.int .i64 ((keysE (chunkE l m i)).getD 0 0), .string ⟨(leB (↑(f + k0 + i) : Int) 4).toArray⟩, .int .i64 (↑(f + k0 + i) : Int)] 99 fun b26 W26 n26 => ?_
     have d26_b22 := n26.ne k25
     have hB'7 := u25.below (u23.below (Bl.nextB hB'6 hBw n22.below) (Nat.le_trans hBw g22)) (Nat.le_trans hBw g22)
     have g26 := n26.ge0 hB'7
     have hup'2 := u25.own3 (u23.own3 (own_below hup'1 n22.below) r22_hup) r22_hup
     have r26_hup := own_ne hup'2 n26
     have hup'3 := own_below hup'2 n26.below
     have hB'8 := Bl.nextB hB'7 hBw n26.below
     refine xbi 0 fun _ _ _ _ zJ zQ zo zx zy zK => op_app (m := 1) (news := [.int .i64 ((keysE (chunkE l m i)).getD 0 0), .string ⟨(leB (↑(f + k0 + i) : Int) 4).toArray⟩, .int .i64 (↑(f + k0 + i) : Int)]) (.agg #[.int .i64 0, .string ⟨#[]⟩, .int .i64 0]) 3 32 (i + 1) ((upE l m (f + k0) (i + 1)).flatMap entC) zo Tryz.underlying60 (by kernel_rfl) rfl (by decide) zx hup'3 zy (n26.blk.sl 1 1 (by decide) (by decide)) rfl (by simp [Value.oneCell']) (by unfold maxLen; omega) (by omega) hB'8.size (by rfl) (up_row (by first | exact hkey | exact hkey0)) fun px27 cx27 W27 o27 hg27 hb27 => ?_
     refine zK _ _ ?_
     refine xwm 5 ((↑i : Int) + 1) (↑(i + 1) : Int) ?_
     refine xv1 2 3 (show (.slice (cutA a2 (sizN l.length m i) c2 3) (l2.length - (sizN l.length m i)) (c2 - (sizN l.length m i)) : Value) = .slice (cutA a2 (sizN l.length m i) c2 3) ((l2.drop (sizN l.length m i)).length) (c2 - sizN l.length m i) from by rw [List.length_drop]) ?_
     have hA'3 := (((((hA.below hb21).below n22.below).only (Only.of_upd (T := [99]) u23 n22.blk (by decide)) (by decide)).only (Only.of_upd (T := [99]) u25 k23 (by decide)) (by decide)).below n26.below).only (Only.of_grown (T := [99]) hg27 hup'3 (by decide)) (by decide)
     have hl2s : l2.drop (sizN l.length m i) = l.drop ((i + 1) * m) := by
       rw [hl2, List.drop_drop, Nat.add_mul, Nat.one_mul]
       unfold sizN
       rcases Nat.le_total m (l.length - i * m) with q | q
       · rw [Nat.min_eq_left q]
       · rw [Nat.min_eq_right q, List.drop_eq_nil_of_le (by omega), List.drop_eq_nil_of_le (by omega)]
     have hB'9 := hB'8.trans (hb27.mono hBw)
     have hX := (Fr.grown_new ((Fr.upd_new (Fr.upd_new (((((hXhF5.trans (Fr.of_below hT18)).trans (Fr.of_below hb19)).trans (hX20.mono (by simp))).trans (Fr.of_below hb21)).trans (Fr.of_below n22.below)) u23 g22) u25 g22).trans (Fr.of_below n26.below)) hg27 hup'3)
     have hO'1 := (Only.grown_new ((Only.upd_new (Only.upd_new (((hO.trans hO20).trans (Only.of_below hb21)).trans (Only.of_below n22.below)) u23 g22) u25 g22).trans (Only.of_below n26.below)) hg27 hup'3)
     have hsz'2 := own_grown (own_below (u25.own2 (u23.own2 (own_below (own_below (own_only (own_below (own_below hsz hT18) hb19) hO20 (by decide)) hb21) n22.below) n22.blk (by decide)) k23 (by decide)) n26.below) hg27 hup'3 (by decide)
     exact ze 0 (hJ3 _ _ _ ⟨i + 1, _, _, (l2.drop (sizN l.length m i)), _, _, rfl, rfl, hB'9, hX, hO'1, hsz'2, o27, hA'3, fun W h1 h2 => Sts.cut entC_len (hen W h1 h2) _ hszn, by omega, hl2s⟩ (by omega))
   have hkey0 : (0 : Int) = ((chunkE l m i).getD 0 entD).1 := chunk_nokey hjs (by omega)
   refine xlv 4 k23.rp ?_
   refine xbs 0 1 [.int .i64 0, .string ⟨(leB (↑(f + k0 + i) : Int) 4).toArray⟩, .int .i64 (↑(f + k0 + i) : Int)] 99 fun b28 W28 n28 => ?_
   have d28_b22 := n28.ne k23
   have hB'10 := u23.below (Bl.nextB hB'6 hBw n22.below) (Nat.le_trans hBw g22)
   have g28 := n28.ge0 hB'10
   have hup'4 := u23.own3 (own_below hup'1 n22.below) r22_hup
   have r28_hup := own_ne hup'4 n28
   have hup'5 := own_below hup'4 n28.below
   have hB'11 := Bl.nextB hB'10 hBw n28.below
   refine xbi 0 fun _ _ _ _ zJ zQ zo zx zy zK => op_app (m := 1) (news := [.int .i64 0, .string ⟨(leB (↑(f + k0 + i) : Int) 4).toArray⟩, .int .i64 (↑(f + k0 + i) : Int)]) (.agg #[.int .i64 0, .string ⟨#[]⟩, .int .i64 0]) 3 32 (i + 1) ((upE l m (f + k0) (i + 1)).flatMap entC) zo Tryz.underlying60 (by kernel_rfl) rfl (by decide) zx hup'5 zy (n28.blk.sl 1 1 (by decide) (by decide)) rfl (by simp [Value.oneCell']) (by unfold maxLen; omega) (by omega) hB'11.size (by rfl) (up_row (by first | exact hkey | exact hkey0)) fun px29 cx29 W29 o29 hg29 hb29 => ?_
   refine zK _ _ ?_
   refine xwm 5 ((↑i : Int) + 1) (↑(i + 1) : Int) ?_
   refine xv1 2 3 (show (.slice (cutA a2 (sizN l.length m i) c2 3) (l2.length - (sizN l.length m i)) (c2 - (sizN l.length m i)) : Value) = .slice (cutA a2 (sizN l.length m i) c2 3) ((l2.drop (sizN l.length m i)).length) (c2 - sizN l.length m i) from by rw [List.length_drop]) ?_
   have hA'4 := ((((hA.below hb21).below n22.below).only (Only.of_upd (T := [99]) u23 n22.blk (by decide)) (by decide)).below n28.below).only (Only.of_grown (T := [99]) hg29 hup'5 (by decide)) (by decide)
   have hl2s : l2.drop (sizN l.length m i) = l.drop ((i + 1) * m) := by
     rw [hl2, List.drop_drop, Nat.add_mul, Nat.one_mul]
     unfold sizN
     rcases Nat.le_total m (l.length - i * m) with q | q
     · rw [Nat.min_eq_left q]
     · rw [Nat.min_eq_right q, List.drop_eq_nil_of_le (by omega), List.drop_eq_nil_of_le (by omega)]
   have hB'12 := hB'11.trans (hb29.mono hBw)
   have hX := (Fr.grown_new ((Fr.upd_new (((((hXhF5.trans (Fr.of_below hT18)).trans (Fr.of_below hb19)).trans (hX20.mono (by simp))).trans (Fr.of_below hb21)).trans (Fr.of_below n22.below)) u23 g22).trans (Fr.of_below n28.below)) hg29 hup'5)
   have hO'2 := (Only.grown_new ((Only.upd_new (((hO.trans hO20).trans (Only.of_below hb21)).trans (Only.of_below n22.below)) u23 g22).trans (Only.of_below n28.below)) hg29 hup'5)
   have hsz'3 := own_grown (own_below (u23.own2 (own_below (own_below (own_only (own_below (own_below hsz hT18) hb19) hO20 (by decide)) hb21) n22.below) n22.blk (by decide)) n28.below) hg29 hup'5 (by decide)
   exact ze 0 (hJ3 _ _ _ ⟨i + 1, _, _, (l2.drop (sizN l.length m i)), _, _, rfl, rfl, hB'12, hX, hO'2, hsz'3, o29, hA'4, fun W h1 h2 => Sts.cut entC_len (hen W h1 h2) _ hszn, by omega, hl2s⟩ (by omega))
 refine xe 13 (.tuple #[.slice p4 i c4, .nilIface]) ?_
 obtain rfl : i = ovN l.length m := by omega
 exact ⟨_, _, rfl, hB_3, hO_3, hX_3, hA, hup⟩
end Go.Proofs.YtbhjgcokpmiopaaGreatDoor
