/- Package value: put and read, for any parts. A string cut at its head or its end. No program is named here. bits.Read. Errors that lie in memory stay what they are while a block of another type is written. Blocks of an image that are read: (*Image).Read, whatever the number. block.Node, whatever lies in the image. value.ReadSlot, slots.Read and block.Index, whatever the bytes. What was sealed opens: a plain law on lists of bytes. block.Bits, whatever lies in the image. node.Put of a node that is right. (*Alloc).Image, and build.right at entries that are right. value.Root of a block number: its four bytes. What build.level lays and hands up: plain definitions and lemmas. Counts as space maps, plainly: small counts and those above, chunks, the bytes of a block of counts, slots. append(s, make([]byte, k)...) at a literal s. An error's text, as contracts. Package block at an image that is none, and the example of law 11. The document's answer for the layers 1, 2 and 4: Bytes, Sum, Salt, known, Seal. The document's answer for layer 1, read: width, room, Get, Unpack, Zero. The document's example of chapter 5: scantlinglaw05.lives returns true. scantlinglaw05.Own and Told, scantlingref05.At and Same, as contracts. The document's answer for the layers 3 and 11: an image's blocks, Of, Write, Bytes; Write of a block. The document's answer for the layers 3, 4 and 11, read: Open, Image.Read, in. The document's answer for the layers 3 and 11, read: Image.Read, in. The document's answer for layer 9: Put of small counts, Read. Two strings, one behind the other. No program is named here. The document's answer for layer 8, written: text, Slot, Count. build.level at entries that are right, in an allocator with room. build.Tree at entries that are right: with room, and without. build.right at any entries; build.Tree at any entries and with any room. The document's answer for layer 7: Width, Max, Right and Put at a node that is right. The document's answer for layer 15: how many sizes there are, Levels, Nodes. -/
import Derived.Lib.AppendZerosOnto
import Derived.Lib.ItoaNum
import Derived.Test.YtbhjgcokpmiopaaGreatMg2
namespace Go.Proofs.YtbhjgcokpmiopaaGreat
open Go.RowKit Go.Extern.Stop Go.Stop Go.Extern
set_option linter.unusedVariables false
attribute [local irreducible] wpList wpAnyH Code.wp Oper.wp Go

/-- a part of a value: its width, from where to where -/
abbrev Part := Nat × Int × Int
def partC (p : Part) : List Value := [.int .i64 (p.1 : Int), .int .i64 p.2.1, .int .i64 p.2.2]
theorem partC_len (p : Part) : (partC p).length = 3 := rfl
def part0 : Part := (4, 0, 0)
/-- parts whose numbers have room -/
def PartsOk (ps : List Part) : Prop := ps.length ≤ 1000 ∧ ∀ i, i < ps.length → ((ps.getD i part0).1 = 4 ∨ (ps.getD i part0).1 = 8) ∧ 0 ≤ (ps.getD i part0).2.1 ∧ (ps.getD i part0).2.2 < 9223372036854775808 ∧ ((ps.getD i part0).1 = 4 → (ps.getD i part0).2.2 < 4294967296)
def inP (p : Part) (n : Int) : Bool := decide (p.2.1 ≤ n ∧ n ≤ p.2.2)
def allIn (ps : List Part) (N : List Int) (k : Nat) : Bool := (List.range k).all fun i => inP (ps.getD i part0) (N.getD i 0)
theorem allIn_succ (ps : List Part) (N : List Int) (k : Nat) : allIn ps N (k + 1) = (allIn ps N k && inP (ps.getD k part0) (N.getD k 0)) := by simp [allIn, List.range_succ]
theorem allIn_stop {ps : List Part} {N : List Int} {i k : Nat} (hi : i < k) (h : inP (ps.getD i part0) (N.getD i 0) = false) : allIn ps N k = false := by
  unfold allIn
  rw [List.all_eq_false]
  exact ⟨i, List.mem_range.2 hi, by rw [h]; decide⟩
def putL (ps : List Part) (N : List Int) (k : Nat) : List UInt8 := (List.range k).flatMap fun i => leB (N.getD i 0) (ps.getD i part0).1
theorem putL_succ (ps : List Part) (N : List Int) (k : Nat) : putL ps N (k + 1) = putL ps N k ++ leB (N.getD k 0) (ps.getD k part0).1 := by simp [putL, List.range_succ]
def wids (ps : List Part) (k : Nat) : List Nat := (List.range k).map fun i => (ps.getD i part0).1
theorem wids_succ (ps : List Part) (k : Nat) : wids ps (k + 1) = wids ps k ++ [(ps.getD k part0).1] := by simp [wids, List.range_succ]
theorem wids_len (ps : List Part) (k : Nat) : (wids ps k).length = k := by simp [wids]
theorem wids_get (ps : List Part) {k i : Nat} (h : i < k) : (wids ps k).getD i 0 = (ps.getD i part0).1 := by simp [wids, List.getD, List.getElem?_range h]
theorem putL_len (ps : List Part) (N : List Int) (k : Nat) : (putL ps N k).length = (wids ps k).sum := by
  induction k with
  | zero => rfl
  | succ k ih => rw [putL_succ, wids_succ, List.length_append, leB_len, ih]; simp
theorem Pack_48 (g w : Nat) (n : Int) (W : World) (hw : w = 4 ∨ w = 8) (h0 : 0 ≤ n) (hb : w = 4 → n < 4294967296) (hk : Blk W g [.int .i64 (w : Int), .int .i64 n] 89) : Calls Tryz.prog 41 #[.slice (some ⟨g, 0, none⟩) 1 1] W (RetS (fun w' r => ∃ p c, r = .tuple #[.slice p w c, .int .i64 0] ∧ w'.ownsRow W.heap.size 5 1 (.slice p w c) w ((leB n w).map bv)) W) := by
  rcases hw with rfl | rfl
  · exact Pack_4 g n h0 (hb rfl) W hk
  · exact Pack_8 g n h0 W hk
def ValPutP (ps : List Part) (N : List Int) (w : World) (e : Ending) (w' : World) : Prop :=
  (allIn ps N ps.length = false ∧ e = .returned (.string ⟨#[]⟩) ∧ Below w.heap.size w w') ∨ (allIn ps N ps.length = true ∧ e = .returned (.string ⟨(putL ps N ps.length).toArray⟩) ∧ Below w.heap.size w w')
set_option maxRecDepth 100000 in
set_option maxHeartbeats 4000000 in
theorem value_putG (ps : List Part) (N : List Int) (gl gn : Option Addr) (cl cn : Nat) (w : World) (hps : PartsOk ps) (hNl : N.length = ps.length) (hP : Sts partC w (.slice gl ps.length cl) ps) (hN : Sl w (.slice gn ps.length cn) ps.length (N.map (Value.int .i64))) :
    Calls Tryz.prog 54 #[.slice gl ps.length cl, .slice gn ps.length cn] w (ValPutP ps N w) := by
 have hpl := hps.1
 refine zin 51 Tryz.func54 ?_
 have hB := Below.refl w.heap.size w
 refine zl 19 51 (fun zm zkv V => ∃ (i m : Nat) (q : Option Addr) (d : Nat), zkv = [(1, .slice gn ps.length cn), (5, .slice q m d), (10, .slice gl ps.length cl), (11, .int .i64 (↑ps.length : Int)), (12, .int .i64 (↑i : Int))] ∧ zm = ps.length - ((↑i : Int)).toNat ∧ Below w.heap.size w V ∧ V.ownsRow w.heap.size 5 1 (.slice q m d) m ((putL ps N i).map bv) ∧ i ≤ ps.length ∧ m = (wids ps i).sum ∧ m ≤ i * 8 ∧ allIn ps N i = true) ⟨0, 0, _, _, rfl, rfl, hB, World.ownsRow_nil _ _ _ _, Nat.zero_le _, rfl, Nat.zero_le _, rfl⟩ ?_
 rintro _ _ W1 ⟨i, m, q, d, rfl, rfl, hB_1, ho, hi, hm, hm2, hall⟩ J1 hJ1 r1
 refine xid 6 ((↑i : Int) < (↑ps.length : Int)) (fun hc2 => ?_) (fun hc2 => ?_)
 · refine xx 7 _ ps.length i 3 (Sts.cell hP partC_len part0 (k := i) (i := 0) (by omega) rfl).1 ?_
   refine xlv 0 (Sts.rp (k := i) (hP.below hB_1) partC_len part0 (by omega) (by decide)) ?_
   refine xa 0 [.int .i64 0, .int .i64 0, .int .i64 0] 134 fun b3 W3 n3 => ?_
   have g3 := n3.ge hB_1
   refine xsv 1 n3.blk [.int .i64 (↑(ps.getD i part0).1 : Int), .int .i64 ((ps.getD i part0).2.1), .int .i64 ((ps.getD i part0).2.2)] fun W4 u4 k4 => ?_
   refine xd 4 .z ?_
   refine xx (.e [0, 1] 2) _ ps.length i 1 (IntsN.elem hN hNl (k := i) (by omega)).1 ?_
   have hB'1 := Bl.next (u4.below (Bl.next hB_1 n3.below) g3) (below_drew W4)
   refine xl (.e [] 3) ((IntsN.elem (hN.below hB'1) hNl (k := i) (by omega)).2) ?_
   have k4'1 := k4.below (below_drew W4)
   refine xb (.e [4] 5) 1 k4'1 ?_
   refine xg (.b [6, 7]) [23, 24] (decide ((N.getD i 0) < (ps.getD i part0).2.1)) (fun hc5 => ?_) (fun hc5 => ?_)
   · have hc5 := of_decide_eq_true hc5
     exact xe (.r [8, 9, 10, 11, 12, 13, 14, 15] 15) (.string ⟨#[]⟩) (.inl ⟨allIn_stop (i := i) (by omega) (decide_eq_false (by omega)), rfl, hB'1⟩)
   have hc5 := of_decide_eq_false hc5
   refine xx (.e [8, 9] 10) _ ps.length i 1 (IntsN.elem hN hNl (k := i) (by omega)).1 ?_
   refine xl (.e [] 11) ((IntsN.elem (hN.below hB'1) hNl (k := i) (by omega)).2) ?_
   refine xb (.e [12] 13) 2 k4'1 ?_
   refine xid (.r [14, 15] 2) ((N.getD i 0) > (ps.getD i part0).2.2) (fun hc6 => ?_) (fun hc6 => ?_)
   · exact xe 12 (.string ⟨#[]⟩) (.inl ⟨allIn_stop (i := i) (by omega) (decide_eq_false (by omega)), rfl, hB'1⟩)
   refine xd 3 .z ?_
   have k4'2 := k4'1.below (below_drew W4.drew)
   refine xb (.e [0] 1) 0 k4'2 ?_
   refine xx (.e [2, 3] 4) _ ps.length i 1 (IntsN.elem hN hNl (k := i) (by omega)).1 ?_
   have hB'2 := Bl.next hB'1 (below_drew W4.drew)
   refine xl (.e [] 5) ((IntsN.elem (hN.below hB'2) hNl (k := i) (by omega)).2) ?_
   refine xbs (.o [6] 7) 1 [.int .i64 (↑(ps.getD i part0).1 : Int), .int .i64 (N.getD i 0)] 89 fun b7 W7 n7 => ?_
   have g7 := n7.ge hB'2
   refine yc (.o [] 8) (args := #[.slice (some ⟨b7, 0, none⟩) 1 1]) .z (Pack_48 b7 (ps.getD i part0).1 (N.getD i 0) _ (hps.2 i (by omega)).1 (by have := (hps.2 i (by omega)).2.1; omega) (fun q => by have := (hps.2 i (by omega)).2.2.2 q; omega) n7.blk) ?_
   rintro _ W8 ⟨_, rfl, hb8, p2, c2, rfl, h2⟩
   have hs8 := (Bl.next hB'2 n7.below).size
   refine ⟨hb8, ?_⟩
   have ho'1 := own_below (own_below (own_below (own_below (u4.own2 (own_below ho n3.below) n3.blk (by decide)) (below_drew W4)) (below_drew W4.drew)) n7.below) hb8
   have h2'1 := own_mono h2 hs8
   have hB'3 := Bl.next (Bl.next hB'2 n7.below) hb8
   refine xbi (.r [9, 10, 11, 12, 13] 5) fun _ _ _ _ zJ zQ zo zx zy zK => op_app (m := (ps.getD i part0).1) (news := (leB (N.getD i 0) (ps.getD i part0).1).map bv) (.int .u8 0) 1 1 ((m + (ps.getD i part0).1)) (((putL ps N (i + 1)).map bv)) zo Tryz.underlying45 (by kernel_rfl) rfl (by decide) zx ho'1 zy (own_sl h2'1) (by simp [leB_len]) (bv_one _) (by unfold maxLen; have := (hps.2 i (by omega)).1; omega) (by have := (hps.2 i (by omega)).1; omega) hB'3.size (by rfl) (by rw [putL_succ, List.map_append]) fun px9 cx9 W9 o9 hg9 hb9 => ?_
   refine zK _ _ ?_
   refine xwm 5 ((↑i : Int) + 1) (↑(i + 1) : Int) ?_
   have hB'4 := hB'3.trans hb9
   exact ze 2 (hJ1 _ _ _ ⟨i + 1, _, _, _, rfl, rfl, hB'4, o9, by omega, by rw [wids_succ, hm]; simp, by have := (hps.2 i (by omega)).1; omega, by rw [allIn_succ, hall]; exact decide_eq_true ⟨by omega, by omega⟩⟩ (by omega))
 refine xcv0 8 (fun _ _ _ zo zx => run_bstr zo zx (bys_of (own_sl ho) (by rw [putL_len]; exact hm.symm)) (by rw [putL_len]; exact hm.symm) Tryz.underlying45 Tryz.underlying5 Tryz.underlying9) ?_
 refine xe 4 (.string ⟨(putL ps N i).toArray⟩) ?_
 obtain rfl : i = ps.length := by omega
 exact .inr ⟨hall, rfl, hB_1⟩
/-- what stands in a value: the numbers, one behind the other -/
def rawsL (ps : List Part) (s : List UInt8) : List Nat := unpL s 0 (wids ps ps.length)
theorem rawsL_len (ps : List Part) (s : List UInt8) : (rawsL ps s).length = ps.length := by rw [rawsL, unpL_len, wids_len]
def readOk (ps : List Part) (s : List UInt8) : Bool := allIn ps ((rawsL ps s).map fun n : Nat => (n : Int)) ps.length
def readE (ps : List Part) (s : List UInt8) : Int := if s.length = (wids ps ps.length).sum then (if readOk ps s then 0 else 2) else 7
def readV (ps : List Part) (s : List UInt8) : List Nat := if readE ps s = 0 then rawsL ps s else List.replicate ps.length 0
theorem readV_len (ps : List Part) (s : List UInt8) : (readV ps s).length = ps.length := by
  unfold readV; split
  · exact rawsL_len ps s
  · simp
theorem readOk_lt {ps : List Part} {s : List UInt8} (hp : PartsOk ps) (h : readOk ps s = true) : ∀ i, i < (wids ps ps.length).length → (unpL s 0 (wids ps ps.length)).getD i 0 < 9223372036854775808 := by
  intro i hi
  rw [wids_len] at hi
  unfold readOk allIn at h
  rw [List.all_eq_true] at h
  have h1 := of_decide_eq_true (h i (List.mem_range.2 hi))
  have h2 := (hp.2 i hi).2.2.1
  rw [show ((rawsL ps s).map fun n : Nat => (n : Int)).getD i 0 = (((rawsL ps s).getD i 0 : Nat) : Int) by simp [List.getD, show i < (rawsL ps s).length by rw [rawsL_len]; exact hi]] at h1
  change (rawsL ps s).getD i 0 < _
  omega
theorem map_nv (l : List Nat) : l.map nv = (l.map fun n : Nat => (n : Int)).map (Value.int .i64) := by simp [nv]
theorem putL_ne {ps : List Part} {N : List Int} (hp : PartsOk ps) (h0 : 0 < ps.length) : ((⟨(putL ps N ps.length).toArray⟩ : ByteArray).toList == (⟨#[]⟩ : ByteArray).toList) = false := by
  rw [show (⟨#[]⟩ : ByteArray) = ⟨([] : List UInt8).toArray⟩ from rfl, str_beq]
  apply beq_false_of_ne
  intro q
  have h1 := congrArg List.length q
  obtain ⟨k, hk⟩ : ∃ k, ps.length = k + 1 := ⟨ps.length - 1, by omega⟩
  rw [hk, putL_succ, List.length_append, leB_len] at h1
  rw [List.length_nil] at h1
  have := (hp.2 k (by omega)).1
  omega
theorem zeros_nv (n : Nat) : zeros (Value.int .i64 0).cells.toList n = (List.replicate n 0).map nv := by
  rw [show (Value.int .i64 0).cells.toList = [Value.int .i64 0] from rfl, zeros, List.map_replicate]
  induction n with
  | zero => rfl
  | succ n ih => rw [List.replicate_succ, List.flatten_cons, ih, List.replicate_succ]; rfl
set_option maxRecDepth 100000 in
set_option maxHeartbeats 1000000 in
theorem value_readG_len (ps : List Part) (s : List UInt8) (gl : Option Addr) (cl : Nat) (w : World) (hps : PartsOk ps) (h0 : 0 < ps.length) (hs : s.length ≤ 100000) (hP : Sts partC w (.slice gl ps.length cl) ps) (hsl : s.length ≠ (wids ps ps.length).sum) :
    Calls Tryz.prog 87 #[.slice gl ps.length cl, .string ⟨s.toArray⟩] w (RetS (fun w' r => ∃ p c, r = .tuple #[.slice p ps.length c, .int .i64 (readE ps s)] ∧ w'.ownsRow w.heap.size 3 1 (.slice p ps.length c) ps.length ((readV ps s).map nv)) w) := by
 have hpl := hps.1
 refine zin 54 Tryz.func87 ?_
 have hB := Below.refl w.heap.size w
 refine zl 25 54 (fun zm zkv V => ∃ (i : Nat) (q : Option Addr) (d : Nat), zkv = [(0, .slice gl ps.length cl), (1, .string ⟨s.toArray⟩), (4, .slice none 0 0), (5, .int .i64 0), (6, .slice q i d), (7, .int .i64 (↑(wids ps i).sum : Int)), (12, .slice gl ps.length cl), (13, .int .i64 (↑ps.length : Int)), (14, .int .i64 (↑i : Int))] ∧ zm = ps.length - ((↑i : Int)).toNat ∧ Below w.heap.size w V ∧ V.ownsRow w.heap.size 3 1 (.slice q i d) i ((wids ps i).map nv) ∧ i ≤ ps.length ∧ (wids ps i).sum ≤ i * 8) ⟨0, _, _, rfl, rfl, hB, World.ownsRow_nil _ _ _ _, Nat.zero_le _, Nat.zero_le _⟩ ?_
 rintro _ _ W1 ⟨i, q, d, rfl, rfl, hB_1, ho, hi, hm2⟩ J1 hJ1 r1
 have hwd : i < ps.length → (ps.getD i part0).1 ≤ 8 := fun q => by have := (hps.2 i q).1; omega
 refine xid 6 ((↑i : Int) < (↑ps.length : Int)) (fun hc2 => ?_) (fun hc2 => ?_)
 · refine xx 6 _ ps.length i 3 (Sts.cell hP partC_len part0 (k := i) (i := 0) (by omega) rfl).1 ?_
   refine xlv 0 (Sts.rp (k := i) (hP.below hB_1) partC_len part0 (by omega) (by decide)) ?_
   refine xa 0 [.int .i64 0, .int .i64 0, .int .i64 0] 134 fun b3 W3 n3 => ?_
   have g3 := n3.ge hB_1
   refine xsv 0 n3.blk [.int .i64 (↑(ps.getD i part0).1 : Int), .int .i64 ((ps.getD i part0).2.1), .int .i64 ((ps.getD i part0).2.2)] fun W4 u4 k4 => ?_
   refine xb 6 0 k4 ?_
   refine xbs 0 1 [.int .i64 (↑(ps.getD i part0).1 : Int)] 3 fun b5 W5 n5 => ?_
   have hB'1 := u4.below (Bl.next hB_1 n3.below) g3
   have g5 := n5.ge hB'1
   have ho'1 := u4.own2 (own_below ho n3.below) n3.blk (by decide)
   have r5_ho := own_ne ho'1 n5
   have ho'2 := own_below ho'1 n5.below
   have hB'2 := Bl.next hB'1 n5.below
   refine xbi 0 fun _ _ _ _ zJ zQ zo zx zy zK => op_app (m := 1) (news := [.int .i64 (↑(ps.getD i part0).1 : Int)]) (.int .i64 0) 1 8 (i + 1) (((wids ps (i + 1)).map nv)) zo Tryz.underlying24 (by kernel_rfl) rfl (by decide) zx ho'2 zy (n5.blk.sl 1 1 (by decide) (by decide)) rfl (by simp [Value.oneCell']) (by unfold maxLen; omega) (by omega) hB'2.size (by rfl) (by rw [wids_succ, List.map_append]; rfl) fun px6 cx6 W6 o6 hg6 hb6 => ?_
   refine zK _ _ ?_
   have k4'1 := (k4.below n5.below).grown hg6 ho'2 (by decide)
   refine xb 6 0 k4'1 ?_
   refine xwm 0 ((↑(wids ps i).sum : Int) + (↑(ps.getD i part0).1 : Int)) (↑((wids ps i).sum + ((ps.getD i part0).1)) : Int) ?_
   refine xwm 5 ((↑i : Int) + 1) (↑(i + 1) : Int) ?_
   refine xv1 2 7 (show (.int .i64 (↑((wids ps i).sum + ((ps.getD i part0).1)) : Int) : Value) = .int .i64 (↑(wids ps (i + 1)).sum : Int) from by rw [wids_succ]; simp) ?_
   have hB'3 := hB'2.trans hb6
   exact ze 0 (hJ1 _ _ _ ⟨i + 1, _, _, rfl, rfl, hB'3, o6, by omega, by rw [wids_succ, List.sum_append, List.sum_cons, List.sum_nil]; have := hwd (by omega); omega⟩ (by omega))
 refine xk 14 (show (((↑s.length : Int) != (↑(wids ps i).sum : Int)) : Bool) = true from bne_iff_ne.2 (by rw [show i = ps.length by omega]; omega)) ?_
 refine xmk 4 fun _ _ _ _ zJ zQ zo zx zy zK => op_make ps.length (.int .i64 0) 1 8 ((List.replicate ps.length 0).map nv) zo zx zy Tryz.underlying24 (by kernel_rfl) rfl (by omega) (by omega) (zeros_nv _) fun b7 W7 n7 => ?_
 have g7 := n7.ge hB_1
 have r7_ho := own_ne ho n7
 refine zK _ _ ?_
 have hB'4 := Bl.next hB_1 n7.below
 have o7 := own_of_blk (size := 1) (n := ps.length) n7.blk g7 (by simp) (by unfold maxLen; omega)
 refine xe 6 (.tuple #[.slice (some ⟨b7, 0, none⟩) ps.length ps.length, .int .i64 7]) ?_
 have he : readE ps s = 7 := if_neg hsl
 exact ⟨_, rfl, hB'4, _, _, by rw [he], by rw [readV, if_neg (by rw [he]; decide)]; exact o7⟩
theorem sl_w {w : World} {v : Value} {n m : Nat} {xs : List Value} (h : Sl w v n xs) (e : m = n) : Sl w v m xs := by subst e; exact h
def UnpP (s : List UInt8) (ws : List Nat) (n : Nat) (W : World) (e : Ending) (w' : World) : Prop :=
  ((¬ ∀ i, i < ws.length → (unpL s 0 ws).getD i 0 < 9223372036854775808) ∧ e = .returned (.tuple #[.slice none 0 0, .int .i64 2]) ∧ Below W.heap.size W w') ∨
  ((∀ i, i < ws.length → (unpL s 0 ws).getD i 0 < 9223372036854775808) ∧ ∃ p c, e = .returned (.tuple #[.slice p n c, .int .i64 0]) ∧ Below W.heap.size W w' ∧ w'.ownsRow W.heap.size 3 1 (.slice p n c) n ((unpL s 0 ws).map nv))
theorem Unpack_P (a : Option Addr) (n c m : Nat) (s : List UInt8) (aw : Option Addr) (cw : Nat) (ws : List Nat) (W : World) (hn : s.length = n) (hm : ws.length = m) (hk : ∀ i, i < ws.length → ws.getD i 0 = 1 ∨ ws.getD i 0 = 2 ∨ ws.getD i 0 = 4 ∨ ws.getD i 0 = 8) (hs : ws.sum ≤ n) (hl : n ≤ 100000000) (hw : m ≤ 1000) (h : Bys W (.slice a n c) s) (hws : Sl W (.slice aw m cw) m (ws.map nv)) :
    Calls Tryz.prog 98 #[.slice a n c, .slice aw m cw] W (UnpP s ws m W) := by
  subst hn hm
  by_cases hq : ∀ i, i < ws.length → (unpL s 0 ws).getD i 0 < 9223372036854775808
  · refine (Unpack_ok a c s aw cw ws W hk hs hl hw h hws hq).mono ?_
    rintro e V ⟨_, rfl, hb, p, c2, rfl, ho⟩
    exact .inr ⟨hq, p, c2, rfl, hb, ho⟩
  · refine (Unpack_bad a c s aw cw ws W hk hs hl hw h hws hq).mono ?_
    rintro e V ⟨rfl, hb⟩
    exact .inl ⟨hq, rfl, hb⟩
theorem rawsI_len (ps : List Part) (s : List UInt8) (k : Nat) : ((unpL s 0 (wids ps k)).map fun n : Nat => (n : Int)).length = k := by rw [List.length_map, unpL_len, wids_len]
theorem value_putR2 (ps : List Part) (N : List Int) (gl gn : Option Addr) (cl cn n : Nat) (w : World) (hps : PartsOk ps) (hn : n = ps.length) (hNl : N.length = n) (hP : Sts partC w (.slice gl ps.length cl) ps) (hN : Sl w (.slice gn n cn) n (N.map (Value.int .i64))) :
    Calls Tryz.prog 54 #[.slice gl ps.length cl, .slice gn n cn] w (fun e w' => (allIn ps N n = false ∧ e = .returned (.string ⟨#[]⟩) ∧ Below w.heap.size w w') ∨ (allIn ps N n = true ∧ e = .returned (.string ⟨(putL ps N ps.length).toArray⟩) ∧ Below w.heap.size w w')) := by
  subst hn; exact value_putG ps N gl gn cl cn w hps hNl hP hN
set_option maxRecDepth 100000 in
set_option maxHeartbeats 4000000 in
theorem value_readG_in (ps : List Part) (s : List UInt8) (gl : Option Addr) (cl : Nat) (w : World) (hps : PartsOk ps) (h0 : 0 < ps.length) (hs : s.length ≤ 100000) (hP : Sts partC w (.slice gl ps.length cl) ps) (hsl : s.length = (wids ps ps.length).sum) :
    Calls Tryz.prog 87 #[.slice gl ps.length cl, .string ⟨s.toArray⟩] w (RetS (fun w' r => ∃ p c, r = .tuple #[.slice p ps.length c, .int .i64 (readE ps s)] ∧ w'.ownsRow w.heap.size 3 1 (.slice p ps.length c) ps.length ((readV ps s).map nv)) w) := by
 have hpl := hps.1
 refine zin 54 Tryz.func87 ?_
 have hB := Below.refl w.heap.size w
 refine zl 25 54 (fun zm zkv V => ∃ (i : Nat) (q : Option Addr) (d : Nat), zkv = [(0, .slice gl ps.length cl), (1, .string ⟨s.toArray⟩), (4, .slice none 0 0), (5, .int .i64 0), (6, .slice q i d), (7, .int .i64 (↑(wids ps i).sum : Int)), (12, .slice gl ps.length cl), (13, .int .i64 (↑ps.length : Int)), (14, .int .i64 (↑i : Int))] ∧ zm = ps.length - ((↑i : Int)).toNat ∧ Below w.heap.size w V ∧ V.ownsRow w.heap.size 3 1 (.slice q i d) i ((wids ps i).map nv) ∧ i ≤ ps.length ∧ (wids ps i).sum ≤ i * 8) ⟨0, _, _, rfl, rfl, hB, World.ownsRow_nil _ _ _ _, Nat.zero_le _, Nat.zero_le _⟩ ?_
 rintro _ _ W1 ⟨i, q, d, rfl, rfl, hB_1, ho, hi, hm2⟩ J1 hJ1 r1
 have hwd : i < ps.length → (ps.getD i part0).1 ≤ 8 := fun q => by have := (hps.2 i q).1; omega
 refine xid 6 ((↑i : Int) < (↑ps.length : Int)) (fun hc2 => ?_) (fun hc2 => ?_)
 · refine xx 6 _ ps.length i 3 (Sts.cell hP partC_len part0 (k := i) (i := 0) (by omega) rfl).1 ?_
   refine xlv 0 (Sts.rp (k := i) (hP.below hB_1) partC_len part0 (by omega) (by decide)) ?_
   refine xa 0 [.int .i64 0, .int .i64 0, .int .i64 0] 134 fun b3 W3 n3 => ?_
   have g3 := n3.ge hB_1
   refine xsv 0 n3.blk [.int .i64 (↑(ps.getD i part0).1 : Int), .int .i64 ((ps.getD i part0).2.1), .int .i64 ((ps.getD i part0).2.2)] fun W4 u4 k4 => ?_
   refine xb 6 0 k4 ?_
   refine xbs 0 1 [.int .i64 (↑(ps.getD i part0).1 : Int)] 3 fun b5 W5 n5 => ?_
   have hB'1 := u4.below (Bl.next hB_1 n3.below) g3
   have g5 := n5.ge hB'1
   have ho'1 := u4.own2 (own_below ho n3.below) n3.blk (by decide)
   have r5_ho := own_ne ho'1 n5
   have ho'2 := own_below ho'1 n5.below
   have hB'2 := Bl.next hB'1 n5.below
   refine xbi 0 fun _ _ _ _ zJ zQ zo zx zy zK => op_app (m := 1) (news := [.int .i64 (↑(ps.getD i part0).1 : Int)]) (.int .i64 0) 1 8 (i + 1) (((wids ps (i + 1)).map nv)) zo Tryz.underlying24 (by kernel_rfl) rfl (by decide) zx ho'2 zy (n5.blk.sl 1 1 (by decide) (by decide)) rfl (by simp [Value.oneCell']) (by unfold maxLen; omega) (by omega) hB'2.size (by rfl) (by rw [wids_succ, List.map_append]; rfl) fun px6 cx6 W6 o6 hg6 hb6 => ?_
   refine zK _ _ ?_
   have k4'1 := (k4.below n5.below).grown hg6 ho'2 (by decide)
   refine xb 6 0 k4'1 ?_
   refine xwm 0 ((↑(wids ps i).sum : Int) + (↑(ps.getD i part0).1 : Int)) (↑((wids ps i).sum + ((ps.getD i part0).1)) : Int) ?_
   refine xwm 5 ((↑i : Int) + 1) (↑(i + 1) : Int) ?_
   refine xv1 2 7 (show (.int .i64 (↑((wids ps i).sum + ((ps.getD i part0).1)) : Int) : Value) = .int .i64 (↑(wids ps (i + 1)).sum : Int) from by rw [wids_succ]; simp) ?_
   have hB'3 := hB'2.trans hb6
   exact ze 0 (hJ1 _ _ _ ⟨i + 1, _, _, rfl, rfl, hB'3, o6, by omega, by rw [wids_succ, List.sum_append, List.sum_cons, List.sum_nil]; have := hwd (by omega); omega⟩ (by omega))
 refine xk 14 (show (((↑s.length : Int) != (↑(wids ps i).sum : Int)) : Bool) = false from by rw [show i = ps.length by omega, hsl]; simp) ?_
 refine xcf 5 fun _ _ _ zJ zQ zo zx zK => op_strBytes s zo zx Tryz.underlying9 Tryz.underlying45 Tryz.underlying5 (by omega) ?_
 intro bz cz W7 hb7 hbz
 refine zK _ _ ?_
 have ho'3 := own_below ho hb7
 refine xc 1 (args := #[.slice (some ⟨bz, 0, none⟩) s.length cz, .slice q i d]) (Unpack_P (some ⟨bz, 0, none⟩) s.length cz i s q d (wids ps i) _ rfl (wids_len ps i) (fun j hj => by rw [wids_len] at hj; rw [wids_get ps hj]; have := (hps.2 j (by omega)).1; omega) (by rw [show i = ps.length by omega]; omega) (by omega) (by omega) hbz (own_sl ho'3)) ?_
 rintro e W8 hq8
 rcases hq8 with ⟨hq, rfl, hb8⟩ | ⟨hq, p5, c5, rfl, hb8, h5⟩
 · have hie : i = ps.length := by omega
   have hno : readOk ps s = false := by rw [← Bool.not_eq_true]; intro q; exact hq (by rw [hie]; exact readOk_lt hps q)
   refine xmk 25 fun _ _ _ _ zJ zQ zo zx zy zK => op_make ps.length (.int .i64 0) 1 8 ((List.replicate ps.length 0).map nv) zo zx zy Tryz.underlying24 (by kernel_rfl) rfl (by omega) (by omega) (zeros_nv _) fun b9 W9 n9 => ?_
   have hB'4 := Bl.next (Bl.next hB_1 hb7) hb8
   have g9 := n9.ge hB'4
   have ho'4 := own_below ho'3 hb8
   have r9_ho := own_ne ho'4 n9
   refine zK _ _ ?_
   have hB'5 := Bl.next hB'4 n9.below
   have o9 := own_of_blk (size := 1) (n := ps.length) n9.blk g9 (by simp) (by unfold maxLen; omega)
   refine xe 6 (.tuple #[.slice (some ⟨b9, 0, none⟩) ps.length ps.length, .int .i64 2]) ?_
   have he : readE ps s = 2 := by unfold readE; rw [if_pos hsl, if_neg (by rw [hno]; decide)]
   exact ⟨_, rfl, hB'5, _, _, by rw [he], by rw [readV, if_neg (by rw [he]; decide)]; exact o9⟩
 have hs8 := (Bl.next hB_1 hb7).size
 have hie : i = ps.length := by omega
 have h5'1 := own_mono h5 hs8
 have hN5 : Sl (W8) (.slice p5 i c5) i (((unpL s 0 (wids ps i)).map fun n : Nat => (n : Int)).map (Value.int .i64)) := by have q := own_sl h5'1; rw [map_nv] at q; exact q
 have hB'6 := Bl.next (Bl.next hB_1 hb7) hb8
 refine xc 15 (args := #[.slice gl ps.length cl, .slice p5 i c5]) (value_putR2 ps ((unpL s 0 (wids ps i)).map fun n : Nat => (n : Int)) gl p5 cl c5 i _ hps hie (rawsI_len ps s i) (hP.below hB'6) hN5) ?_
 rintro e W10 hq10
 rcases hq10 with ⟨hin, rfl, hb10⟩ | ⟨hin, rfl, hb10⟩
 · have hno : readOk ps s = false := by unfold readOk rawsL; rw [← hie]; exact hin
   refine xmk 9 fun _ _ _ _ zJ zQ zo zx zy zK => op_make ps.length (.int .i64 0) 1 8 ((List.replicate ps.length 0).map nv) zo zx zy Tryz.underlying24 (by kernel_rfl) rfl (by omega) (by omega) (zeros_nv _) fun b11 W11 n11 => ?_
   have hB'7 := Bl.next hB'6 hb10
   have g11 := n11.ge hB'7
   have ho'5 := own_below (own_below ho'3 hb8) hb10
   have r11_ho := own_ne ho'5 n11
   have h5'2 := own_below h5'1 hb10
   have r11_h5 := own_ne h5'2 n11
   refine zK _ _ ?_
   have hB'8 := Bl.next hB'7 n11.below
   have o11 := own_of_blk (size := 1) (n := ps.length) n11.blk g11 (by simp) (by unfold maxLen; omega)
   refine xe 6 (.tuple #[.slice (some ⟨b11, 0, none⟩) ps.length ps.length, .int .i64 2]) ?_
   have he : readE ps s = 2 := by unfold readE; rw [if_pos hsl, if_neg (by rw [hno]; decide)]
   exact ⟨_, rfl, hB'8, _, _, by rw [he], by rw [readV, if_neg (by rw [he]; decide)]; exact o11⟩
 have hyes : readOk ps s = true := by unfold readOk rawsL; rw [← hie]; exact hin
 refine xk 4 (show (((⟨(putL ps ((unpL s 0 (wids ps i)).map fun n : Nat => (n : Int)) ps.length).toArray⟩ : ByteArray).toList == (⟨#[]⟩ : ByteArray).toList) : Bool) = false from putL_ne hps h0) ?_
 have hB'9 := Bl.next hB'6 hb10
 have h5'3 := own_below h5'1 hb10
 refine xe 10 (.tuple #[.slice p5 i c5, .int .i64 0]) ?_
 have he : readE ps s = 0 := by unfold readE; rw [if_pos hsl, if_pos hyes]
 subst hie
 exact ⟨_, rfl, hB'9, _, _, by rw [he], by rw [readV, if_pos he]; exact h5'3⟩
theorem value_readG (ps : List Part) (s : List UInt8) (gl : Option Addr) (cl : Nat) (w : World) (hps : PartsOk ps) (h0 : 0 < ps.length) (hs : s.length ≤ 100000) (hP : Sts partC w (.slice gl ps.length cl) ps) :
    Calls Tryz.prog 87 #[.slice gl ps.length cl, .string ⟨s.toArray⟩] w (RetS (fun w' r => ∃ p c, r = .tuple #[.slice p ps.length c, .int .i64 (readE ps s)] ∧ w'.ownsRow w.heap.size 3 1 (.slice p ps.length c) ps.length ((readV ps s).map nv)) w) := by
  by_cases h : s.length = (wids ps ps.length).sum
  · exact value_readG_in ps s gl cl w hps h0 hs hP h
  · exact value_readG_len ps s gl cl w hps h0 hs hP h
end Go.Proofs.YtbhjgcokpmiopaaGreat
namespace Go.Proofs.YtbhjgcokpmiopaaGreat
open Go.RowKit
set_option linter.unusedVariables false
section
variable {P : Program} {a : Act}
theorem str_ext (l : List UInt8) (b c : Nat) : (ByteArray.mk l.toArray).extract b c = ByteArray.mk ((l.drop b).take (c - b)).toArray := ByteArray.extract_mk l b c
theorem run_strH {o : Oper} {t : TypeId} {x y : Operand} {l : List UInt8} {k : Nat} {j : Int} {kj : IntKind} (ho : o.op = .slice t x none (some y) none) (hx : a.eval x = .string ⟨l.toArray⟩) (hy : a.eval y = .int kj j) (hj : j = (k : Int)) (hk : k ≤ l.length)
    (ht : P.underlying t = some .string) (w : World) : (execOp a.eval o).run P w = .ok (.value (.string ⟨(l.take k).toArray⟩)) w := by
  subst hj
  have hs : ((k : Int)) ≤ ((⟨l.toArray⟩ : ByteArray).size : Int) := by simp [ByteArray.size]; omega
  have h := run_slice_string_h (P := P) (w := w) (t := t) (s := ⟨l.toArray⟩) ht kj (k : Int) (by omega) hs
  rw [str_ext, List.drop_zero, Int.toNat_natCast, Nat.sub_zero] at h
  simp only [execOp, ho, hx, Option.map_some, Option.map_none, hy]
  simp [run_sliceAt_string, ht, h]
theorem run_strL {o : Oper} {t : TypeId} {x y : Operand} {l : List UInt8} {k : Nat} {j : Int} {kj : IntKind} (ho : o.op = .slice t x (some y) none none) (hx : a.eval x = .string ⟨l.toArray⟩) (hy : a.eval y = .int kj j) (hj : j = (k : Int)) (hk : k ≤ l.length)
    (ht : P.underlying t = some .string) (w : World) : (execOp a.eval o).run P w = .ok (.value (.string ⟨(l.drop k).toArray⟩)) w := by
  subst hj
  have hs : ((k : Int)) ≤ ((⟨l.toArray⟩ : ByteArray).size : Int) := by simp [ByteArray.size]; omega
  have h := run_slice_string_l (P := P) (w := w) (t := t) (s := ⟨l.toArray⟩) ht kj (k : Int) (by omega) hs
  rw [str_ext, Int.toNat_natCast, show (⟨l.toArray⟩ : ByteArray).size = l.length by simp [ByteArray.size], List.take_of_length_le (by simp)] at h
  simp only [execOp, ho, hx, Option.map_some, Option.map_none, hy]
  simp [run_sliceAt_string, ht, h]
end
end Go.Proofs.YtbhjgcokpmiopaaGreat
namespace Go.Proofs.YtbhjgcokpmiopaaGreat
open Go.RowKit Go.Extern.Stop Go.Stop Go.Extern
set_option linter.unusedVariables false
attribute [local irreducible] wpList wpAnyH Code.wp Oper.wp Go

section
variable {P : Program} {a : Act}
theorem run_shrU8 {o : Oper} {t t2 : TypeId} {x y : Operand} {n s : Nat} {j : Int} {kj : IntKind} (ho : o.op = .binOp .shr t x y t2) (hx : a.eval x = .int .u8 (n : Int)) (hy : a.eval y = .int kj j) (hj : j = (s : Int)) (hs : s ≤ 8) (w : World) : (execOp a.eval o).run P w = .ok (.value (.int .u8 ((n / 2 ^ s : Nat) : Int))) w := by
  subst hj
  have e := shift_shr_u8 kj (n : Int) (s : Int) (Int.natCast_nonneg s) (by omega)
  simp only [execOp, ho, hx, hy, eqGuard_shr, binOp_shr, e]
  simp
end
theorem Get_okN (a : Option Addr) (n c k w : Nat) (ki wi : Int) (l : List UInt8) (W : World) (hn : l.length = n) (hki : ki = (k : Int)) (hwi : wi = (w : Int)) (hw : w = 1 ∨ w = 2 ∨ w = 4) (hk : k + w ≤ n) (hl : n ≤ 100000000) (h : Bys W (.slice a n c) l) :
    Calls Tryz.prog 49 #[.slice a n c, .int .i64 ki, .int .i64 wi] W (Ret (.tuple #[.int .i64 (rawN l k w : Int), .int .i64 0]) W) := by
  subst hn hki hwi; exact Get_ok a c k w l W (by omega) hk hl h (by have := rawN_lt4 l k w (by omega); omega)
/-- the i-th count of a block of bits -/
def bitN (l : List UInt8) (i : Nat) : Nat := (l.getD (4 + i / 4) 0).toNat / 2 ^ (i % 4 * 2) % 4
theorem i64_and3 {n : Nat} (h : n < 9223372036854775808) : IntKind.i64.wrap (↑(BitVec.ofInt 64 (n : Int) &&& BitVec.ofInt 64 (3 : Int)).toNat : Int) = ((n % 4 : Nat) : Int) := by
  rw [show (3 : Int) = ((3 : Nat) : Int) from rfl, BitVec.ofInt_natCast, BitVec.ofInt_natCast, BitVec.toNat_and, BitVec.toNat_ofNat, BitVec.toNat_ofNat, Nat.mod_eq_of_lt (by omega), Nat.mod_eq_of_lt (by omega)]
  rw [show n &&& 3 = n % 4 from Nat.and_two_pow_sub_one_eq_mod n 2]
  exact i64_nat (by omega)
theorem quo_natB (n k : Nat) (hn : n < 9223372036854775808) (hk : 0 < k) : IntKind.i64.wrap (Int.tdiv (n : Int) (k : Int)) = ((n / k : Nat) : Int) := by
  rw [Int.tdiv_eq_ediv_of_nonneg (Int.natCast_nonneg _), ← Int.natCast_ediv]
  exact i64_nat (Nat.lt_of_le_of_lt (Nat.div_le_self _ _) hn)
theorem tmod_natB (n k : Nat) : Int.tmod (n : Int) (k : Int) = ((n % k : Nat) : Int) := by
  rw [Int.tmod_eq_emod_of_nonneg (Int.natCast_nonneg _), ← Int.natCast_emod]
theorem shr_lt (l : List UInt8) (k s : Nat) : (l.getD k 0).toNat / 2 ^ s < 256 := Nat.lt_of_le_of_lt (Nat.div_le_self _ _) (l.getD k 0).toNat_lt
def bitsL (l : List UInt8) (n : Nat) : List Nat := (List.range n).map (bitN l)
theorem bitsL_snoc (l : List UInt8) (n : Nat) : bitsL l (n + 1) = bitsL l n ++ [bitN l n] := by simp [bitsL, List.range_succ]
/-- whether bytes are a block of counts -/
def bitsOk (l : List UInt8) : Prop := l.length = 244 ∧ rawN l 0 4 ≤ 960 ∧ ∀ i, i < 960 → rawN l 0 4 ≤ i → bitN l i = 0
def BitsP (l : List UInt8) (w : World) (e : Ending) (w' : World) : Prop :=
  (¬ bitsOk l ∧ e = .returned (.tuple #[.slice none 0 0, .int .i64 7]) ∧ Below w.heap.size w w') ∨
  (bitsOk l ∧ ∃ p c, e = .returned (.tuple #[.slice p (rawN l 0 4) c, .int .i64 0]) ∧ Below w.heap.size w w' ∧ w'.ownsRow w.heap.size 3 1 (.slice p (rawN l 0 4) c) (rawN l 0 4) ((bitsL l (rawN l 0 4)).map nv))
set_option maxRecDepth 100000 in
set_option maxHeartbeats 2000000 in
theorem bits_Read (a : Option Addr) (c : Nat) (l : List UInt8) (w : World) (hl : l.length ≤ 100000000) (h : Bys w (.slice a l.length c) l) :
    Calls Tryz.prog 29 #[.slice a l.length c] w (BitsP l w) := by
 refine zin 47 Tryz.func29 ?_
 refine xin 14 (↑l.length : Int) (244 : Int) (fun hc1 => ?_) (fun hc1 => ?_)
 · exact xe 8 (.tuple #[.slice none 0 0, .int .i64 7]) (.inl ⟨fun h => by have := h.1; omega, rfl, (Below.refl w.heap.size _)⟩)
 refine xr 5 (args := #[.slice a l.length c, .int .i64 0, .int .i64 4]) (Get_okN a l.length c 0 4 0 4 l _ rfl rfl rfl (by decide) (by omega) hl (h.below (Below.refl w.heap.size _))) fun W2 hb2 => ?_
 refine xid 14 ((↑(rawN l 0 4) : Int) > (960 : Int)) (fun hc3 => ?_) (fun hc3 => ?_)
 · exact xe 8 (.tuple #[.slice none 0 0, .int .i64 7]) (.inl ⟨fun h => by have := h.2.1; omega, rfl, hb2⟩)
 refine zl 14 47 (fun zm zkv V => ∃ (i m : Nat) (p : Option Addr) (c2 : Nat), zkv = [(0, .slice a l.length c), (4, .int .i64 (↑(rawN l 0 4) : Int)), (6, .slice p m c2), (19, .int .i64 (↑i : Int))] ∧ zm = 960 - ((↑i : Int)).toNat ∧ Below w.heap.size w V ∧ V.ownsRow w.heap.size 3 1 (.slice p m c2) m ((bitsL l m).map nv) ∧ i ≤ 960 ∧ m = min i (rawN l 0 4) ∧ (∀ j, j < i → rawN l 0 4 ≤ j → bitN l j = 0)) ⟨0, 0, _, _, rfl, rfl, hb2, World.ownsRow_nil _ _ _ _, Nat.zero_le _, by omega, ?_⟩ ?_
 · exact fun j hj => absurd hj (by omega)
 rintro _ _ W4 ⟨i, m, p, c2, rfl, rfl, hB_4, ho, hi, hm, hz⟩ J4 hJ4 r4
 refine xid 6 ((↑i : Int) < (960 : Int)) (fun hc5 => ?_) (fun hc5 => ?_)
 · refine xq 14 (congrArg (Value.int .i64) (show (IntKind.i64.wrap (Int.tdiv (↑i : Int) 4) : Int) = (↑(i / 4) : Int) from quo_natB i 4 (by omega) (by decide))) ?_
   refine xwm 0 (4 + (↑(i / 4) : Int)) (↑(4 + (i / 4)) : Int) ?_
   refine xx 0 _ l.length (4 + (i / 4)) 1 (Bys.elem h (k := (4 + (i / 4))) (by omega)).1 ?_
   refine xl 0 ((Bys.elem (h.below hB_4) (k := (4 + (i / 4))) (by omega)).2) ?_
   refine xq 1 (congrArg (Value.int .i64) (show (Int.tmod (↑i : Int) 4 : Int) = (↑(i % 4) : Int) from tmod_natB i 4)) ?_
   refine xwm 0 ((↑(i % 4) : Int) * 2) (↑((i % 4) * 2) : Int) ?_
   refine xbo 0 (t := 5) (t2 := 3) (fun _ _ _ _ zo zx zy V hV => run_shrU8 (n := ((l.getD (4 + (i / 4)) 0).toNat)) (s := ((i % 4) * 2)) (kj := .i64) (j := (↑((i % 4) * 2) : Int)) zo zx zy rfl (by omega) V) ?_
   refine xq 0 (congrArg (Value.int .i64) (show (IntKind.i64.wrap (↑((l.getD (4 + (i / 4)) 0).toNat / 2 ^ ((i % 4) * 2)) : Int) : Int) = (↑((l.getD (4 + (i / 4)) 0).toNat / 2 ^ ((i % 4) * 2)) : Int) from i64_nat (by have := shr_lt l (4 + i / 4) (i % 4 * 2); omega))) ?_
   refine xq 0 (congrArg (Value.int .i64) (show (IntKind.i64.wrap (↑(BitVec.ofInt 64 (↑((l.getD (4 + (i / 4)) 0).toNat / 2 ^ ((i % 4) * 2)) : Int) &&& BitVec.ofInt 64 (3 : Int)).toNat : Int) : Int) = (↑(bitN l i) : Int) from i64_and3 (by have := shr_lt l (4 + i / 4) (i % 4 * 2); omega))) ?_
   refine xid 12 ((↑i : Int) < (↑(rawN l 0 4) : Int)) (fun hc6 => ?_) (fun hc6 => ?_)
   · refine xbs 3 1 [.int .i64 (↑(bitN l i) : Int)] 3 fun b7 W7 n7 => ?_
     have r7_ho := own_ne ho n7
     have ho'1 := own_below ho n7.below
     have hB'1 := Bl.next hB_4 n7.below
     refine xbi 0 fun _ _ _ _ zJ zQ zo zx zy zK => op_app (m := 1) (news := [.int .i64 (↑(bitN l i) : Int)]) (.int .i64 0) 1 8 (m + 1) ((bitsL l (m + 1)).map nv) zo Tryz.underlying24 (by kernel_rfl) rfl (by decide) zx ho'1 zy (n7.blk.sl 1 1 (by decide) (by decide)) rfl (by simp [Value.oneCell']) (by unfold maxLen; omega) (by omega) hB'1.size (by rfl) (by rw [bitsL_snoc, List.map_append, show m = i by omega]; rfl) fun p8 c8 W8 o8 hg8 hb8 => ?_
     refine zK _ _ ?_
     refine xwm 6 ((↑i : Int) + 1) (↑(i + 1) : Int) ?_
     have hB'2 := hB'1.trans hb8
     exact ze 2 (hJ4 _ _ _ ⟨i + 1, m + 1, _, _, rfl, rfl, hB'2, o8, by omega, by omega, fun j hj hc => (Nat.lt_or_ge j i).elim (fun q => hz j q hc) (fun q => by obtain rfl : j = i := (by omega); omega)⟩ (by omega))
   refine xin 7 (↑(bitN l i) : Int) (0 : Int) (fun hc9 => ?_) (fun hc9 => ?_)
   · exact xe 13 (.tuple #[.slice none 0 0, .int .i64 7]) (.inl ⟨fun h => by have := h.2.2 i (by omega) (by omega); omega, rfl, hB_4⟩)
   refine xwm 5 ((↑i : Int) + 1) (↑(i + 1) : Int) ?_
   exact ze 2 (hJ4 _ _ _ ⟨i + 1, m, _, _, rfl, rfl, hB_4, ho, by omega, by omega, fun j hj hc => (Nat.lt_or_ge j i).elim (fun q => hz j q hc) (fun q => by obtain rfl : j = i := (by omega); omega)⟩ (by omega))
 refine xe 13 (.tuple #[.slice p m c2, .int .i64 0]) ?_
 obtain rfl : m = rawN l 0 4 := by omega
 exact .inr ⟨⟨by omega, by omega, fun j hj hc => hz j (by omega) hc⟩, _, _, rfl, hB_4, ho⟩
end Go.Proofs.YtbhjgcokpmiopaaGreat
namespace Go.Proofs.YtbhjgcokpmiopaaGreat
open Go.RowKit
theorem Blk.ty {w : World} {b : Nat} {cs cs' : List Value} {t t' : TypeId} (k : Blk w b cs t) (q : Blk w b cs' t') : t = t' := by
  have h1 : w.heap[b]? = some (.cells cs.toArray t (0, 0)) := k
  have h2 : w.heap[b]? = some (.cells cs'.toArray t' (0, 0)) := q
  rw [h1] at h2
  simp only [Option.some.injEq, Obj.cells.injEq] at h2
  exact h2.2.1
theorem ErrV.upd {w W : World} {b : Nat} {cs : List Value} {t : TypeId} {l : List (Option Int)} {c : Option Int} {v : Value} (h : ErrV w l c v) (u : Upd w b W) (k : Blk w b cs t) (hne : t ≠ 148) : ErrV W l c v :=
  h.kept fun _ _ q => u.blk q (by rintro rfl; exact hne (k.ty q))
theorem ErrV.grown {w W : World} {e : TypeId} {base size n : Nat} {s : Value} {xs : List Value} {l : List (Option Int)} {c : Option Int} {v : Value} (h : ErrV w l c v) (hg : w.grownBy W s.ownBlock) (hown : w.ownsRow base e size s n xs) (hne : e ≠ 148) : ErrV W l c v :=
  h.kept fun _ _ q => q.grown hg hown hne
theorem ErrV.only {T : List TypeId} {w W : World} {l : List (Option Int)} {c : Option Int} {v : Value} (h : ErrV w l c v) (k : Only T w W) (hne : T.contains 148 = false) : ErrV W l c v := h.kept fun _ _ q => q.only k hne
end Go.Proofs.YtbhjgcokpmiopaaGreat
namespace Go.Proofs.YtbhjgcokpmiopaaGreat
open Go.RowKit Go.Extern.Stop Go.Stop Go.Extern
set_option linter.unusedVariables false
attribute [local irreducible] wpList wpAnyH Code.wp Oper.wp Go

/-- an image at block b, its bytes l in a row of its own -/
structure ImgR (B b : Nat) (p : Option Addr) (n c : Nat) (l : List UInt8) (w : World) : Prop where
  blk : Blk w b [.slice p n c] 71
  row : w.ownsRow B 5 1 (.slice p n c) n (l.map bv)
  hn : n ≤ 3686400
theorem ImgR.below {B b : Nat} {p : Option Addr} {n c : Nat} {l : List UInt8} {w W : World} (h : ImgR B b p n c l w) (hb : Below w.heap.size w W) : ImgR B b p n c l W := ⟨h.blk.below hb, own_below h.row hb, h.hn⟩
theorem ImgR.only {B b : Nat} {p : Option Addr} {n c : Nat} {l : List UInt8} {w W : World} {T : List TypeId} (h : ImgR B b p n c l w) (hO : Only T w W) (hT : T.contains 71 = false ∧ T.contains 5 = false) : ImgR B b p n c l W := ⟨h.blk.only hO hT.1, own_only h.row hO hT.2, h.hn⟩
theorem ImgR.len {B b : Nat} {p : Option Addr} {n c : Nat} {l : List UInt8} {w : World} (h : ImgR B b p n c l w) : l.length = n := by have := h.row.1; simpa using this
theorem ImgR.base {B b : Nat} {p : Option Addr} {n c : Nat} {l : List UInt8} {w : World} (h : ImgR B b p n c l w) (hn : 0 < n) : ∃ g, p = some ⟨g, 0, none⟩ ∧ n ≤ c := by
  rcases h.row.2 with ⟨_, h0⟩ | ⟨g, cap, cur, hv, _, _, hc, _⟩
  · omega
  · simp only [Value.slice.injEq] at hv
    obtain ⟨rfl, _, rfl⟩ := hv
    exact ⟨g, rfl, hc⟩
/-- the bytes of a block -/
def blkB (l : List UInt8) (j : Nat) : List UInt8 := (l.drop (j * 256)).take 256
theorem blkB_len {l : List UInt8} {j : Nat} (h : j < l.length / 256) : (blkB l j).length = 256 := by simp [blkB]; omega
theorem Bys.mid {w : World} {g off n c : Nat} {l : List UInt8} (h : Bys w (.slice (some ⟨g, off, none⟩) n c) l) (hl : l.length = n) (k m : Nat) (hm : 0 < m) (hk : k + m ≤ n) : Bys w (.slice (some ⟨g, off + k, none⟩) m m) ((l.drop k).take m) := by
  have hlen : ((l.drop k).take m).length = m := by simp; omega
  rcases h with ⟨a', c', h1, h2, h3⟩ | ⟨g', off', cap, h1, h2, h3, h4⟩
  · omega
  · simp only [Value.slice.injEq, Option.some.injEq, Addr.mk.injEq] at h1
    obtain ⟨⟨rfl, rfl, _⟩, _, rfl⟩ := h1
    refine .inr ⟨g, off + k, m, by rw [hlen], by omega, by omega, fun j x hj => ?_⟩
    rw [List.getElem?_map, List.getElem?_take] at hj
    split at hj
    · rw [List.getElem?_drop] at hj
      have := h4 (k + j) x (by rw [List.getElem?_map]; exact hj)
      rwa [← Nat.add_assoc] at this
    · cases hj
theorem ImgR.part {B b g : Nat} {n c : Nat} {l : List UInt8} {w : World} (h : ImgR B b (some ⟨g, 0, none⟩) n c l w) {j : Nat} (hj : j < n / 256) : Bys w (.slice (some ⟨g, j * 256, none⟩) 256 256) (blkB l j) := by
  have := Bys.mid (bys_of (own_sl h.row) h.len) h.len (j * 256) 256 (by decide) (by omega)
  rwa [Nat.zero_add] at this
/-- what Read hands back -/
def ReadP (n : Nat) (l : List UInt8) (k : Int) (w : World) (e : Ending) (w' : World) : Prop :=
  (¬ (0 ≤ k ∧ k < (n / 256 : Nat)) ∧ ∃ v, e = .returned (.tuple #[v, .int .i64 3]) ∧ Below w.heap.size w w') ∨
  (∃ j : Nat, k = (j : Int) ∧ j < n / 256 ∧ ∃ p c, e = .returned (.tuple #[.slice p 256 c, .int .i64 0]) ∧ Below w.heap.size w w' ∧ w'.ownsRow w.heap.size 5 1 (.slice p 256 c) 256 ((blkB l j).map bv))
set_option maxRecDepth 100000 in
set_option maxHeartbeats 1000000 in
theorem image_block_out (b : Nat) (p : Option Addr) (n c : Nat) (k : Int) (w : World) (hk : Blk w b [.slice p n c] 71) (hn : n ≤ 100000000) (ho : ¬ (0 ≤ k ∧ k < (n / 256 : Nat))) :
    Calls Tryz.prog 72 #[.pointer (some ⟨b, 0, none⟩), .int .i64 k] w (Ret (.tuple #[.slice none 0 0, .int .i64 3]) w) := by
 refine zin 33 Tryz.func72 ?_
 refine xg 21 [13, 14] (decide (k < (0 : Int))) (fun hc1 => ?_) (fun hc1 => ?_)
 · have hc1 := of_decide_eq_true hc1
   exact xe 18 (.tuple #[.slice none 0 0, .int .i64 3]) ⟨rfl, (Below.refl w.heap.size _)⟩
 have hc1 := of_decide_eq_false hc1
 refine xr 2 (args := #[.pointer (some ⟨b, 0, none⟩)]) (image_Blocks b _ n c _ (hk.below (Below.refl w.heap.size _)) hn) fun W2 hb2 => ?_
 refine xk 5 (show (decide (k ≥ (↑(n / 256) : Int)) : Bool) = true from decide_eq_true (by omega)) ?_
 exact xe 9 (.tuple #[.slice none 0 0, .int .i64 3]) ⟨rfl, hb2⟩
set_option maxRecDepth 100000 in
set_option maxHeartbeats 1000000 in
theorem image_block_nil (k : Int) (w : World) :
    Calls Tryz.prog 72 #[.pointer none, .int .i64 k] w (Ret (.tuple #[.slice none 0 0, .int .i64 18]) w) := by
 refine zin 33 Tryz.func72 ?_
 exact xe 25 (.tuple #[.slice none 0 0, .int .i64 18]) ⟨rfl, (Below.refl w.heap.size _)⟩
set_option maxRecDepth 100000 in
set_option maxHeartbeats 1000000 in
theorem image_Read_nilp (k : Int) (w : World) :
    Calls Tryz.prog 46 #[.pointer none, .int .i64 k] w (RetS (fun _ r => ∃ v, r = .tuple #[v, .int .i64 18]) w) := by
 refine zin 17 Tryz.func46 ?_
 refine xr 10 (args := #[.pointer none, .int .i64 k]) (image_block_nil k _) fun W1 hb1 => ?_
 refine xc 10 (args := #[.slice none 0 0]) (clone_nil 0 _) ?_
 rintro _ W2 ⟨v2, rfl, hb2, _⟩
 have hB := Bl.next hb1 hb2
 exact xe 6 (.tuple #[v2, .int .i64 18]) ⟨_, rfl, hB, _, rfl⟩
set_option maxRecDepth 100000 in
set_option maxHeartbeats 1000000 in
theorem image_Read_out (B b : Nat) (p : Option Addr) (n c : Nat) (l : List UInt8) (k : Int) (w : World) (hI : ImgR B b p n c l w) (ho : ¬ (0 ≤ k ∧ k < (n / 256 : Nat))) :
    Calls Tryz.prog 46 #[.pointer (some ⟨b, 0, none⟩), .int .i64 k] w (RetS (fun _ r => ∃ v, r = .tuple #[v, .int .i64 3]) w) := by
 refine zin 17 Tryz.func46 ?_
 refine xr 10 (args := #[.pointer (some ⟨b, 0, none⟩), .int .i64 k]) (image_block_out b p n c k _ (hI.below (Below.refl w.heap.size _)).blk (by have := hI.hn; omega) ho) fun W1 hb1 => ?_
 refine xc 10 (args := #[.slice none 0 0]) (clone_nil 0 _) ?_
 rintro _ W2 ⟨v2, rfl, hb2, _⟩
 have hB := Bl.next hb1 hb2
 exact xe 6 (.tuple #[v2, .int .i64 3]) ⟨_, rfl, hB, _, rfl⟩
set_option maxRecDepth 100000 in
set_option maxHeartbeats 1000000 in
theorem image_Read_in (B b g : Nat) (n c : Nat) (l : List UInt8) (j : Nat) (w : World) (hI : ImgR B b (some ⟨g, 0, none⟩) n c l w) (hj : j < n / 256) (hc : n ≤ c) :
    Calls Tryz.prog 46 #[.pointer (some ⟨b, 0, none⟩), .int .i64 (↑j : Int)] w (RetS (fun w' r => ∃ p2 c3, r = .tuple #[.slice p2 256 c3, .int .i64 0] ∧ w'.ownsRow w.heap.size 5 1 (.slice p2 256 c3) 256 ((blkB l j).map bv)) w) := by
 have hlj := blkB_len (l := l) (j := j) (by rw [hI.len]; exact hj)
 refine zin 17 Tryz.func46 ?_
 refine xr 10 (args := #[.pointer (some ⟨b, 0, none⟩), .int .i64 (↑j : Int)]) (image_block b g n c j _ (hI.below (Below.refl w.heap.size _)).blk (by have := hI.hn; omega) hc hj) fun W1 hb1 => ?_
 refine xc 10 (args := #[.slice (some ⟨g, (j * 256), none⟩) 256 256]) (clone_bytesN (some ⟨g, (j * 256), none⟩) 256 256 (blkB l j) _ hlj ((hI.below hb1).part hj) (by decide)) ?_
 rintro _ W2 ⟨_, rfl, hb2, ho⟩
 have ho'1 := own_mono ho hb1.size
 unfold OwnB at ho'1
 rw [hlj] at ho'1
 obtain ⟨p2, c3, rfl⟩ := (own_sl ho'1).slice
 have hB'1 := Bl.next hb1 hb2
 exact xe 6 (.tuple #[.slice p2 256 c3, .int .i64 0]) ⟨_, rfl, hB'1, _, _, rfl, ho'1⟩
theorem image_Read (B b : Nat) (p : Option Addr) (n c : Nat) (l : List UInt8) (k : Int) (w : World) (hI : ImgR B b p n c l w) :
    Calls Tryz.prog 46 #[.pointer (some ⟨b, 0, none⟩), .int .i64 k] w (ReadP n l k w) := by
  by_cases h : 0 ≤ k ∧ k < (n / 256 : Nat)
  · obtain ⟨g, rfl, hc⟩ := hI.base (by omega)
    obtain ⟨j, rfl⟩ : ∃ j : Nat, k = j := ⟨k.toNat, by omega⟩
    refine (image_Read_in B b g n c l j w hI (by omega) hc).mono ?_
    rintro e W ⟨_, rfl, hb, p2, c3, rfl, ho⟩
    exact .inr ⟨j, rfl, by omega, _, _, rfl, hb, ho⟩
  · refine (image_Read_out B b p n c l k w hI h).mono ?_
    rintro e W ⟨_, rfl, hb, v, rfl⟩
    exact .inl ⟨h, _, rfl, hb⟩
/-- what a block of a kind has within: the error's number -/
def inE (l : List UInt8) (kind no : Int) : Int := if 0 ≤ no ∧ no < (l.length / 256 : Nat) then openE kind no (blkB l no.toNat) else 3
/-- and the bytes -/
def inB (l : List UInt8) (no : Int) : List UInt8 := ((blkB l no.toNat).drop 8).take 244
theorem inE_out {l : List UInt8} {kind no : Int} {n : Nat} (hl : l.length = n) (h : ¬ (0 ≤ no ∧ no < (n / 256 : Nat))) : inE l kind no = 3 := by subst hl; exact if_neg h
theorem inE_in {l : List UInt8} {kind no : Int} {n j : Nat} (hl : l.length = n) (hk : no = (j : Int)) (h : j < n / 256) : inE l kind no = openE kind no (blkB l j) := by
  subst hl hk; rw [inE, if_pos ⟨by omega, by omega⟩]; rfl
theorem inB_in {l : List UInt8} {no : Int} {j : Nat} (hk : no = (j : Int)) : inB l no = ((blkB l j).drop 8).take 244 := by subst hk; rfl
theorem inB_len {l : List UInt8} {no : Int} {n j : Nat} (hl : l.length = n) (hk : no = (j : Int)) (h : j < n / 256) : (inB l no).length = 244 := by
  subst hl hk; have := blkB_len h; simp [inB, this]
end Go.Proofs.YtbhjgcokpmiopaaGreat
namespace Go.Proofs.YtbhjgcokpmiopaaGreat
open Go.RowKit Go.Extern.Stop Go.Stop Go.Extern
set_option linter.unusedVariables false
attribute [local irreducible] wpList wpAnyH Code.wp Oper.wp Go

theorem seal_OpenN (kind no : Int) (a : Option Addr) (n c : Nat) (l : List UInt8) (w : World) (hn : l.length = n) (h : Bys w (.slice a n c) l) : Calls Tryz.prog 48 #[.slice a n c, .int .i64 kind, .int .i64 no] w (OpenP kind no l w) := by
  subst hn; exact seal_Open kind no a c l w h
/-- a node, asked as a tree's: the error's number -/
def nodeTE (l : List UInt8) (tree : Int) : Int := if nodeE l = 0 then (if tree = 0 ∨ nodT l = tree then 0 else 6) else nodeE l
/-- what package block has for a node -/
def nodeErr (l : List UInt8) (no tree : Int) : Int := if inE l 2 no = 0 then nodeTE (inB l no) tree else inE l 2 no
def nodeV (l : List UInt8) (kp vp : Option Addr) (kc vc : Nat) : Value := .agg #[.int .i64 (nodT l), .bool (nodL l), .slice kp (nodC l) kc, .slice vp (nodC l) vc]
def Node1P (l : List UInt8) (tree : Int) (w : World) (e : Ending) (w' : World) : Prop :=
  (nodeTE l tree ≠ 0 ∧ ∃ a b kp n1 kc vp n2 vc, e = .returned (.tuple #[.agg #[.int .i64 a, .bool b, .slice kp n1 kc, .slice vp n2 vc], .int .i64 (nodeTE l tree)]) ∧ Below w.heap.size w w') ∨
  (nodeTE l tree = 0 ∧ ∃ kp kc vp vc, e = .returned (.tuple #[.agg #[.int .i64 (nodT l), .bool (nodL l), .slice kp (nodC l) kc, .slice vp (nodC l) vc], .int .i64 0]) ∧ Below w.heap.size w w' ∧
    w'.ownsRow w.heap.size 3 1 (.slice kp (nodC l) kc) (nodC l) ((keysI l (nodC l)).map (Value.int .i64)) ∧ w'.ownsRow w.heap.size 9 1 (.slice vp (nodC l) vc) (nodC l) ((valsL l (nodC l)).map sv))
def BlkNodeP (l : List UInt8) (no tree : Int) (w : World) (e : Ending) (w' : World) : Prop :=
  (nodeErr l no tree ≠ 0 ∧ ∃ b, e = .returned (.tuple #[.agg #[.int .i64 0, .bool false, .slice none 0 0, .slice none 0 0], .iface 146 (.pointer (some ⟨b, 0, none⟩))]) ∧ Below w.heap.size w w' ∧ ErrV w' [some no] (some (nodeErr l no tree)) (.iface 146 (.pointer (some ⟨b, 0, none⟩)))) ∨
  (nodeErr l no tree = 0 ∧ ∃ kp kc vp vc, e = .returned (.tuple #[.agg #[.int .i64 (nodT (inB l no)), .bool (nodL (inB l no)), .slice kp (nodC (inB l no)) kc, .slice vp (nodC (inB l no)) vc], .nilIface]) ∧ Below w.heap.size w w' ∧
    w'.ownsRow w.heap.size 3 1 (.slice kp (nodC (inB l no)) kc) (nodC (inB l no)) ((keysI (inB l no) (nodC (inB l no))).map (Value.int .i64)) ∧ w'.ownsRow w.heap.size 9 1 (.slice vp (nodC (inB l no)) vc) (nodC (inB l no)) ((valsL (inB l no) (nodC (inB l no))).map sv))
end Go.Proofs.YtbhjgcokpmiopaaGreat
namespace Go.Proofs.YtbhjgcokpmiopaaGreat
open Go.RowKit Go.Extern.Stop Go.Stop Go.Extern
set_option linter.unusedVariables false
attribute [local irreducible] wpList wpAnyH Code.wp Oper.wp Go

def slotP : List Part := [(8, 1, 14399), (4, 0, 960), (4, 0, 960)]
theorem slotP_ok : PartsOk slotP := by
  refine ⟨by decide, fun i hi => ?_⟩
  have hi' : i < 3 := hi
  obtain rfl | rfl | rfl : i = 0 ∨ i = 1 ∨ i = 2 := by omega
  all_goals simp [slotP, List.getD]
/-- a slot of an index: the number of bytes before it -/
def slotS (l : List UInt8) (i : Nat) : List UInt8 := (l.drop (4 + i * 16)).take 16
def slotK (l : List UInt8) (i k : Nat) : Nat := (readV slotP (slotS l i)).getD k 0
def sltC (x : Nat × Nat × Nat) : List Value := [.int .i64 (x.1 : Int), .int .i64 (x.2.1 : Int), .int .i64 (x.2.2 : Int)]
theorem sltC_len (x : Nat × Nat × Nat) : (sltC x).length = 3 := rfl
def sltX (l : List UInt8) (i : Nat) : Nat × Nat × Nat := (slotK l i 0, slotK l i 1, slotK l i 2)
def sltsL (l : List UInt8) (n : Nat) : List (Nat × Nat × Nat) := (List.range n).map (sltX l)
theorem sltsL_snoc (l : List UInt8) (n : Nat) : sltsL l (n + 1) = sltsL l n ++ [sltX l n] := by simp [sltsL, List.range_succ]
theorem sltsL_len (l : List UInt8) (n : Nat) : (sltsL l n).length = n := by simp [sltsL]
/-- the first number that is wrong -/
def sltsE (l : List UInt8) : Nat → Int
  | 0 => 0
  | i + 1 => if sltsE l i ≠ 0 then sltsE l i else readE slotP (slotS l i)
theorem sltsE_stop {l : List UInt8} {i : Nat} (h : sltsE l i ≠ 0) : ∀ n, i ≤ n → sltsE l n = sltsE l i
  | 0, h2 => by obtain rfl : i = 0 := by omega
                rfl
  | n + 1, h2 => by
    by_cases e : i = n + 1
    · rw [e]
    · have ih := sltsE_stop h n (by omega)
      rw [sltsE, if_pos (by rw [ih]; exact h), ih]
theorem sltsE_at {l : List UInt8} {i n : Nat} (h : sltsE l i = 0) (he : readE slotP (slotS l i) ≠ 0) (hi : i < n) : sltsE l n = readE slotP (slotS l i) := by
  have e : sltsE l (i + 1) = readE slotP (slotS l i) := by rw [sltsE, if_neg (by rw [h]; decide)]
  rw [sltsE_stop (by rw [e]; exact he) n hi, e]
theorem sltsE_next {l : List UInt8} {i : Nat} (h : sltsE l i = 0) (he : readE slotP (slotS l i) = 0) : sltsE l (i + 1) = 0 := by rw [sltsE, if_neg (by rw [h]; decide), he]
theorem slotS_len {l : List UInt8} {i : Nat} (hl : l.length = 244) (hi : i < 15) : (slotS l i).length = 16 := by simp [slotS]; omega
/-- a slot has room: it is right, or out of range -/
theorem slot_two {l : List UInt8} {i : Nat} (hl : l.length = 244) (hi : i < 15) : readE slotP (slotS l i) = 0 ∨ readE slotP (slotS l i) = 2 := by
  unfold readE
  rw [if_pos (by rw [slotS_len hl hi]; rfl)]
  split
  · exact .inl rfl
  · exact .inr rfl
/-- whether bytes are an index's, but for its slots -/
def idxOk (l : List UInt8) : Bool := decide (rawN l 0 4 ≤ 15) && zeroB (l.drop (4 + rawN l 0 4 * 16))
def idxE (l : List UInt8) : Int := if idxOk l then sltsE l (rawN l 0 4) else 7
def SlotsP (l : List UInt8) (w : World) (e : Ending) (w' : World) : Prop :=
  (idxE l ≠ 0 ∧ e = .returned (.tuple #[.slice none 0 0, .int .i64 (idxE l)]) ∧ Below w.heap.size w w') ∨
  (idxE l = 0 ∧ ∃ p c, e = .returned (.tuple #[.slice p (rawN l 0 4) c, .int .i64 0]) ∧ Below w.heap.size w w' ∧ w'.ownsRow w.heap.size 39 3 (.slice p (rawN l 0 4) c) (rawN l 0 4) ((sltsL l (rawN l 0 4)).flatMap sltC))
set_option maxRecDepth 100000 in
set_option maxHeartbeats 1000000 in
theorem value_slotR (w : World) :
    Calls Tryz.prog 68 #[] w (RetS (fun w' r => ∃ b, r = .slice (some ⟨b, 0, none⟩) 3 3 ∧ w.heap.size ≤ b ∧ Blk w' b [.int .i64 8, .int .i64 1, .int .i64 14399, .int .i64 4, .int .i64 0, .int .i64 960, .int .i64 4, .int .i64 0, .int .i64 960] 134) w) := by
 refine zin 5 Tryz.func68 ?_
 refine xbs 10 3 [.int .i64 8, .int .i64 1, .int .i64 14399, .int .i64 4, .int .i64 0, .int .i64 960, .int .i64 4, .int .i64 0, .int .i64 960] 134 fun b1 W1 n1 => ?_
 have g1 := n1.ge (Below.refl w.heap.size _)
 exact xe 4 (.slice (some ⟨b1, 0, none⟩) 3 3) ⟨_, rfl, n1.below, _, rfl, g1, n1.blk⟩
set_option maxRecDepth 100000 in
set_option maxHeartbeats 1000000 in
theorem value_ReadSlot (s : List UInt8) (w : World) (hs : s.length ≤ 1000) :
    Calls Tryz.prog 52 #[.string ⟨s.toArray⟩] w (Ret (.tuple #[.agg #[.int .i64 (↑((readV slotP s).getD 0 0) : Int), .int .i64 (↑((readV slotP s).getD 1 0) : Int), .int .i64 (↑((readV slotP s).getD 2 0) : Int)], .int .i64 (readE slotP s)]) w) := by
 refine zin 23 Tryz.func52 ?_
 refine xa 2 [.int .i64 0, .int .i64 0, .int .i64 0] 39 fun b1 W1 n1 => ?_
 refine xc 5 (args := #[]) (value_slotR _) ?_
 rintro _ W2 ⟨_, rfl, hb2, gl, rfl, gg, kl⟩
 refine xc 1 (args := #[.slice (some ⟨gl, 0, none⟩) 3 3, .string ⟨s.toArray⟩]) (value_readG slotP s (some ⟨gl, 0, none⟩) 3 _ slotP_ok (by decide) (by omega) (kl.sl 3 3 (by decide) (by decide))) ?_
 rintro _ W3 ⟨_, rfl, hb3, p5, c5, rfl, h5⟩
 have hs3 := (Bl.next n1.below hb2).size
 refine xd 8 (.t w.heap.size [39]) ?_
 have h5'1 := own_below (own_mono h5 hs3) (below_drew W3)
 refine xx (.e [0] 1) _ 3 0 1 (nv_elem (l := readV slotP s) (own_sl h5'1) (readV_len _ _) (k := 0) (by decide)).1 ?_
 refine xlt (.e [] 2) (.t w.heap.size [39]) (fun V hV => (nv_elem (l := readV slotP s) (own_sl (own_only h5'1 hV.2 (by decide))) (readV_len _ _) (k := 0) (by decide)).2) ?_
 refine xx (.e [3] 4) _ 3 1 1 (nv_elem (l := readV slotP s) (own_sl h5'1) (readV_len _ _) (k := 1) (by decide)).1 ?_
 refine xlt (.e [] 5) (.t w.heap.size [39]) (fun V hV => (nv_elem (l := readV slotP s) (own_sl (own_only h5'1 hV.2 (by decide))) (readV_len _ _) (k := 1) (by decide)).2) ?_
 refine xx (.e [6] 7) _ 3 2 1 (nv_elem (l := readV slotP s) (own_sl h5'1) (readV_len _ _) (k := 2) (by decide)).1 ?_
 refine xlt (.e [] 8) (.t w.heap.size [39]) (fun V hV => (nv_elem (l := readV slotP s) (own_sl (own_only h5'1 hV.2 (by decide))) (readV_len _ _) (k := 2) (by decide)).2) ?_
 have k1 := ((n1.blk.below hb2).below hb3).below (below_drew W3)
 have g1 := n1.ge (Below.refl w.heap.size _)
 refine ysv (.o [9, 10] 11) k1 [.int .i64 (↑((readV slotP s).getD 0 0) : Int), .int .i64 (↑((readV slotP s).getD 1 0) : Int), .int .i64 (↑((readV slotP s).getD 2 0) : Int)] (.t w.heap.size [39]) fun W4 u4 k4 => ⟨(sft_upd u4 k1 g1 (by decide)), ?_⟩
 have hB := u4.below (Bl.next (Bl.next (Bl.next n1.below hb2) hb3) (below_drew W3)) g1
 exact xec (.r [12] 3) k4 (.tuple #[.agg #[.int .i64 (↑((readV slotP s).getD 0 0) : Int), .int .i64 (↑((readV slotP s).getD 1 0) : Int), .int .i64 (↑((readV slotP s).getD 2 0) : Int)], .int .i64 (readE slotP s)]) ⟨rfl, hB⟩
set_option maxRecDepth 100000 in
set_option maxHeartbeats 1000000 in
theorem slots_next (B bt : Nat) (x : List UInt8) (w : World) (hBw : B ≤ w.heap.size) (hBt : B ≤ bt) (kt : Blk w bt [.string ⟨x.toArray⟩] 9) (hx : 16 ≤ x.length) :
    Calls Tryz.prog 51 #[.pointer (some ⟨bt, 0, none⟩)] w ((fun e w' => e = .returned (.string ⟨(x.take 16).toArray⟩) ∧ Below B w w' ∧ Only [9] w w' ∧ Blk w' bt [.string ⟨(x.drop 16).toArray⟩] 9)) := by
 refine zin 8 Tryz.func51 ?_
 refine xb 7 0 kt ?_
 refine xsH 0 (fun _ _ _ _ zo zx zy V => run_strH (k := 16) (j := 16) (kj := .i64) zo zx zy rfl hx Tryz.underlying9 V) ?_
 refine xb 5 0 kt ?_
 refine xsL 0 (fun _ _ _ _ zo zx zy V => run_strL (k := 16) (j := 16) (kj := .i64) zo zx zy rfl hx Tryz.underlying9 V) ?_
 refine xs 0 kt [.string ⟨(x.drop 16).toArray⟩] fun W1 u1 k1 => ?_
 have hB := u1.below (Below.refl B w) hBt
 have hO := (show Only [9] w _ from (Only.of_upd u1 kt (by decide)))
 exact xe 9 (.string ⟨(x.take 16).toArray⟩) ⟨rfl, hB, hO, k1⟩
theorem value_ReadSlotP (l : List UInt8) (i : Nat) (w : World) (hs : (slotS l i).length ≤ 1000) : Calls Tryz.prog 52 #[.string ⟨(slotS l i).toArray⟩] w (fun e w' =>
    (readE slotP (slotS l i) = 0 ∧ e = .returned (.tuple #[.agg #[.int .i64 (slotK l i 0 : Int), .int .i64 (slotK l i 1 : Int), .int .i64 (slotK l i 2 : Int)], .int .i64 0]) ∧ Below w.heap.size w w') ∨
    (readE slotP (slotS l i) ≠ 0 ∧ e = .returned (.tuple #[.agg #[.int .i64 (slotK l i 0 : Int), .int .i64 (slotK l i 1 : Int), .int .i64 (slotK l i 2 : Int)], .int .i64 (readE slotP (slotS l i))]) ∧ Below w.heap.size w w')) := by
  refine (value_ReadSlot (slotS l i) w hs).mono ?_
  rintro e W ⟨rfl, hb⟩
  by_cases h : readE slotP (slotS l i) = 0
  · exact .inl ⟨h, by rw [h]; rfl, hb⟩
  · exact .inr ⟨h, rfl, hb⟩
theorem bysK {w : World} {a : Option Addr} {c k : Nat} {l : List UInt8} (h : Bys w (.slice a 244 c) l) (hl : l.length = 244) (hk : k ≤ 244) : Bys w (.slice (cutA a k c 1) (244 - k) (c - k)) (l.drop k) := by
  have := Bys.cut h hl k 244 hk (by decide)
  rwa [List.take_of_length_le (by simp; omega)] at this
set_option maxRecDepth 100000 in
set_option maxHeartbeats 4000000 in
theorem slots_Read (a : Option Addr) (c : Nat) (l : List UInt8) (w : World) (hl : l.length = 244) (h : Bys w (.slice a 244 c) l) :
    Calls Tryz.prog 27 #[.slice a 244 c] w (SlotsP l w) := by
 have hcap := Bys.cap h hl
 refine zin 52 Tryz.func27 ?_
 refine xr 20 (args := #[.slice a 244 c, .int .i64 0, .int .i64 4]) (Get_okN a 244 c 0 4 0 4 l _ hl rfl rfl (by decide) (by decide) (by decide) (h.below (Below.refl w.heap.size _))) fun W1 hb1 => ?_
 refine xg 13 [20, 21] (decide ((↑(rawN l 0 4) : Int) > (15 : Int))) (fun hc2 => ?_) (fun hc2 => ?_)
 · have hc2 := of_decide_eq_true hc2
   refine xe 19 (.tuple #[.slice none 0 0, .int .i64 7]) ?_
   have he : idxE l = 7 := by unfold idxE idxOk; rw [decide_eq_false (by omega), Bool.false_and, if_neg (by decide)]
   exact .inl ⟨by rw [he]; decide, by rw [he], hb1⟩
 have hc2 := of_decide_eq_false hc2
 refine xwm 2 ((↑(rawN l 0 4) : Int) * 16) (↑((rawN l 0 4) * 16) : Int) ?_
 refine xwm 0 (4 + (↑((rawN l 0 4) * 16) : Int)) (↑(4 + ((rawN l 0 4) * 16)) : Int) ?_
 refine xsL 0 (fun _ _ _ _ zo zx zy V => run_sliceLA (k := (4 + ((rawN l 0 4) * 16))) (b := a) (n := 244) (c := c) (i := (↑(4 + ((rawN l 0 4) * 16)) : Int)) (ki := .i64) 1 zo zx zy rfl (by omega) Tryz.underlying45 (by kernel_rfl) V) ?_
 refine xr 0 (args := #[.slice (cutA a (4 + ((rawN l 0 4) * 16)) c 1) (244 - (4 + ((rawN l 0 4) * 16))) (c - (4 + ((rawN l 0 4) * 16)))]) (code_ZeroN (cutA a (4 + ((rawN l 0 4) * 16)) c 1) (244 - (4 + ((rawN l 0 4) * 16))) (c - (4 + ((rawN l 0 4) * 16))) (l.drop (4 + rawN l 0 4 * 16)) _ (by simp; omega) (by omega) ((bysK (k := 4 + rawN l 0 4 * 16) h hl (by omega)).below hb1)) fun W3 hb3 => ?_
 refine xi 4 (!(zeroB (l.drop (4 + rawN l 0 4 * 16)))) (fun hc4 => ?_) (fun hc4 => ?_)
 · have hze : zeroB (l.drop (4 + rawN l 0 4 * 16)) = false := not_t hc4
   have hB'1 := Bl.next hb1 hb3
   refine xe 8 (.tuple #[.slice none 0 0, .int .i64 7]) ?_
   have he : idxE l = 7 := by unfold idxE idxOk; rw [hze, Bool.and_false, if_neg (by decide)]
   exact .inl ⟨by rw [he]; decide, by rw [he], hB'1⟩
 have hze : zeroB (l.drop (4 + rawN l 0 4 * 16)) = true := not_f hc4
 refine xsL 5 (fun _ _ _ _ zo zx zy V => run_sliceLA (k := 4) (b := a) (n := 244) (c := c) (i := 4) (ki := .i64) 1 zo zx zy rfl (by omega) Tryz.underlying45 (by kernel_rfl) V) ?_
 have hB'2 := Bl.next hb1 hb3
 refine xcv0 0 (fun _ _ _ zo zx => run_bstr zo zx ((bysK (k := 4) h hl (by decide)).below hB'2) (by simp; omega) Tryz.underlying45 Tryz.underlying5 Tryz.underlying9) ?_
 refine xa 0 [.string ⟨#[]⟩] 9 fun b5 W5 n5 => ?_
 have g5 := n5.ge hB'2
 refine xs 0 n5.blk [.string ⟨(l.drop 4).toArray⟩] fun W6 u6 k6 => ?_
 have kt0 : Blk _ _ [.string ⟨((l.drop (4 + 0 * 16))).toArray⟩] _ := k6
 have hB'3 := u6.below (Bl.next hB'2 n5.below) g5
 refine zl 21 52 (fun zm zkv V => ∃ (i : Nat) (q : Option Addr) (d : Nat), zkv = [(7, .func (.func 51) #[] #[.pointer (some ⟨b5, 0, none⟩)]), (8, .slice q i d), (34, .int .i64 (↑(rawN l 0 4) : Int)), (35, .int .i64 (↑i : Int))] ∧ zm = (rawN l 0 4) - ((↑i : Int)).toNat ∧ Below w.heap.size w V ∧ Blk V b5 ([.string ⟨(l.drop (4 + i * 16)).toArray⟩]) 9 ∧ V.ownsRow w.heap.size 39 3 (.slice q i d) i ((sltsL l i).flatMap sltC) ∧ i ≤ (rawN l 0 4) ∧ sltsE l i = 0) ⟨0, _, _, rfl, rfl, hB'3, kt0, World.ownsRow_nil _ _ _ _, Nat.zero_le _, rfl⟩ ?_
 rintro _ _ W7 ⟨i, q, d, rfl, rfl, hB_7, k7_b5, ho, hi, hz⟩ J7 hJ7 r7
 refine xid 6 ((↑i : Int) < (↑(rawN l 0 4) : Int)) (fun hc8 => ?_) (fun hc8 => ?_)
 · refine xc 7 (args := #[.pointer (some ⟨b5, 0, none⟩)]) (slots_next w.heap.size b5 (l.drop (4 + i * 16)) _ hB_7.size g5 k7_b5 (by simp; omega)) ?_
   rintro _ W9 ⟨rfl, hb9, hO9, kN9⟩
   rw [List.drop_drop, show 4 + i * 16 + 16 = 4 + (i + 1) * 16 by omega] at kN9
   refine xc 0 (args := #[.string ⟨(slotS l i).toArray⟩]) (value_ReadSlotP l i _ (by rw [slotS_len hl (by omega)]; decide)) ?_
   rintro e W10 hq10
   rcases hq10 with ⟨hz0, rfl, hb10⟩ | ⟨hz0, rfl, hb10⟩
   · refine xa 3 [.int .i64 0, .int .i64 0, .int .i64 0] 39 fun b11 W11 n11 => ?_
     have hB'4 := Bl.next (hB_7.trans hb9) hb10
     have g11 := n11.ge hB'4
     have ho'1 := own_below (own_only ho hO9 (by decide)) hb10
     have r11_ho := own_ne ho'1 n11
     refine xsv 0 n11.blk [.int .i64 (↑(slotK l i 0) : Int), .int .i64 (↑(slotK l i 1) : Int), .int .i64 (↑(slotK l i 2) : Int)] fun W12 u12 k12 => ?_
     refine xlv 15 k12.rp ?_
     refine xbs 0 1 [.int .i64 (↑(slotK l i 0) : Int), .int .i64 (↑(slotK l i 1) : Int), .int .i64 (↑(slotK l i 2) : Int)] 39 fun b13 W13 n13 => ?_
     have d13_b11 := n13.ne k12
     have hB'5 := u12.below (Bl.next hB'4 n11.below) g11
     have g13 := n13.ge hB'5
     have ho'2 := u12.own3 (own_below ho'1 n11.below) r11_ho
     have r13_ho := own_ne ho'2 n13
     have ho'3 := own_below ho'2 n13.below
     have hB'6 := Bl.next hB'5 n13.below
     refine xbi 0 fun _ _ _ _ zJ zQ zo zx zy zK => op_app (m := 1) (news := [.int .i64 (↑(slotK l i 0) : Int), .int .i64 (↑(slotK l i 1) : Int), .int .i64 (↑(slotK l i 2) : Int)]) (.agg #[.int .i64 0, .int .i64 0, .int .i64 0]) 3 24 (i + 1) (((sltsL l (i + 1)).flatMap sltC)) zo Tryz.underlying31 (by kernel_rfl) rfl (by decide) zx ho'3 zy (n13.blk.sl 1 1 (by decide) (by decide)) rfl (by simp [Value.oneCell']) (by unfold maxLen; omega) (by omega) hB'6.size (by rfl) (by rw [sltsL_snoc, List.flatMap_append]; rfl) fun px14 cx14 W14 o14 hg14 hb14 => ?_
     refine zK _ _ ?_
     refine xwm 5 ((↑i : Int) + 1) (↑(i + 1) : Int) ?_
     have hB'7 := hB'6.trans hb14
     have kN9'1 := ((u12.blkT ((kN9.below hb10).below n11.below) n11.blk (by decide)).below n13.below).grown hg14 ho'3 (by decide)
     exact ze 2 (hJ7 _ _ _ ⟨i + 1, _, _, rfl, rfl, hB'7, kN9'1, o14, by omega, sltsE_next hz hz0⟩ (by omega))
   refine xa 3 [.int .i64 0, .int .i64 0, .int .i64 0] 39 fun b15 W15 n15 => ?_
   have hB'8 := Bl.next (hB_7.trans hb9) hb10
   have g15 := n15.ge hB'8
   have ho'4 := own_below (own_only ho hO9 (by decide)) hb10
   have r15_ho := own_ne ho'4 n15
   refine xsv 0 n15.blk [.int .i64 (↑(slotK l i 0) : Int), .int .i64 (↑(slotK l i 1) : Int), .int .i64 (↑(slotK l i 2) : Int)] fun W16 u16 k16 => ?_
   refine xk 10 (show (((readE slotP (slotS l i)) != (0 : Int)) : Bool) = true from bne_iff_ne.2 hz0) ?_
   have hB'9 := u16.below (Bl.next hB'8 n15.below) g15
   refine xe 14 (.tuple #[.slice none 0 0, .int .i64 (readE slotP (slotS l i))]) ?_
   have hok : idxOk l = true := by unfold idxOk; rw [hze, decide_eq_true (by omega)]; rfl
   have he : idxE l = readE slotP (slotS l i) := by unfold idxE; rw [if_pos hok, sltsE_at hz hz0 (by omega)]
   exact .inl ⟨by rw [he]; exact hz0, by rw [he], hB'9⟩
 refine xe 13 (.tuple #[.slice q i d, .int .i64 0]) ?_
 have hok : idxOk l = true := by unfold idxOk; rw [hze, decide_eq_true (by omega)]; rfl
 obtain rfl : i = rawN l 0 4 := by omega
 exact .inr ⟨by unfold idxE; rw [if_pos hok, hz], _, _, rfl, hB_7, ho⟩
def idxErr (l : List UInt8) (no : Int) : Int := if inE l 4 no = 0 then idxE (inB l no) else inE l 4 no
def BlkIdxP (l : List UInt8) (no : Int) (w : World) (e : Ending) (w' : World) : Prop :=
  (idxErr l no ≠ 0 ∧ ∃ b, e = .returned (.tuple #[.slice none 0 0, .iface 146 (.pointer (some ⟨b, 0, none⟩))]) ∧ Below w.heap.size w w' ∧ ErrV w' [some no] (some (idxErr l no)) (.iface 146 (.pointer (some ⟨b, 0, none⟩)))) ∨
  (idxErr l no = 0 ∧ ∃ p c, e = .returned (.tuple #[.slice p (rawN (inB l no) 0 4) c, .nilIface]) ∧ Below w.heap.size w w' ∧ w'.ownsRow w.heap.size 39 3 (.slice p (rawN (inB l no) 0 4) c) (rawN (inB l no) 0 4) ((sltsL (inB l no) (rawN (inB l no) 0 4)).flatMap sltC))
set_option maxRecDepth 100000 in
set_option maxHeartbeats 1000000 in
theorem readIdx (B b : Nat) (p : Option Addr) (n c : Nat) (l : List UInt8) (no : Int) (w : World) (hI : ImgR B b p n c l w) :
    Calls Tryz.prog 26 #[.pointer (some ⟨b, 0, none⟩), .int .i64 no, .int .i64 4, .func (.func 27) #[] #[]] w (BlkIdxP l no w) := by
 refine zin 56 Tryz.func26 ?_
 refine xc 15 (args := #[.pointer (some ⟨b, 0, none⟩), .int .i64 no]) (image_Read B b p n c l no _ (hI.below (Below.refl w.heap.size _))) ?_
 rintro e W1 hq1
 rcases hq1 with ⟨ho, vr, rfl, hb1⟩ | ⟨j, hk, hj, p2, c2, rfl, hb1, ho⟩
 · refine xc 21 (args := #[.int .i64 no, .iface 46 (.int .i64 3)]) (block_told no 3 _) ?_
   rintro _ W2 ⟨_, rfl, hb2, hv2⟩
   rw [if_neg (by decide), if_neg (by decide)] at hv2
   have hq2 := hv2
   obtain ⟨bf2, vf2, rfl, _, _⟩ := hq2
   have hB := Bl.next hb1 hb2
   refine xe 6 (.tuple #[.slice none 0 0, .iface 146 (.pointer (some ⟨bf2, 0, none⟩))]) ?_
   have he : idxErr l no = 3 := by unfold idxErr; rw [inE_out hI.len ho]; rfl
   exact .inl ⟨by rw [he]; decide, _, rfl, hB, by rw [he]; exact hv2⟩
 have hs1 := Nat.le_refl w.heap.size
 have hj2 : j < l.length / 256 := by rw [hI.len]; exact hj
 have hlj := blkB_len hj2
 have he2 := inE_in (l := l) (kind := 4) hI.len hk hj
 have ho'1 := own_mono ho hs1
 refine xc 22 (args := #[.slice p2 256 c2, .int .i64 4, .int .i64 no]) (seal_OpenN 4 no p2 256 c2 (blkB l j) _ hlj (bys_of (own_sl ho'1) hlj)) ?_
 rintro e W3 hq3
 rcases hq3 with ⟨hs, rfl, hb3⟩ | ⟨hs, p3, c3, rfl, hb3, h3⟩
 · refine xk 14 (show (((openE 4 no (blkB l j)) != (0 : Int)) : Bool) = true from bne_iff_ne.2 hs) ?_
   refine xc 6 (args := #[.int .i64 no, .iface 46 (.int .i64 (openE 4 no (blkB l j)))]) (block_told no (openE 4 no (blkB l j)) _) ?_
   rintro _ W4 ⟨_, rfl, hb4, hv4⟩
   rw [if_neg hs, if_neg hs] at hv4
   have hq4 := hv4
   obtain ⟨bf4, vf4, rfl, _, _⟩ := hq4
   have hB := Bl.next (Bl.next hb1 hb3) hb4
   refine xe 6 (.tuple #[.slice none 0 0, .iface 146 (.pointer (some ⟨bf4, 0, none⟩))]) ?_
   have he : idxErr l no = openE 4 no (blkB l j) := by unfold idxErr; rw [he2, if_neg hs]
   exact .inl ⟨by rw [he]; exact hs, _, rfl, hB, by rw [he]; exact hv4⟩
 have h3'1 := own_mono h3 hb1.size
 have hin : ((blkB l j).drop 8).take 244 = inB l no := (inB_in hk).symm
 have hil := inB_len hI.len hk hj
 rw [hin] at h3'1
 refine xc 21 (args := #[.slice p3 244 c3]) (slots_Read p3 c3 (inB l no) _ hil (bys_of (own_sl h3'1) hil)) ?_
 rintro e W5 hq5
 rcases hq5 with ⟨hz, rfl, hb5⟩ | ⟨hz, p4, c4, rfl, hb5, h4⟩
 · refine xk 14 (show (((idxE (inB l no)) != (0 : Int)) : Bool) = true from bne_iff_ne.2 hz) ?_
   refine xc 6 (args := #[.int .i64 no, .iface 46 (.int .i64 (idxE (inB l no)))]) (block_told no (idxE (inB l no)) _) ?_
   rintro _ W6 ⟨_, rfl, hb6, hv6⟩
   rw [if_neg hz, if_neg hz] at hv6
   have hq6 := hv6
   obtain ⟨bf6, vf6, rfl, _, _⟩ := hq6
   have hB := Bl.next (Bl.next (Bl.next hb1 hb3) hb5) hb6
   refine xe 6 (.tuple #[.slice none 0 0, .iface 146 (.pointer (some ⟨bf6, 0, none⟩))]) ?_
   have he : idxErr l no = idxE (inB l no) := by unfold idxErr; rw [he2, if_pos hs]
   exact .inl ⟨by rw [he]; exact hz, _, rfl, hB, by rw [he]; exact hv6⟩
 have hs5 := (Bl.next hb1 hb3).size
 have hB := Bl.next (Bl.next hb1 hb3) hb5
 have h4'1 := own_mono h4 hs5
 exact xe 25 (.tuple #[.slice p4 (rawN (inB l no) 0 4) c4, .nilIface]) (.inr ⟨by unfold idxErr; rw [he2, if_pos hs, hz], _, _, rfl, hB, h4'1⟩)
set_option maxRecDepth 100000 in
set_option maxHeartbeats 1000000 in
theorem block_Index (B b : Nat) (p : Option Addr) (n c : Nat) (l : List UInt8) (no : Int) (w : World) (hI : ImgR B b p n c l w) :
    Calls Tryz.prog 8 #[.pointer (some ⟨b, 0, none⟩), .int .i64 no] w (BlkIdxP l no w) := by
 refine zin 11 Tryz.func8 ?_
 refine xc 10 (args := #[.pointer (some ⟨b, 0, none⟩), .int .i64 no, .int .i64 4, .func (.func 27) #[] #[]]) (readIdx B b p n c l no _ (hI.below (Below.refl w.heap.size _))) ?_
 rintro e W1 hq1
 rcases hq1 with ⟨he, bf, rfl, hb1, hv⟩ | ⟨he, p4, c4, rfl, hb1, h4⟩
 · exact xe 7 (.tuple #[.slice none 0 0, .iface 146 (.pointer (some ⟨bf, 0, none⟩))]) (.inl ⟨he, _, rfl, hb1, hv⟩)
 have hs1 := Nat.le_refl w.heap.size
 have h4'1 := own_mono h4 hs1
 exact xe 7 (.tuple #[.slice p4 (rawN (inB l no) 0 4) c4, .nilIface]) (.inr ⟨he, _, _, rfl, hb1, h4'1⟩)
end Go.Proofs.YtbhjgcokpmiopaaGreat
namespace Go.Proofs.YtbhjgcokpmiopaaGreat
open Go.RowKit Go.Extern.Stop Go.Stop Go.Extern
set_option linter.unusedVariables false
attribute [local irreducible] wpList wpAnyH Code.wp Oper.wp Go

theorem ext_getD {l l' : List UInt8} (h : l.length = l'.length) (h2 : ∀ j, j < l.length → l.getD j 0 = l'.getD j 0) : l = l' := by
  apply List.ext_getElem h
  intro j h3 h4
  have := h2 j h3
  simpa [List.getD, h3, h4] using this
theorem putB_get {l : List UInt8} {k : Nat} {x : List UInt8} (h : k + x.length ≤ l.length) (j : Nat) : (putB l k x).getD j 0 = if k ≤ j ∧ j < k + x.length then x.getD (j - k) 0 else l.getD j 0 := by
  unfold putB
  simp only [List.getD]
  rw [List.append_assoc, List.getElem?_append, List.getElem?_append]
  have e : (l.take k).length = k := by simp; omega
  rw [e]
  by_cases h1 : j < k
  · rw [if_pos h1, if_neg (by omega), List.getElem?_take, if_pos h1]
  · rw [if_neg h1]
    by_cases h2 : j - k < x.length
    · rw [if_pos h2, if_pos (by omega)]
    · rw [if_neg h2, if_neg (by omega), List.getElem?_drop, show k + x.length + (j - k - x.length) = j by omega]
theorem rawN_congr {l l' : List UInt8} : ∀ (w k : Nat), (∀ j, k ≤ j → j < k + w → l.getD j 0 = l'.getD j 0) → rawN l k w = rawN l' k w
  | 0, k, h => rfl
  | w + 1, k, h => by rw [rawN, rawN, h k (by omega) (by omega), rawN_congr w (k + 1) fun j h1 h2 => h j (by omega) (by omega)]
theorem rawN_bytes {l : List UInt8} : ∀ (w k m : Nat), (∀ i, i < w → l.getD (k + i) 0 = UInt8.ofNat (m / 256 ^ i)) → rawN l k w = m % 256 ^ w
  | 0, k, m, h => by simp [rawN, Nat.mod_one]
  | w + 1, k, m, h => by
    have h0 := h 0 (by omega)
    simp only [Nat.add_zero, Nat.pow_zero, Nat.div_one] at h0
    have h1 := rawN_bytes (l := l) w (k + 1) (m / 256) fun i hi => by
      have := h (i + 1) (by omega)
      rw [Nat.pow_succ, Nat.mul_comm, ← Nat.div_div_eq_div_mul] at this
      rw [show k + 1 + i = k + (i + 1) by omega]; exact this
    rw [rawN, h0, h1, Nat.pow_succ, Nat.mul_comm (256 ^ w) 256, Nat.mod_mul]
    congr 1
theorem rawN_put {l : List UInt8} {k w : Nat} {n : Int} (h : k + w ≤ l.length) (h0 : 0 ≤ n) (hb : n.toNat < 256 ^ w) : (rawN (putB l k (leB n w)) k w : Int) = n := by
  rw [rawN_bytes w k n.toNat, Nat.mod_eq_of_lt hb]
  · omega
  · intro i hi
    rw [putB_get (by rw [leB_len]; exact h), if_pos (by rw [leB_len]; omega), show k + i - k = i by omega]
    simp [leB, byteAt, List.getD, List.getElem?_range hi]
theorem rawN_put_other {l x : List UInt8} {k j w : Nat} (h : k + x.length ≤ l.length) (hd : j + w ≤ k ∨ k + x.length ≤ j) : rawN (putB l k x) j w = rawN l j w :=
  rawN_congr w j fun i h1 h2 => by rw [putB_get h, if_neg (by omega)]
theorem rawN_zero {l : List UInt8} {k w : Nat} (h : ∀ j, k ≤ j → j < k + w → l.getD j 0 = 0) : rawN l k w = 0 := by
  have := rawN_bytes (l := l) w k 0 fun i hi => by rw [h (k + i) (by omega) (by omega)]; simp
  simpa using this
theorem sumB_put {l x : List UInt8} {kind : Int} (h : 252 ≤ l.length) : sumB (putB l 252 x) kind = sumB l kind := by
  unfold sumB putB
  rw [List.append_assoc, List.take_append_of_le_length (by simp; omega), List.take_take]; rfl
theorem zeros_get (n j : Nat) : (List.replicate n (0 : UInt8)).getD j 0 = 0 := by
  simp [List.getD, List.getElem?_replicate]; split <;> rfl
/-- what lies within a sealed block -/
def inSeal (li : List UInt8) : List UInt8 := li ++ List.replicate (244 - li.length) 0
theorem open_seal {kind no : Int} {li : List UInt8} (h1 : 1 ≤ kind) (h2 : kind ≤ 4) (h3 : 0 ≤ no) (h4 : no < 14400) (hl : li.length ≤ 244) : openE kind no (sealB kind no li) = 0 := by
  have l1 := seal1_len hl
  have l2 := seal2_len (no := no) hl
  have l3 := seal3_len (kind := kind) (no := no) hl
  have l4 := sealB_len (kind := kind) (no := no) hl
  have a0 : askB kind no (sealB kind no li) 0 = false := by simp only [askB]; rw [show knownB kind no = true from decide_eq_true (by omega)]; rfl
  have a1 : askB kind no (sealB kind no li) 1 = false := by simp only [askB, l4]; rfl
  have a2 : askB kind no (sealB kind no li) 2 = false := by
    have hs : sumB (sealB kind no li) kind = sumB (seal3 kind no li) kind := by unfold sealB; exact sumB_put (by omega)
    have hr : (rawN (sealB kind no li) 252 4 : Int) = (sumB (seal3 kind no li) kind : Int) := by
      unfold sealB
      exact rawN_put (by omega) (by omega) (by have := sumB_lt (seal3 kind no li) kind; simpa using this)
    simp only [askB, hr, hs]; simp
  have a3 : askB kind no (sealB kind no li) 3 = false := by
    have hr : (rawN (sealB kind no li) 0 4 : Int) = no := by
      unfold sealB
      rw [rawN_put_other (by rw [leB_len]; omega) (.inl (by omega))]
      unfold seal3
      rw [rawN_put_other (by rw [leB_len]; omega) (.inl (by omega))]
      unfold seal2
      exact rawN_put (by omega) (by omega) (by omega)
    simp only [askB, hr]; simp
  have a4 : askB kind no (sealB kind no li) 4 = false := by
    have hr : (rawN (sealB kind no li) 4 2 : Int) = kind := by
      unfold sealB
      rw [rawN_put_other (by rw [leB_len]; omega) (.inl (by omega))]
      unfold seal3
      exact rawN_put (by omega) (by omega) (by omega)
    simp only [askB, hr]; simp
  have a5 : askB kind no (sealB kind no li) 5 = false := by
    have hr : rawN (sealB kind no li) 6 2 = 0 := by
      unfold sealB
      rw [rawN_put_other (by rw [leB_len]; omega) (.inl (by omega))]
      unfold seal3
      rw [rawN_put_other (by rw [leB_len]; omega) (.inr (by rw [leB_len]; omega))]
      unfold seal2
      rw [rawN_put_other (by rw [leB_len]; omega) (.inr (by rw [leB_len]; omega))]
      unfold seal1
      rw [rawN_put_other (by rw [List.length_replicate]; omega) (.inl (by omega))]
      exact rawN_zero fun j _ _ => zeros_get 256 j
    simp only [askB, hr]; rfl
  simp [openE, a0, a1, a2, a3, a4, a5]
theorem in_seal {kind no : Int} {li : List UInt8} (hl : li.length ≤ 244) : ((sealB kind no li).drop 8).take 244 = inSeal li := by
  have l1 := seal1_len hl
  have l2 := seal2_len (no := no) hl
  have l3 := seal3_len (kind := kind) (no := no) hl
  have l4 := sealB_len (kind := kind) (no := no) hl
  apply ext_getD
  · simp [inSeal, l4]; omega
  · intro j hj
    have hj2 : j < 244 := by simp [l4] at hj; omega
    have e : (((sealB kind no li).drop 8).take 244).getD j 0 = (sealB kind no li).getD (8 + j) 0 := by
      simp only [List.getD]; rw [List.getElem?_take, if_pos hj2, List.getElem?_drop]
    rw [e]
    unfold sealB
    rw [putB_get (by rw [leB_len]; omega), if_neg (by rw [leB_len]; omega)]
    unfold seal3
    rw [putB_get (by rw [leB_len]; omega), if_neg (by rw [leB_len]; omega)]
    unfold seal2
    rw [putB_get (by rw [leB_len]; omega), if_neg (by rw [leB_len]; omega)]
    unfold seal1
    rw [putB_get (by rw [List.length_replicate]; omega), zeros_get]
    unfold inSeal
    simp only [List.getD]
    rw [List.getElem?_append]
    by_cases h : j < li.length
    · rw [if_pos ⟨by omega, by omega⟩, if_pos h, show 8 + j - 8 = j by omega]
    · rw [if_neg (by omega), if_neg h]
      have := zeros_get (244 - li.length) (j - li.length)
      simp only [List.getD] at this
      exact this.symm
/-- a block that was written stands in the image -/
theorem blkB_put {l x : List UInt8} {k : Nat} (hx : x.length = 256) (hk : k < l.length / 256) : blkB (putB l (k * 256) x) k = x := by
  have hkl : k * 256 + 256 ≤ l.length := by omega
  have hp := putB_len (l := l) (k := k * 256) (x := x) (by omega)
  apply ext_getD
  · rw [blkB_len (by rw [hp]; exact hk), hx]
  · intro j hj
    rw [blkB_len (by rw [hp]; exact hk)] at hj
    have e : (blkB (putB l (k * 256) x) k).getD j 0 = (putB l (k * 256) x).getD (k * 256 + j) 0 := by
      simp only [blkB, List.getD]; rw [List.getElem?_take, if_pos hj, List.getElem?_drop]
    rw [e, putB_get (by omega), if_pos (by omega), show k * 256 + j - k * 256 = j by omega]
theorem blkB_put_other {l x : List UInt8} {k i : Nat} (hx : x.length = 256) (hk : k < l.length / 256) (hne : i ≠ k) (hi : i < l.length / 256) : blkB (putB l (k * 256) x) i = blkB l i := by
  have hkl : k * 256 + 256 ≤ l.length := by omega
  have hp := putB_len (l := l) (k := k * 256) (x := x) (by omega)
  apply ext_getD
  · rw [blkB_len (by rw [hp]; exact hi), blkB_len hi]
  · intro j hj
    rw [blkB_len (by rw [hp]; exact hi)] at hj
    have e : ∀ l : List UInt8, (blkB l i).getD j 0 = l.getD (i * 256 + j) 0 := fun l => by
      simp only [blkB, List.getD]; rw [List.getElem?_take, if_pos hj, List.getElem?_drop]
    rw [e, e, putB_get (by omega), if_neg (by omega)]
end Go.Proofs.YtbhjgcokpmiopaaGreat
namespace Go.Proofs.YtbhjgcokpmiopaaGreat
open Go.RowKit Go.Extern.Stop Go.Stop Go.Extern
set_option linter.unusedVariables false
attribute [local irreducible] wpList wpAnyH Code.wp Oper.wp Go

theorem seal_OpenNb (kind no : Int) (a : Option Addr) (n c : Nat) (l : List UInt8) (w : World) (hn : l.length = n) (h : Bys w (.slice a n c) l) : Calls Tryz.prog 48 #[.slice a n c, .int .i64 kind, .int .i64 no] w (OpenP kind no l w) := by
  subst hn; exact seal_Open kind no a c l w h
theorem bits_ReadN (a : Option Addr) (n c : Nat) (l : List UInt8) (w : World) (hn : l.length = n) (hl : n ≤ 100000000) (h : Bys w (.slice a n c) l) : Calls Tryz.prog 29 #[.slice a n c] w (BitsP l w) := by
  subst hn; exact bits_Read a c l w hl h
def bitsOkB (l : List UInt8) : Bool := decide (l.length = 244) && decide (rawN l 0 4 ≤ 960) && (List.range 960).all fun i => decide (i < rawN l 0 4) || bitN l i == 0
theorem bitsOkB_iff (l : List UInt8) : bitsOkB l = true ↔ bitsOk l := by
  unfold bitsOkB bitsOk
  simp only [Bool.and_eq_true, decide_eq_true_eq, List.all_eq_true, List.mem_range, Bool.or_eq_true, beq_iff_eq]
  constructor
  · rintro ⟨⟨h1, h2⟩, h3⟩
    exact ⟨h1, h2, fun i hi hc => (h3 i hi).resolve_left (by omega)⟩
  · rintro ⟨h1, h2, h3⟩
    exact ⟨⟨h1, h2⟩, fun i hi => by by_cases h : i < rawN l 0 4; exact .inl h; exact .inr (h3 i hi (by omega))⟩
/-- the number of Bits' error -/
def bitsErr (l : List UInt8) (no : Int) : Int := if inE l 3 no = 0 then (if bitsOkB (inB l no) then 0 else 7) else inE l 3 no
def BlkBitsP (l : List UInt8) (no : Int) (w : World) (e : Ending) (w' : World) : Prop :=
  (bitsErr l no ≠ 0 ∧ ∃ b, e = .returned (.tuple #[.slice none 0 0, .iface 146 (.pointer (some ⟨b, 0, none⟩))]) ∧ Below w.heap.size w w' ∧ ErrV w' [some no] (some (bitsErr l no)) (.iface 146 (.pointer (some ⟨b, 0, none⟩)))) ∨
  (bitsErr l no = 0 ∧ ∃ p c, e = .returned (.tuple #[.slice p (rawN (inB l no) 0 4) c, .nilIface]) ∧ Below w.heap.size w w' ∧ w'.ownsRow w.heap.size 3 1 (.slice p (rawN (inB l no) 0 4) c) (rawN (inB l no) 0 4) ((bitsL (inB l no) (rawN (inB l no) 0 4)).map nv))
set_option maxRecDepth 100000 in
set_option maxHeartbeats 1000000 in
theorem readB (B b : Nat) (p : Option Addr) (n c : Nat) (l : List UInt8) (no : Int) (w : World) (hI : ImgR B b p n c l w) :
    Calls Tryz.prog 28 #[.pointer (some ⟨b, 0, none⟩), .int .i64 no, .int .i64 3, .func (.func 29) #[] #[]] w (BlkBitsP l no w) := by
 refine zin 56 Tryz.func28 ?_
 refine xc 15 (args := #[.pointer (some ⟨b, 0, none⟩), .int .i64 no]) (image_Read B b p n c l no _ (hI.below (Below.refl w.heap.size _))) ?_
 rintro e W1 hq1
 rcases hq1 with ⟨ho, vr, rfl, hb1⟩ | ⟨j, hk, hj, p2, c2, rfl, hb1, ho⟩
 · refine xc 21 (args := #[.int .i64 no, .iface 46 (.int .i64 3)]) (block_told no 3 _) ?_
   rintro _ W2 ⟨_, rfl, hb2, hv2⟩
   rw [if_neg (by decide), if_neg (by decide)] at hv2
   have hq2 := hv2
   obtain ⟨bf2, vf2, rfl, _, _⟩ := hq2
   have hB := Bl.next hb1 hb2
   refine xe 6 (.tuple #[.slice none 0 0, .iface 146 (.pointer (some ⟨bf2, 0, none⟩))]) ?_
   have he : bitsErr l no = 3 := by unfold bitsErr; rw [inE_out hI.len ho]; rfl
   exact .inl ⟨by rw [he]; decide, _, rfl, hB, by rw [he]; exact hv2⟩
 have hs1 := Nat.le_refl w.heap.size
 have hj2 : j < l.length / 256 := by rw [hI.len]; exact hj
 have hlj := blkB_len hj2
 have he2 := inE_in (l := l) (kind := 3) hI.len hk hj
 have ho'1 := own_mono ho hs1
 refine xc 22 (args := #[.slice p2 256 c2, .int .i64 3, .int .i64 no]) (seal_OpenNb 3 no p2 256 c2 (blkB l j) _ hlj (bys_of (own_sl ho'1) hlj)) ?_
 rintro e W3 hq3
 rcases hq3 with ⟨hs, rfl, hb3⟩ | ⟨hs, p3, c3, rfl, hb3, h3⟩
 · refine xk 14 (show (((openE 3 no (blkB l j)) != (0 : Int)) : Bool) = true from bne_iff_ne.2 hs) ?_
   refine xc 6 (args := #[.int .i64 no, .iface 46 (.int .i64 (openE 3 no (blkB l j)))]) (block_told no (openE 3 no (blkB l j)) _) ?_
   rintro _ W4 ⟨_, rfl, hb4, hv4⟩
   rw [if_neg hs, if_neg hs] at hv4
   have hq4 := hv4
   obtain ⟨bf4, vf4, rfl, _, _⟩ := hq4
   have hB := Bl.next (Bl.next hb1 hb3) hb4
   refine xe 6 (.tuple #[.slice none 0 0, .iface 146 (.pointer (some ⟨bf4, 0, none⟩))]) ?_
   have he : bitsErr l no = openE 3 no (blkB l j) := by unfold bitsErr; rw [he2, if_neg hs]
   exact .inl ⟨by rw [he]; exact hs, _, rfl, hB, by rw [he]; exact hv4⟩
 have h3'1 := own_mono h3 hb1.size
 have hin : ((blkB l j).drop 8).take 244 = inB l no := (inB_in hk).symm
 have hil := inB_len hI.len hk hj
 rw [hin] at h3'1
 refine xc 21 (args := #[.slice p3 244 c3]) (bits_ReadN p3 244 c3 (inB l no) _ hil (by decide) (bys_of (own_sl h3'1) hil)) ?_
 rintro e W5 hq5
 rcases hq5 with ⟨hb0, rfl, hb5⟩ | ⟨hb0, p4, c4, rfl, hb5, h4⟩
 · refine xc 21 (args := #[.int .i64 no, .iface 46 (.int .i64 7)]) (block_told no 7 _) ?_
   rintro _ W6 ⟨_, rfl, hb6, hv6⟩
   rw [if_neg (by decide), if_neg (by decide)] at hv6
   have hq6 := hv6
   obtain ⟨bf6, vf6, rfl, _, _⟩ := hq6
   have hB := Bl.next (Bl.next (Bl.next hb1 hb3) hb5) hb6
   refine xe 6 (.tuple #[.slice none 0 0, .iface 146 (.pointer (some ⟨bf6, 0, none⟩))]) ?_
   have he : bitsErr l no = 7 := by unfold bitsErr; rw [he2, if_pos hs, if_neg (by rw [bitsOkB_iff]; exact hb0)]
   exact .inl ⟨by rw [he]; decide, _, rfl, hB, by rw [he]; exact hv6⟩
 have hs5 := (Bl.next hb1 hb3).size
 have hB := Bl.next (Bl.next hb1 hb3) hb5
 have h4'1 := own_mono h4 hs5
 exact xe 25 (.tuple #[.slice p4 (rawN (inB l no) 0 4) c4, .nilIface]) (.inr ⟨by unfold bitsErr; rw [he2, if_pos hs, if_pos ((bitsOkB_iff _).2 hb0)], _, _, rfl, hB, h4'1⟩)
set_option maxRecDepth 100000 in
set_option maxHeartbeats 1000000 in
theorem block_Bits (B b : Nat) (p : Option Addr) (n c : Nat) (l : List UInt8) (no : Int) (w : World) (hI : ImgR B b p n c l w) :
    Calls Tryz.prog 10 #[.pointer (some ⟨b, 0, none⟩), .int .i64 no] w (BlkBitsP l no w) := by
 refine zin 11 Tryz.func10 ?_
 refine xc 10 (args := #[.pointer (some ⟨b, 0, none⟩), .int .i64 no, .int .i64 3, .func (.func 29) #[] #[]]) (readB B b p n c l no _ (hI.below (Below.refl w.heap.size _))) ?_
 rintro e W1 hq1
 rcases hq1 with ⟨he, bf, rfl, hb1, hv⟩ | ⟨he, p4, c4, rfl, hb1, h4⟩
 · exact xe 7 (.tuple #[.slice none 0 0, .iface 146 (.pointer (some ⟨bf, 0, none⟩))]) (.inl ⟨he, _, rfl, hb1, hv⟩)
 have hs1 := Nat.le_refl w.heap.size
 have h4'1 := own_mono h4 hs1
 exact xe 7 (.tuple #[.slice p4 (rawN (inB l no) 0 4) c4, .nilIface]) (.inr ⟨he, _, _, rfl, hb1, h4'1⟩)
end Go.Proofs.YtbhjgcokpmiopaaGreat
namespace Go.Proofs.YtbhjgcokpmiopaaGreat
open Go.RowKit Go.Extern.Stop Go.Stop Go.Extern
set_option linter.unusedVariables false
attribute [local irreducible] wpList wpAnyH Code.wp Oper.wp Go

/-- the head of a node -/
def headB (t : Int) (leaf : Bool) (n m v : Nat) : List UInt8 := leB (flagN leaf) 1 ++ leB t 1 ++ leB (n : Int) 2 ++ leB (v : Int) 2 ++ leB (m : Int) 2 ++ leB 0 4
theorem headB_len (t : Int) (leaf : Bool) (n m v : Nat) : (headB t leaf n m v).length = 12 := by simp [headB, leB_len]
/-- the bytes of a node, when i of its entries stand -/
def nodeP (m v : Nat) (H : List UInt8) (K : List Int) (Vs : List (List UInt8)) : Nat → List UInt8
  | 0 => putB (List.replicate 244 0) 0 H
  | i + 1 => putB (putB (nodeP m v H K Vs i) (12 + i * 8) (leB (K.getD i 0) 8)) (12 + m * 8 + i * v) (Vs.getD i [])
set_option maxRecDepth 100000 in
theorem nodeP_len {m v : Nat} {H : List UInt8} {K : List Int} {Vs : List (List UInt8)} (hH : H.length = 12) (hf : 12 + m * 8 + m * v ≤ 244) : ∀ {i : Nat}, i ≤ m → (∀ j, j < i → (Vs.getD j []).length = v) → (nodeP m v H K Vs i).length = 244
  | 0, _, _ => by rw [nodeP, putB_len (by rw [List.length_replicate]; omega), List.length_replicate]
  | i + 1, hi, hV => by
    have ih := nodeP_len (K := K) hH hf (i := i) (by omega) (fun j hj => hV j (by omega))
    have h1 := hV i (by omega)
    have h2 : (i + 1) * v ≤ m * v := Nat.mul_le_mul_right v hi
    rw [Nat.add_mul, Nat.one_mul] at h2
    have h3 : (putB (nodeP m v H K Vs i) (12 + i * 8) (leB (K.getD i 0) 8)).length = 244 := by rw [putB_len (by rw [leB_len, ih]; omega), ih]
    rw [nodeP, putB_len (by rw [h1, h3]; omega), h3]
set_option maxRecDepth 100000 in
set_option maxHeartbeats 8000000 in
theorem node_Put (t : Int) (leaf : Bool) (n m v : Nat) (K : List Int) (Vs : List (List UInt8)) (ak av : Option Addr) (ck cv : Nat) (w : World) (N : NodeOk t leaf n m v K Vs) (hKs : Sl w (.slice ak n ck) n (K.map (Value.int .i64))) (hVs : Sl w (.slice av n cv) n (Vs.map sv)) :
    Calls Tryz.prog 61 #[.agg #[.int .i64 t, .bool leaf, .slice ak n ck, .slice av n cv]] w (RetS (fun w' r => ∃ p c, r = .tuple #[.slice p 244 c, .int .i64 0] ∧ w'.ownsRow w.heap.size 5 1 (.slice p 244 c) 244 ((nodeP m v (headB t leaf n m v) K Vs n).map bv)) w) := by
 have ht1 := N.ht1
 have ht2 := N.ht2
 have hnm := N.hn
 have hwb := widN_bd t leaf
 rw [N.hv] at hwb
 have hmb := maxN_pos t leaf
 rw [N.hm] at hmb
 have hfit := fitN t leaf
 rw [N.hm, N.hv] at hfit
 have hcap := Sl.cap hKs
 refine zin 90 Tryz.func61 ?_
 refine xa 2 [.int .i64 t, .bool leaf, .slice ak n ck, .slice av n cv] 112 fun b1 W1 n1 => ?_
 refine xlv 7 n1.blk.rp ?_
 refine xr 0 (args := #[.agg #[.int .i64 t, .bool leaf, .slice ak n ck, .slice av n cv]]) (node_Right t leaf n m v K Vs ak av ck cv _ N (hKs.below n1.below) (hVs.below n1.below)) fun W2 hb2 => ?_
 refine xd 7 .z ?_
 have k1'1 := (n1.blk.below hb2).below (below_drew W2)
 refine xb (.e [0] 1) 0 k1'1 ?_
 refine xb (.e [2] 3) 1 k1'1 ?_
 refine xb (.e [5] 6) 0 k1'1 ?_
 refine xb (.e [7] 8) 1 k1'1 ?_
 refine xr (.o [] 4) (args := #[.int .i64 t, .bool leaf]) (node_WidthN t leaf v N.hv ht1 ht2 _) fun W3 hb3 => ?_
 refine xr (.o [] 9) (args := #[.int .i64 t, .bool leaf]) (node_MaxN t leaf m N.hm ht1 ht2 _) fun W4 hb4 => ?_
 refine xd (.r [10, 11] 3) .z ?_
 have k1'2 := ((k1'1.below hb3).below hb4).below (below_drew W4)
 refine xb (.e [0] 1) 1 k1'2 ?_
 refine xb (.e [4] 5) 0 k1'2 ?_
 refine xb (.e [6, 7] 8) 2 k1'2 ?_
 refine xr (.o [9, 10, 11, 12, 13, 14, 15] 2) (args := #[.bool leaf]) (node_flag leaf _) fun W5 hb5 => ?_
 refine xbs (.o [3] 16) 6 [.int .i64 1, .int .i64 (flagN leaf), .int .i64 1, .int .i64 t, .int .i64 2, .int .i64 (↑n : Int), .int .i64 2, .int .i64 (↑v : Int), .int .i64 2, .int .i64 (↑m : Int), .int .i64 4, .int .i64 0] 89 fun b6 W6 n6 => ?_
 have hB'1 := Bl.next (Bl.next (Bl.next (Bl.next (Bl.next (Bl.next n1.below hb2) (below_drew W2)) hb3) hb4) (below_drew W4)) hb5
 refine yc (.o [] 17) (args := #[.slice (some ⟨b6, 0, none⟩) 6 6]) .z (Pack_node b6 (flagN leaf) t (n : Int) (v : Int) (m : Int) (flagN_bd leaf).1 (flagN_bd leaf).2 (by omega) (by omega) (by omega) (by omega) (by omega) (by omega) (by omega) (by omega) _ n6.blk) ?_
 rintro _ W7 ⟨_, rfl, hb7, p2, c2, rfl, h2⟩
 have hs7 := (Bl.next hB'1 n6.below).size
 refine ⟨hb7, ?_⟩
 refine xmk (.r [18, 19, 20, 21, 22] 4) fun _ _ _ _ zJ zQ zo zx zy zK => op_make 244 (.int .u8 0) 1 1 ((List.replicate 244 (0 : UInt8)).map bv) zo zx zy Tryz.underlying45 (by kernel_rfl) rfl (by omega) (by omega) (zerosB 244) fun b8 W8 n8 => ?_
 have h2'1 := own_mono h2 hs7
 have r8_h2 := own_ne h2'1 n8
 refine zK _ _ ?_
 have o8 := own_of_blk (size := 1) (n := 244) n8.blk (n8.ge (Bl.next (Bl.next hB'1 n6.below) hb7)) (by rw [List.length_map, List.length_replicate]) (by unfold maxLen; omega)
 have h2'2 := own_below h2'1 n8.below
 have hB'2 := Bl.next (Bl.next (Bl.next hB'1 n6.below) hb7) n8.below
 refine xbi 7 (t2 := 45) fun _ _ _ _ zJ zQ zo zx zy zK => op_copy (dLen := 244) (dCap := 244) (off := 0) 12 ((headB t leaf n m v).map bv) ((nodeP m v (headB t leaf n m v) K Vs 0).map bv) zo Tryz.underlying45 (by kernel_rfl) zx zy (own_sl h2'2) o8 (by simp [headB_len]) (by omega) (by omega) (bv_one _) hB'2.size (by simp [nodeP, putB, headB_len]) fun W9 o9 hg9 hb9 => ?_
 refine zK _ _ ?_
 have k1'3 := ((((k1'2.below hb5).below n6.below).below hb7).below n8.below).grown hg9 o8 (by decide)
 refine xb 6 2 k1'3 ?_
 have hB'3 := hB'2.trans hb9
 have k6'1 := ((n6.blk.below hb7).below n8.below).grown hg9 o8 (by decide)
 refine zl 5 90 (fun zm zkv V => ∃ (i : Nat), zkv = [(1, .pointer (some ⟨b1, 0, none⟩)), (2, .slice none 0 0), (3, .int .i64 0), (4, .int .i64 (↑v : Int)), (5, .int .i64 (↑m : Int)), (8, .slice (some ⟨b8, 0, none⟩) 244 244), (52, .slice ak n ck), (53, .int .i64 (↑n : Int)), (54, .int .i64 (↑i : Int))] ∧ zm = n - ((↑i : Int)).toNat ∧ Below w.heap.size w V ∧ Blk V b1 ([.int .i64 t, .bool leaf, .slice ak n ck, .slice av n cv]) 112 ∧ Blk V b6 ([.int .i64 1, .int .i64 (flagN leaf), .int .i64 1, .int .i64 t, .int .i64 2, .int .i64 (↑n : Int), .int .i64 2, .int .i64 (↑v : Int), .int .i64 2, .int .i64 (↑m : Int), .int .i64 4, .int .i64 0]) 89 ∧ V.ownsRow w.heap.size 5 1 (.slice (some ⟨b8, 0, none⟩) 244 244) 244 ((nodeP m v (headB t leaf n m v) K Vs i).map bv) ∧ i ≤ n) ⟨0, rfl, rfl, hB'3, k1'3, k6'1, o9, Nat.zero_le _⟩ ?_
 rintro _ _ W10 ⟨i, rfl, rfl, hB_10, k10_b1, k10_b6, ho, hi⟩ J10 hJ10 r10
 have hb9 : i < n → i * v + v ≤ m * v := fun h => by have h9 : (i + 1) * v ≤ m * v := Nat.mul_le_mul_right v (by omega); rw [Nat.add_mul, Nat.one_mul] at h9; exact h9
 refine xid 6 ((↑i : Int) < (↑n : Int)) (fun hc11 => ?_) (fun hc11 => ?_)
 · refine xx 7 _ n i 1 (IntsN.elem hKs N.hK (k := i) (by omega)).1 ?_
   refine xl 0 ((IntsN.elem (hKs.below hB_10) N.hK (k := i) (by omega)).2) ?_
   refine xbs 8 1 [.int .i64 8, .int .i64 (K.getD i 0)] 89 fun b12 W12 n12 => ?_
   have d12_b6 := n12.ne k10_b6
   refine xc 0 (args := #[.slice (some ⟨b12, 0, none⟩) 1 1]) (Pack_8 b12 (K.getD i 0) (N.hk0 i (by omega)).1 _ n12.blk) ?_
   rintro _ W13 ⟨_, rfl, hb13, p3, c3, rfl, h3⟩
   have hs13 := (Bl.next hB_10 n12.below).size
   refine xwm 11 ((↑i : Int) * 8) (↑(i * 8) : Int) ?_
   refine xwm 0 (12 + (↑(i * 8) : Int)) (↑(12 + (i * 8)) : Int) ?_
   refine xsL 0 (fun _ _ _ _ zo zx zy V => run_sliceL (k := (12 + (i * 8))) (b := b8) (off := 0) (n := 244) (c := 244) (i := (↑(12 + (i * 8)) : Int)) (ki := .i64) 1 zo zx zy rfl (by omega) (by omega) Tryz.underlying45 (by kernel_rfl) V) ?_
   have ho'1 := own_below (own_below ho n12.below) hb13
   have h3'1 := own_mono h3 hs13
   have hB'4 := Bl.next (Bl.next hB_10 n12.below) hb13
   refine xbi 1 (t2 := 45) fun _ _ _ _ zJ zQ zo zx zy zK => op_copy (dLen := (244 - (12 + (i * 8)))) (dCap := (244 - (12 + (i * 8)))) (off := (0 + (12 + (i * 8)) * 1)) 8 ((leB (K.getD i 0) 8).map bv) ((putB (nodeP m v (headB t leaf n m v) K Vs i) (12 + i * 8) (leB (K.getD i 0) 8)).map bv) zo Tryz.underlying45 (by kernel_rfl) zx zy (own_sl h3'1) ho'1 (by simp [leB_len]) (by omega) (by omega) (bv_one _) hB'4.size (by simp [putB, leB_len, List.map_take, List.map_drop]) fun W14 o14 hg14 hb14 => ?_
   refine zK _ _ ?_
   refine xd 2 (.t w.heap.size [5]) ?_
   refine xwm (.e [0, 1] 2) ((↑m : Int) * 8) (↑(m * 8) : Int) ?_
   refine xwm (.e [] 3) (12 + (↑(m * 8) : Int)) (↑(12 + (m * 8)) : Int) ?_
   refine xwm (.e [4, 5] 6) ((↑i : Int) * (↑v : Int)) (↑(i * v) : Int) ?_
   refine xwm (.e [] 7) ((↑(12 + (m * 8)) : Int) + (↑(i * v) : Int)) (↑((12 + (m * 8)) + (i * v)) : Int) ?_
   refine xsL (.e [] 8) (fun _ _ _ _ zo zx zy V => run_sliceL (k := ((12 + (m * 8)) + (i * v))) (b := b8) (off := 0) (n := 244) (c := 244) (i := (↑((12 + (m * 8)) + (i * v)) : Int)) (ki := .i64) 1 zo zx zy rfl (by omega) (by omega) Tryz.underlying45 (by kernel_rfl) V) ?_
   have k10_b1'1 := (((k10_b1.below n12.below).below hb13).grown hg14 ho'1 (by decide)).below (below_drew W14)
   refine xbt (.e [9] 10) 3 w.heap.size [5] k10_b1'1 ?_
   refine xx (.e [11] 12) _ n i 1 (Strs.elem hVs N.hV (k := i) (by omega)).1 ?_
   have hB'5 := Bl.next (hB'4.trans hb14) (below_drew W14)
   refine xlt (.e [] 13) (.t w.heap.size [5]) (fun V hV => (Strs.elem (hVs.below (sft_keep hB'5 hV (Nat.le_refl _))) N.hV (k := i) (by omega)).2) ?_
   have o14'1 := own_below o14 (below_drew W14)
   refine ybi (.o [] 14) (t2 := 9) (.t w.heap.size [5]) fun _ _ _ _ zJ zQ zo zx zy zK => op_copyS (dLen := (244 - ((12 + (m * 8)) + (i * v)))) (dCap := (244 - ((12 + (m * 8)) + (i * v)))) (off := (0 + ((12 + (m * 8)) + (i * v)) * 1)) (Vs.getD i []) ((nodeP m v (headB t leaf n m v) K Vs (i + 1)).map bv) zo Tryz.underlying45 (by kernel_rfl) zx zy o14'1 (by rw [N.hw i (by omega)]; omega) (by rw [N.hw i (by omega)]; omega) hB'5.size (by simp [nodeP, putB, List.map_take, List.map_drop]) fun W15 o15 hg15 hb15 => ?_
   refine zK _ _ (sft_grown hb15 hg15 o14'1 (by decide)) ?_
   refine xwm 4 ((↑i : Int) + 1) (↑(i + 1) : Int) ?_
   have hB'6 := hB'5.trans hb15
   have k10_b1'2 := k10_b1'1.grown hg15 o14'1 (by decide)
   have k10_b6'1 := ((((k10_b6.below n12.below).below hb13).grown hg14 ho'1 (by decide)).below (below_drew W14)).grown hg15 o14'1 (by decide)
   exact ze 2 (hJ10 _ _ _ ⟨i + 1, rfl, rfl, hB'6, k10_b1'2, k10_b6'1, o15, by omega⟩ (by omega))
 refine xe 13 (.tuple #[.slice (some ⟨b8, 0, none⟩) 244 244, .int .i64 0]) ?_
 have e : i = n := by omega
 subst e
 exact ⟨_, rfl, hB_10, _, _, rfl, ho⟩
end Go.Proofs.YtbhjgcokpmiopaaGreat
namespace Go.Proofs.YtbhjgcokpmiopaaGreat
open Go.RowKit Go.Extern.Stop Go.Stop Go.Extern
set_option linter.unusedVariables false
attribute [local irreducible] wpList wpAnyH Code.wp Oper.wp Go

set_option maxRecDepth 100000 in
set_option maxHeartbeats 1000000 in
theorem alloc_Image (ba b : Nat) (v x : Value) (w : World) (hk : Blk w ba [v, x, .pointer (some ⟨b, 0, none⟩)] 64) :
    Calls Tryz.prog 9 #[.pointer (some ⟨ba, 0, none⟩)] w (Ret (.pointer (some ⟨b, 0, none⟩)) w) := by
 refine zin 9 Tryz.func9 ?_
 refine xr 9 (args := #[.pointer (some ⟨ba, 0, none⟩)]) (alloc_nobody ba b _ _ _ hk) fun W1 hb1 => ?_
 have hk'1 := hk.below hb1
 refine xb 10 2 hk'1 ?_
 exact xe 4 (.pointer (some ⟨b, 0, none⟩)) ⟨rfl, hb1⟩
/-- an entry: its key, its value, its block -/
abbrev Ent := Int × List UInt8 × Int
def entD : Ent := (0, [], 0)
def entC (x : Ent) : List Value := [.int .i64 x.1, .string ⟨x.2.1.toArray⟩, .int .i64 x.2.2]
theorem entC_len (x : Ent) : (entC x).length = 3 := rfl
/-- the key ahead of entry i -/
def lastK (l : List Ent) : Nat → Int
  | 0 => -1
  | i + 1 => (l.getD i entD).1
/-- entries that a tree may be built of -/
structure EntsOk (v : Nat) (l : List Ent) : Prop where
  hk : ∀ i, i < l.length → 0 ≤ (l.getD i entD).1 ∧ (l.getD i entD).1 ≤ 281474976710655
  hs : ∀ j, j + 1 < l.length → (l.getD j entD).1 < (l.getD (j + 1) entD).1
  hw : ∀ i, i < l.length → (l.getD i entD).2.1.length = v
theorem EntsOk.last {v : Nat} {l : List Ent} (E : EntsOk v l) {i : Nat} (h : i < l.length) : lastK l i < (l.getD i entD).1 := by
  cases i with
  | zero => have := (E.hk 0 h).1; simp only [lastK]; omega
  | succ j => exact E.hs j h
theorem levs_ge (x : Nat) : x ≤ (levs x).sum := by
  by_cases h : x ≤ 1
  · rw [levs_one h]; simp
  · rw [levs_more h]; simp
theorem nodN_pos (t : Int) (n : Nat) : 1 ≤ nodN t n := by
  have h1 := levs_ge (ovN n (maxN t true)); have h2 := ovN_pos n (maxN t true); unfold nodN levL; omega
set_option maxRecDepth 100000 in
set_option maxHeartbeats 4000000 in
theorem build_right (t : Int) (v : Nat) (a : Option Addr) (c : Nat) (l : List Ent) (w : World) (ht1 : 1 ≤ t) (ht2 : t ≤ 5) (hv : widN t true = v) (E : EntsOk v l) (h : Sts entC w (.slice a l.length c) l) (hn : l.length ≤ 32768) :
    Calls Tryz.prog 36 #[.int .i64 t, .slice a l.length c] w (Ret (.bool true) w) := by
 have hwb := widN_bd t true
 rw [hv] at hwb
 have hnp := nodN_pos t l.length
 refine zin 45 Tryz.func36 ?_
 refine xr 8 (args := #[.int .i64 t, .bool true]) (node_WidthN t true v hv ht1 ht2 _) fun W1 hb1 => ?_
 refine xgk 9 [12, 13] (show (((↑v : Int) == (0 : Int)) : Bool) = false from by simp; omega) ?_
 refine xr 3 (args := #[.int .i64 t, .int .i64 (↑l.length : Int)]) (tall_Nodes t l.length _ ht1 ht2 hn) fun W3 hb3 => ?_
 refine xk 4 (show (((↑(nodN t l.length) : Int) == (0 : Int)) : Bool) = false from by simp; omega) ?_
 have hB := Bl.next hb1 hb3
 refine zl 16 45 (fun zm zkv V => ∃ (i : Nat), zkv = [(5, .int .i64 (↑v : Int)), (6, .int .i64 (lastK l i)), (20, .slice a l.length c), (21, .int .i64 (↑l.length : Int)), (22, .int .i64 (↑i : Int))] ∧ zm = l.length - ((↑i : Int)).toNat ∧ Below w.heap.size w V ∧ i ≤ l.length) ⟨0, rfl, rfl, hB, Nat.zero_le _⟩ ?_
 rintro _ _ W4 ⟨i, rfl, rfl, hB_4, hi⟩ J4 hJ4 r4
 refine xid 6 ((↑i : Int) < (↑l.length : Int)) (fun hc5 => ?_) (fun hc5 => ?_)
 · refine xx 6 _ l.length i 3 (Sts.cell h entC_len entD (k := i) (i := 0) (by omega) rfl).1 ?_
   refine xlv 0 (Sts.rp (k := i) (h.below hB_4) entC_len entD (by omega) (by decide)) ?_
   refine xa 0 [.int .i64 0, .string ⟨#[]⟩, .int .i64 0] 74 fun b6 W6 n6 => ?_
   refine xsv 0 n6.blk [.int .i64 ((l.getD i entD).1), .string ⟨((l.getD i entD).2.1).toArray⟩, .int .i64 ((l.getD i entD).2.2)] fun W7 u7 k7 => ?_
   have g6 := n6.ge hB_4
   refine xb 6 0 k7 ?_
   refine xgk 3 [29, 30] (show (decide ((l.getD i entD).1 ≤ (lastK l i)) : Bool) = false from decide_eq_false (by have := E.last (i := i) (by omega); omega)) ?_
   refine xb 1 0 k7 ?_
   refine xgk 3 [33, 34, 35] (show (decide ((l.getD i entD).1 > (281474976710655 : Int)) : Bool) = false from decide_eq_false (by have := (E.hk i (by omega)).2; omega)) ?_
   refine xb 1 1 k7 ?_
   refine xk 6 (show (((↑((l.getD i entD).2.1).length : Int) != (↑v : Int)) : Bool) = false from by rw [E.hw i (by omega)]; simp) ?_
   refine xb 4 0 k7 ?_
   refine xw 5 ((↑i : Int) + 1) ?_
   have hB'1 := u7.below (Bl.next hB_4 n6.below) g6
   exact ze 2 (hJ4 _ _ _ ⟨i + 1, rfl, rfl, hB'1, by omega⟩ (by omega))
 exact xe 11 (.bool true) ⟨rfl, hB_4⟩
end Go.Proofs.YtbhjgcokpmiopaaGreat
namespace Go.Proofs.YtbhjgcokpmiopaaGreat
open Go.RowKit Go.Extern.Stop Go.Stop Go.Extern
set_option linter.unusedVariables false
attribute [local irreducible] wpList wpAnyH Code.wp Oper.wp Go

set_option maxRecDepth 100000 in
set_option maxHeartbeats 1000000 in
theorem value_root (w : World) :
    Calls Tryz.prog 90 #[] w (RetS (fun w' r => ∃ b, r = .slice (some ⟨b, 0, none⟩) 1 1 ∧ w.heap.size ≤ b ∧ Blk w' b [.int .i64 4, .int .i64 1, .int .i64 14399] 134) w) := by
 refine zin 3 Tryz.func90 ?_
 refine xbs 8 1 [.int .i64 4, .int .i64 1, .int .i64 14399] 134 fun b1 W1 n1 => ?_
 have g1 := n1.ge (Below.refl w.heap.size _)
 exact xe 4 (.slice (some ⟨b1, 0, none⟩) 1 1) ⟨_, rfl, n1.below, _, rfl, g1, n1.blk⟩
set_option maxRecDepth 100000 in
set_option maxHeartbeats 1000000 in
theorem value_put1 (gl gn : Nat) (n : Int) (h1 : 1 ≤ n) (h2 : n ≤ 14399) (w : World) (hl : Blk w gl [.int .i64 4, .int .i64 1, .int .i64 14399] 134) (hn : Blk w gn [.int .i64 n] 3) :
    Calls Tryz.prog 54 #[.slice (some ⟨gl, 0, none⟩) 1 1, .slice (some ⟨gn, 0, none⟩) 1 1] w (Ret (.string ⟨(leB n 4).toArray⟩) w) := by
 have hlo := h1
 have hhi := h2
 clear h2
 refine zin 51 Tryz.func54 ?_
 refine xu 19 2 ?_
 refine xlv 15 hl.rp ?_
 refine xa 0 [.int .i64 0, .int .i64 0, .int .i64 0] 134 fun b1 W1 n1 => ?_
 have d1_gl := n1.ne hl
 refine xsv 1 n1.blk [.int .i64 4, .int .i64 1, .int .i64 14399] fun W2 u2 k2 => ?_
 have g1 := n1.ge (Below.refl w.heap.size _)
 refine xd 4 .z ?_
 have hn'1 := (u2.blkT (hn.below n1.below) n1.blk (by decide)).below (below_drew W2)
 refine xb (.e [0, 1, 2] 3) 0 hn'1 ?_
 have k2'1 := k2.below (below_drew W2)
 refine xb (.e [4] 5) 1 k2'1 ?_
 refine xgk (.b [6, 7]) [23, 24] (show (decide (n < (1 : Int)) : Bool) = false from decide_eq_false (by omega)) ?_
 refine xb (.e [8, 9, 10] 11) 0 hn'1 ?_
 refine xb (.e [12] 13) 2 k2'1 ?_
 refine xk (.r [14, 15] 2) (show (decide (n > (14399 : Int)) : Bool) = false from decide_eq_false (by omega)) ?_
 refine xd 3 .z ?_
 have k2'2 := k2'1.below (below_drew W2.drew)
 refine xb (.e [0] 1) 0 k2'2 ?_
 have hn'2 := hn'1.below (below_drew W2.drew)
 refine xb (.e [2, 3, 4] 5) 0 hn'2 ?_
 refine xbs (.o [6] 7) 1 [.int .i64 4, .int .i64 n] 89 fun b4 W4 n4 => ?_
 refine yc (.o [] 8) (args := #[.slice (some ⟨b4, 0, none⟩) 1 1]) .z (Pack_4 b4 n (by omega) (by omega) _ n4.blk) ?_
 rintro _ W5 ⟨_, rfl, hb5, p2, c2, rfl, h2⟩
 have hs5 := (Bl.next (Bl.next (Bl.next (u2.below n1.below g1) (below_drew W2)) (below_drew W2.drew)) n4.below).size
 refine ⟨hb5, ?_⟩
 have o6 := World.ownsRow_nil W5 w.heap.size 5 1
 have h2'1 := own_mono h2 hs5
 have hB := Bl.next (Bl.next (Bl.next (Bl.next (u2.below n1.below g1) (below_drew W2)) (below_drew W2.drew)) n4.below) hb5
 refine xbi (.r [9, 10, 11, 12, 13] 5) fun _ _ _ _ zJ zQ zo zx zy zK => op_app (m := 4) (news := (leB n 4).map bv) (.int .u8 0) 1 1 (4) ((leB n 4).map bv) zo Tryz.underlying45 (by kernel_rfl) rfl (by decide) zx o6 zy (own_sl h2'1) (by simp [leB_len]) (bv_one _) (by unfold maxLen; omega) (by omega) hB.size (by rfl) (by simp) fun p7 c7 W7 o7 hg7 hb7 => ?_
 refine zK _ _ ?_
 refine xcv0 24 (fun _ _ _ zo zx => run_bstr zo zx (bys_of (own_sl o7) (leB_len _ _)) (leB_len _ _) Tryz.underlying45 Tryz.underlying5 Tryz.underlying9) ?_
 have hB'1 := hB.trans hb7
 exact xe 4 (.string ⟨(leB n 4).toArray⟩) ⟨rfl, hB'1⟩
set_option maxRecDepth 100000 in
set_option maxHeartbeats 1000000 in
theorem value_Root (n : Int) (h1 : 1 ≤ n) (h2 : n ≤ 14399) (w : World) :
    Calls Tryz.prog 62 #[.int .i64 n] w (Ret (.string ⟨(leB n 4).toArray⟩) w) := by
 refine zin 7 Tryz.func62 ?_
 refine xc 7 (args := #[]) (value_root _) ?_
 rintro _ W1 ⟨_, rfl, hb1, gl, rfl, gg, kl⟩
 refine xbs 1 1 [.int .i64 n] 3 fun b2 W2 n2 => ?_
 have kl'1 := kl.below n2.below
 refine xr 0 (args := #[.slice (some ⟨gl, 0, none⟩) 1 1, .slice (some ⟨b2, 0, none⟩) 1 1]) (value_put1 gl b2 n h1 h2 _ kl'1 n2.blk) fun W3 hb3 => ?_
 have hB := Bl.next (Bl.next hb1 n2.below) hb3
 exact xe 4 (.string ⟨(leB n 4).toArray⟩) ⟨rfl, hB⟩
end Go.Proofs.YtbhjgcokpmiopaaGreat
namespace Go.Proofs.YtbhjgcokpmiopaaGreat
open Go.RowKit Go.Extern.Stop Go.Stop Go.Extern
set_option linter.unusedVariables false
attribute [local irreducible] wpList wpAnyH Code.wp Oper.wp Go

theorem Sts.cut {α : Type} {f : α → List Value} {m : Nat} {w : World} {b : Option Addr} {c : Nat} {l : List α} (hm : ∀ x, (f x).length = m) (h : Sts f w (.slice b l.length c) l) (k : Nat) (hk : k ≤ l.length) : Sts f w (.slice (cutA b k c m) (l.drop k).length (c - k)) (l.drop k) := by
  have hlen : (l.drop k).length = l.length - k := by simp
  have hcap := Sl.cap h
  by_cases hkn : k = l.length
  · refine .inl ⟨cutA b k c m, c - k, by rw [show (l.drop k).length = 0 by omega], by omega, ?_⟩
    rw [List.drop_eq_nil_of_le (by omega)]; rfl
  rcases h with ⟨a', c', h1, h2, h3⟩ | ⟨g, off, cap, h1, h2, h3, h4⟩
  · omega
  · simp only [Value.slice.injEq] at h1
    obtain ⟨rfl, _, rfl⟩ := h1
    refine .inr ⟨g, off + k * m, c - k, ?_, by omega, by omega, fun j x hj => ?_⟩
    · rw [cutA, if_neg (by omega)]; simp [Addr.add]
    · have hfl : (l.drop k).flatMap f = (l.flatMap f).drop (k * m) := by
        conv => rhs; rw [← List.take_append_drop k l, List.flatMap_append]
        rw [List.drop_left' (by rw [flat_length hm, List.length_take, Nat.min_eq_left hk])]
      rw [hfl, List.getElem?_drop] at hj
      have := h4 _ _ hj
      rwa [← Nat.add_assoc] at this
theorem Al.only {B ba b g n c : Nat} {pa : Option Addr} {ca f N k : Nat} {l : List UInt8} {w W : World} {T : List TypeId} (h : Al B ba b g n c pa ca f N k l w) (hO : Only T w W) (hT : (T.contains 64 || T.contains 71 || T.contains 5 || T.contains 3) = false) : Al B ba b g n c pa ca f N k l W := by
  simp only [Bool.or_eq_false_iff] at hT
  exact ⟨h.blkA.only hO hT.1.1.1, h.blkI.only hO hT.1.1.2, own_only h.data hO hT.1.2, own_only h.nums hO hT.2⟩
/-- the entries of node i -/
def chunkE (l : List Ent) (m i : Nat) : List Ent := (l.drop (i * m)).take m
def keysE (c : List Ent) : List Int := c.map (·.1)
def valsE (c : List Ent) : List (List UInt8) := c.map (·.2.1)
/-- the bytes of a node -/
def nodB (t : Int) (leaf : Bool) (m v : Nat) (c : List Ent) : List UInt8 := nodeP m v (headB t leaf c.length m v) (keysE c) (valsE c) c.length
/-- a level's nodes laid from number q on -/
def levB (t : Int) (leaf : Bool) (m v : Nat) (l : List Ent) (q : Nat) (bs : List UInt8) : Nat → List UInt8
  | 0 => bs
  | i + 1 => putB (levB t leaf m v l q bs i) ((q + i) * 256) (sealB 2 ((q + i : Nat) : Int) (nodB t leaf m v (chunkE l m i)))
def upX (l : List Ent) (m q i : Nat) : Ent := (((chunkE l m i).getD 0 entD).1, leB ((q + i : Nat) : Int) 4, ((q + i : Nat) : Int))
/-- the entries of the level above -/
def upE (l : List Ent) (m q j : Nat) : List Ent := (List.range j).map (upX l m q)
theorem upE_succ (l : List Ent) (m q j : Nat) : upE l m q (j + 1) = upE l m q j ++ [upX l m q j] := by simp [upE, List.range_succ]
theorem upE_len (l : List Ent) (m q j : Nat) : (upE l m q j).length = j := by simp [upE]
theorem upE_get {l : List Ent} {m q j i : Nat} (h : i < j) : (upE l m q j).getD i entD = upX l m q i := by simp [upE, List.getD, List.getElem?_range h]
theorem chunk_len (l : List Ent) (m i : Nat) : (chunkE l m i).length = sizN l.length m i := by simp [chunkE, sizN]
theorem chunk_get {l : List Ent} {m i j : Nat} (h : j < sizN l.length m i) : (chunkE l m i).getD j entD = l.getD (i * m + j) entD := by
  unfold sizN at h
  simp [chunkE, List.getD, List.getElem?_take_of_lt (show j < m by omega), List.getElem?_drop]
theorem keysE_get {c : List Ent} {j : Nat} (h : j < c.length) : (keysE c).getD j 0 = (c.getD j entD).1 := by simp [keysE, List.getD, h]
theorem valsE_get {c : List Ent} {j : Nat} (h : j < c.length) : (valsE c).getD j [] = (c.getD j entD).2.1 := by simp [valsE, List.getD, h]
theorem keysE_len (c : List Ent) : (keysE c).length = c.length := by simp [keysE]
theorem valsE_len (c : List Ent) : (valsE c).length = c.length := by simp [valsE]
theorem siz_lt {n m i : Nat} (hm : 1 ≤ m) (hn : 1 ≤ n) (h : i < ovN n m) : i * m < n := by
  unfold ovN at h
  rcases Nat.eq_zero_or_pos i with rfl | hi
  · omega
  have h2 : i < (n + m - 1) / m := by omega
  have h3 := (Nat.lt_div_iff_mul_lt (by omega)).1 h2
  omega
theorem chunk_ok {t : Int} {leaf : Bool} {m v : Nat} {l : List Ent} (E : EntsOk v l) (h1 : 1 ≤ t) (h2 : t ≤ 5) (hm : maxN t leaf = m) (hv : widN t leaf = v) (hl : leaf = false → 1 ≤ l.length) {i : Nat} (hi : i < ovN l.length m) : NodeOk t leaf (chunkE l m i).length m v (keysE (chunkE l m i)) (valsE (chunkE l m i)) := by
  have hm1 := (maxN_pos t leaf).1
  rw [hm] at hm1
  have hlen := chunk_len l m i
  have hile := siz_le hm1 hi
  have hle : (chunkE l m i).length ≤ l.length - i * m := by rw [hlen]; unfold sizN; omega
  have key : ∀ j, j < (chunkE l m i).length → i * m + j < l.length ∧ (keysE (chunkE l m i)).getD j 0 = (l.getD (i * m + j) entD).1 ∧ (valsE (chunkE l m i)).getD j [] = (l.getD (i * m + j) entD).2.1 := fun j hj => by
    refine ⟨by omega, ?_, ?_⟩
    · rw [keysE_get hj, chunk_get (by omega)]
    · rw [valsE_get hj, chunk_get (by omega)]
  refine ⟨h1, h2, hm, hv, keysE_len _, valsE_len _, by rw [hlen]; unfold sizN; omega, fun h => ?_, fun j hj => ?_, fun j hj => ?_, fun j hj => ?_⟩
  · have := siz_lt hm1 (hl h) hi
    rw [hlen]; unfold sizN; omega
  · obtain ⟨a1, a2, _⟩ := key j hj
    rw [a2]; exact E.hk _ a1
  · obtain ⟨a1, a2, _⟩ := key j (by omega)
    obtain ⟨b1, b2, _⟩ := key (j + 1) hj
    rw [a2, b2]; exact E.hs _ (by omega)
  · obtain ⟨a1, _, a3⟩ := key j hj
    rw [a3]; exact E.hw _ a1
theorem nodB_len {t : Int} {leaf : Bool} {m v : Nat} {c : List Ent} (N : NodeOk t leaf c.length m v (keysE c) (valsE c)) : (nodB t leaf m v c).length = 244 := by
  have hf := fitN t leaf
  rw [N.hm, N.hv] at hf
  exact nodeP_len (headB_len _ _ _ _ _) hf N.hn (fun j hj => N.hw j hj)
theorem siz_elem {w : World} {b : Option Addr} {n m c : Nat} (h : Sl w (.slice b (ovN n m) c) (ovN n m) ((sizL n m).map nv)) {k : Nat} (hk : k < ovN n m) : b.isSome = true ∧ w.cell? (elemAddr b (k * 1)) = some (.int .i64 ((sizN n m k : Nat) : Int)) := by
  have := nv_elem h (sizL_len n m) hk
  rwa [show (sizL n m).getD k 0 = sizN n m k from by simp [sizL, List.getD, List.getElem?_range hk]] at this
theorem keys_take {l : List Ent} {j : Nat} (h : j < l.length) : ((keysE l).take (j + 1)).map (Value.int .i64) = ((keysE l).take j).map (Value.int .i64) ++ [.int .i64 (l.getD j entD).1] := by
  rw [List.take_succ_eq_append_getElem (by rw [keysE_len]; exact h)]
  simp [keysE, List.getD, h]
theorem vals_take {l : List Ent} {j : Nat} (h : j < l.length) : ((valsE l).take (j + 1)).map sv = ((valsE l).take j).map sv ++ [.string ⟨(l.getD j entD).2.1.toArray⟩] := by
  rw [List.take_succ_eq_append_getElem (by rw [valsE_len]; exact h)]
  simp [valsE, List.getD, h, sv]
theorem keys_chunk {l : List Ent} {m i s : Nat} (hs : sizN l.length m i = s) : (keysE (l.drop (i * m))).take s = keysE (chunkE l m i) := by
  subst hs
  unfold keysE chunkE sizN
  rw [← List.map_take]
  congr 1
  rw [List.take_eq_take_iff]; simp
theorem vals_chunk {l : List Ent} {m i s : Nat} (hs : sizN l.length m i = s) : (valsE (l.drop (i * m))).take s = valsE (chunkE l m i) := by
  subst hs
  unfold valsE chunkE sizN
  rw [← List.map_take]
  congr 1
  rw [List.take_eq_take_iff]; simp
theorem EntsOk.mono {v : Nat} {l : List Ent} (E : EntsOk v l) : ∀ {a b : Nat}, a < b → b < l.length → (l.getD a entD).1 < (l.getD b entD).1 := by
  intro a b h hb
  induction b with
  | zero => omega
  | succ b ih =>
    have h1 := E.hs b (by omega)
    rcases Nat.lt_or_ge a b with h2 | h2
    · have := ih h2 (by omega); omega
    · obtain rfl : a = b := by omega
      exact h1
theorem up_key {v : Nat} {l : List Ent} {m : Nat} (hm : 1 ≤ m) (hl : 1 ≤ l.length) {i q : Nat} (hi : i < ovN l.length m) : (upX l m q i).1 = (l.getD (i * m) entD).1 ∧ i * m < l.length := by
  have h := siz_lt hm hl hi
  refine ⟨?_, h⟩
  unfold upX
  rw [chunk_get (by unfold sizN; omega)]; rfl
theorem up_ok {v : Nat} {l : List Ent} (E : EntsOk v l) {m q : Nat} (hm : 1 ≤ m) : EntsOk 4 (upE l m q (ovN l.length m)) := by
  rcases Nat.eq_zero_or_pos l.length with h0 | hl
  · have h1 : ovN l.length m = 1 := by
      rw [h0]; unfold ovN
      have : (0 + m - 1) / m = 0 := Nat.div_eq_of_lt (by omega)
      omega
    have hnil : l = [] := List.eq_nil_of_length_eq_zero h0
    subst hnil
    constructor
    · intro i hi; rw [upE_len, h1] at hi; rw [upE_get (by omega)]; simp [upX, chunkE, entD]
    · intro j hj; rw [upE_len, h1] at hj; omega
    · intro i hi; rw [upE_len, h1] at hi; rw [upE_get (by omega)]; simp [upX, leB_len]
  constructor
  · intro i hi
    rw [upE_len] at hi
    obtain ⟨h1, h2⟩ := up_key (v := v) (q := q) hm hl hi
    rw [upE_get hi, h1]; exact E.hk _ h2
  · intro j hj
    rw [upE_len] at hj
    obtain ⟨h1, h2⟩ := up_key (v := v) (q := q) hm hl hj
    obtain ⟨h3, h4⟩ := up_key (v := v) (q := q) hm hl (show j < ovN l.length m by omega)
    rw [upE_get hj, upE_get (by omega), h1, h3]
    refine E.mono ?_ h2
    rw [Nat.add_mul]; omega
  · intro i hi
    rw [upE_len] at hi
    rw [upE_get hi]; simp [upX, leB_len]
/-- the levels above: the root's number, and the bytes -/
def treeUp (t : Int) (u : List Ent) (q : Nat) (bs : List UInt8) : Int × List UInt8 :=
  if h : u.length ≤ 1 then ((u.getD 0 entD).2.2, bs)
  else treeUp t (upE u 18 q (ovN u.length 18)) (q + ovN u.length 18) (levB t false 18 4 u q bs (ovN u.length 18))
termination_by u.length
decreasing_by rw [upE_len]; have := ov18 (x := u.length) (by omega); omega
theorem treeUp_one {t : Int} {u : List Ent} {q : Nat} {bs : List UInt8} (h : u.length ≤ 1) : treeUp t u q bs = ((u.getD 0 entD).2.2, bs) := by rw [treeUp]; simp [h]
theorem treeUp_more {t : Int} {u : List Ent} {q : Nat} {bs : List UInt8} (h : ¬ u.length ≤ 1) : treeUp t u q bs = treeUp t (upE u 18 q (ovN u.length 18)) (q + ovN u.length 18) (levB t false 18 4 u q bs (ovN u.length 18)) := by rw [treeUp]; simp [h]
/-- a packed tree laid from number q on -/
def treeB (t : Int) (l : List Ent) (q : Nat) (bs : List UInt8) : Int × List UInt8 :=
  treeUp t (upE l (maxN t true) q (ovN l.length (maxN t true))) (q + ovN l.length (maxN t true)) (levB t true (maxN t true) (widN t true) l q bs (ovN l.length (maxN t true)))
/-- the root is the last number -/
theorem treeUp_root {t : Int} {u : List Ent} {q : Nat} {bs : List UInt8} (h1 : 1 ≤ u.length) (hu : (u.getD (u.length - 1) entD).2.2 = ((q - 1 : Nat) : Int)) (hq : 1 ≤ q) : (treeUp t u q bs).1 = ((q - 1 + ((levs u.length).sum - u.length) : Nat) : Int) := by
  induction hx : u.length using Nat.strongRecOn generalizing u q bs with
  | _ x ih =>
    subst hx
    by_cases h : u.length ≤ 1
    · rw [treeUp_one h, levs_one h]
      rw [show u.length - 1 = 0 by omega] at hu
      show (u.getD 0 entD).2.2 = _
      rw [hu]; simp
    · have h18 := ov18 (x := u.length) (by omega)
      have hp := ovN_pos u.length 18
      rw [treeUp_more h, ih (ovN u.length 18) (by omega) (u := upE u 18 q (ovN u.length 18)) (q := q + ovN u.length 18) (by rw [upE_len]; exact hp) ?_ (by omega) (upE_len _ _ _ _), levs_more h]
      · have hge := levs_ge (ovN u.length 18)
        simp only [List.sum_cons]
        congr 1
        omega
      · rw [upE_len, upE_get (by omega)]
        simp only [upX]
        congr 1
        omega
/-- an allocator's next number q is handed out, and its block written -/
def LaidQ (B ba b g n c : Nat) (pa : Option Addr) (ca f N k : Nat) (l : List UInt8) (kind : Int) (li : List UInt8) (q : Nat) (w : World) (e : Ending) (w' : World) : Prop :=
  e = .returned (.tuple #[.int .i64 (q : Int), .nilIface]) ∧ Below B w w' ∧ Only [64, 5] w w' ∧ Fr [ba, g] w w' ∧ Al B ba b g n c pa ca f N (k + 1) (putB l (q * 256) (sealB kind (q : Int) li)) w'
theorem alloc_LayQ (B ba b g n c : Nat) (p : Option Addr) (ca f N k : Nat) (l : List UInt8) (kind : Int) (a : Option Addr) (ci : Nat) (li : List UInt8) (q n' : Nat) (w : World) (hq : f + k = q) (hn' : li.length = n') (hC : AlC B ba n c ca f N) (hA : Al B ba b g n c p ca f N k l w) (hkN : k < N) (h1 : 1 ≤ kind) (h2 : kind ≤ 4) (hin : ∀ W, Below B w W → Only [64] w W → Bys W (.slice a n' ci) li) (hl : n' ≤ 244) (hBw : B ≤ w.heap.size) :
    Calls Tryz.prog 24 #[.pointer (some ⟨ba, 0, none⟩), .int .i64 kind, .slice a n' ci] w (LaidQ B ba b g n c p ca f N k l kind li q w) := by
  subst hq hn'; exact alloc_Lay B ba b g n c p ca f N k l kind a ci li w hC hA hkN h1 h2 hin hl hBw
theorem up_row {l : List Ent} {m q i : Nat} {key : Int} (hk : key = ((chunkE l m i).getD 0 entD).1) : (upE l m q i).flatMap entC ++ [.int .i64 key, .string ⟨(leB ((q + i : Nat) : Int) 4).toArray⟩, .int .i64 ((q + i : Nat) : Int)] = (upE l m q (i + 1)).flatMap entC := by
  subst hk; rw [upE_succ]; simp [entC, upX]
theorem chunk_key {l : List Ent} {m i j : Nat} (hs : sizN l.length m i = j) (hj : 0 < j) : ((keysE (chunkE l m i))).getD 0 0 = ((chunkE l m i).getD 0 entD).1 := keysE_get (by rw [chunk_len]; omega)
theorem chunk_nokey {l : List Ent} {m i j : Nat} (hs : sizN l.length m i = j) (hj : j = 0) : (0 : Int) = ((chunkE l m i).getD 0 entD).1 := by
  have : chunkE l m i = [] := List.eq_nil_of_length_eq_zero (by rw [chunk_len]; omega)
  rw [this]; rfl
end Go.Proofs.YtbhjgcokpmiopaaGreat
namespace Go.Proofs.YtbhjgcokpmiopaaGreat
open Go.RowKit Go.Extern.Stop Go.Stop Go.Extern
set_option linter.unusedVariables false
attribute [local irreducible] wpList wpAnyH Code.wp Oper.wp Go

/-- how many blocks of counts so many counts need -/
def bmN (n : Nat) : Nat := (n + 959) / 960
theorem bmN_lt {n i : Nat} (h : i < bmN n) : i * 960 < n := by unfold bmN at h; omega
theorem bmN_done {n i : Nat} (h : i = bmN n) : n ≤ i * 960 := by subst h; unfold bmN; omega
def mn3 (n : Int) : Int := if n < 3 then n else 3
def smallL (l : List Int) : List Int := l.map mn3
theorem smallL_len (l : List Int) : (smallL l).length = l.length := by simp [smallL]
theorem small_snoc {l : List Int} {k : Nat} (h : k < l.length) : smallL (l.take (k + 1)) = smallL (l.take k) ++ [mn3 (l.getD k 0)] := by
  unfold smallL
  rw [List.take_succ_eq_append_getElem h, List.map_append, show l.getD k 0 = l[k] from by simp [List.getD, h]]
  rfl
/-- what stands for a count of three or more -/
def ovX (l : List Int) (k : Nat) : List Ent := if 3 ≤ l.getD k 0 then [((k : Int), leB (l.getD k 0) 4, 0)] else []
def overK (l : List Int) (k : Nat) : List Ent := (List.range k).flatMap (ovX l)
theorem overK_succ (l : List Int) (k : Nat) : overK l (k + 1) = overK l k ++ ovX l k := by simp [overK, List.range_succ]
theorem overK_yes {l : List Int} {k : Nat} (h : 3 ≤ l.getD k 0) : overK l (k + 1) = overK l k ++ [((k : Int), leB (l.getD k 0) 4, 0)] := by rw [overK_succ]; unfold ovX; rw [if_pos h]
theorem overK_no {l : List Int} {k : Nat} (h : ¬ 3 ≤ l.getD k 0) : overK l (k + 1) = overK l k := by rw [overK_succ]; unfold ovX; rw [if_neg h]; simp
theorem overK_ok (l : List Int) (k : Nat) : (overK l k).Pairwise (fun a b => a.1 < b.1) ∧ ∀ x ∈ overK l k, 0 ≤ x.1 ∧ x.1 < k ∧ x.2.1.length = 4 := by
  induction k with
  | zero => simp [overK]
  | succ k ih =>
    by_cases h3 : 3 ≤ l.getD k 0
    · rw [overK_yes h3]
      refine ⟨List.pairwise_append.2 ⟨ih.1, by simp, fun a ha b hb => ?_⟩, fun x hx => ?_⟩
      · simp only [List.mem_singleton] at hb; subst hb; exact (ih.2 a ha).2.1
      · rcases List.mem_append.1 hx with h | h
        · have := ih.2 x h; exact ⟨this.1, by have := this.2.1; omega, this.2.2⟩
        · simp only [List.mem_singleton] at h; subst h; exact ⟨Int.natCast_nonneg _, by show (k : Int) < ((k + 1 : Nat) : Int); omega, leB_len _ _⟩
    · rw [overK_no h3]
      exact ⟨ih.1, fun x hx => by have := ih.2 x hx; exact ⟨this.1, by have := this.2.1; omega, this.2.2⟩⟩
theorem overK_len (l : List Int) (k : Nat) : (overK l k).length ≤ k := by
  induction k with
  | zero => simp [overK]
  | succ k ih =>
    by_cases h3 : 3 ≤ l.getD k 0
    · rw [overK_yes h3]; simp; exact ih
    · rw [overK_no h3]; omega
theorem ents_getD {l : List Ent} {i : Nat} (h : i < l.length) : l.getD i entD = l[i] := by simp [List.getD, h]
theorem over_ents (l : List Int) (k : Nat) (hk : k ≤ 65536) : EntsOk 4 (overK l k) := by
  have h := overK_ok l k
  refine ⟨fun i hi => ?_, fun j hj => ?_, fun i hi => ?_⟩
  · rw [ents_getD hi]; have := h.2 _ (List.getElem_mem hi); omega
  · rw [ents_getD hj, ents_getD (by omega)]; exact List.pairwise_iff_getElem.1 h.1 j (j + 1) (by omega) hj (by omega)
  · rw [ents_getD hi]; exact (h.2 _ (List.getElem_mem hi)).2.2
def cntOk (n : Int) : Prop := 0 ≤ n ∧ n ≤ 2147483647
instance (n : Int) : Decidable (cntOk n) := by unfold cntOk; infer_instance
/-- the error of counts -/
def splitE (l : List Int) : Int := if 65536 < l.length then 1 else if ∀ k, k < l.length → cntOk (l.getD k 0) then 0 else 2
theorem splitE_ok {l : List Int} (h : splitE l = 0) : l.length ≤ 65536 ∧ ∀ k, k < l.length → cntOk (l.getD k 0) := by
  unfold splitE at h
  split at h
  · simp at h
  · split at h
    · exact ⟨by omega, by assumption⟩
    · simp at h
/-- a chunk of counts -/
def chunkI (l : List Int) (i : Nat) : List Int := (l.drop (i * 960)).take 960
def chunksI (l : List Int) (n : Nat) : List (List Int) := (List.range n).map (chunkI l)
theorem chunksI_len (l : List Int) (n : Nat) : (chunksI l n).length = n := by simp [chunksI]
theorem chunksI_get {l : List Int} {n i : Nat} (h : i < n) : (chunksI l n).getD i [] = chunkI l i := by simp [chunksI, List.getD, h]
theorem chunksI_succ (l : List Int) (n : Nat) : chunksI l (n + 1) = chunksI l n ++ [chunkI l n] := by simp [chunksI, List.range_succ]
theorem chunkI_len (l : List Int) (i : Nat) : (chunkI l i).length = min 960 (l.length - i * 960) := by simp [chunkI]
/-- small counts -/
def Small (l : List Int) : Prop := ∀ n ∈ l, 0 ≤ n ∧ n ≤ 3
theorem small_ok {l : List Int} (h : ∀ k, k < l.length → cntOk (l.getD k 0)) : Small (smallL l) := by
  intro n hn
  obtain ⟨m, hm, rfl⟩ := List.mem_map.1 hn
  obtain ⟨k, hk, rfl⟩ := List.getElem_of_mem hm
  have := h k hk
  rw [show l.getD k 0 = l[k] from by simp [List.getD, hk]] at this
  unfold cntOk at this
  unfold mn3; split <;> omega
theorem chunk_small {l : List Int} (h : Small l) (i : Nat) : Small (chunkI l i) := fun n hn => h n (List.mem_of_mem_drop (List.mem_of_mem_take hn))
/-- a count at a place, of the first i counts -/
def atI (l : List Int) (i j : Nat) : Int := if j < i then l.getD j 0 else 0
def g4 (l : List Int) (i k : Nat) : Int := atI l i (4 * k) + 4 * atI l i (4 * k + 1) + 16 * atI l i (4 * k + 2) + 64 * atI l i (4 * k + 3)
def g4B (l : List Int) (i k : Nat) : UInt8 := UInt8.ofNat (g4 l i k).toNat
/-- a block of counts, of which the first i stand there -/
def bitsT (l : List Int) (i : Nat) : List UInt8 := leB l.length 4 ++ (List.range 240).map (g4B l i)
theorem bitsT_len (l : List Int) (i : Nat) : (bitsT l i).length = 244 := by simp [bitsT, leB_len]
def bitsB (l : List Int) : List UInt8 := bitsT l l.length
def freeK (l : List Int) (k : Nat) : Nat := ((l.take k).filter fun n => n == 0).length
def freeN (l : List Int) : Nat := freeK l l.length
def firstN (l : List Int) : Nat := l.findIdx fun n => n == 0
theorem freeK_succ {l : List Int} {k : Nat} (h : k < l.length) : freeK l (k + 1) = freeK l k + (if l.getD k 0 = 0 then 1 else 0) := by
  unfold freeK
  rw [List.take_succ_eq_append_getElem h, List.filter_append, List.length_append]
  simp only [List.getD, List.getElem?_eq_getElem h, Option.getD_some]
  by_cases e : l[k] = 0 <;> simp [e]
theorem freeK_le (l : List Int) (k : Nat) : freeK l k ≤ k := Nat.le_trans (List.length_filter_le _ _) (by simp; omega)
theorem firstN_le (l : List Int) : firstN l ≤ l.length := List.findIdx_le_length
theorem firstN_at {l : List Int} {i : Nat} (h : i < l.length) (h0 : l.getD i 0 = 0) (hp : ∀ j, j < i → l.getD j 0 ≠ 0) : firstN l = i := by
  unfold firstN
  refine (List.findIdx_eq h).2 ⟨?_, fun j hj => ?_⟩
  · rw [List.getD, List.getElem?_eq_getElem h] at h0; simpa using h0
  · have := hp j hj
    rw [List.getD, List.getElem?_eq_getElem (by omega)] at this; simpa using this
theorem firstN_none {l : List Int} (hp : ∀ j, j < l.length → l.getD j 0 ≠ 0) : firstN l = l.length := by
  unfold firstN
  rw [List.findIdx_eq_length]
  intro n hn
  obtain ⟨k, hk, rfl⟩ := List.getElem_of_mem hn
  have := hp k hk
  rw [List.getD, List.getElem?_eq_getElem hk] at this; simpa using this
/-- a slot's value -/
def slotB (n f g : Int) : List UInt8 := leB n 8 ++ leB f 4 ++ leB g 4
theorem slotB_len (n f g : Int) : (slotB n f g).length = 16 := by simp [slotB, leB_len]
/-- blocks of counts laid from number q on -/
def cntsB (L : List (List Int)) (q : Nat) (bs : List UInt8) : Nat → List UInt8
  | 0 => bs
  | i + 1 => putB (cntsB L q bs i) ((q + i) * 256) (sealB 3 ((q + i : Nat) : Int) (bitsB (L.getD i [])))
def slotX (L : List (List Int)) (q i : Nat) : Ent := ((i : Int), slotB ((q + i : Nat) : Int) (freeN (L.getD i []) : Int) (firstN (L.getD i []) : Int), 0)
def slotsE (L : List (List Int)) (q j : Nat) : List Ent := (List.range j).map (slotX L q)
theorem slotsE_len (L : List (List Int)) (q j : Nat) : (slotsE L q j).length = j := by simp [slotsE]
theorem slotsE_succ (L : List (List Int)) (q j : Nat) : slotsE L q (j + 1) = slotsE L q j ++ [slotX L q j] := by simp [slotsE, List.range_succ]
theorem slotsE_get {L : List (List Int)} {q j i : Nat} (h : i < j) : (slotsE L q j).getD i entD = slotX L q i := by simp [slotsE, List.getD, h]
theorem slots_ents (L : List (List Int)) (q j : Nat) (hj : j ≤ 65536) : EntsOk 16 (slotsE L q j) := by
  refine ⟨fun i hi => ?_, fun i hi => ?_, fun i hi => ?_⟩ <;> rw [slotsE_len] at hi
  · rw [slotsE_get hi]; simp only [slotX]; omega
  · rw [slotsE_get hi, slotsE_get (by omega)]; simp only [slotX]; omega
  · rw [slotsE_get hi]; exact slotB_len _ _ _
/-- the two roots of counts written as a space map, and the image's bytes -/
def plotB (l : List Int) (q : Nat) (bs : List UInt8) : Int × Int × List UInt8 :=
  let L := chunksI (smallL l) (bmN l.length)
  let x := treeB 4 (slotsE L q (bmN l.length)) (q + bmN l.length) (cntsB L q bs (bmN l.length))
  let y := treeB 5 (overK l l.length) (q + bmN l.length + nodN 4 (bmN l.length)) x.2
  (x.1, y.1, y.2)
def plotN (l : List Int) : Nat := bmN l.length + nodN 4 (bmN l.length) + nodN 5 (overK l l.length).length
theorem atI_bd {l : List Int} (h : Small l) (i j : Nat) : 0 ≤ atI l i j ∧ atI l i j ≤ 3 := by
  unfold atI
  split
  · by_cases hj : j < l.length
    · rw [show l.getD j 0 = l[j] from by simp [List.getD, hj]]; exact h _ (List.getElem_mem hj)
    · rw [show l.getD j 0 = 0 from by simp [List.getD, Nat.le_of_not_lt hj]]; omega
  · omega
theorem getI_bd {l : List Int} (h : Small l) (j : Nat) : 0 ≤ l.getD j 0 ∧ l.getD j 0 ≤ 3 := by
  have := atI_bd h (j + 1) j
  unfold atI at this
  rwa [if_pos (by omega)] at this
theorem atI_ne {l : List Int} {i j : Nat} (h : j ≠ i) : atI l (i + 1) j = atI l i j := by
  unfold atI
  by_cases q : j < i
  · rw [if_pos q, if_pos (by omega)]
  · rw [if_neg q, if_neg (by omega)]
theorem atI_eq (l : List Int) (i : Nat) : atI l (i + 1) i = l.getD i 0 := by unfold atI; rw [if_pos (by omega)]
theorem atI_ge {l : List Int} {i j : Nat} (h : i ≤ j) : atI l i j = 0 := by unfold atI; rw [if_neg (by omega)]
theorem g4_ne {l : List Int} {i k : Nat} (h : k ≠ i / 4) : g4 l (i + 1) k = g4 l i k := by
  unfold g4
  rw [atI_ne (by omega), atI_ne (by omega), atI_ne (by omega), atI_ne (by omega)]
theorem g4_at {l : List Int} (h : Small l) {i q r : Nat} (hi : i = 4 * q + r) (hr : r < 4) : g4 l (i + 1) q = g4 l i q + l.getD i 0 * 4 ^ r ∧ 0 ≤ g4 l i q ∧ g4 l i q < 4 ^ r := by
  have b0 := atI_bd h i (4 * q)
  have b1 := atI_bd h i (4 * q + 1)
  have b2 := atI_bd h i (4 * q + 2)
  have b3 := atI_bd h i (4 * q + 3)
  unfold g4
  obtain rfl | rfl | rfl | rfl : r = 0 ∨ r = 1 ∨ r = 2 ∨ r = 3 := by omega
  · rw [show 4 * q = i from by omega, atI_eq, atI_ne (by omega), atI_ne (by omega), atI_ne (by omega), atI_ge (Nat.le_refl i), atI_ge (Nat.le_add_right i 1), atI_ge (Nat.le_add_right i 2), atI_ge (Nat.le_add_right i 3)]
    omega
  · have e2 : atI l i (4 * q + 2) = 0 := atI_ge (by omega)
    have e3 : atI l i (4 * q + 3) = 0 := atI_ge (by omega)
    have e1 : atI l i (4 * q + 1) = 0 := atI_ge (by omega)
    rw [atI_ne (j := 4 * q) (by omega), atI_ne (j := 4 * q + 2) (by omega), atI_ne (j := 4 * q + 3) (by omega), e1, e2, e3, ← hi, atI_eq]
    omega
  · have e2 : atI l i (4 * q + 2) = 0 := atI_ge (by omega)
    have e3 : atI l i (4 * q + 3) = 0 := atI_ge (by omega)
    rw [atI_ne (j := 4 * q) (by omega), atI_ne (j := 4 * q + 1) (by omega), atI_ne (j := 4 * q + 3) (by omega), e2, e3, ← hi, atI_eq]
    omega
  · have e3 : atI l i (4 * q + 3) = 0 := atI_ge (by omega)
    rw [atI_ne (j := 4 * q) (by omega), atI_ne (j := 4 * q + 1) (by omega), atI_ne (j := 4 * q + 2) (by omega), e3, ← hi, atI_eq]
    omega
/-- the byte with one count more -/
theorem g4B_at {l : List Int} (h : Small l) {i : Nat} : ((g4B l (i + 1) (i / 4)).toNat : Int) = ((g4B l i (i / 4)).toNat : Int) + l.getD i 0 * 4 ^ (i % 4) ∧ (g4B l i (i / 4)).toNat < 4 ^ (i % 4) := by
  obtain ⟨h1, h2, h3⟩ := g4_at h (show i = 4 * (i / 4) + i % 4 by omega) (by omega)
  have hn := getI_bd h i
  have hp : (4 : Int) ^ (i % 4) ≤ 64 := by
    have : i % 4 < 4 := by omega
    obtain e | e | e | e : i % 4 = 0 ∨ i % 4 = 1 ∨ i % 4 = 2 ∨ i % 4 = 3 := by omega
    all_goals rw [e]; decide
  have hp0 : (0 : Int) < 4 ^ (i % 4) := Int.pow_pos (by decide)
  generalize hP : (4 : Int) ^ (i % 4) = Pq at *
  have hq : l.getD i 0 * Pq ≤ 3 * Pq := Int.mul_le_mul_of_nonneg_right hn.2 (by omega)
  have hq0 : 0 ≤ l.getD i 0 * Pq := Int.mul_nonneg hn.1 (by omega)
  generalize l.getD i 0 * Pq = M at *
  have hP' : ((4 ^ (i % 4) : Nat) : Int) = Pq := by rw [← hP]; simp
  unfold g4B
  rw [UInt8.toNat_ofNat', UInt8.toNat_ofNat', h1]
  omega
/-- rows of counts, each of its own -/
def lstV (gs : List (Nat × Nat)) (L : List (List Int)) (i : Nat) : Value := .slice (some ⟨(gs.getD i (0, 0)).1, 0, none⟩) (L.getD i []).length (gs.getD i (0, 0)).2
structure Lists (w : World) (base : Nat) (v : Value) (gs : List (Nat × Nat)) (L : List (List Int)) : Prop where
  row : w.ownsRow base 24 1 v L.length ((List.range L.length).map (lstV gs L))
  each : ∀ i, i < L.length → w.ownsRow base 3 1 (lstV gs L i) (L.getD i []).length ((L.getD i []).map (Value.int .i64))
theorem Lists.below {w W : World} {base : Nat} {v : Value} {gs : List (Nat × Nat)} {L : List (List Int)} (h : Lists w base v gs L) (hb : Below w.heap.size w W) : Lists W base v gs L := ⟨own_below h.row hb, fun i hi => own_below (h.each i hi) hb⟩
theorem Lists.only {T : List TypeId} {w W : World} {base : Nat} {v : Value} {gs : List (Nat × Nat)} {L : List (List Int)} (h : Lists w base v gs L) (hO : Only T w W) (hT : T.contains 24 = false ∧ T.contains 3 = false) : Lists W base v gs L := ⟨own_only h.row hO hT.1, fun i hi => own_only (h.each i hi) hO hT.2⟩
theorem Lists.elem {w : World} {base : Nat} {p : Option Addr} {n c : Nat} {gs : List (Nat × Nat)} {L : List (List Int)} (h : Lists w base (.slice p n c) gs L) (hn : L.length = n) {k : Nat} (hk : k < n) : p.isSome = true ∧ w.cell? (elemAddr p (k * 1)) = some (lstV gs L k) := by
  subst hn
  rw [Nat.mul_one]
  exact Sl.elem (own_sl h.row) (by simp [hk])
theorem Lists.mono {w : World} {base base' : Nat} {v : Value} {gs : List (Nat × Nat)} {L : List (List Int)} (h : Lists w base' v gs L) (hb : base ≤ base') : Lists w base v gs L := ⟨own_mono h.row hb, fun i hi => own_mono (h.each i hi) hb⟩
theorem plotN_bd {l : List Int} (h : l.length ≤ 3000) : 2 ≤ plotN l ∧ plotN l ≤ 500 ∧ bmN l.length ≤ 4 := by
  have h4 := nodN_le 4 (bmN l.length)
  have h4p : 1 ≤ nodN 4 (bmN l.length) := by
    have h1 := levs_ge (ovN (bmN l.length) (maxN 4 true)); have h2 := ovN_pos (bmN l.length) (maxN 4 true); unfold nodN levL; omega
  have h5p : 1 ≤ nodN 5 (overK l l.length).length := by
    have h1 := levs_ge (ovN (overK l l.length).length (maxN 5 true)); have h2 := ovN_pos (overK l l.length).length (maxN 5 true); unfold nodN levL; omega
  have hk := overK_len l l.length
  have h5 := levs_sum (ovN_pos (overK l l.length).length (maxN 5 true))
  have ho : ovN (overK l l.length).length (maxN 5 true) ≤ 167 := by
    rw [show maxN 5 true = 18 from rfl]; unfold ovN; omega
  have h5' : nodN 5 (overK l l.length).length ≤ 334 := by unfold nodN levL; omega
  have hb : bmN l.length ≤ 4 := by unfold bmN; omega
  unfold plotN
  omega
/-- frames of blocks below a bound -/
def FrB (B : Nat) (S : List Nat) (w W : World) : Prop := w.heap.size ≤ W.heap.size ∧ ∀ k, k < B → k ∉ S → W.heap[k]? = w.heap[k]?
theorem Fr.trans_B {S S' : List Nat} {a w W : World} (h : Fr S a w) (k : FrB a.heap.size S' w W) (hs : ∀ k ∈ S', k ∈ S) : Fr S a W := ⟨Nat.le_trans h.size k.1, fun i hi hn => (k.2 i hi fun q => hn (hs i q)).trans (h.block i hi hn)⟩
/-- one count more -/
theorem or_step : ∀ r : Fin 4, ∀ n : Fin 4, ∀ o : Fin 64, o.val < 4 ^ r.val → o.val ||| (n.val * 4 ^ r.val) = o.val + n.val * 4 ^ r.val := by decide
end Go.Proofs.YtbhjgcokpmiopaaGreat
namespace Go.Proofs.YtbhjgcokpmiopaaGreat
open Go.RowKit Go.Extern.Stop Go.Stop Go.Extern
set_option linter.unusedVariables false
attribute [local irreducible] wpList wpAnyH Code.wp Oper.wp Go

theorem zeroCells_u8 (k : Nat) : Builtin.zeroCells #[Value.int .u8 0] k = (List.replicate k (Value.int .u8 0)).toArray := by
  apply Array.ext'
  unfold Builtin.zeroCells
  simp only [List.size_toArray, List.length_cons, List.length_nil, Nat.zero_add, Nat.mul_one, Nat.mod_one]
  rw [Array.toList_map]
  simp only [Array.toList_range]
  apply List.ext_getElem?
  intro i
  simp only [List.getElem?_map, List.getElem?_replicate]
  by_cases h : i < k
  · rw [List.getElem?_range h, if_pos h]; rfl
  · rw [if_neg h, List.getElem?_eq_none (by simpa using h)]; rfl
theorem op_appZ {P : Program} {a : Act} {w : World} {K : Act → World → Prop} {Q : Exit → Act → World → Prop} {o : Oper} {s x : Operand} {t tn e te : TypeId} {kq kn : IntKind} (b n k : Nat) (cs : List Value)
    (ho : o.op = .call { callee := .builtin .append, args := #[s, x], argTypes := #[t, tn] }) (ht : P.underlying t = some (.slice e)) (htn : P.underlying tn = some (.int kn)) (hi : (P.info? e).map (fun i => (i.zero, i.size, i.bytes)) = some (some (.int .u8 0), 1, 1))
    (hs : a.eval s = .slice (some ⟨b, 0, none⟩) n n) (hb : Blk w b cs te) (hl : cs.length = n) (hx : a.eval x = .int kq (k : Int)) (h0 : 0 < k) (hk : n + k ≤ 1000000)
    (h : ∀ g c W, W.ownsRow w.heap.size e 1 (.slice (some ⟨g, 0, none⟩) (n + k) c) (n + k) (cs ++ List.replicate k (.int .u8 0)) → Below w.heap.size w W → K (a.put o.dst (.slice (some ⟨g, 0, none⟩) (n + k) c)) W) : o.wp P a w K Q := by
  cases hq : P.info? e with
  | none => simp [hq] at hi
  | some i =>
    simp only [hq, Option.map_some, Option.some.injEq, Prod.mk.injEq] at hi
    obtain ⟨hz, h1, h2⟩ := hi
    have hb' : Blk w.drew b cs te := hb
    have hold := run_firstCells_some (P := P) (w := w.drew) i.size n ⟨b, 0, none⟩ n n cs (by rw [hl, h1, Nat.mul_one]) (fun j v hj => by
      have := hb'.cell hj
      by_cases h : j = 0
      · subst h; simpa [Addr.add] using this
      · simpa [Addr.add, h] using this)
    have hr := Lib.run_append_grow_zeros (P := P) w t tn o.type e i (.int .u8 0) kq kn ht htn hq hz (some ⟨b, 0, none⟩) n n cs hold k h0 (by omega) (by omega) (by omega) (by rw [h2]; omega) (growslice_fits (by omega) (by rw [h2]; omega))
    unfold Oper.wp execOp
    simp only [ho, resolve, invoke, builtin, Sem.run_bind, Sem.run_pure, Result.andThen_ok, List.map_toArray, List.map_cons, List.map_nil, hs, hx, hr]
    have hge := grownCap_ge w (n + k) n e
    have hcm : grownCap w (n + k) n e ≤ maxLen := grownCap_le_maxLen w (n + k) n e (by unfold maxLen; omega)
    refine h _ _ _ ⟨by simp [hl], .inr ⟨w.heap.size, _, _, rfl, Nat.le_refl _, heap_alloc_new w.drew _, hge, hcm, ?_, ?_⟩⟩ ((below_drew w).trans (show Below w.drew.heap.size w.drew _ from Bl.box w.drew _))
    · rw [show (Value.int .u8 0).cells = #[Value.int .u8 0] from rfl, zeroCells_u8, zeroCells_u8]; simp [hl]; omega
    · rw [show (Value.int .u8 0).cells = #[Value.int .u8 0] from rfl, zeroCells_u8, zeroCells_u8]
      simp only [Array.toList_append, List.append_assoc, Nat.mul_one]
      rw [← List.append_assoc, show n + k = (cs ++ List.replicate k (Value.int .u8 0)).length by simp [hl]]
      exact List.take_left
theorem run_append_room_zeros {P : Program} (w : World) (t tn ty e : TypeId) (i : TypeInfo) (kq kn : IntKind) (ht : P.underlying t = some (.slice e)) (htn : P.underlying tn = some (.int kn)) (hi : P.info? e = some i) (hz : i.zero = some (.int .u8 0)) (hs1 : i.size = 1) (hb1 : i.bytes = 1)
    (g n c k : Nat) (cur : Array Value) (hg : w.heap[g]? = some (.cells cur e (0, 0))) (h0 : 0 < k) (hroom : n + k ≤ c) (hfit : n + k ≤ cur.size) (hk : n + k ≤ 1000000) :
    (Builtin.append_ #[t, tn] ty #[.slice (some ⟨g, 0, none⟩) n c, .int kq k]).run P w =
      .ok (.slice (some ⟨g, 0, none⟩) (n + k) c) (w.setRow g (cur.toList.take n ++ List.replicate k (Value.int .u8 0) ++ cur.toList.drop (n + k)).toArray) := by
  have hk0 : k ≠ 0 := by omega
  have hw : IntKind.i64.wrap (k : Int) = k := by rw [IntKind.wrap_i64]; omega
  have h48i : ¬ (281474976710656 < (k : Int)) := by omega
  have hneg : ¬ ((k : Int) < 0) := by omega
  have hst := run_storeCells_at P g n e (List.replicate k (.int .u8 0)) 0 cur w hg (by simpa using hfit) (by intro u hu; rw [(List.mem_replicate.1 hu).2]; rfl)
  simp only [Nat.add_zero, List.length_replicate] at hst
  simp [Builtin.append_, run_underlying ht, run_underlying htn, sizeOf, typeInfo, zeroValue, hi, hz, hs1, hb1, asInt, asIntOf, hw, hneg, h48i, hk0, hroom, Addr.add_lit, show (Value.int IntKind.u8 0).cells = #[Value.int .u8 0] from rfl, zeroCells_u8, hst]
/-- append(s, make([]byte, k)...) onto a row of the call's own -/
theorem op_appZo {P : Program} {a : Act} {w : World} {K : Act → World → Prop} {Q : Exit → Act → World → Prop} {o : Oper} {s x : Operand} {t tn e : TypeId} {kq kn : IntKind} {base : Nat} {v : Value} {n : Nat} {xs : List Value} (k n' : Nat) (xs' : List Value)
    (ho : o.op = .call { callee := .builtin .append, args := #[s, x], argTypes := #[t, tn] }) (ht : P.underlying t = some (.slice e)) (htn : P.underlying tn = some (.int kn)) (hi : (P.info? e).map (fun i => (i.zero, i.size, i.bytes)) = some (some (.int .u8 0), 1, 1))
    (hs : a.eval s = v) (hown : w.ownsRow base e 1 v n xs) (hx : a.eval x = .int kq (k : Int)) (h0 : 0 < k) (hk : n + k ≤ 1000000) (hbase : base ≤ w.heap.size) (hn : n + k = n') (hxs : xs ++ List.replicate k (.int .u8 0) = xs')
    (h : ∀ b c' W, W.ownsRow base e 1 (.slice b n' c') n' xs' → w.grownBy W v.ownBlock → Below base w W → K (a.put o.dst (.slice b n' c')) W) : o.wp P a w K Q := by
  subst hn hxs
  cases hq : P.info? e with
  | none => simp [hq] at hi
  | some i =>
    simp only [hq, Option.map_some, Option.some.injEq, Prod.mk.injEq] at hi
    obtain ⟨hz, h1, h2⟩ := hi
    have hxl : xs.length = n := by simpa using hown.1
    have hlen : (xs ++ List.replicate k (Value.int .u8 0)).length = (n + k) * 1 := by simp [hxl]
    rcases hown.2 with ⟨rfl, rfl⟩ | ⟨g, c, cur, rfl, hbg, hg, hnc, hcm, hcs, htake⟩
    · obtain rfl : xs = [] := List.eq_nil_of_length_eq_zero hxl
      have hr := Lib.run_append_nil_zeros (P := P) w t tn o.type e i (.int .u8 0) kq kn ht htn hq hz k h0 (by omega) (by omega) (by rw [h2]; omega)
      unfold Oper.wp execOp
      simp only [ho, resolve, invoke, builtin, Sem.run_bind, Sem.run_pure, Result.andThen_ok, List.map_toArray, List.map_cons, List.map_nil, hs, hx, hr]
      have hge := grownCap_ge w k 0 e
      have hcm : grownCap w k 0 e ≤ maxLen := grownCap_le_maxLen w k 0 e (by unfold maxLen; omega)
      simp only [Nat.zero_add, List.nil_append] at h
      refine h _ _ _ ⟨by simp, .inr ⟨w.heap.size, _, _, rfl, hbase, heap_alloc_new w.drew _, hge, hcm, ?_, ?_⟩⟩ ⟨rfl, rfl, rfl, by simp, fun k hk _ => by first | exact heap_alloc_old w.drew _ k hk | exact heap_alloc_old w.drew _ hk⟩ (((below_drew w).trans (show Below w.drew.heap.size w.drew _ from Bl.box w.drew _)).mono hbase)
      · rw [show (Value.int .u8 0).cells = #[Value.int .u8 0] from rfl, zeroCells_u8, zeroCells_u8]; simp; omega
      · rw [show (Value.int .u8 0).cells = #[Value.int .u8 0] from rfl, zeroCells_u8, zeroCells_u8]
        simp only [Array.toList_append, Nat.mul_one]
        exact List.take_left' (by simp)
    by_cases hroom : n + k ≤ c
    · have hcs' : cur.size = c := by simpa using hcs
      have hr := run_append_room_zeros (P := P) w t tn o.type e i kq kn ht htn hq hz h1 h2 g n c k cur hg h0 hroom (by omega) hk
      unfold Oper.wp execOp
      simp only [ho, resolve, invoke, builtin, Sem.run_bind, Sem.run_pure, Result.andThen_ok, List.map_toArray, List.map_cons, List.map_nil, hs, hx, hr]
      have hgr : w.grownBy (w.setRow g (cur.toList.take n ++ List.replicate k (Value.int .u8 0) ++ cur.toList.drop (n + k)).toArray) (Value.ownBlock (.slice (some ⟨g, 0, none⟩) n c)) := ⟨rfl, rfl, rfl, by simp, fun k' _ hk' => setRow_other w g k' _ (fun e => hk' (by simp [Value.ownBlock, e]))⟩
      refine h _ _ _ ⟨hlen, .inr ⟨g, c, _, rfl, hbg, setRow_heap w g cur _ e _ hg, hroom, hcm, ?_, ?_⟩⟩ hgr (grown_below hgr hown (Nat.le_refl _) hbase)
      · simp only [List.size_toArray, List.length_append, List.length_take, List.length_drop, Array.length_toList, List.length_replicate]
        omega
      · have ht' : cur.toList.take n = xs := by simpa using htake
        rw [ht', ← hlen]
        exact List.take_left
    · have holds : ∀ j u, xs[j]? = some u → w.cell? ((⟨g, 0, none⟩ : Addr).add j) = some u := hown.cells (g := g) rfl
      have hold := run_firstCells_some (P := P) (w := w.drew) i.size n ⟨g, 0, none⟩ n c xs (by rw [hxl, h1, Nat.mul_one]) (by simpa using holds)
      have hr := Lib.run_append_grow_zeros (P := P) w t tn o.type e i (.int .u8 0) kq kn ht htn hq hz (some ⟨g, 0, none⟩) n c xs hold k h0 (by omega) (by omega) (by omega) (by rw [h2]; omega) (by rw [h2]; exact growslice_fits (by omega) (by omega))
      unfold Oper.wp execOp
      simp only [ho, resolve, invoke, builtin, Sem.run_bind, Sem.run_pure, Result.andThen_ok, List.map_toArray, List.map_cons, List.map_nil, hs, hx, hr]
      have hge := grownCap_ge w (n + k) c e
      have hcm : grownCap w (n + k) c e ≤ maxLen := grownCap_le_maxLen w (n + k) c e (by unfold maxLen; omega)
      refine h _ _ _ ⟨hlen, .inr ⟨w.heap.size, _, _, rfl, hbase, heap_alloc_new w.drew _, hge, hcm, ?_, ?_⟩⟩ ⟨rfl, rfl, rfl, by simp, fun k hk _ => by first | exact heap_alloc_old w.drew _ k hk | exact heap_alloc_old w.drew _ hk⟩ (((below_drew w).trans (show Below w.drew.heap.size w.drew _ from Bl.box w.drew _)).mono hbase)
      · rw [show (Value.int .u8 0).cells = #[Value.int .u8 0] from rfl, zeroCells_u8, zeroCells_u8]; simp [hxl]; omega
      · rw [show (Value.int .u8 0).cells = #[Value.int .u8 0] from rfl, zeroCells_u8, zeroCells_u8]
        simp only [Array.toList_append, List.append_assoc]
        rw [← List.append_assoc, ← hlen]
        exact List.take_left
end Go.Proofs.YtbhjgcokpmiopaaGreat
namespace Go.Proofs.YtbhjgcokpmiopaaGreat
open Go.RowKit Go.Extern.Stop Go.Stop Go.Extern
set_option linter.unusedVariables false

def sBlock : ByteArray := ⟨#[98, 108, 111, 99, 107, 32]⟩
def sColon : ByteArray := ⟨#[58, 32]⟩
def sError : ByteArray := ⟨#[101, 114, 114, 111, 114, 32]⟩
def sOther : ByteArray := ⟨#[111, 116, 104, 101, 114]⟩
def numB (n : Int) : ByteArray := ⟨(Lib.itoa n).toArray⟩
/-- an error's text -/
def textB : List (Option Int) → Option Int → ByteArray
  | [], none => ⟨#[]⟩
  | [], some c => sError ++ numB c
  | some b :: r, t => sBlock ++ numB b ++ sColon ++ textB r t
  | none :: r, t => sOther
theorem Tryz.nilErrorF (a : Addr) (w : World) : (nilAhead 300 146 (.pointer (some a)) "Error").run Tryz.prog w = .ok (some false) w := by kernel_rfl

/-- how long a text may become -/
theorem textB_size {l : List (Option Int)} {t : Option Int} (h : ∀ b, (some b ∈ l ∨ t = some b) → (numB b).size ≤ 100) : (textB l t).size ≤ 108 * l.length + 108 := by
  induction l with
  | nil =>
    cases t with
    | none => exact Nat.zero_le _
    | some c =>
      have := h c (.inr rfl)
      simp only [textB, ByteArray.size_append, sError, ByteArray.size_mk']; simp; omega
  | cons x r ih =>
    cases x with
    | none => simp only [textB, sOther, ByteArray.size_mk']; simp; try omega
    | some b =>
      have h1 := h b (.inl (by simp))
      have h2 := ih (fun b hb => h b (hb.imp (List.mem_cons_of_mem _) id))
      simp only [textB, ByteArray.size_append, sBlock, sColon, ByteArray.size_mk', List.length_cons]; simp; omega
/-- no Fault wraps nothing -/
def okE : List (Option Int) → Option Int → Bool
  | [], t => t.isSome
  | some _ :: r, t => okE r t
  | none :: r, t => true
end Go.Proofs.YtbhjgcokpmiopaaGreat
namespace Go.Proofs.YtbhjgcokpmiopaaGreat
open Go.RowKit Go.Extern.Stop Go.Stop Go.Extern
set_option linter.unusedVariables false
attribute [local irreducible] wpList wpAnyH Code.wp Oper.wp Go

set_option maxRecDepth 100000 in
set_option maxHeartbeats 1000000 in
theorem readN_Bits (b : Nat) (no : Int) (w : World) :
    Calls Tryz.prog 28 #[.pointer none, .int .i64 no, .int .i64 3, .func (.func 29) #[] #[]] w (RetS (fun w' r => ∃ b, r = .tuple #[.slice none 0 0, .iface 146 (.pointer (some ⟨b, 0, none⟩))] ∧ ErrV w' [some no] (some 18) (.iface 146 (.pointer (some ⟨b, 0, none⟩)))) w) := by
 refine zin 56 Tryz.func28 ?_
 refine xc 15 (args := #[.pointer none, .int .i64 no]) (image_Read_nilp no _) ?_
 rintro _ W1 ⟨_, rfl, hb1, vr, rfl⟩
 refine xc 21 (args := #[.int .i64 no, .iface 46 (.int .i64 18)]) (block_told no 18 _) ?_
 rintro _ W2 ⟨_, rfl, hb2, hv2⟩
 rw [if_neg (by decide), if_neg (by decide)] at hv2
 have hq2 := hv2
 obtain ⟨bf2, vf2, rfl, _, _⟩ := hq2
 have hB := Bl.next hb1 hb2
 exact xe 6 (.tuple #[.slice none 0 0, .iface 146 (.pointer (some ⟨bf2, 0, none⟩))]) ⟨_, rfl, hB, _, rfl, hv2⟩
set_option maxRecDepth 100000 in
set_option maxHeartbeats 1000000 in
theorem readN_Index (b : Nat) (no : Int) (w : World) :
    Calls Tryz.prog 26 #[.pointer none, .int .i64 no, .int .i64 4, .func (.func 27) #[] #[]] w (RetS (fun w' r => ∃ b, r = .tuple #[.slice none 0 0, .iface 146 (.pointer (some ⟨b, 0, none⟩))] ∧ ErrV w' [some no] (some 18) (.iface 146 (.pointer (some ⟨b, 0, none⟩)))) w) := by
  refine calls_of_wp Tryz.func26 rfl ?_
  refine g_fr ⟨#[.pointer none, .int .i64 no, .int .i64 4, .func (.func 27) #[] #[], undef, undef, undef, undef, undef, undef, undef, undef, undef, undef, undef, undef, undef, undef, undef, undef, undef, undef, undef, undef, undef, undef, undef, undef, undef, undef, undef, undef, undef, undef, undef, undef, undef, undef, undef, undef, undef, undef, undef, undef, undef, undef, undef, undef, undef, undef, undef, undef, undef, undef, undef, undef], []⟩ (by kernel_rfl) ?_
  refine wp_seq ?_
  refine wp_region_lit ?_
  refine g_pv 2 [(8, .slice none 0 0), (9, .nilIface)] (by kernel_rfl) ?_
  refine wpList_nil ?_
  refine wp_seq ?_
  refine wp_region_lit ?_
  refine g_pv 1 [(10, .slice none 0 0)] (by kernel_rfl) ?_
  refine wpList_nil ?_
  refine wp_seq ?_
  refine wp_region_lit ?_
  refine g_pv 2 [(16, .pointer none), (17, .int .i64 no)] (by kernel_rfl) ?_
  refine g_op (by kernel_rfl) (op_call (lb := #[]) 46 #[.pointer none, .int .i64 no] rfl (by kernel_rfl) (fun _ _ => by kernel_rfl) (by kernel_rfl) ((image_Read_nilp no _).mono ?_))
  rintro e W1 ⟨_, rfl, hb1, vr, rfl⟩
  refine ⟨_, rfl, ?_⟩
  have hB := hb1
  refine g_pv 5 [(15, .tuple #[vr, .int .i64 18]), (19, vr), (20, .int .i64 18), (11, vr), (12, .int .i64 18)] (by kernel_rfl) ?_
  refine wpList_nil ?_
  refine wp_seq ?_
  refine wp_seq ?_
  refine wp_region_lit ?_
  refine g_pv 2 [(21, .int .i64 18), (22, .bool true)] (by kernel_rfl) ?_
  refine wpList_nil ?_
  refine wp_cond_true (by kernel_rfl) ?_
  refine wp_seq ?_
  refine wp_region_lit ?_
  refine g_pv 4 [(23, .slice none 0 0), (24, .int .i64 no), (25, .int .i64 18), (26, .iface 46 (.int .i64 18))] (by kernel_rfl) ?_
  refine g_op (by kernel_rfl) (op_call (lb := #[]) 47 #[.int .i64 no, .iface 46 (.int .i64 18)] rfl (by kernel_rfl) (fun _ _ => by kernel_rfl) (by kernel_rfl) ((block_told no 18 _).mono ?_))
  rintro e W2 ⟨_, rfl, hb2, hv2⟩
  refine ⟨_, rfl, ?_⟩
  replace hB := Bl.next hB hb2
  rw [if_neg (by decide), if_neg (by decide)] at hv2
  have hq2 := hv2
  obtain ⟨bf2, vf2, rfl, _, _⟩ := hq2
  refine g_pv 2 [(8, .slice none 0 0), (9, .iface 146 (.pointer (some ⟨bf2, 0, none⟩)))] (by kernel_rfl) ?_
  refine wpList_nil ?_
  refine wp_ret (then_ret ?_)
  exact g_ret (.tuple #[.slice none 0 0, .iface 146 (.pointer (some ⟨bf2, 0, none⟩))]) (by kernel_rfl) (by kernel_rfl) ⟨_, rfl, hB, _, rfl, hv2⟩
set_option maxRecDepth 100000 in
set_option maxHeartbeats 1000000 in
theorem blkN_Bits (no : Int) (w : World) :
    Calls Tryz.prog 10 #[.pointer none, .int .i64 no] w (RetS (fun w' r => ∃ b, r = .tuple #[.slice none 0 0, .iface 146 (.pointer (some ⟨b, 0, none⟩))] ∧ ErrV w' [some no] (some 18) (.iface 146 (.pointer (some ⟨b, 0, none⟩)))) w) := by
 refine zin 11 Tryz.func10 ?_
 refine xc 10 (args := #[.pointer none, .int .i64 no, .int .i64 3, .func (.func 29) #[] #[]]) (readN_Bits 0 no _) ?_
 rintro _ W1 ⟨_, rfl, hb1, bf, rfl, hv⟩
 exact xe 7 (.tuple #[.slice none 0 0, .iface 146 (.pointer (some ⟨bf, 0, none⟩))]) ⟨_, rfl, hb1, _, rfl, hv⟩
set_option maxRecDepth 100000 in
set_option maxHeartbeats 1000000 in
theorem blkN_Index (no : Int) (w : World) :
    Calls Tryz.prog 8 #[.pointer none, .int .i64 no] w (RetS (fun w' r => ∃ b, r = .tuple #[.slice none 0 0, .iface 146 (.pointer (some ⟨b, 0, none⟩))] ∧ ErrV w' [some no] (some 18) (.iface 146 (.pointer (some ⟨b, 0, none⟩)))) w) := by
  refine calls_of_wp Tryz.func8 rfl ?_
  refine g_fr ⟨#[.pointer none, .int .i64 no, undef, undef, undef, undef, undef, undef, undef, undef, undef], []⟩ (by kernel_rfl) ?_
  refine wp_seq ?_
  refine wp_region_lit ?_
  refine g_pv 2 [(4, .slice none 0 0), (5, .nilIface)] (by kernel_rfl) ?_
  refine wpList_nil ?_
  refine wp_seq ?_
  refine wp_region_lit ?_
  refine g_pv 2 [(6, .pointer none), (7, .int .i64 no)] (by kernel_rfl) ?_
  refine g_op (by kernel_rfl) (op_call (lb := #[]) 26 #[.pointer none, .int .i64 no, .int .i64 4, .func (.func 27) #[] #[]] rfl (by kernel_rfl) (fun _ _ => by kernel_rfl) (by kernel_rfl) ((readN_Index 0 no _).mono ?_))
  rintro e W1 ⟨_, rfl, hb1, bf, rfl, hv⟩
  refine ⟨_, rfl, ?_⟩
  have hB := hb1
  refine g_pv 4 [(9, .slice none 0 0), (10, .iface 146 (.pointer (some ⟨bf, 0, none⟩))), (4, .slice none 0 0), (5, .iface 146 (.pointer (some ⟨bf, 0, none⟩)))] (by kernel_rfl) ?_
  refine wpList_nil ?_
  refine wp_ret ?_
  exact g_ret (.tuple #[.slice none 0 0, .iface 146 (.pointer (some ⟨bf, 0, none⟩))]) (by kernel_rfl) (by kernel_rfl) ⟨_, rfl, hB, _, rfl, hv⟩
/-- the number that Seal hands back -/
def sealE (kind no : Int) (li : List UInt8) : Int := if knownB kind no then (if li.length ≤ 244 then 0 else 2) else 1
theorem knownB_all {kind no : Int} (h : knownB kind no = true) : 1 ≤ kind ∧ kind ≤ 4 ∧ 0 ≤ no ∧ no < 14400 := of_decide_eq_true h
set_option maxRecDepth 100000 in
set_option maxHeartbeats 1000000 in
theorem seal_Seal_bad (kind no : Int) (a : Option Addr) (c : Nat) (li : List UInt8) (w : World) (hk : knownB kind no = false) :
    Calls Tryz.prog 70 #[.int .i64 kind, .int .i64 no, .slice a li.length c] w (Ret (.tuple #[.slice none 0 0, .int .i64 1]) w) := by
 refine zin 54 Tryz.func70 ?_
 refine xr 11 (args := #[.int .i64 kind, .int .i64 no]) (seal_knownB kind no _) fun W1 hb1 => ?_
 refine xk 3 (show (!(knownB kind no) : Bool) = true from by rw [hk]; rfl) ?_
 exact xe 8 (.tuple #[.slice none 0 0, .int .i64 1]) ⟨rfl, hb1⟩
set_option maxRecDepth 100000 in
set_option maxHeartbeats 1000000 in
theorem seal_Seal_long (kind no : Int) (a : Option Addr) (c : Nat) (li : List UInt8) (w : World) (hk : knownB kind no = true) (hl : 244 < li.length) :
    Calls Tryz.prog 70 #[.int .i64 kind, .int .i64 no, .slice a li.length c] w (Ret (.tuple #[.slice none 0 0, .int .i64 2]) w) := by
 refine zin 54 Tryz.func70 ?_
 refine xr 11 (args := #[.int .i64 kind, .int .i64 no]) (seal_knownB kind no _) fun W1 hb1 => ?_
 refine xk 3 (show (!(knownB kind no) : Bool) = false from by rw [hk]; rfl) ?_
 refine xk 10 (show (decide ((↑li.length : Int) > (244 : Int)) : Bool) = true from decide_eq_true (by omega)) ?_
 exact xe 8 (.tuple #[.slice none 0 0, .int .i64 2]) ⟨rfl, hb1⟩
def SealP (kind no : Int) (li : List UInt8) (w : World) (e : Ending) (w' : World) : Prop :=
  (sealE kind no li ≠ 0 ∧ e = .returned (.tuple #[.slice none 0 0, .int .i64 (sealE kind no li)]) ∧ Below w.heap.size w w') ∨
  (sealE kind no li = 0 ∧ knownB kind no = true ∧ li.length ≤ 244 ∧ ∃ p c, e = .returned (.tuple #[.slice p 256 c, .int .i64 0]) ∧ Below w.heap.size w w' ∧ w'.ownsRow w.heap.size 5 1 (.slice p 256 c) 256 ((sealB kind no li).map bv))
theorem seal_SealG (kind no : Int) (a : Option Addr) (c : Nat) (li : List UInt8) (w : World) (h : Bys w (.slice a li.length c) li) :
    Calls Tryz.prog 70 #[.int .i64 kind, .int .i64 no, .slice a li.length c] w (SealP kind no li w) := by
  cases hk : knownB kind no with
  | false =>
    refine (seal_Seal_bad kind no a c li w hk).mono ?_
    rintro e W ⟨rfl, hb⟩
    have he : sealE kind no li = 1 := by simp [sealE, hk]
    exact .inl ⟨by rw [he]; decide, by rw [he], hb⟩
  | true =>
    by_cases hl : li.length ≤ 244
    · obtain ⟨h1, h2, h3, h4⟩ := knownB_all hk
      refine (seal_Seal kind no h1 h2 h3 h4 a c li w hl h).mono ?_
      rintro e W ⟨_, rfl, hb, p, c2, rfl, ho⟩
      exact .inr ⟨by simp [sealE, hk, hl], hk, hl, p, c2, rfl, hb, ho⟩
    · refine (seal_Seal_long kind no a c li w hk (by omega)).mono ?_
      rintro e W ⟨rfl, hb⟩
      have he : sealE kind no li = 2 := by simp [sealE, hk, hl]
      exact .inl ⟨by rw [he]; decide, by rw [he], hb⟩
set_option maxRecDepth 100000 in
set_option maxHeartbeats 1000000 in
theorem image_Write_nil (k : Int) (x : Value) (w : World) :
    Calls Tryz.prog 71 #[.pointer none, .int .i64 k, x] w (Ret (.int .i64 18) w) := by
 refine zin 24 Tryz.func71 ?_
 refine xr 9 (args := #[.pointer none, .int .i64 k]) (image_block_nil k _) fun W1 hb1 => ?_
 exact xe 23 (.int .i64 18) ⟨rfl, hb1⟩
set_option maxRecDepth 100000 in
set_option maxHeartbeats 1000000 in
theorem blkN_Write (no kind : Int) (a : Option Addr) (c : Nat) (li : List UInt8) (w : World) (h : Bys w (.slice a li.length c) li) :
    Calls Tryz.prog 44 #[.pointer none, .int .i64 no, .int .i64 kind, .slice a li.length c] w (RetS (fun w' r => ∃ b er, r = .iface 146 (.pointer (some ⟨b, 0, none⟩)) ∧ er ≠ 0 ∧ ErrV w' [some no] (some er) (.iface 146 (.pointer (some ⟨b, 0, none⟩)))) w) := by
 refine zin 28 Tryz.func44 ?_
 refine xc 10 (args := #[.int .i64 kind, .int .i64 no, .slice a li.length c]) (seal_SealG kind no a c li _ (h.below (Below.refl w.heap.size _))) ?_
 rintro e W1 hq1
 rcases hq1 with ⟨hs, rfl, hb1⟩ | ⟨_, _, _, p2, c2, rfl, hb1, _⟩
 · refine xk 14 (show (((sealE kind no li) == (0 : Int)) : Bool) = false from beq_false_of_ne hs) ?_
   refine xc 7 (args := #[.int .i64 no, .iface 46 (.int .i64 (sealE kind no li))]) (block_told no (sealE kind no li) _) ?_
   rintro _ W2 ⟨_, rfl, hb2, hv2⟩
   rw [if_neg hs, if_neg hs] at hv2
   have hq2 := hv2
   obtain ⟨bf2, vf2, rfl, _, _⟩ := hq2
   have hB := Bl.next hb1 hb2
   exact xe 4 (.iface 146 (.pointer (some ⟨bf2, 0, none⟩))) ⟨_, rfl, hB, _, _, rfl, hs, hv2⟩
 refine xr 19 (args := #[.pointer none, .int .i64 no, .slice p2 256 c2]) (image_Write_nil no _ _) fun W3 hb3 => ?_
 refine xc 8 (args := #[.int .i64 no, .iface 46 (.int .i64 18)]) (block_told no 18 _) ?_
 rintro _ W4 ⟨_, rfl, hb4, hv4⟩
 rw [if_neg (by decide), if_neg (by decide)] at hv4
 have hq4 := hv4
 obtain ⟨bf4, vf4, rfl, _, _⟩ := hq4
 have hB := Bl.next (Bl.next hb1 hb3) hb4
 exact xe 4 (.iface 146 (.pointer (some ⟨bf4, 0, none⟩))) ⟨_, rfl, hB, _, _, rfl, (by decide), hv4⟩
end Go.Proofs.YtbhjgcokpmiopaaGreat
namespace Go.Proofs.YtbhjgcokpmiopaaGreat
open Go.RowKit Go.Extern.Stop Go.Stop Go.Extern
set_option linter.unusedVariables false
attribute [local irreducible] wpList wpAnyH Code.wp Oper.wp Go

theorem step1_xor (a b : Nat) : step1 (a ^^^ b) = step1 a ^^^ step1 b := by
  have e : ∀ r, step1 r = (r / 2) ^^^ (if r % 2 = 1 then 2197175160 else 0) := fun r => by unfold step1; split <;> simp
  rw [e, e, e, Nat.xor_div_two]
  have hp := Nat.xor_mod_two_eq_one (a := a) (b := b)
  by_cases h1 : a % 2 = 1 <;> by_cases h2 : b % 2 = 1
  · rw [if_neg (by rw [hp]; simp [h1, h2]), if_pos h1, if_pos h2, Nat.xor_zero]
    rw [show a / 2 ^^^ 2197175160 ^^^ (b / 2 ^^^ 2197175160) = a / 2 ^^^ b / 2 ^^^ (2197175160 ^^^ 2197175160) by ac_rfl]; simp
  · rw [if_pos (by rw [hp]; simp [h1, h2]), if_pos h1, if_neg h2, Nat.xor_zero]; ac_rfl
  · rw [if_pos (by rw [hp]; simp [h1, h2]), if_neg h1, if_pos h2, Nat.xor_zero]; ac_rfl
  · rw [if_neg (by rw [hp]; simp [h1, h2]), if_neg h1, if_neg h2, Nat.xor_zero, Nat.xor_zero, Nat.xor_zero]
theorem stepN_xor (n a b : Nat) : stepN n (a ^^^ b) = stepN n a ^^^ stepN n b := by
  induction n with
  | zero => rfl
  | succ n ih => rw [stepN, ih, step1_xor]; rfl
theorem step1_even (q : Nat) : step1 (2 * q) = q := by unfold step1; rw [if_neg (by omega)]; omega
theorem stepN_16 (q : Nat) : stepN 4 (16 * q) = q := by
  show step1 (step1 (step1 (step1 (16 * q)))) = q
  rw [show 16 * q = 2 * (2 * (2 * (2 * q))) by omega, step1_even, step1_even, step1_even, step1_even]
theorem split16 (r : Nat) : r = (16 * (r / 16)) ^^^ (r % 16) := by
  apply Nat.eq_of_testBit_eq
  intro i
  rw [Nat.testBit_xor, show 16 * (r / 16) = 2 ^ 4 * (r / 2 ^ 4) from rfl, Nat.testBit_two_pow_mul, Nat.testBit_div_two_pow, show r % 16 = r % 2 ^ 4 from rfl, Nat.testBit_mod_two_pow]
  by_cases h : 4 ≤ i
  · rw [show i - 4 + 4 = i by omega, show decide (i ≥ 4) = true from decide_eq_true h, show decide (i < 4) = false from decide_eq_false (by omega)]; simp
  · rw [show decide (i ≥ 4) = false from decide_eq_false h, show decide (i < 4) = true from decide_eq_true (by omega)]; simp
theorem stepN_4 (r : Nat) : stepN 4 r = (r / 16) ^^^ half (r % 16) := by
  conv => lhs; rw [split16 r]
  rw [stepN_xor, stepN_16]; rfl
theorem stepN_add (m n r : Nat) : stepN (m + n) r = stepN m (stepN n r) := by
  induction m with
  | zero => simp [stepN]
  | succ m ih => rw [Nat.succ_add, stepN, ih]; rfl
theorem crcStep_8 (r : Nat) (x : UInt8) : crcStep r x = stepN 8 (r ^^^ x.toNat) := by
  show _ = stepN (4 + 4) (r ^^^ x.toNat)
  rw [stepN_add, stepN_4, stepN_4]; rfl
theorem step1_odd {r : Nat} (h : r % 2 = 1) : step1 r = (r / 2) ^^^ 2197175160 := if_pos h
theorem step1_ev {r : Nat} (h : ¬ r % 2 = 1) : step1 r = r / 2 := if_neg h
theorem leB_snoc (n : Int) (w : Nat) : leB n (w + 1) = leB n w ++ [byteAt n w] := by simp [leB, List.range_succ]
theorem u8_byteAt (m i : Nat) : IntKind.u8.wrap (((m / 256 ^ i) % 256 : Nat) : Int) = ((byteAt (m : Int) i).toNat : Int) := by
  rw [byte_0 (Int.natCast_nonneg _)]
  unfold byteAt
  simp only [Int.toNat_natCast, Nat.pow_zero, Nat.div_one]
  congr 2
  apply UInt8.toNat_inj.1
  simp [UInt8.toNat_ofNat']
def refHead (kind no : Int) (li : List UInt8) : List UInt8 := leB no 4 ++ leB kind 2 ++ [0, 0] ++ li
theorem refHead_len (kind no : Int) (li : List UInt8) : (refHead kind no li).length = 8 + li.length := by simp [refHead, leB_len]; omega
def refPad (kind no : Int) (li : List UInt8) (m : Nat) : List UInt8 := refHead kind no li ++ List.replicate (m - (8 + li.length)) 0
theorem refPad_len {kind no : Int} {li : List UInt8} {m : Nat} (h : 8 + li.length ≤ m) : (refPad kind no li m).length = m := by simp [refPad, refHead_len]; omega
theorem refPad_zero (kind no : Int) (li : List UInt8) : refPad kind no li (8 + li.length) = refHead kind no li := by simp [refPad]
theorem refPad_next {kind no : Int} {li : List UInt8} {m : Nat} (h : 8 + li.length ≤ m) : refPad kind no li (m + 1) = refPad kind no li m ++ [0] := by
  unfold refPad
  rw [show m + 1 - (8 + li.length) = (m - (8 + li.length)) + 1 by omega, List.replicate_succ', ← List.append_assoc]
theorem refPad_seal3 {kind no : Int} {li : List UInt8} (hl : li.length ≤ 244) : refPad kind no li 252 = (seal3 kind no li).take 252 := by
  have l1 := seal1_len hl
  have l2 := seal2_len (no := no) hl
  have l3 := seal3_len (kind := kind) (no := no) hl
  apply ext_getD
  · rw [refPad_len (by omega)]; simp [l3]
  · intro j hj
    rw [refPad_len (by omega)] at hj
    have e : ((seal3 kind no li).take 252).getD j 0 = (seal3 kind no li).getD j 0 := by simp only [List.getD]; rw [List.getElem?_take, if_pos hj]
    rw [e]
    unfold seal3
    rw [putB_get (by rw [leB_len]; omega), leB_len]
    unfold refPad refHead
    simp only [List.getD, List.append_assoc]
    rw [List.getElem?_append, leB_len]
    by_cases h1 : j < 4
    · rw [if_pos h1, if_neg (by omega)]
      have := putB_get (l := seal1 li) (k := 0) (x := leB no 4) (by rw [leB_len]; omega) j
      rw [if_pos (by rw [leB_len]; omega)] at this
      unfold seal2
      simp only [List.getD] at this
      rw [this, Nat.sub_zero]
    · rw [if_neg h1, List.getElem?_append, leB_len]
      by_cases h2 : j < 6
      · rw [if_pos (by omega), if_pos (by omega)]
      · rw [if_neg (by omega), if_neg (by omega)]
        have := putB_get (l := seal1 li) (k := 0) (x := leB no 4) (by rw [leB_len]; omega) j
        rw [if_neg (by rw [leB_len]; omega)] at this
        have h3 := putB_get (l := List.replicate 256 (0 : UInt8)) (k := 8) (x := li) (by rw [List.length_replicate]; omega) j
        unfold seal2
        simp only [List.getD] at this h3
        rw [this]
        unfold seal1
        rw [h3, List.getElem?_append]
        have hz := zeros_get 256 j
        simp only [List.getD] at hz
        by_cases h4 : j < 8
        · rw [if_pos (by simp; omega), if_neg (by omega), hz]
          obtain rfl | rfl : j = 6 ∨ j = 7 := by omega
          · rfl
          · rfl
        · rw [if_neg (by simp; omega), List.getElem?_append]
          simp only [List.length_cons, List.length_nil]
          by_cases h5 : j < 8 + li.length
          · rw [if_pos (by omega), if_pos (by omega), show j - 4 - 2 - (0 + 1 + 1) = j - 8 by omega]
          · rw [if_neg (by omega), if_neg (by omega), hz]
            have := zeros_get (252 - (8 + li.length)) (j - 4 - 2 - (0 + 1 + 1) - li.length)
            simpa only [List.getD] using this
theorem refSeal_eq {kind no : Int} {li : List UInt8} (hl : li.length ≤ 244) : refPad kind no li 252 ++ leB ((crcSum (refPad kind no li 252) ^^^ saltN kind : Nat) : Int) 4 = sealB kind no li := by
  have l3 := seal3_len (kind := kind) (no := no) hl
  rw [refPad_seal3 hl]
  unfold sealB putB sumB
  rw [leB_len, List.drop_eq_nil_of_le (by omega), List.append_nil]
end Go.Proofs.YtbhjgcokpmiopaaGreat
namespace Go.Proofs.YtbhjgcokpmiopaaGreat
open Go.RowKit Go.Extern.Stop Go.Stop Go.Extern
set_option linter.unusedVariables false
attribute [local irreducible] wpList wpAnyH Code.wp Oper.wp Go

theorem rawN_hi (l : List UInt8) : ∀ (j k r : Nat), rawN l (k + j) r ≤ rawN l k (j + r)
  | 0, k, r => by simp
  | j + 1, k, r => by
    have ih := rawN_hi l j (k + 1) r
    rw [show j + 1 + r = (j + r) + 1 by omega, rawN, show k + (j + 1) = k + 1 + j by omega]
    omega
theorem raw8 (l : List UInt8) (k : Nat) : rawN l k 8 < 9223372036854775808 ↔ (l.getD (k + 7) 0).toNat < 128 := by
  have h : ∀ i, (l.getD i 0).toNat < 256 := fun i => (l.getD i 0).toNat_lt
  have h0 := h k
  have h1 := h (k + 1)
  have h2 := h (k + 2)
  have h3 := h (k + 3)
  have h4 := h (k + 4)
  have h5 := h (k + 5)
  have h6 := h (k + 6)
  have h7 := h (k + 7)
  simp only [rawN, Nat.add_assoc, Nat.reduceAdd]
  omega
theorem rawN_last {l : List UInt8} {k w j r : Nat} (h : rawN l k w < 9223372036854775808) (hj : 0 < j) (e : j + r = w) : (l.getD (k + (j - 1)) 0).toNat + 256 * rawN l (k + j) r < 9223372036854775808 ∧ rawN l (k + (j - 1)) (r + 1) = rawN l (k + j) r * 256 + (l.getD (k + (j - 1)) 0).toNat := by
  have h1 := rawN_hi l (j - 1) k (r + 1)
  rw [show j - 1 + (r + 1) = w by omega, rawN, show k + (j - 1) + 1 = k + j by omega] at h1
  refine ⟨by omega, ?_⟩
  rw [rawN, show k + (j - 1) + 1 = k + j by omega]; omega
end Go.Proofs.YtbhjgcokpmiopaaGreat
namespace Go.Proofs.YtbhjgcokpmiopaaGreat
open Go.RowKit Go.Extern.Stop Go.Stop Go.Extern
set_option linter.unusedVariables false

theorem numB_digit (n : Nat) (h : n < 10) : numB n = ⟨#[48 + n.toUInt8]⟩ := by
  have : n = 0 ∨ n = 1 ∨ n = 2 ∨ n = 3 ∨ n = 4 ∨ n = 5 ∨ n = 6 ∨ n = 7 ∨ n = 8 ∨ n = 9 := by omega
  rcases this with rfl | rfl | rfl | rfl | rfl | rfl | rfl | rfl | rfl | rfl <;> (simp [numB, Lib.itoa, Lib.decDigits]; try decide)
theorem text_lives : textB [some 3, some 7] (some 4) = ⟨#[98, 108, 111, 99, 107, 32, 51, 58, 32, 98, 108, 111, 99, 107, 32, 55, 58, 32, 101, 114, 114, 111, 114, 32, 52]⟩ := by
  simp only [textB]
  rw [show numB 3 = ⟨#[51]⟩ from numB_digit 3 (by omega), show numB 7 = ⟨#[55]⟩ from numB_digit 7 (by omega), show numB 4 = ⟨#[52]⟩ from numB_digit 4 (by omega)]
  rfl

end Go.Proofs.YtbhjgcokpmiopaaGreat
namespace Go.Proofs.YtbhjgcokpmiopaaGreat
open Go.RowKit Go.Extern.Stop Go.Stop Go.Extern
set_option linter.unusedVariables false

/-- an error as the document has it -/
def FltV (w : World) (v : Value) (l : List Int) (c : Int) : Prop := ∃ s, v = .agg #[s, .int .i64 c] ∧ Ints w s l
theorem FltV.below {w w' : World} {v : Value} {l : List Int} {c : Int} (h : FltV w v l c) (hb : Below w.heap.size w w') : FltV w' v l c := by
  obtain ⟨s, rfl, hs⟩ := h
  exact ⟨s, rfl, hs.below hb⟩
def ownL (l : List Int) (c : Int) : List (Option Int) := if c = 0 then [] else l.map some
def ownT (c : Int) : Option Int := if c = 0 then none else some c
theorem ownL_nz {l : List Int} {c : Int} (h : c ≠ 0) : ownL l c = l.map some := if_neg h
theorem ownT_nz {c : Int} (h : c ≠ 0) : ownT c = some c := if_neg h
theorem codeOf_own (l : List Int) (c : Int) : codeOf (ownL l c) (ownT c) = c := by
  by_cases h : c = 0
  · subst h; rfl
  · rw [ownL_nz h, ownT_nz h]; simp [codeOf, noErr]
theorem blocksOf_own (l : List Int) (c : Int) : blocksOf (ownL l c) = if c = 0 then [] else l := by
  by_cases h : c = 0
  · subst h; rfl
  · rw [ownL_nz h, if_neg h]; simp [blocksOf, List.filterMap_map]
theorem drop_some {l : List Int} {k : Nat} (h : k < l.length) : (l.drop k).map some = some l[k] :: (l.drop (k + 1)).map some := by
  rw [List.drop_eq_getElem_cons h]; rfl

end Go.Proofs.YtbhjgcokpmiopaaGreat
namespace Go.Proofs.YtbhjgcokpmiopaaGreat
open Go.RowKit Go.Extern.Stop Go.Stop Go.Extern
set_option linter.unusedVariables false
attribute [local irreducible] wpList wpAnyH Code.wp Oper.wp Go

def blksL (l : List UInt8) (k : Nat) : List (List UInt8) := (List.range k).map (blkB l)
theorem blksL_len (l : List UInt8) (k : Nat) : (blksL l k).length = k := by simp [blksL]
theorem blksL_snoc (l : List UInt8) (k : Nat) : blksL l (k + 1) = blksL l k ++ [blkB l k] := by simp [blksL, List.range_succ]
theorem blksL_get (l : List UInt8) {k i : Nat} (h : i < k) : (blksL l k).getD i [] = blkB l i := by simp [blksL, List.getD, List.getElem?_range h]
theorem blkB_take {l : List UInt8} {i m : Nat} (h : i < m) : blkB (l.take (m * 256)) i = blkB l i := by
  unfold blkB
  rw [List.drop_take, List.take_take, Nat.min_eq_left (by omega)]
theorem blksL_take {l : List UInt8} {k : Nat} : blksL (l.take (k * 256)) k = blksL l k := List.map_congr_left fun i hi => blkB_take (List.mem_range.1 hi)
theorem blksL_set {l x : List UInt8} {k j : Nat} (hx : x.length = 256) (hl : k * 256 ≤ l.length) (hj : j < k) : (blksL l k).set j x = blksL (putB l (j * 256) x) k := by
  apply List.ext_getElem?
  intro i
  by_cases hi : i < k
  · rw [List.getElem?_set]
    have e1 : ∀ l : List UInt8, (blksL l k)[i]? = some (blkB l i) := fun l => by simp [blksL, List.getElem?_range hi]
    rw [e1, e1]
    by_cases h : j = i
    · subst h; rw [if_pos rfl, blksL_len, if_pos hi, blkB_put hx (by omega)]
    · rw [if_neg h, blkB_put_other hx (by omega) (by omega) (by omega)]
  · rw [List.getElem?_eq_none (by rw [List.length_set, blksL_len]; omega), List.getElem?_eq_none (by rw [blksL_len]; omega)]
theorem take_blk {l : List UInt8} {i : Nat} : l.take (i * 256) ++ blkB l i = l.take ((i + 1) * 256) := by
  unfold blkB
  rw [Nat.add_mul, Nat.one_mul, List.take_add]
/-- the document's fault of a number at a block -/
def fltL (no er : Int) : List Int := if er = 0 then [] else [no]
theorem fltL_nz {no er : Int} (h : er ≠ 0) : fltL no er = [no] := if_neg h
def FltO (no er : Int) (w : World) (e : Ending) (w' : World) : Prop := ∃ a c, e = .returned (.agg #[.slice a (fltL no er).length c, .int .i64 er]) ∧ Below w.heap.size w w' ∧ w'.ownsRow w.heap.size 3 1 (.slice a (fltL no er).length c) (fltL no er).length ((fltL no er).map (Value.int .i64))
/-- the number that a block's writing hands back -/
def wrE (kind no : Int) (k : Nat) (li : List UInt8) : Int := if sealE kind no li = 0 then (if 0 ≤ no ∧ no < (k : Int) then 0 else 3) else sealE kind no li
/-- the image behind it -/
def wrL (kind no : Int) (k : Nat) (li l : List UInt8) : List UInt8 := if wrE kind no k li = 0 then putB l (no.toNat * 256) (sealB kind no li) else l
theorem wrL_len {kind no : Int} {k : Nat} {li l : List UInt8} (hl : l.length = k * 256) (hs : li.length ≤ 244 ∨ wrE kind no k li ≠ 0) : (wrL kind no k li l).length = k * 256 := by
  unfold wrL
  split
  · rename_i h
    have h1 : sealE kind no li = 0 := by unfold wrE at h; split at h; assumption; rename_i h2; exact absurd h h2
    have h2 : 0 ≤ no ∧ no < (k : Int) := by unfold wrE at h; rw [if_pos h1] at h; split at h; assumption; cases h
    have h3 : li.length ≤ 244 := by
      rcases hs with hs | hs
      · exact hs
      · exact absurd h hs
    rw [putB_len (by rw [sealB_len h3]; omega), hl]
  · exact hl
end Go.Proofs.YtbhjgcokpmiopaaGreat
namespace Go.Proofs.YtbhjgcokpmiopaaGreat
open Go.RowKit Go.Extern.Stop Go.Stop Go.Extern
set_option linter.unusedVariables false
attribute [local irreducible] wpList wpAnyH Code.wp Oper.wp Go

theorem raw1 (l : List UInt8) (k : Nat) : rawN l k 1 = (l.getD k 0).toNat := by simp [rawN]
theorem raw2 (l : List UInt8) (k : Nat) : rawN l k 2 = (l.getD k 0).toNat + 256 * (l.getD (k + 1) 0).toNat := by simp [rawN]
theorem BysM.elem {w : World} {a : Option Addr} {n c : Nat} {l : List UInt8} (h : Bys w (.slice a n c) l) (hl : l.length = n) {k : Nat} (hk : k < n) : a.isSome = true ∧ w.cell? (elemAddr a (k * 1)) = some (.int .u8 (↑(l.getD k 0).toNat : Int)) := by
  subst hl; exact Bys.elem h hk
theorem slN_of {w : World} {v : Value} {n : Nat} {l : List UInt8} (h : Bys w v l) (hl : l.length = n) : Sl w v n (l.map bv) := by subst hl; exact h
theorem drop_take_len {l : List UInt8} {k m n : Nat} (h : l.length = n) (hk : k ≤ m) (hm : m ≤ n) : ((l.drop k).take (m - k)).length = m - k := by simp; omega
/-- the sum is asked by its bytes -/
theorem ask_sum {kind no : Int} {l : List UInt8} (hl : l.length = 256) : (!(((l.drop 252).take 4) == leB ((sumB l kind : Nat) : Int) 4)) = askB kind no l 2 := by
  have h1 := leB_raw (l := l) (k := 252) (w := 4) (by omega)
  have hs : sumB l kind < 256 ^ 4 := by
    have := Nat.xor_lt_two_pow (n := 32) (crcSum_lt (l.take 252)) (saltN_lt kind)
    unfold sumB; exact this
  have hr := rawN_lt l 4 252
  show _ = ((rawN l 252 4 : Int) != (sumB l kind : Int))
  rw [← h1]
  by_cases e : rawN l 252 4 = sumB l kind
  · rw [e]; simp
  · have e2 : leB (rawN l 252 4 : Int) 4 ≠ leB (sumB l kind : Int) 4 := fun h => e (leB_inj hr hs h)
    rw [beq_false_of_ne e2, bne_iff_ne.2 (by omega)]; rfl
end Go.Proofs.YtbhjgcokpmiopaaGreat
namespace Go.Proofs.YtbhjgcokpmiopaaGreat
open Go.RowKit Go.Extern.Stop Go.Stop Go.Extern
set_option linter.unusedVariables false
attribute [local irreducible] wpList wpAnyH Code.wp Oper.wp Go

def RReadP (k : Nat) (l : List UInt8) (no : Int) (w : World) (e : Ending) (w' : World) : Prop :=
  (¬ (0 ≤ no ∧ no < (k : Int)) ∧ e = .returned (.tuple #[.slice none 0 0, .int .i64 3]) ∧ Below w.heap.size w w') ∨
  (∃ j : Nat, no = (j : Int) ∧ j < k ∧ ∃ b c, e = .returned (.tuple #[.slice (some ⟨b, 0, none⟩) 256 c, .int .i64 0]) ∧ Below w.heap.size w w' ∧ Bys w' (.slice (some ⟨b, 0, none⟩) 256 c) (blkB l j))
def RInP (l : List UInt8) (kind no : Int) (w : World) (e : Ending) (w' : World) : Prop :=
  (inE l kind no ≠ 0 ∧ e = .returned (.tuple #[.slice none 0 0, .int .i64 (inE l kind no)]) ∧ Below w.heap.size w w') ∨
  (inE l kind no = 0 ∧ (inB l no).length = 244 ∧ ∃ p c, e = .returned (.tuple #[.slice p 244 c, .int .i64 0]) ∧ Below w.heap.size w w' ∧ w'.ownsRow w.heap.size 5 1 (.slice p 244 c) 244 ((inB l no).map bv))
end Go.Proofs.YtbhjgcokpmiopaaGreat
namespace Go.Proofs.YtbhjgcokpmiopaaGreat
open Go.RowKit Go.Extern.Stop Go.Stop Go.Extern
set_option linter.unusedVariables false
attribute [local irreducible] wpList wpAnyH Code.wp Oper.wp Go

def padI (l : List Int) (n : Nat) : List Int := (List.range 960).map (atI l n)
theorem padI_len (l : List Int) (n : Nat) : (padI l n).length = 960 := by simp [padI]
theorem padI_get (l : List Int) (n : Nat) {k : Nat} (h : k < 960) : (padI l n).getD k 0 = atI l n k := by simp [padI, List.getD, List.getElem?_range h]
theorem padN_zero (l : List Int) (n : Nat) : (List.range n).map (atI l 0) = List.replicate n 0 := by
  apply List.ext_getElem
  · simp
  · intro i h1 h2; simp [atI]
theorem padI_zero (l : List Int) : padI l 0 = List.replicate 960 0 := padN_zero l 960
theorem padN_set {l : List Int} {i n : Nat} (hi : i < n) : (((List.range n).map (atI l i)).map (Value.int .i64)).set i (.int .i64 (l.getD i 0)) = ((List.range n).map (atI l (i + 1))).map (Value.int .i64) := by
  rw [← List.map_set]
  congr 1
  apply List.ext_getElem
  · simp
  · intro k h1 h2
    rw [List.getElem_set]
    simp only [List.getElem_map, List.getElem_range, atI]
    by_cases e : i = k
    · subst e; rw [if_pos rfl, if_pos (by omega)]
    · rw [if_neg e]
      by_cases h3 : k < i
      · rw [if_pos h3, if_pos (by omega)]
      · rw [if_neg h3, if_neg (by omega)]
theorem padI_set {l : List Int} {i : Nat} (hi : i < 960) : ((padI l i).map (Value.int .i64)).set i (.int .i64 (l.getD i 0)) = (padI l (i + 1)).map (Value.int .i64) := padN_set hi
theorem zeros960 : zeros (Value.int .i64 0).cells.toList 960 = (List.replicate 960 (0 : Int)).map (Value.int .i64) := by
  rw [show (Value.int .i64 0).cells.toList = [Value.int .i64 0] from rfl, zeros, List.map_replicate]
  generalize 960 = n
  induction n with
  | zero => rfl
  | succ n ih => rw [List.replicate_succ, List.flatten_cons, ih, List.replicate_succ]; rfl
/-- the bytes of the first k groups of four -/
def grpB (l : List Int) (k : Nat) : List UInt8 := leB l.length 4 ++ (List.range k).map (g4B l l.length)
theorem grpB_len (l : List Int) (k : Nat) : (grpB l k).length = 4 + k := by simp [grpB, leB_len]
theorem grpB_succ (l : List Int) (k : Nat) : grpB l (k + 1) = grpB l k ++ [g4B l l.length k] := by simp [grpB, List.range_succ]
theorem g4_u8 {x : Int} (h0 : 0 ≤ x) (h1 : x < 256) : IntKind.u8.wrap x = ((UInt8.ofNat x.toNat).toNat : Int) := by
  rw [UInt8.toNat_ofNat', Nat.mod_eq_of_lt (by omega), IntWalk.u8_in x (by omega)]; omega
end Go.Proofs.YtbhjgcokpmiopaaGreat
namespace Go.Proofs.YtbhjgcokpmiopaaGreat
open Go.RowKit
set_option linter.unusedVariables false
theorem run_cat {P : Program} {a : Act} {o : Oper} {t t2 : TypeId} {x y : Operand} {l m : List UInt8} (ho : o.op = .binOp .add t x y t2) (hx : a.eval x = .string ⟨l.toArray⟩) (hy : a.eval y = .string ⟨m.toArray⟩) (hl : l.length + m.length ≤ 1000000) (w : World) : (execOp a.eval o).run P w = .ok (.value (.string ⟨(l ++ m).toArray⟩)) w := by
  have e : (⟨l.toArray⟩ : ByteArray) ++ ⟨m.toArray⟩ = ⟨(l ++ m).toArray⟩ := by
    apply ByteArray.ext
    simp
  have g : binOp .add t (.string ⟨l.toArray⟩) (.string ⟨m.toArray⟩) = pure (.string ((⟨l.toArray⟩ : ByteArray) ++ ⟨m.toArray⟩)) := by
    have h : ¬ (9223372036854775807 : Int) < ((⟨l.toArray⟩ : ByteArray).size : Int) + ((⟨m.toArray⟩ : ByteArray).size : Int) := by simp [ByteArray.size]; omega
    simp [binOp, Op.stringOp]
    intro q; exact absurd q h
  have q : eqGuard .add t x y (.string ⟨l.toArray⟩ : Value) (.string ⟨m.toArray⟩ : Value) = pure () := rfl
  simp only [execOp, ho, hx, hy, g, e, q]
  simp
end Go.Proofs.YtbhjgcokpmiopaaGreat
namespace Go.Proofs.YtbhjgcokpmiopaaGreat
open Go.RowKit Go.Extern.Stop Go.Stop Go.Extern
set_option linter.unusedVariables false
attribute [local irreducible] wpList wpAnyH Code.wp Oper.wp Go

def txtL (N : List Int) (ws : List Nat) (k : Nat) : List UInt8 := (List.range k).flatMap fun i => leB (N.getD i 0) (ws.getD i 0)
theorem txtL_succ (N : List Int) (ws : List Nat) (k : Nat) : txtL N ws (k + 1) = txtL N ws k ++ leB (N.getD k 0) (ws.getD k 0) := by simp [txtL, List.range_succ]
/-- numbers that may be told, in so many bytes each -/
def TxtOk (N : List Int) (ws : List Nat) : Prop := N.length ≤ 100 ∧ ws.length = N.length ∧ ∀ i, i < N.length → 0 ≤ N.getD i 0 ∧ N.getD i 0 < 9223372036854775808 ∧ ws.getD i 0 ≤ 8
theorem txtL_len {N : List Int} {ws : List Nat} (h : TxtOk N ws) : ∀ k, k ≤ N.length → (txtL N ws k).length ≤ k * 8
  | 0, _ => Nat.zero_le _
  | k + 1, hk => by
    rw [txtL_succ, List.length_append, leB_len]
    have := txtL_len h k (by omega)
    have := (h.2.2 k (by omega)).2.2
    omega
def slotQ (x y z : Int) : Bool := decide (1 ≤ x ∧ x ≤ 14399) && decide (0 ≤ y ∧ y ≤ 960) && decide (0 ≤ z ∧ z ≤ 960)
def SlotStrP (x y z : Int) (w : World) (e : Ending) (w' : World) : Prop :=
  (slotQ x y z = false ∧ e = .returned (.string ⟨#[]⟩) ∧ Below w.heap.size w w') ∨ (slotQ x y z = true ∧ e = .returned (.string ⟨(txtL [x, y, z] [8, 4, 4] 3).toArray⟩) ∧ Below w.heap.size w w')
theorem slotQ_ok {x y z : Int} (h : slotQ x y z = true) : TxtOk [x, y, z] [8, 4, 4] := by
  unfold slotQ at h
  simp only [Bool.and_eq_true, decide_eq_true_iff] at h
  refine ⟨show 3 ≤ 100 from by decide, rfl, fun i hi => ?_⟩
  have hi' : i < 3 := hi
  obtain rfl | rfl | rfl : i = 0 ∨ i = 1 ∨ i = 2 := by omega
  all_goals simp [List.getD]
  all_goals omega
theorem txt3_ne (x y z : Int) : ((⟨(txtL [x, y, z] [8, 4, 4] 3).toArray⟩ : ByteArray).toList == (⟨#[]⟩ : ByteArray).toList) = false := by
  rw [show (⟨#[]⟩ : ByteArray) = ⟨([] : List UInt8).toArray⟩ from rfl, str_beq]
  apply beq_false_of_ne
  intro q
  have h1 := congrArg List.length q
  rw [txtL_succ, List.length_append, leB_len, List.length_nil] at h1
  simp at h1
theorem slot_txt (x y z : Int) : txtL [x, y, z] [8, 4, 4] 3 = leB x 8 ++ leB y 4 ++ leB z 4 := by simp [txtL, List.range, List.range.loop]
theorem cnt_txt (x : Int) : txtL [x] [4] 1 = leB x 4 := by simp [txtL, List.range, List.range.loop]
theorem cnt_ok {n : Int} (h : 3 ≤ n ∧ n ≤ 2147483647) : TxtOk [n] [4] := by
  refine ⟨show 1 ≤ 100 from by decide, rfl, fun i hi => ?_⟩
  have hi' : i < 1 := hi
  obtain rfl : i = 0 := by omega
  simp [List.getD]
  omega
end Go.Proofs.YtbhjgcokpmiopaaGreat
namespace Go.Proofs.YtbhjgcokpmiopaaGreat
open Go.RowKit Go.Extern.Stop Go.Stop Go.Extern
set_option linter.unusedVariables false
attribute [local irreducible] wpList wpAnyH Code.wp Oper.wp Go

def LevelPost (B ba b g nn cc : Nat) (pa : Option Addr) (ca f N k0 : Nat) (bs : List UInt8) (t : Int) (leaf : Bool) (m v : Nat) (l : List Ent) (w : World) (e : Ending) (w' : World) : Prop :=
  ∃ p c, e = .returned (.tuple #[.slice p (ovN l.length m) c, .nilIface]) ∧ Below B w w' ∧ Only [64, 5] w w' ∧ Fr [ba, g] w w' ∧ Al B ba b g nn cc pa ca f N (k0 + ovN l.length m) (levB t leaf m v l (f + k0) bs (ovN l.length m)) w' ∧ w'.ownsRow w.heap.size 74 3 (.slice p (ovN l.length m) c) (ovN l.length m) ((upE l m (f + k0) (ovN l.length m)).flatMap entC)
set_option maxRecDepth 100000 in
set_option maxHeartbeats 8000000 in
theorem build_level (B ba b g nn cc : Nat) (pa : Option Addr) (ca f N k0 : Nat) (bs : List UInt8) (t : Int) (leaf : Bool) (m v : Nat) (a : Option Addr) (c : Nat) (l : List Ent) (w : World) (hC : AlC B ba nn cc ca f N) (hA : Al B ba b g nn cc pa ca f N k0 bs w) (ht1 : 1 ≤ t) (ht2 : t ≤ 5) (hm : maxN t leaf = m) (hv : widN t leaf = v) (E : EntsOk v l) (hl : leaf = false → 1 ≤ l.length) (hn : l.length ≤ 32768) (hf1 : 1 ≤ f) (hk : k0 + ovN l.length m ≤ N) (hin : ∀ W, Below B w W → Only [64, 5] w W → Sts entC W (.slice a l.length c) l) (hBw : B ≤ w.heap.size) :
    Calls Tryz.prog 38 #[.pointer (some ⟨ba, 0, none⟩), .int .i64 t, .bool leaf, .slice a l.length c] w (LevelPost B ba b g nn cc pa ca f N k0 bs t leaf m v l w) := by
 have hmb := maxN_pos t leaf
 rw [hm] at hmb
 have hcf := hC.hf
 have hcn := hC.hn
 refine zin 96 Tryz.func38 ?_
 refine xr 18 (args := #[.int .i64 t, .bool leaf]) (node_MaxN t leaf m hm ht1 ht2 _) fun W1 hb1 => ?_
 refine xc 0 (args := #[.int .i64 (↑l.length : Int), .int .i64 (↑m : Int)]) (tall_Sizes l.length m _ hn (by omega) (by omega)) ?_
 rintro _ W2 ⟨_, rfl, hb2, ps, cs, rfl, hsz⟩
 have hs2 := (Bl.nextB (Below.refl B w) hBw hb1).size
 have hsz'1 := own_mono hsz hs2
 have hA'1 := (hA.below hb1).below hb2
 have hB := Bl.nextB (Bl.nextB (Below.refl B w) hBw hb1) hBw hb2
 have hX := (show Fr [ba, g] w _ from (Fr.of_below hb1)).trans (Fr.of_below hb2)
 have hO := (show Only [64, 5] w _ from (Only.of_below hb1)).trans (Only.of_below hb2)
 refine zl 5 96 (fun zm zkv V => ∃ (i : Nat) (a2 : Option Addr) (c2 : Nat) (l2 : List Ent) (p4 : Option Addr) (c4 : Nat), zkv = [(0, .pointer (some ⟨ba, 0, none⟩)), (1, .int .i64 t), (2, .bool leaf), (3, .slice a2 l2.length c2), (10, .slice p4 i c4), (26, .slice ps (ovN l.length m) cs), (27, .int .i64 (↑(ovN l.length m) : Int)), (28, .int .i64 (↑i : Int))] ∧ zm = ovN l.length m - ((↑i : Int)).toNat ∧ Below B w V ∧ Fr [ba, g] w V ∧ Only [64, 5] w V ∧ V.ownsRow w.heap.size 3 1 (.slice ps (ovN l.length m) cs) (ovN l.length m) ((sizL l.length m).map nv) ∧ V.ownsRow w.heap.size 74 3 (.slice p4 i c4) i ((upE l m (f + k0) i).flatMap entC) ∧ Al B ba b g nn cc pa ca f N (k0 + i) (levB t leaf m v l (f + k0) bs i) V ∧ (∀ W, Below B w W → Only [64, 5] w W → Sts entC W (.slice a2 l2.length c2) l2) ∧ i ≤ ovN l.length m ∧ l2 = l.drop (i * m)) ⟨0, a, c, l, none, 0, rfl, rfl, hB, hX, hO, hsz'1, World.ownsRow_nil _ _ _ _, hA'1, ?_, Nat.zero_le _, by simp⟩ ?_
 · exact hin
 rintro _ _ W3 ⟨i, a2, c2, l2, p4, c4, rfl, rfl, hB_3, hX_3, hO_3, hsz, hup, hA, hen, hi, hl2⟩ J3 hJ3 r3
 have hcap := Sl.cap (hen _ hB_3 hO_3)
 have hsl : i < ovN l.length m → i * m ≤ l.length := siz_le (by omega)
 have hl2n : l2.length = l.length - i * m := by rw [hl2]; simp
 have hszn : sizN l.length m i ≤ l2.length := by rw [hl2n]; unfold sizN; omega
 refine xid 6 ((↑i : Int) < (↑(ovN l.length m) : Int)) (fun hc4 => ?_) (fun hc4 => ?_)
 · refine xx 6 _ (ovN l.length m) i 1 (siz_elem (own_sl hsz) (k := i) (by omega)).1 ?_
   refine xl 0 ((siz_elem (own_sl hsz) (k := i) (by omega)).2) ?_
   have hF5 := hB_3
   have hOhF5 := hO_3
   have hXhF5 := hX_3
   refine xa 8 [.int .i64 0, .bool false, .slice none 0 0, .slice none 0 0] 112 fun b6 W6 n6 => ?_
   refine xsv 0 n6.blk [.int .i64 t, .bool leaf, .slice none 0 0, .slice none 0 0] fun W7 u7 k7 => ?_
   have g6 := n6.ge (Below.refl W3.heap.size _)
   refine xsH 7 (fun _ _ _ _ zo zx zy V => run_sliceH (k := (sizN l.length m i)) (b := a2) (n := l2.length) (c := c2) (i := (↑(sizN l.length m i) : Int)) (ki := .i64) zo zx zy rfl (by omega) Tryz.underlying48 (by kernel_rfl) V) ?_
   have hB := u7.below n6.below g6
   refine zl 5 96 (fun zm zkv V => ∃ (j : Nat) (kp : Option Addr) (kc : Nat) (vp : Option Addr) (vc : Nat), zkv = [(0, .pointer (some ⟨ba, 0, none⟩)), (1, .int .i64 t), (2, .bool leaf), (3, .slice a2 l2.length c2), (10, .slice p4 i c4), (12, .int .i64 (↑(sizN l.length m i) : Int)), (13, .pointer (some ⟨b6, 0, none⟩)), (26, .slice ps (ovN l.length m) cs), (27, .int .i64 (↑(ovN l.length m) : Int)), (28, .int .i64 (↑i : Int)), (37, .slice a2 (sizN l.length m i) c2), (38, .int .i64 (↑(sizN l.length m i) : Int)), (39, .int .i64 (↑j : Int))] ∧ zm = sizN l.length m i - ((↑j : Int)).toNat ∧ Below W3.heap.size W3 V ∧ Blk V b6 ([.int .i64 t, .bool leaf, .slice kp j kc, .slice vp j vc]) 112 ∧ V.ownsRow W3.heap.size 3 1 (.slice kp j kc) j (((keysE l2).take j).map (Value.int .i64)) ∧ V.ownsRow W3.heap.size 9 1 (.slice vp j vc) j (((valsE l2).take j).map sv) ∧ j ≤ sizN l.length m i) ⟨0, none, 0, none, 0, rfl, rfl, hB, k7, World.ownsRow_nil _ _ _ _, World.ownsRow_nil _ _ _ _, Nat.zero_le _⟩ ?_
   rintro _ _ W8 ⟨j, kp, kc, vp, vc, rfl, rfl, hB_8, k8_b6, hK, hV, hj⟩ J8 hJ8 r8
   refine xid 6 ((↑j : Int) < (↑(sizN l.length m i) : Int)) (fun hc9 => ?_) (fun hc9 => ?_)
   · have hen_hF5 := hen _ hF5 hOhF5
     refine xx 6 _ (sizN l.length m i) j 3 (Sts.cell hen_hF5 entC_len entD (k := j) (i := 0) (by omega) rfl).1 ?_
     refine xlv 0 (Sts.rp (k := j) (hen_hF5.below hB_8) entC_len entD (by omega) (by decide)) ?_
     refine xa 0 [.int .i64 0, .string ⟨#[]⟩, .int .i64 0] 74 fun b10 W10 n10 => ?_
     have g10 := n10.ge hB_8
     refine xsv 0 n10.blk [.int .i64 ((l2.getD j entD).1), .string ⟨((l2.getD j entD).2.1).toArray⟩, .int .i64 ((l2.getD j entD).2.2)] fun W11 u11 k11 => ?_
     have k8_b6'1 := u11.blkT (k8_b6.below n10.below) n10.blk (by decide)
     refine xb 5 2 k8_b6'1 ?_
     refine xb 1 0 k11 ?_
     refine xbs 0 1 [.int .i64 ((l2.getD j entD).1)] 3 fun b12 W12 n12 => ?_
     have hB'1 := u11.below (Bl.next hB_8 n10.below) g10
     have g12 := n12.ge hB'1
     have hK'1 := u11.own2 (own_below hK n10.below) n10.blk (by decide)
     have r12_hK := own_ne hK'1 n12
     have hK'2 := own_below hK'1 n12.below
     have hB'2 := Bl.next hB'1 n12.below
     refine xbi 0 fun _ _ _ _ zJ zQ zo zx zy zK => op_app (m := 1) (news := [.int .i64 ((l2.getD j entD).1)]) (.int .i64 0) 1 8 (j + 1) (((keysE l2).take (j + 1)).map (Value.int .i64)) zo Tryz.underlying24 (by kernel_rfl) rfl (by decide) zx hK'2 zy (n12.blk.sl 1 1 (by decide) (by decide)) rfl (by simp [Value.oneCell']) (by unfold maxLen; omega) (by omega) hB'2.size (by rfl) ((keys_take (by omega)).symm) fun px13 cx13 W13 o13 hg13 hb13 => ?_
     refine zK _ _ ?_
     have k8_b6'2 := (k8_b6'1.below n12.below).grown hg13 hK'2 (by decide)
     refine xs 1 k8_b6'2 [.int .i64 t, .bool leaf, .slice px13 (j + 1) cx13, .slice vp j vc] fun W14 u14 k14 => ?_
     refine xb 4 3 k14 ?_
     have k11'1 := u14.blkT ((k11.below n12.below).grown hg13 hK'2 (by decide)) k8_b6'2 (by decide)
     refine xb 1 1 k11'1 ?_
     refine xbs 0 1 [.string ⟨((l2.getD j entD).2.1).toArray⟩] 9 fun b15 W15 n15 => ?_
     have hB'3 := u14.below (hB'2.trans hb13) g6
     have g15 := n15.ge hB'3
     have hV'1 := u14.own2 (own_grown (own_below (u11.own2 (own_below hV n10.below) n10.blk (by decide)) n12.below) hg13 hK'2 (by decide)) k8_b6'2 (by decide)
     have r15_hV := own_ne hV'1 n15
     have hV'2 := own_below hV'1 n15.below
     have hB'4 := Bl.next hB'3 n15.below
     refine xbi 0 fun _ _ _ _ zJ zQ zo zx zy zK => op_app (m := 1) (news := [.string ⟨((l2.getD j entD).2.1).toArray⟩]) (.string ⟨#[]⟩) 1 16 (j + 1) (((valsE l2).take (j + 1)).map sv) zo Tryz.underlying110 (by kernel_rfl) rfl (by decide) zx hV'2 zy (n15.blk.sl 1 1 (by decide) (by decide)) rfl (by simp [Value.oneCell']) (by unfold maxLen; omega) (by omega) hB'4.size (by rfl) ((vals_take (by omega)).symm) fun px16 cx16 W16 o16 hg16 hb16 => ?_
     refine zK _ _ ?_
     have k14'1 := (k14.below n15.below).grown hg16 hV'2 (by decide)
     refine xs 1 k14'1 [.int .i64 t, .bool leaf, .slice px13 (j + 1) cx13, .slice px16 (j + 1) cx16] fun W17 u17 k17 => ?_
     refine xwm 4 ((↑j : Int) + 1) (↑(j + 1) : Int) ?_
     have hB'5 := u17.below (hB'4.trans hb16) g6
     have o13'1 := u17.own2 (own_grown (own_below (u14.own2 o13 k8_b6'2 (by decide)) n15.below) hg16 hV'2 (by decide)) k14'1 (by decide)
     have o16'1 := u17.own2 o16 k14'1 (by decide)
     exact ze 2 (hJ8 _ _ _ ⟨j + 1, _, _, _, _, rfl, rfl, hB'5, k17, o13'1, o16'1, by omega⟩ (by omega))
   refine xsL 9 (fun _ _ _ _ zo zx zy V => run_sliceLA (k := (sizN l.length m i)) (b := a2) (n := l2.length) (c := c2) (i := (↑(sizN l.length m i) : Int)) (ki := .i64) 3 zo zx zy rfl (by omega) Tryz.underlying48 (by kernel_rfl) V) ?_
   refine xlv 5 k8_b6.rp ?_
   have hT18 : Below W3.heap.size W3 W8 := hB_8
   have hs18 : w.heap.size ≤ W3.heap.size := hF5.size
   have hjs : sizN l.length m i = j := by omega
   have hck : (keysE l2).take j = keysE (chunkE l m i) := by rw [hl2]; exact keys_chunk hjs
   have hcv : (valsE l2).take j = valsE (chunkE l m i) := by rw [hl2]; exact vals_chunk hjs
   have hcl : (chunkE l m i).length = j := by rw [chunk_len, hjs]
   have hK'3 := own_mono hK hs18
   rw [hck] at hK'3
   have hV'3 := own_mono hV hs18
   rw [hcv] at hV'3
   have hN := chunk_ok E ht1 ht2 hm hv hl (show i < ovN l.length m by omega)
   have hlen := nodB_len hN
   rw [hcl] at hN
   have hnd : nodeP m v (headB t leaf j m v) (keysE (chunkE l m i)) (valsE (chunkE l m i)) j = nodB t leaf m v (chunkE l m i) := by rw [← hcl]; rfl
   refine xc 0 (args := #[.agg #[.int .i64 t, .bool leaf, .slice kp j kc, .slice vp j vc]]) (node_Put t leaf j m v (keysE (chunkE l m i)) (valsE (chunkE l m i)) kp vp kc vc _ hN (own_sl hK'3) (own_sl hV'3)) ?_
   rintro _ W19 ⟨_, rfl, hb19, p6, c6, rfl, h6⟩
   have hs19 := (Bl.nextB hF5 hBw hT18).size
   have h6'1 := own_mono h6 hs19
   rw [hnd] at h6'1
   have hA'2 := (hA.below hT18).below hb19
   have hO := (hOhF5.trans (Only.of_below hT18)).trans (Only.of_below hb19)
   have hB := Bl.nextB (Bl.nextB hF5 hBw hT18) hBw hb19
   refine xc 21 (args := #[.pointer (some ⟨ba, 0, none⟩), .int .i64 2, .slice p6 244 c6]) (alloc_LayQ B ba b g nn cc pa ca f N (k0 + i) (levB t leaf m v l (f + k0) bs i) 2 p6 c6 (nodB t leaf m v (chunkE l m i)) (f + k0 + i) 244 _ (Nat.add_assoc _ _ _).symm hlen hC hA'2 (by omega) (by decide) (by decide) (fun W _ hO => bys_of (own_sl (own_only h6'1 hO (by decide))) hlen) (by decide) (Nat.le_trans hBw hB.size)) ?_
   rintro _ W20 ⟨rfl, hb20, hO20, hX20, hA⟩
   refine xr 20 (args := #[.int .i64 (↑(f + k0 + i) : Int)]) (value_Root ((f + k0 + i : Nat) : Int) (by omega) (by omega) _) fun W21 hb21 => ?_
   refine xa 2 [.int .i64 0, .string ⟨#[]⟩, .int .i64 0] 74 fun b22 W22 n22 => ?_
   have hB'6 := Bl.nextB (hB.trans hb20) hBw hb21
   have g22 := n22.ge0 hB'6
   have hup'1 := own_below (own_only (own_below (own_below hup hT18) hb19) hO20 (by decide)) hb21
   have r22_hup := own_ne hup'1 n22
   refine xsv 0 n22.blk [.int .i64 0, .string ⟨(leB (↑(f + k0 + i) : Int) 4).toArray⟩, .int .i64 (↑(f + k0 + i) : Int)] fun W23 u23 k23 => ?_
   refine xid 9 ((↑(sizN l.length m i) : Int) > (0 : Int)) (fun hc24 => ?_) (fun hc24 => ?_)
   · have hkey : ((keysE (chunkE l m i))).getD 0 0 = ((chunkE l m i).getD 0 entD).1 := chunk_key hjs (by omega)
     have k8_b6'3 := u23.blkT ((((k8_b6.below hb19).only hO20 (by decide)).below hb21).below n22.below) n22.blk (by decide)
     refine xb 2 2 k8_b6'3 ?_
     have hK'4 := u23.own2 (own_below (own_below (own_only (own_below hK'3 hb19) hO20 (by decide)) hb21) n22.below) n22.blk (by decide)
     refine xx 0 _ j 0 1 (IntsN.elem (own_sl hK'4) (by rw [keysE_len, hcl]) (k := 0) (by omega)).1 ?_
     refine xl 0 ((IntsN.elem (own_sl hK'4) (by rw [keysE_len, hcl]) (k := 0) (by omega)).2) ?_
     refine xs 1 k23 [.int .i64 ((keysE (chunkE l m i)).getD 0 0), .string ⟨(leB (↑(f + k0 + i) : Int) 4).toArray⟩, .int .i64 (↑(f + k0 + i) : Int)] fun W25 u25 k25 => ?_
     refine xlv 4 k25.rp ?_
     refine xbs 0 1 [.int .i64 ((keysE (chunkE l m i)).getD 0 0), .string ⟨(leB (↑(f + k0 + i) : Int) 4).toArray⟩, .int .i64 (↑(f + k0 + i) : Int)] 74 fun b26 W26 n26 => ?_
     have d26_b22 := n26.ne k25
     have hB'7 := u25.below (u23.below (Bl.nextB hB'6 hBw n22.below) (Nat.le_trans hBw g22)) (Nat.le_trans hBw g22)
     have g26 := n26.ge0 hB'7
     have hup'2 := u25.own3 (u23.own3 (own_below hup'1 n22.below) r22_hup) r22_hup
     have r26_hup := own_ne hup'2 n26
     have hup'3 := own_below hup'2 n26.below
     have hB'8 := Bl.nextB hB'7 hBw n26.below
     refine xbi 0 fun _ _ _ _ zJ zQ zo zx zy zK => op_app (m := 1) (news := [.int .i64 ((keysE (chunkE l m i)).getD 0 0), .string ⟨(leB (↑(f + k0 + i) : Int) 4).toArray⟩, .int .i64 (↑(f + k0 + i) : Int)]) (.agg #[.int .i64 0, .string ⟨#[]⟩, .int .i64 0]) 3 32 (i + 1) ((upE l m (f + k0) (i + 1)).flatMap entC) zo Tryz.underlying48 (by kernel_rfl) rfl (by decide) zx hup'3 zy (n26.blk.sl 1 1 (by decide) (by decide)) rfl (by simp [Value.oneCell']) (by unfold maxLen; omega) (by omega) hB'8.size (by rfl) (up_row (by first | exact hkey | exact hkey0)) fun px27 cx27 W27 o27 hg27 hb27 => ?_
     refine zK _ _ ?_
     refine xwm 5 ((↑i : Int) + 1) (↑(i + 1) : Int) ?_
     refine xv1 2 3 (show (.slice (cutA a2 (sizN l.length m i) c2 3) (l2.length - (sizN l.length m i)) (c2 - (sizN l.length m i)) : Value) = .slice (cutA a2 (sizN l.length m i) c2 3) ((l2.drop (sizN l.length m i)).length) (c2 - sizN l.length m i) from by rw [List.length_drop]) ?_
     have hA'3 := (((((hA.below hb21).below n22.below).only (Only.of_upd (T := [74]) u23 n22.blk (by decide)) (by decide)).only (Only.of_upd (T := [74]) u25 k23 (by decide)) (by decide)).below n26.below).only (Only.of_grown (T := [74]) hg27 hup'3 (by decide)) (by decide)
     have hl2s : l2.drop (sizN l.length m i) = l.drop ((i + 1) * m) := by
       rw [hl2, List.drop_drop, Nat.add_mul, Nat.one_mul]
       unfold sizN
       rcases Nat.le_total m (l.length - i * m) with q | q
       · rw [Nat.min_eq_left q]
       · rw [Nat.min_eq_right q, List.drop_eq_nil_of_le (by omega), List.drop_eq_nil_of_le (by omega)]
     have hB'9 := hB'8.trans (hb27.mono hBw)
     have hX := (Fr.grown_new ((Fr.upd_new (Fr.upd_new (((((hXhF5.trans (Fr.of_below hT18)).trans (Fr.of_below hb19)).trans (hX20.mono (by simp))).trans (Fr.of_below hb21)).trans (Fr.of_below n22.below)) u23 g22) u25 g22).trans (Fr.of_below n26.below)) hg27 hup'3)
     have hO'1 := (Only.grown_new ((Only.upd_new (Only.upd_new (((hO.trans hO20).trans (Only.of_below hb21)).trans (Only.of_below n22.below)) u23 g22) u25 g22).trans (Only.of_below n26.below)) hg27 hup'3)
     have hsz'2 := own_grown (own_below (u25.own2 (u23.own2 (own_below (own_below (own_only (own_below (own_below hsz hT18) hb19) hO20 (by decide)) hb21) n22.below) n22.blk (by decide)) k23 (by decide)) n26.below) hg27 hup'3 (by decide)
     exact ze 0 (hJ3 _ _ _ ⟨i + 1, _, _, (l2.drop (sizN l.length m i)), _, _, rfl, rfl, hB'9, hX, hO'1, hsz'2, o27, hA'3, fun W h1 h2 => Sts.cut entC_len (hen W h1 h2) _ hszn, by omega, hl2s⟩ (by omega))
   have hkey0 : (0 : Int) = ((chunkE l m i).getD 0 entD).1 := chunk_nokey hjs (by omega)
   refine xlv 4 k23.rp ?_
   refine xbs 0 1 [.int .i64 0, .string ⟨(leB (↑(f + k0 + i) : Int) 4).toArray⟩, .int .i64 (↑(f + k0 + i) : Int)] 74 fun b28 W28 n28 => ?_
   have d28_b22 := n28.ne k23
   have hB'10 := u23.below (Bl.nextB hB'6 hBw n22.below) (Nat.le_trans hBw g22)
   have g28 := n28.ge0 hB'10
   have hup'4 := u23.own3 (own_below hup'1 n22.below) r22_hup
   have r28_hup := own_ne hup'4 n28
   have hup'5 := own_below hup'4 n28.below
   have hB'11 := Bl.nextB hB'10 hBw n28.below
   refine xbi 0 fun _ _ _ _ zJ zQ zo zx zy zK => op_app (m := 1) (news := [.int .i64 0, .string ⟨(leB (↑(f + k0 + i) : Int) 4).toArray⟩, .int .i64 (↑(f + k0 + i) : Int)]) (.agg #[.int .i64 0, .string ⟨#[]⟩, .int .i64 0]) 3 32 (i + 1) ((upE l m (f + k0) (i + 1)).flatMap entC) zo Tryz.underlying48 (by kernel_rfl) rfl (by decide) zx hup'5 zy (n28.blk.sl 1 1 (by decide) (by decide)) rfl (by simp [Value.oneCell']) (by unfold maxLen; omega) (by omega) hB'11.size (by rfl) (up_row (by first | exact hkey | exact hkey0)) fun px29 cx29 W29 o29 hg29 hb29 => ?_
   refine zK _ _ ?_
   refine xwm 5 ((↑i : Int) + 1) (↑(i + 1) : Int) ?_
   refine xv1 2 3 (show (.slice (cutA a2 (sizN l.length m i) c2 3) (l2.length - (sizN l.length m i)) (c2 - (sizN l.length m i)) : Value) = .slice (cutA a2 (sizN l.length m i) c2 3) ((l2.drop (sizN l.length m i)).length) (c2 - sizN l.length m i) from by rw [List.length_drop]) ?_
   have hA'4 := ((((hA.below hb21).below n22.below).only (Only.of_upd (T := [74]) u23 n22.blk (by decide)) (by decide)).below n28.below).only (Only.of_grown (T := [74]) hg29 hup'5 (by decide)) (by decide)
   have hl2s : l2.drop (sizN l.length m i) = l.drop ((i + 1) * m) := by
     rw [hl2, List.drop_drop, Nat.add_mul, Nat.one_mul]
     unfold sizN
     rcases Nat.le_total m (l.length - i * m) with q | q
     · rw [Nat.min_eq_left q]
     · rw [Nat.min_eq_right q, List.drop_eq_nil_of_le (by omega), List.drop_eq_nil_of_le (by omega)]
   have hB'12 := hB'11.trans (hb29.mono hBw)
   have hX := (Fr.grown_new ((Fr.upd_new (((((hXhF5.trans (Fr.of_below hT18)).trans (Fr.of_below hb19)).trans (hX20.mono (by simp))).trans (Fr.of_below hb21)).trans (Fr.of_below n22.below)) u23 g22).trans (Fr.of_below n28.below)) hg29 hup'5)
   have hO'2 := (Only.grown_new ((Only.upd_new (((hO.trans hO20).trans (Only.of_below hb21)).trans (Only.of_below n22.below)) u23 g22).trans (Only.of_below n28.below)) hg29 hup'5)
   have hsz'3 := own_grown (own_below (u23.own2 (own_below (own_below (own_only (own_below (own_below hsz hT18) hb19) hO20 (by decide)) hb21) n22.below) n22.blk (by decide)) n28.below) hg29 hup'5 (by decide)
   exact ze 0 (hJ3 _ _ _ ⟨i + 1, _, _, (l2.drop (sizN l.length m i)), _, _, rfl, rfl, hB'12, hX, hO'2, hsz'3, o29, hA'4, fun W h1 h2 => Sts.cut entC_len (hen W h1 h2) _ hszn, by omega, hl2s⟩ (by omega))
 refine xe 13 (.tuple #[.slice p4 i c4, .nilIface]) ?_
 obtain rfl : i = ovN l.length m := by omega
 exact ⟨_, _, rfl, hB_3, hO_3, hX_3, hA, hup⟩
end Go.Proofs.YtbhjgcokpmiopaaGreat
namespace Go.Proofs.YtbhjgcokpmiopaaGreat
open Go.RowKit Go.Extern.Stop Go.Stop Go.Extern
set_option linter.unusedVariables false
attribute [local irreducible] wpList wpAnyH Code.wp Oper.wp Go

theorem only_a3 {w w' : World} (h : Only [64, 5] w w') : Only [64, 5, 26] w w' := h.mono fun t ht => by simp at ht ⊢; exact ⟨ht.1, ht.2.1⟩
def Tree1Post (B ba b g nn cc : Nat) (pa : Option Addr) (ca f N k0 : Nat) (bs : List UInt8) (t : Int) (leaf : Bool) (m v : Nat) (l : List Ent) (b8 : Nat) (w : World) (e : Ending) (w' : World) : Prop :=
  ∃ p c, e = .returned (.slice p (ovN l.length m) c) ∧ Below B w w' ∧ Only [64, 5, 26] w w' ∧ Fr [ba, g, b8] w w' ∧ Blk w' b8 [.nilIface] 26 ∧ Al B ba b g nn cc pa ca f N (k0 + ovN l.length m) (levB t leaf m v l (f + k0) bs (ovN l.length m)) w' ∧ w'.ownsRow w.heap.size 74 3 (.slice p (ovN l.length m) c) (ovN l.length m) ((upE l m (f + k0) (ovN l.length m)).flatMap entC)
set_option maxRecDepth 100000 in
set_option maxHeartbeats 4000000 in
theorem build_Tree1 (B ba b g nn cc : Nat) (pa : Option Addr) (ca f N k0 : Nat) (bs : List UInt8) (t : Int) (leaf : Bool) (m v : Nat) (a : Option Addr) (c : Nat) (l : List Ent) (b3 b4 b8 : Nat) (w : World) (k3 : Blk w b3 [.pointer (some ⟨ba, 0, none⟩)] 22) (k4 : Blk w b4 [.int .i64 t] 3) (k8 : Blk w b8 [.nilIface] 26) (h38 : b3 ≠ b8) (h48 : b4 ≠ b8) (hB8 : B ≤ b8) (hC : AlC B ba nn cc ca f N) (hA : Al B ba b g nn cc pa ca f N k0 bs w) (ht1 : 1 ≤ t) (ht2 : t ≤ 5) (hm : maxN t leaf = m) (hv : widN t leaf = v) (E : EntsOk v l) (hl : leaf = false → 1 ≤ l.length) (hn : l.length ≤ 32768) (hf1 : 1 ≤ f) (hk : k0 + ovN l.length m ≤ N) (hin : ∀ W, Below B w W → Only [64, 5, 26] w W → Sts entC W (.slice a l.length c) l) (hBw : B ≤ w.heap.size) :
    Calls Tryz.prog 37 #[.bool leaf, .slice a l.length c, .pointer (some ⟨b3, 0, none⟩), .pointer (some ⟨b4, 0, none⟩), .pointer (some ⟨b8, 0, none⟩)] w (Tree1Post B ba b g nn cc pa ca f N k0 bs t leaf m v l b8 w) := by
 refine zin 20 Tryz.func37 ?_
 refine xb 7 0 k3 ?_
 refine xb 0 0 k4 ?_
 refine xc 2 (args := #[.pointer (some ⟨ba, 0, none⟩), .int .i64 t, .bool leaf, .slice a l.length c]) (build_level B ba b g nn cc pa ca f N k0 bs t leaf m v a c l _ hC hA ht1 ht2 hm hv E hl hn hf1 hk (fun W h1 h2 => hin W ((Below.refl B _).trans h1) ((Only.refl _ _).trans (only_a3 h2))) (Nat.le_trans hBw (Below.refl B _).size)) ?_
 rintro _ W1 ⟨p4, c4, rfl, hb1, hO1, hX1, hA, hup⟩
 have hs1 := Nat.le_refl w.heap.size
 have k8'1 := k8.only hO1 (by decide)
 refine xs 10 k8'1 [.nilIface] fun W2 u2 k2 => ?_
 have hB := u2.below hb1 hB8
 have hO := (show Only [64, 5, 26] w _ from (only_a3 hO1)).trans (Only.of_upd u2 k8'1 (by decide))
 have hX := (show Fr [ba, g, b8] w _ from (hX1.mono (by simp))).trans (Fr.of_upd u2 (by simp))
 have hA'1 := hA.only (Only.of_upd (T := [26]) u2 k8'1 (by decide)) (by decide)
 have hup'1 := u2.own2 (own_mono hup hs1) k8'1 (by decide)
 exact xe 9 (.slice p4 (ovN l.length m) c4) ⟨_, _, rfl, hB, hO, hX, k2, hA'1, hup'1⟩
def TreePost (B ba b g nn cc : Nat) (pa : Option Addr) (ca f N k0 : Nat) (bs : List UInt8) (t : Int) (l : List Ent) (w : World) (e : Ending) (w' : World) : Prop :=
  e = .returned (.tuple #[.int .i64 (treeB t l (f + k0) bs).1, .nilIface]) ∧ Below B w w' ∧ Only [64, 5, 26] w w' ∧ Fr [ba, g] w w' ∧ Al B ba b g nn cc pa ca f N (k0 + nodN t l.length) (treeB t l (f + k0) bs).2 w'
set_option maxRecDepth 100000 in
set_option maxHeartbeats 8000000 in
theorem build_Tree (B ba b g nn cc : Nat) (pa : Option Addr) (ca f N k0 : Nat) (bs : List UInt8) (t : Int) (a : Option Addr) (c : Nat) (l : List Ent) (w : World) (hC : AlC B ba nn cc ca f N) (hA : Al B ba b g nn cc pa ca f N k0 bs w) (ht1 : 1 ≤ t) (ht2 : t ≤ 5) (E : EntsOk (widN t true) l) (hn : l.length ≤ 32768) (hf1 : 1 ≤ f) (hkN : k0 ≤ N) (hk : k0 + nodN t l.length ≤ N) (hin : ∀ W, Below B w W → Only [64, 5, 26] w W → Sts entC W (.slice a l.length c) l) (hBw : B ≤ w.heap.size) :
    Calls Tryz.prog 20 #[.pointer (some ⟨ba, 0, none⟩), .int .i64 t, .slice a l.length c] w (TreePost B ba b g nn cc pa ca f N k0 bs t l w) := by
 have hnp := nodN_pos t l.length
 have hog : (ovN l.length (maxN t true)) ≤ nodN t l.length := levs_ge _
 have hov := ovN_le l.length (maxN t true) (maxN_pos t true).1
 have hop := ovN_pos l.length (maxN t true)
 have hcf := hC.hf
 have hcn := hC.hn
 refine zin 52 Tryz.func20 ?_
 refine xa 2 [.pointer (some ⟨ba, 0, none⟩)] 22 fun b1 W1 n1 => ?_
 refine xa 0 [.int .i64 t] 3 fun b2 W2 n2 => ?_
 have k1 := n1.blk.below n2.below
 refine xb 8 0 k1 ?_
 have hA'1 := (hA.below n1.below).below n2.below
 refine xr 0 (args := #[.pointer (some ⟨ba, 0, none⟩)]) (alloc_Image ba b _ _ _ hA'1.blkA) fun W3 hb3 => ?_
 have k2 := n2.blk.below hb3
 refine xb 7 0 k2 ?_
 have hB := Bl.nextB (Bl.nextB (Bl.nextB (Below.refl B w) hBw n1.below) hBw n2.below) hBw hb3
 have hO := ((show Only [64, 5, 26] w _ from (Only.of_below n1.below)).trans (Only.of_below n2.below)).trans (Only.of_below hb3)
 refine xr 1 (args := #[.int .i64 t, .slice a l.length c]) (build_right t (widN t true) a c l _ ht1 ht2 rfl E (hin _ hB hO) hn) fun W4 hb4 => ?_
 refine xd 6 .z ?_
 have k1'1 := ((k1.below hb3).below hb4).below (below_drew W4)
 refine xb (.e [] 0) 0 k1'1 ?_
 have k2'1 := (k2.below hb4).below (below_drew W4)
 refine xb (.e [] 2) 0 k2'1 ?_
 have hA'2 := ((hA'1.below hb3).below hb4).below (below_drew W4)
 refine xr (.o [3, 4] 1) (args := #[.pointer (some ⟨ba, 0, none⟩)]) (alloc_Left ba b pa N ca k0 _ hA'2.blkA hkN) fun W5 hb5 => ?_
 refine xr (.o [] 5) (args := #[.int .i64 t, .int .i64 (↑l.length : Int)]) (tall_Nodes t l.length _ ht1 ht2 hn) fun W6 hb6 => ?_
 refine xk (.r [6, 7] 2) (show (decide ((↑(N - k0) : Int) < (↑(nodN t l.length) : Int)) : Bool) = false from decide_eq_false (by omega)) ?_
 refine xa 5 [.nilIface] 26 fun b7 W7 n7 => ?_
 have hB'1 := Bl.nextB (Bl.nextB (Bl.nextB (Bl.nextB hB hBw hb4) hBw (below_drew W4)) hBw hb5) hBw hb6
 have g7 := n7.ge0 hB'1
 have k1'2 := ((k1'1.below hb5).below hb6).below n7.below
 have k2'2 := ((k2'1.below hb5).below hb6).below n7.below
 have hA'3 := ((hA'2.below hb5).below hb6).below n7.below
 have hB'2 := Bl.nextB hB'1 hBw n7.below
 have hO'1 := ((((hO.trans (Only.of_below hb4)).trans (Only.of_below (below_drew W4))).trans (Only.of_below hb5)).trans (Only.of_below hb6)).trans (Only.of_below n7.below)
 refine xc 12 (args := #[.bool true, .slice a l.length c, .pointer (some ⟨b1, 0, none⟩), .pointer (some ⟨b2, 0, none⟩), .pointer (some ⟨b7, 0, none⟩)]) (build_Tree1 B ba b g nn cc pa ca f N k0 bs t true (maxN t true) (widN t true) a c l b1 b2 b7 _ k1'2 k2'2 n7.blk (Blk.tne k1'2 n7.blk (by decide)) (Blk.tne k2'2 n7.blk (by decide)) (Nat.le_trans hBw g7) hC hA'3 ht1 ht2 rfl rfl E (by simp) hn hf1 (by omega) (fun W h1 h2 => hin W (hB'2.trans h1) (hO'1.trans h2)) (Nat.le_trans hBw hB'2.size)) ?_
 rintro _ W8 ⟨p41, c41, rfl, hb8, hO8, hX8, k8n, hA, hup⟩
 have hs8 := (Bl.nextB hB'1 hBw n7.below).size
 refine xv1 5 10 (show (.slice p41 (ovN l.length (maxN t true)) c41 : Value) = .slice p41 ((upE l (maxN t true) (f + k0) (ovN l.length (maxN t true))).length) c41 from by rw [upE_len]) ?_
 have hup'1 := own_mono hup hs8
 have hB'3 := hB'2.trans hb8
 have hX := (Fr.trans_new ((((((((show Fr [ba, g] w _ from (Fr.of_below n1.below)).trans (Fr.of_below n2.below)).trans (Fr.of_below hb3)).trans (Fr.of_below hb4)).trans (Fr.of_below (below_drew W4))).trans (Fr.of_below hb5)).trans (Fr.of_below hb6)).trans (Fr.of_below n7.below)) hX8 g7)
 have hO'2 := hO'1.trans hO8
 have k1'3 := k1'2.only hO8 (by decide)
 have k2'3 := k2'2.only hO8 (by decide)
 refine zl 0 52 (fun zm zkv V => ∃ (u : List Ent) (K : Nat) (bs2 : List UInt8) (p : Option Addr) (c2 : Nat), zkv = [(6, .int .i64 0), (7, .nilIface), (8, .pointer (some ⟨b7, 0, none⟩)), (9, .func (.func 37) #[] #[.pointer (some ⟨b1, 0, none⟩), .pointer (some ⟨b2, 0, none⟩), .pointer (some ⟨b7, 0, none⟩)]), (10, .slice p u.length c2)] ∧ zm = u.length ∧ Below B w V ∧ Fr [ba, g] w V ∧ Only [64, 5, 26] w V ∧ Blk V b1 ([.pointer (some ⟨ba, 0, none⟩)]) 22 ∧ Blk V b2 ([.int .i64 t]) 3 ∧ Blk V b7 ([.nilIface]) 26 ∧ V.ownsRow w.heap.size 74 3 (.slice p u.length c2) u.length (u.flatMap entC) ∧ Al B ba b g nn cc pa ca f N K bs2 V ∧ K + (levs u.length).sum = k0 + nodN t l.length + u.length ∧ 1 ≤ u.length ∧ u.length ≤ 32768 ∧ EntsOk 4 u ∧ treeUp t u (f + K) bs2 = treeB t l (f + k0) bs) ⟨(upE l (maxN t true) (f + k0) (ovN l.length (maxN t true))), (k0 + (ovN l.length (maxN t true))), (levB t true (maxN t true) (widN t true) l (f + k0) bs (ovN l.length (maxN t true))), p41, c41, rfl, rfl, hB'3, hX, hO'2, k1'3, k2'3, k8n, (by rw [upE_len]; exact hup'1), hA, (by rw [upE_len]; unfold nodN levL; omega), (by rw [upE_len]; exact hop), (by rw [upE_len]; omega), up_ok E (maxN_pos t true).1, (by rw [← Nat.add_assoc]; rfl)⟩ ?_
 rintro _ _ W9 ⟨u, K, bs2, p, c2, rfl, rfl, hB_9, hX_9, hO_9, k9_b1, k9_b2, k9_b7, hup, hA, hK, hu1, hun, hE, htr⟩ J9 hJ9 r9
 have hlm : ¬ u.length ≤ 1 → (levs u.length).sum = u.length + (levs (ovN u.length 18)).sum := fun h => by rw [levs_more h]; rfl
 have hlg := levs_ge (ovN u.length 18)
 have h18 : 2 ≤ u.length → ovN u.length 18 ≤ u.length / 2 := ov18
 have h18p := ovN_pos u.length 18
 refine xb 3 0 k9_b7 ?_
 refine xid 8 ((↑u.length : Int) > (1 : Int)) (fun hc10 => ?_) (fun hc10 => ?_)
 · refine xc 6 (args := #[.bool false, .slice p u.length c2, .pointer (some ⟨b1, 0, none⟩), .pointer (some ⟨b2, 0, none⟩), .pointer (some ⟨b7, 0, none⟩)]) (build_Tree1 B ba b g nn cc pa ca f N K bs2 t false 18 4 p c2 u b1 b2 b7 _ k9_b1 k9_b2 k9_b7 (Blk.tne k9_b1 k9_b7 (by decide)) (Blk.tne k9_b2 k9_b7 (by decide)) (Nat.le_trans hBw g7) hC hA ht1 ht2 rfl rfl hE (fun _ => hu1) (by omega) hf1 (by omega) (fun W _ h2 => own_sl (own_only hup h2 (by decide))) (Nat.le_trans hBw hB_9.size)) ?_
   rintro _ W11 ⟨p42, c42, rfl, hb11, hO11, hX11, k8n, hA, hup⟩
   refine xv1 3 10 (show (.slice p42 (ovN u.length 18) c42 : Value) = .slice p42 ((upE u 18 (f + K) (ovN u.length 18)).length) c42 from by rw [upE_len]) ?_
   have hup'2 := own_mono hup hB_9.size
   have hB'4 := hB_9.trans hb11
   have hX'1 := (Fr.trans_new hX_9 hX11 g7)
   have hO'3 := hO_9.trans hO11
   have k9_b1'1 := k9_b1.only hO11 (by decide)
   have k9_b2'1 := k9_b2.only hO11 (by decide)
   refine ze 0 (hJ9 _ _ _ ⟨(upE u 18 (f + K) (ovN u.length 18)), (K + ovN u.length 18), _, _, _, rfl, rfl, hB'4, hX'1, hO'3, k9_b1'1, k9_b2'1, k8n, (by rw [upE_len]; exact hup'2), hA, (by rw [upE_len]; omega), (by rw [upE_len]; exact h18p), (by rw [upE_len]; omega), up_ok hE (by decide), (by rw [← htr, ← Nat.add_assoc]; exact (treeUp_more (by omega)).symm)⟩ ?_)
   show ((upE u 18 (f + K) (ovN u.length 18)).length) < u.length
   rw [upE_len]; omega
 refine xb 8 0 k9_b7 ?_
 refine xx 9 _ u.length 0 3 (Sts.cell (own_sl hup) entC_len entD (k := 0) (i := 0) (by omega) rfl).1 ?_
 refine xl 1 ((Sts.cell (own_sl hup) entC_len entD (k := 0) (i := 2) (by omega) rfl).2) ?_
 refine xe 5 (.tuple #[.int .i64 ((u.getD 0 entD).2.2), .nilIface]) ?_
 have h1 : u.length ≤ 1 := by omega
 rw [treeUp_one h1] at htr
 rw [levs_one h1] at hK
 simp only [List.sum_cons, List.sum_nil] at hK
 obtain rfl : K = k0 + nodN t l.length := by omega
 refine ⟨by rw [← htr], hB_9, hO_9, hX_9, by rw [← htr]; exact hA⟩
set_option maxRecDepth 100000 in
set_option maxHeartbeats 8000000 in
theorem build_Tree_none (B ba b g nn cc : Nat) (pa : Option Addr) (ca f N k0 : Nat) (bs : List UInt8) (t : Int) (a : Option Addr) (c : Nat) (l : List Ent) (w : World) (hA : Al B ba b g nn cc pa ca f N k0 bs w) (ht1 : 1 ≤ t) (ht2 : t ≤ 5) (E : EntsOk (widN t true) l) (hn : l.length ≤ 32768) (hkN : k0 ≤ N) (hk : N < k0 + nodN t l.length) (h : Sts entC w (.slice a l.length c) l) :
    Calls Tryz.prog 20 #[.pointer (some ⟨ba, 0, none⟩), .int .i64 t, .slice a l.length c] w (Ret (.tuple #[.int .i64 0, .iface 46 (.int .i64 14)]) w) := by
 refine zin 52 Tryz.func20 ?_
 refine xa 2 [.pointer (some ⟨ba, 0, none⟩)] 22 fun b1 W1 n1 => ?_
 refine xa 0 [.int .i64 t] 3 fun b2 W2 n2 => ?_
 have k1 := n1.blk.below n2.below
 refine xb 8 0 k1 ?_
 have hA'1 := (hA.below n1.below).below n2.below
 refine xr 0 (args := #[.pointer (some ⟨ba, 0, none⟩)]) (alloc_Image ba b _ _ _ hA'1.blkA) fun W3 hb3 => ?_
 have k2 := n2.blk.below hb3
 refine xb 7 0 k2 ?_
 have hB := Bl.next (Bl.next n1.below n2.below) hb3
 refine xr 1 (args := #[.int .i64 t, .slice a l.length c]) (build_right t (widN t true) a c l _ ht1 ht2 rfl E (h.below hB) hn) fun W4 hb4 => ?_
 refine xd 6 .z ?_
 have k1'1 := ((k1.below hb3).below hb4).below (below_drew W4)
 refine xb (.e [] 0) 0 k1'1 ?_
 have k2'1 := (k2.below hb4).below (below_drew W4)
 refine xb (.e [] 2) 0 k2'1 ?_
 have hA'2 := ((hA'1.below hb3).below hb4).below (below_drew W4)
 refine xr (.o [3, 4] 1) (args := #[.pointer (some ⟨ba, 0, none⟩)]) (alloc_Left ba b pa N ca k0 _ hA'2.blkA hkN) fun W5 hb5 => ?_
 refine xr (.o [] 5) (args := #[.int .i64 t, .int .i64 (↑l.length : Int)]) (tall_Nodes t l.length _ ht1 ht2 hn) fun W6 hb6 => ?_
 refine xk (.r [6, 7] 2) (show (decide ((↑(N - k0) : Int) < (↑(nodN t l.length) : Int)) : Bool) = true from decide_eq_true (by omega)) ?_
 have hB'1 := Bl.next (Bl.next (Bl.next (Bl.next hB hb4) (below_drew W4)) hb5) hb6
 exact xe 10 (.tuple #[.int .i64 0, .iface 46 (.int .i64 14)]) ⟨rfl, hB'1⟩
end Go.Proofs.YtbhjgcokpmiopaaGreat
namespace Go.Proofs.YtbhjgcokpmiopaaGreat
open Go.RowKit Go.Extern.Stop Go.Stop Go.Extern
set_option linter.unusedVariables false
attribute [local irreducible] wpList wpAnyH Code.wp Oper.wp Go

def entE (v : Nat) (l : List Ent) (i : Nat) : Prop := lastK l i < (l.getD i entD).1 ∧ (l.getD i entD).1 ≤ 281474976710655 ∧ (l.getD i entD).2.1.length = v
instance (v : Nat) (l : List Ent) (i : Nat) : Decidable (entE v l i) := by unfold entE; infer_instance
/-- may entries be a tree's? -/
def entsB (v : Nat) (l : List Ent) : Bool := (List.range l.length).all fun i => decide (entE v l i)
theorem entsB_true {v : Nat} {l : List Ent} (h : ∀ i, i < l.length → entE v l i) : entsB v l = true := by
  unfold entsB; rw [List.all_eq_true]
  intro i hi
  exact decide_eq_true (h i (List.mem_range.1 hi))
theorem entsB_get {v : Nat} {l : List Ent} (h : entsB v l = true) {i : Nat} (hi : i < l.length) : entE v l i := by
  unfold entsB at h; rw [List.all_eq_true] at h
  exact of_decide_eq_true (h i (List.mem_range.2 hi))
theorem entsB_false {v : Nat} {l : List Ent} {i : Nat} (hi : i < l.length) (h : ¬ entE v l i) : entsB v l = false := by
  cases hr : entsB v l with
  | false => rfl
  | true => exact absurd (entsB_get hr hi) h
theorem lastK_pos {l : List Ent} {i : Nat} (h : 0 < i) : lastK l i = (l.getD (i - 1) entD).1 := by
  cases i with
  | zero => omega
  | succ i => rfl
theorem lastK_zero {l : List Ent} {i : Nat} (h : i = 0) : lastK l i = -1 := by subst h; rfl
theorem lastK_ge {v : Nat} {l : List Ent} : ∀ {i : Nat}, (∀ j, j < i → entE v l j) → -1 ≤ lastK l i
  | 0, _ => by simp [lastK]
  | i + 1, h => by
    have h1 := lastK_ge (i := i) fun j hj => h j (by omega)
    have h2 := (h i (by omega)).1
    simp only [lastK]; omega
theorem entsB_ok {v : Nat} {l : List Ent} (h : entsB v l = true) : EntsOk v l where
  hk i hi := by
    have h1 := entsB_get h hi
    have h2 := lastK_ge (v := v) (l := l) (i := i) fun j hj => entsB_get h (by omega)
    exact ⟨by have := h1.1; omega, h1.2.1⟩
  hs j hj := (entsB_get h hj).1
  hw i hi := (entsB_get h hi).2.2
/-- the number of a tree's error, with so many blocks left -/
def treeE (t : Int) (l : List Ent) (left : Nat) : Int := if 1 ≤ t ∧ t ≤ 5 ∧ entsB (widN t true) l = true then (if left < nodN t l.length then 14 else 0) else 1
theorem treeE_ok {t : Int} {l : List Ent} {left : Nat} (h : treeE t l left = 0) : 1 ≤ t ∧ t ≤ 5 ∧ EntsOk (widN t true) l ∧ nodN t l.length ≤ left := by
  unfold treeE at h
  split at h
  · rename_i h1
    split at h
    · cases h
    · exact ⟨h1.1, h1.2.1, entsB_ok h1.2.2, by omega⟩
  · cases h
set_option maxRecDepth 100000 in
set_option maxHeartbeats 1000000 in
theorem node_Width_o (t : Int) (leaf : Bool) (w : World) (h : ¬ (1 ≤ t ∧ t ≤ 5)) :
    Calls Tryz.prog 59 #[.int .i64 t, .bool leaf] w (Ret (.int .i64 0) w) := by
 refine zin 31 Tryz.func59 ?_
 refine xg 17 [8, 9] (decide (t < (1 : Int))) (fun hc1 => ?_) (fun hc1 => ?_)
 · have hc1 := of_decide_eq_true hc1
   exact xe 15 (.int .i64 0) ⟨rfl, (Below.refl w.heap.size _)⟩
 have hc1 := of_decide_eq_false hc1
 refine xk 6 (show (decide (t > (5 : Int)) : Bool) = true from decide_eq_true (by omega)) ?_
 exact xe 8 (.int .i64 0) ⟨rfl, (Below.refl w.heap.size _)⟩
set_option maxRecDepth 100000 in
set_option maxHeartbeats 1000000 in
theorem build_right_o (t : Int) (x : Value) (w : World) (h : ¬ (1 ≤ t ∧ t ≤ 5)) :
    Calls Tryz.prog 36 #[.int .i64 t, x] w (Ret (.bool false) w) := by
 refine zin 45 Tryz.func36 ?_
 refine xr 8 (args := #[.int .i64 t, .bool true]) (node_Width_o t true _ h) fun W1 hb1 => ?_
 exact xe 25 (.bool false) ⟨rfl, hb1⟩
set_option maxRecDepth 100000 in
set_option maxHeartbeats 4000000 in
theorem build_rightG (t : Int) (v : Nat) (a : Option Addr) (c : Nat) (l : List Ent) (w : World) (ht1 : 1 ≤ t) (ht2 : t ≤ 5) (hv : widN t true = v) (h : Sts entC w (.slice a l.length c) l) (hn : l.length ≤ 32768) :
    Calls Tryz.prog 36 #[.int .i64 t, .slice a l.length c] w (Ret (.bool (entsB v l)) w) := by
 have hwb := widN_bd t true
 rw [hv] at hwb
 have hnp := nodN_pos t l.length
 refine zin 45 Tryz.func36 ?_
 refine xr 8 (args := #[.int .i64 t, .bool true]) (node_WidthN t true v hv ht1 ht2 _) fun W1 hb1 => ?_
 refine xgk 9 [12, 13] (show (((↑v : Int) == (0 : Int)) : Bool) = false from by simp; omega) ?_
 refine xr 3 (args := #[.int .i64 t, .int .i64 (↑l.length : Int)]) (tall_Nodes t l.length _ ht1 ht2 hn) fun W3 hb3 => ?_
 refine xk 4 (show (((↑(nodN t l.length) : Int) == (0 : Int)) : Bool) = false from by simp; omega) ?_
 have hB := Bl.next hb1 hb3
 refine zl 16 45 (fun zm zkv V => ∃ (i : Nat), zkv = [(5, .int .i64 (↑v : Int)), (6, .int .i64 (lastK l i)), (20, .slice a l.length c), (21, .int .i64 (↑l.length : Int)), (22, .int .i64 (↑i : Int))] ∧ zm = l.length - ((↑i : Int)).toNat ∧ Below w.heap.size w V ∧ i ≤ l.length ∧ (∀ j, j < i → entE v l j)) ⟨0, rfl, rfl, hB, Nat.zero_le _, ?_⟩ ?_
 · exact fun j hj => absurd hj (by omega)
 rintro _ _ W4 ⟨i, rfl, rfl, hB_4, hi, hz⟩ J4 hJ4 r4
 refine xid 6 ((↑i : Int) < (↑l.length : Int)) (fun hc5 => ?_) (fun hc5 => ?_)
 · refine xx 6 _ l.length i 3 (Sts.cell h entC_len entD (k := i) (i := 0) (by omega) rfl).1 ?_
   refine xlv 0 (Sts.rp (k := i) (h.below hB_4) entC_len entD (by omega) (by decide)) ?_
   refine xa 0 [.int .i64 0, .string ⟨#[]⟩, .int .i64 0] 74 fun b6 W6 n6 => ?_
   refine xsv 0 n6.blk [.int .i64 ((l.getD i entD).1), .string ⟨((l.getD i entD).2.1).toArray⟩, .int .i64 ((l.getD i entD).2.2)] fun W7 u7 k7 => ?_
   have g6 := n6.ge hB_4
   refine xb 6 0 k7 ?_
   refine xg 3 [29, 30] (decide ((l.getD i entD).1 ≤ (lastK l i))) (fun hc8 => ?_) (fun hc8 => ?_)
   · have hc8 := of_decide_eq_true hc8
     have hB'1 := u7.below (Bl.next hB_4 n6.below) g6
     exact xe 26 (.bool false) ⟨by rw [entsB_false (i := i) (by omega) (fun hz9 => by unfold entE at hz9; omega)], hB'1⟩
   have hc8 := of_decide_eq_false hc8
   refine xb 1 0 k7 ?_
   refine xg 3 [33, 34, 35] (decide ((l.getD i entD).1 > (281474976710655 : Int))) (fun hc9 => ?_) (fun hc9 => ?_)
   · have hc9 := of_decide_eq_true hc9
     have hB'2 := u7.below (Bl.next hB_4 n6.below) g6
     exact xe 21 (.bool false) ⟨by rw [entsB_false (i := i) (by omega) (fun hz9 => by unfold entE at hz9; omega)], hB'2⟩
   have hc9 := of_decide_eq_false hc9
   refine xb 1 1 k7 ?_
   refine xin 6 (↑((l.getD i entD).2.1).length : Int) (↑v : Int) (fun hc10 => ?_) (fun hc10 => ?_)
   · have hB'3 := u7.below (Bl.next hB_4 n6.below) g6
     exact xe 12 (.bool false) ⟨by rw [entsB_false (i := i) (by omega) (fun hz9 => by unfold entE at hz9; omega)], hB'3⟩
   refine xb 4 0 k7 ?_
   refine xw 5 ((↑i : Int) + 1) ?_
   have hB'4 := u7.below (Bl.next hB_4 n6.below) g6
   exact ze 2 (hJ4 _ _ _ ⟨i + 1, rfl, rfl, hB'4, by omega, fun j hj => (Nat.lt_or_ge j i).elim (hz j) (fun q => by obtain rfl : j = i := (by omega); unfold entE; omega)⟩ (by omega))
 exact xe 11 (.bool true) ⟨by rw [entsB_true (fun j hj => hz j (by omega))], hB_4⟩
set_option maxRecDepth 100000 in
set_option maxHeartbeats 1000000 in
theorem build_Tree_o (B ba b g nn cc : Nat) (pa : Option Addr) (ca f N k0 : Nat) (bs : List UInt8) (t : Int) (a : Option Addr) (c : Nat) (l : List Ent) (w : World) (hA : Al B ba b g nn cc pa ca f N k0 bs w) (ht : ¬ (1 ≤ t ∧ t ≤ 5)) :
    Calls Tryz.prog 20 #[.pointer (some ⟨ba, 0, none⟩), .int .i64 t, .slice a l.length c] w (Ret (.tuple #[.int .i64 0, .iface 46 (.int .i64 1)]) w) := by
 refine zin 52 Tryz.func20 ?_
 refine xa 2 [.pointer (some ⟨ba, 0, none⟩)] 22 fun b1 W1 n1 => ?_
 refine xa 0 [.int .i64 t] 3 fun b2 W2 n2 => ?_
 have k1 := n1.blk.below n2.below
 refine xb 8 0 k1 ?_
 have hA'1 := (hA.below n1.below).below n2.below
 refine xr 0 (args := #[.pointer (some ⟨ba, 0, none⟩)]) (alloc_Image ba b _ _ _ hA'1.blkA) fun W3 hb3 => ?_
 have k2 := n2.blk.below hb3
 refine xb 7 0 k2 ?_
 refine xr 1 (args := #[.int .i64 t, .slice a l.length c]) (build_right_o t _ _ ht) fun W4 hb4 => ?_
 have hB := Bl.next (Bl.next (Bl.next n1.below n2.below) hb3) hb4
 exact xe 15 (.tuple #[.int .i64 0, .iface 46 (.int .i64 1)]) ⟨rfl, hB⟩
set_option maxRecDepth 100000 in
set_option maxHeartbeats 1000000 in
theorem build_Tree_w (B ba b g nn cc : Nat) (pa : Option Addr) (ca f N k0 : Nat) (bs : List UInt8) (t : Int) (a : Option Addr) (c : Nat) (l : List Ent) (w : World) (hA : Al B ba b g nn cc pa ca f N k0 bs w) (ht1 : 1 ≤ t) (ht2 : t ≤ 5) (hr : entsB (widN t true) l = false) (hn : l.length ≤ 32768) (h : Sts entC w (.slice a l.length c) l) :
    Calls Tryz.prog 20 #[.pointer (some ⟨ba, 0, none⟩), .int .i64 t, .slice a l.length c] w (Ret (.tuple #[.int .i64 0, .iface 46 (.int .i64 1)]) w) := by
 refine zin 52 Tryz.func20 ?_
 refine xa 2 [.pointer (some ⟨ba, 0, none⟩)] 22 fun b1 W1 n1 => ?_
 refine xa 0 [.int .i64 t] 3 fun b2 W2 n2 => ?_
 have k1 := n1.blk.below n2.below
 refine xb 8 0 k1 ?_
 have hA'1 := (hA.below n1.below).below n2.below
 refine xr 0 (args := #[.pointer (some ⟨ba, 0, none⟩)]) (alloc_Image ba b _ _ _ hA'1.blkA) fun W3 hb3 => ?_
 have k2 := n2.blk.below hb3
 refine xb 7 0 k2 ?_
 have hB := Bl.next (Bl.next n1.below n2.below) hb3
 refine xr 1 (args := #[.int .i64 t, .slice a l.length c]) (build_rightG t (widN t true) a c l _ ht1 ht2 rfl (h.below hB) hn) fun W4 hb4 => ?_
 refine xk 4 (show (!(entsB (widN t true) l) : Bool) = true from by rw [hr]; rfl) ?_
 have hB'1 := Bl.next hB hb4
 exact xe 10 (.tuple #[.int .i64 0, .iface 46 (.int .i64 1)]) ⟨rfl, hB'1⟩
set_option maxRecDepth 100000 in
set_option maxHeartbeats 1000000 in
theorem alloc_nobody_nil (w : World) :
    Calls Tryz.prog 25 #[.pointer none] w (Ret (.bool true) w) := by
 refine zin 12 Tryz.func25 ?_
 exact xe 20 (.bool true) ⟨rfl, (Below.refl w.heap.size _)⟩
set_option maxRecDepth 100000 in
set_option maxHeartbeats 1000000 in
theorem alloc_Image_nil (w : World) :
    Calls Tryz.prog 9 #[.pointer none] w (Ret (.pointer none) w) := by
 refine zin 9 Tryz.func9 ?_
 refine xr 9 (args := #[.pointer none]) (alloc_nobody_nil _) fun W1 hb1 => ?_
 exact xe 10 (.pointer none) ⟨rfl, hb1⟩
set_option maxRecDepth 100000 in
set_option maxHeartbeats 1000000 in
theorem build_Tree_nil (t : Int) (x : Value) (w : World) :
    Calls Tryz.prog 20 #[.pointer none, .int .i64 t, x] w (Ret (.tuple #[.int .i64 0, .iface 46 (.int .i64 18)]) w) := by
 refine zin 52 Tryz.func20 ?_
 refine xa 2 [.pointer none] 22 fun b1 W1 n1 => ?_
 refine xa 0 [.int .i64 t] 3 fun b2 W2 n2 => ?_
 have k1 := n1.blk.below n2.below
 refine xb 8 0 k1 ?_
 refine xr 0 (args := #[.pointer none]) (alloc_Image_nil _) fun W3 hb3 => ?_
 have hB := Bl.next (Bl.next n1.below n2.below) hb3
 exact xe 15 (.tuple #[.int .i64 0, .iface 46 (.int .i64 18)]) ⟨rfl, hB⟩
/-- build.Tree, whatever the entries and the room -/
def TreeG (B ba b g nn cc : Nat) (pa : Option Addr) (ca f N k0 : Nat) (bs : List UInt8) (t : Int) (l : List Ent) (w : World) (e : Ending) (w' : World) : Prop :=
  (treeE t l (N - k0) ≠ 0 ∧ e = .returned (.tuple #[.int .i64 0, .iface 46 (.int .i64 (treeE t l (N - k0)))]) ∧ Below w.heap.size w w') ∨
  (treeE t l (N - k0) = 0 ∧ TreePost B ba b g nn cc pa ca f N k0 bs t l w e w')
theorem build_TreeG (B ba b g nn cc : Nat) (pa : Option Addr) (ca f N k0 : Nat) (bs : List UInt8) (t : Int) (a : Option Addr) (c : Nat) (l : List Ent) (w : World) (hC : AlC B ba nn cc ca f N) (hA : Al B ba b g nn cc pa ca f N k0 bs w) (hn : l.length ≤ 32768) (hf1 : 1 ≤ f) (hkN : k0 ≤ N) (hin : ∀ W, Below B w W → Only [64, 5, 26] w W → Sts entC W (.slice a l.length c) l) (hBw : B ≤ w.heap.size) :
    Calls Tryz.prog 20 #[.pointer (some ⟨ba, 0, none⟩), .int .i64 t, .slice a l.length c] w (TreeG B ba b g nn cc pa ca f N k0 bs t l w) := by
  have h := hin w (Below.refl _ _) (Only.refl _ _)
  by_cases ht : 1 ≤ t ∧ t ≤ 5
  · cases hr : entsB (widN t true) l with
    | false =>
      have e1 : treeE t l (N - k0) = 1 := if_neg (by rw [hr]; simp)
      refine (build_Tree_w B ba b g nn cc pa ca f N k0 bs t a c l w hA ht.1 ht.2 hr hn h).mono ?_
      rintro e W ⟨rfl, hb⟩
      exact .inl ⟨by rw [e1]; decide, by rw [e1], hb⟩
    | true =>
      have e0 : treeE t l (N - k0) = if N - k0 < nodN t l.length then 14 else 0 := if_pos ⟨ht.1, ht.2, hr⟩
      by_cases hs : N - k0 < nodN t l.length
      · rw [if_pos hs] at e0
        refine (build_Tree_none B ba b g nn cc pa ca f N k0 bs t a c l w hA ht.1 ht.2 (entsB_ok hr) hn hkN (by omega) h).mono ?_
        rintro e W ⟨rfl, hb⟩
        exact .inl ⟨by rw [e0]; decide, by rw [e0], hb⟩
      · rw [if_neg hs] at e0
        refine (build_Tree B ba b g nn cc pa ca f N k0 bs t a c l w hC hA ht.1 ht.2 (entsB_ok hr) hn hf1 hkN (by omega) hin hBw).mono ?_
        exact fun e W h => .inr ⟨e0, h⟩
  · have e1 : treeE t l (N - k0) = 1 := if_neg fun h => ht ⟨h.1, h.2.1⟩
    refine (build_Tree_o B ba b g nn cc pa ca f N k0 bs t a c l w hA ht).mono ?_
    rintro e W ⟨rfl, hb⟩
    exact .inl ⟨by rw [e1]; decide, by rw [e1], hb⟩
end Go.Proofs.YtbhjgcokpmiopaaGreat
namespace Go.Proofs.YtbhjgcokpmiopaaGreat
open Go.RowKit Go.Extern.Stop Go.Stop Go.Extern
set_option linter.unusedVariables false
attribute [local irreducible] wpList wpAnyH Code.wp Oper.wp Go

/-- the keys of a node, i places of them, when n keys are there -/
def keyPad (K : List Int) (n : Nat) (i : Nat) : List UInt8 := (List.range i).flatMap fun j => if j < n then leB (K.getD j 0) 8 else List.replicate 8 0
theorem keyPad_succ (K : List Int) (n i : Nat) : keyPad K n (i + 1) = keyPad K n i ++ (if i < n then leB (K.getD i 0) 8 else List.replicate 8 0) := by
  unfold keyPad; rw [List.range_succ, List.flatMap_append]; simp
theorem keyPad_len (K : List Int) (n i : Nat) : (keyPad K n i).length = i * 8 := by
  induction i with
  | zero => rfl
  | succ i ih => rw [keyPad_succ, List.length_append, ih]; split <;> simp [leB_len] <;> omega
/-- the values of a node, i of them -/
def valPad (Vs : List (List UInt8)) (i : Nat) : List UInt8 := (List.range i).flatMap fun j => Vs.getD j []
theorem valPad_succ (Vs : List (List UInt8)) (i : Nat) : valPad Vs (i + 1) = valPad Vs i ++ Vs.getD i [] := by
  unfold valPad; rw [List.range_succ, List.flatMap_append]; simp
theorem valPad_len {Vs : List (List UInt8)} {v : Nat} : ∀ {i : Nat}, (∀ j, j < i → (Vs.getD j []).length = v) → (valPad Vs i).length = i * v
  | 0, _ => by simp [valPad]
  | i + 1, h => by rw [valPad_succ, List.length_append, valPad_len fun j hj => h j (by omega), h i (by omega), Nat.add_mul, Nat.one_mul]
theorem putB_mid {P z Q x : List UInt8} {k : Nat} (hk : P.length = k) (hz : z.length = x.length) : putB (P ++ z ++ Q) k x = P ++ x ++ Q := by
  unfold putB
  subst hk
  rw [List.append_assoc P z Q, List.take_left' rfl, ← hz]
  have e : P ++ (z ++ Q) = (P ++ z) ++ Q := (List.append_assoc _ _ _).symm
  rw [e, List.drop_left' (by simp)]
theorem keyPad_zero (K : List Int) (i : Nat) : ∀ d, keyPad K i (i + d) = keyPad K i i ++ List.replicate (d * 8) 0
  | 0 => by simp
  | d + 1 => by
    rw [← Nat.add_assoc, keyPad_succ, keyPad_zero K i d, if_neg (by omega), List.append_assoc, List.replicate_append_replicate, Nat.add_mul, Nat.one_mul]
theorem keyPad_own (K : List Int) (n : Nat) : ∀ i, i ≤ n → keyPad K n i = keyPad K i i
  | 0, _ => rfl
  | i + 1, h => by
    rw [keyPad_succ, keyPad_succ, if_pos (by omega), if_pos (by omega), keyPad_own K n i (by omega), keyPad_own K (i + 1) i (by omega)]
theorem rep_add (a b : Nat) : List.replicate (a + b) (0 : UInt8) = List.replicate a 0 ++ List.replicate b 0 := List.replicate_append_replicate.symm
/-- a node's bytes, part by part -/
theorem nodeP_form {m v : Nat} {H : List UInt8} {K : List Int} {Vs : List (List UInt8)} (hH : H.length = 12) (hf : 12 + m * 8 + m * v ≤ 244) : ∀ {i : Nat}, i ≤ m → (∀ j, j < i → (Vs.getD j []).length = v) →
    nodeP m v H K Vs i = H ++ keyPad K i m ++ valPad Vs i ++ List.replicate (232 - m * 8 - i * v) 0
  | 0, _, _ => by
    have e1 := keyPad_zero K 0 m
    rw [Nat.zero_add] at e1
    rw [nodeP, e1]
    have h1 : (232 - m * 8 - 0 * v) = 232 - m * 8 := by omega
    rw [h1, show (244 : Nat) = 12 + (m * 8 + (232 - m * 8)) by omega, rep_add, rep_add]
    have := putB_mid (P := []) (z := List.replicate 12 (0 : UInt8)) (Q := List.replicate (m * 8) 0 ++ List.replicate (232 - m * 8) 0) (x := H) (k := 0) rfl (by simp [hH])
    rw [List.nil_append, List.nil_append] at this
    rw [this]
    simp [keyPad, valPad]
  | i + 1, hi, hV => by
    have ih := nodeP_form (K := K) hH hf (i := i) (by omega) (fun j hj => hV j (by omega))
    have hvi := hV i (by omega)
    have h2 : (i + 1) * v ≤ m * v := Nat.mul_le_mul_right v hi
    rw [Nat.add_mul, Nat.one_mul] at h2
    obtain ⟨d, hd⟩ : ∃ d, m = i + (d + 1) := ⟨m - i - 1, by omega⟩
    have ek : keyPad K i m = keyPad K i i ++ List.replicate 8 0 ++ List.replicate (d * 8) 0 := by
      rw [hd, keyPad_zero, show (d + 1) * 8 = 8 + d * 8 by omega, rep_add, List.append_assoc]
    have ek2 : keyPad K (i + 1) m = keyPad K i i ++ leB (K.getD i 0) 8 ++ List.replicate (d * 8) 0 := by
      rw [show m = (i + 1) + d by omega, keyPad_zero, keyPad_succ, if_pos (by omega), keyPad_own K (i + 1) i (by omega)]
    have er : List.replicate (232 - m * 8 - i * v) (0 : UInt8) = List.replicate v 0 ++ List.replicate (232 - m * 8 - (i * v + v)) 0 := by
      rw [← rep_add]; congr 1; omega
    have hvp : (valPad Vs i).length = i * v := valPad_len fun j hj => hV j (by omega)
    rw [nodeP, ih, ek, er]
    have s1 := putB_mid (P := H ++ keyPad K i i) (z := List.replicate 8 (0 : UInt8)) (Q := List.replicate (d * 8) 0 ++ (valPad Vs i ++ (List.replicate v 0 ++ List.replicate (232 - m * 8 - (i * v + v)) 0))) (x := leB (K.getD i 0) 8) (k := 12 + i * 8) (by rw [List.length_append, hH, keyPad_len]) (by simp [leB_len])
    have a1 : H ++ (keyPad K i i ++ List.replicate 8 0 ++ List.replicate (d * 8) 0) ++ valPad Vs i ++ (List.replicate v 0 ++ List.replicate (232 - m * 8 - (i * v + v)) 0) = H ++ keyPad K i i ++ List.replicate 8 0 ++ (List.replicate (d * 8) 0 ++ (valPad Vs i ++ (List.replicate v 0 ++ List.replicate (232 - m * 8 - (i * v + v)) 0))) := by simp only [List.append_assoc]
    rw [a1, s1]
    have s2 := putB_mid (P := H ++ keyPad K (i + 1) m ++ valPad Vs i) (z := List.replicate v (0 : UInt8)) (Q := List.replicate (232 - m * 8 - (i * v + v)) 0) (x := Vs.getD i []) (k := 12 + m * 8 + i * v) (by rw [List.length_append, List.length_append, hH, keyPad_len, hvp]) (by rw [List.length_replicate, hvi])
    have a2 : H ++ keyPad K i i ++ leB (K.getD i 0) 8 ++ (List.replicate (d * 8) 0 ++ (valPad Vs i ++ (List.replicate v 0 ++ List.replicate (232 - m * 8 - (i * v + v)) 0))) = H ++ keyPad K (i + 1) m ++ valPad Vs i ++ List.replicate v 0 ++ List.replicate (232 - m * 8 - (i * v + v)) 0 := by rw [ek2]; simp only [List.append_assoc]
    rw [a2, s2, valPad_succ, Nat.add_mul, Nat.one_mul]
    simp only [List.append_assoc]
theorem leB_1 (n : Int) : leB n 1 = [byteAt n 0] := rfl
theorem leB_2 (n : Int) : leB n 2 = [byteAt n 0, byteAt n 1] := rfl
theorem byte1_zero {n : Int} (h : n < 256) : byteAt n 1 = 0 := by
  unfold byteAt
  rw [show n.toNat / 256 ^ 1 = 0 from Nat.div_eq_of_lt (by omega)]; rfl
theorem headB_cells {t : Int} {leaf : Bool} {n m v : Nat} (h1 : 0 ≤ t) (hn : n ≤ 18) (hm : m ≤ 18) (hv : v ≤ 24) : (headB t leaf n m v).map bv =
    [.int .u8 (flagN leaf), .int .u8 (byteAt t 0).toNat, .int .u8 (byteAt (n : Int) 0).toNat, .int .u8 0, .int .u8 (byteAt (v : Int) 0).toNat, .int .u8 0, .int .u8 (byteAt (m : Int) 0).toNat, .int .u8 0, .int .u8 0, .int .u8 0, .int .u8 0, .int .u8 0] := by
  unfold headB
  rw [leB_1, leB_1, leB_2, leB_2, leB_2, byte1_zero (n := (n : Int)) (by omega), byte1_zero (n := (v : Int)) (by omega), byte1_zero (n := (m : Int)) (by omega)]
  cases leaf <;> rfl
end Go.Proofs.YtbhjgcokpmiopaaGreat
namespace Go.Proofs.YtbhjgcokpmiopaaGreat
open Go.RowKit Go.Extern.Stop Go.Stop Go.Extern
set_option linter.unusedVariables false
attribute [local irreducible] wpList wpAnyH Code.wp Oper.wp Go

theorem ovN_small {n m : Nat} (hm : 1 ≤ m) (h : n ≤ m) : ovN n m = 1 := by
  unfold ovN
  have : (n + m - 1) / m ≤ 1 := by
    rw [Nat.div_le_iff_le_mul_add_pred (by omega)]; omega
  omega
theorem ovN_step {n m : Nat} (hm : 1 ≤ m) (h : m < n) : ovN n m = ovN (n - m) m + 1 := by
  unfold ovN
  have e : n + m - 1 = (n - m + m - 1) + m := by omega
  rw [e, Nat.add_div_right _ (by omega)]
  have : 1 ≤ (n - m + m - 1) / m := by
    rw [Nat.le_div_iff_mul_le (by omega)]; omega
  omega
theorem ovN_32768 {n : Nat} {t : Int} (hn : n ≤ 32768) (h1 : 1 ≤ t) (h2 : t ≤ 5) : ovN n (maxN t true) ≤ 32768 := by
  have h6 : 6 ≤ maxN t true := by unfold maxN; repeat' split
                                  all_goals first | decide | simp_all
  unfold ovN
  have : (n + maxN t true - 1) / maxN t true ≤ 32768 := by
    rw [Nat.div_le_iff_le_mul_add_pred (by omega)]
    have := Nat.mul_le_mul_right 32768 h6
    omega
  omega
end Go.Proofs.YtbhjgcokpmiopaaGreat
