/- Package value: put and read, for any parts. A string cut at its head or its end. No program is named here. bits.Read. Errors that lie in memory stay what they are while a block of another type is written. Blocks of an image that are read: (*Image).Read, whatever the number. block.Node, whatever lies in the image. value.ReadSlot, slots.Read and block.Index, whatever the bytes. What was sealed opens: a plain law on lists of bytes. append(s, make([]byte, k)...) at a literal s. An error's text, as contracts. Package block at an image that is none, and the example of law 11. The document's answer for the layers 1, 2 and 4: Bytes, Sum, Salt, known, Seal. The document's answer for layer 1, read: width, room, Get, Unpack, Zero. The document's example of chapter 5: scantlinglaw05.lives returns true. scantlinglaw05.Own and Told, scantlingref05.At and Same, as contracts. The document's answer for the layers 3 and 11: an image's blocks, Of, Write, Bytes; Write of a block. The document's answer for the layers 3, 4 and 11, read: Open, Image.Read, in. -/
import Derived.Lib.AppendZerosOnto
import Derived.Lib.ItoaNum
import Derived.Test.YtinegkldgjhnpaaGreatDoorMg2
namespace Go.Proofs.YtinegkldgjhnpaaGreatDoor
open Go.RowKit Go.Extern.Stop Go.Stop Go.Extern
set_option linter.unusedVariables false
attribute [local irreducible] wpList wpAnyH Code.wp Oper.wp Go

/-- a part of a value: its width, from where to where -/
abbrev Part := Nat × Int × Int
def partC (p : Part) : List Value := [.int .i64 (p.1 : Int), .int .i64 p.2.1, .int .i64 p.2.2]
theorem partC_len (p : Part) : (partC p).length = 3 := rfl
def part0 : Part := (4, 0, 0)
/-- parts whose numbers have room -/
def PartsOk (ps : List Part) : Prop := ps.length ≤ 1000 ∧ ∀ i, i < ps.length → ((ps.getD i part0).1 = 4 ∨ (ps.getD i part0).1 = 8) ∧ 0 ≤ (ps.getD i part0).2.1 ∧ (ps.getD i part0).2.2 < 9223372036854775808 ∧ ((ps.getD i part0).1 = 4 → (ps.getD i part0).2.2 < 4294967296)
def inP (p : Part) (n : Int) : Bool := decide (p.2.1 ≤ n ∧ n ≤ p.2.2)
def allIn (ps : List Part) (N : List Int) (k : Nat) : Bool := (List.range k).all fun i => inP (ps.getD i part0) (N.getD i 0)
theorem allIn_succ (ps : List Part) (N : List Int) (k : Nat) : allIn ps N (k + 1) = (allIn ps N k && inP (ps.getD k part0) (N.getD k 0)) := by simp [allIn, List.range_succ]
theorem allIn_stop {ps : List Part} {N : List Int} {i k : Nat} (hi : i < k) (h : inP (ps.getD i part0) (N.getD i 0) = false) : allIn ps N k = false := by
  unfold allIn
  rw [List.all_eq_false]
  exact ⟨i, List.mem_range.2 hi, by rw [h]; decide⟩
def putL (ps : List Part) (N : List Int) (k : Nat) : List UInt8 := (List.range k).flatMap fun i => leB (N.getD i 0) (ps.getD i part0).1
theorem putL_succ (ps : List Part) (N : List Int) (k : Nat) : putL ps N (k + 1) = putL ps N k ++ leB (N.getD k 0) (ps.getD k part0).1 := by simp [putL, List.range_succ]
def wids (ps : List Part) (k : Nat) : List Nat := (List.range k).map fun i => (ps.getD i part0).1
theorem wids_succ (ps : List Part) (k : Nat) : wids ps (k + 1) = wids ps k ++ [(ps.getD k part0).1] := by simp [wids, List.range_succ]
theorem wids_len (ps : List Part) (k : Nat) : (wids ps k).length = k := by simp [wids]
theorem wids_get (ps : List Part) {k i : Nat} (h : i < k) : (wids ps k).getD i 0 = (ps.getD i part0).1 := by simp [wids, List.getD, List.getElem?_range h]
theorem putL_len (ps : List Part) (N : List Int) (k : Nat) : (putL ps N k).length = (wids ps k).sum := by
  induction k with
  | zero => rfl
  | succ k ih => rw [putL_succ, wids_succ, List.length_append, leB_len, ih]; simp
theorem Pack_48 (g w : Nat) (n : Int) (W : World) (hw : w = 4 ∨ w = 8) (h0 : 0 ≤ n) (hb : w = 4 → n < 4294967296) (hk : Blk W g [.int .i64 (w : Int), .int .i64 n] 122) : Calls Tryz.prog 50 #[.slice (some ⟨g, 0, none⟩) 1 1] W (RetS (fun w' r => ∃ p c, r = .tuple #[.slice p w c, .int .i64 0] ∧ w'.ownsRow W.heap.size 5 1 (.slice p w c) w ((leB n w).map bv)) W) := by
  rcases hw with rfl | rfl
  · exact Pack_4 g n h0 (hb rfl) W hk
  · exact Pack_8 g n h0 W hk
def ValPutP (ps : List Part) (N : List Int) (w : World) (e : Ending) (w' : World) : Prop :=
  (allIn ps N ps.length = false ∧ e = .returned (.string ⟨#[]⟩) ∧ Below w.heap.size w w') ∨ (allIn ps N ps.length = true ∧ e = .returned (.string ⟨(putL ps N ps.length).toArray⟩) ∧ Below w.heap.size w w')
set_option maxRecDepth 100000 in
set_option maxHeartbeats 4000000 in
theorem value_putG (ps : List Part) (N : List Int) (gl gn : Option Addr) (cl cn : Nat) (w : World) (hps : PartsOk ps) (hNl : N.length = ps.length) (hP : Sts partC w (.slice gl ps.length cl) ps) (hN : Sl w (.slice gn ps.length cn) ps.length (N.map (Value.int .i64))) :
    Calls Tryz.prog 164 #[.slice gl ps.length cl, .slice gn ps.length cn] w (ValPutP ps N w) := by
 have hpl := hps.1
 refine zin 51 Tryz.func164 ?_
 have hB := Below.refl w.heap.size w
 refine zl 19 51 (fun zm zkv V => ∃ (i m : Nat) (q : Option Addr) (d : Nat), zkv = [(1, .slice gn ps.length cn), (5, .slice q m d), (10, .slice gl ps.length cl), (11, .int .i64 (↑ps.length : Int)), (12, .int .i64 (↑i : Int))] ∧ zm = ps.length - ((↑i : Int)).toNat ∧ Below w.heap.size w V ∧ V.ownsRow w.heap.size 5 1 (.slice q m d) m ((putL ps N i).map bv) ∧ i ≤ ps.length ∧ m = (wids ps i).sum ∧ m ≤ i * 8 ∧ allIn ps N i = true) ⟨0, 0, _, _, rfl, rfl, hB, World.ownsRow_nil _ _ _ _, Nat.zero_le _, rfl, Nat.zero_le _, rfl⟩ ?_
 rintro _ _ W1 ⟨i, m, q, d, rfl, rfl, hB_1, ho, hi, hm, hm2, hall⟩ J1 hJ1 r1
 refine xid 6 ((↑i : Int) < (↑ps.length : Int)) (fun hc2 => ?_) (fun hc2 => ?_)
 · refine xx 7 _ ps.length i 3 (Sts.cell hP partC_len part0 (k := i) (i := 0) (by omega) rfl).1 ?_
   refine xlv 0 (Sts.rp (k := i) (hP.below hB_1) partC_len part0 (by omega) (by decide)) ?_
   refine xa 0 [.int .i64 0, .int .i64 0, .int .i64 0] 266 fun b3 W3 n3 => ?_
   have g3 := n3.ge hB_1
   refine xsv 1 n3.blk [.int .i64 (↑(ps.getD i part0).1 : Int), .int .i64 ((ps.getD i part0).2.1), .int .i64 ((ps.getD i part0).2.2)] fun W4 u4 k4 => ?_
   refine xd 4 .z ?_
   refine xx (.e [0, 1] 2) _ ps.length i 1 (IntsN.elem hN hNl (k := i) (by omega)).1 ?_
   have hB'1 := Bl.next (u4.below (Bl.next hB_1 n3.below) g3) (below_drew W4)
   refine xl (.e [] 3) ((IntsN.elem (hN.below hB'1) hNl (k := i) (by omega)).2) ?_
   have k4'1 := k4.below (below_drew W4)
   refine xb (.e [4] 5) 1 k4'1 ?_
   refine xg (.b [6, 7]) [23, 24] (decide ((N.getD i 0) < (ps.getD i part0).2.1)) (fun hc5 => ?_) (fun hc5 => ?_)
   · have hc5 := of_decide_eq_true hc5
     exact xe (.r [8, 9, 10, 11, 12, 13, 14, 15] 15) (.string ⟨#[]⟩) (.inl ⟨allIn_stop (i := i) (by omega) (decide_eq_false (by omega)), rfl, hB'1⟩)
   have hc5 := of_decide_eq_false hc5
   refine xx (.e [8, 9] 10) _ ps.length i 1 (IntsN.elem hN hNl (k := i) (by omega)).1 ?_
   refine xl (.e [] 11) ((IntsN.elem (hN.below hB'1) hNl (k := i) (by omega)).2) ?_
   refine xb (.e [12] 13) 2 k4'1 ?_
   refine xid (.r [14, 15] 2) ((N.getD i 0) > (ps.getD i part0).2.2) (fun hc6 => ?_) (fun hc6 => ?_)
   · exact xe 12 (.string ⟨#[]⟩) (.inl ⟨allIn_stop (i := i) (by omega) (decide_eq_false (by omega)), rfl, hB'1⟩)
   refine xd 3 .z ?_
   have k4'2 := k4'1.below (below_drew W4.drew)
   refine xb (.e [0] 1) 0 k4'2 ?_
   refine xx (.e [2, 3] 4) _ ps.length i 1 (IntsN.elem hN hNl (k := i) (by omega)).1 ?_
   have hB'2 := Bl.next hB'1 (below_drew W4.drew)
   refine xl (.e [] 5) ((IntsN.elem (hN.below hB'2) hNl (k := i) (by omega)).2) ?_
   refine xbs (.o [6] 7) 1 [.int .i64 (↑(ps.getD i part0).1 : Int), .int .i64 (N.getD i 0)] 122 fun b7 W7 n7 => ?_
   have g7 := n7.ge hB'2
   refine yc (.o [] 8) (args := #[.slice (some ⟨b7, 0, none⟩) 1 1]) .z (Pack_48 b7 (ps.getD i part0).1 (N.getD i 0) _ (hps.2 i (by omega)).1 (by have := (hps.2 i (by omega)).2.1; omega) (fun q => by have := (hps.2 i (by omega)).2.2.2 q; omega) n7.blk) ?_
   rintro _ W8 ⟨_, rfl, hb8, p2, c2, rfl, h2⟩
   have hs8 := (Bl.next hB'2 n7.below).size
   refine ⟨hb8, ?_⟩
   have ho'1 := own_below (own_below (own_below (own_below (u4.own2 (own_below ho n3.below) n3.blk (by decide)) (below_drew W4)) (below_drew W4.drew)) n7.below) hb8
   have h2'1 := own_mono h2 hs8
   have hB'3 := Bl.next (Bl.next hB'2 n7.below) hb8
   refine xbi (.r [9, 10, 11, 12, 13] 5) fun _ _ _ _ zJ zQ zo zx zy zK => op_app (m := (ps.getD i part0).1) (news := (leB (N.getD i 0) (ps.getD i part0).1).map bv) (.int .u8 0) 1 1 ((m + (ps.getD i part0).1)) (((putL ps N (i + 1)).map bv)) zo Tryz.underlying22 (by kernel_rfl) rfl (by decide) zx ho'1 zy (own_sl h2'1) (by simp [leB_len]) (bv_one _) (by unfold maxLen; have := (hps.2 i (by omega)).1; omega) (by have := (hps.2 i (by omega)).1; omega) hB'3.size (by rfl) (by rw [putL_succ, List.map_append]) fun px9 cx9 W9 o9 hg9 hb9 => ?_
   refine zK _ _ ?_
   refine xwm 5 ((↑i : Int) + 1) (↑(i + 1) : Int) ?_
   have hB'4 := hB'3.trans hb9
   exact ze 2 (hJ1 _ _ _ ⟨i + 1, _, _, _, rfl, rfl, hB'4, o9, by omega, by rw [wids_succ, hm]; simp, by have := (hps.2 i (by omega)).1; omega, by rw [allIn_succ, hall]; exact decide_eq_true ⟨by omega, by omega⟩⟩ (by omega))
 refine xcv0 8 (fun _ _ _ zo zx => run_bstr zo zx (bys_of (own_sl ho) (by rw [putL_len]; exact hm.symm)) (by rw [putL_len]; exact hm.symm) Tryz.underlying22 Tryz.underlying5 Tryz.underlying9) ?_
 refine xe 4 (.string ⟨(putL ps N i).toArray⟩) ?_
 obtain rfl : i = ps.length := by omega
 exact .inr ⟨hall, rfl, hB_1⟩
/-- what stands in a value: the numbers, one behind the other -/
def rawsL (ps : List Part) (s : List UInt8) : List Nat := unpL s 0 (wids ps ps.length)
theorem rawsL_len (ps : List Part) (s : List UInt8) : (rawsL ps s).length = ps.length := by rw [rawsL, unpL_len, wids_len]
def readOk (ps : List Part) (s : List UInt8) : Bool := allIn ps ((rawsL ps s).map fun n : Nat => (n : Int)) ps.length
def readE (ps : List Part) (s : List UInt8) : Int := if s.length = (wids ps ps.length).sum then (if readOk ps s then 0 else 2) else 7
def readV (ps : List Part) (s : List UInt8) : List Nat := if readE ps s = 0 then rawsL ps s else List.replicate ps.length 0
theorem readV_len (ps : List Part) (s : List UInt8) : (readV ps s).length = ps.length := by
  unfold readV; split
  · exact rawsL_len ps s
  · simp
theorem readOk_lt {ps : List Part} {s : List UInt8} (hp : PartsOk ps) (h : readOk ps s = true) : ∀ i, i < (wids ps ps.length).length → (unpL s 0 (wids ps ps.length)).getD i 0 < 9223372036854775808 := by
  intro i hi
  rw [wids_len] at hi
  unfold readOk allIn at h
  rw [List.all_eq_true] at h
  have h1 := of_decide_eq_true (h i (List.mem_range.2 hi))
  have h2 := (hp.2 i hi).2.2.1
  rw [show ((rawsL ps s).map fun n : Nat => (n : Int)).getD i 0 = (((rawsL ps s).getD i 0 : Nat) : Int) by simp [List.getD, show i < (rawsL ps s).length by rw [rawsL_len]; exact hi]] at h1
  change (rawsL ps s).getD i 0 < _
  omega
theorem map_nv (l : List Nat) : l.map nv = (l.map fun n : Nat => (n : Int)).map (Value.int .i64) := by simp [nv]
theorem putL_ne {ps : List Part} {N : List Int} (hp : PartsOk ps) (h0 : 0 < ps.length) : ((⟨(putL ps N ps.length).toArray⟩ : ByteArray).toList == (⟨#[]⟩ : ByteArray).toList) = false := by
  rw [show (⟨#[]⟩ : ByteArray) = ⟨([] : List UInt8).toArray⟩ from rfl, str_beq]
  apply beq_false_of_ne
  intro q
  have h1 := congrArg List.length q
  obtain ⟨k, hk⟩ : ∃ k, ps.length = k + 1 := ⟨ps.length - 1, by omega⟩
  rw [hk, putL_succ, List.length_append, leB_len] at h1
  rw [List.length_nil] at h1
  have := (hp.2 k (by omega)).1
  omega
theorem zeros_nv (n : Nat) : zeros (Value.int .i64 0).cells.toList n = (List.replicate n 0).map nv := by
  rw [show (Value.int .i64 0).cells.toList = [Value.int .i64 0] from rfl, zeros, List.map_replicate]
  induction n with
  | zero => rfl
  | succ n ih => rw [List.replicate_succ, List.flatten_cons, ih, List.replicate_succ]; rfl
set_option maxRecDepth 100000 in
set_option maxHeartbeats 1000000 in
theorem value_readG_len (ps : List Part) (s : List UInt8) (gl : Option Addr) (cl : Nat) (w : World) (hps : PartsOk ps) (h0 : 0 < ps.length) (hs : s.length ≤ 100000) (hP : Sts partC w (.slice gl ps.length cl) ps) (hsl : s.length ≠ (wids ps ps.length).sum) :
    Calls Tryz.prog 145 #[.slice gl ps.length cl, .string ⟨s.toArray⟩] w (RetS (fun w' r => ∃ p c, r = .tuple #[.slice p ps.length c, .int .i64 (readE ps s)] ∧ w'.ownsRow w.heap.size 3 1 (.slice p ps.length c) ps.length ((readV ps s).map nv)) w) := by
 have hpl := hps.1
 refine zin 54 Tryz.func145 ?_
 have hB := Below.refl w.heap.size w
 refine zl 25 54 (fun zm zkv V => ∃ (i : Nat) (q : Option Addr) (d : Nat), zkv = [(0, .slice gl ps.length cl), (1, .string ⟨s.toArray⟩), (4, .slice none 0 0), (5, .int .i64 0), (6, .slice q i d), (7, .int .i64 (↑(wids ps i).sum : Int)), (12, .slice gl ps.length cl), (13, .int .i64 (↑ps.length : Int)), (14, .int .i64 (↑i : Int))] ∧ zm = ps.length - ((↑i : Int)).toNat ∧ Below w.heap.size w V ∧ V.ownsRow w.heap.size 3 1 (.slice q i d) i ((wids ps i).map nv) ∧ i ≤ ps.length ∧ (wids ps i).sum ≤ i * 8) ⟨0, _, _, rfl, rfl, hB, World.ownsRow_nil _ _ _ _, Nat.zero_le _, Nat.zero_le _⟩ ?_
 rintro _ _ W1 ⟨i, q, d, rfl, rfl, hB_1, ho, hi, hm2⟩ J1 hJ1 r1
 have hwd : i < ps.length → (ps.getD i part0).1 ≤ 8 := fun q => by have := (hps.2 i q).1; omega
 refine xid 6 ((↑i : Int) < (↑ps.length : Int)) (fun hc2 => ?_) (fun hc2 => ?_)
 · refine xx 6 _ ps.length i 3 (Sts.cell hP partC_len part0 (k := i) (i := 0) (by omega) rfl).1 ?_
   refine xlv 0 (Sts.rp (k := i) (hP.below hB_1) partC_len part0 (by omega) (by decide)) ?_
   refine xa 0 [.int .i64 0, .int .i64 0, .int .i64 0] 266 fun b3 W3 n3 => ?_
   have g3 := n3.ge hB_1
   refine xsv 0 n3.blk [.int .i64 (↑(ps.getD i part0).1 : Int), .int .i64 ((ps.getD i part0).2.1), .int .i64 ((ps.getD i part0).2.2)] fun W4 u4 k4 => ?_
   refine xb 6 0 k4 ?_
   refine xbs 0 1 [.int .i64 (↑(ps.getD i part0).1 : Int)] 3 fun b5 W5 n5 => ?_
   have hB'1 := u4.below (Bl.next hB_1 n3.below) g3
   have g5 := n5.ge hB'1
   have ho'1 := u4.own2 (own_below ho n3.below) n3.blk (by decide)
   have r5_ho := own_ne ho'1 n5
   have ho'2 := own_below ho'1 n5.below
   have hB'2 := Bl.next hB'1 n5.below
   refine xbi 0 fun _ _ _ _ zJ zQ zo zx zy zK => op_app (m := 1) (news := [.int .i64 (↑(ps.getD i part0).1 : Int)]) (.int .i64 0) 1 8 (i + 1) (((wids ps (i + 1)).map nv)) zo Tryz.underlying26 (by kernel_rfl) rfl (by decide) zx ho'2 zy (n5.blk.sl 1 1 (by decide) (by decide)) rfl (by simp [Value.oneCell']) (by unfold maxLen; omega) (by omega) hB'2.size (by rfl) (by rw [wids_succ, List.map_append]; rfl) fun px6 cx6 W6 o6 hg6 hb6 => ?_
   refine zK _ _ ?_
   have k4'1 := (k4.below n5.below).grown hg6 ho'2 (by decide)
   refine xb 6 0 k4'1 ?_
   refine xwm 0 ((↑(wids ps i).sum : Int) + (↑(ps.getD i part0).1 : Int)) (↑((wids ps i).sum + ((ps.getD i part0).1)) : Int) ?_
   refine xwm 5 ((↑i : Int) + 1) (↑(i + 1) : Int) ?_
   refine xv1 2 7 (show (.int .i64 (↑((wids ps i).sum + ((ps.getD i part0).1)) : Int) : Value) = .int .i64 (↑(wids ps (i + 1)).sum : Int) from by rw [wids_succ]; simp) ?_
   have hB'3 := hB'2.trans hb6
   exact ze 0 (hJ1 _ _ _ ⟨i + 1, _, _, rfl, rfl, hB'3, o6, by omega, by rw [wids_succ, List.sum_append, List.sum_cons, List.sum_nil]; have := hwd (by omega); omega⟩ (by omega))
 refine xk 14 (show (((↑s.length : Int) != (↑(wids ps i).sum : Int)) : Bool) = true from bne_iff_ne.2 (by rw [show i = ps.length by omega]; omega)) ?_
 refine xmk 4 fun _ _ _ _ zJ zQ zo zx zy zK => op_make ps.length (.int .i64 0) 1 8 ((List.replicate ps.length 0).map nv) zo zx zy Tryz.underlying26 (by kernel_rfl) rfl (by omega) (by omega) (zeros_nv _) fun b7 W7 n7 => ?_
 have g7 := n7.ge hB_1
 have r7_ho := own_ne ho n7
 refine zK _ _ ?_
 have hB'4 := Bl.next hB_1 n7.below
 have o7 := own_of_blk (size := 1) (n := ps.length) n7.blk g7 (by simp) (by unfold maxLen; omega)
 refine xe 6 (.tuple #[.slice (some ⟨b7, 0, none⟩) ps.length ps.length, .int .i64 7]) ?_
 have he : readE ps s = 7 := if_neg hsl
 exact ⟨_, rfl, hB'4, _, _, by rw [he], by rw [readV, if_neg (by rw [he]; decide)]; exact o7⟩
theorem sl_w {w : World} {v : Value} {n m : Nat} {xs : List Value} (h : Sl w v n xs) (e : m = n) : Sl w v m xs := by subst e; exact h
def UnpP (s : List UInt8) (ws : List Nat) (n : Nat) (W : World) (e : Ending) (w' : World) : Prop :=
  ((¬ ∀ i, i < ws.length → (unpL s 0 ws).getD i 0 < 9223372036854775808) ∧ e = .returned (.tuple #[.slice none 0 0, .int .i64 2]) ∧ Below W.heap.size W w') ∨
  ((∀ i, i < ws.length → (unpL s 0 ws).getD i 0 < 9223372036854775808) ∧ ∃ p c, e = .returned (.tuple #[.slice p n c, .int .i64 0]) ∧ Below W.heap.size W w' ∧ w'.ownsRow W.heap.size 3 1 (.slice p n c) n ((unpL s 0 ws).map nv))
theorem Unpack_P (a : Option Addr) (n c m : Nat) (s : List UInt8) (aw : Option Addr) (cw : Nat) (ws : List Nat) (W : World) (hn : s.length = n) (hm : ws.length = m) (hk : ∀ i, i < ws.length → ws.getD i 0 = 1 ∨ ws.getD i 0 = 2 ∨ ws.getD i 0 = 4 ∨ ws.getD i 0 = 8) (hs : ws.sum ≤ n) (hl : n ≤ 100000000) (hw : m ≤ 1000) (h : Bys W (.slice a n c) s) (hws : Sl W (.slice aw m cw) m (ws.map nv)) :
    Calls Tryz.prog 142 #[.slice a n c, .slice aw m cw] W (UnpP s ws m W) := by
  subst hn hm
  by_cases hq : ∀ i, i < ws.length → (unpL s 0 ws).getD i 0 < 9223372036854775808
  · refine (Unpack_ok a c s aw cw ws W hk hs hl hw h hws hq).mono ?_
    rintro e V ⟨_, rfl, hb, p, c2, rfl, ho⟩
    exact .inr ⟨hq, p, c2, rfl, hb, ho⟩
  · refine (Unpack_bad a c s aw cw ws W hk hs hl hw h hws hq).mono ?_
    rintro e V ⟨rfl, hb⟩
    exact .inl ⟨hq, rfl, hb⟩
theorem rawsI_len (ps : List Part) (s : List UInt8) (k : Nat) : ((unpL s 0 (wids ps k)).map fun n : Nat => (n : Int)).length = k := by rw [List.length_map, unpL_len, wids_len]
theorem value_putR2 (ps : List Part) (N : List Int) (gl gn : Option Addr) (cl cn n : Nat) (w : World) (hps : PartsOk ps) (hn : n = ps.length) (hNl : N.length = n) (hP : Sts partC w (.slice gl ps.length cl) ps) (hN : Sl w (.slice gn n cn) n (N.map (Value.int .i64))) :
    Calls Tryz.prog 164 #[.slice gl ps.length cl, .slice gn n cn] w (fun e w' => (allIn ps N n = false ∧ e = .returned (.string ⟨#[]⟩) ∧ Below w.heap.size w w') ∨ (allIn ps N n = true ∧ e = .returned (.string ⟨(putL ps N ps.length).toArray⟩) ∧ Below w.heap.size w w')) := by
  subst hn; exact value_putG ps N gl gn cl cn w hps hNl hP hN
set_option maxRecDepth 100000 in
set_option maxHeartbeats 4000000 in
theorem value_readG_in (ps : List Part) (s : List UInt8) (gl : Option Addr) (cl : Nat) (w : World) (hps : PartsOk ps) (h0 : 0 < ps.length) (hs : s.length ≤ 100000) (hP : Sts partC w (.slice gl ps.length cl) ps) (hsl : s.length = (wids ps ps.length).sum) :
    Calls Tryz.prog 145 #[.slice gl ps.length cl, .string ⟨s.toArray⟩] w (RetS (fun w' r => ∃ p c, r = .tuple #[.slice p ps.length c, .int .i64 (readE ps s)] ∧ w'.ownsRow w.heap.size 3 1 (.slice p ps.length c) ps.length ((readV ps s).map nv)) w) := by
 have hpl := hps.1
 refine zin 54 Tryz.func145 ?_
 have hB := Below.refl w.heap.size w
 refine zl 25 54 (fun zm zkv V => ∃ (i : Nat) (q : Option Addr) (d : Nat), zkv = [(0, .slice gl ps.length cl), (1, .string ⟨s.toArray⟩), (4, .slice none 0 0), (5, .int .i64 0), (6, .slice q i d), (7, .int .i64 (↑(wids ps i).sum : Int)), (12, .slice gl ps.length cl), (13, .int .i64 (↑ps.length : Int)), (14, .int .i64 (↑i : Int))] ∧ zm = ps.length - ((↑i : Int)).toNat ∧ Below w.heap.size w V ∧ V.ownsRow w.heap.size 3 1 (.slice q i d) i ((wids ps i).map nv) ∧ i ≤ ps.length ∧ (wids ps i).sum ≤ i * 8) ⟨0, _, _, rfl, rfl, hB, World.ownsRow_nil _ _ _ _, Nat.zero_le _, Nat.zero_le _⟩ ?_
 rintro _ _ W1 ⟨i, q, d, rfl, rfl, hB_1, ho, hi, hm2⟩ J1 hJ1 r1
 have hwd : i < ps.length → (ps.getD i part0).1 ≤ 8 := fun q => by have := (hps.2 i q).1; omega
 refine xid 6 ((↑i : Int) < (↑ps.length : Int)) (fun hc2 => ?_) (fun hc2 => ?_)
 · refine xx 6 _ ps.length i 3 (Sts.cell hP partC_len part0 (k := i) (i := 0) (by omega) rfl).1 ?_
   refine xlv 0 (Sts.rp (k := i) (hP.below hB_1) partC_len part0 (by omega) (by decide)) ?_
   refine xa 0 [.int .i64 0, .int .i64 0, .int .i64 0] 266 fun b3 W3 n3 => ?_
   have g3 := n3.ge hB_1
   refine xsv 0 n3.blk [.int .i64 (↑(ps.getD i part0).1 : Int), .int .i64 ((ps.getD i part0).2.1), .int .i64 ((ps.getD i part0).2.2)] fun W4 u4 k4 => ?_
   refine xb 6 0 k4 ?_
   refine xbs 0 1 [.int .i64 (↑(ps.getD i part0).1 : Int)] 3 fun b5 W5 n5 => ?_
   have hB'1 := u4.below (Bl.next hB_1 n3.below) g3
   have g5 := n5.ge hB'1
   have ho'1 := u4.own2 (own_below ho n3.below) n3.blk (by decide)
   have r5_ho := own_ne ho'1 n5
   have ho'2 := own_below ho'1 n5.below
   have hB'2 := Bl.next hB'1 n5.below
   refine xbi 0 fun _ _ _ _ zJ zQ zo zx zy zK => op_app (m := 1) (news := [.int .i64 (↑(ps.getD i part0).1 : Int)]) (.int .i64 0) 1 8 (i + 1) (((wids ps (i + 1)).map nv)) zo Tryz.underlying26 (by kernel_rfl) rfl (by decide) zx ho'2 zy (n5.blk.sl 1 1 (by decide) (by decide)) rfl (by simp [Value.oneCell']) (by unfold maxLen; omega) (by omega) hB'2.size (by rfl) (by rw [wids_succ, List.map_append]; rfl) fun px6 cx6 W6 o6 hg6 hb6 => ?_
   refine zK _ _ ?_
   have k4'1 := (k4.below n5.below).grown hg6 ho'2 (by decide)
   refine xb 6 0 k4'1 ?_
   refine xwm 0 ((↑(wids ps i).sum : Int) + (↑(ps.getD i part0).1 : Int)) (↑((wids ps i).sum + ((ps.getD i part0).1)) : Int) ?_
   refine xwm 5 ((↑i : Int) + 1) (↑(i + 1) : Int) ?_
   refine xv1 2 7 (show (.int .i64 (↑((wids ps i).sum + ((ps.getD i part0).1)) : Int) : Value) = .int .i64 (↑(wids ps (i + 1)).sum : Int) from by rw [wids_succ]; simp) ?_
   have hB'3 := hB'2.trans hb6
   exact ze 0 (hJ1 _ _ _ ⟨i + 1, _, _, rfl, rfl, hB'3, o6, by omega, by rw [wids_succ, List.sum_append, List.sum_cons, List.sum_nil]; have := hwd (by omega); omega⟩ (by omega))
 refine xk 14 (show (((↑s.length : Int) != (↑(wids ps i).sum : Int)) : Bool) = false from by rw [show i = ps.length by omega, hsl]; simp) ?_
 refine xcf 5 fun _ _ _ zJ zQ zo zx zK => op_strBytes s zo zx Tryz.underlying9 Tryz.underlying22 Tryz.underlying5 (by omega) ?_
 intro bz cz W7 hb7 hbz
 refine zK _ _ ?_
 have ho'3 := own_below ho hb7
 refine xc 1 (args := #[.slice (some ⟨bz, 0, none⟩) s.length cz, .slice q i d]) (Unpack_P (some ⟨bz, 0, none⟩) s.length cz i s q d (wids ps i) _ rfl (wids_len ps i) (fun j hj => by rw [wids_len] at hj; rw [wids_get ps hj]; have := (hps.2 j (by omega)).1; omega) (by rw [show i = ps.length by omega]; omega) (by omega) (by omega) hbz (own_sl ho'3)) ?_
 rintro e W8 hq8
 rcases hq8 with ⟨hq, rfl, hb8⟩ | ⟨hq, p5, c5, rfl, hb8, h5⟩
 · have hie : i = ps.length := by omega
   have hno : readOk ps s = false := by rw [← Bool.not_eq_true]; intro q; exact hq (by rw [hie]; exact readOk_lt hps q)
   refine xmk 25 fun _ _ _ _ zJ zQ zo zx zy zK => op_make ps.length (.int .i64 0) 1 8 ((List.replicate ps.length 0).map nv) zo zx zy Tryz.underlying26 (by kernel_rfl) rfl (by omega) (by omega) (zeros_nv _) fun b9 W9 n9 => ?_
   have hB'4 := Bl.next (Bl.next hB_1 hb7) hb8
   have g9 := n9.ge hB'4
   have ho'4 := own_below ho'3 hb8
   have r9_ho := own_ne ho'4 n9
   refine zK _ _ ?_
   have hB'5 := Bl.next hB'4 n9.below
   have o9 := own_of_blk (size := 1) (n := ps.length) n9.blk g9 (by simp) (by unfold maxLen; omega)
   refine xe 6 (.tuple #[.slice (some ⟨b9, 0, none⟩) ps.length ps.length, .int .i64 2]) ?_
   have he : readE ps s = 2 := by unfold readE; rw [if_pos hsl, if_neg (by rw [hno]; decide)]
   exact ⟨_, rfl, hB'5, _, _, by rw [he], by rw [readV, if_neg (by rw [he]; decide)]; exact o9⟩
 have hs8 := (Bl.next hB_1 hb7).size
 have hie : i = ps.length := by omega
 have h5'1 := own_mono h5 hs8
 have hN5 : Sl (W8) (.slice p5 i c5) i (((unpL s 0 (wids ps i)).map fun n : Nat => (n : Int)).map (Value.int .i64)) := by have q := own_sl h5'1; rw [map_nv] at q; exact q
 have hB'6 := Bl.next (Bl.next hB_1 hb7) hb8
 refine xc 15 (args := #[.slice gl ps.length cl, .slice p5 i c5]) (value_putR2 ps ((unpL s 0 (wids ps i)).map fun n : Nat => (n : Int)) gl p5 cl c5 i _ hps hie (rawsI_len ps s i) (hP.below hB'6) hN5) ?_
 rintro e W10 hq10
 rcases hq10 with ⟨hin, rfl, hb10⟩ | ⟨hin, rfl, hb10⟩
 · have hno : readOk ps s = false := by unfold readOk rawsL; rw [← hie]; exact hin
   refine xmk 9 fun _ _ _ _ zJ zQ zo zx zy zK => op_make ps.length (.int .i64 0) 1 8 ((List.replicate ps.length 0).map nv) zo zx zy Tryz.underlying26 (by kernel_rfl) rfl (by omega) (by omega) (zeros_nv _) fun b11 W11 n11 => ?_
   have hB'7 := Bl.next hB'6 hb10
   have g11 := n11.ge hB'7
   have ho'5 := own_below (own_below ho'3 hb8) hb10
   have r11_ho := own_ne ho'5 n11
   have h5'2 := own_below h5'1 hb10
   have r11_h5 := own_ne h5'2 n11
   refine zK _ _ ?_
   have hB'8 := Bl.next hB'7 n11.below
   have o11 := own_of_blk (size := 1) (n := ps.length) n11.blk g11 (by simp) (by unfold maxLen; omega)
   refine xe 6 (.tuple #[.slice (some ⟨b11, 0, none⟩) ps.length ps.length, .int .i64 2]) ?_
   have he : readE ps s = 2 := by unfold readE; rw [if_pos hsl, if_neg (by rw [hno]; decide)]
   exact ⟨_, rfl, hB'8, _, _, by rw [he], by rw [readV, if_neg (by rw [he]; decide)]; exact o11⟩
 have hyes : readOk ps s = true := by unfold readOk rawsL; rw [← hie]; exact hin
 refine xk 4 (show (((⟨(putL ps ((unpL s 0 (wids ps i)).map fun n : Nat => (n : Int)) ps.length).toArray⟩ : ByteArray).toList == (⟨#[]⟩ : ByteArray).toList) : Bool) = false from putL_ne hps h0) ?_
 have hB'9 := Bl.next hB'6 hb10
 have h5'3 := own_below h5'1 hb10
 refine xe 10 (.tuple #[.slice p5 i c5, .int .i64 0]) ?_
 have he : readE ps s = 0 := by unfold readE; rw [if_pos hsl, if_pos hyes]
 subst hie
 exact ⟨_, rfl, hB'9, _, _, by rw [he], by rw [readV, if_pos he]; exact h5'3⟩
theorem value_readG (ps : List Part) (s : List UInt8) (gl : Option Addr) (cl : Nat) (w : World) (hps : PartsOk ps) (h0 : 0 < ps.length) (hs : s.length ≤ 100000) (hP : Sts partC w (.slice gl ps.length cl) ps) :
    Calls Tryz.prog 145 #[.slice gl ps.length cl, .string ⟨s.toArray⟩] w (RetS (fun w' r => ∃ p c, r = .tuple #[.slice p ps.length c, .int .i64 (readE ps s)] ∧ w'.ownsRow w.heap.size 3 1 (.slice p ps.length c) ps.length ((readV ps s).map nv)) w) := by
  by_cases h : s.length = (wids ps ps.length).sum
  · exact value_readG_in ps s gl cl w hps h0 hs hP h
  · exact value_readG_len ps s gl cl w hps h0 hs hP h
end Go.Proofs.YtinegkldgjhnpaaGreatDoor
namespace Go.Proofs.YtinegkldgjhnpaaGreatDoor
open Go.RowKit
set_option linter.unusedVariables false
section
variable {P : Program} {a : Act}
theorem str_ext (l : List UInt8) (b c : Nat) : (ByteArray.mk l.toArray).extract b c = ByteArray.mk ((l.drop b).take (c - b)).toArray := ByteArray.extract_mk l b c
theorem run_strH {o : Oper} {t : TypeId} {x y : Operand} {l : List UInt8} {k : Nat} {j : Int} {kj : IntKind} (ho : o.op = .slice t x none (some y) none) (hx : a.eval x = .string ⟨l.toArray⟩) (hy : a.eval y = .int kj j) (hj : j = (k : Int)) (hk : k ≤ l.length)
    (ht : P.underlying t = some .string) (w : World) : (execOp a.eval o).run P w = .ok (.value (.string ⟨(l.take k).toArray⟩)) w := by
  subst hj
  have hs : ((k : Int)) ≤ ((⟨l.toArray⟩ : ByteArray).size : Int) := by simp [ByteArray.size]; omega
  have h := run_slice_string_h (P := P) (w := w) (t := t) (s := ⟨l.toArray⟩) ht kj (k : Int) (by omega) hs
  rw [str_ext, List.drop_zero, Int.toNat_natCast, Nat.sub_zero] at h
  simp only [execOp, ho, hx, Option.map_some, Option.map_none, hy]
  simp [run_sliceAt_string, ht, h]
theorem run_strL {o : Oper} {t : TypeId} {x y : Operand} {l : List UInt8} {k : Nat} {j : Int} {kj : IntKind} (ho : o.op = .slice t x (some y) none none) (hx : a.eval x = .string ⟨l.toArray⟩) (hy : a.eval y = .int kj j) (hj : j = (k : Int)) (hk : k ≤ l.length)
    (ht : P.underlying t = some .string) (w : World) : (execOp a.eval o).run P w = .ok (.value (.string ⟨(l.drop k).toArray⟩)) w := by
  subst hj
  have hs : ((k : Int)) ≤ ((⟨l.toArray⟩ : ByteArray).size : Int) := by simp [ByteArray.size]; omega
  have h := run_slice_string_l (P := P) (w := w) (t := t) (s := ⟨l.toArray⟩) ht kj (k : Int) (by omega) hs
  rw [str_ext, Int.toNat_natCast, show (⟨l.toArray⟩ : ByteArray).size = l.length by simp [ByteArray.size], List.take_of_length_le (by simp)] at h
  simp only [execOp, ho, hx, Option.map_some, Option.map_none, hy]
  simp [run_sliceAt_string, ht, h]
end
end Go.Proofs.YtinegkldgjhnpaaGreatDoor
namespace Go.Proofs.YtinegkldgjhnpaaGreatDoor
open Go.RowKit Go.Extern.Stop Go.Stop Go.Extern
set_option linter.unusedVariables false
attribute [local irreducible] wpList wpAnyH Code.wp Oper.wp Go

section
variable {P : Program} {a : Act}
theorem run_shrU8 {o : Oper} {t t2 : TypeId} {x y : Operand} {n s : Nat} {j : Int} {kj : IntKind} (ho : o.op = .binOp .shr t x y t2) (hx : a.eval x = .int .u8 (n : Int)) (hy : a.eval y = .int kj j) (hj : j = (s : Int)) (hs : s ≤ 8) (w : World) : (execOp a.eval o).run P w = .ok (.value (.int .u8 ((n / 2 ^ s : Nat) : Int))) w := by
  subst hj
  have e := shift_shr_u8 kj (n : Int) (s : Int) (Int.natCast_nonneg s) (by omega)
  simp only [execOp, ho, hx, hy, eqGuard_shr, binOp_shr, e]
  simp
end
theorem Get_okN (a : Option Addr) (n c k w : Nat) (ki wi : Int) (l : List UInt8) (W : World) (hn : l.length = n) (hki : ki = (k : Int)) (hwi : wi = (w : Int)) (hw : w = 1 ∨ w = 2 ∨ w = 4) (hk : k + w ≤ n) (hl : n ≤ 100000000) (h : Bys W (.slice a n c) l) :
    Calls Tryz.prog 103 #[.slice a n c, .int .i64 ki, .int .i64 wi] W (Ret (.tuple #[.int .i64 (rawN l k w : Int), .int .i64 0]) W) := by
  subst hn hki hwi; exact Get_ok a c k w l W (by omega) hk hl h (by have := rawN_lt4 l k w (by omega); omega)
/-- the i-th count of a block of bits -/
def bitN (l : List UInt8) (i : Nat) : Nat := (l.getD (4 + i / 4) 0).toNat / 2 ^ (i % 4 * 2) % 4
theorem i64_and3 {n : Nat} (h : n < 9223372036854775808) : IntKind.i64.wrap (↑(BitVec.ofInt 64 (n : Int) &&& BitVec.ofInt 64 (3 : Int)).toNat : Int) = ((n % 4 : Nat) : Int) := by
  rw [show (3 : Int) = ((3 : Nat) : Int) from rfl, BitVec.ofInt_natCast, BitVec.ofInt_natCast, BitVec.toNat_and, BitVec.toNat_ofNat, BitVec.toNat_ofNat, Nat.mod_eq_of_lt (by omega), Nat.mod_eq_of_lt (by omega)]
  rw [show n &&& 3 = n % 4 from Nat.and_two_pow_sub_one_eq_mod n 2]
  exact i64_nat (by omega)
theorem quo_natB (n k : Nat) (hn : n < 9223372036854775808) (hk : 0 < k) : IntKind.i64.wrap (Int.tdiv (n : Int) (k : Int)) = ((n / k : Nat) : Int) := by
  rw [Int.tdiv_eq_ediv_of_nonneg (Int.natCast_nonneg _), ← Int.natCast_ediv]
  exact i64_nat (Nat.lt_of_le_of_lt (Nat.div_le_self _ _) hn)
theorem tmod_natB (n k : Nat) : Int.tmod (n : Int) (k : Int) = ((n % k : Nat) : Int) := by
  rw [Int.tmod_eq_emod_of_nonneg (Int.natCast_nonneg _), ← Int.natCast_emod]
theorem shr_lt (l : List UInt8) (k s : Nat) : (l.getD k 0).toNat / 2 ^ s < 256 := Nat.lt_of_le_of_lt (Nat.div_le_self _ _) (l.getD k 0).toNat_lt
def bitsL (l : List UInt8) (n : Nat) : List Nat := (List.range n).map (bitN l)
theorem bitsL_snoc (l : List UInt8) (n : Nat) : bitsL l (n + 1) = bitsL l n ++ [bitN l n] := by simp [bitsL, List.range_succ]
/-- whether bytes are a block of counts -/
def bitsOk (l : List UInt8) : Prop := l.length = 244 ∧ rawN l 0 4 ≤ 960 ∧ ∀ i, i < 960 → rawN l 0 4 ≤ i → bitN l i = 0
def BitsP (l : List UInt8) (w : World) (e : Ending) (w' : World) : Prop :=
  (¬ bitsOk l ∧ e = .returned (.tuple #[.slice none 0 0, .int .i64 7]) ∧ Below w.heap.size w w') ∨
  (bitsOk l ∧ ∃ p c, e = .returned (.tuple #[.slice p (rawN l 0 4) c, .int .i64 0]) ∧ Below w.heap.size w w' ∧ w'.ownsRow w.heap.size 3 1 (.slice p (rawN l 0 4) c) (rawN l 0 4) ((bitsL l (rawN l 0 4)).map nv))
set_option maxRecDepth 100000 in
set_option maxHeartbeats 2000000 in
theorem bits_Read (a : Option Addr) (c : Nat) (l : List UInt8) (w : World) (hl : l.length ≤ 100000000) (h : Bys w (.slice a l.length c) l) :
    Calls Tryz.prog 60 #[.slice a l.length c] w (BitsP l w) := by
 refine zin 47 Tryz.func60 ?_
 refine xin 14 (↑l.length : Int) (244 : Int) (fun hc1 => ?_) (fun hc1 => ?_)
 · exact xe 8 (.tuple #[.slice none 0 0, .int .i64 7]) (.inl ⟨fun h => by have := h.1; omega, rfl, (Below.refl w.heap.size _)⟩)
 refine xr 5 (args := #[.slice a l.length c, .int .i64 0, .int .i64 4]) (Get_okN a l.length c 0 4 0 4 l _ rfl rfl rfl (by decide) (by omega) hl (h.below (Below.refl w.heap.size _))) fun W2 hb2 => ?_
 refine xid 14 ((↑(rawN l 0 4) : Int) > (960 : Int)) (fun hc3 => ?_) (fun hc3 => ?_)
 · exact xe 8 (.tuple #[.slice none 0 0, .int .i64 7]) (.inl ⟨fun h => by have := h.2.1; omega, rfl, hb2⟩)
 refine zl 14 47 (fun zm zkv V => ∃ (i m : Nat) (p : Option Addr) (c2 : Nat), zkv = [(0, .slice a l.length c), (4, .int .i64 (↑(rawN l 0 4) : Int)), (6, .slice p m c2), (19, .int .i64 (↑i : Int))] ∧ zm = 960 - ((↑i : Int)).toNat ∧ Below w.heap.size w V ∧ V.ownsRow w.heap.size 3 1 (.slice p m c2) m ((bitsL l m).map nv) ∧ i ≤ 960 ∧ m = min i (rawN l 0 4) ∧ (∀ j, j < i → rawN l 0 4 ≤ j → bitN l j = 0)) ⟨0, 0, _, _, rfl, rfl, hb2, World.ownsRow_nil _ _ _ _, Nat.zero_le _, by omega, ?_⟩ ?_
 · exact fun j hj => absurd hj (by omega)
 rintro _ _ W4 ⟨i, m, p, c2, rfl, rfl, hB_4, ho, hi, hm, hz⟩ J4 hJ4 r4
 refine xid 6 ((↑i : Int) < (960 : Int)) (fun hc5 => ?_) (fun hc5 => ?_)
 · refine xq 14 (congrArg (Value.int .i64) (show (IntKind.i64.wrap (Int.tdiv (↑i : Int) 4) : Int) = (↑(i / 4) : Int) from quo_natB i 4 (by omega) (by decide))) ?_
   refine xwm 0 (4 + (↑(i / 4) : Int)) (↑(4 + (i / 4)) : Int) ?_
   refine xx 0 _ l.length (4 + (i / 4)) 1 (Bys.elem h (k := (4 + (i / 4))) (by omega)).1 ?_
   refine xl 0 ((Bys.elem (h.below hB_4) (k := (4 + (i / 4))) (by omega)).2) ?_
   refine xq 1 (congrArg (Value.int .i64) (show (Int.tmod (↑i : Int) 4 : Int) = (↑(i % 4) : Int) from tmod_natB i 4)) ?_
   refine xwm 0 ((↑(i % 4) : Int) * 2) (↑((i % 4) * 2) : Int) ?_
   refine xbo 0 (t := 5) (t2 := 3) (fun _ _ _ _ zo zx zy V hV => run_shrU8 (n := ((l.getD (4 + (i / 4)) 0).toNat)) (s := ((i % 4) * 2)) (kj := .i64) (j := (↑((i % 4) * 2) : Int)) zo zx zy rfl (by omega) V) ?_
   refine xq 0 (congrArg (Value.int .i64) (show (IntKind.i64.wrap (↑((l.getD (4 + (i / 4)) 0).toNat / 2 ^ ((i % 4) * 2)) : Int) : Int) = (↑((l.getD (4 + (i / 4)) 0).toNat / 2 ^ ((i % 4) * 2)) : Int) from i64_nat (by have := shr_lt l (4 + i / 4) (i % 4 * 2); omega))) ?_
   refine xq 0 (congrArg (Value.int .i64) (show (IntKind.i64.wrap (↑(BitVec.ofInt 64 (↑((l.getD (4 + (i / 4)) 0).toNat / 2 ^ ((i % 4) * 2)) : Int) &&& BitVec.ofInt 64 (3 : Int)).toNat : Int) : Int) = (↑(bitN l i) : Int) from i64_and3 (by have := shr_lt l (4 + i / 4) (i % 4 * 2); omega))) ?_
   refine xid 12 ((↑i : Int) < (↑(rawN l 0 4) : Int)) (fun hc6 => ?_) (fun hc6 => ?_)
   · refine xbs 3 1 [.int .i64 (↑(bitN l i) : Int)] 3 fun b7 W7 n7 => ?_
     have r7_ho := own_ne ho n7
     have ho'1 := own_below ho n7.below
     have hB'1 := Bl.next hB_4 n7.below
     refine xbi 0 fun _ _ _ _ zJ zQ zo zx zy zK => op_app (m := 1) (news := [.int .i64 (↑(bitN l i) : Int)]) (.int .i64 0) 1 8 (m + 1) ((bitsL l (m + 1)).map nv) zo Tryz.underlying26 (by kernel_rfl) rfl (by decide) zx ho'1 zy (n7.blk.sl 1 1 (by decide) (by decide)) rfl (by simp [Value.oneCell']) (by unfold maxLen; omega) (by omega) hB'1.size (by rfl) (by rw [bitsL_snoc, List.map_append, show m = i by omega]; rfl) fun p8 c8 W8 o8 hg8 hb8 => ?_
     refine zK _ _ ?_
     refine xwm 6 ((↑i : Int) + 1) (↑(i + 1) : Int) ?_
     have hB'2 := hB'1.trans hb8
     exact ze 2 (hJ4 _ _ _ ⟨i + 1, m + 1, _, _, rfl, rfl, hB'2, o8, by omega, by omega, fun j hj hc => (Nat.lt_or_ge j i).elim (fun q => hz j q hc) (fun q => by obtain rfl : j = i := (by omega); omega)⟩ (by omega))
   refine xin 7 (↑(bitN l i) : Int) (0 : Int) (fun hc9 => ?_) (fun hc9 => ?_)
   · exact xe 13 (.tuple #[.slice none 0 0, .int .i64 7]) (.inl ⟨fun h => by have := h.2.2 i (by omega) (by omega); omega, rfl, hB_4⟩)
   refine xwm 5 ((↑i : Int) + 1) (↑(i + 1) : Int) ?_
   exact ze 2 (hJ4 _ _ _ ⟨i + 1, m, _, _, rfl, rfl, hB_4, ho, by omega, by omega, fun j hj hc => (Nat.lt_or_ge j i).elim (fun q => hz j q hc) (fun q => by obtain rfl : j = i := (by omega); omega)⟩ (by omega))
 refine xe 13 (.tuple #[.slice p m c2, .int .i64 0]) ?_
 obtain rfl : m = rawN l 0 4 := by omega
 exact .inr ⟨⟨by omega, by omega, fun j hj hc => hz j (by omega) hc⟩, _, _, rfl, hB_4, ho⟩
end Go.Proofs.YtinegkldgjhnpaaGreatDoor
namespace Go.Proofs.YtinegkldgjhnpaaGreatDoor
open Go.RowKit
theorem Blk.ty {w : World} {b : Nat} {cs cs' : List Value} {t t' : TypeId} (k : Blk w b cs t) (q : Blk w b cs' t') : t = t' := by
  have h1 : w.heap[b]? = some (.cells cs.toArray t (0, 0)) := k
  have h2 : w.heap[b]? = some (.cells cs'.toArray t' (0, 0)) := q
  rw [h1] at h2
  simp only [Option.some.injEq, Obj.cells.injEq] at h2
  exact h2.2.1
theorem ErrV.upd {w W : World} {b : Nat} {cs : List Value} {t : TypeId} {l : List (Option Int)} {c : Option Int} {v : Value} (h : ErrV w l c v) (u : Upd w b W) (k : Blk w b cs t) (hne : t ≠ 72) : ErrV W l c v :=
  h.kept fun _ _ q => u.blk q (by rintro rfl; exact hne (k.ty q))
theorem ErrV.grown {w W : World} {e : TypeId} {base size n : Nat} {s : Value} {xs : List Value} {l : List (Option Int)} {c : Option Int} {v : Value} (h : ErrV w l c v) (hg : w.grownBy W s.ownBlock) (hown : w.ownsRow base e size s n xs) (hne : e ≠ 72) : ErrV W l c v :=
  h.kept fun _ _ q => q.grown hg hown hne
theorem ErrV.only {T : List TypeId} {w W : World} {l : List (Option Int)} {c : Option Int} {v : Value} (h : ErrV w l c v) (k : Only T w W) (hne : T.contains 72 = false) : ErrV W l c v := h.kept fun _ _ q => q.only k hne
end Go.Proofs.YtinegkldgjhnpaaGreatDoor
namespace Go.Proofs.YtinegkldgjhnpaaGreatDoor
open Go.RowKit Go.Extern.Stop Go.Stop Go.Extern
set_option linter.unusedVariables false
attribute [local irreducible] wpList wpAnyH Code.wp Oper.wp Go

/-- an image at block b, its bytes l in a row of its own -/
structure ImgR (B b : Nat) (p : Option Addr) (n c : Nat) (l : List UInt8) (w : World) : Prop where
  blk : Blk w b [.slice p n c] 100
  row : w.ownsRow B 5 1 (.slice p n c) n (l.map bv)
  hn : n ≤ 3686400
theorem ImgR.below {B b : Nat} {p : Option Addr} {n c : Nat} {l : List UInt8} {w W : World} (h : ImgR B b p n c l w) (hb : Below w.heap.size w W) : ImgR B b p n c l W := ⟨h.blk.below hb, own_below h.row hb, h.hn⟩
theorem ImgR.only {B b : Nat} {p : Option Addr} {n c : Nat} {l : List UInt8} {w W : World} {T : List TypeId} (h : ImgR B b p n c l w) (hO : Only T w W) (hT : T.contains 100 = false ∧ T.contains 5 = false) : ImgR B b p n c l W := ⟨h.blk.only hO hT.1, own_only h.row hO hT.2, h.hn⟩
theorem ImgR.len {B b : Nat} {p : Option Addr} {n c : Nat} {l : List UInt8} {w : World} (h : ImgR B b p n c l w) : l.length = n := by have := h.row.1; simpa using this
theorem ImgR.base {B b : Nat} {p : Option Addr} {n c : Nat} {l : List UInt8} {w : World} (h : ImgR B b p n c l w) (hn : 0 < n) : ∃ g, p = some ⟨g, 0, none⟩ ∧ n ≤ c := by
  rcases h.row.2 with ⟨_, h0⟩ | ⟨g, cap, cur, hv, _, _, hc, _⟩
  · omega
  · simp only [Value.slice.injEq] at hv
    obtain ⟨rfl, _, rfl⟩ := hv
    exact ⟨g, rfl, hc⟩
/-- the bytes of a block -/
def blkB (l : List UInt8) (j : Nat) : List UInt8 := (l.drop (j * 256)).take 256
theorem blkB_len {l : List UInt8} {j : Nat} (h : j < l.length / 256) : (blkB l j).length = 256 := by simp [blkB]; omega
theorem Bys.mid {w : World} {g off n c : Nat} {l : List UInt8} (h : Bys w (.slice (some ⟨g, off, none⟩) n c) l) (hl : l.length = n) (k m : Nat) (hm : 0 < m) (hk : k + m ≤ n) : Bys w (.slice (some ⟨g, off + k, none⟩) m m) ((l.drop k).take m) := by
  have hlen : ((l.drop k).take m).length = m := by simp; omega
  rcases h with ⟨a', c', h1, h2, h3⟩ | ⟨g', off', cap, h1, h2, h3, h4⟩
  · omega
  · simp only [Value.slice.injEq, Option.some.injEq, Addr.mk.injEq] at h1
    obtain ⟨⟨rfl, rfl, _⟩, _, rfl⟩ := h1
    refine .inr ⟨g, off + k, m, by rw [hlen], by omega, by omega, fun j x hj => ?_⟩
    rw [List.getElem?_map, List.getElem?_take] at hj
    split at hj
    · rw [List.getElem?_drop] at hj
      have := h4 (k + j) x (by rw [List.getElem?_map]; exact hj)
      rwa [← Nat.add_assoc] at this
    · cases hj
theorem ImgR.part {B b g : Nat} {n c : Nat} {l : List UInt8} {w : World} (h : ImgR B b (some ⟨g, 0, none⟩) n c l w) {j : Nat} (hj : j < n / 256) : Bys w (.slice (some ⟨g, j * 256, none⟩) 256 256) (blkB l j) := by
  have := Bys.mid (bys_of (own_sl h.row) h.len) h.len (j * 256) 256 (by decide) (by omega)
  rwa [Nat.zero_add] at this
/-- what Read hands back -/
def ReadP (n : Nat) (l : List UInt8) (k : Int) (w : World) (e : Ending) (w' : World) : Prop :=
  (¬ (0 ≤ k ∧ k < (n / 256 : Nat)) ∧ ∃ v, e = .returned (.tuple #[v, .int .i64 3]) ∧ Below w.heap.size w w') ∨
  (∃ j : Nat, k = (j : Int) ∧ j < n / 256 ∧ ∃ p c, e = .returned (.tuple #[.slice p 256 c, .int .i64 0]) ∧ Below w.heap.size w w' ∧ w'.ownsRow w.heap.size 5 1 (.slice p 256 c) 256 ((blkB l j).map bv))
set_option maxRecDepth 100000 in
set_option maxHeartbeats 1000000 in
theorem image_block_out (b : Nat) (p : Option Addr) (n c : Nat) (k : Int) (w : World) (hk : Blk w b [.slice p n c] 100) (hn : n ≤ 100000000) (ho : ¬ (0 ≤ k ∧ k < (n / 256 : Nat))) :
    Calls Tryz.prog 97 #[.pointer (some ⟨b, 0, none⟩), .int .i64 k] w (Ret (.tuple #[.slice none 0 0, .int .i64 3]) w) := by
 refine zin 33 Tryz.func97 ?_
 refine xg 21 [13, 14] (decide (k < (0 : Int))) (fun hc1 => ?_) (fun hc1 => ?_)
 · have hc1 := of_decide_eq_true hc1
   exact xe 18 (.tuple #[.slice none 0 0, .int .i64 3]) ⟨rfl, (Below.refl w.heap.size _)⟩
 have hc1 := of_decide_eq_false hc1
 refine xr 2 (args := #[.pointer (some ⟨b, 0, none⟩)]) (image_Blocks b _ n c _ (hk.below (Below.refl w.heap.size _)) hn) fun W2 hb2 => ?_
 refine xk 5 (show (decide (k ≥ (↑(n / 256) : Int)) : Bool) = true from decide_eq_true (by omega)) ?_
 exact xe 9 (.tuple #[.slice none 0 0, .int .i64 3]) ⟨rfl, hb2⟩
set_option maxRecDepth 100000 in
set_option maxHeartbeats 1000000 in
theorem image_block_nil (k : Int) (w : World) :
    Calls Tryz.prog 97 #[.pointer none, .int .i64 k] w (Ret (.tuple #[.slice none 0 0, .int .i64 18]) w) := by
 refine zin 33 Tryz.func97 ?_
 exact xe 25 (.tuple #[.slice none 0 0, .int .i64 18]) ⟨rfl, (Below.refl w.heap.size _)⟩
set_option maxRecDepth 100000 in
set_option maxHeartbeats 1000000 in
theorem image_Read_nilp (k : Int) (w : World) :
    Calls Tryz.prog 99 #[.pointer none, .int .i64 k] w (RetS (fun _ r => ∃ v, r = .tuple #[v, .int .i64 18]) w) := by
 refine zin 17 Tryz.func99 ?_
 refine xr 10 (args := #[.pointer none, .int .i64 k]) (image_block_nil k _) fun W1 hb1 => ?_
 refine xc 10 (args := #[.slice none 0 0]) (clone_nil 0 _) ?_
 rintro _ W2 ⟨v2, rfl, hb2, _⟩
 have hB := Bl.next hb1 hb2
 exact xe 6 (.tuple #[v2, .int .i64 18]) ⟨_, rfl, hB, _, rfl⟩
set_option maxRecDepth 100000 in
set_option maxHeartbeats 1000000 in
theorem image_Read_out (B b : Nat) (p : Option Addr) (n c : Nat) (l : List UInt8) (k : Int) (w : World) (hI : ImgR B b p n c l w) (ho : ¬ (0 ≤ k ∧ k < (n / 256 : Nat))) :
    Calls Tryz.prog 99 #[.pointer (some ⟨b, 0, none⟩), .int .i64 k] w (RetS (fun _ r => ∃ v, r = .tuple #[v, .int .i64 3]) w) := by
 refine zin 17 Tryz.func99 ?_
 refine xr 10 (args := #[.pointer (some ⟨b, 0, none⟩), .int .i64 k]) (image_block_out b p n c k _ (hI.below (Below.refl w.heap.size _)).blk (by have := hI.hn; omega) ho) fun W1 hb1 => ?_
 refine xc 10 (args := #[.slice none 0 0]) (clone_nil 0 _) ?_
 rintro _ W2 ⟨v2, rfl, hb2, _⟩
 have hB := Bl.next hb1 hb2
 exact xe 6 (.tuple #[v2, .int .i64 3]) ⟨_, rfl, hB, _, rfl⟩
set_option maxRecDepth 100000 in
set_option maxHeartbeats 1000000 in
theorem image_Read_in (B b g : Nat) (n c : Nat) (l : List UInt8) (j : Nat) (w : World) (hI : ImgR B b (some ⟨g, 0, none⟩) n c l w) (hj : j < n / 256) (hc : n ≤ c) :
    Calls Tryz.prog 99 #[.pointer (some ⟨b, 0, none⟩), .int .i64 (↑j : Int)] w (RetS (fun w' r => ∃ p2 c3, r = .tuple #[.slice p2 256 c3, .int .i64 0] ∧ w'.ownsRow w.heap.size 5 1 (.slice p2 256 c3) 256 ((blkB l j).map bv)) w) := by
 have hlj := blkB_len (l := l) (j := j) (by rw [hI.len]; exact hj)
 refine zin 17 Tryz.func99 ?_
 refine xr 10 (args := #[.pointer (some ⟨b, 0, none⟩), .int .i64 (↑j : Int)]) (image_block b g n c j _ (hI.below (Below.refl w.heap.size _)).blk (by have := hI.hn; omega) hc hj) fun W1 hb1 => ?_
 refine xc 10 (args := #[.slice (some ⟨g, (j * 256), none⟩) 256 256]) (clone_bytesN (some ⟨g, (j * 256), none⟩) 256 256 (blkB l j) _ hlj ((hI.below hb1).part hj) (by decide)) ?_
 rintro _ W2 ⟨_, rfl, hb2, ho⟩
 have ho'1 := own_mono ho hb1.size
 unfold OwnB at ho'1
 rw [hlj] at ho'1
 obtain ⟨p2, c3, rfl⟩ := (own_sl ho'1).slice
 have hB'1 := Bl.next hb1 hb2
 exact xe 6 (.tuple #[.slice p2 256 c3, .int .i64 0]) ⟨_, rfl, hB'1, _, _, rfl, ho'1⟩
theorem image_Read (B b : Nat) (p : Option Addr) (n c : Nat) (l : List UInt8) (k : Int) (w : World) (hI : ImgR B b p n c l w) :
    Calls Tryz.prog 99 #[.pointer (some ⟨b, 0, none⟩), .int .i64 k] w (ReadP n l k w) := by
  by_cases h : 0 ≤ k ∧ k < (n / 256 : Nat)
  · obtain ⟨g, rfl, hc⟩ := hI.base (by omega)
    obtain ⟨j, rfl⟩ : ∃ j : Nat, k = j := ⟨k.toNat, by omega⟩
    refine (image_Read_in B b g n c l j w hI (by omega) hc).mono ?_
    rintro e W ⟨_, rfl, hb, p2, c3, rfl, ho⟩
    exact .inr ⟨j, rfl, by omega, _, _, rfl, hb, ho⟩
  · refine (image_Read_out B b p n c l k w hI h).mono ?_
    rintro e W ⟨_, rfl, hb, v, rfl⟩
    exact .inl ⟨h, _, rfl, hb⟩
/-- what a block of a kind has within: the error's number -/
def inE (l : List UInt8) (kind no : Int) : Int := if 0 ≤ no ∧ no < (l.length / 256 : Nat) then openE kind no (blkB l no.toNat) else 3
/-- and the bytes -/
def inB (l : List UInt8) (no : Int) : List UInt8 := ((blkB l no.toNat).drop 8).take 244
theorem inE_out {l : List UInt8} {kind no : Int} {n : Nat} (hl : l.length = n) (h : ¬ (0 ≤ no ∧ no < (n / 256 : Nat))) : inE l kind no = 3 := by subst hl; exact if_neg h
theorem inE_in {l : List UInt8} {kind no : Int} {n j : Nat} (hl : l.length = n) (hk : no = (j : Int)) (h : j < n / 256) : inE l kind no = openE kind no (blkB l j) := by
  subst hl hk; rw [inE, if_pos ⟨by omega, by omega⟩]; rfl
theorem inB_in {l : List UInt8} {no : Int} {j : Nat} (hk : no = (j : Int)) : inB l no = ((blkB l j).drop 8).take 244 := by subst hk; rfl
theorem inB_len {l : List UInt8} {no : Int} {n j : Nat} (hl : l.length = n) (hk : no = (j : Int)) (h : j < n / 256) : (inB l no).length = 244 := by
  subst hl hk; have := blkB_len h; simp [inB, this]
end Go.Proofs.YtinegkldgjhnpaaGreatDoor
namespace Go.Proofs.YtinegkldgjhnpaaGreatDoor
open Go.RowKit Go.Extern.Stop Go.Stop Go.Extern
set_option linter.unusedVariables false
attribute [local irreducible] wpList wpAnyH Code.wp Oper.wp Go

theorem seal_OpenN (kind no : Int) (a : Option Addr) (n c : Nat) (l : List UInt8) (w : World) (hn : l.length = n) (h : Bys w (.slice a n c) l) : Calls Tryz.prog 100 #[.slice a n c, .int .i64 kind, .int .i64 no] w (OpenP kind no l w) := by
  subst hn; exact seal_Open kind no a c l w h
/-- a node, asked as a tree's: the error's number -/
def nodeTE (l : List UInt8) (tree : Int) : Int := if nodeE l = 0 then (if tree = 0 ∨ nodT l = tree then 0 else 6) else nodeE l
/-- what package block has for a node -/
def nodeErr (l : List UInt8) (no tree : Int) : Int := if inE l 2 no = 0 then nodeTE (inB l no) tree else inE l 2 no
def nodeV (l : List UInt8) (kp vp : Option Addr) (kc vc : Nat) : Value := .agg #[.int .i64 (nodT l), .bool (nodL l), .slice kp (nodC l) kc, .slice vp (nodC l) vc]
def Node1P (l : List UInt8) (tree : Int) (w : World) (e : Ending) (w' : World) : Prop :=
  (nodeTE l tree ≠ 0 ∧ ∃ a b kp n1 kc vp n2 vc, e = .returned (.tuple #[.agg #[.int .i64 a, .bool b, .slice kp n1 kc, .slice vp n2 vc], .int .i64 (nodeTE l tree)]) ∧ Below w.heap.size w w') ∨
  (nodeTE l tree = 0 ∧ ∃ kp kc vp vc, e = .returned (.tuple #[.agg #[.int .i64 (nodT l), .bool (nodL l), .slice kp (nodC l) kc, .slice vp (nodC l) vc], .int .i64 0]) ∧ Below w.heap.size w w' ∧
    w'.ownsRow w.heap.size 3 1 (.slice kp (nodC l) kc) (nodC l) ((keysI l (nodC l)).map (Value.int .i64)) ∧ w'.ownsRow w.heap.size 9 1 (.slice vp (nodC l) vc) (nodC l) ((valsL l (nodC l)).map sv))
def BlkNodeP (l : List UInt8) (no tree : Int) (w : World) (e : Ending) (w' : World) : Prop :=
  (nodeErr l no tree ≠ 0 ∧ ∃ b, e = .returned (.tuple #[.agg #[.int .i64 0, .bool false, .slice none 0 0, .slice none 0 0], .iface 67 (.pointer (some ⟨b, 0, none⟩))]) ∧ Below w.heap.size w w' ∧ ErrV w' [some no] (some (nodeErr l no tree)) (.iface 67 (.pointer (some ⟨b, 0, none⟩)))) ∨
  (nodeErr l no tree = 0 ∧ ∃ kp kc vp vc, e = .returned (.tuple #[.agg #[.int .i64 (nodT (inB l no)), .bool (nodL (inB l no)), .slice kp (nodC (inB l no)) kc, .slice vp (nodC (inB l no)) vc], .nilIface]) ∧ Below w.heap.size w w' ∧
    w'.ownsRow w.heap.size 3 1 (.slice kp (nodC (inB l no)) kc) (nodC (inB l no)) ((keysI (inB l no) (nodC (inB l no))).map (Value.int .i64)) ∧ w'.ownsRow w.heap.size 9 1 (.slice vp (nodC (inB l no)) vc) (nodC (inB l no)) ((valsL (inB l no) (nodC (inB l no))).map sv))
set_option maxRecDepth 100000 in
set_option maxHeartbeats 1000000 in
theorem node_1 (tree : Int) (bt : Nat) (a : Option Addr) (c : Nat) (l : List UInt8) (w : World) (kt : Blk w bt [.int .i64 tree] 3) (hl : l.length = 244) (h : Bys w (.slice a 244 c) l) :
    Calls Tryz.prog 57 #[.slice a 244 c, .pointer (some ⟨bt, 0, none⟩)] w (Node1P l tree w) := by
 refine zin 27 Tryz.func57 ?_
 refine xa 2 [.int .i64 0, .bool false, .slice none 0 0, .slice none 0 0] 52 fun b1 W1 n1 => ?_
 refine xc 6 (args := #[.slice a 244 c]) (node_Read a c l _ hl (h.below n1.below)) ?_
 rintro e W2 hq2
 rcases hq2 with ⟨hz, rfl, hb2⟩ | ⟨hz, kp, kc, vp, vc, rfl, hb2, hk, hv_⟩
 · refine xa 3 [.int .i64 0, .bool false, .slice none 0 0, .slice none 0 0] 52 fun b3 W3 n3 => ?_
   have k1 := n1.blk.below hb2
   have d3_b1 := n3.ne k1
   have hB'1 := Bl.next n1.below hb2
   have g3 := n3.ge hB'1
   refine xsv 0 n3.blk [.int .i64 0, .bool false, .slice none 0 0, .slice none 0 0] fun W4 u4 k4 => ?_
   refine xgk 9 [13, 14] (show (((nodeE l) == (0 : Int)) : Bool) = false from beq_false_of_ne hz) ?_
   refine xlv 16 k4.rp ?_
   have k1'1 := u4.blk (k1.below n3.below) (Ne.symm (Ne.symm d3_b1))
   refine xsv 1 k1'1 [.int .i64 0, .bool false, .slice none 0 0, .slice none 0 0] fun W6 u6 k6 => ?_
   have g1 := n1.ge (Below.refl w.heap.size _)
   have hB'2 := u6.below (u4.below (Bl.next hB'1 n3.below) g3) g1
   exact xec 4 k6 (.tuple #[.agg #[.int .i64 0, .bool false, .slice none 0 0, .slice none 0 0], .int .i64 (nodeE l)]) (.inl ⟨by unfold nodeTE; rw [if_neg hz]; exact hz, _, _, _, _, _, _, _, _, by unfold nodeTE; rw [if_neg hz], hB'2⟩)
 refine xa 3 [.int .i64 0, .bool false, .slice none 0 0, .slice none 0 0] 52 fun b7 W7 n7 => ?_
 have k1 := n1.blk.below hb2
 have d7_b1 := n7.ne k1
 have hB'3 := Bl.next n1.below hb2
 have g7 := n7.ge hB'3
 refine xsv 0 n7.blk [.int .i64 (nodT l), .bool (nodL l), .slice kp (nodC l) kc, .slice vp (nodC l) vc] fun W8 u8 k8 => ?_
 have kt'1 := u8.blkT (((kt.below n1.below).below hb2).below n7.below) n7.blk (by decide)
 refine xb 9 0 kt'1 ?_
 refine xg 3 [16, 17, 18] (tree != (0 : Int)) (fun hc9 => ?_) (fun hc9 => ?_)
 · have hc9 := ne_of_bne hc9
   refine xb 1 0 k8 ?_
   refine xb 0 0 kt'1 ?_
   refine xin 4 (nodT l) tree (fun hc10 => ?_) (fun hc10 => ?_)
   · refine xlv 2 k8.rp ?_
     have k1'2 := u8.blk (k1.below n7.below) (Ne.symm (Ne.symm d7_b1))
     refine xsv 0 k1'2 [.int .i64 (nodT l), .bool (nodL l), .slice kp (nodC l) kc, .slice vp (nodC l) vc] fun W11 u11 k11 => ?_
     have g1 := n1.ge (Below.refl w.heap.size _)
     have hB'4 := u11.below (u8.below (Bl.next hB'3 n7.below) g7) g1
     exact xec 5 k11 (.tuple #[.agg #[.int .i64 (nodT l), .bool (nodL l), .slice kp (nodC l) kc, .slice vp (nodC l) vc], .int .i64 6]) (.inl ⟨by unfold nodeTE; rw [if_pos hz, if_neg (by omega)]; decide, _, _, _, _, _, _, _, _, by unfold nodeTE; rw [if_pos hz, if_neg (by omega)], hB'4⟩)
   refine xlv 4 k8.rp ?_
   have k1'3 := u8.blk (k1.below n7.below) (Ne.symm (Ne.symm d7_b1))
   refine xsv 1 k1'3 [.int .i64 (nodT l), .bool (nodL l), .slice kp (nodC l) kc, .slice vp (nodC l) vc] fun W12 u12 k12 => ?_
   have g1 := n1.ge (Below.refl w.heap.size _)
   have hB'5 := u12.below (u8.below (Bl.next hB'3 n7.below) g7) g1
   have hk'1 := u12.own2 (u8.own2 (own_below (own_mono hk n1.below.size) n7.below) n7.blk (by decide)) k1'3 (by decide)
   have hv_'1 := u12.own2 (u8.own2 (own_below (own_mono hv_ n1.below.size) n7.below) n7.blk (by decide)) k1'3 (by decide)
   exact xec 4 k12 (.tuple #[.agg #[.int .i64 (nodT l), .bool (nodL l), .slice kp (nodC l) kc, .slice vp (nodC l) vc], .int .i64 0]) (.inr ⟨by unfold nodeTE; rw [if_pos hz, if_pos (by omega)], _, _, _, _, rfl, hB'5, hk'1, hv_'1⟩)
 have hc9 := eq_of_bne_false hc9
 refine xlv 12 k8.rp ?_
 have k1'4 := u8.blk (k1.below n7.below) (Ne.symm (Ne.symm d7_b1))
 refine xsv 1 k1'4 [.int .i64 (nodT l), .bool (nodL l), .slice kp (nodC l) kc, .slice vp (nodC l) vc] fun W13 u13 k13 => ?_
 have g1 := n1.ge (Below.refl w.heap.size _)
 have hB'6 := u13.below (u8.below (Bl.next hB'3 n7.below) g7) g1
 have hk'2 := u13.own2 (u8.own2 (own_below (own_mono hk n1.below.size) n7.below) n7.blk (by decide)) k1'4 (by decide)
 have hv_'2 := u13.own2 (u8.own2 (own_below (own_mono hv_ n1.below.size) n7.below) n7.blk (by decide)) k1'4 (by decide)
 exact xec 4 k13 (.tuple #[.agg #[.int .i64 (nodT l), .bool (nodL l), .slice kp (nodC l) kc, .slice vp (nodC l) vc], .int .i64 0]) (.inr ⟨by unfold nodeTE; rw [if_pos hz, if_pos (by omega)], _, _, _, _, rfl, hB'6, hk'2, hv_'2⟩)
set_option maxRecDepth 100000 in
set_option maxHeartbeats 1000000 in
theorem readNode (B b : Nat) (p : Option Addr) (n c : Nat) (l : List UInt8) (no tree : Int) (w : World) (hI : ImgR B b p n c l w) (bt : Nat) (kt : Blk w bt [.int .i64 tree] 3) :
    Calls Tryz.prog 56 #[.pointer (some ⟨b, 0, none⟩), .int .i64 no, .int .i64 2, .func (.func 57) #[] #[.pointer (some ⟨bt, 0, none⟩)]] w (BlkNodeP l no tree w) := by
 refine zin 56 Tryz.func56 ?_
 refine xa 2 [.int .i64 0, .bool false, .slice none 0 0, .slice none 0 0] 52 fun b1 W1 n1 => ?_
 refine xa 5 [.int .i64 0, .bool false, .slice none 0 0, .slice none 0 0] 52 fun b2 W2 n2 => ?_
 have d2_b1 := n2.ne n1.blk
 have hB := Bl.next n1.below n2.below
 refine xc 6 (args := #[.pointer (some ⟨b, 0, none⟩), .int .i64 no]) (image_Read B b p n c l no _ (hI.below hB)) ?_
 rintro e W3 hq3
 rcases hq3 with ⟨ho, vr, rfl, hb3⟩ | ⟨j, hk, hj, p2, c2, rfl, hb3, ho⟩
 · refine xd 16 (.t w.heap.size [52]) ?_
   refine xm2 (.b [1, 2, 3]) 0 4 ?_ ?_
   · have k2 := (n2.blk.below hb3).below (below_drew W3)
     refine xlv 0 k2.rp ?_
     refine yc (.o [] 4) (args := #[.int .i64 no, .iface 53 (.int .i64 3)]) (.t w.heap.size [52]) (block_told no 3 _) ?_
     rintro _ W4 ⟨_, rfl, hb4, hv4⟩
     refine ⟨(SF.of_below _ hb4), ?_⟩
     rw [if_neg (by decide), if_neg (by decide)] at hv4
     have hq4 := hv4
     obtain ⟨bf4, vf4, rfl, _, _⟩ := hq4
     have k1'1 := (((n1.blk.below n2.below).below hb3).below (below_drew W3)).below hb4
     have g1 := n1.ge (Below.refl w.heap.size _)
     refine ysv (.o [] 5) k1'1 [.int .i64 0, .bool false, .slice none 0 0, .slice none 0 0] (.t w.heap.size [52]) fun W5 u5 k5 => ⟨(sft_upd u5 k1'1 g1 (by decide)), ?_⟩
     have hB'1 := u5.below (Bl.next (Bl.next (Bl.next hB hb3) (below_drew W3)) hb4) g1
     have hv4'1 := hv4.upd u5 k1'1 (by decide)
     refine xec (.r [6] 4) k5 (.tuple #[.agg #[.int .i64 0, .bool false, .slice none 0 0, .slice none 0 0], .iface 67 (.pointer (some ⟨bf4, 0, none⟩))]) ?_
     have he : nodeErr l no tree = 3 := by unfold nodeErr; rw [inE_out hI.len ho]; rfl
     exact .inl ⟨by rw [he]; decide, _, rfl, hB'1, by rw [he]; exact hv4'1⟩
   refine yc 0 (args := #[.int .i64 no, .iface 53 (.int .i64 3)]) (.t w.heap.size [52]) (block_told no 3 _) ?_
   rintro _ W6 ⟨_, rfl, hb6, hv6⟩
   refine ⟨(SF.of_below _ hb6), ?_⟩
   rw [if_neg (by decide), if_neg (by decide)] at hv6
   have hq6 := hv6
   obtain ⟨bf6, vf6, rfl, _, _⟩ := hq6
   have k2 := ((n2.blk.below hb3).below (below_drew W3)).below hb6
   refine xlv (.o [] 0) k2.rp ?_
   have k1'2 := (((n1.blk.below n2.below).below hb3).below (below_drew W3)).below hb6
   have g1 := n1.ge (Below.refl w.heap.size _)
   refine ysv (.o [] 5) k1'2 [.int .i64 0, .bool false, .slice none 0 0, .slice none 0 0] (.t w.heap.size [52]) fun W7 u7 k7 => ⟨(sft_upd u7 k1'2 g1 (by decide)), ?_⟩
   have hB'2 := u7.below (Bl.next (Bl.next (Bl.next hB hb3) (below_drew W3)) hb6) g1
   have hv6'1 := hv6.upd u7 k1'2 (by decide)
   refine xec (.r [6] 4) k7 (.tuple #[.agg #[.int .i64 0, .bool false, .slice none 0 0, .slice none 0 0], .iface 67 (.pointer (some ⟨bf6, 0, none⟩))]) ?_
   have he : nodeErr l no tree = 3 := by unfold nodeErr; rw [inE_out hI.len ho]; rfl
   exact .inl ⟨by rw [he]; decide, _, rfl, hB'2, by rw [he]; exact hv6'1⟩
 have hs3 := (Bl.next n1.below n2.below).size
 have hj2 : j < l.length / 256 := by rw [hI.len]; exact hj
 have hlj := blkB_len hj2
 have he2 := inE_in (l := l) (kind := 2) hI.len hk hj
 have ho'1 := own_mono ho hs3
 refine xc 22 (args := #[.slice p2 256 c2, .int .i64 2, .int .i64 no]) (seal_OpenN 2 no p2 256 c2 (blkB l j) _ hlj (bys_of (own_sl ho'1) hlj)) ?_
 rintro e W8 hq8
 rcases hq8 with ⟨hs, rfl, hb8⟩ | ⟨hs, p3, c3, rfl, hb8, h3⟩
 · refine xk 14 (show (((openE 2 no (blkB l j)) != (0 : Int)) : Bool) = true from bne_iff_ne.2 hs) ?_
   refine xd 1 (.t w.heap.size [52]) ?_
   refine xm2 (.b [1, 2, 3]) 0 4 ?_ ?_
   · have k2 := ((n2.blk.below hb3).below hb8).below (below_drew W8)
     refine xlv 0 k2.rp ?_
     refine yc (.o [] 4) (args := #[.int .i64 no, .iface 53 (.int .i64 (openE 2 no (blkB l j)))]) (.t w.heap.size [52]) (block_told no (openE 2 no (blkB l j)) _) ?_
     rintro _ W9 ⟨_, rfl, hb9, hv9⟩
     refine ⟨(SF.of_below _ hb9), ?_⟩
     rw [if_neg hs, if_neg hs] at hv9
     have hq9 := hv9
     obtain ⟨bf9, vf9, rfl, _, _⟩ := hq9
     have k1'3 := ((((n1.blk.below n2.below).below hb3).below hb8).below (below_drew W8)).below hb9
     have g1 := n1.ge (Below.refl w.heap.size _)
     refine ysv (.o [] 5) k1'3 [.int .i64 0, .bool false, .slice none 0 0, .slice none 0 0] (.t w.heap.size [52]) fun W10 u10 k10 => ⟨(sft_upd u10 k1'3 g1 (by decide)), ?_⟩
     have hB'3 := u10.below (Bl.next (Bl.next (Bl.next (Bl.next hB hb3) hb8) (below_drew W8)) hb9) g1
     have hv9'1 := hv9.upd u10 k1'3 (by decide)
     refine xec (.r [6] 4) k10 (.tuple #[.agg #[.int .i64 0, .bool false, .slice none 0 0, .slice none 0 0], .iface 67 (.pointer (some ⟨bf9, 0, none⟩))]) ?_
     have he : nodeErr l no tree = openE 2 no (blkB l j) := by unfold nodeErr; rw [he2, if_neg hs]
     exact .inl ⟨by rw [he]; exact hs, _, rfl, hB'3, by rw [he]; exact hv9'1⟩
   refine yc 0 (args := #[.int .i64 no, .iface 53 (.int .i64 (openE 2 no (blkB l j)))]) (.t w.heap.size [52]) (block_told no (openE 2 no (blkB l j)) _) ?_
   rintro _ W11 ⟨_, rfl, hb11, hv11⟩
   refine ⟨(SF.of_below _ hb11), ?_⟩
   rw [if_neg hs, if_neg hs] at hv11
   have hq11 := hv11
   obtain ⟨bf11, vf11, rfl, _, _⟩ := hq11
   have k2 := (((n2.blk.below hb3).below hb8).below (below_drew W8)).below hb11
   refine xlv (.o [] 0) k2.rp ?_
   have k1'4 := ((((n1.blk.below n2.below).below hb3).below hb8).below (below_drew W8)).below hb11
   have g1 := n1.ge (Below.refl w.heap.size _)
   refine ysv (.o [] 5) k1'4 [.int .i64 0, .bool false, .slice none 0 0, .slice none 0 0] (.t w.heap.size [52]) fun W12 u12 k12 => ⟨(sft_upd u12 k1'4 g1 (by decide)), ?_⟩
   have hB'4 := u12.below (Bl.next (Bl.next (Bl.next (Bl.next hB hb3) hb8) (below_drew W8)) hb11) g1
   have hv11'1 := hv11.upd u12 k1'4 (by decide)
   refine xec (.r [6] 4) k12 (.tuple #[.agg #[.int .i64 0, .bool false, .slice none 0 0, .slice none 0 0], .iface 67 (.pointer (some ⟨bf11, 0, none⟩))]) ?_
   have he : nodeErr l no tree = openE 2 no (blkB l j) := by unfold nodeErr; rw [he2, if_neg hs]
   exact .inl ⟨by rw [he]; exact hs, _, rfl, hB'4, by rw [he]; exact hv11'1⟩
 have hs8 := (Bl.next hB hb3).size
 have h3'1 := own_mono h3 hs8
 have hin : ((blkB l j).drop 8).take 244 = inB l no := (inB_in hk).symm
 have hil := inB_len hI.len hk hj
 rw [hin] at h3'1
 have hB'5 := Bl.next (Bl.next hB hb3) hb8
 refine xc 21 (args := #[.slice p3 244 c3, .pointer (some ⟨bt, 0, none⟩)]) (node_1 tree bt p3 c3 (inB l no) _ (kt.below hB'5) hil (bys_of (own_sl h3'1) hil)) ?_
 rintro e W13 hq13
 rcases hq13 with ⟨hz, a5, b5, kp, m1, kc, vp, m2, vc, rfl, hb13⟩ | ⟨hz, kp, kc, vp, vc, rfl, hb13, hk, hv_⟩
 · refine xa 3 [.int .i64 0, .bool false, .slice none 0 0, .slice none 0 0] 52 fun b14 W14 n14 => ?_
   have k1'5 := (((n1.blk.below n2.below).below hb3).below hb8).below hb13
   have d14_b1 := n14.ne k1'5
   have k2 := ((n2.blk.below hb3).below hb8).below hb13
   have d14_b2 := n14.ne k2
   have hB'6 := Bl.next hB'5 hb13
   have g14 := n14.ge hB'6
   refine xsv 0 n14.blk [.int .i64 a5, .bool b5, .slice kp m1 kc, .slice vp m2 vc] fun W15 u15 k15 => ?_
   refine xk 10 (show (((nodeTE (inB l no) tree) != (0 : Int)) : Bool) = true from bne_iff_ne.2 hz) ?_
   refine xd 1 (.t w.heap.size [52]) ?_
   refine xm2 (.b [1, 2, 3]) 0 4 ?_ ?_
   · have k2'1 := (u15.blk (k2.below n14.below) (Ne.symm (Ne.symm d14_b2))).below (below_drew W15)
     refine xlv 0 k2'1.rp ?_
     refine yc (.o [] 4) (args := #[.int .i64 no, .iface 53 (.int .i64 (nodeTE (inB l no) tree))]) (.t w.heap.size [52]) (block_told no (nodeTE (inB l no) tree) _) ?_
     rintro _ W16 ⟨_, rfl, hb16, hv16⟩
     refine ⟨(SF.of_below _ hb16), ?_⟩
     rw [if_neg hz, if_neg hz] at hv16
     have hq16 := hv16
     obtain ⟨bf16, vf16, rfl, _, _⟩ := hq16
     have k1'6 := ((u15.blk (k1'5.below n14.below) (Ne.symm (Ne.symm d14_b1))).below (below_drew W15)).below hb16
     have g1 := n1.ge (Below.refl w.heap.size _)
     refine ysv (.o [] 5) k1'6 [.int .i64 0, .bool false, .slice none 0 0, .slice none 0 0] (.t w.heap.size [52]) fun W17 u17 k17 => ⟨(sft_upd u17 k1'6 g1 (by decide)), ?_⟩
     have hB'7 := u17.below (Bl.next (Bl.next (u15.below (Bl.next hB'6 n14.below) g14) (below_drew W15)) hb16) g1
     have hv16'1 := hv16.upd u17 k1'6 (by decide)
     refine xec (.r [6] 4) k17 (.tuple #[.agg #[.int .i64 0, .bool false, .slice none 0 0, .slice none 0 0], .iface 67 (.pointer (some ⟨bf16, 0, none⟩))]) ?_
     have he : nodeErr l no tree = nodeTE (inB l no) tree := by unfold nodeErr; rw [he2, if_pos hs]
     exact .inl ⟨by rw [he]; exact hz, _, rfl, hB'7, by rw [he]; exact hv16'1⟩
   refine yc 0 (args := #[.int .i64 no, .iface 53 (.int .i64 (nodeTE (inB l no) tree))]) (.t w.heap.size [52]) (block_told no (nodeTE (inB l no) tree) _) ?_
   rintro _ W18 ⟨_, rfl, hb18, hv18⟩
   refine ⟨(SF.of_below _ hb18), ?_⟩
   rw [if_neg hz, if_neg hz] at hv18
   have hq18 := hv18
   obtain ⟨bf18, vf18, rfl, _, _⟩ := hq18
   have k2'2 := ((u15.blk (k2.below n14.below) (Ne.symm (Ne.symm d14_b2))).below (below_drew W15)).below hb18
   refine xlv (.o [] 0) k2'2.rp ?_
   have k1'7 := ((u15.blk (k1'5.below n14.below) (Ne.symm (Ne.symm d14_b1))).below (below_drew W15)).below hb18
   have g1 := n1.ge (Below.refl w.heap.size _)
   refine ysv (.o [] 5) k1'7 [.int .i64 0, .bool false, .slice none 0 0, .slice none 0 0] (.t w.heap.size [52]) fun W19 u19 k19 => ⟨(sft_upd u19 k1'7 g1 (by decide)), ?_⟩
   have hB'8 := u19.below (Bl.next (Bl.next (u15.below (Bl.next hB'6 n14.below) g14) (below_drew W15)) hb18) g1
   have hv18'1 := hv18.upd u19 k1'7 (by decide)
   refine xec (.r [6] 4) k19 (.tuple #[.agg #[.int .i64 0, .bool false, .slice none 0 0, .slice none 0 0], .iface 67 (.pointer (some ⟨bf18, 0, none⟩))]) ?_
   have he : nodeErr l no tree = nodeTE (inB l no) tree := by unfold nodeErr; rw [he2, if_pos hs]
   exact .inl ⟨by rw [he]; exact hz, _, rfl, hB'8, by rw [he]; exact hv18'1⟩
 have hs13 := (Bl.next (Bl.next hB hb3) hb8).size
 refine xa 3 [.int .i64 0, .bool false, .slice none 0 0, .slice none 0 0] 52 fun b20 W20 n20 => ?_
 have k1'8 := (((n1.blk.below n2.below).below hb3).below hb8).below hb13
 have d20_b1 := n20.ne k1'8
 have k2 := ((n2.blk.below hb3).below hb8).below hb13
 have d20_b2 := n20.ne k2
 have hB'9 := Bl.next hB'5 hb13
 have g20 := n20.ge hB'9
 refine xsv 0 n20.blk [.int .i64 (nodT (inB l no)), .bool (nodL (inB l no)), .slice kp (nodC (inB l no)) kc, .slice vp (nodC (inB l no)) vc] fun W21 u21 k21 => ?_
 refine xlv 15 k21.rp ?_
 have k1'9 := u21.blk (k1'8.below n20.below) (Ne.symm (Ne.symm d20_b1))
 refine xsv 0 k1'9 [.int .i64 (nodT (inB l no)), .bool (nodL (inB l no)), .slice kp (nodC (inB l no)) kc, .slice vp (nodC (inB l no)) vc] fun W22 u22 k22 => ?_
 have g1 := n1.ge (Below.refl w.heap.size _)
 have hB'10 := u22.below (u21.below (Bl.next hB'9 n20.below) g20) g1
 have hk'1 := u22.own2 (u21.own2 (own_below (own_mono hk hs13) n20.below) n20.blk (by decide)) k1'9 (by decide)
 have hv_'1 := u22.own2 (u21.own2 (own_below (own_mono hv_ hs13) n20.below) n20.blk (by decide)) k1'9 (by decide)
 exact xec 4 k22 (.tuple #[.agg #[.int .i64 (nodT (inB l no)), .bool (nodL (inB l no)), .slice kp (nodC (inB l no)) kc, .slice vp (nodC (inB l no)) vc], .nilIface]) (.inr ⟨by unfold nodeErr; rw [he2, if_pos hs, hz], _, _, _, _, rfl, hB'10, hk'1, hv_'1⟩)
set_option maxRecDepth 100000 in
set_option maxHeartbeats 1000000 in
theorem block_Node (B b : Nat) (p : Option Addr) (n c : Nat) (l : List UInt8) (no tree : Int) (w : World) (hI : ImgR B b p n c l w) :
    Calls Tryz.prog 21 #[.pointer (some ⟨b, 0, none⟩), .int .i64 no, .int .i64 tree] w (BlkNodeP l no tree w) := by
 refine zin 14 Tryz.func21 ?_
 refine xa 2 [.int .i64 tree] 3 fun b1 W1 n1 => ?_
 refine xa 0 [.int .i64 0, .bool false, .slice none 0 0, .slice none 0 0] 52 fun b2 W2 n2 => ?_
 have hB := Bl.next n1.below n2.below
 have k1 := n1.blk.below n2.below
 refine xc 8 (args := #[.pointer (some ⟨b, 0, none⟩), .int .i64 no, .int .i64 2, .func (.func 57) #[] #[.pointer (some ⟨b1, 0, none⟩)]]) (readNode B b p n c l no tree _ (hI.below hB) b1 k1) ?_
 rintro e W3 hq3
 rcases hq3 with ⟨he, bf, rfl, hb3, hv⟩ | ⟨he, kp, kc, vp, vc, rfl, hb3, hk, hv_⟩
 · have k2 := n2.blk.below hb3
   refine xsv 2 k2 [.int .i64 0, .bool false, .slice none 0 0, .slice none 0 0] fun W4 u4 k4 => ?_
   have g2 := n2.ge n1.below
   have hB'1 := u4.below (Bl.next hB hb3) g2
   have hv'1 := hv.upd u4 k2 (by decide)
   exact xec 4 k4 (.tuple #[.agg #[.int .i64 0, .bool false, .slice none 0 0, .slice none 0 0], .iface 67 (.pointer (some ⟨bf, 0, none⟩))]) (.inl ⟨he, _, rfl, hB'1, hv'1⟩)
 have hs3 := (Bl.next n1.below n2.below).size
 have k2 := n2.blk.below hb3
 refine xsv 2 k2 [.int .i64 (nodT (inB l no)), .bool (nodL (inB l no)), .slice kp (nodC (inB l no)) kc, .slice vp (nodC (inB l no)) vc] fun W5 u5 k5 => ?_
 have g2 := n2.ge n1.below
 have hB'2 := u5.below (Bl.next hB hb3) g2
 have hk'1 := u5.own2 (own_mono hk hs3) k2 (by decide)
 have hv_'1 := u5.own2 (own_mono hv_ hs3) k2 (by decide)
 exact xec 4 k5 (.tuple #[.agg #[.int .i64 (nodT (inB l no)), .bool (nodL (inB l no)), .slice kp (nodC (inB l no)) kc, .slice vp (nodC (inB l no)) vc], .nilIface]) (.inr ⟨he, _, _, _, _, rfl, hB'2, hk'1, hv_'1⟩)
end Go.Proofs.YtinegkldgjhnpaaGreatDoor
namespace Go.Proofs.YtinegkldgjhnpaaGreatDoor
open Go.RowKit Go.Extern.Stop Go.Stop Go.Extern
set_option linter.unusedVariables false
attribute [local irreducible] wpList wpAnyH Code.wp Oper.wp Go

def slotP : List Part := [(8, 1, 14399), (4, 0, 960), (4, 0, 960)]
theorem slotP_ok : PartsOk slotP := by
  refine ⟨by decide, fun i hi => ?_⟩
  have hi' : i < 3 := hi
  obtain rfl | rfl | rfl : i = 0 ∨ i = 1 ∨ i = 2 := by omega
  all_goals simp [slotP, List.getD]
/-- a slot of an index: the number of bytes before it -/
def slotS (l : List UInt8) (i : Nat) : List UInt8 := (l.drop (4 + i * 16)).take 16
def slotK (l : List UInt8) (i k : Nat) : Nat := (readV slotP (slotS l i)).getD k 0
def sltC (x : Nat × Nat × Nat) : List Value := [.int .i64 (x.1 : Int), .int .i64 (x.2.1 : Int), .int .i64 (x.2.2 : Int)]
theorem sltC_len (x : Nat × Nat × Nat) : (sltC x).length = 3 := rfl
def sltX (l : List UInt8) (i : Nat) : Nat × Nat × Nat := (slotK l i 0, slotK l i 1, slotK l i 2)
def sltsL (l : List UInt8) (n : Nat) : List (Nat × Nat × Nat) := (List.range n).map (sltX l)
theorem sltsL_snoc (l : List UInt8) (n : Nat) : sltsL l (n + 1) = sltsL l n ++ [sltX l n] := by simp [sltsL, List.range_succ]
theorem sltsL_len (l : List UInt8) (n : Nat) : (sltsL l n).length = n := by simp [sltsL]
/-- the first number that is wrong -/
def sltsE (l : List UInt8) : Nat → Int
  | 0 => 0
  | i + 1 => if sltsE l i ≠ 0 then sltsE l i else readE slotP (slotS l i)
theorem sltsE_stop {l : List UInt8} {i : Nat} (h : sltsE l i ≠ 0) : ∀ n, i ≤ n → sltsE l n = sltsE l i
  | 0, h2 => by obtain rfl : i = 0 := by omega
                rfl
  | n + 1, h2 => by
    by_cases e : i = n + 1
    · rw [e]
    · have ih := sltsE_stop h n (by omega)
      rw [sltsE, if_pos (by rw [ih]; exact h), ih]
theorem sltsE_at {l : List UInt8} {i n : Nat} (h : sltsE l i = 0) (he : readE slotP (slotS l i) ≠ 0) (hi : i < n) : sltsE l n = readE slotP (slotS l i) := by
  have e : sltsE l (i + 1) = readE slotP (slotS l i) := by rw [sltsE, if_neg (by rw [h]; decide)]
  rw [sltsE_stop (by rw [e]; exact he) n hi, e]
theorem sltsE_next {l : List UInt8} {i : Nat} (h : sltsE l i = 0) (he : readE slotP (slotS l i) = 0) : sltsE l (i + 1) = 0 := by rw [sltsE, if_neg (by rw [h]; decide), he]
theorem slotS_len {l : List UInt8} {i : Nat} (hl : l.length = 244) (hi : i < 15) : (slotS l i).length = 16 := by simp [slotS]; omega
/-- a slot has room: it is right, or out of range -/
theorem slot_two {l : List UInt8} {i : Nat} (hl : l.length = 244) (hi : i < 15) : readE slotP (slotS l i) = 0 ∨ readE slotP (slotS l i) = 2 := by
  unfold readE
  rw [if_pos (by rw [slotS_len hl hi]; rfl)]
  split
  · exact .inl rfl
  · exact .inr rfl
/-- whether bytes are an index's, but for its slots -/
def idxOk (l : List UInt8) : Bool := decide (rawN l 0 4 ≤ 15) && zeroB (l.drop (4 + rawN l 0 4 * 16))
def idxE (l : List UInt8) : Int := if idxOk l then sltsE l (rawN l 0 4) else 7
def SlotsP (l : List UInt8) (w : World) (e : Ending) (w' : World) : Prop :=
  (idxE l ≠ 0 ∧ e = .returned (.tuple #[.slice none 0 0, .int .i64 (idxE l)]) ∧ Below w.heap.size w w') ∨
  (idxE l = 0 ∧ ∃ p c, e = .returned (.tuple #[.slice p (rawN l 0 4) c, .int .i64 0]) ∧ Below w.heap.size w w' ∧ w'.ownsRow w.heap.size 163 3 (.slice p (rawN l 0 4) c) (rawN l 0 4) ((sltsL l (rawN l 0 4)).flatMap sltC))
set_option maxRecDepth 100000 in
set_option maxHeartbeats 1000000 in
theorem value_slotR (w : World) :
    Calls Tryz.prog 146 #[] w (RetS (fun w' r => ∃ b, r = .slice (some ⟨b, 0, none⟩) 3 3 ∧ w.heap.size ≤ b ∧ Blk w' b [.int .i64 8, .int .i64 1, .int .i64 14399, .int .i64 4, .int .i64 0, .int .i64 960, .int .i64 4, .int .i64 0, .int .i64 960] 266) w) := by
 refine zin 5 Tryz.func146 ?_
 refine xbs 10 3 [.int .i64 8, .int .i64 1, .int .i64 14399, .int .i64 4, .int .i64 0, .int .i64 960, .int .i64 4, .int .i64 0, .int .i64 960] 266 fun b1 W1 n1 => ?_
 have g1 := n1.ge (Below.refl w.heap.size _)
 exact xe 4 (.slice (some ⟨b1, 0, none⟩) 3 3) ⟨_, rfl, n1.below, _, rfl, g1, n1.blk⟩
set_option maxRecDepth 100000 in
set_option maxHeartbeats 1000000 in
theorem value_ReadSlot (s : List UInt8) (w : World) (hs : s.length ≤ 1000) :
    Calls Tryz.prog 105 #[.string ⟨s.toArray⟩] w (Ret (.tuple #[.agg #[.int .i64 (↑((readV slotP s).getD 0 0) : Int), .int .i64 (↑((readV slotP s).getD 1 0) : Int), .int .i64 (↑((readV slotP s).getD 2 0) : Int)], .int .i64 (readE slotP s)]) w) := by
 refine zin 23 Tryz.func105 ?_
 refine xa 2 [.int .i64 0, .int .i64 0, .int .i64 0] 163 fun b1 W1 n1 => ?_
 refine xc 5 (args := #[]) (value_slotR _) ?_
 rintro _ W2 ⟨_, rfl, hb2, gl, rfl, gg, kl⟩
 refine xc 1 (args := #[.slice (some ⟨gl, 0, none⟩) 3 3, .string ⟨s.toArray⟩]) (value_readG slotP s (some ⟨gl, 0, none⟩) 3 _ slotP_ok (by decide) (by omega) (kl.sl 3 3 (by decide) (by decide))) ?_
 rintro _ W3 ⟨_, rfl, hb3, p5, c5, rfl, h5⟩
 have hs3 := (Bl.next n1.below hb2).size
 refine xd 8 (.t w.heap.size [163]) ?_
 have h5'1 := own_below (own_mono h5 hs3) (below_drew W3)
 refine xx (.e [0] 1) _ 3 0 1 (nv_elem (l := readV slotP s) (own_sl h5'1) (readV_len _ _) (k := 0) (by decide)).1 ?_
 refine xlt (.e [] 2) (.t w.heap.size [163]) (fun V hV => (nv_elem (l := readV slotP s) (own_sl (own_only h5'1 hV.2 (by decide))) (readV_len _ _) (k := 0) (by decide)).2) ?_
 refine xx (.e [3] 4) _ 3 1 1 (nv_elem (l := readV slotP s) (own_sl h5'1) (readV_len _ _) (k := 1) (by decide)).1 ?_
 refine xlt (.e [] 5) (.t w.heap.size [163]) (fun V hV => (nv_elem (l := readV slotP s) (own_sl (own_only h5'1 hV.2 (by decide))) (readV_len _ _) (k := 1) (by decide)).2) ?_
 refine xx (.e [6] 7) _ 3 2 1 (nv_elem (l := readV slotP s) (own_sl h5'1) (readV_len _ _) (k := 2) (by decide)).1 ?_
 refine xlt (.e [] 8) (.t w.heap.size [163]) (fun V hV => (nv_elem (l := readV slotP s) (own_sl (own_only h5'1 hV.2 (by decide))) (readV_len _ _) (k := 2) (by decide)).2) ?_
 have k1 := ((n1.blk.below hb2).below hb3).below (below_drew W3)
 have g1 := n1.ge (Below.refl w.heap.size _)
 refine ysv (.o [9, 10] 11) k1 [.int .i64 (↑((readV slotP s).getD 0 0) : Int), .int .i64 (↑((readV slotP s).getD 1 0) : Int), .int .i64 (↑((readV slotP s).getD 2 0) : Int)] (.t w.heap.size [163]) fun W4 u4 k4 => ⟨(sft_upd u4 k1 g1 (by decide)), ?_⟩
 have hB := u4.below (Bl.next (Bl.next (Bl.next n1.below hb2) hb3) (below_drew W3)) g1
 exact xec (.r [12] 3) k4 (.tuple #[.agg #[.int .i64 (↑((readV slotP s).getD 0 0) : Int), .int .i64 (↑((readV slotP s).getD 1 0) : Int), .int .i64 (↑((readV slotP s).getD 2 0) : Int)], .int .i64 (readE slotP s)]) ⟨rfl, hB⟩
set_option maxRecDepth 100000 in
set_option maxHeartbeats 1000000 in
theorem slots_next (B bt : Nat) (x : List UInt8) (w : World) (hBw : B ≤ w.heap.size) (hBt : B ≤ bt) (kt : Blk w bt [.string ⟨x.toArray⟩] 9) (hx : 16 ≤ x.length) :
    Calls Tryz.prog 104 #[.pointer (some ⟨bt, 0, none⟩)] w ((fun e w' => e = .returned (.string ⟨(x.take 16).toArray⟩) ∧ Below B w w' ∧ Only [9] w w' ∧ Blk w' bt [.string ⟨(x.drop 16).toArray⟩] 9)) := by
 refine zin 8 Tryz.func104 ?_
 refine xb 7 0 kt ?_
 refine xsH 0 (fun _ _ _ _ zo zx zy V => run_strH (k := 16) (j := 16) (kj := .i64) zo zx zy rfl hx Tryz.underlying9 V) ?_
 refine xb 5 0 kt ?_
 refine xsL 0 (fun _ _ _ _ zo zx zy V => run_strL (k := 16) (j := 16) (kj := .i64) zo zx zy rfl hx Tryz.underlying9 V) ?_
 refine xs 0 kt [.string ⟨(x.drop 16).toArray⟩] fun W1 u1 k1 => ?_
 have hB := u1.below (Below.refl B w) hBt
 have hO := (show Only [9] w _ from (Only.of_upd u1 kt (by decide)))
 exact xe 9 (.string ⟨(x.take 16).toArray⟩) ⟨rfl, hB, hO, k1⟩
theorem value_ReadSlotP (l : List UInt8) (i : Nat) (w : World) (hs : (slotS l i).length ≤ 1000) : Calls Tryz.prog 105 #[.string ⟨(slotS l i).toArray⟩] w (fun e w' =>
    (readE slotP (slotS l i) = 0 ∧ e = .returned (.tuple #[.agg #[.int .i64 (slotK l i 0 : Int), .int .i64 (slotK l i 1 : Int), .int .i64 (slotK l i 2 : Int)], .int .i64 0]) ∧ Below w.heap.size w w') ∨
    (readE slotP (slotS l i) ≠ 0 ∧ e = .returned (.tuple #[.agg #[.int .i64 (slotK l i 0 : Int), .int .i64 (slotK l i 1 : Int), .int .i64 (slotK l i 2 : Int)], .int .i64 (readE slotP (slotS l i))]) ∧ Below w.heap.size w w')) := by
  refine (value_ReadSlot (slotS l i) w hs).mono ?_
  rintro e W ⟨rfl, hb⟩
  by_cases h : readE slotP (slotS l i) = 0
  · exact .inl ⟨h, by rw [h]; rfl, hb⟩
  · exact .inr ⟨h, rfl, hb⟩
theorem bysK {w : World} {a : Option Addr} {c k : Nat} {l : List UInt8} (h : Bys w (.slice a 244 c) l) (hl : l.length = 244) (hk : k ≤ 244) : Bys w (.slice (cutA a k c 1) (244 - k) (c - k)) (l.drop k) := by
  have := Bys.cut h hl k 244 hk (by decide)
  rwa [List.take_of_length_le (by simp; omega)] at this
set_option maxRecDepth 100000 in
set_option maxHeartbeats 4000000 in
theorem slots_Read (a : Option Addr) (c : Nat) (l : List UInt8) (w : World) (hl : l.length = 244) (h : Bys w (.slice a 244 c) l) :
    Calls Tryz.prog 62 #[.slice a 244 c] w (SlotsP l w) := by
 have hcap := Bys.cap h hl
 refine zin 52 Tryz.func62 ?_
 refine xr 20 (args := #[.slice a 244 c, .int .i64 0, .int .i64 4]) (Get_okN a 244 c 0 4 0 4 l _ hl rfl rfl (by decide) (by decide) (by decide) (h.below (Below.refl w.heap.size _))) fun W1 hb1 => ?_
 refine xg 13 [20, 21] (decide ((↑(rawN l 0 4) : Int) > (15 : Int))) (fun hc2 => ?_) (fun hc2 => ?_)
 · have hc2 := of_decide_eq_true hc2
   refine xe 19 (.tuple #[.slice none 0 0, .int .i64 7]) ?_
   have he : idxE l = 7 := by unfold idxE idxOk; rw [decide_eq_false (by omega), Bool.false_and, if_neg (by decide)]
   exact .inl ⟨by rw [he]; decide, by rw [he], hb1⟩
 have hc2 := of_decide_eq_false hc2
 refine xwm 2 ((↑(rawN l 0 4) : Int) * 16) (↑((rawN l 0 4) * 16) : Int) ?_
 refine xwm 0 (4 + (↑((rawN l 0 4) * 16) : Int)) (↑(4 + ((rawN l 0 4) * 16)) : Int) ?_
 refine xsL 0 (fun _ _ _ _ zo zx zy V => run_sliceLA (k := (4 + ((rawN l 0 4) * 16))) (b := a) (n := 244) (c := c) (i := (↑(4 + ((rawN l 0 4) * 16)) : Int)) (ki := .i64) 1 zo zx zy rfl (by omega) Tryz.underlying22 (by kernel_rfl) V) ?_
 refine xr 0 (args := #[.slice (cutA a (4 + ((rawN l 0 4) * 16)) c 1) (244 - (4 + ((rawN l 0 4) * 16))) (c - (4 + ((rawN l 0 4) * 16)))]) (code_ZeroN (cutA a (4 + ((rawN l 0 4) * 16)) c 1) (244 - (4 + ((rawN l 0 4) * 16))) (c - (4 + ((rawN l 0 4) * 16))) (l.drop (4 + rawN l 0 4 * 16)) _ (by simp; omega) (by omega) ((bysK (k := 4 + rawN l 0 4 * 16) h hl (by omega)).below hb1)) fun W3 hb3 => ?_
 refine xi 4 (!(zeroB (l.drop (4 + rawN l 0 4 * 16)))) (fun hc4 => ?_) (fun hc4 => ?_)
 · have hze : zeroB (l.drop (4 + rawN l 0 4 * 16)) = false := not_t hc4
   have hB'1 := Bl.next hb1 hb3
   refine xe 8 (.tuple #[.slice none 0 0, .int .i64 7]) ?_
   have he : idxE l = 7 := by unfold idxE idxOk; rw [hze, Bool.and_false, if_neg (by decide)]
   exact .inl ⟨by rw [he]; decide, by rw [he], hB'1⟩
 have hze : zeroB (l.drop (4 + rawN l 0 4 * 16)) = true := not_f hc4
 refine xsL 5 (fun _ _ _ _ zo zx zy V => run_sliceLA (k := 4) (b := a) (n := 244) (c := c) (i := 4) (ki := .i64) 1 zo zx zy rfl (by omega) Tryz.underlying22 (by kernel_rfl) V) ?_
 have hB'2 := Bl.next hb1 hb3
 refine xcv0 0 (fun _ _ _ zo zx => run_bstr zo zx ((bysK (k := 4) h hl (by decide)).below hB'2) (by simp; omega) Tryz.underlying22 Tryz.underlying5 Tryz.underlying9) ?_
 refine xa 0 [.string ⟨#[]⟩] 9 fun b5 W5 n5 => ?_
 have g5 := n5.ge hB'2
 refine xs 0 n5.blk [.string ⟨(l.drop 4).toArray⟩] fun W6 u6 k6 => ?_
 have kt0 : Blk _ _ [.string ⟨((l.drop (4 + 0 * 16))).toArray⟩] _ := k6
 have hB'3 := u6.below (Bl.next hB'2 n5.below) g5
 refine zl 21 52 (fun zm zkv V => ∃ (i : Nat) (q : Option Addr) (d : Nat), zkv = [(7, .func (.func 104) #[] #[.pointer (some ⟨b5, 0, none⟩)]), (8, .slice q i d), (34, .int .i64 (↑(rawN l 0 4) : Int)), (35, .int .i64 (↑i : Int))] ∧ zm = (rawN l 0 4) - ((↑i : Int)).toNat ∧ Below w.heap.size w V ∧ Blk V b5 ([.string ⟨(l.drop (4 + i * 16)).toArray⟩]) 9 ∧ V.ownsRow w.heap.size 163 3 (.slice q i d) i ((sltsL l i).flatMap sltC) ∧ i ≤ (rawN l 0 4) ∧ sltsE l i = 0) ⟨0, _, _, rfl, rfl, hB'3, kt0, World.ownsRow_nil _ _ _ _, Nat.zero_le _, rfl⟩ ?_
 rintro _ _ W7 ⟨i, q, d, rfl, rfl, hB_7, k7_b5, ho, hi, hz⟩ J7 hJ7 r7
 refine xid 6 ((↑i : Int) < (↑(rawN l 0 4) : Int)) (fun hc8 => ?_) (fun hc8 => ?_)
 · refine xc 7 (args := #[.pointer (some ⟨b5, 0, none⟩)]) (slots_next w.heap.size b5 (l.drop (4 + i * 16)) _ hB_7.size g5 k7_b5 (by simp; omega)) ?_
   rintro _ W9 ⟨rfl, hb9, hO9, kN9⟩
   rw [List.drop_drop, show 4 + i * 16 + 16 = 4 + (i + 1) * 16 by omega] at kN9
   refine xc 0 (args := #[.string ⟨(slotS l i).toArray⟩]) (value_ReadSlotP l i _ (by rw [slotS_len hl (by omega)]; decide)) ?_
   rintro e W10 hq10
   rcases hq10 with ⟨hz0, rfl, hb10⟩ | ⟨hz0, rfl, hb10⟩
   · refine xa 3 [.int .i64 0, .int .i64 0, .int .i64 0] 163 fun b11 W11 n11 => ?_
     have hB'4 := Bl.next (hB_7.trans hb9) hb10
     have g11 := n11.ge hB'4
     have ho'1 := own_below (own_only ho hO9 (by decide)) hb10
     have r11_ho := own_ne ho'1 n11
     refine xsv 0 n11.blk [.int .i64 (↑(slotK l i 0) : Int), .int .i64 (↑(slotK l i 1) : Int), .int .i64 (↑(slotK l i 2) : Int)] fun W12 u12 k12 => ?_
     refine xlv 15 k12.rp ?_
     refine xbs 0 1 [.int .i64 (↑(slotK l i 0) : Int), .int .i64 (↑(slotK l i 1) : Int), .int .i64 (↑(slotK l i 2) : Int)] 163 fun b13 W13 n13 => ?_
     have d13_b11 := n13.ne k12
     have hB'5 := u12.below (Bl.next hB'4 n11.below) g11
     have g13 := n13.ge hB'5
     have ho'2 := u12.own3 (own_below ho'1 n11.below) r11_ho
     have r13_ho := own_ne ho'2 n13
     have ho'3 := own_below ho'2 n13.below
     have hB'6 := Bl.next hB'5 n13.below
     refine xbi 0 fun _ _ _ _ zJ zQ zo zx zy zK => op_app (m := 1) (news := [.int .i64 (↑(slotK l i 0) : Int), .int .i64 (↑(slotK l i 1) : Int), .int .i64 (↑(slotK l i 2) : Int)]) (.agg #[.int .i64 0, .int .i64 0, .int .i64 0]) 3 24 (i + 1) (((sltsL l (i + 1)).flatMap sltC)) zo Tryz.underlying63 (by kernel_rfl) rfl (by decide) zx ho'3 zy (n13.blk.sl 1 1 (by decide) (by decide)) rfl (by simp [Value.oneCell']) (by unfold maxLen; omega) (by omega) hB'6.size (by rfl) (by rw [sltsL_snoc, List.flatMap_append]; rfl) fun px14 cx14 W14 o14 hg14 hb14 => ?_
     refine zK _ _ ?_
     refine xwm 5 ((↑i : Int) + 1) (↑(i + 1) : Int) ?_
     have hB'7 := hB'6.trans hb14
     have kN9'1 := ((u12.blkT ((kN9.below hb10).below n11.below) n11.blk (by decide)).below n13.below).grown hg14 ho'3 (by decide)
     exact ze 2 (hJ7 _ _ _ ⟨i + 1, _, _, rfl, rfl, hB'7, kN9'1, o14, by omega, sltsE_next hz hz0⟩ (by omega))
   refine xa 3 [.int .i64 0, .int .i64 0, .int .i64 0] 163 fun b15 W15 n15 => ?_
   have hB'8 := Bl.next (hB_7.trans hb9) hb10
   have g15 := n15.ge hB'8
   have ho'4 := own_below (own_only ho hO9 (by decide)) hb10
   have r15_ho := own_ne ho'4 n15
   refine xsv 0 n15.blk [.int .i64 (↑(slotK l i 0) : Int), .int .i64 (↑(slotK l i 1) : Int), .int .i64 (↑(slotK l i 2) : Int)] fun W16 u16 k16 => ?_
   refine xk 10 (show (((readE slotP (slotS l i)) != (0 : Int)) : Bool) = true from bne_iff_ne.2 hz0) ?_
   have hB'9 := u16.below (Bl.next hB'8 n15.below) g15
   refine xe 14 (.tuple #[.slice none 0 0, .int .i64 (readE slotP (slotS l i))]) ?_
   have hok : idxOk l = true := by unfold idxOk; rw [hze, decide_eq_true (by omega)]; rfl
   have he : idxE l = readE slotP (slotS l i) := by unfold idxE; rw [if_pos hok, sltsE_at hz hz0 (by omega)]
   exact .inl ⟨by rw [he]; exact hz0, by rw [he], hB'9⟩
 refine xe 13 (.tuple #[.slice q i d, .int .i64 0]) ?_
 have hok : idxOk l = true := by unfold idxOk; rw [hze, decide_eq_true (by omega)]; rfl
 obtain rfl : i = rawN l 0 4 := by omega
 exact .inr ⟨by unfold idxE; rw [if_pos hok, hz], _, _, rfl, hB_7, ho⟩
def idxErr (l : List UInt8) (no : Int) : Int := if inE l 4 no = 0 then idxE (inB l no) else inE l 4 no
def BlkIdxP (l : List UInt8) (no : Int) (w : World) (e : Ending) (w' : World) : Prop :=
  (idxErr l no ≠ 0 ∧ ∃ b, e = .returned (.tuple #[.slice none 0 0, .iface 67 (.pointer (some ⟨b, 0, none⟩))]) ∧ Below w.heap.size w w' ∧ ErrV w' [some no] (some (idxErr l no)) (.iface 67 (.pointer (some ⟨b, 0, none⟩)))) ∨
  (idxErr l no = 0 ∧ ∃ p c, e = .returned (.tuple #[.slice p (rawN (inB l no) 0 4) c, .nilIface]) ∧ Below w.heap.size w w' ∧ w'.ownsRow w.heap.size 163 3 (.slice p (rawN (inB l no) 0 4) c) (rawN (inB l no) 0 4) ((sltsL (inB l no) (rawN (inB l no) 0 4)).flatMap sltC))
set_option maxRecDepth 100000 in
set_option maxHeartbeats 1000000 in
theorem readIdx (B b : Nat) (p : Option Addr) (n c : Nat) (l : List UInt8) (no : Int) (w : World) (hI : ImgR B b p n c l w) :
    Calls Tryz.prog 61 #[.pointer (some ⟨b, 0, none⟩), .int .i64 no, .int .i64 4, .func (.func 62) #[] #[]] w (BlkIdxP l no w) := by
 refine zin 56 Tryz.func61 ?_
 refine xc 15 (args := #[.pointer (some ⟨b, 0, none⟩), .int .i64 no]) (image_Read B b p n c l no _ (hI.below (Below.refl w.heap.size _))) ?_
 rintro e W1 hq1
 rcases hq1 with ⟨ho, vr, rfl, hb1⟩ | ⟨j, hk, hj, p2, c2, rfl, hb1, ho⟩
 · refine xc 21 (args := #[.int .i64 no, .iface 53 (.int .i64 3)]) (block_told no 3 _) ?_
   rintro _ W2 ⟨_, rfl, hb2, hv2⟩
   rw [if_neg (by decide), if_neg (by decide)] at hv2
   have hq2 := hv2
   obtain ⟨bf2, vf2, rfl, _, _⟩ := hq2
   have hB := Bl.next hb1 hb2
   refine xe 6 (.tuple #[.slice none 0 0, .iface 67 (.pointer (some ⟨bf2, 0, none⟩))]) ?_
   have he : idxErr l no = 3 := by unfold idxErr; rw [inE_out hI.len ho]; rfl
   exact .inl ⟨by rw [he]; decide, _, rfl, hB, by rw [he]; exact hv2⟩
 have hs1 := Nat.le_refl w.heap.size
 have hj2 : j < l.length / 256 := by rw [hI.len]; exact hj
 have hlj := blkB_len hj2
 have he2 := inE_in (l := l) (kind := 4) hI.len hk hj
 have ho'1 := own_mono ho hs1
 refine xc 22 (args := #[.slice p2 256 c2, .int .i64 4, .int .i64 no]) (seal_OpenN 4 no p2 256 c2 (blkB l j) _ hlj (bys_of (own_sl ho'1) hlj)) ?_
 rintro e W3 hq3
 rcases hq3 with ⟨hs, rfl, hb3⟩ | ⟨hs, p3, c3, rfl, hb3, h3⟩
 · refine xk 14 (show (((openE 4 no (blkB l j)) != (0 : Int)) : Bool) = true from bne_iff_ne.2 hs) ?_
   refine xc 6 (args := #[.int .i64 no, .iface 53 (.int .i64 (openE 4 no (blkB l j)))]) (block_told no (openE 4 no (blkB l j)) _) ?_
   rintro _ W4 ⟨_, rfl, hb4, hv4⟩
   rw [if_neg hs, if_neg hs] at hv4
   have hq4 := hv4
   obtain ⟨bf4, vf4, rfl, _, _⟩ := hq4
   have hB := Bl.next (Bl.next hb1 hb3) hb4
   refine xe 6 (.tuple #[.slice none 0 0, .iface 67 (.pointer (some ⟨bf4, 0, none⟩))]) ?_
   have he : idxErr l no = openE 4 no (blkB l j) := by unfold idxErr; rw [he2, if_neg hs]
   exact .inl ⟨by rw [he]; exact hs, _, rfl, hB, by rw [he]; exact hv4⟩
 have h3'1 := own_mono h3 hb1.size
 have hin : ((blkB l j).drop 8).take 244 = inB l no := (inB_in hk).symm
 have hil := inB_len hI.len hk hj
 rw [hin] at h3'1
 refine xc 21 (args := #[.slice p3 244 c3]) (slots_Read p3 c3 (inB l no) _ hil (bys_of (own_sl h3'1) hil)) ?_
 rintro e W5 hq5
 rcases hq5 with ⟨hz, rfl, hb5⟩ | ⟨hz, p4, c4, rfl, hb5, h4⟩
 · refine xk 14 (show (((idxE (inB l no)) != (0 : Int)) : Bool) = true from bne_iff_ne.2 hz) ?_
   refine xc 6 (args := #[.int .i64 no, .iface 53 (.int .i64 (idxE (inB l no)))]) (block_told no (idxE (inB l no)) _) ?_
   rintro _ W6 ⟨_, rfl, hb6, hv6⟩
   rw [if_neg hz, if_neg hz] at hv6
   have hq6 := hv6
   obtain ⟨bf6, vf6, rfl, _, _⟩ := hq6
   have hB := Bl.next (Bl.next (Bl.next hb1 hb3) hb5) hb6
   refine xe 6 (.tuple #[.slice none 0 0, .iface 67 (.pointer (some ⟨bf6, 0, none⟩))]) ?_
   have he : idxErr l no = idxE (inB l no) := by unfold idxErr; rw [he2, if_pos hs]
   exact .inl ⟨by rw [he]; exact hz, _, rfl, hB, by rw [he]; exact hv6⟩
 have hs5 := (Bl.next hb1 hb3).size
 have hB := Bl.next (Bl.next hb1 hb3) hb5
 have h4'1 := own_mono h4 hs5
 exact xe 25 (.tuple #[.slice p4 (rawN (inB l no) 0 4) c4, .nilIface]) (.inr ⟨by unfold idxErr; rw [he2, if_pos hs, hz], _, _, rfl, hB, h4'1⟩)
set_option maxRecDepth 100000 in
set_option maxHeartbeats 1000000 in
theorem block_Index (B b : Nat) (p : Option Addr) (n c : Nat) (l : List UInt8) (no : Int) (w : World) (hI : ImgR B b p n c l w) :
    Calls Tryz.prog 23 #[.pointer (some ⟨b, 0, none⟩), .int .i64 no] w (BlkIdxP l no w) := by
 refine zin 11 Tryz.func23 ?_
 refine xc 10 (args := #[.pointer (some ⟨b, 0, none⟩), .int .i64 no, .int .i64 4, .func (.func 62) #[] #[]]) (readIdx B b p n c l no _ (hI.below (Below.refl w.heap.size _))) ?_
 rintro e W1 hq1
 rcases hq1 with ⟨he, bf, rfl, hb1, hv⟩ | ⟨he, p4, c4, rfl, hb1, h4⟩
 · exact xe 7 (.tuple #[.slice none 0 0, .iface 67 (.pointer (some ⟨bf, 0, none⟩))]) (.inl ⟨he, _, rfl, hb1, hv⟩)
 have hs1 := Nat.le_refl w.heap.size
 have h4'1 := own_mono h4 hs1
 exact xe 7 (.tuple #[.slice p4 (rawN (inB l no) 0 4) c4, .nilIface]) (.inr ⟨he, _, _, rfl, hb1, h4'1⟩)
end Go.Proofs.YtinegkldgjhnpaaGreatDoor
namespace Go.Proofs.YtinegkldgjhnpaaGreatDoor
open Go.RowKit Go.Extern.Stop Go.Stop Go.Extern
set_option linter.unusedVariables false
attribute [local irreducible] wpList wpAnyH Code.wp Oper.wp Go

theorem ext_getD {l l' : List UInt8} (h : l.length = l'.length) (h2 : ∀ j, j < l.length → l.getD j 0 = l'.getD j 0) : l = l' := by
  apply List.ext_getElem h
  intro j h3 h4
  have := h2 j h3
  simpa [List.getD, h3, h4] using this
theorem putB_get {l : List UInt8} {k : Nat} {x : List UInt8} (h : k + x.length ≤ l.length) (j : Nat) : (putB l k x).getD j 0 = if k ≤ j ∧ j < k + x.length then x.getD (j - k) 0 else l.getD j 0 := by
  unfold putB
  simp only [List.getD]
  rw [List.append_assoc, List.getElem?_append, List.getElem?_append]
  have e : (l.take k).length = k := by simp; omega
  rw [e]
  by_cases h1 : j < k
  · rw [if_pos h1, if_neg (by omega), List.getElem?_take, if_pos h1]
  · rw [if_neg h1]
    by_cases h2 : j - k < x.length
    · rw [if_pos h2, if_pos (by omega)]
    · rw [if_neg h2, if_neg (by omega), List.getElem?_drop, show k + x.length + (j - k - x.length) = j by omega]
theorem rawN_congr {l l' : List UInt8} : ∀ (w k : Nat), (∀ j, k ≤ j → j < k + w → l.getD j 0 = l'.getD j 0) → rawN l k w = rawN l' k w
  | 0, k, h => rfl
  | w + 1, k, h => by rw [rawN, rawN, h k (by omega) (by omega), rawN_congr w (k + 1) fun j h1 h2 => h j (by omega) (by omega)]
theorem rawN_bytes {l : List UInt8} : ∀ (w k m : Nat), (∀ i, i < w → l.getD (k + i) 0 = UInt8.ofNat (m / 256 ^ i)) → rawN l k w = m % 256 ^ w
  | 0, k, m, h => by simp [rawN, Nat.mod_one]
  | w + 1, k, m, h => by
    have h0 := h 0 (by omega)
    simp only [Nat.add_zero, Nat.pow_zero, Nat.div_one] at h0
    have h1 := rawN_bytes (l := l) w (k + 1) (m / 256) fun i hi => by
      have := h (i + 1) (by omega)
      rw [Nat.pow_succ, Nat.mul_comm, ← Nat.div_div_eq_div_mul] at this
      rw [show k + 1 + i = k + (i + 1) by omega]; exact this
    rw [rawN, h0, h1, Nat.pow_succ, Nat.mul_comm (256 ^ w) 256, Nat.mod_mul]
    congr 1
theorem rawN_put {l : List UInt8} {k w : Nat} {n : Int} (h : k + w ≤ l.length) (h0 : 0 ≤ n) (hb : n.toNat < 256 ^ w) : (rawN (putB l k (leB n w)) k w : Int) = n := by
  rw [rawN_bytes w k n.toNat, Nat.mod_eq_of_lt hb]
  · omega
  · intro i hi
    rw [putB_get (by rw [leB_len]; exact h), if_pos (by rw [leB_len]; omega), show k + i - k = i by omega]
    simp [leB, byteAt, List.getD, List.getElem?_range hi]
theorem rawN_put_other {l x : List UInt8} {k j w : Nat} (h : k + x.length ≤ l.length) (hd : j + w ≤ k ∨ k + x.length ≤ j) : rawN (putB l k x) j w = rawN l j w :=
  rawN_congr w j fun i h1 h2 => by rw [putB_get h, if_neg (by omega)]
theorem rawN_zero {l : List UInt8} {k w : Nat} (h : ∀ j, k ≤ j → j < k + w → l.getD j 0 = 0) : rawN l k w = 0 := by
  have := rawN_bytes (l := l) w k 0 fun i hi => by rw [h (k + i) (by omega) (by omega)]; simp
  simpa using this
theorem sumB_put {l x : List UInt8} {kind : Int} (h : 252 ≤ l.length) : sumB (putB l 252 x) kind = sumB l kind := by
  unfold sumB putB
  rw [List.append_assoc, List.take_append_of_le_length (by simp; omega), List.take_take]; rfl
theorem zeros_get (n j : Nat) : (List.replicate n (0 : UInt8)).getD j 0 = 0 := by
  simp [List.getD, List.getElem?_replicate]; split <;> rfl
/-- what lies within a sealed block -/
def inSeal (li : List UInt8) : List UInt8 := li ++ List.replicate (244 - li.length) 0
theorem open_seal {kind no : Int} {li : List UInt8} (h1 : 1 ≤ kind) (h2 : kind ≤ 4) (h3 : 0 ≤ no) (h4 : no < 14400) (hl : li.length ≤ 244) : openE kind no (sealB kind no li) = 0 := by
  have l1 := seal1_len hl
  have l2 := seal2_len (no := no) hl
  have l3 := seal3_len (kind := kind) (no := no) hl
  have l4 := sealB_len (kind := kind) (no := no) hl
  have a0 : askB kind no (sealB kind no li) 0 = false := by simp only [askB]; rw [show knownB kind no = true from decide_eq_true (by omega)]; rfl
  have a1 : askB kind no (sealB kind no li) 1 = false := by simp only [askB, l4]; rfl
  have a2 : askB kind no (sealB kind no li) 2 = false := by
    have hs : sumB (sealB kind no li) kind = sumB (seal3 kind no li) kind := by unfold sealB; exact sumB_put (by omega)
    have hr : (rawN (sealB kind no li) 252 4 : Int) = (sumB (seal3 kind no li) kind : Int) := by
      unfold sealB
      exact rawN_put (by omega) (by omega) (by have := sumB_lt (seal3 kind no li) kind; simpa using this)
    simp only [askB, hr, hs]; simp
  have a3 : askB kind no (sealB kind no li) 3 = false := by
    have hr : (rawN (sealB kind no li) 0 4 : Int) = no := by
      unfold sealB
      rw [rawN_put_other (by rw [leB_len]; omega) (.inl (by omega))]
      unfold seal3
      rw [rawN_put_other (by rw [leB_len]; omega) (.inl (by omega))]
      unfold seal2
      exact rawN_put (by omega) (by omega) (by omega)
    simp only [askB, hr]; simp
  have a4 : askB kind no (sealB kind no li) 4 = false := by
    have hr : (rawN (sealB kind no li) 4 2 : Int) = kind := by
      unfold sealB
      rw [rawN_put_other (by rw [leB_len]; omega) (.inl (by omega))]
      unfold seal3
      exact rawN_put (by omega) (by omega) (by omega)
    simp only [askB, hr]; simp
  have a5 : askB kind no (sealB kind no li) 5 = false := by
    have hr : rawN (sealB kind no li) 6 2 = 0 := by
      unfold sealB
      rw [rawN_put_other (by rw [leB_len]; omega) (.inl (by omega))]
      unfold seal3
      rw [rawN_put_other (by rw [leB_len]; omega) (.inr (by rw [leB_len]; omega))]
      unfold seal2
      rw [rawN_put_other (by rw [leB_len]; omega) (.inr (by rw [leB_len]; omega))]
      unfold seal1
      rw [rawN_put_other (by rw [List.length_replicate]; omega) (.inl (by omega))]
      exact rawN_zero fun j _ _ => zeros_get 256 j
    simp only [askB, hr]; rfl
  simp [openE, a0, a1, a2, a3, a4, a5]
theorem in_seal {kind no : Int} {li : List UInt8} (hl : li.length ≤ 244) : ((sealB kind no li).drop 8).take 244 = inSeal li := by
  have l1 := seal1_len hl
  have l2 := seal2_len (no := no) hl
  have l3 := seal3_len (kind := kind) (no := no) hl
  have l4 := sealB_len (kind := kind) (no := no) hl
  apply ext_getD
  · simp [inSeal, l4]; omega
  · intro j hj
    have hj2 : j < 244 := by simp [l4] at hj; omega
    have e : (((sealB kind no li).drop 8).take 244).getD j 0 = (sealB kind no li).getD (8 + j) 0 := by
      simp only [List.getD]; rw [List.getElem?_take, if_pos hj2, List.getElem?_drop]
    rw [e]
    unfold sealB
    rw [putB_get (by rw [leB_len]; omega), if_neg (by rw [leB_len]; omega)]
    unfold seal3
    rw [putB_get (by rw [leB_len]; omega), if_neg (by rw [leB_len]; omega)]
    unfold seal2
    rw [putB_get (by rw [leB_len]; omega), if_neg (by rw [leB_len]; omega)]
    unfold seal1
    rw [putB_get (by rw [List.length_replicate]; omega), zeros_get]
    unfold inSeal
    simp only [List.getD]
    rw [List.getElem?_append]
    by_cases h : j < li.length
    · rw [if_pos ⟨by omega, by omega⟩, if_pos h, show 8 + j - 8 = j by omega]
    · rw [if_neg (by omega), if_neg h]
      have := zeros_get (244 - li.length) (j - li.length)
      simp only [List.getD] at this
      exact this.symm
/-- a block that was written stands in the image -/
theorem blkB_put {l x : List UInt8} {k : Nat} (hx : x.length = 256) (hk : k < l.length / 256) : blkB (putB l (k * 256) x) k = x := by
  have hkl : k * 256 + 256 ≤ l.length := by omega
  have hp := putB_len (l := l) (k := k * 256) (x := x) (by omega)
  apply ext_getD
  · rw [blkB_len (by rw [hp]; exact hk), hx]
  · intro j hj
    rw [blkB_len (by rw [hp]; exact hk)] at hj
    have e : (blkB (putB l (k * 256) x) k).getD j 0 = (putB l (k * 256) x).getD (k * 256 + j) 0 := by
      simp only [blkB, List.getD]; rw [List.getElem?_take, if_pos hj, List.getElem?_drop]
    rw [e, putB_get (by omega), if_pos (by omega), show k * 256 + j - k * 256 = j by omega]
theorem blkB_put_other {l x : List UInt8} {k i : Nat} (hx : x.length = 256) (hk : k < l.length / 256) (hne : i ≠ k) (hi : i < l.length / 256) : blkB (putB l (k * 256) x) i = blkB l i := by
  have hkl : k * 256 + 256 ≤ l.length := by omega
  have hp := putB_len (l := l) (k := k * 256) (x := x) (by omega)
  apply ext_getD
  · rw [blkB_len (by rw [hp]; exact hi), blkB_len hi]
  · intro j hj
    rw [blkB_len (by rw [hp]; exact hi)] at hj
    have e : ∀ l : List UInt8, (blkB l i).getD j 0 = l.getD (i * 256 + j) 0 := fun l => by
      simp only [blkB, List.getD]; rw [List.getElem?_take, if_pos hj, List.getElem?_drop]
    rw [e, e, putB_get (by omega), if_neg (by omega)]
end Go.Proofs.YtinegkldgjhnpaaGreatDoor
namespace Go.Proofs.YtinegkldgjhnpaaGreatDoor
open Go.RowKit Go.Extern.Stop Go.Stop Go.Extern
set_option linter.unusedVariables false
attribute [local irreducible] wpList wpAnyH Code.wp Oper.wp Go

theorem zeroCells_u8 (k : Nat) : Builtin.zeroCells #[Value.int .u8 0] k = (List.replicate k (Value.int .u8 0)).toArray := by
  apply Array.ext'
  unfold Builtin.zeroCells
  simp only [List.size_toArray, List.length_cons, List.length_nil, Nat.zero_add, Nat.mul_one, Nat.mod_one]
  rw [Array.toList_map]
  simp only [Array.toList_range]
  apply List.ext_getElem?
  intro i
  simp only [List.getElem?_map, List.getElem?_replicate]
  by_cases h : i < k
  · rw [List.getElem?_range h, if_pos h]; rfl
  · rw [if_neg h, List.getElem?_eq_none (by simpa using h)]; rfl
theorem op_appZ {P : Program} {a : Act} {w : World} {K : Act → World → Prop} {Q : Exit → Act → World → Prop} {o : Oper} {s x : Operand} {t tn e te : TypeId} {kq kn : IntKind} (b n k : Nat) (cs : List Value)
    (ho : o.op = .call { callee := .builtin .append, args := #[s, x], argTypes := #[t, tn] }) (ht : P.underlying t = some (.slice e)) (htn : P.underlying tn = some (.int kn)) (hi : (P.info? e).map (fun i => (i.zero, i.size, i.bytes)) = some (some (.int .u8 0), 1, 1))
    (hs : a.eval s = .slice (some ⟨b, 0, none⟩) n n) (hb : Blk w b cs te) (hl : cs.length = n) (hx : a.eval x = .int kq (k : Int)) (h0 : 0 < k) (hk : n + k ≤ 1000000)
    (h : ∀ g c W, W.ownsRow w.heap.size e 1 (.slice (some ⟨g, 0, none⟩) (n + k) c) (n + k) (cs ++ List.replicate k (.int .u8 0)) → Below w.heap.size w W → K (a.put o.dst (.slice (some ⟨g, 0, none⟩) (n + k) c)) W) : o.wp P a w K Q := by
  cases hq : P.info? e with
  | none => simp [hq] at hi
  | some i =>
    simp only [hq, Option.map_some, Option.some.injEq, Prod.mk.injEq] at hi
    obtain ⟨hz, h1, h2⟩ := hi
    have hb' : Blk w.drew b cs te := hb
    have hold := run_firstCells_some (P := P) (w := w.drew) i.size n ⟨b, 0, none⟩ n n cs (by rw [hl, h1, Nat.mul_one]) (fun j v hj => by
      have := hb'.cell hj
      by_cases h : j = 0
      · subst h; simpa [Addr.add] using this
      · simpa [Addr.add, h] using this)
    have hr := Lib.run_append_grow_zeros (P := P) w t tn o.type e i (.int .u8 0) kq kn ht htn hq hz (some ⟨b, 0, none⟩) n n cs hold k h0 (by omega) (by omega) (by omega) (by rw [h2]; omega) (growslice_fits (by omega) (by rw [h2]; omega))
    unfold Oper.wp execOp
    simp only [ho, resolve, invoke, builtin, Sem.run_bind, Sem.run_pure, Result.andThen_ok, List.map_toArray, List.map_cons, List.map_nil, hs, hx, hr]
    have hge := grownCap_ge w (n + k) n e
    have hcm : grownCap w (n + k) n e ≤ maxLen := grownCap_le_maxLen w (n + k) n e (by unfold maxLen; omega)
    refine h _ _ _ ⟨by simp [hl], .inr ⟨w.heap.size, _, _, rfl, Nat.le_refl _, heap_alloc_new w.drew _, hge, hcm, ?_, ?_⟩⟩ ((below_drew w).trans (show Below w.drew.heap.size w.drew _ from Bl.box w.drew _))
    · rw [show (Value.int .u8 0).cells = #[Value.int .u8 0] from rfl, zeroCells_u8, zeroCells_u8]; simp [hl]; omega
    · rw [show (Value.int .u8 0).cells = #[Value.int .u8 0] from rfl, zeroCells_u8, zeroCells_u8]
      simp only [Array.toList_append, List.append_assoc, Nat.mul_one]
      rw [← List.append_assoc, show n + k = (cs ++ List.replicate k (Value.int .u8 0)).length by simp [hl]]
      exact List.take_left
theorem run_append_room_zeros {P : Program} (w : World) (t tn ty e : TypeId) (i : TypeInfo) (kq kn : IntKind) (ht : P.underlying t = some (.slice e)) (htn : P.underlying tn = some (.int kn)) (hi : P.info? e = some i) (hz : i.zero = some (.int .u8 0)) (hs1 : i.size = 1) (hb1 : i.bytes = 1)
    (g n c k : Nat) (cur : Array Value) (hg : w.heap[g]? = some (.cells cur e (0, 0))) (h0 : 0 < k) (hroom : n + k ≤ c) (hfit : n + k ≤ cur.size) (hk : n + k ≤ 1000000) :
    (Builtin.append_ #[t, tn] ty #[.slice (some ⟨g, 0, none⟩) n c, .int kq k]).run P w =
      .ok (.slice (some ⟨g, 0, none⟩) (n + k) c) (w.setRow g (cur.toList.take n ++ List.replicate k (Value.int .u8 0) ++ cur.toList.drop (n + k)).toArray) := by
  have hk0 : k ≠ 0 := by omega
  have hw : IntKind.i64.wrap (k : Int) = k := by rw [IntKind.wrap_i64]; omega
  have h48i : ¬ (281474976710656 < (k : Int)) := by omega
  have hneg : ¬ ((k : Int) < 0) := by omega
  have hst := run_storeCells_at P g n e (List.replicate k (.int .u8 0)) 0 cur w hg (by simpa using hfit) (by intro u hu; rw [(List.mem_replicate.1 hu).2]; rfl)
  simp only [Nat.add_zero, List.length_replicate] at hst
  simp [Builtin.append_, run_underlying ht, run_underlying htn, sizeOf, typeInfo, zeroValue, hi, hz, hs1, hb1, asInt, asIntOf, hw, hneg, h48i, hk0, hroom, Addr.add_lit, show (Value.int IntKind.u8 0).cells = #[Value.int .u8 0] from rfl, zeroCells_u8, hst]
/-- append(s, make([]byte, k)...) onto a row of the call's own -/
theorem op_appZo {P : Program} {a : Act} {w : World} {K : Act → World → Prop} {Q : Exit → Act → World → Prop} {o : Oper} {s x : Operand} {t tn e : TypeId} {kq kn : IntKind} {base : Nat} {v : Value} {n : Nat} {xs : List Value} (k n' : Nat) (xs' : List Value)
    (ho : o.op = .call { callee := .builtin .append, args := #[s, x], argTypes := #[t, tn] }) (ht : P.underlying t = some (.slice e)) (htn : P.underlying tn = some (.int kn)) (hi : (P.info? e).map (fun i => (i.zero, i.size, i.bytes)) = some (some (.int .u8 0), 1, 1))
    (hs : a.eval s = v) (hown : w.ownsRow base e 1 v n xs) (hx : a.eval x = .int kq (k : Int)) (h0 : 0 < k) (hk : n + k ≤ 1000000) (hbase : base ≤ w.heap.size) (hn : n + k = n') (hxs : xs ++ List.replicate k (.int .u8 0) = xs')
    (h : ∀ b c' W, W.ownsRow base e 1 (.slice b n' c') n' xs' → w.grownBy W v.ownBlock → Below base w W → K (a.put o.dst (.slice b n' c')) W) : o.wp P a w K Q := by
  subst hn hxs
  cases hq : P.info? e with
  | none => simp [hq] at hi
  | some i =>
    simp only [hq, Option.map_some, Option.some.injEq, Prod.mk.injEq] at hi
    obtain ⟨hz, h1, h2⟩ := hi
    have hxl : xs.length = n := by simpa using hown.1
    have hlen : (xs ++ List.replicate k (Value.int .u8 0)).length = (n + k) * 1 := by simp [hxl]
    rcases hown.2 with ⟨rfl, rfl⟩ | ⟨g, c, cur, rfl, hbg, hg, hnc, hcm, hcs, htake⟩
    · obtain rfl : xs = [] := List.eq_nil_of_length_eq_zero hxl
      have hr := Lib.run_append_nil_zeros (P := P) w t tn o.type e i (.int .u8 0) kq kn ht htn hq hz k h0 (by omega) (by omega) (by rw [h2]; omega)
      unfold Oper.wp execOp
      simp only [ho, resolve, invoke, builtin, Sem.run_bind, Sem.run_pure, Result.andThen_ok, List.map_toArray, List.map_cons, List.map_nil, hs, hx, hr]
      have hge := grownCap_ge w k 0 e
      have hcm : grownCap w k 0 e ≤ maxLen := grownCap_le_maxLen w k 0 e (by unfold maxLen; omega)
      simp only [Nat.zero_add, List.nil_append] at h
      refine h _ _ _ ⟨by simp, .inr ⟨w.heap.size, _, _, rfl, hbase, heap_alloc_new w.drew _, hge, hcm, ?_, ?_⟩⟩ ⟨rfl, rfl, rfl, by simp, fun k hk _ => by first | exact heap_alloc_old w.drew _ k hk | exact heap_alloc_old w.drew _ hk⟩ (((below_drew w).trans (show Below w.drew.heap.size w.drew _ from Bl.box w.drew _)).mono hbase)
      · rw [show (Value.int .u8 0).cells = #[Value.int .u8 0] from rfl, zeroCells_u8, zeroCells_u8]; simp; omega
      · rw [show (Value.int .u8 0).cells = #[Value.int .u8 0] from rfl, zeroCells_u8, zeroCells_u8]
        simp only [Array.toList_append, Nat.mul_one]
        exact List.take_left' (by simp)
    by_cases hroom : n + k ≤ c
    · have hcs' : cur.size = c := by simpa using hcs
      have hr := run_append_room_zeros (P := P) w t tn o.type e i kq kn ht htn hq hz h1 h2 g n c k cur hg h0 hroom (by omega) hk
      unfold Oper.wp execOp
      simp only [ho, resolve, invoke, builtin, Sem.run_bind, Sem.run_pure, Result.andThen_ok, List.map_toArray, List.map_cons, List.map_nil, hs, hx, hr]
      have hgr : w.grownBy (w.setRow g (cur.toList.take n ++ List.replicate k (Value.int .u8 0) ++ cur.toList.drop (n + k)).toArray) (Value.ownBlock (.slice (some ⟨g, 0, none⟩) n c)) := ⟨rfl, rfl, rfl, by simp, fun k' _ hk' => setRow_other w g k' _ (fun e => hk' (by simp [Value.ownBlock, e]))⟩
      refine h _ _ _ ⟨hlen, .inr ⟨g, c, _, rfl, hbg, setRow_heap w g cur _ e _ hg, hroom, hcm, ?_, ?_⟩⟩ hgr (grown_below hgr hown (Nat.le_refl _) hbase)
      · simp only [List.size_toArray, List.length_append, List.length_take, List.length_drop, Array.length_toList, List.length_replicate]
        omega
      · have ht' : cur.toList.take n = xs := by simpa using htake
        rw [ht', ← hlen]
        exact List.take_left
    · have holds : ∀ j u, xs[j]? = some u → w.cell? ((⟨g, 0, none⟩ : Addr).add j) = some u := hown.cells (g := g) rfl
      have hold := run_firstCells_some (P := P) (w := w.drew) i.size n ⟨g, 0, none⟩ n c xs (by rw [hxl, h1, Nat.mul_one]) (by simpa using holds)
      have hr := Lib.run_append_grow_zeros (P := P) w t tn o.type e i (.int .u8 0) kq kn ht htn hq hz (some ⟨g, 0, none⟩) n c xs hold k h0 (by omega) (by omega) (by omega) (by rw [h2]; omega) (by rw [h2]; exact growslice_fits (by omega) (by omega))
      unfold Oper.wp execOp
      simp only [ho, resolve, invoke, builtin, Sem.run_bind, Sem.run_pure, Result.andThen_ok, List.map_toArray, List.map_cons, List.map_nil, hs, hx, hr]
      have hge := grownCap_ge w (n + k) c e
      have hcm : grownCap w (n + k) c e ≤ maxLen := grownCap_le_maxLen w (n + k) c e (by unfold maxLen; omega)
      refine h _ _ _ ⟨hlen, .inr ⟨w.heap.size, _, _, rfl, hbase, heap_alloc_new w.drew _, hge, hcm, ?_, ?_⟩⟩ ⟨rfl, rfl, rfl, by simp, fun k hk _ => by first | exact heap_alloc_old w.drew _ k hk | exact heap_alloc_old w.drew _ hk⟩ (((below_drew w).trans (show Below w.drew.heap.size w.drew _ from Bl.box w.drew _)).mono hbase)
      · rw [show (Value.int .u8 0).cells = #[Value.int .u8 0] from rfl, zeroCells_u8, zeroCells_u8]; simp [hxl]; omega
      · rw [show (Value.int .u8 0).cells = #[Value.int .u8 0] from rfl, zeroCells_u8, zeroCells_u8]
        simp only [Array.toList_append, List.append_assoc]
        rw [← List.append_assoc, ← hlen]
        exact List.take_left
end Go.Proofs.YtinegkldgjhnpaaGreatDoor
namespace Go.Proofs.YtinegkldgjhnpaaGreatDoor
open Go.RowKit Go.Extern.Stop Go.Stop Go.Extern
set_option linter.unusedVariables false

set_option maxHeartbeats 1000000 in
/-- strconv.Itoa at a number of one digit (no table is read) -/
theorem Tryz.itoa_small (i : Nat) (hi : i < 10) (w : World) : Calls Tryz.prog 190 #[.int .i64 i] w fun e w' => e = .returned (.string ⟨(Lib.decDigits i).toArray⟩) ∧ w' = w := by
  have : i = 0 ∨ i = 1 ∨ i = 2 ∨ i = 3 ∨ i = 4 ∨ i = 5 ∨ i = 6 ∨ i = 7 ∨ i = 8 ∨ i = 9 := by omega
  rcases this with rfl | rfl | rfl | rfl | rfl | rfl | rfl | rfl | rfl | rfl <;> (
    go_enter Tryz.func190, Tryz.ntmps190
    go_wp2
    go_ret
    exact ⟨by simp [Lib.decDigits]; rfl, rfl⟩)

/-- the numbers whose text Itoa prints, whatever has been added to this world -/
def Itoas (w : World) (n : Int) : Prop := ∀ W, Below w.heap.size w W → Calls Tryz.prog 190 #[.int .i64 n] W (Ret (.string ⟨(Lib.itoa n).toArray⟩) W)
theorem Itoas.below {w W : World} {n : Int} (h : Itoas w n) (hb : Below w.heap.size w W) : Itoas W n := fun X hX => h X (Bl.next hb hX)
theorem Itoas.small {n : Nat} (hn : n < 10) (w : World) : Itoas w n := fun W _ => by
  refine (Tryz.itoa_small n hn W).mono ?_
  rintro e w' ⟨rfl, rfl⟩
  refine ⟨?_, Below.refl _ _⟩
  simp [Lib.itoa]

def sBlock : ByteArray := ⟨#[98, 108, 111, 99, 107, 32]⟩
def sColon : ByteArray := ⟨#[58, 32]⟩
def sError : ByteArray := ⟨#[101, 114, 114, 111, 114, 32]⟩
def sOther : ByteArray := ⟨#[111, 116, 104, 101, 114]⟩
def numB (n : Int) : ByteArray := ⟨(Lib.itoa n).toArray⟩
/-- an error's text -/
def textB : List (Option Int) → Option Int → ByteArray
  | [], none => ⟨#[]⟩
  | [], some c => sError ++ numB c
  | some b :: r, t => sBlock ++ numB b ++ sColon ++ textB r t
  | none :: r, t => sOther
theorem Tryz.methErrorN (v : Value) (w : World) : (Go.method 413 53 v "Error").run Tryz.prog w = .ok (189, v) w := by kernel_rfl
theorem Tryz.methErrorF (v : Value) (w : World) : (Go.method 413 67 v "Error").run Tryz.prog w = .ok (204, v) w := by kernel_rfl
theorem Tryz.nilErrorF (a : Addr) (w : World) : (nilAhead 413 67 (.pointer (some a)) "Error").run Tryz.prog w = .ok (some false) w := by kernel_rfl

theorem errno_error (c : Int) (w : World) (hI : Itoas w c) (hs : (numB c).size ≤ 100) : Calls Tryz.prog 189 #[.int .i64 c] w (Ret (.string (sError ++ numB c)) w) := by
  have hc := hI w (Below.refl _ _)
  change Calls _ _ _ _ (Ret (.string (numB c)) w) at hc
  generalize numB c = x at hs hc ⊢
  unfold sError
  go_enter Tryz.func189, Tryz.ntmps189
  go_wp2_with fail
  refine hc.mono ?_
  rintro e w' ⟨rfl, hb⟩
  have hz : ¬ ((6 : Nat) + x.size > 9223372036854775807) := by omega
  go_wp2_with fail
  go_ret
  exact ⟨rfl, hb⟩
set_option maxRecDepth 100000 in
set_option maxHeartbeats 1000000 in
theorem fault_error_n (blk : Nat) (b : Int) (c : Int) (s : ByteArray) (w : World) (c0 : w.cell? ⟨blk, 0, none⟩ = some (.int .i64 b)) (c1 : w.cell? ⟨blk, 1, none⟩ = some (.iface 53 (.int .i64 c))) (hI : Itoas w b) (hs : (numB b).size ≤ 100) (ht : s.size ≤ 8000000)
    (hcall : ∀ W, Below w.heap.size w W → Calls Tryz.prog 189 #[(.int .i64 c)] W (Ret (.string s) W)) :
    Calls Tryz.prog 204 #[.pointer (some ⟨blk, 0, none⟩)] w (Ret (.string (sBlock ++ numB b ++ sColon ++ s)) w) := by
  have f1 := Tryz.methErrorN
  have hc : ∀ z : Ext w, Calls Tryz.prog 190 #[.int .i64 b] z.val (Ret (.string (numB b)) z.val) := fun z => hI z.val z.below
  have hd : ∀ z : Ext w, Calls Tryz.prog 189 #[(.int .i64 c)] z.val (Ret (.string s) z.val) := fun z => hcall z.val z.below
  generalize numB b = x at hs hc ⊢
  have e0 : ∀ z : Ext w, z.val.cell? ⟨blk, 0, none⟩ = some (.int .i64 b) := fun z => z.get c0
  have e1 : ∀ z : Ext w, z.val.cell? ⟨blk, 1, none⟩ = some (.iface 53 (.int .i64 c)) := fun z => z.get c1
  unfold sBlock sColon
  go_enter Tryz.func204, Tryz.ntmps204
  go_wp2_with fail
  refine wp_region_ext (by kernel_rfl) (by kernel_rfl) ?_
  repeat (go_big_quiet_step (first | (go_at_call 190; exact Ret.ext (hc _)) | (go_at_call 189; exact Ret.ext (hd _))))
  refine wpQuiet_nil ?_
  intro wx
  go_wp2_with fail
  go_ret
  exact ⟨rfl, wx.below⟩
set_option maxRecDepth 100000 in
set_option maxHeartbeats 1000000 in
theorem fault_error_f (blk : Nat) (b : Int) (k : Nat) (s : ByteArray) (w : World) (c0 : w.cell? ⟨blk, 0, none⟩ = some (.int .i64 b)) (c1 : w.cell? ⟨blk, 1, none⟩ = some (.iface 67 (.pointer (some ⟨k, 0, none⟩)))) (hI : Itoas w b) (hs : (numB b).size ≤ 100) (ht : s.size ≤ 8000000)
    (hcall : ∀ W, Below w.heap.size w W → Calls Tryz.prog 204 #[(.pointer (some ⟨k, 0, none⟩))] W (Ret (.string s) W)) :
    Calls Tryz.prog 204 #[.pointer (some ⟨blk, 0, none⟩)] w (Ret (.string (sBlock ++ numB b ++ sColon ++ s)) w) := by
  have f1 := Tryz.methErrorF
  have f2 := Tryz.nilErrorF
  have hc : ∀ z : Ext w, Calls Tryz.prog 190 #[.int .i64 b] z.val (Ret (.string (numB b)) z.val) := fun z => hI z.val z.below
  have hd : ∀ z : Ext w, Calls Tryz.prog 204 #[(.pointer (some ⟨k, 0, none⟩))] z.val (Ret (.string s) z.val) := fun z => hcall z.val z.below
  generalize numB b = x at hs hc ⊢
  have e0 : ∀ z : Ext w, z.val.cell? ⟨blk, 0, none⟩ = some (.int .i64 b) := fun z => z.get c0
  have e1 : ∀ z : Ext w, z.val.cell? ⟨blk, 1, none⟩ = some (.iface 67 (.pointer (some ⟨k, 0, none⟩))) := fun z => z.get c1
  unfold sBlock sColon
  go_enter Tryz.func204, Tryz.ntmps204
  go_wp2_with fail
  refine wp_region_ext (by kernel_rfl) (by kernel_rfl) ?_
  repeat (go_big_quiet_step (first | (go_at_call 190; exact Ret.ext (hc _)) | (go_at_call 204; exact Ret.ext (hd _))))
  refine wpQuiet_nil ?_
  intro wx
  go_wp2_with fail
  go_ret
  exact ⟨rfl, wx.below⟩

/-- how long a text may become -/
theorem textB_size {l : List (Option Int)} {t : Option Int} (h : ∀ b, (some b ∈ l ∨ t = some b) → (numB b).size ≤ 100) : (textB l t).size ≤ 108 * l.length + 108 := by
  induction l with
  | nil =>
    cases t with
    | none => exact Nat.zero_le _
    | some c =>
      have := h c (.inr rfl)
      simp only [textB, ByteArray.size_append, sError, ByteArray.size_mk']; simp; omega
  | cons x r ih =>
    cases x with
    | none => simp only [textB, sOther, ByteArray.size_mk']; simp; try omega
    | some b =>
      have h1 := h b (.inl (by simp))
      have h2 := ih (fun b hb => h b (hb.imp (List.mem_cons_of_mem _) id))
      simp only [textB, ByteArray.size_append, sBlock, sColon, ByteArray.size_mk', List.length_cons]; simp; omega
/-- the method Error of the value returns this string -/
def Says (v : Value) (s : ByteArray) (w : World) : Prop :=
  (∃ c, v = .iface 53 (.int .i64 c) ∧ Calls Tryz.prog 189 #[.int .i64 c] w (Ret (.string s) w)) ∨
  (∃ k, v = .iface 67 (.pointer (some ⟨k, 0, none⟩)) ∧ Calls Tryz.prog 204 #[.pointer (some ⟨k, 0, none⟩)] w (Ret (.string s) w))
  ∨ False
/-- no Fault wraps nothing -/
def okE : List (Option Int) → Option Int → Bool
  | [], t => t.isSome
  | some _ :: r, t => okE r t
  | none :: r, t => true
theorem err_says (t : Option Int) : ∀ (l : List (Option Int)) (v : Value) (w : World), l.length ≤ 10000 → ErrV w l t v → okE l t = true → (∀ b, (some b ∈ l ∨ t = some b) → Itoas w b ∧ (numB b).size ≤ 100) → Says v (textB l t) w
  | [], v, w, hlen, hv, hn, hI => by
    cases t with
    | none => exact nomatch hn
    | some c =>
      obtain rfl : v = _ := hv
      exact .inl ⟨c, rfl, errno_error c w (hI c (.inr rfl)).1 (hI c (.inr rfl)).2⟩
  | some b :: r, v, w, hlen, hv, hn, hI => by
    obtain ⟨blk, v', rfl, hk, h3⟩ := hv
    have h1 := hk.cell (i := 0) rfl
    have h2 := hk.cell (i := 1) rfl
    simp only [List.length_cons] at hlen
    have hI' : ∀ b, (some b ∈ r ∨ t = some b) → Itoas w b ∧ (numB b).size ≤ 100 := fun b hb => hI b (hb.imp (List.mem_cons_of_mem _) id)
    have hz : (textB r t).size ≤ 8000000 := by have := textB_size (fun b hb => (hI' b hb).2); omega
    have ih : ∀ W, Below w.heap.size w W → Says v' (textB r t) W := fun W hW => err_says t r v' W (by omega) (h3.below hW) hn (fun b hb => ⟨(hI' b hb).1.below hW, (hI' b hb).2⟩)
    have hb := hI b (.inl (by simp))
    refine .inr (.inl ⟨blk, rfl, ?_⟩)
    rcases ih w (Below.refl _ _) with ⟨c, rfl, _⟩ | ⟨k, rfl, _⟩ | hO
    · exact fault_error_n blk b c _ w h1 h2 hb.1 hb.2 hz (fun W hW => by rcases ih W hW with ⟨c, h, hc⟩ | ⟨k, h, _⟩ | hO <;> first | (cases h; exact hc) | exact nomatch h | exact hO.elim | (obtain ⟨u, h, _⟩ := hO; exact nomatch h))
    · exact fault_error_f blk b k _ w h1 h2 hb.1 hb.2 hz (fun W hW => by rcases ih W hW with ⟨c, h, hc⟩ | ⟨k, h, hc⟩ | hO <;> first | (cases h; exact hc) | exact nomatch h | exact hO.elim | (obtain ⟨u, h, _⟩ := hO; exact nomatch h))
    · exact hO.elim
  | none :: r, v, w, hlen, hv, hn, hI => hv.elim

set_option maxHeartbeats 400000 in
theorem fault_Text (t : Option Int) (l : List (Option Int)) (v : Value) (w : World) (hlen : l.length ≤ 10000) (hv : ErrV w l t v) (hn : noErr l t = false → okE l t = true) (hI : ∀ b, (some b ∈ l ∨ t = some b) → Itoas w b ∧ (numB b).size ≤ 100) :
    Calls Tryz.prog 52 #[v] w (Ret (.string (textB l t)) w) := by
  rcases hv.nil_or with ⟨hz, rfl⟩ | ⟨hz, _, _, _⟩
  · obtain ⟨rfl, rfl⟩ := noErr_true hz
    unfold textB
    go_enter Tryz.func52, Tryz.ntmps52
    go_wp2_with fail
    go_ret
    exact ⟨rfl, Below.refl _ _⟩
  have hs := err_says t l v w hlen hv (hn hz) hI
  generalize textB l t = s at hs ⊢
  clear hv hI hn hz
  have f1 := Tryz.methErrorN
  have f2 := Tryz.methErrorF
  have f3 := Tryz.nilErrorF
  rcases hs with ⟨c, rfl, hc⟩ | ⟨k, rfl, hc⟩ | hO
  · go_enter Tryz.func52, Tryz.ntmps52
    go_wp2_with fail
    refine hc.mono ?_
    rintro e w' ⟨rfl, hb⟩
    go_wp2_with fail
    go_ret
    exact ⟨rfl, hb⟩
  · go_enter Tryz.func52, Tryz.ntmps52
    go_wp2_with fail
    refine hc.mono ?_
    rintro e w' ⟨rfl, hb⟩
    go_wp2_with fail
    go_ret
    exact ⟨rfl, hb⟩
  · exact hO.elim
end Go.Proofs.YtinegkldgjhnpaaGreatDoor
namespace Go.Proofs.YtinegkldgjhnpaaGreatDoor
open Go.RowKit Go.Extern.Stop Go.Stop Go.Extern
set_option linter.unusedVariables false
attribute [local irreducible] wpList wpAnyH Code.wp Oper.wp Go

set_option maxRecDepth 100000 in
set_option maxHeartbeats 1000000 in
theorem readN_Super (b : Nat) (no : Int) (w : World) :
    Calls Tryz.prog 69 #[.pointer none, .int .i64 no, .int .i64 1, .func (.func 70) #[] #[.pointer (some ⟨b, 0, none⟩)]] w (RetS (fun w' r => ∃ b, r = .tuple #[.agg #[.int .i64 0, .int .i64 0, .int .i64 0, .int .i64 0, .int .i64 0, .int .i64 0, .int .i64 0, .int .i64 0, .int .i64 0, .int .i64 0, .int .i64 0], .iface 67 (.pointer (some ⟨b, 0, none⟩))] ∧ ErrV w' [some no] (some 18) (.iface 67 (.pointer (some ⟨b, 0, none⟩)))) w) := by
  refine calls_of_wp Tryz.func69 rfl ?_
  refine g_fr ⟨#[.pointer none, .int .i64 no, .int .i64 1, .func (.func 70) #[] #[.pointer (some ⟨b, 0, none⟩)], undef, undef, undef, undef, undef, undef, undef, undef, undef, undef, undef, undef, undef, undef, undef, undef, undef, undef, undef, undef, undef, undef, undef, undef, undef, undef, undef, undef, undef, undef, undef, undef, undef, undef, undef, undef, undef, undef, undef, undef, undef, undef, undef, undef, undef, undef, undef, undef, undef, undef, undef, undef], []⟩ (by kernel_rfl) ?_
  refine wp_seq ?_
  refine wp_region_lit ?_
  refine g_op (by kernel_rfl) (op_alloc [.int .i64 0, .int .i64 0, .int .i64 0, .int .i64 0, .int .i64 0, .int .i64 0, .int .i64 0, .int .i64 0, .int .i64 0, .int .i64 0, .int .i64 0] rfl (by kernel_rfl) ?_)
  intro b1 W1 n1
  have g1 := n1.ge (Below.refl w.heap.size _)
  have hB := n1.below
  have k1 := n1.blk
  refine g_pv 1 [(9, .nilIface)] (by kernel_rfl) ?_
  refine wpList_nil ?_
  refine wp_seq ?_
  refine wp_region_lit ?_
  refine g_op (by kernel_rfl) (op_alloc [.int .i64 0, .int .i64 0, .int .i64 0, .int .i64 0, .int .i64 0, .int .i64 0, .int .i64 0, .int .i64 0, .int .i64 0, .int .i64 0, .int .i64 0] rfl (by kernel_rfl) ?_)
  intro b2 W2 n2
  have d2_b1 := n2.ne k1
  have g2 := n2.ge hB
  replace hB := Bl.next hB n2.below
  replace k1 := k1.below n2.below
  have k2 := n2.blk
  refine wpList_nil ?_
  refine wp_seq ?_
  refine wp_region_lit ?_
  refine g_pv 2 [(16, .pointer none), (17, .int .i64 no)] (by kernel_rfl) ?_
  refine g_op (by kernel_rfl) (op_call (lb := #[]) 99 #[.pointer none, .int .i64 no] rfl (by kernel_rfl) (fun _ _ => by kernel_rfl) (by kernel_rfl) ((image_Read_nilp no _).mono ?_))
  rintro e W3 ⟨_, rfl, hb3, vr, rfl⟩
  refine ⟨_, rfl, ?_⟩
  replace hB := Bl.next hB hb3
  replace k1 := k1.below hb3
  replace k2 := k2.below hb3
  refine g_pv 5 [(15, .tuple #[vr, .int .i64 18]), (19, vr), (20, .int .i64 18), (11, vr), (12, .int .i64 18)] (by kernel_rfl) ?_
  refine wpList_nil ?_
  refine wp_seq ?_
  refine wp_seq ?_
  refine wp_region_lit ?_
  refine g_pv 2 [(21, .int .i64 18), (22, .bool true)] (by kernel_rfl) ?_
  refine wpList_nil ?_
  refine wp_cond_true (by kernel_rfl) ?_
  refine wp_seq ?_
  replace hB := Bl.next hB (below_drew W3)
  replace k1 := k1.below (below_drew W3)
  replace k2 := k2.below (below_drew W3)
  refine h_reg (BelowBut (W3.drew) b1) 7 rfl #[false, false, false, false, false, false, false] rfl (by kernel_rfl) ((Below.refl _ _).but _) ?_
  intro hS4
  have hBd6 := hB
  have kd6_b1 := k1
  have kd6_b2 := k2
  refine h_loadv (b := b2) (off := 0) 0 6 rfl [.int .i64 0, .int .i64 0, .int .i64 0, .int .i64 0, .int .i64 0, .int .i64 0, .int .i64 0, .int .i64 0, .int .i64 0, .int .i64 0, .int .i64 0] _ rfl (by kernel_rfl) (by kernel_rfl) (by kernel_rfl) (fun _ _ _ _ _ h => h) (by kernel_rfl) rfl (by kernel_rfl) Tryz.underlying75 rfl (by kernel_rfl) (fun V hV => (hV.blk kd6_b2 (Ne.symm d2_b1)).whole) hS4 ?_
  refine h_pv [1, 2, 3] 3 rfl #[true, true, true, true, false, false, false] [(24, .int .i64 no), (25, .int .i64 18), (26, .iface 53 (.int .i64 18))] (by kernel_rfl) (fun _ _ _ _ _ h => h) (by kernel_rfl) hS4 ?_
  refine h_one 4 2 rfl (by kernel_rfl) rfl (by kernel_rfl) (op_call (lb := #[]) 55 #[.int .i64 no, .iface 53 (.int .i64 18)] rfl (by kernel_rfl) (fun _ _ => by kernel_rfl) (by kernel_rfl) ((block_told no 18 _).mono ?_))
  rintro e W7 ⟨_, rfl, hb7, hv7⟩
  refine ⟨_, rfl, ?_⟩
  replace hB := Bl.next hB hb7
  replace k1 := k1.below hb7
  replace k2 := k2.below hb7
  rw [if_neg (by decide), if_neg (by decide)] at hv7
  have hq7 := hv7
  obtain ⟨bf7, vf7, rfl, _, _⟩ := hq7
  have hS8 : BelowBut (W3.drew) b1 (W7) := hS4.next hb7
  refine ⟨hS8, ?_⟩
  refine h_one 5 1 rfl (by kernel_rfl) rfl (by kernel_rfl) (op_storev (b := b1) (off := 0) [.int .i64 0, .int .i64 0, .int .i64 0, .int .i64 0, .int .i64 0, .int .i64 0, .int .i64 0, .int .i64 0, .int .i64 0, .int .i64 0, .int .i64 0] rfl (by kernel_rfl) (by kernel_rfl) (by kernel_rfl) (by first | decide | simp [Value.oneCell']) k1 (by first | decide | simp) ?_)
  intro W9 u9 k9
  change Blk _ _ [.int .i64 0, .int .i64 0, .int .i64 0, .int .i64 0, .int .i64 0, .int .i64 0, .int .i64 0, .int .i64 0, .int .i64 0, .int .i64 0, .int .i64 0] _ at k9
  replace hB := u9.below hB g1
  replace k2 := u9.blk k2 (Ne.symm d2_b1)
  replace hv7 := hv7.upd u9 k1 (by decide)
  have hS10 : BelowBut (W3.drew) b1 (W9) := hS8.upd u9
  refine ⟨hS10, ?_⟩
  refine h_pv [6] 0 rfl #[true, true, true, true, true, true, true] [(9, .iface 67 (.pointer (some ⟨bf7, 0, none⟩)))] (by kernel_rfl) (fun _ _ _ _ _ h => h) (by kernel_rfl) hS10 ?_
  refine h_done _ (by kernel_rfl) ?_
  refine wp_ret (then_ret ?_)
  exact g_ret (.tuple #[.agg #[.int .i64 0, .int .i64 0, .int .i64 0, .int .i64 0, .int .i64 0, .int .i64 0, .int .i64 0, .int .i64 0, .int .i64 0, .int .i64 0, .int .i64 0], .iface 67 (.pointer (some ⟨bf7, 0, none⟩))]) (by kernel_rfl) (res_ct (d := _) (cs := [.int .i64 0, .int .i64 0, .int .i64 0, .int .i64 0, .int .i64 0, .int .i64 0, .int .i64 0, .int .i64 0, .int .i64 0, .int .i64 0, .int .i64 0]) rfl (by kernel_rfl) (by kernel_rfl) k9.whole Tryz.underlying75 rfl (by kernel_rfl)) ⟨_, rfl, hB, _, rfl, hv7⟩
set_option maxRecDepth 100000 in
set_option maxHeartbeats 1000000 in
theorem readN_Node (b : Nat) (no : Int) (w : World) :
    Calls Tryz.prog 56 #[.pointer none, .int .i64 no, .int .i64 2, .func (.func 57) #[] #[.pointer (some ⟨b, 0, none⟩)]] w (RetS (fun w' r => ∃ b, r = .tuple #[.agg #[.int .i64 0, .bool false, .slice none 0 0, .slice none 0 0], .iface 67 (.pointer (some ⟨b, 0, none⟩))] ∧ ErrV w' [some no] (some 18) (.iface 67 (.pointer (some ⟨b, 0, none⟩)))) w) := by
 refine zin 56 Tryz.func56 ?_
 refine xa 2 [.int .i64 0, .bool false, .slice none 0 0, .slice none 0 0] 52 fun b1 W1 n1 => ?_
 refine xa 5 [.int .i64 0, .bool false, .slice none 0 0, .slice none 0 0] 52 fun b2 W2 n2 => ?_
 have d2_b1 := n2.ne n1.blk
 refine xc 6 (args := #[.pointer none, .int .i64 no]) (image_Read_nilp no _) ?_
 rintro _ W3 ⟨_, rfl, hb3, vr, rfl⟩
 refine xd 16 (.t w.heap.size [52]) ?_
 refine xm2 (.b [1, 2, 3]) 0 4 ?_ ?_
 · have k2 := (n2.blk.below hb3).below (below_drew W3)
   refine xlv 0 k2.rp ?_
   refine yc (.o [] 4) (args := #[.int .i64 no, .iface 53 (.int .i64 18)]) (.t w.heap.size [52]) (block_told no 18 _) ?_
   rintro _ W4 ⟨_, rfl, hb4, hv4⟩
   refine ⟨(SF.of_below _ hb4), ?_⟩
   rw [if_neg (by decide), if_neg (by decide)] at hv4
   have hq4 := hv4
   obtain ⟨bf4, vf4, rfl, _, _⟩ := hq4
   have k1'1 := (((n1.blk.below n2.below).below hb3).below (below_drew W3)).below hb4
   have g1 := n1.ge (Below.refl w.heap.size _)
   refine ysv (.o [] 5) k1'1 [.int .i64 0, .bool false, .slice none 0 0, .slice none 0 0] (.t w.heap.size [52]) fun W5 u5 k5 => ⟨(sft_upd u5 k1'1 g1 (by decide)), ?_⟩
   have hB := u5.below (Bl.next (Bl.next (Bl.next (Bl.next n1.below n2.below) hb3) (below_drew W3)) hb4) g1
   have hv4'1 := hv4.upd u5 k1'1 (by decide)
   exact xec (.r [6] 4) k5 (.tuple #[.agg #[.int .i64 0, .bool false, .slice none 0 0, .slice none 0 0], .iface 67 (.pointer (some ⟨bf4, 0, none⟩))]) ⟨_, rfl, hB, _, rfl, hv4'1⟩
 refine yc 0 (args := #[.int .i64 no, .iface 53 (.int .i64 18)]) (.t w.heap.size [52]) (block_told no 18 _) ?_
 rintro _ W6 ⟨_, rfl, hb6, hv6⟩
 refine ⟨(SF.of_below _ hb6), ?_⟩
 rw [if_neg (by decide), if_neg (by decide)] at hv6
 have hq6 := hv6
 obtain ⟨bf6, vf6, rfl, _, _⟩ := hq6
 have k2 := ((n2.blk.below hb3).below (below_drew W3)).below hb6
 refine xlv (.o [] 0) k2.rp ?_
 have k1'2 := (((n1.blk.below n2.below).below hb3).below (below_drew W3)).below hb6
 have g1 := n1.ge (Below.refl w.heap.size _)
 refine ysv (.o [] 5) k1'2 [.int .i64 0, .bool false, .slice none 0 0, .slice none 0 0] (.t w.heap.size [52]) fun W7 u7 k7 => ⟨(sft_upd u7 k1'2 g1 (by decide)), ?_⟩
 have hB := u7.below (Bl.next (Bl.next (Bl.next (Bl.next n1.below n2.below) hb3) (below_drew W3)) hb6) g1
 have hv6'1 := hv6.upd u7 k1'2 (by decide)
 exact xec (.r [6] 4) k7 (.tuple #[.agg #[.int .i64 0, .bool false, .slice none 0 0, .slice none 0 0], .iface 67 (.pointer (some ⟨bf6, 0, none⟩))]) ⟨_, rfl, hB, _, rfl, hv6'1⟩
set_option maxRecDepth 100000 in
set_option maxHeartbeats 1000000 in
theorem readN_Bits (b : Nat) (no : Int) (w : World) :
    Calls Tryz.prog 59 #[.pointer none, .int .i64 no, .int .i64 3, .func (.func 60) #[] #[]] w (RetS (fun w' r => ∃ b, r = .tuple #[.slice none 0 0, .iface 67 (.pointer (some ⟨b, 0, none⟩))] ∧ ErrV w' [some no] (some 18) (.iface 67 (.pointer (some ⟨b, 0, none⟩)))) w) := by
 refine zin 56 Tryz.func59 ?_
 refine xc 15 (args := #[.pointer none, .int .i64 no]) (image_Read_nilp no _) ?_
 rintro _ W1 ⟨_, rfl, hb1, vr, rfl⟩
 refine xc 21 (args := #[.int .i64 no, .iface 53 (.int .i64 18)]) (block_told no 18 _) ?_
 rintro _ W2 ⟨_, rfl, hb2, hv2⟩
 rw [if_neg (by decide), if_neg (by decide)] at hv2
 have hq2 := hv2
 obtain ⟨bf2, vf2, rfl, _, _⟩ := hq2
 have hB := Bl.next hb1 hb2
 exact xe 6 (.tuple #[.slice none 0 0, .iface 67 (.pointer (some ⟨bf2, 0, none⟩))]) ⟨_, rfl, hB, _, rfl, hv2⟩
set_option maxRecDepth 100000 in
set_option maxHeartbeats 1000000 in
theorem readN_Index (b : Nat) (no : Int) (w : World) :
    Calls Tryz.prog 61 #[.pointer none, .int .i64 no, .int .i64 4, .func (.func 62) #[] #[]] w (RetS (fun w' r => ∃ b, r = .tuple #[.slice none 0 0, .iface 67 (.pointer (some ⟨b, 0, none⟩))] ∧ ErrV w' [some no] (some 18) (.iface 67 (.pointer (some ⟨b, 0, none⟩)))) w) := by
  refine calls_of_wp Tryz.func61 rfl ?_
  refine g_fr ⟨#[.pointer none, .int .i64 no, .int .i64 4, .func (.func 62) #[] #[], undef, undef, undef, undef, undef, undef, undef, undef, undef, undef, undef, undef, undef, undef, undef, undef, undef, undef, undef, undef, undef, undef, undef, undef, undef, undef, undef, undef, undef, undef, undef, undef, undef, undef, undef, undef, undef, undef, undef, undef, undef, undef, undef, undef, undef, undef, undef, undef, undef, undef, undef, undef], []⟩ (by kernel_rfl) ?_
  refine wp_seq ?_
  refine wp_region_lit ?_
  refine g_pv 2 [(8, .slice none 0 0), (9, .nilIface)] (by kernel_rfl) ?_
  refine wpList_nil ?_
  refine wp_seq ?_
  refine wp_region_lit ?_
  refine g_pv 1 [(10, .slice none 0 0)] (by kernel_rfl) ?_
  refine wpList_nil ?_
  refine wp_seq ?_
  refine wp_region_lit ?_
  refine g_pv 2 [(16, .pointer none), (17, .int .i64 no)] (by kernel_rfl) ?_
  refine g_op (by kernel_rfl) (op_call (lb := #[]) 99 #[.pointer none, .int .i64 no] rfl (by kernel_rfl) (fun _ _ => by kernel_rfl) (by kernel_rfl) ((image_Read_nilp no _).mono ?_))
  rintro e W1 ⟨_, rfl, hb1, vr, rfl⟩
  refine ⟨_, rfl, ?_⟩
  have hB := hb1
  refine g_pv 5 [(15, .tuple #[vr, .int .i64 18]), (19, vr), (20, .int .i64 18), (11, vr), (12, .int .i64 18)] (by kernel_rfl) ?_
  refine wpList_nil ?_
  refine wp_seq ?_
  refine wp_seq ?_
  refine wp_region_lit ?_
  refine g_pv 2 [(21, .int .i64 18), (22, .bool true)] (by kernel_rfl) ?_
  refine wpList_nil ?_
  refine wp_cond_true (by kernel_rfl) ?_
  refine wp_seq ?_
  refine wp_region_lit ?_
  refine g_pv 4 [(23, .slice none 0 0), (24, .int .i64 no), (25, .int .i64 18), (26, .iface 53 (.int .i64 18))] (by kernel_rfl) ?_
  refine g_op (by kernel_rfl) (op_call (lb := #[]) 55 #[.int .i64 no, .iface 53 (.int .i64 18)] rfl (by kernel_rfl) (fun _ _ => by kernel_rfl) (by kernel_rfl) ((block_told no 18 _).mono ?_))
  rintro e W2 ⟨_, rfl, hb2, hv2⟩
  refine ⟨_, rfl, ?_⟩
  replace hB := Bl.next hB hb2
  rw [if_neg (by decide), if_neg (by decide)] at hv2
  have hq2 := hv2
  obtain ⟨bf2, vf2, rfl, _, _⟩ := hq2
  refine g_pv 2 [(8, .slice none 0 0), (9, .iface 67 (.pointer (some ⟨bf2, 0, none⟩)))] (by kernel_rfl) ?_
  refine wpList_nil ?_
  refine wp_ret (then_ret ?_)
  exact g_ret (.tuple #[.slice none 0 0, .iface 67 (.pointer (some ⟨bf2, 0, none⟩))]) (by kernel_rfl) (by kernel_rfl) ⟨_, rfl, hB, _, rfl, hv2⟩
set_option maxRecDepth 100000 in
set_option maxHeartbeats 1000000 in
theorem blkN_Super (w : World) :
    Calls Tryz.prog 27 #[.pointer none] w (RetS (fun w' r => ∃ b, r = .tuple #[.agg #[.int .i64 0, .int .i64 0, .int .i64 0, .int .i64 0, .int .i64 0, .int .i64 0, .int .i64 0, .int .i64 0, .int .i64 0, .int .i64 0, .int .i64 0], .iface 67 (.pointer (some ⟨b, 0, none⟩))] ∧ ErrV w' [some 0] (some 18) (.iface 67 (.pointer (some ⟨b, 0, none⟩)))) w) := by
  refine calls_of_wp Tryz.func27 rfl ?_
  refine g_fr ⟨#[.pointer none, undef, undef, undef, undef, undef, undef, undef, undef], []⟩ (by kernel_rfl) ?_
  refine wp_seq ?_
  refine wp_region_lit ?_
  refine g_op (by kernel_rfl) (op_box [.pointer none] rfl (by kernel_rfl) ?_)
  intro b1 W1 n1
  have g1 := n1.ge (Below.refl w.heap.size _)
  have hB := n1.below
  have k1 := n1.blk
  refine g_op (by kernel_rfl) (op_alloc [.int .i64 0, .int .i64 0, .int .i64 0, .int .i64 0, .int .i64 0, .int .i64 0, .int .i64 0, .int .i64 0, .int .i64 0, .int .i64 0, .int .i64 0] rfl (by kernel_rfl) ?_)
  intro b2 W2 n2
  have d2_b1 := n2.ne k1
  have g2 := n2.ge hB
  replace hB := Bl.next hB n2.below
  replace k1 := k1.below n2.below
  have k2 := n2.blk
  refine g_pv 1 [(3, .nilIface)] (by kernel_rfl) ?_
  refine wpList_nil ?_
  refine wp_seq ?_
  refine wp_region_lit ?_
  refine g_op (by kernel_rfl) (op_load ⟨b1, 0, none⟩ (.pointer none) rfl (by kernel_rfl) (by kernel_rfl) (k1.cell (i := 0) rfl) ?_)
  refine g_pv 1 [(5, .func (.func 70) #[] #[.pointer (some ⟨b1, 0, none⟩)])] (by kernel_rfl) ?_
  refine g_op (by kernel_rfl) (op_call (lb := #[]) 69 #[.pointer none, .int .i64 0, .int .i64 1, .func (.func 70) #[] #[.pointer (some ⟨b1, 0, none⟩)]] rfl (by kernel_rfl) (fun _ _ => by kernel_rfl) (by kernel_rfl) ((readN_Super b1 0 _).mono ?_))
  rintro e W3 ⟨_, rfl, hb3, bf, rfl, hv⟩
  refine ⟨_, rfl, ?_⟩
  replace hB := Bl.next hB hb3
  replace k1 := k1.below hb3
  replace k2 := k2.below hb3
  refine g_pv 2 [(7, .agg #[.int .i64 0, .int .i64 0, .int .i64 0, .int .i64 0, .int .i64 0, .int .i64 0, .int .i64 0, .int .i64 0, .int .i64 0, .int .i64 0, .int .i64 0]), (8, .iface 67 (.pointer (some ⟨bf, 0, none⟩)))] (by kernel_rfl) ?_
  refine g_op (by kernel_rfl) (op_storev (b := b2) (off := 0) [.int .i64 0, .int .i64 0, .int .i64 0, .int .i64 0, .int .i64 0, .int .i64 0, .int .i64 0, .int .i64 0, .int .i64 0, .int .i64 0, .int .i64 0] rfl (by kernel_rfl) (by kernel_rfl) (by kernel_rfl) (by first | decide | simp [Value.oneCell']) k2 (by first | decide | simp) ?_)
  intro W4 u4 k4
  change Blk _ _ [.int .i64 0, .int .i64 0, .int .i64 0, .int .i64 0, .int .i64 0, .int .i64 0, .int .i64 0, .int .i64 0, .int .i64 0, .int .i64 0, .int .i64 0] _ at k4
  replace hB := u4.below hB g2
  replace k1 := u4.blk k1 (Ne.symm (Ne.symm d2_b1))
  replace hv := hv.upd u4 k2 (by decide)
  refine g_pv 1 [(3, .iface 67 (.pointer (some ⟨bf, 0, none⟩)))] (by kernel_rfl) ?_
  refine wpList_nil ?_
  refine wp_ret ?_
  exact g_ret (.tuple #[.agg #[.int .i64 0, .int .i64 0, .int .i64 0, .int .i64 0, .int .i64 0, .int .i64 0, .int .i64 0, .int .i64 0, .int .i64 0, .int .i64 0, .int .i64 0], .iface 67 (.pointer (some ⟨bf, 0, none⟩))]) (by kernel_rfl) (res_ct (d := _) (cs := [.int .i64 0, .int .i64 0, .int .i64 0, .int .i64 0, .int .i64 0, .int .i64 0, .int .i64 0, .int .i64 0, .int .i64 0, .int .i64 0, .int .i64 0]) rfl (by kernel_rfl) (by kernel_rfl) k4.whole Tryz.underlying75 rfl (by kernel_rfl)) ⟨_, rfl, hB, _, rfl, hv⟩
set_option maxRecDepth 100000 in
set_option maxHeartbeats 1000000 in
theorem blkN_Node (no tree : Int) (w : World) :
    Calls Tryz.prog 21 #[.pointer none, .int .i64 no, .int .i64 tree] w (RetS (fun w' r => ∃ b, r = .tuple #[.agg #[.int .i64 0, .bool false, .slice none 0 0, .slice none 0 0], .iface 67 (.pointer (some ⟨b, 0, none⟩))] ∧ ErrV w' [some no] (some 18) (.iface 67 (.pointer (some ⟨b, 0, none⟩)))) w) := by
 refine zin 14 Tryz.func21 ?_
 refine xa 2 [.int .i64 tree] 3 fun b1 W1 n1 => ?_
 refine xa 0 [.int .i64 0, .bool false, .slice none 0 0, .slice none 0 0] 52 fun b2 W2 n2 => ?_
 refine xc 8 (args := #[.pointer none, .int .i64 no, .int .i64 2, .func (.func 57) #[] #[.pointer (some ⟨b1, 0, none⟩)]]) (readN_Node b1 no _) ?_
 rintro _ W3 ⟨_, rfl, hb3, bf, rfl, hv⟩
 have k2 := n2.blk.below hb3
 refine xsv 2 k2 [.int .i64 0, .bool false, .slice none 0 0, .slice none 0 0] fun W4 u4 k4 => ?_
 have g2 := n2.ge n1.below
 have hB := u4.below (Bl.next (Bl.next n1.below n2.below) hb3) g2
 have hv'1 := hv.upd u4 k2 (by decide)
 exact xec 4 k4 (.tuple #[.agg #[.int .i64 0, .bool false, .slice none 0 0, .slice none 0 0], .iface 67 (.pointer (some ⟨bf, 0, none⟩))]) ⟨_, rfl, hB, _, rfl, hv'1⟩
set_option maxRecDepth 100000 in
set_option maxHeartbeats 1000000 in
theorem blkN_Bits (no : Int) (w : World) :
    Calls Tryz.prog 22 #[.pointer none, .int .i64 no] w (RetS (fun w' r => ∃ b, r = .tuple #[.slice none 0 0, .iface 67 (.pointer (some ⟨b, 0, none⟩))] ∧ ErrV w' [some no] (some 18) (.iface 67 (.pointer (some ⟨b, 0, none⟩)))) w) := by
 refine zin 11 Tryz.func22 ?_
 refine xc 10 (args := #[.pointer none, .int .i64 no, .int .i64 3, .func (.func 60) #[] #[]]) (readN_Bits 0 no _) ?_
 rintro _ W1 ⟨_, rfl, hb1, bf, rfl, hv⟩
 exact xe 7 (.tuple #[.slice none 0 0, .iface 67 (.pointer (some ⟨bf, 0, none⟩))]) ⟨_, rfl, hb1, _, rfl, hv⟩
set_option maxRecDepth 100000 in
set_option maxHeartbeats 1000000 in
theorem blkN_Index (no : Int) (w : World) :
    Calls Tryz.prog 23 #[.pointer none, .int .i64 no] w (RetS (fun w' r => ∃ b, r = .tuple #[.slice none 0 0, .iface 67 (.pointer (some ⟨b, 0, none⟩))] ∧ ErrV w' [some no] (some 18) (.iface 67 (.pointer (some ⟨b, 0, none⟩)))) w) := by
  refine calls_of_wp Tryz.func23 rfl ?_
  refine g_fr ⟨#[.pointer none, .int .i64 no, undef, undef, undef, undef, undef, undef, undef, undef, undef], []⟩ (by kernel_rfl) ?_
  refine wp_seq ?_
  refine wp_region_lit ?_
  refine g_pv 2 [(4, .slice none 0 0), (5, .nilIface)] (by kernel_rfl) ?_
  refine wpList_nil ?_
  refine wp_seq ?_
  refine wp_region_lit ?_
  refine g_pv 2 [(6, .pointer none), (7, .int .i64 no)] (by kernel_rfl) ?_
  refine g_op (by kernel_rfl) (op_call (lb := #[]) 61 #[.pointer none, .int .i64 no, .int .i64 4, .func (.func 62) #[] #[]] rfl (by kernel_rfl) (fun _ _ => by kernel_rfl) (by kernel_rfl) ((readN_Index 0 no _).mono ?_))
  rintro e W1 ⟨_, rfl, hb1, bf, rfl, hv⟩
  refine ⟨_, rfl, ?_⟩
  have hB := hb1
  refine g_pv 4 [(9, .slice none 0 0), (10, .iface 67 (.pointer (some ⟨bf, 0, none⟩))), (4, .slice none 0 0), (5, .iface 67 (.pointer (some ⟨bf, 0, none⟩)))] (by kernel_rfl) ?_
  refine wpList_nil ?_
  refine wp_ret ?_
  exact g_ret (.tuple #[.slice none 0 0, .iface 67 (.pointer (some ⟨bf, 0, none⟩))]) (by kernel_rfl) (by kernel_rfl) ⟨_, rfl, hB, _, rfl, hv⟩
/-- the number that Seal hands back -/
def sealE (kind no : Int) (li : List UInt8) : Int := if knownB kind no then (if li.length ≤ 244 then 0 else 2) else 1
theorem knownB_all {kind no : Int} (h : knownB kind no = true) : 1 ≤ kind ∧ kind ≤ 4 ∧ 0 ≤ no ∧ no < 14400 := of_decide_eq_true h
set_option maxRecDepth 100000 in
set_option maxHeartbeats 1000000 in
theorem seal_Seal_bad (kind no : Int) (a : Option Addr) (c : Nat) (li : List UInt8) (w : World) (hk : knownB kind no = false) :
    Calls Tryz.prog 53 #[.int .i64 kind, .int .i64 no, .slice a li.length c] w (Ret (.tuple #[.slice none 0 0, .int .i64 1]) w) := by
 refine zin 54 Tryz.func53 ?_
 refine xr 11 (args := #[.int .i64 kind, .int .i64 no]) (seal_knownB kind no _) fun W1 hb1 => ?_
 refine xk 3 (show (!(knownB kind no) : Bool) = true from by rw [hk]; rfl) ?_
 exact xe 8 (.tuple #[.slice none 0 0, .int .i64 1]) ⟨rfl, hb1⟩
set_option maxRecDepth 100000 in
set_option maxHeartbeats 1000000 in
theorem seal_Seal_long (kind no : Int) (a : Option Addr) (c : Nat) (li : List UInt8) (w : World) (hk : knownB kind no = true) (hl : 244 < li.length) :
    Calls Tryz.prog 53 #[.int .i64 kind, .int .i64 no, .slice a li.length c] w (Ret (.tuple #[.slice none 0 0, .int .i64 2]) w) := by
 refine zin 54 Tryz.func53 ?_
 refine xr 11 (args := #[.int .i64 kind, .int .i64 no]) (seal_knownB kind no _) fun W1 hb1 => ?_
 refine xk 3 (show (!(knownB kind no) : Bool) = false from by rw [hk]; rfl) ?_
 refine xk 10 (show (decide ((↑li.length : Int) > (244 : Int)) : Bool) = true from decide_eq_true (by omega)) ?_
 exact xe 8 (.tuple #[.slice none 0 0, .int .i64 2]) ⟨rfl, hb1⟩
def SealP (kind no : Int) (li : List UInt8) (w : World) (e : Ending) (w' : World) : Prop :=
  (sealE kind no li ≠ 0 ∧ e = .returned (.tuple #[.slice none 0 0, .int .i64 (sealE kind no li)]) ∧ Below w.heap.size w w') ∨
  (sealE kind no li = 0 ∧ knownB kind no = true ∧ li.length ≤ 244 ∧ ∃ p c, e = .returned (.tuple #[.slice p 256 c, .int .i64 0]) ∧ Below w.heap.size w w' ∧ w'.ownsRow w.heap.size 5 1 (.slice p 256 c) 256 ((sealB kind no li).map bv))
theorem seal_SealG (kind no : Int) (a : Option Addr) (c : Nat) (li : List UInt8) (w : World) (h : Bys w (.slice a li.length c) li) :
    Calls Tryz.prog 53 #[.int .i64 kind, .int .i64 no, .slice a li.length c] w (SealP kind no li w) := by
  cases hk : knownB kind no with
  | false =>
    refine (seal_Seal_bad kind no a c li w hk).mono ?_
    rintro e W ⟨rfl, hb⟩
    have he : sealE kind no li = 1 := by simp [sealE, hk]
    exact .inl ⟨by rw [he]; decide, by rw [he], hb⟩
  | true =>
    by_cases hl : li.length ≤ 244
    · obtain ⟨h1, h2, h3, h4⟩ := knownB_all hk
      refine (seal_Seal kind no h1 h2 h3 h4 a c li w hl h).mono ?_
      rintro e W ⟨_, rfl, hb, p, c2, rfl, ho⟩
      exact .inr ⟨by simp [sealE, hk, hl], hk, hl, p, c2, rfl, hb, ho⟩
    · refine (seal_Seal_long kind no a c li w hk (by omega)).mono ?_
      rintro e W ⟨rfl, hb⟩
      have he : sealE kind no li = 2 := by simp [sealE, hk, hl]
      exact .inl ⟨by rw [he]; decide, by rw [he], hb⟩
set_option maxRecDepth 100000 in
set_option maxHeartbeats 1000000 in
theorem image_Write_nil (k : Int) (x : Value) (w : World) :
    Calls Tryz.prog 54 #[.pointer none, .int .i64 k, x] w (Ret (.int .i64 18) w) := by
 refine zin 24 Tryz.func54 ?_
 refine xr 9 (args := #[.pointer none, .int .i64 k]) (image_block_nil k _) fun W1 hb1 => ?_
 exact xe 23 (.int .i64 18) ⟨rfl, hb1⟩
set_option maxRecDepth 100000 in
set_option maxHeartbeats 1000000 in
theorem blkN_Write (no kind : Int) (a : Option Addr) (c : Nat) (li : List UInt8) (w : World) (h : Bys w (.slice a li.length c) li) :
    Calls Tryz.prog 20 #[.pointer none, .int .i64 no, .int .i64 kind, .slice a li.length c] w (RetS (fun w' r => ∃ b er, r = .iface 67 (.pointer (some ⟨b, 0, none⟩)) ∧ er ≠ 0 ∧ ErrV w' [some no] (some er) (.iface 67 (.pointer (some ⟨b, 0, none⟩)))) w) := by
 refine zin 28 Tryz.func20 ?_
 refine xc 10 (args := #[.int .i64 kind, .int .i64 no, .slice a li.length c]) (seal_SealG kind no a c li _ (h.below (Below.refl w.heap.size _))) ?_
 rintro e W1 hq1
 rcases hq1 with ⟨hs, rfl, hb1⟩ | ⟨_, _, _, p2, c2, rfl, hb1, _⟩
 · refine xk 14 (show (((sealE kind no li) == (0 : Int)) : Bool) = false from beq_false_of_ne hs) ?_
   refine xc 7 (args := #[.int .i64 no, .iface 53 (.int .i64 (sealE kind no li))]) (block_told no (sealE kind no li) _) ?_
   rintro _ W2 ⟨_, rfl, hb2, hv2⟩
   rw [if_neg hs, if_neg hs] at hv2
   have hq2 := hv2
   obtain ⟨bf2, vf2, rfl, _, _⟩ := hq2
   have hB := Bl.next hb1 hb2
   exact xe 4 (.iface 67 (.pointer (some ⟨bf2, 0, none⟩))) ⟨_, rfl, hB, _, _, rfl, hs, hv2⟩
 refine xr 19 (args := #[.pointer none, .int .i64 no, .slice p2 256 c2]) (image_Write_nil no _ _) fun W3 hb3 => ?_
 refine xc 8 (args := #[.int .i64 no, .iface 53 (.int .i64 18)]) (block_told no 18 _) ?_
 rintro _ W4 ⟨_, rfl, hb4, hv4⟩
 rw [if_neg (by decide), if_neg (by decide)] at hv4
 have hq4 := hv4
 obtain ⟨bf4, vf4, rfl, _, _⟩ := hq4
 have hB := Bl.next (Bl.next hb1 hb3) hb4
 exact xe 4 (.iface 67 (.pointer (some ⟨bf4, 0, none⟩))) ⟨_, rfl, hB, _, _, rfl, (by decide), hv4⟩
end Go.Proofs.YtinegkldgjhnpaaGreatDoor
namespace Go.Proofs.YtinegkldgjhnpaaGreatDoor
open Go.RowKit Go.Extern.Stop Go.Stop Go.Extern
set_option linter.unusedVariables false
attribute [local irreducible] wpList wpAnyH Code.wp Oper.wp Go

theorem step1_xor (a b : Nat) : step1 (a ^^^ b) = step1 a ^^^ step1 b := by
  have e : ∀ r, step1 r = (r / 2) ^^^ (if r % 2 = 1 then 2197175160 else 0) := fun r => by unfold step1; split <;> simp
  rw [e, e, e, Nat.xor_div_two]
  have hp := Nat.xor_mod_two_eq_one (a := a) (b := b)
  by_cases h1 : a % 2 = 1 <;> by_cases h2 : b % 2 = 1
  · rw [if_neg (by rw [hp]; simp [h1, h2]), if_pos h1, if_pos h2, Nat.xor_zero]
    rw [show a / 2 ^^^ 2197175160 ^^^ (b / 2 ^^^ 2197175160) = a / 2 ^^^ b / 2 ^^^ (2197175160 ^^^ 2197175160) by ac_rfl]; simp
  · rw [if_pos (by rw [hp]; simp [h1, h2]), if_pos h1, if_neg h2, Nat.xor_zero]; ac_rfl
  · rw [if_pos (by rw [hp]; simp [h1, h2]), if_neg h1, if_pos h2, Nat.xor_zero]; ac_rfl
  · rw [if_neg (by rw [hp]; simp [h1, h2]), if_neg h1, if_neg h2, Nat.xor_zero, Nat.xor_zero, Nat.xor_zero]
theorem stepN_xor (n a b : Nat) : stepN n (a ^^^ b) = stepN n a ^^^ stepN n b := by
  induction n with
  | zero => rfl
  | succ n ih => rw [stepN, ih, step1_xor]; rfl
theorem step1_even (q : Nat) : step1 (2 * q) = q := by unfold step1; rw [if_neg (by omega)]; omega
theorem stepN_16 (q : Nat) : stepN 4 (16 * q) = q := by
  show step1 (step1 (step1 (step1 (16 * q)))) = q
  rw [show 16 * q = 2 * (2 * (2 * (2 * q))) by omega, step1_even, step1_even, step1_even, step1_even]
theorem split16 (r : Nat) : r = (16 * (r / 16)) ^^^ (r % 16) := by
  apply Nat.eq_of_testBit_eq
  intro i
  rw [Nat.testBit_xor, show 16 * (r / 16) = 2 ^ 4 * (r / 2 ^ 4) from rfl, Nat.testBit_two_pow_mul, Nat.testBit_div_two_pow, show r % 16 = r % 2 ^ 4 from rfl, Nat.testBit_mod_two_pow]
  by_cases h : 4 ≤ i
  · rw [show i - 4 + 4 = i by omega, show decide (i ≥ 4) = true from decide_eq_true h, show decide (i < 4) = false from decide_eq_false (by omega)]; simp
  · rw [show decide (i ≥ 4) = false from decide_eq_false h, show decide (i < 4) = true from decide_eq_true (by omega)]; simp
theorem stepN_4 (r : Nat) : stepN 4 r = (r / 16) ^^^ half (r % 16) := by
  conv => lhs; rw [split16 r]
  rw [stepN_xor, stepN_16]; rfl
theorem stepN_add (m n r : Nat) : stepN (m + n) r = stepN m (stepN n r) := by
  induction m with
  | zero => simp [stepN]
  | succ m ih => rw [Nat.succ_add, stepN, ih]; rfl
theorem crcStep_8 (r : Nat) (x : UInt8) : crcStep r x = stepN 8 (r ^^^ x.toNat) := by
  show _ = stepN (4 + 4) (r ^^^ x.toNat)
  rw [stepN_add, stepN_4, stepN_4]; rfl
theorem step1_odd {r : Nat} (h : r % 2 = 1) : step1 r = (r / 2) ^^^ 2197175160 := if_pos h
theorem step1_ev {r : Nat} (h : ¬ r % 2 = 1) : step1 r = r / 2 := if_neg h
set_option maxRecDepth 100000 in
set_option maxHeartbeats 1000000 in
theorem ref_Step (r : Nat) (w : World) (hr : r < 4294967296) :
    Calls Tryz.prog 170 #[.int .i64 (↑r : Int)] w (Ret (.int .i64 (stepN 8 r : Int)) w) := by
 refine zin 18 Tryz.func170 ?_
 have hB := Below.refl w.heap.size w
 refine zl 12 18 (fun zm zkv V => ∃ (j : Nat), zkv = [(0, .int .i64 (↑(stepN j r) : Int)), (2, .int .i64 0), (3, .int .i64 (↑j : Int))] ∧ zm = 8 - ((↑j : Int)).toNat ∧ Below w.heap.size w V ∧ j ≤ 8) ⟨0, rfl, rfl, hB, by decide⟩ ?_
 rintro _ _ W1 ⟨j, rfl, rfl, hB_1, hj⟩ J1 hJ1 r1
 refine xid 7 ((↑j : Int) < (8 : Int)) (fun hc2 => ?_) (fun hc2 => ?_)
 · refine xq 7 (congrArg (Value.int .i64) (show (Int.tmod (↑(stepN j r) : Int) 2 : Int) = (↑((stepN j r) % 2) : Int) from tmod_natB (stepN j r) 2)) ?_
   refine xq 7 (congrArg (Value.int .i64) (show (IntKind.i64.wrap (Int.tdiv (↑(stepN j r) : Int) 2) : Int) = (↑((stepN j r) / 2) : Int) from quo_natB (stepN j r) 2 (by have := stepN_lt (j := j) hr; omega) (by decide))) ?_
   refine xie 8 (↑((stepN j r) % 2) : Int) (1 : Int) (fun hc3 => ?_) (fun hc3 => ?_)
   · refine xq 2 (congrArg (Value.int .i64) (show (IntKind.i64.wrap (↑(BitVec.ofInt 64 (↑((stepN j r) / 2) : Int) ^^^ BitVec.ofInt 64 (2197175160 : Int)).toNat : Int) : Int) = (↑(((stepN j r) / 2) ^^^ 2197175160) : Int) from i64_xor (a := (stepN j r) / 2) (b := 2197175160) (by have := stepN_lt (j := j) hr; omega) (by decide))) ?_
     refine xwm 6 ((↑j : Int) + 1) (↑(j + 1) : Int) ?_
     refine xv1 2 0 (show (.int .i64 (↑(((stepN j r) / 2) ^^^ 2197175160) : Int) : Value) = .int .i64 (↑(stepN (j + 1) r) : Int) from by rw [show stepN (j + 1) r = step1 (stepN j r) from rfl, step1_odd (by omega)]) ?_
     exact ze 0 (hJ1 _ _ _ ⟨j + 1, rfl, rfl, hB_1, by omega⟩ (by omega))
   refine xwm 5 ((↑j : Int) + 1) (↑(j + 1) : Int) ?_
   refine xv1 2 0 (show (.int .i64 (↑((stepN j r) / 2) : Int) : Value) = .int .i64 (↑(stepN (j + 1) r) : Int) from by rw [show stepN (j + 1) r = step1 (stepN j r) from rfl, step1_ev (by omega)]) ?_
   exact ze 0 (hJ1 _ _ _ ⟨j + 1, rfl, rfl, hB_1, by omega⟩ (by omega))
 refine xe 12 (.int .i64 (↑(stepN j r) : Int)) ?_
 obtain rfl : j = 8 := by omega
 exact ⟨rfl, hB_1⟩
set_option maxRecDepth 100000 in
set_option maxHeartbeats 1000000 in
theorem ref_More (a : Option Addr) (c : Nat) (l : List UInt8) (w : World) (hl : l.length ≤ 100000000) (h : Bys w (.slice a l.length c) l) :
    Calls Tryz.prog 166 #[.int .i64 0, .slice a l.length c] w (Ret (.int .i64 (crcSum l : Int)) w) := by
 refine zin 31 Tryz.func166 ?_
 have hB := Below.refl w.heap.size w
 refine zl 33 31 (fun zm zkv V => ∃ (i : Nat), zkv = [(1, .slice a l.length c), (4, .int .i64 0), (5, .int .i64 (↑(crcRun 4294967295 (l.take i)) : Int)), (6, .int .i64 (↑i : Int))] ∧ zm = l.length - ((↑i : Int)).toNat ∧ Below w.heap.size w V ∧ i ≤ l.length) ⟨0, rfl, rfl, hB, Nat.zero_le _⟩ ?_
 rintro _ _ W1 ⟨i, rfl, rfl, hB_1, hi⟩ J1 hJ1 r1
 refine xid 9 ((↑i : Int) < (↑l.length : Int)) (fun hc2 => ?_) (fun hc2 => ?_)
 · refine xx 8 _ l.length i 1 (Bys.elem h (k := i) (by omega)).1 ?_
   refine xl 0 ((Bys.elem (h.below hB_1) (k := i) (by omega)).2) ?_
   refine xq 0 (congrArg (Value.int .i64) (show (IntKind.i64.wrap (↑(l.getD i 0).toNat : Int) : Int) = (↑(l.getD i 0).toNat : Int) from i64_nat (by have := (l.getD i 0).toNat_lt; omega))) ?_
   refine xq 0 (congrArg (Value.int .i64) (show (IntKind.i64.wrap (↑(BitVec.ofInt 64 (↑(crcRun 4294967295 (l.take i)) : Int) ^^^ BitVec.ofInt 64 (↑(l.getD i 0).toNat : Int)).toNat : Int) : Int) = (↑((crcRun 4294967295 (l.take i)) ^^^ (l.getD i 0).toNat) : Int) from i64_xor (crcRun_lt (by decide) _) (u8_lt _))) ?_
   refine xr 0 (args := #[.int .i64 (↑((crcRun 4294967295 (l.take i)) ^^^ (l.getD i 0).toNat) : Int)]) (ref_Step ((crcRun 4294967295 (l.take i)) ^^^ (l.getD i 0).toNat) _ (Nat.xor_lt_two_pow (n := 32) (crcRun_lt (by decide) _) (u8_lt _))) fun W3 hb3 => ?_
   refine xwm 6 ((↑i : Int) + 1) (↑(i + 1) : Int) ?_
   refine xv1 2 5 (show (.int .i64 (↑(stepN 8 ((crcRun 4294967295 (l.take i)) ^^^ (l.getD i 0).toNat)) : Int) : Value) = .int .i64 (↑(crcRun 4294967295 (l.take (i + 1))) : Int) from by rw [crcRun_take (by omega), crcStep_8]) ?_
   have hB'1 := Bl.next hB_1 hb3
   exact ze 0 (hJ1 _ _ _ ⟨i + 1, rfl, rfl, hB'1, by omega⟩ (by omega))
 refine xq 8 (congrArg (Value.int .i64) (show (IntKind.i64.wrap (↑(BitVec.ofInt 64 (↑(crcRun 4294967295 (l.take i)) : Int) ^^^ BitVec.ofInt 64 (4294967295 : Int)).toNat : Int) : Int) = (↑((crcRun 4294967295 (l.take i)) ^^^ 4294967295) : Int) from i64_xor (b := 4294967295) (crcRun_lt (by decide) _) (by decide))) ?_
 refine xe 4 (.int .i64 (↑((crcRun 4294967295 (l.take i)) ^^^ 4294967295) : Int)) ?_
 obtain rfl : i = l.length := by omega
 rw [List.take_length]
 exact ⟨rfl, hB_1⟩
set_option maxRecDepth 100000 in
set_option maxHeartbeats 1000000 in
theorem ref_Sum (a : Option Addr) (c : Nat) (l : List UInt8) (w : World) (hl : l.length ≤ 100000000) (h : Bys w (.slice a l.length c) l) :
    Calls Tryz.prog 151 #[.slice a l.length c] w (Ret (.int .i64 (crcSum l : Int)) w) := by
 refine zin 5 Tryz.func151 ?_
 refine xr 8 (args := #[.int .i64 0, .slice a l.length c]) (ref_More a c l _ hl (h.below (Below.refl w.heap.size _))) fun W1 hb1 => ?_
 exact xe 4 (.int .i64 (↑(crcSum l) : Int)) ⟨rfl, hb1⟩
theorem ref_SumN (a : Option Addr) (n c : Nat) (l : List UInt8) (w : World) (hn : l.length = n) (hl : n ≤ 100000000) (h : Bys w (.slice a n c) l) : Calls Tryz.prog 151 #[.slice a n c] w (Ret (.int .i64 (crcSum l : Int)) w) := by
  subst hn; exact ref_Sum a c l w hl h
theorem leB_snoc (n : Int) (w : Nat) : leB n (w + 1) = leB n w ++ [byteAt n w] := by simp [leB, List.range_succ]
theorem u8_byteAt (m i : Nat) : IntKind.u8.wrap (((m / 256 ^ i) % 256 : Nat) : Int) = ((byteAt (m : Int) i).toNat : Int) := by
  rw [byte_0 (Int.natCast_nonneg _)]
  unfold byteAt
  simp only [Int.toNat_natCast, Nat.pow_zero, Nat.div_one]
  congr 2
  apply UInt8.toNat_inj.1
  simp [UInt8.toNat_ofNat']
set_option maxRecDepth 100000 in
set_option maxHeartbeats 1000000 in
theorem ref_Bytes (m w : Nat) (W : World) (hm : m < 9223372036854775808) (hw : w ≤ 8) :
    Calls Tryz.prog 150 #[.int .i64 (↑m : Int), .int .i64 (↑w : Int)] W (RetS (fun W' r => ∃ p c, r = .slice p w c ∧ W'.ownsRow W.heap.size 5 1 (.slice p w c) w ((leB (↑m : Int) w).map bv)) W) := by
 refine zin 21 Tryz.func150 ?_
 refine xv1 17 0 (show (.int .i64 (↑m : Int) : Value) = .int .i64 ((m / 256 ^ 0 : Nat) : Int) from by rw [Nat.pow_zero, Nat.div_one]) ?_
 have hB := Below.refl W.heap.size W
 refine zl 0 21 (fun zm zkv V => ∃ (i : Nat) (p : Option Addr) (c : Nat), zkv = [(0, .int .i64 (↑(m / 256 ^ i) : Int)), (1, .int .i64 (↑w : Int)), (4, .slice none 0 0), (5, .slice p i c), (6, .int .i64 (↑i : Int))] ∧ zm = w - ((↑i : Int)).toNat ∧ Below W.heap.size W V ∧ V.ownsRow W.heap.size 5 1 (.slice p i c) i ((leB (↑m : Int) i).map bv) ∧ i ≤ w) ⟨0, _, _, rfl, rfl, hB, World.ownsRow_nil _ _ _ _, Nat.zero_le _⟩ ?_
 rintro _ _ W1 ⟨i, p, c, rfl, rfl, hB_1, ho, hi⟩ J1 hJ1 r1
 refine xid 8 ((↑i : Int) < (↑w : Int)) (fun hc2 => ?_) (fun hc2 => ?_)
 · refine xq 8 (congrArg (Value.int .i64) (show (Int.tmod (↑(m / 256 ^ i) : Int) 256 : Int) = (↑((m / 256 ^ i) % 256) : Int) from tmod_natB (m / 256 ^ i) 256)) ?_
   refine xq 0 (congrArg (Value.int .u8) (show (IntKind.u8.wrap (↑((m / 256 ^ i) % 256) : Int) : Int) = (↑(byteAt (↑m : Int) i).toNat : Int) from u8_byteAt m i)) ?_
   refine xbs 0 1 [.int .u8 (↑(byteAt (↑m : Int) i).toNat : Int)] 5 fun b3 W3 n3 => ?_
   have r3_ho := own_ne ho n3
   have ho'1 := own_below ho n3.below
   have hB'1 := Bl.next hB_1 n3.below
   refine xbi 0 fun _ _ _ _ zJ zQ zo zx zy zK => op_app (m := 1) (news := [.int .u8 (↑(byteAt (↑m : Int) i).toNat : Int)]) (.int .u8 0) 1 1 (i + 1) ((leB (↑m : Int) (i + 1)).map bv) zo Tryz.underlying22 (by kernel_rfl) rfl (by decide) zx ho'1 zy (n3.blk.sl 1 1 (by decide) (by decide)) rfl (by simp [Value.oneCell']) (by unfold maxLen; omega) (by omega) hB'1.size (by rfl) (by rw [leB_snoc, List.map_append]; rfl) fun p4 c4 W4 o4 hg4 hb4 => ?_
   refine zK _ _ ?_
   refine xq 5 (congrArg (Value.int .i64) (show (IntKind.i64.wrap (Int.tdiv (↑(m / 256 ^ i) : Int) 256) : Int) = (↑((m / 256 ^ i) / 256) : Int) from quo_natB (m / 256 ^ i) 256 (Nat.lt_of_le_of_lt (Nat.div_le_self _ _) hm) (by decide))) ?_
   refine xwm 6 ((↑i : Int) + 1) (↑(i + 1) : Int) ?_
   refine xv1 2 0 (show (.int .i64 (↑((m / 256 ^ i) / 256) : Int) : Value) = .int .i64 (↑(m / 256 ^ (i + 1)) : Int) from by rw [Nat.pow_succ, ← Nat.div_div_eq_div_mul]) ?_
   have hB'2 := hB'1.trans hb4
   exact ze 0 (hJ1 _ _ _ ⟨i + 1, _, _, rfl, rfl, hB'2, o4, by omega⟩ (by omega))
 refine xe 12 (.slice p i c) ?_
 obtain rfl : i = w := by omega
 exact ⟨_, rfl, hB_1, _, _, rfl, ho⟩
theorem ref_BytesN (n : Int) (w : Nat) (wi : Int) (W : World) (h0 : 0 ≤ n) (hn : n < 9223372036854775808) (hwi : wi = (w : Int)) (hw : w ≤ 8) : Calls Tryz.prog 150 #[.int .i64 n, .int .i64 wi] W (RetS (fun W' r => ∃ p c, r = .slice p w c ∧ W'.ownsRow W.heap.size 5 1 (.slice p w c) w ((leB n w).map bv)) W) := by
  subst hwi
  obtain ⟨m, rfl⟩ : ∃ m : Nat, n = m := ⟨n.toNat, by omega⟩
  exact ref_Bytes m w W (by omega) hw
set_option maxRecDepth 100000 in
set_option maxHeartbeats 1000000 in
theorem ref_Salt1 (w : World) :
    Calls Tryz.prog 152 #[.int .i64 1] w (Ret (.int .i64 (saltN 1 : Int)) w) := by
 refine zin 15 Tryz.func152 ?_
 refine xbs 7 5 [.int .i64 0, .int .i64 160774, .int .i64 121107, .int .i64 240779, .int .i64 160478] 3 fun b1 W1 n1 => ?_
 refine xb 22 1 n1.blk ?_
 exact xe 4 (.int .i64 160774) ⟨rfl, n1.below⟩
set_option maxRecDepth 100000 in
set_option maxHeartbeats 1000000 in
theorem ref_Salt2 (w : World) :
    Calls Tryz.prog 152 #[.int .i64 2] w (Ret (.int .i64 (saltN 2 : Int)) w) := by
 refine zin 15 Tryz.func152 ?_
 refine xbs 7 5 [.int .i64 0, .int .i64 160774, .int .i64 121107, .int .i64 240779, .int .i64 160478] 3 fun b1 W1 n1 => ?_
 refine xb 22 2 n1.blk ?_
 exact xe 4 (.int .i64 121107) ⟨rfl, n1.below⟩
set_option maxRecDepth 100000 in
set_option maxHeartbeats 1000000 in
theorem ref_Salt3 (w : World) :
    Calls Tryz.prog 152 #[.int .i64 3] w (Ret (.int .i64 (saltN 3 : Int)) w) := by
 refine zin 15 Tryz.func152 ?_
 refine xbs 7 5 [.int .i64 0, .int .i64 160774, .int .i64 121107, .int .i64 240779, .int .i64 160478] 3 fun b1 W1 n1 => ?_
 refine xb 22 3 n1.blk ?_
 exact xe 4 (.int .i64 240779) ⟨rfl, n1.below⟩
set_option maxRecDepth 100000 in
set_option maxHeartbeats 1000000 in
theorem ref_Salt4 (w : World) :
    Calls Tryz.prog 152 #[.int .i64 4] w (Ret (.int .i64 (saltN 4 : Int)) w) := by
 refine zin 15 Tryz.func152 ?_
 refine xbs 7 5 [.int .i64 0, .int .i64 160774, .int .i64 121107, .int .i64 240779, .int .i64 160478] 3 fun b1 W1 n1 => ?_
 refine xb 22 4 n1.blk ?_
 exact xe 4 (.int .i64 160478) ⟨rfl, n1.below⟩
theorem ref_Salt (kind : Int) (h1 : 1 ≤ kind) (h2 : kind ≤ 4) (w : World) : Calls Tryz.prog 152 #[.int .i64 kind] w (Ret (.int .i64 (saltN kind : Int)) w) := by
  obtain rfl | rfl | rfl | rfl : kind = 1 ∨ kind = 2 ∨ kind = 3 ∨ kind = 4 := by omega
  · exact ref_Salt1 w
  · exact ref_Salt2 w
  · exact ref_Salt3 w
  · exact ref_Salt4 w
set_option maxRecDepth 100000 in
set_option maxHeartbeats 1000000 in
theorem ref_known (kind no : Int) (w : World) :
    Calls Tryz.prog 149 #[.int .i64 kind, .int .i64 no] w (Ret (.bool (knownB kind no)) w) := by
 refine zin 19 Tryz.func149 ?_
 refine xg 10 [6, 7] (decide (kind ≥ (1 : Int))) (fun hc1 => ?_) (fun hc1 => ?_)
 · have hc1 := of_decide_eq_true hc1
   refine xg 4 [9, 10, 11] (decide (kind ≤ (4 : Int))) (fun hc2 => ?_) (fun hc2 => ?_)
   · have hc2 := of_decide_eq_true hc2
     refine xg 4 [13, 14, 15] (decide (no ≥ (0 : Int))) (fun hc3 => ?_) (fun hc3 => ?_)
     · have hc3 := of_decide_eq_true hc3
       exact xe 7 (.bool (decide (no < (14400 : Int)))) ⟨by rw [show knownB kind no = decide (no < 14400) from decide_eq_decide.2 ⟨fun h => h.2.2.2, fun h => ⟨by omega, by omega, by omega, h⟩⟩], (Below.refl w.heap.size _)⟩
     have hc3 := of_decide_eq_false hc3
     exact xe 7 (.bool false) ⟨by rw [show knownB kind no = false from decide_eq_false (by omega)], (Below.refl w.heap.size _)⟩
   have hc2 := of_decide_eq_false hc2
   exact xe 11 (.bool false) ⟨by rw [show knownB kind no = false from decide_eq_false (by omega)], (Below.refl w.heap.size _)⟩
 have hc1 := of_decide_eq_false hc1
 exact xe 15 (.bool false) ⟨by rw [show knownB kind no = false from decide_eq_false (by omega)], (Below.refl w.heap.size _)⟩
def refHead (kind no : Int) (li : List UInt8) : List UInt8 := leB no 4 ++ leB kind 2 ++ [0, 0] ++ li
theorem refHead_len (kind no : Int) (li : List UInt8) : (refHead kind no li).length = 8 + li.length := by simp [refHead, leB_len]; omega
def refPad (kind no : Int) (li : List UInt8) (m : Nat) : List UInt8 := refHead kind no li ++ List.replicate (m - (8 + li.length)) 0
theorem refPad_len {kind no : Int} {li : List UInt8} {m : Nat} (h : 8 + li.length ≤ m) : (refPad kind no li m).length = m := by simp [refPad, refHead_len]; omega
theorem refPad_zero (kind no : Int) (li : List UInt8) : refPad kind no li (8 + li.length) = refHead kind no li := by simp [refPad]
theorem refPad_next {kind no : Int} {li : List UInt8} {m : Nat} (h : 8 + li.length ≤ m) : refPad kind no li (m + 1) = refPad kind no li m ++ [0] := by
  unfold refPad
  rw [show m + 1 - (8 + li.length) = (m - (8 + li.length)) + 1 by omega, List.replicate_succ', ← List.append_assoc]
theorem refPad_seal3 {kind no : Int} {li : List UInt8} (hl : li.length ≤ 244) : refPad kind no li 252 = (seal3 kind no li).take 252 := by
  have l1 := seal1_len hl
  have l2 := seal2_len (no := no) hl
  have l3 := seal3_len (kind := kind) (no := no) hl
  apply ext_getD
  · rw [refPad_len (by omega)]; simp [l3]
  · intro j hj
    rw [refPad_len (by omega)] at hj
    have e : ((seal3 kind no li).take 252).getD j 0 = (seal3 kind no li).getD j 0 := by simp only [List.getD]; rw [List.getElem?_take, if_pos hj]
    rw [e]
    unfold seal3
    rw [putB_get (by rw [leB_len]; omega), leB_len]
    unfold refPad refHead
    simp only [List.getD, List.append_assoc]
    rw [List.getElem?_append, leB_len]
    by_cases h1 : j < 4
    · rw [if_pos h1, if_neg (by omega)]
      have := putB_get (l := seal1 li) (k := 0) (x := leB no 4) (by rw [leB_len]; omega) j
      rw [if_pos (by rw [leB_len]; omega)] at this
      unfold seal2
      simp only [List.getD] at this
      rw [this, Nat.sub_zero]
    · rw [if_neg h1, List.getElem?_append, leB_len]
      by_cases h2 : j < 6
      · rw [if_pos (by omega), if_pos (by omega)]
      · rw [if_neg (by omega), if_neg (by omega)]
        have := putB_get (l := seal1 li) (k := 0) (x := leB no 4) (by rw [leB_len]; omega) j
        rw [if_neg (by rw [leB_len]; omega)] at this
        have h3 := putB_get (l := List.replicate 256 (0 : UInt8)) (k := 8) (x := li) (by rw [List.length_replicate]; omega) j
        unfold seal2
        simp only [List.getD] at this h3
        rw [this]
        unfold seal1
        rw [h3, List.getElem?_append]
        have hz := zeros_get 256 j
        simp only [List.getD] at hz
        by_cases h4 : j < 8
        · rw [if_pos (by simp; omega), if_neg (by omega), hz]
          obtain rfl | rfl : j = 6 ∨ j = 7 := by omega
          · rfl
          · rfl
        · rw [if_neg (by simp; omega), List.getElem?_append]
          simp only [List.length_cons, List.length_nil]
          by_cases h5 : j < 8 + li.length
          · rw [if_pos (by omega), if_pos (by omega), show j - 4 - 2 - (0 + 1 + 1) = j - 8 by omega]
          · rw [if_neg (by omega), if_neg (by omega), hz]
            have := zeros_get (252 - (8 + li.length)) (j - 4 - 2 - (0 + 1 + 1) - li.length)
            simpa only [List.getD] using this
theorem refSeal_eq {kind no : Int} {li : List UInt8} (hl : li.length ≤ 244) : refPad kind no li 252 ++ leB ((crcSum (refPad kind no li 252) ^^^ saltN kind : Nat) : Int) 4 = sealB kind no li := by
  have l3 := seal3_len (kind := kind) (no := no) hl
  rw [refPad_seal3 hl]
  unfold sealB putB sumB
  rw [leB_len, List.drop_eq_nil_of_le (by omega), List.append_nil]
end Go.Proofs.YtinegkldgjhnpaaGreatDoor
namespace Go.Proofs.YtinegkldgjhnpaaGreatDoor
open Go.RowKit Go.Extern.Stop Go.Stop Go.Extern
set_option linter.unusedVariables false
attribute [local irreducible] wpList wpAnyH Code.wp Oper.wp Go

theorem rawN_hi (l : List UInt8) : ∀ (j k r : Nat), rawN l (k + j) r ≤ rawN l k (j + r)
  | 0, k, r => by simp
  | j + 1, k, r => by
    have ih := rawN_hi l j (k + 1) r
    rw [show j + 1 + r = (j + r) + 1 by omega, rawN, show k + (j + 1) = k + 1 + j by omega]
    omega
theorem raw8 (l : List UInt8) (k : Nat) : rawN l k 8 < 9223372036854775808 ↔ (l.getD (k + 7) 0).toNat < 128 := by
  have h : ∀ i, (l.getD i 0).toNat < 256 := fun i => (l.getD i 0).toNat_lt
  have h0 := h k
  have h1 := h (k + 1)
  have h2 := h (k + 2)
  have h3 := h (k + 3)
  have h4 := h (k + 4)
  have h5 := h (k + 5)
  have h6 := h (k + 6)
  have h7 := h (k + 7)
  simp only [rawN, Nat.add_assoc, Nat.reduceAdd]
  omega
theorem rawN_last {l : List UInt8} {k w j r : Nat} (h : rawN l k w < 9223372036854775808) (hj : 0 < j) (e : j + r = w) : (l.getD (k + (j - 1)) 0).toNat + 256 * rawN l (k + j) r < 9223372036854775808 ∧ rawN l (k + (j - 1)) (r + 1) = rawN l (k + j) r * 256 + (l.getD (k + (j - 1)) 0).toNat := by
  have h1 := rawN_hi l (j - 1) k (r + 1)
  rw [show j - 1 + (r + 1) = w by omega, rawN, show k + (j - 1) + 1 = k + j by omega] at h1
  refine ⟨by omega, ?_⟩
  rw [rawN, show k + (j - 1) + 1 = k + j by omega]; omega
set_option maxRecDepth 100000 in
set_option maxHeartbeats 1000000 in
theorem ref_width1 (w : World) :
    Calls Tryz.prog 167 #[.int .i64 1] w (Ret (.bool true) w) := by
 refine zin 17 Tryz.func167 ?_
 exact xe 25 (.bool true) ⟨rfl, (Below.refl w.heap.size _)⟩
set_option maxRecDepth 100000 in
set_option maxHeartbeats 1000000 in
theorem ref_width2 (w : World) :
    Calls Tryz.prog 167 #[.int .i64 2] w (Ret (.bool true) w) := by
 refine zin 17 Tryz.func167 ?_
 exact xe 25 (.bool true) ⟨rfl, (Below.refl w.heap.size _)⟩
set_option maxRecDepth 100000 in
set_option maxHeartbeats 1000000 in
theorem ref_width4 (w : World) :
    Calls Tryz.prog 167 #[.int .i64 4] w (Ret (.bool true) w) := by
 refine zin 17 Tryz.func167 ?_
 exact xe 25 (.bool true) ⟨rfl, (Below.refl w.heap.size _)⟩
set_option maxRecDepth 100000 in
set_option maxHeartbeats 1000000 in
theorem ref_width8 (w : World) :
    Calls Tryz.prog 167 #[.int .i64 8] w (Ret (.bool true) w) := by
 refine zin 17 Tryz.func167 ?_
 exact xe 25 (.bool true) ⟨rfl, (Below.refl w.heap.size _)⟩
theorem ref_width (k : Nat) (hw : k = 1 ∨ k = 2 ∨ k = 4 ∨ k = 8) (w : World) : Calls Tryz.prog 167 #[.int .i64 (↑k : Int)] w (Ret (.bool true) w) := by
  rcases hw with rfl | rfl | rfl | rfl
  · exact ref_width1 w
  · exact ref_width2 w
  · exact ref_width4 w
  · exact ref_width8 w
set_option maxRecDepth 100000 in
set_option maxHeartbeats 1000000 in
theorem ref_room (a : Option Addr) (m c k w : Nat) (W : World) (hw : w = 1 ∨ w = 2 ∨ w = 4 ∨ w = 8) (hk : k + w ≤ m) (hm : m ≤ 100000000) :
    Calls Tryz.prog 154 #[.slice a m c, .int .i64 (↑k : Int), .int .i64 (↑w : Int)] W (Ret (.int .i64 0) W) := by
 refine zin 26 Tryz.func154 ?_
 refine xr 9 (args := #[.int .i64 (↑w : Int)]) (ref_width w hw _) fun W1 hb1 => ?_
 refine xgk 12 [11, 12] (show (decide ((↑k : Int) < (0 : Int)) : Bool) = false from decide_eq_false (by omega)) ?_
 refine xgk 6 [16, 17, 18] (show (decide ((↑k : Int) > (↑m : Int)) : Bool) = false from decide_eq_false (by omega)) ?_
 refine xwm 3 ((↑m : Int) - (↑k : Int)) (↑(m - k) : Int) ?_
 refine xk 5 (show (decide ((↑(m - k) : Int) < (↑w : Int)) : Bool) = false from decide_eq_false (by omega)) ?_
 exact xe 8 (.int .i64 0) ⟨rfl, hb1⟩
set_option maxRecDepth 100000 in
set_option maxHeartbeats 1000000 in
theorem ref_Get_big (a : Option Addr) (c k w : Nat) (l : List UInt8) (W : World) (hw : w = 1 ∨ w = 2 ∨ w = 4 ∨ w = 8) (hk : k + w ≤ l.length) (hl : l.length ≤ 100000000) (h : Bys W (.slice a l.length c) l) (hq : ¬ rawN l k w < 9223372036854775808) :
    Calls Tryz.prog 120 #[.slice a l.length c, .int .i64 (↑k : Int), .int .i64 (↑w : Int)] W (Ret (.tuple #[.int .i64 0, .int .i64 2]) W) := by
 have hw8 : w = 8 := by
   rcases hw with h1 | h1 | h1 | h1
   · have := rawN_lt4 l k w (by omega); omega
   · have := rawN_lt4 l k w (by omega); omega
   · have := rawN_lt4 l k w (by omega); omega
   · exact h1
 have hb7 := (not_congr (raw8 l k)).1 (by rw [← hw8]; exact hq)
 refine zin 45 Tryz.func120 ?_
 refine xr 11 (args := #[.slice a l.length c, .int .i64 (↑k : Int), .int .i64 (↑w : Int)]) (ref_room a l.length c k w _ hw hk hl) fun W1 hb1 => ?_
 refine xgk 19 [19, 20] (show (((↑w : Int) == (8 : Int)) : Bool) = true from by rw [hw8]; rfl) ?_
 refine xwm 2 ((↑k : Int) + 7) (↑(k + 7) : Int) ?_
 refine xx 0 _ l.length (k + 7) 1 (Bys.elem h (k := (k + 7)) (by omega)).1 ?_
 refine xl 0 ((Bys.elem (h.below hb1) (k := (k + 7)) (by omega)).2) ?_
 refine xk 4 (show (decide ((↑(l.getD (k + 7) 0).toNat : Int) ≥ (128 : Int)) : Bool) = true from decide_eq_true (by omega)) ?_
 exact xe 8 (.tuple #[.int .i64 0, .int .i64 2]) ⟨rfl, hb1⟩
set_option maxRecDepth 100000 in
set_option maxHeartbeats 2000000 in
theorem ref_Get_ok (a : Option Addr) (c k w : Nat) (l : List UInt8) (W : World) (hw : w = 1 ∨ w = 2 ∨ w = 4 ∨ w = 8) (hk : k + w ≤ l.length) (hl : l.length ≤ 100000000) (h : Bys W (.slice a l.length c) l) (hq : rawN l k w < 9223372036854775808) :
    Calls Tryz.prog 120 #[.slice a l.length c, .int .i64 (↑k : Int), .int .i64 (↑w : Int)] W (Ret (.tuple #[.int .i64 (rawN l k w : Int), .int .i64 0]) W) := by
 refine zin 45 Tryz.func120 ?_
 refine xr 11 (args := #[.slice a l.length c, .int .i64 (↑k : Int), .int .i64 (↑w : Int)]) (ref_room a l.length c k w _ hw hk hl) fun W1 hb1 => ?_
 refine xg 19 [19, 20] ((↑w : Int) == (8 : Int)) (fun hc2 => ?_) (fun hc2 => ?_)
 · have hc2 := eq_of_beq hc2
   refine xwm 2 ((↑k : Int) + 7) (↑(k + 7) : Int) ?_
   refine xx 0 _ l.length (k + 7) 1 (Bys.elem h (k := (k + 7)) (by omega)).1 ?_
   refine xl 0 ((Bys.elem (h.below hb1) (k := (k + 7)) (by omega)).2) ?_
   refine xk 4 (show (decide ((↑(l.getD (k + 7) 0).toNat : Int) ≥ (128 : Int)) : Bool) = false from decide_eq_false (by have := (raw8 l k).1 (by rw [← show w = 8 by omega]; exact hq); omega)) ?_
   refine xwm 11 ((↑w : Int) - 1) (↑(w - 1) : Int) ?_
   refine xv1 4 10 (show (.int .i64 (↑(w - 1) : Int) : Value) = .int .i64 ((↑w : Int) - 1) from congrArg (Value.int .i64) (by omega)) ?_
   refine zl 0 45 (fun zm zkv V => ∃ (j r : Nat), zkv = [(0, .slice a l.length c), (1, .int .i64 (↑k : Int)), (6, .int .i64 0), (7, .int .i64 0), (9, .int .i64 (↑(rawN l (k + j) r) : Int)), (10, .int .i64 ((↑j : Int) - 1))] ∧ zm = (((↑j : Int) - 1) + 1).toNat ∧ Below W.heap.size W V ∧ j + r = w) ⟨w, 0, rfl, rfl, hb1, by omega⟩ ?_
   rintro _ _ W3 ⟨j, r, rfl, rfl, hB_3, hjr⟩ J3 hJ3 r3
   have hrl : 0 < j → _ := fun hj => rawN_last hq hj hjr
   refine xid 7 ((↑j : Int) - 1 ≥ (0 : Int)) (fun hc4 => ?_) (fun hc4 => ?_)
   · refine xwm 6 ((↑(rawN l (k + j) r) : Int) * 256) (↑((rawN l (k + j) r) * 256) : Int) ?_
     refine xq 3 (congrArg (Value.int .i64) (show IntKind.i64.wrap ((↑k : Int) + ((↑j : Int) - 1)) = (↑(k + (j - 1)) : Int) from (show IntKind.i64.wrap ((↑k : Int) + ((↑j : Int) - 1)) = ((↑k : Int) + ((↑j : Int) - 1)) from by first | exact IntWalk.i64_in _ (by omega) | (simp only [IntKind.wrap]; omega)).trans (by omega))) ?_
     refine xx 0 _ l.length (k + (j - 1)) 1 (Bys.elem h (k := (k + (j - 1))) (by omega)).1 ?_
     refine xl 0 ((Bys.elem (h.below hB_3) (k := (k + (j - 1))) (by omega)).2) ?_
     refine xq 0 (congrArg (Value.int .i64) (show (IntKind.i64.wrap (↑(l.getD (k + (j - 1)) 0).toNat : Int) : Int) = (↑(l.getD (k + (j - 1)) 0).toNat : Int) from i64_nat (by have := (l.getD (k + (j - 1)) 0).toNat_lt; omega))) ?_
     refine xw 0 ((↑((rawN l (k + j) r) * 256) : Int) + (↑(l.getD (k + (j - 1)) 0).toNat : Int)) ?_
     refine xq 6 (congrArg (Value.int .i64) (show IntKind.i64.wrap ((↑j : Int) - 1 - 1) = ((↑(j - 1 : Nat) : Int) - 1) from (show IntKind.i64.wrap ((↑j : Int) - 1 - 1) = ((↑j : Int) - 1 - 1) from by first | exact IntWalk.i64_in _ (by omega) | (simp only [IntKind.wrap]; omega)).trans (by omega))) ?_
     refine xv1 2 9 (show (.int .i64 ((↑((rawN l (k + j) r) * 256) : Int) + (↑(l.getD (k + (j - 1)) 0).toNat : Int)) : Value) = .int .i64 (↑(rawN l (k + (j - 1)) (r + 1)) : Int) from by rw [(hrl (by omega)).2]; rfl) ?_
     exact ze 0 (hJ3 _ _ _ ⟨j - 1, r + 1, rfl, rfl, hB_3, by omega⟩ (by omega))
   refine xe 13 (.tuple #[.int .i64 (↑(rawN l (k + j) r) : Int), .int .i64 0]) ?_
   rw [show rawN l (k + j) r = rawN l k w from by rw [show j = 0 by omega, show r = w by omega]; rfl]; exact ⟨rfl, hB_3⟩
 have hc2 := ne_of_beq_false hc2
 refine xwm 21 ((↑w : Int) - 1) (↑(w - 1) : Int) ?_
 refine xv1 4 10 (show (.int .i64 (↑(w - 1) : Int) : Value) = .int .i64 ((↑w : Int) - 1) from congrArg (Value.int .i64) (by omega)) ?_
 refine zl 0 45 (fun zm zkv V => ∃ (j r : Nat), zkv = [(0, .slice a l.length c), (1, .int .i64 (↑k : Int)), (6, .int .i64 0), (7, .int .i64 0), (9, .int .i64 (↑(rawN l (k + j) r) : Int)), (10, .int .i64 ((↑j : Int) - 1))] ∧ zm = (((↑j : Int) - 1) + 1).toNat ∧ Below W.heap.size W V ∧ j + r = w) ⟨w, 0, rfl, rfl, hb1, by omega⟩ ?_
 rintro _ _ W5 ⟨j, r, rfl, rfl, hB_5, hjr⟩ J5 hJ5 r5
 have hrl : 0 < j → _ := fun hj => rawN_last hq hj hjr
 refine xid 7 ((↑j : Int) - 1 ≥ (0 : Int)) (fun hc6 => ?_) (fun hc6 => ?_)
 · refine xwm 6 ((↑(rawN l (k + j) r) : Int) * 256) (↑((rawN l (k + j) r) * 256) : Int) ?_
   refine xq 3 (congrArg (Value.int .i64) (show IntKind.i64.wrap ((↑k : Int) + ((↑j : Int) - 1)) = (↑(k + (j - 1)) : Int) from (show IntKind.i64.wrap ((↑k : Int) + ((↑j : Int) - 1)) = ((↑k : Int) + ((↑j : Int) - 1)) from by first | exact IntWalk.i64_in _ (by omega) | (simp only [IntKind.wrap]; omega)).trans (by omega))) ?_
   refine xx 0 _ l.length (k + (j - 1)) 1 (Bys.elem h (k := (k + (j - 1))) (by omega)).1 ?_
   refine xl 0 ((Bys.elem (h.below hB_5) (k := (k + (j - 1))) (by omega)).2) ?_
   refine xq 0 (congrArg (Value.int .i64) (show (IntKind.i64.wrap (↑(l.getD (k + (j - 1)) 0).toNat : Int) : Int) = (↑(l.getD (k + (j - 1)) 0).toNat : Int) from i64_nat (by have := (l.getD (k + (j - 1)) 0).toNat_lt; omega))) ?_
   refine xw 0 ((↑((rawN l (k + j) r) * 256) : Int) + (↑(l.getD (k + (j - 1)) 0).toNat : Int)) ?_
   refine xq 6 (congrArg (Value.int .i64) (show IntKind.i64.wrap ((↑j : Int) - 1 - 1) = ((↑(j - 1 : Nat) : Int) - 1) from (show IntKind.i64.wrap ((↑j : Int) - 1 - 1) = ((↑j : Int) - 1 - 1) from by first | exact IntWalk.i64_in _ (by omega) | (simp only [IntKind.wrap]; omega)).trans (by omega))) ?_
   refine xv1 2 9 (show (.int .i64 ((↑((rawN l (k + j) r) * 256) : Int) + (↑(l.getD (k + (j - 1)) 0).toNat : Int)) : Value) = .int .i64 (↑(rawN l (k + (j - 1)) (r + 1)) : Int) from by rw [(hrl (by omega)).2]; rfl) ?_
   exact ze 0 (hJ5 _ _ _ ⟨j - 1, r + 1, rfl, rfl, hB_5, by omega⟩ (by omega))
 refine xe 13 (.tuple #[.int .i64 (↑(rawN l (k + j) r) : Int), .int .i64 0]) ?_
 rw [show rawN l (k + j) r = rawN l k w from by rw [show j = 0 by omega, show r = w by omega]; rfl]; exact ⟨rfl, hB_5⟩
theorem ref_Get (a : Option Addr) (c k w : Nat) (l : List UInt8) (W : World) (hw : w = 1 ∨ w = 2 ∨ w = 4 ∨ w = 8) (hk : k + w ≤ l.length) (hl : l.length ≤ 100000000) (h : Bys W (.slice a l.length c) l) :
    Calls Tryz.prog 120 #[.slice a l.length c, .int .i64 (↑k : Int), .int .i64 (↑w : Int)] W (Ret (.tuple #[.int .i64 (getV l k w), .int .i64 (getE l k w)]) W) := by
  by_cases hq : rawN l k w < 9223372036854775808
  · rw [getV_ok hq, getE_ok hq]; exact ref_Get_ok a c k w l W hw hk hl h hq
  · rw [getV, getE, if_neg hq, if_neg hq]; exact ref_Get_big a c k w l W hw hk hl h hq
theorem ref_GetN (a : Option Addr) (n c k w : Nat) (ki wi : Int) (l : List UInt8) (W : World) (hn : l.length = n) (hki : ki = (k : Int)) (hwi : wi = (w : Int)) (hw : w = 1 ∨ w = 2 ∨ w = 4) (hk : k + w ≤ n) (hl : n ≤ 100000000) (h : Bys W (.slice a n c) l) :
    Calls Tryz.prog 120 #[.slice a n c, .int .i64 ki, .int .i64 wi] W (Ret (.tuple #[.int .i64 (rawN l k w : Int), .int .i64 0]) W) := by
  subst hn hki hwi; exact ref_Get_ok a c k w l W (by omega) hk hl h (by have := rawN_lt4 l k w (by omega); omega)
theorem ref_GetG (a : Option Addr) (n c k w : Nat) (ki wi : Int) (l : List UInt8) (W : World) (hn : l.length = n) (hki : ki = (k : Int)) (hwi : wi = (w : Int)) (hw : w = 1 ∨ w = 2 ∨ w = 4 ∨ w = 8) (hk : k + w ≤ n) (hl : n ≤ 100000000) (h : Bys W (.slice a n c) l) :
    Calls Tryz.prog 120 #[.slice a n c, .int .i64 ki, .int .i64 wi] W (Ret (.tuple #[.int .i64 (getV l k w), .int .i64 (getE l k w)]) W) := by
  subst hn hki hwi; exact ref_Get a c k w l W hw hk hl h
set_option maxRecDepth 100000 in
set_option maxHeartbeats 2000000 in
theorem ref_Unpack_ok (a : Option Addr) (c : Nat) (l : List UInt8) (aw : Option Addr) (cw : Nat) (ws : List Nat) (W : World) (hk : ∀ i, i < ws.length → ws.getD i 0 = 1 ∨ ws.getD i 0 = 2 ∨ ws.getD i 0 = 4 ∨ ws.getD i 0 = 8) (hs : ws.sum ≤ l.length) (hl : l.length ≤ 100000000) (hw : ws.length ≤ 1000) (h : Bys W (.slice a l.length c) l) (hws : Sl W (.slice aw ws.length cw) ws.length (ws.map nv)) (hq : ∀ i, i < ws.length → (unpL l 0 ws).getD i 0 < 9223372036854775808) :
    Calls Tryz.prog 115 #[.slice a l.length c, .slice aw ws.length cw] W (RetS (fun w' r => ∃ p c, r = .tuple #[.slice p ws.length c, .int .i64 0] ∧ w'.ownsRow W.heap.size 3 1 (.slice p ws.length c) ws.length ((unpL l 0 ws).map nv)) W) := by
 refine zin 41 Tryz.func115 ?_
 have hB := Below.refl W.heap.size W
 refine zl 23 41 (fun zm zkv V => ∃ (i : Nat) (p : Option Addr) (c2 : Nat), zkv = [(0, .slice a l.length c), (1, .slice aw ws.length cw), (6, .slice p i c2), (7, .int .i64 (↑(ws.take i).sum : Int)), (8, .int .i64 (↑i : Int))] ∧ zm = ws.length - ((↑i : Int)).toNat ∧ Below W.heap.size W V ∧ V.ownsRow W.heap.size 3 1 (.slice p i c2) i ((unpL l 0 (ws.take i)).map nv) ∧ i ≤ ws.length) ⟨0, _, _, rfl, rfl, hB, World.ownsRow_nil _ _ _ _, Nat.zero_le _⟩ ?_
 rintro _ _ W1 ⟨i, p, c2, rfl, rfl, hB_1, ho, hi⟩ J1 hJ1 r1
 have hts : i < ws.length → (ws.take i).sum + ws.getD i 0 ≤ ws.sum := take_sum_le
 have hui : i < ws.length → (unpL l 0 ws).getD i 0 = rawN l (ws.take i).sum (ws.getD i 0) := fun h => by rw [unpL_get l ws 0 i h, Nat.zero_add]
 refine xid 9 ((↑i : Int) < (↑ws.length : Int)) (fun hc2 => ?_) (fun hc2 => ?_)
 · refine xx 10 _ ws.length i 1 (nv_elem hws rfl (k := i) (by omega)).1 ?_
   refine xl 0 ((nv_elem (hws.below hB_1) rfl (k := i) (by omega)).2) ?_
   refine xr 0 (args := #[.slice a l.length c, .int .i64 (↑(ws.take i).sum : Int), .int .i64 (↑(ws.getD i 0) : Int)]) (ref_Get a c (ws.take i).sum (ws.getD i 0) l _ (hk i (by omega)) (by omega) hl (h.below hB_1)) fun W3 hb3 => ?_
   refine xk 14 (show (((getE l (ws.take i).sum (ws.getD i 0)) != (0 : Int)) : Bool) = false from by rw [getE_ok (by rw [← hui (by omega)]; exact hq i (by omega))]; rfl) ?_
   refine xbs 6 1 [.int .i64 (getV l (ws.take i).sum (ws.getD i 0))] 3 fun b4 W4 n4 => ?_
   have hB'1 := Bl.next hB_1 hb3
   have g4 := n4.ge hB'1
   have ho'1 := own_below ho hb3
   have r4_ho := own_ne ho'1 n4
   have ho'2 := own_below ho'1 n4.below
   have hB'2 := Bl.next hB'1 n4.below
   refine xbi 0 fun _ _ _ _ zJ zQ zo zx zy zK => op_app (m := 1) (news := [.int .i64 (getV l (ws.take i).sum (ws.getD i 0))]) (.int .i64 0) 1 8 (i + 1) ((unpL l 0 (ws.take (i + 1))).map nv) zo Tryz.underlying26 (by kernel_rfl) rfl (by decide) zx ho'2 zy (n4.blk.sl 1 1 (by decide) (by decide)) rfl (by simp [Value.oneCell']) (by unfold maxLen; omega) (by omega) hB'2.size (by rfl) (by rw [take_snoc (by omega), unpL_snoc, Nat.zero_add, List.map_append]; simp only [List.map_cons, List.map_nil, nv]; rw [getV_ok (by rw [← hui (by omega)]; exact hq i (by omega))]) fun px5 cx5 W5 o5 hg5 hb5 => ?_
   refine zK _ _ ?_
   refine xx 7 _ ws.length i 1 (nv_elem hws rfl (k := i) (by omega)).1 ?_
   have hB'3 := hB'2.trans hb5
   refine xl 0 ((nv_elem (hws.below hB'3) rfl (k := i) (by omega)).2) ?_
   refine xwm 0 ((↑(ws.take i).sum : Int) + (↑(ws.getD i 0) : Int)) (↑((ws.take i).sum + (ws.getD i 0)) : Int) ?_
   refine xwm 6 ((↑i : Int) + 1) (↑(i + 1) : Int) ?_
   refine xv1 2 7 (show (.int .i64 (↑((ws.take i).sum + (ws.getD i 0)) : Int) : Value) = .int .i64 (↑(ws.take (i + 1)).sum : Int) from by rw [take_snoc (by omega), List.sum_append]; simp) ?_
   exact ze 0 (hJ1 _ _ _ ⟨i + 1, _, _, rfl, rfl, hB'3, o5, by omega⟩ (by omega))
 refine xe 13 (.tuple #[.slice p i c2, .int .i64 0]) ?_
 obtain rfl : i = ws.length := by omega
 rw [List.take_length] at ho
 exact ⟨_, rfl, hB_1, _, _, rfl, ho⟩
set_option maxRecDepth 100000 in
set_option maxHeartbeats 2000000 in
theorem ref_Unpack_bad (a : Option Addr) (c : Nat) (l : List UInt8) (aw : Option Addr) (cw : Nat) (ws : List Nat) (W : World) (hk : ∀ i, i < ws.length → ws.getD i 0 = 1 ∨ ws.getD i 0 = 2 ∨ ws.getD i 0 = 4 ∨ ws.getD i 0 = 8) (hs : ws.sum ≤ l.length) (hl : l.length ≤ 100000000) (hw : ws.length ≤ 1000) (h : Bys W (.slice a l.length c) l) (hws : Sl W (.slice aw ws.length cw) ws.length (ws.map nv)) (hq : ¬ ∀ i, i < ws.length → (unpL l 0 ws).getD i 0 < 9223372036854775808) :
    Calls Tryz.prog 115 #[.slice a l.length c, .slice aw ws.length cw] W (Ret (.tuple #[.slice none 0 0, .int .i64 2]) W) := by
 refine zin 41 Tryz.func115 ?_
 have hB := Below.refl W.heap.size W
 refine zl 23 41 (fun zm zkv V => ∃ (i : Nat) (p : Option Addr) (c2 : Nat), zkv = [(0, .slice a l.length c), (1, .slice aw ws.length cw), (6, .slice p i c2), (7, .int .i64 (↑(ws.take i).sum : Int)), (8, .int .i64 (↑i : Int))] ∧ zm = ws.length - ((↑i : Int)).toNat ∧ Below W.heap.size W V ∧ V.ownsRow W.heap.size 3 1 (.slice p i c2) i ((unpL l 0 (ws.take i)).map nv) ∧ i ≤ ws.length ∧ (∀ j, j < i → (unpL l 0 ws).getD j 0 < 9223372036854775808)) ⟨0, _, _, rfl, rfl, hB, World.ownsRow_nil _ _ _ _, Nat.zero_le _, ?_⟩ ?_
 · exact fun j hj => absurd hj (by omega)
 rintro _ _ W1 ⟨i, p, c2, rfl, rfl, hB_1, ho, hi, hall⟩ J1 hJ1 r1
 have hts : i < ws.length → (ws.take i).sum + ws.getD i 0 ≤ ws.sum := take_sum_le
 have hui : i < ws.length → (unpL l 0 ws).getD i 0 = rawN l (ws.take i).sum (ws.getD i 0) := fun h => by rw [unpL_get l ws 0 i h, Nat.zero_add]
 refine xid 9 ((↑i : Int) < (↑ws.length : Int)) (fun hc2 => ?_) (fun hc2 => ?_)
 · refine xx 10 _ ws.length i 1 (nv_elem hws rfl (k := i) (by omega)).1 ?_
   refine xl 0 ((nv_elem (hws.below hB_1) rfl (k := i) (by omega)).2) ?_
   refine xr 0 (args := #[.slice a l.length c, .int .i64 (↑(ws.take i).sum : Int), .int .i64 (↑(ws.getD i 0) : Int)]) (ref_Get a c (ws.take i).sum (ws.getD i 0) l _ (hk i (by omega)) (by omega) hl (h.below hB_1)) fun W3 hb3 => ?_
   refine xin 14 (getE l (ws.take i).sum (ws.getD i 0)) (0 : Int) (fun hc4 => ?_) (fun hc4 => ?_)
   · have hgr := getE_two hc4
     have hB'1 := Bl.next hB_1 hb3
     refine xe 14 (.tuple #[.slice none 0 0, .int .i64 (getE l (ws.take i).sum (ws.getD i 0))]) ?_
     rw [hgr.2]; exact ⟨rfl, hB'1⟩
   have hgr := getE_zero hc4
   refine xbs 6 1 [.int .i64 (getV l (ws.take i).sum (ws.getD i 0))] 3 fun b5 W5 n5 => ?_
   have hB'2 := Bl.next hB_1 hb3
   have g5 := n5.ge hB'2
   have ho'1 := own_below ho hb3
   have r5_ho := own_ne ho'1 n5
   have ho'2 := own_below ho'1 n5.below
   have hB'3 := Bl.next hB'2 n5.below
   refine xbi 0 fun _ _ _ _ zJ zQ zo zx zy zK => op_app (m := 1) (news := [.int .i64 (getV l (ws.take i).sum (ws.getD i 0))]) (.int .i64 0) 1 8 (i + 1) ((unpL l 0 (ws.take (i + 1))).map nv) zo Tryz.underlying26 (by kernel_rfl) rfl (by decide) zx ho'2 zy (n5.blk.sl 1 1 (by decide) (by decide)) rfl (by simp [Value.oneCell']) (by unfold maxLen; omega) (by omega) hB'3.size (by rfl) (by rw [take_snoc (by omega), unpL_snoc, Nat.zero_add, List.map_append]; simp only [List.map_cons, List.map_nil, nv]; rw [getV_ok hgr]) fun px6 cx6 W6 o6 hg6 hb6 => ?_
   refine zK _ _ ?_
   refine xx 7 _ ws.length i 1 (nv_elem hws rfl (k := i) (by omega)).1 ?_
   have hB'4 := hB'3.trans hb6
   refine xl 0 ((nv_elem (hws.below hB'4) rfl (k := i) (by omega)).2) ?_
   refine xwm 0 ((↑(ws.take i).sum : Int) + (↑(ws.getD i 0) : Int)) (↑((ws.take i).sum + (ws.getD i 0)) : Int) ?_
   refine xwm 6 ((↑i : Int) + 1) (↑(i + 1) : Int) ?_
   refine xv1 2 7 (show (.int .i64 (↑((ws.take i).sum + (ws.getD i 0)) : Int) : Value) = .int .i64 (↑(ws.take (i + 1)).sum : Int) from by rw [take_snoc (by omega), List.sum_append]; simp) ?_
   exact ze 0 (hJ1 _ _ _ ⟨i + 1, _, _, rfl, rfl, hB'4, o6, by omega, fun j hj => (Nat.lt_or_ge j i).elim (fun q => hall j q) (fun q => by obtain rfl : j = i := (by omega); rw [hui (by omega)]; exact hgr)⟩ (by omega))
 refine xe 13 (.tuple #[.slice p i c2, .int .i64 0]) ?_
 exact absurd (fun j hj => hall j (by omega)) hq
theorem ref_UnpackN (a : Option Addr) (n c : Nat) (l : List UInt8) (aw : Option Addr) (cw m : Nat) (ws : List Nat) (xs : List Nat) (W : World) (hn : l.length = n) (hm : ws.length = m) (hx : unpL l 0 ws = xs) (hk : ∀ i, i < ws.length → ws.getD i 0 = 1 ∨ ws.getD i 0 = 2 ∨ ws.getD i 0 = 4 ∨ ws.getD i 0 = 8) (hs : ws.sum ≤ n) (hl : n ≤ 100000000) (hw : ws.length ≤ 1000) (h : Bys W (.slice a n c) l) (hws : Sl W (.slice aw m cw) m (ws.map nv)) (hq : ∀ i, i < ws.length → (unpL l 0 ws).getD i 0 < 9223372036854775808) :
    Calls Tryz.prog 115 #[.slice a n c, .slice aw m cw] W (RetS (fun w' r => ∃ p c, r = .tuple #[.slice p m c, .int .i64 0] ∧ w'.ownsRow W.heap.size 3 1 (.slice p m c) m (xs.map nv)) W) := by
  subst hn hm hx; exact ref_Unpack_ok a c l aw cw ws W hk hs hl hw h hws hq
set_option maxRecDepth 100000 in
set_option maxHeartbeats 2000000 in
theorem ref_Zero (a : Option Addr) (c : Nat) (l : List UInt8) (w : World) (hl : l.length ≤ 100000000) (h : Bys w (.slice a l.length c) l) :
    Calls Tryz.prog 116 #[.slice a l.length c] w (Ret (.bool (zeroB l)) w) := by
 refine zin 15 Tryz.func116 ?_
 have hB := Below.refl w.heap.size w
 refine zl 12 15 (fun zm zkv V => ∃ (i : Nat), zkv = [(0, .slice a l.length c), (3, .int .i64 (↑i : Int))] ∧ zm = l.length - ((↑i : Int)).toNat ∧ Below w.heap.size w V ∧ i ≤ l.length ∧ (∀ j, j < i → l.getD j 0 = 0)) ⟨0, rfl, rfl, hB, Nat.zero_le _, ?_⟩ ?_
 · exact fun j hj => absurd hj (by omega)
 rintro _ _ W1 ⟨i, rfl, rfl, hB_1, hi, hz⟩ J1 hJ1 r1
 refine xid 9 ((↑i : Int) < (↑l.length : Int)) (fun hc2 => ?_) (fun hc2 => ?_)
 · refine xx 8 _ l.length i 1 (Bys.elem h (k := i) (by omega)).1 ?_
   refine xl 0 ((Bys.elem (h.below hB_1) (k := i) (by omega)).2) ?_
   refine xin 3 (↑(l.getD i 0).toNat : Int) (0 : Int) (fun hc3 => ?_) (fun hc3 => ?_)
   · refine xe 11 (.bool false) ?_
     rw [zeroB_false (j := i) (by omega) (by assumption)]; exact ⟨rfl, hB_1⟩
   refine xwm 5 ((↑i : Int) + 1) (↑(i + 1) : Int) ?_
   exact ze 2 (hJ1 _ _ _ ⟨i + 1, rfl, rfl, hB_1, by omega, fun j hj => (Nat.lt_or_ge j i).elim (hz j) (fun q => by obtain rfl : j = i := (by omega); exact byte_zero (by assumption))⟩ (by omega))
 refine xe 11 (.bool true) ?_
 rw [zeroB_true (fun j hj => hz j (by omega))]; exact ⟨rfl, hB_1⟩
theorem ref_ZeroN (a : Option Addr) (n c : Nat) (l : List UInt8) (w : World) (hn : l.length = n) (hl : n ≤ 100000000) (h : Bys w (.slice a n c) l) : Calls Tryz.prog 116 #[.slice a n c] w (Ret (.bool (zeroB l)) w) := by
  subst hn; exact ref_Zero a c l w hl h
end Go.Proofs.YtinegkldgjhnpaaGreatDoor
namespace Go.Proofs.YtinegkldgjhnpaaGreatDoor
open Go.RowKit Go.Extern.Stop Go.Stop Go.Extern
set_option linter.unusedVariables false

theorem numB_digit (n : Nat) (h : n < 10) : numB n = ⟨#[48 + n.toUInt8]⟩ := by
  have : n = 0 ∨ n = 1 ∨ n = 2 ∨ n = 3 ∨ n = 4 ∨ n = 5 ∨ n = 6 ∨ n = 7 ∨ n = 8 ∨ n = 9 := by omega
  rcases this with rfl | rfl | rfl | rfl | rfl | rfl | rfl | rfl | rfl | rfl <;> (simp [numB, Lib.itoa, Lib.decDigits]; try decide)
theorem text_lives : textB [some 3, some 7] (some 4) = ⟨#[98, 108, 111, 99, 107, 32, 51, 58, 32, 98, 108, 111, 99, 107, 32, 55, 58, 32, 101, 114, 114, 111, 114, 32, 52]⟩ := by
  simp only [textB]
  rw [show numB 3 = ⟨#[51]⟩ from numB_digit 3 (by omega), show numB 7 = ⟨#[55]⟩ from numB_digit 7 (by omega), show numB 4 = ⟨#[52]⟩ from numB_digit 4 (by omega)]
  rfl

end Go.Proofs.YtinegkldgjhnpaaGreatDoor
namespace Go.Proofs.YtinegkldgjhnpaaGreatDoor
open Go.RowKit Go.Extern.Stop Go.Stop Go.Extern
set_option linter.unusedVariables false

/-- an error as the document has it -/
def FltV (w : World) (v : Value) (l : List Int) (c : Int) : Prop := ∃ s, v = .agg #[s, .int .i64 c] ∧ Ints w s l
theorem FltV.below {w w' : World} {v : Value} {l : List Int} {c : Int} (h : FltV w v l c) (hb : Below w.heap.size w w') : FltV w' v l c := by
  obtain ⟨s, rfl, hs⟩ := h
  exact ⟨s, rfl, hs.below hb⟩
def ownL (l : List Int) (c : Int) : List (Option Int) := if c = 0 then [] else l.map some
def ownT (c : Int) : Option Int := if c = 0 then none else some c
theorem ownL_nz {l : List Int} {c : Int} (h : c ≠ 0) : ownL l c = l.map some := if_neg h
theorem ownT_nz {c : Int} (h : c ≠ 0) : ownT c = some c := if_neg h
theorem codeOf_own (l : List Int) (c : Int) : codeOf (ownL l c) (ownT c) = c := by
  by_cases h : c = 0
  · subst h; rfl
  · rw [ownL_nz h, ownT_nz h]; simp [codeOf, noErr]
theorem blocksOf_own (l : List Int) (c : Int) : blocksOf (ownL l c) = if c = 0 then [] else l := by
  by_cases h : c = 0
  · subst h; rfl
  · rw [ownL_nz h, if_neg h]; simp [blocksOf, List.filterMap_map]
theorem drop_some {l : List Int} {k : Nat} (h : k < l.length) : (l.drop k).map some = some l[k] :: (l.drop (k + 1)).map some := by
  rw [List.drop_eq_getElem_cons h]; rfl

theorem res_told {w : World} {B : Nat} {s : Value} {c : Int} {t : TypeId} (h : Blk w B [s, .int .i64 c] t) (hs : ∃ a n m, s = .slice a n m) {tmps : Array Value} (e : tmps.getD 2 undef = .pointer (some ⟨B, 0, none⟩)) :
    (results Tryz.f16 tmps).run Tryz.prog w = .ok (.agg #[s, .int .i64 c]) w := by
  obtain ⟨a, n, m, rfl⟩ := hs
  have c0 := h.cell (i := 0) rfl
  have c1 := h.cell (i := 1) rfl
  have e' : tmps[2]?.getD undef = .pointer (some ⟨B, 0, none⟩) := by simpa using e
  simp [results, Tryz.results16, go_sem, c0, c1, e']
set_option maxHeartbeats 1000000 in
theorem law05_Told (t : Option Int) (l : List (Option Int)) (v : Value) (w : World) (hlen : l.length ≤ 1000000) (hg : ErrT w) (hv : ErrV w l t v) :
    Calls Tryz.prog 16 #[v] w (RetS (fun w' r => FltV w' r (blocksOf l) (codeOf l t)) w) := by
  have hB := Bl.box w (.cells #[.slice none 0 0, .int .i64 0] 45)
  have k0 := Blk.new w [.slice none 0 0, .int .i64 0] 45
  rcases hv.nil_or with ⟨hz, rfl⟩ | ⟨hz, ty, x, rfl⟩
  · obtain ⟨rfl, rfl⟩ := noErr_true hz
    go_enter Tryz.func16, Tryz.ntmps16
    go_wp2_with fail
    exact bodyPost_ret (res_told k0 ⟨_, _, _, rfl⟩ rfl) rfl ⟨_, rfl, hB, _, rfl, .inl ⟨_, _, rfl, rfl, rfl⟩⟩
  · go_enter Tryz.func16, Tryz.ntmps16
    have hv1 := hv.below hB
    go_wp2_with fail
    refine (fault_Blocks t l _ _ hlen hv1).mono ?_
    rintro e w1 ⟨r, rfl, hb1, h1⟩
    have hB1 := Bl.next hB hb1
    go_wp2_with fail
    refine (fault_Code t l _ w1 (hg.below hB1) (hv.below hB1)).mono ?_
    rintro e w2 ⟨rfl, hb2⟩
    have k2 := (k0.below hb1).below hb2
    obtain ⟨a, m, rfl⟩ := (own_sl h1).slice
    have d0 := k2.cell (i := 0) rfl
    have d1 := k2.cell (i := 1) rfl
    have f0 := k2.frozen 0
    have f1 := k2.frozen 1
    have hB2 := Bl.next hB1 hb2
    have hB3 : Below w.heap.size w ((w2.setCell ⟨w.heap.size, 0, none⟩ (.slice a (blocksOf l).length m)).setCell ⟨w.heap.size, 1, none⟩ (.int .i64 (codeOf l t))) := (hB2.setCell (Nat.le_refl _) _).setCell (Nat.le_refl _) _
    have h3 := ownsRow_setCell_below (ownsRow_setCell_below (own_below h1 hb2) (a := ⟨w.heap.size, 0, none⟩) (by simp) (.slice a (blocksOf l).length m)) (a := ⟨w.heap.size, 1, none⟩) (by simp) (.int .i64 (codeOf l t))
    go_wp2_with fail
    exact bodyPost_ret (res_told ((k2.set 0 _).set 1 _) ⟨_, _, _, rfl⟩ rfl) rfl ⟨_, rfl, hB3, _, rfl, own_sl h3⟩
set_option maxRecDepth 100000 in
set_option maxHeartbeats 2000000 in
theorem ref05_Same (l : List Int) (c : Int) (v1 v2 : Value) (w : World) (h1 : FltV w v1 l c) (h2 : FltV w v2 l c) :
    Calls Tryz.prog 15 #[v1, v2] w (Ret (.bool true) w) := by
  obtain ⟨s1, rfl, k1⟩ := h1
  obtain ⟨s2, rfl, k2⟩ := h2
  obtain ⟨a1, p1, rfl⟩ := k1.slice
  obtain ⟨a2, p2, rfl⟩ := k2.slice
  have hmax := k1.len
  have hB : Below w.heap.size w ((w.alloc (.cells #[.slice a1 l.length p1, .int .i64 c] 45)).alloc (.cells #[.slice a2 l.length p2, .int .i64 c] 45)) := Bl.next (Bl.box _ _) (Bl.box _ _)
  have b1 : Blk ((w.alloc (.cells #[.slice a1 l.length p1, .int .i64 c] 45)).alloc (.cells #[.slice a2 l.length p2, .int .i64 c] 45)) w.heap.size [.slice a1 l.length p1, .int .i64 c] 45 := (Blk.new _ _ _).alloc _
  have b2 := Blk.new (w.alloc (.cells #[.slice a1 l.length p1, .int .i64 c] 45)) [.slice a2 l.length p2, .int .i64 c] 45
  simp only [World.size_alloc] at b2
  go_enter Tryz.func15, Tryz.ntmps15
  go_wp2_with fail
  obtain ⟨W, hW⟩ : ∃ W, (w.alloc (.cells #[.slice a1 l.length p1, .int .i64 c] 45)).alloc (.cells #[.slice a2 l.length p2, .int .i64 c] 45) = W := ⟨_, rfl⟩
  change Blk ((w.alloc (.cells #[.slice a1 l.length p1, .int .i64 c] 45)).alloc (.cells #[.slice a2 l.length p2, .int .i64 c] 45)) _ _ _ at b2
  rw [hW] at hB b1 b2 ⊢
  have k1 := k1.below hB
  have k2 := k2.below hB
  clear hW
  go_loopw [5] (fun i wr => ∃ k : Nat, k ≤ l.length ∧ i = .int .i64 k ∧ Below W.heap.size W wr) (fun i _ => l.length - (intOf i).toNat)
  case atStart => exact ⟨0, by omega, rfl, Below.refl _ _⟩
  case round =>
    obtain ⟨k, hk, rfl, hbr⟩ := hrel
    have q1 := b1.below hbr
    have q2 := b2.below hbr
    have c1 := q1.cell (i := 0) rfl
    have c2 := q2.cell (i := 0) rfl
    by_cases hlt : k < l.length
    · rcases Sl.at (k1.below hbr) with h0 | ⟨g1, o1, rfl, hc1⟩
      · rw [List.map_eq_nil_iff] at h0; subst h0; exact absurd hlt (by simp)
      rcases Sl.at (k2.below hbr) with h0 | ⟨g2, o2, rfl, hc2⟩
      · rw [List.map_eq_nil_iff] at h0; subst h0; exact absurd hlt (by simp)
      have e1 : ∀ z : Ext wr, z.val.cell? ⟨w.heap.size, 0, none⟩ = some (.slice (some ⟨g1, o1, none⟩) l.length p1) := fun z => z.get c1
      have e2 : ∀ z : Ext wr, z.val.cell? ⟨w.heap.size + 1, 0, none⟩ = some (.slice (some ⟨g2, o2, none⟩) l.length p2) := fun z => z.get c2
      have e3 : ∀ z : Ext wr, z.val.cell? ⟨g1, o1 + k, none⟩ = some (.int .i64 l[k]) := fun z => z.get (hc1 k _ (by simp [hlt]))
      have e4 : ∀ z : Ext wr, z.val.cell? ⟨g2, o2 + k, none⟩ = some (.int .i64 l[k]) := fun z => z.get (hc2 k _ (by simp [hlt]))
      have i1 : (0 : Int) ≤ (k : Int) := by omega
      have i2 : (k : Int) < (l.length : Int) := by omega
      clear hc1 hc2
      go_wp2_with fail
      refine wp_region_ext (by kernel_rfl) (by kernel_rfl) ?_
      repeat (go_big_quiet_step (fail))
      refine wpQuiet_nil ?_
      intro wx
      go_wp2_with fail
      exact ⟨⟨k + 1, by omega, by go_num, Bl.next hbr wx.below⟩, by simp [intOf]; omega⟩
    · go_wp2_with fail
      go_ret
      exact ⟨rfl, Bl.next hB hbr⟩

theorem res_at05 {w : World} {B : Nat} {s : Value} {c : Int} {t : TypeId} (h : Blk w B [s, .int .i64 c] t) (hs : ∃ a n m, s = .slice a n m) {tmps : Array Value} (e : tmps.getD 4 undef = .pointer (some ⟨B, 0, none⟩)) :
    (results Tryz.f84 tmps).run Tryz.prog w = .ok (.agg #[s, .int .i64 c]) w := by
  obtain ⟨a, n, m, rfl⟩ := hs
  have c0 := h.cell (i := 0) rfl
  have c1 := h.cell (i := 1) rfl
  have e' : tmps[4]?.getD undef = .pointer (some ⟨B, 0, none⟩) := by simpa using e
  simp [results, Tryz.results84, go_sem, c0, c1, e']
set_option maxRecDepth 100000 in
set_option maxHeartbeats 2000000 in
theorem ref05_At (b : Int) (l : List Int) (c : Int) (v : Value) (w : World) (hlen : l.length ≤ 1000000) (hv : FltV w v l c) :
    Calls Tryz.prog 84 #[.int .i64 b, v] w (RetS (fun w' r => FltV w' r (if c = 0 then [] else b :: l) c) w) := by
  obtain ⟨s, rfl, k⟩ := hv
  obtain ⟨i0, hi0, hz0, hz1, hz2⟩ := info_parts (P := Tryz.prog) (e := 3) (z := .int .i64 0) (size := 1) (bytes := 8) (by kernel_rfl)
  obtain ⟨a, p, rfl⟩ := k.slice
  have hB : Below w.heap.size w ((w.alloc (.cells #[.slice a l.length p, .int .i64 c] 45)).alloc (.cells #[.slice none 0 0, .int .i64 0] 45)) := Bl.next (Bl.box _ _) (Bl.box _ _)
  have b1 : Blk ((w.alloc (.cells #[.slice a l.length p, .int .i64 c] 45)).alloc (.cells #[.slice none 0 0, .int .i64 0] 45)) w.heap.size [.slice a l.length p, .int .i64 c] 45 := (Blk.new _ _ _).alloc _
  have b2 := Blk.new (w.alloc (.cells #[.slice a l.length p, .int .i64 c] 45)) [.slice none 0 0, .int .i64 0] 45
  simp only [World.size_alloc] at b2
  by_cases hc : c = 0
  · subst hc
    go_enter Tryz.func84, Tryz.ntmps84
    go_wp2_with fail
    exact bodyPost_ret (res_at05 b2 ⟨_, _, _, rfl⟩ rfl) rfl ⟨_, rfl, hB, _, rfl, .inl ⟨_, _, rfl, rfl, rfl⟩⟩
  have hc' : (c == 0) = false := by simpa using hc
  simp only [hc, if_false]
  clear hc
  go_enter Tryz.func84, Tryz.ntmps84
  go_wp2_with fail
  obtain ⟨W, hW⟩ : ∃ W, (w.alloc (.cells #[.slice a l.length p, .int .i64 c] 45)).alloc (.cells #[.slice none 0 0, .int .i64 0] 45) = W := ⟨_, rfl⟩
  have hsz : w.heap.size + 1 + 1 = W.heap.size := by rw [← hW]; simp
  change Blk ((w.alloc (.cells #[.slice a l.length p, .int .i64 c] 45)).alloc (.cells #[.slice none 0 0, .int .i64 0] 45)) _ _ _ at b2
  rw [hW] at hB b1 b2 ⊢
  have k1 := k.below hB
  clear hW k
  have c10 := b1.cell (i := 0) rfl
  have c11 := b1.cell (i := 1) rfl
  have c20 := b2.cell (i := 0) rfl
  have c21 := b2.cell (i := 1) rfl
  have f20 := b2.frozen 0
  have f21 := b2.frozen 1
  have hO : (W.alloc (.cells #[.int .i64 b] 3)).ownsRow W.heap.size 3 1 (.slice (some ⟨W.heap.size, 0, none⟩) 1 1) 1 [.int .i64 b] := World.ownsRow_lit W #[.int .i64 b] 1 (Nat.le_refl _) (by unfold maxLen; omega) rfl
  have kA := k1.below (Bl.box W (.cells #[.int .i64 b] 3))
  have hz : w.heap.size < W.heap.size := by omega
  have hz2' : w.heap.size + 1 < W.heap.size := by omega
  have hone : ∀ u ∈ l.map (Value.int .i64), u.oneCell' = true := by intro u hu; obtain ⟨x, _, rfl⟩ := List.mem_map.1 hu; rfl
  go_region_held3 (fun w' => w'.cell? ⟨w.heap.size, 0, none⟩ = some (.slice a l.length p) ∧ w'.cell? ⟨w.heap.size, 1, none⟩ = some (.int .i64 c))
    (first | go_keep | exact ⟨(hb2.cell (by exact hz)).trans (getA _ c10), (hb2.cell (by exact hz)).trans (getA _ c11)⟩)
    ((refine step_app_sl (by rfl) _ _ _ (by rfl) W.heap.size 3 i0 (.int .i64 0) 1 8 Tryz.underlying26 hi0 hz0 hz1 hz2 rfl (by omega) (.slice (some ⟨W.heap.size, 0, none⟩) 1 1) 1 [.int .i64 b] (by rfl) hO (.slice a l.length p) l.length (l.map (Value.int .i64)) (by rfl) kA (by simp) hone (by unfold maxLen; omega) (by omega) (by simp) ?_; intro v2 w2 hown2 hgrow2 hb2; obtain ⟨a2, p2, rfl⟩ := (own_sl hown2).slice; have q2 : Blk w2 (w.heap.size + 1) [.slice none 0 0, .int .i64 0] 45 := Blk.below' (by exact b2.alloc (.cells #[.int .i64 b] 3)) hb2 hz2'; have d0 := q2.cell (i := 0) rfl; have d1 := q2.cell (i := 1) rfl; have g0 := q2.frozen 0; have g1 := q2.frozen 1))
  rename_i hHeld
  clear hHeld
  have hB2 : Below w.heap.size w w2 := Bl.next hB (Below.trans (Bl.box W (.cells #[.int .i64 b] 3)).drew hb2)
  have hB3 : Below w.heap.size w ((w2.setCell ⟨w.heap.size + 1, 0, none⟩ (.slice a2 (1 + l.length) p2)).setCell ⟨w.heap.size + 1, 1, none⟩ (.int .i64 c)) := (hB2.setCell (by simp) _).setCell (by simp) _
  have h3 := own_sl (ownsRow_setCell_below (ownsRow_setCell_below hown2 (a := ⟨w.heap.size + 1, 0, none⟩) hz2' (.slice a2 (1 + l.length) p2)) (a := ⟨w.heap.size + 1, 1, none⟩) hz2' (.int .i64 c))
  go_wp2_with fail
  refine bodyPost_ret (res_at05 ((q2.set 0 _).set 1 _) ⟨_, _, _, rfl⟩ rfl) rfl ⟨_, rfl, hB3, _, rfl, ?_⟩
  simpa [Ints, Nat.add_comm] using h3
end Go.Proofs.YtinegkldgjhnpaaGreatDoor
namespace Go.Proofs.YtinegkldgjhnpaaGreatDoor
open Go.RowKit Go.Extern.Stop Go.Stop Go.Extern
set_option linter.unusedVariables false
attribute [local irreducible] wpList wpAnyH Code.wp Oper.wp Go

def blksL (l : List UInt8) (k : Nat) : List (List UInt8) := (List.range k).map (blkB l)
theorem blksL_len (l : List UInt8) (k : Nat) : (blksL l k).length = k := by simp [blksL]
theorem blksL_snoc (l : List UInt8) (k : Nat) : blksL l (k + 1) = blksL l k ++ [blkB l k] := by simp [blksL, List.range_succ]
theorem blksL_get (l : List UInt8) {k i : Nat} (h : i < k) : (blksL l k).getD i [] = blkB l i := by simp [blksL, List.getD, List.getElem?_range h]
theorem blkB_take {l : List UInt8} {i m : Nat} (h : i < m) : blkB (l.take (m * 256)) i = blkB l i := by
  unfold blkB
  rw [List.drop_take, List.take_take, Nat.min_eq_left (by omega)]
theorem blksL_take {l : List UInt8} {k : Nat} : blksL (l.take (k * 256)) k = blksL l k := List.map_congr_left fun i hi => blkB_take (List.mem_range.1 hi)
theorem blksL_set {l x : List UInt8} {k j : Nat} (hx : x.length = 256) (hl : k * 256 ≤ l.length) (hj : j < k) : (blksL l k).set j x = blksL (putB l (j * 256) x) k := by
  apply List.ext_getElem?
  intro i
  by_cases hi : i < k
  · rw [List.getElem?_set]
    have e1 : ∀ l : List UInt8, (blksL l k)[i]? = some (blkB l i) := fun l => by simp [blksL, List.getElem?_range hi]
    rw [e1, e1]
    by_cases h : j = i
    · subst h; rw [if_pos rfl, blksL_len, if_pos hi, blkB_put hx (by omega)]
    · rw [if_neg h, blkB_put_other hx (by omega) (by omega) (by omega)]
  · rw [List.getElem?_eq_none (by rw [List.length_set, blksL_len]; omega), List.getElem?_eq_none (by rw [blksL_len]; omega)]
theorem take_blk {l : List UInt8} {i : Nat} : l.take (i * 256) ++ blkB l i = l.take ((i + 1) * 256) := by
  unfold blkB
  rw [Nat.add_mul, Nat.one_mul, List.take_add]
/-- an image of the document's at block bm: k blocks, their bytes l -/
structure RefI (B bm : Nat) (p : Option Addr) (k c : Nat) (l : List UInt8) (w : World) : Prop where
  blk : Blk w bm [.slice p k c] 114
  row : w.ownsRow B 9 1 (.slice p k c) k ((blksL l k).map sv)
  hk : k ≤ 14400
  hl : l.length = k * 256
theorem RefI.below {B bm : Nat} {p : Option Addr} {k c : Nat} {l : List UInt8} {w W : World} (h : RefI B bm p k c l w) (hb : Below w.heap.size w W) : RefI B bm p k c l W := ⟨h.blk.below hb, own_below h.row hb, h.hk, h.hl⟩
theorem RefI.only {B bm : Nat} {p : Option Addr} {k c : Nat} {l : List UInt8} {w W : World} {T : List TypeId} (h : RefI B bm p k c l w) (hO : Only T w W) (hT : T.contains 114 = false ∧ T.contains 9 = false) : RefI B bm p k c l W := ⟨h.blk.only hO hT.1, own_only h.row hO hT.2, h.hk, h.hl⟩
theorem RefI.mono {B B' bm : Nat} {p : Option Addr} {k c : Nat} {l : List UInt8} {w : World} (h : RefI B bm p k c l w) (hB : B' ≤ B) : RefI B' bm p k c l w := ⟨h.blk, own_mono h.row hB, h.hk, h.hl⟩
theorem RefI.base {B bm : Nat} {p : Option Addr} {k c : Nat} {l : List UInt8} {w : World} (h : RefI B bm p k c l w) (hn : 0 < k) : ∃ g, p = some ⟨g, 0, none⟩ := by
  rcases h.row.2 with ⟨_, h0⟩ | ⟨g, cap, cur, hv, _, _, hc, _⟩
  · omega
  · simp only [Value.slice.injEq] at hv
    obtain ⟨rfl, _, rfl⟩ := hv
    exact ⟨g, rfl⟩
set_option maxRecDepth 100000 in
set_option maxHeartbeats 1000000 in
theorem ref_Of (a : Option Addr) (c : Nat) (l : List UInt8) (w : World) (h : Bys w (.slice a l.length c) l) (hl : l.length ≤ 100000000) :
    Calls Tryz.prog 12 #[.slice a l.length c] w (RetS (fun w' r => ∃ bm p c2, r = .pointer (some ⟨bm, 0, none⟩) ∧ w.heap.size ≤ bm ∧ RefI w.heap.size bm p (min (l.length / 256) 14400) c2 (l.take (min (l.length / 256) 14400 * 256)) w') w) := by
 refine zin 32 Tryz.func12 ?_
 refine xa 8 [.slice none 0 0] 114 fun b1 W1 n1 => ?_
 refine zl 5 32 (fun zm zkv V => ∃ (k : Nat) (p : Option Addr) (cp : Nat) (a2 : Option Addr) (c2 : Nat) (l2 : List UInt8), zkv = [(0, .slice a2 l2.length c2), (2, .pointer none), (3, .pointer (some ⟨b1, 0, none⟩))] ∧ zm = l2.length ∧ Below w.heap.size w V ∧ Blk V b1 ([.slice p k cp]) 114 ∧ V.ownsRow w.heap.size 9 1 (.slice p k cp) k ((blksL l k).map sv) ∧ Bys w (.slice a2 l2.length c2) l2 ∧ l2 = l.drop (k * 256) ∧ k * 256 ≤ l.length ∧ k ≤ 14400) ⟨0, none, 0, a, c, l, rfl, rfl, n1.below, n1.blk, World.ownsRow_nil _ _ _ _, h, by simp, by omega, by decide⟩ ?_
 rintro _ _ W2 ⟨k, p, cp, a2, c2, l2, rfl, rfl, hB_2, k2_b1, ho, hen, hl2, hk1, hk2⟩ J2 hJ2 r2
 have hcap := hen.cap rfl
 have hl2n : l2.length = l.length - k * 256 := by rw [hl2]; simp
 refine xg 7 [8, 9] (decide ((↑l2.length : Int) ≥ (256 : Int))) (fun hc3 => ?_) (fun hc3 => ?_)
 · have hc3 := of_decide_eq_true hc3
   refine xb 3 0 k2_b1 ?_
   refine xid 5 ((↑k : Int) < (14400 : Int)) (fun hc4 => ?_) (fun hc4 => ?_)
   · refine xd 4 (.t w.heap.size [9, 114]) ?_
     refine xsH (.e [0, 1, 2, 3, 5] 6) (fun _ _ _ _ zo zx zy V => run_sliceH (k := 256) (b := a2) (n := l2.length) (c := c2) (i := 256) (ki := .i64) zo zx zy rfl (by omega) Tryz.underlying22 (by kernel_rfl) V) ?_
     have hB'1 := Bl.next hB_2 (below_drew W2)
     refine xcvt (.e [] 7) (.t w.heap.size [9, 114]) (fun _ _ _ zo zx V hV => run_bstr zo zx ((Bys.take hen rfl 256 (by omega)).below (sft_keep hB'1 hV (Nat.le_refl _))) (by simp; omega) Tryz.underlying22 Tryz.underlying5 Tryz.underlying9) ?_
     refine xm2 0 4 8 ?_ ?_
     · have k2_b1'1 := k2_b1.below (below_drew W2)
       refine xb 0 0 k2_b1'1 ?_
       refine xbs (.o [] 8) 1 [.string ⟨(l2.take 256).toArray⟩] 9 fun b5 W5 n5 => ?_
       have g5 := n5.ge hB'1
       have ho'1 := own_below ho (below_drew W2)
       have r5_ho := own_ne ho'1 n5
       have ho'2 := own_below ho'1 n5.below
       have hB'2 := Bl.next hB'1 n5.below
       refine ybi (.o [] 9) (.t w.heap.size [9, 114]) fun _ _ _ _ zJ zQ zo zx zy zK => op_app (m := 1) (news := [.string ⟨(l2.take 256).toArray⟩]) (.string ⟨#[]⟩) 1 16 (k + 1) ((blksL l (k + 1)).map sv) zo Tryz.underlying50 (by kernel_rfl) rfl (by decide) zx ho'2 zy (n5.blk.sl 1 1 (by decide) (by decide)) rfl (by simp [Value.oneCell']) (by unfold maxLen; omega) (by omega) hB'2.size (by rfl) (by rw [blksL_snoc, List.map_append, show blkB l k = l2.take 256 from by rw [hl2]; rfl]; rfl) fun px6 cx6 W6 o6 hg6 hb6 => ?_
       refine zK _ _ (sft_grown hb6 hg6 ho'2 (by decide)) ?_
       have k2_b1'2 := (k2_b1'1.below n5.below).grown hg6 ho'2 (by decide)
       have g1 := n1.ge (Below.refl w.heap.size _)
       refine ys (.o [10, 11] 12) k2_b1'2 [.slice px6 (k + 1) cx6] (.t w.heap.size [9, 114]) fun W7 u7 k7 => ⟨(sft_upd u7 k2_b1'2 g1 (by decide)), ?_⟩
       refine xsL 4 (fun _ _ _ _ zo zx zy V => run_sliceLA (k := 256) (b := a2) (n := l2.length) (c := c2) (i := 256) (ki := .i64) 1 zo zx zy rfl (by omega) Tryz.underlying22 (by kernel_rfl) V) ?_
       refine xv1 3 0 (show (.slice (cutA a2 256 c2 1) (l2.length - 256) (c2 - 256) : Value) = .slice (cutA a2 256 c2 1) ((l2.drop 256).length) (c2 - 256) from by rw [List.length_drop]) ?_
       have hB'3 := u7.below (hB'2.trans hb6) g1
       have o6'1 := u7.own2 o6 k2_b1'2 (by decide)
       refine ze 0 (hJ2 _ _ _ ⟨k + 1, _, _, _, _, (l2.drop 256), rfl, rfl, hB'3, k7, o6'1, (by have := Bys.cut hen rfl 256 l2.length (by omega) (Nat.le_refl _); rw [List.take_of_length_le (by simp)] at this; rwa [show (l2.drop 256).length = l2.length - 256 by simp]), by rw [hl2, List.drop_drop, Nat.add_mul, Nat.one_mul], by omega, by omega⟩ ?_)
       show ((l2.drop 256).length) < l2.length
       rw [List.length_drop]; omega
     refine xbs 0 1 [.string ⟨(l2.take 256).toArray⟩] 9 fun b8 W8 n8 => ?_
     have g8 := n8.ge hB'1
     have ho'3 := own_below ho (below_drew W2)
     have r8_ho := own_ne ho'3 n8
     have k2_b1'3 := (k2_b1.below (below_drew W2)).below n8.below
     refine xb (.o [] 4) 0 k2_b1'3 ?_
     have ho'4 := own_below ho'3 n8.below
     have hB'4 := Bl.next hB'1 n8.below
     refine ybi (.o [] 9) (.t w.heap.size [9, 114]) fun _ _ _ _ zJ zQ zo zx zy zK => op_app (m := 1) (news := [.string ⟨(l2.take 256).toArray⟩]) (.string ⟨#[]⟩) 1 16 (k + 1) ((blksL l (k + 1)).map sv) zo Tryz.underlying50 (by kernel_rfl) rfl (by decide) zx ho'4 zy (n8.blk.sl 1 1 (by decide) (by decide)) rfl (by simp [Value.oneCell']) (by unfold maxLen; omega) (by omega) hB'4.size (by rfl) (by rw [blksL_snoc, List.map_append, show blkB l k = l2.take 256 from by rw [hl2]; rfl]; rfl) fun px9 cx9 W9 o9 hg9 hb9 => ?_
     refine zK _ _ (sft_grown hb9 hg9 ho'4 (by decide)) ?_
     have k2_b1'4 := k2_b1'3.grown hg9 ho'4 (by decide)
     have g1 := n1.ge (Below.refl w.heap.size _)
     refine ys (.o [10, 11] 12) k2_b1'4 [.slice px9 (k + 1) cx9] (.t w.heap.size [9, 114]) fun W10 u10 k10 => ⟨(sft_upd u10 k2_b1'4 g1 (by decide)), ?_⟩
     refine xsL 4 (fun _ _ _ _ zo zx zy V => run_sliceLA (k := 256) (b := a2) (n := l2.length) (c := c2) (i := 256) (ki := .i64) 1 zo zx zy rfl (by omega) Tryz.underlying22 (by kernel_rfl) V) ?_
     refine xv1 3 0 (show (.slice (cutA a2 256 c2 1) (l2.length - 256) (c2 - 256) : Value) = .slice (cutA a2 256 c2 1) ((l2.drop 256).length) (c2 - 256) from by rw [List.length_drop]) ?_
     have hB'5 := u10.below (hB'4.trans hb9) g1
     have o9'1 := u10.own2 o9 k2_b1'4 (by decide)
     refine ze 0 (hJ2 _ _ _ ⟨k + 1, _, _, _, _, (l2.drop 256), rfl, rfl, hB'5, k10, o9'1, (by have := Bys.cut hen rfl 256 l2.length (by omega) (Nat.le_refl _); rw [List.take_of_length_le (by simp)] at this; rwa [show (l2.drop 256).length = l2.length - 256 by simp]), by rw [hl2, List.drop_drop, Nat.add_mul, Nat.one_mul], by omega, by omega⟩ ?_)
     show ((l2.drop 256).length) < l2.length
     rw [List.length_drop]; omega
   have g1 := n1.ge (Below.refl w.heap.size _)
   refine xe 12 (.pointer (some ⟨b1, 0, none⟩)) ?_
   obtain rfl : k = min (l.length / 256) 14400 := by omega
   exact ⟨_, rfl, hB_2, _, _, _, rfl, g1, k2_b1, by rw [blksL_take]; exact ho, by omega, by simp; omega⟩
 have hc3 := of_decide_eq_false hc3
 have g1 := n1.ge (Below.refl w.heap.size _)
 refine xe 22 (.pointer (some ⟨b1, 0, none⟩)) ?_
 obtain rfl : k = min (l.length / 256) 14400 := by omega
 exact ⟨_, rfl, hB_2, _, _, _, rfl, g1, k2_b1, by rw [blksL_take]; exact ho, by omega, by simp; omega⟩
def WroteI (B bm : Nat) (p : Option Addr) (k c : Nat) (l : List UInt8) (v : Value) (w : World) (e : Ending) (w' : World) : Prop :=
  e = .returned v ∧ Below B w w' ∧ Only [9] w w' ∧ RefI B bm p k c l w'
/-- the document's fault of a number at a block -/
def fltL (no er : Int) : List Int := if er = 0 then [] else [no]
theorem fltL_nz {no er : Int} (h : er ≠ 0) : fltL no er = [no] := if_neg h
set_option maxRecDepth 100000 in
set_option maxHeartbeats 1000000 in
theorem ref05_At_z (no : Int) (w : World) :
    Calls Tryz.prog 84 #[.int .i64 no, .agg #[.slice none 0 0, .int .i64 0]] w (Ret (.agg #[.slice none 0 0, .int .i64 0]) w) := by
 refine zin 17 Tryz.func84 ?_
 refine xa 2 [.slice none 0 0, .int .i64 0] 45 fun b1 W1 n1 => ?_
 refine xa 0 [.slice none 0 0, .int .i64 0] 45 fun b2 W2 n2 => ?_
 have d2_b1 := n2.ne n1.blk
 have k1'1 := n1.blk.below n2.below
 refine xb 6 1 k1'1 ?_
 refine xsv 7 n2.blk [.slice none 0 0, .int .i64 0] fun W3 u3 k3 => ?_
 have g2 := n2.ge n1.below
 have hB := u3.below (Bl.next n1.below n2.below) g2
 exact xec 4 k3 (.agg #[.slice none 0 0, .int .i64 0]) ⟨rfl, hB⟩
set_option maxRecDepth 100000 in
set_option maxHeartbeats 1000000 in
theorem ref05_At_n (no er : Int) (w : World) (he : er ≠ 0) :
    Calls Tryz.prog 84 #[.int .i64 no, .agg #[.slice none 0 0, .int .i64 er]] w (RetS (fun w' r => ∃ a c, r = .agg #[.slice a 1 c, .int .i64 er] ∧ w'.ownsRow w.heap.size 3 1 (.slice a 1 c) 1 [.int .i64 no]) w) := by
 refine zin 17 Tryz.func84 ?_
 refine xa 2 [.slice none 0 0, .int .i64 er] 45 fun b1 W1 n1 => ?_
 refine xa 0 [.slice none 0 0, .int .i64 0] 45 fun b2 W2 n2 => ?_
 have d2_b1 := n2.ne n1.blk
 have k1'1 := n1.blk.below n2.below
 refine xb 6 1 k1'1 ?_
 refine xk 3 (show ((er == (0 : Int)) : Bool) = false from beq_false_of_ne he) ?_
 refine xd 3 (.t w.heap.size [3, 45]) ?_
 refine xm3 (.b [0, 2, 5]) 1 3 6 ?_ ?_ ?_
 · refine xbs 0 1 [.int .i64 no] 3 fun b3 W3 n3 => ?_
   refine xm2 0 3 6 ?_ ?_
   · have k1'2 := (k1'1.below (below_drew W2)).below n3.below
     refine xb 0 0 k1'2 ?_
     refine xm2 0 4 6 ?_ ?_
     · have g3 := n3.ge (Bl.next (Bl.next n1.below n2.below) (below_drew W2))
       have o4 := own_of_blk (size := 1) (n := 1) n3.blk g3 rfl (by decide)
       have hB := Bl.next (Bl.next (Bl.next n1.below n2.below) (below_drew W2)) n3.below
       refine ybi 0 (.t w.heap.size [3, 45]) fun _ _ _ _ zJ zQ zo zx zy zK => op_app (m := 0) (news := []) (.int .i64 0) 1 8 (1) ([.int .i64 no]) zo Tryz.underlying26 (by kernel_rfl) rfl (by decide) zx o4 zy (.inl ⟨none, 0, rfl, rfl, rfl⟩) rfl (by simp) (by unfold maxLen; omega) (by omega) hB.size (by rfl) (by rfl) fun px5 cx5 W5 o5 hg5 hb5 => ?_
       refine zK _ _ (sft_grown hb5 hg5 o4 (by decide)) ?_
       have k1'3 := k1'2.grown hg5 o4 (by decide)
       refine xb (.o [] 6) 1 k1'3 ?_
       have k2 := ((n2.blk.below (below_drew W2)).below n3.below).grown hg5 o4 (by decide)
       have g2 := n2.ge n1.below
       refine ysv (.o [7] 8) k2 [.slice px5 1 cx5, .int .i64 er] (.t w.heap.size [3, 45]) fun W6 u6 k6 => ⟨(sft_upd u6 k2 g2 (by decide)), ?_⟩
       have hB'1 := u6.below (hB.trans hb5) g2
       have o5'1 := u6.own2 o5 k2 (by decide)
       exact xec 3 k6 (.agg #[.slice px5 1 cx5, .int .i64 er]) ⟨_, rfl, hB'1, _, _, rfl, o5'1⟩
     refine xb 0 1 k1'2 ?_
     have g3 := n3.ge (Bl.next (Bl.next n1.below n2.below) (below_drew W2))
     have o7 := own_of_blk (size := 1) (n := 1) n3.blk g3 rfl (by decide)
     have hB := Bl.next (Bl.next (Bl.next n1.below n2.below) (below_drew W2)) n3.below
     refine ybi (.o [] 4) (.t w.heap.size [3, 45]) fun _ _ _ _ zJ zQ zo zx zy zK => op_app (m := 0) (news := []) (.int .i64 0) 1 8 (1) ([.int .i64 no]) zo Tryz.underlying26 (by kernel_rfl) rfl (by decide) zx o7 zy (.inl ⟨none, 0, rfl, rfl, rfl⟩) rfl (by simp) (by unfold maxLen; omega) (by omega) hB.size (by rfl) (by rfl) fun px8 cx8 W8 o8 hg8 hb8 => ?_
     refine zK _ _ (sft_grown hb8 hg8 o7 (by decide)) ?_
     have k2 := ((n2.blk.below (below_drew W2)).below n3.below).grown hg8 o7 (by decide)
     have g2 := n2.ge n1.below
     refine ysv (.o [7] 8) k2 [.slice px8 1 cx8, .int .i64 er] (.t w.heap.size [3, 45]) fun W9 u9 k9 => ⟨(sft_upd u9 k2 g2 (by decide)), ?_⟩
     have hB'2 := u9.below (hB.trans hb8) g2
     have o8'1 := u9.own2 o8 k2 (by decide)
     exact xec 3 k9 (.agg #[.slice px8 1 cx8, .int .i64 er]) ⟨_, rfl, hB'2, _, _, rfl, o8'1⟩
   have k1'4 := (k1'1.below (below_drew W2)).below n3.below
   refine xb 0 1 k1'4 ?_
   refine xb (.o [] 3) 0 k1'4 ?_
   have g3 := n3.ge (Bl.next (Bl.next n1.below n2.below) (below_drew W2))
   have o10 := own_of_blk (size := 1) (n := 1) n3.blk g3 rfl (by decide)
   have hB := Bl.next (Bl.next (Bl.next n1.below n2.below) (below_drew W2)) n3.below
   refine ybi (.o [] 4) (.t w.heap.size [3, 45]) fun _ _ _ _ zJ zQ zo zx zy zK => op_app (m := 0) (news := []) (.int .i64 0) 1 8 (1) ([.int .i64 no]) zo Tryz.underlying26 (by kernel_rfl) rfl (by decide) zx o10 zy (.inl ⟨none, 0, rfl, rfl, rfl⟩) rfl (by simp) (by unfold maxLen; omega) (by omega) hB.size (by rfl) (by rfl) fun px11 cx11 W11 o11 hg11 hb11 => ?_
   refine zK _ _ (sft_grown hb11 hg11 o10 (by decide)) ?_
   have k2 := ((n2.blk.below (below_drew W2)).below n3.below).grown hg11 o10 (by decide)
   have g2 := n2.ge n1.below
   refine ysv (.o [7] 8) k2 [.slice px11 1 cx11, .int .i64 er] (.t w.heap.size [3, 45]) fun W12 u12 k12 => ⟨(sft_upd u12 k2 g2 (by decide)), ?_⟩
   have hB'3 := u12.below (hB.trans hb11) g2
   have o11'1 := u12.own2 o11 k2 (by decide)
   exact xec 3 k12 (.agg #[.slice px11 1 cx11, .int .i64 er]) ⟨_, rfl, hB'3, _, _, rfl, o11'1⟩
 · have k1'5 := k1'1.below (below_drew W2)
   refine xb 0 0 k1'5 ?_
   refine xm2 0 1 6 ?_ ?_
   · refine xbs 0 1 [.int .i64 no] 3 fun b13 W13 n13 => ?_
     refine xm2 0 4 6 ?_ ?_
     · have g13 := n13.ge (Bl.next (Bl.next n1.below n2.below) (below_drew W2))
       have o14 := own_of_blk (size := 1) (n := 1) n13.blk g13 rfl (by decide)
       have hB := Bl.next (Bl.next (Bl.next n1.below n2.below) (below_drew W2)) n13.below
       refine ybi 0 (.t w.heap.size [3, 45]) fun _ _ _ _ zJ zQ zo zx zy zK => op_app (m := 0) (news := []) (.int .i64 0) 1 8 (1) ([.int .i64 no]) zo Tryz.underlying26 (by kernel_rfl) rfl (by decide) zx o14 zy (.inl ⟨none, 0, rfl, rfl, rfl⟩) rfl (by simp) (by unfold maxLen; omega) (by omega) hB.size (by rfl) (by rfl) fun px15 cx15 W15 o15 hg15 hb15 => ?_
       refine zK _ _ (sft_grown hb15 hg15 o14 (by decide)) ?_
       have k1'6 := (k1'5.below n13.below).grown hg15 o14 (by decide)
       refine xb (.o [] 6) 1 k1'6 ?_
       have k2 := ((n2.blk.below (below_drew W2)).below n13.below).grown hg15 o14 (by decide)
       have g2 := n2.ge n1.below
       refine ysv (.o [7] 8) k2 [.slice px15 1 cx15, .int .i64 er] (.t w.heap.size [3, 45]) fun W16 u16 k16 => ⟨(sft_upd u16 k2 g2 (by decide)), ?_⟩
       have hB'4 := u16.below (hB.trans hb15) g2
       have o15'1 := u16.own2 o15 k2 (by decide)
       exact xec 3 k16 (.agg #[.slice px15 1 cx15, .int .i64 er]) ⟨_, rfl, hB'4, _, _, rfl, o15'1⟩
     have k1'7 := k1'5.below n13.below
     refine xb 0 1 k1'7 ?_
     have g13 := n13.ge (Bl.next (Bl.next n1.below n2.below) (below_drew W2))
     have o17 := own_of_blk (size := 1) (n := 1) n13.blk g13 rfl (by decide)
     have hB := Bl.next (Bl.next (Bl.next n1.below n2.below) (below_drew W2)) n13.below
     refine ybi (.o [] 4) (.t w.heap.size [3, 45]) fun _ _ _ _ zJ zQ zo zx zy zK => op_app (m := 0) (news := []) (.int .i64 0) 1 8 (1) ([.int .i64 no]) zo Tryz.underlying26 (by kernel_rfl) rfl (by decide) zx o17 zy (.inl ⟨none, 0, rfl, rfl, rfl⟩) rfl (by simp) (by unfold maxLen; omega) (by omega) hB.size (by rfl) (by rfl) fun px18 cx18 W18 o18 hg18 hb18 => ?_
     refine zK _ _ (sft_grown hb18 hg18 o17 (by decide)) ?_
     have k2 := ((n2.blk.below (below_drew W2)).below n13.below).grown hg18 o17 (by decide)
     have g2 := n2.ge n1.below
     refine ysv (.o [7] 8) k2 [.slice px18 1 cx18, .int .i64 er] (.t w.heap.size [3, 45]) fun W19 u19 k19 => ⟨(sft_upd u19 k2 g2 (by decide)), ?_⟩
     have hB'5 := u19.below (hB.trans hb18) g2
     have o18'1 := u19.own2 o18 k2 (by decide)
     exact xec 3 k19 (.agg #[.slice px18 1 cx18, .int .i64 er]) ⟨_, rfl, hB'5, _, _, rfl, o18'1⟩
   refine xb 0 1 k1'5 ?_
   refine xbs (.o [] 1) 1 [.int .i64 no] 3 fun b20 W20 n20 => ?_
   have g20 := n20.ge (Bl.next (Bl.next n1.below n2.below) (below_drew W2))
   have o21 := own_of_blk (size := 1) (n := 1) n20.blk g20 rfl (by decide)
   have hB := Bl.next (Bl.next (Bl.next n1.below n2.below) (below_drew W2)) n20.below
   refine ybi (.o [] 4) (.t w.heap.size [3, 45]) fun _ _ _ _ zJ zQ zo zx zy zK => op_app (m := 0) (news := []) (.int .i64 0) 1 8 (1) ([.int .i64 no]) zo Tryz.underlying26 (by kernel_rfl) rfl (by decide) zx o21 zy (.inl ⟨none, 0, rfl, rfl, rfl⟩) rfl (by simp) (by unfold maxLen; omega) (by omega) hB.size (by rfl) (by rfl) fun px22 cx22 W22 o22 hg22 hb22 => ?_
   refine zK _ _ (sft_grown hb22 hg22 o21 (by decide)) ?_
   have k2 := ((n2.blk.below (below_drew W2)).below n20.below).grown hg22 o21 (by decide)
   have g2 := n2.ge n1.below
   refine ysv (.o [7] 8) k2 [.slice px22 1 cx22, .int .i64 er] (.t w.heap.size [3, 45]) fun W23 u23 k23 => ⟨(sft_upd u23 k2 g2 (by decide)), ?_⟩
   have hB'6 := u23.below (hB.trans hb22) g2
   have o22'1 := u23.own2 o22 k2 (by decide)
   exact xec 3 k23 (.agg #[.slice px22 1 cx22, .int .i64 er]) ⟨_, rfl, hB'6, _, _, rfl, o22'1⟩
 have k1'8 := k1'1.below (below_drew W2)
 refine xb 0 1 k1'8 ?_
 refine xm2 0 1 3 ?_ ?_
 · refine xbs 0 1 [.int .i64 no] 3 fun b24 W24 n24 => ?_
   have k1'9 := k1'8.below n24.below
   refine xb (.o [] 3) 0 k1'9 ?_
   have g24 := n24.ge (Bl.next (Bl.next n1.below n2.below) (below_drew W2))
   have o25 := own_of_blk (size := 1) (n := 1) n24.blk g24 rfl (by decide)
   have hB := Bl.next (Bl.next (Bl.next n1.below n2.below) (below_drew W2)) n24.below
   refine ybi (.o [] 4) (.t w.heap.size [3, 45]) fun _ _ _ _ zJ zQ zo zx zy zK => op_app (m := 0) (news := []) (.int .i64 0) 1 8 (1) ([.int .i64 no]) zo Tryz.underlying26 (by kernel_rfl) rfl (by decide) zx o25 zy (.inl ⟨none, 0, rfl, rfl, rfl⟩) rfl (by simp) (by unfold maxLen; omega) (by omega) hB.size (by rfl) (by rfl) fun px26 cx26 W26 o26 hg26 hb26 => ?_
   refine zK _ _ (sft_grown hb26 hg26 o25 (by decide)) ?_
   have k2 := ((n2.blk.below (below_drew W2)).below n24.below).grown hg26 o25 (by decide)
   have g2 := n2.ge n1.below
   refine ysv (.o [7] 8) k2 [.slice px26 1 cx26, .int .i64 er] (.t w.heap.size [3, 45]) fun W27 u27 k27 => ⟨(sft_upd u27 k2 g2 (by decide)), ?_⟩
   have hB'7 := u27.below (hB.trans hb26) g2
   have o26'1 := u27.own2 o26 k2 (by decide)
   exact xec 3 k27 (.agg #[.slice px26 1 cx26, .int .i64 er]) ⟨_, rfl, hB'7, _, _, rfl, o26'1⟩
 refine xb 0 0 k1'8 ?_
 refine xbs (.o [] 1) 1 [.int .i64 no] 3 fun b28 W28 n28 => ?_
 have g28 := n28.ge (Bl.next (Bl.next n1.below n2.below) (below_drew W2))
 have o29 := own_of_blk (size := 1) (n := 1) n28.blk g28 rfl (by decide)
 have hB := Bl.next (Bl.next (Bl.next n1.below n2.below) (below_drew W2)) n28.below
 refine ybi (.o [] 4) (.t w.heap.size [3, 45]) fun _ _ _ _ zJ zQ zo zx zy zK => op_app (m := 0) (news := []) (.int .i64 0) 1 8 (1) ([.int .i64 no]) zo Tryz.underlying26 (by kernel_rfl) rfl (by decide) zx o29 zy (.inl ⟨none, 0, rfl, rfl, rfl⟩) rfl (by simp) (by unfold maxLen; omega) (by omega) hB.size (by rfl) (by rfl) fun px30 cx30 W30 o30 hg30 hb30 => ?_
 refine zK _ _ (sft_grown hb30 hg30 o29 (by decide)) ?_
 have k2 := ((n2.blk.below (below_drew W2)).below n28.below).grown hg30 o29 (by decide)
 have g2 := n2.ge n1.below
 refine ysv (.o [7] 8) k2 [.slice px30 1 cx30, .int .i64 er] (.t w.heap.size [3, 45]) fun W31 u31 k31 => ⟨(sft_upd u31 k2 g2 (by decide)), ?_⟩
 have hB'8 := u31.below (hB.trans hb30) g2
 have o30'1 := u31.own2 o30 k2 (by decide)
 exact xec 3 k31 (.agg #[.slice px30 1 cx30, .int .i64 er]) ⟨_, rfl, hB'8, _, _, rfl, o30'1⟩
def FltO (no er : Int) (w : World) (e : Ending) (w' : World) : Prop := ∃ a c, e = .returned (.agg #[.slice a (fltL no er).length c, .int .i64 er]) ∧ Below w.heap.size w w' ∧ w'.ownsRow w.heap.size 3 1 (.slice a (fltL no er).length c) (fltL no er).length ((fltL no er).map (Value.int .i64))
theorem ref05_AtP (no er : Int) (w : World) : Calls Tryz.prog 84 #[.int .i64 no, .agg #[.slice none 0 0, .int .i64 er]] w (FltO no er w) := by
  by_cases he : er = 0
  · subst he
    refine (ref05_At_z no w).mono ?_
    rintro e W ⟨rfl, hb⟩
    exact ⟨none, 0, rfl, hb, World.ownsRow_nil _ _ _ _⟩
  · refine (ref05_At_n no er w he).mono ?_
    rintro e W ⟨_, rfl, hb, a, c, rfl, ho⟩
    rw [FltO, fltL_nz he]
    exact ⟨a, c, rfl, hb, ho⟩
set_option maxRecDepth 100000 in
set_option maxHeartbeats 1000000 in
theorem ref11_At (no er : Int) (w : World) :
    Calls Tryz.prog 41 #[.int .i64 no, .int .i64 er] w (FltO no er w) := by
 refine zin 9 Tryz.func41 ?_
 refine xa 2 [.slice none 0 0, .int .i64 0] 45 fun b1 W1 n1 => ?_
 refine xc 7 (args := #[.int .i64 no, .agg #[.slice none 0 0, .int .i64 er]]) (ref05_AtP no er _) ?_
 rintro _ W2 ⟨a5, c5, rfl, hb2, hs5⟩
 have k1 := n1.blk.below hb2
 refine xsv 0 k1 [.slice a5 ((fltL no er).length) c5, .int .i64 er] fun W3 u3 k3 => ?_
 have g1 := n1.ge (Below.refl w.heap.size _)
 have hB := u3.below (Bl.next n1.below hb2) g1
 have hs5'1 := u3.own2 (own_mono hs5 n1.below.size) k1 (by decide)
 exact xec 3 k3 (.agg #[.slice a5 ((fltL no er).length) c5, .int .i64 er]) ⟨_, _, rfl, hB, hs5'1⟩
/-- the number that a block's writing hands back -/
def wrE (kind no : Int) (k : Nat) (li : List UInt8) : Int := if sealE kind no li = 0 then (if 0 ≤ no ∧ no < (k : Int) then 0 else 3) else sealE kind no li
/-- the image behind it -/
def wrL (kind no : Int) (k : Nat) (li l : List UInt8) : List UInt8 := if wrE kind no k li = 0 then putB l (no.toNat * 256) (sealB kind no li) else l
theorem wrL_len {kind no : Int} {k : Nat} {li l : List UInt8} (hl : l.length = k * 256) (hs : li.length ≤ 244 ∨ wrE kind no k li ≠ 0) : (wrL kind no k li l).length = k * 256 := by
  unfold wrL
  split
  · rename_i h
    have h1 : sealE kind no li = 0 := by unfold wrE at h; split at h; assumption; rename_i h2; exact absurd h h2
    have h2 : 0 ≤ no ∧ no < (k : Int) := by unfold wrE at h; rw [if_pos h1] at h; split at h; assumption; cases h
    have h3 : li.length ≤ 244 := by
      rcases hs with hs | hs
      · exact hs
      · exact absurd h hs
    rw [putB_len (by rw [sealB_len h3]; omega), hl]
  · exact hl
def RefWr (B bm : Nat) (p : Option Addr) (k c : Nat) (l : List UInt8) (no er : Int) (w : World) (e : Ending) (w' : World) : Prop :=
  ∃ a c2, e = .returned (.agg #[.slice a (fltL no er).length c2, .int .i64 er]) ∧ Below B w w' ∧ Only [9] w w' ∧ RefI B bm p k c l w' ∧ w'.ownsRow w.heap.size 3 1 (.slice a (fltL no er).length c2) (fltL no er).length ((fltL no er).map (Value.int .i64))
end Go.Proofs.YtinegkldgjhnpaaGreatDoor
namespace Go.Proofs.YtinegkldgjhnpaaGreatDoor
open Go.RowKit Go.Extern.Stop Go.Stop Go.Extern
set_option linter.unusedVariables false
attribute [local irreducible] wpList wpAnyH Code.wp Oper.wp Go

theorem raw1 (l : List UInt8) (k : Nat) : rawN l k 1 = (l.getD k 0).toNat := by simp [rawN]
theorem raw2 (l : List UInt8) (k : Nat) : rawN l k 2 = (l.getD k 0).toNat + 256 * (l.getD (k + 1) 0).toNat := by simp [rawN]
theorem BysM.elem {w : World} {a : Option Addr} {n c : Nat} {l : List UInt8} (h : Bys w (.slice a n c) l) (hl : l.length = n) {k : Nat} (hk : k < n) : a.isSome = true ∧ w.cell? (elemAddr a (k * 1)) = some (.int .u8 (↑(l.getD k 0).toNat : Int)) := by
  subst hl; exact Bys.elem h hk
theorem slN_of {w : World} {v : Value} {n : Nat} {l : List UInt8} (h : Bys w v l) (hl : l.length = n) : Sl w v n (l.map bv) := by subst hl; exact h
theorem drop_take_len {l : List UInt8} {k m n : Nat} (h : l.length = n) (hk : k ≤ m) (hm : m ≤ n) : ((l.drop k).take (m - k)).length = m - k := by simp; omega
/-- the sum is asked by its bytes -/
theorem ask_sum {kind no : Int} {l : List UInt8} (hl : l.length = 256) : (!(((l.drop 252).take 4) == leB ((sumB l kind : Nat) : Int) 4)) = askB kind no l 2 := by
  have h1 := leB_raw (l := l) (k := 252) (w := 4) (by omega)
  have hs : sumB l kind < 256 ^ 4 := by
    have := Nat.xor_lt_two_pow (n := 32) (crcSum_lt (l.take 252)) (saltN_lt kind)
    unfold sumB; exact this
  have hr := rawN_lt l 4 252
  show _ = ((rawN l 252 4 : Int) != (sumB l kind : Int))
  rw [← h1]
  by_cases e : rawN l 252 4 = sumB l kind
  · rw [e]; simp
  · have e2 : leB (rawN l 252 4 : Int) 4 ≠ leB (sumB l kind : Int) 4 := fun h => e (leB_inj hr hs h)
    rw [beq_false_of_ne e2, bne_iff_ne.2 (by omega)]; rfl
set_option maxRecDepth 100000 in
set_option maxHeartbeats 1000000 in
theorem ref_Open_no (kind no : Int) (a : Option Addr) (c : Nat) (l : List UInt8) (w : World) (hl : l.length ≠ 256) (h : Bys w (.slice a l.length c) l) :
    Calls Tryz.prog 114 #[.slice a l.length c, .int .i64 kind, .int .i64 no] w (OpenP kind no l w) := by
 refine zin 61 Tryz.func114 ?_
 refine xr 11 (args := #[.int .i64 kind, .int .i64 no]) (ref_known kind no _) fun W1 hb1 => ?_
 refine xi 3 (!(knownB kind no)) (fun hc2 => ?_) (fun hc2 => ?_)
 · have hk1 : askB kind no l 0 = true := hc2
   refine xe 8 (.tuple #[.slice none 0 0, .int .i64 1]) ?_
   have he : openE kind no l = 1 := by simp [openE, hk1]
   exact .inl ⟨by rw [he]; decide, by rw [he], hb1⟩
 have hk1 : askB kind no l 0 = false := hc2
 have hkb : knownB kind no = true := by simpa using hc2
 refine xk 10 (show (((↑l.length : Int) != (256 : Int)) : Bool) = true from bne_iff_ne.2 (by omega)) ?_
 refine xe 8 (.tuple #[.slice none 0 0, .int .i64 7]) ?_
 have hk2 : askB kind no l 1 = true := bne_iff_ne.2 (by omega)
 have he : openE kind no l = 7 := by simp [openE, hk1, hk2]
 exact .inl ⟨by rw [he]; decide, by rw [he], hb1⟩
set_option maxRecDepth 100000 in
set_option maxHeartbeats 4000000 in
theorem ref_Open_256 (kind no : Int) (a : Option Addr) (c : Nat) (l : List UInt8) (w : World) (hl256 : l.length = 256) (h : Bys w (.slice a 256 c) l) :
    Calls Tryz.prog 114 #[.slice a 256 c, .int .i64 kind, .int .i64 no] w (OpenP kind no l w) := by
 have hcap := h.cap hl256
 have hk2 : askB kind no l 1 = false := bne_eq_false_iff_eq.2 (by rw [hl256]; rfl)
 refine zin 61 Tryz.func114 ?_
 refine xr 11 (args := #[.int .i64 kind, .int .i64 no]) (ref_known kind no _) fun W1 hb1 => ?_
 refine xi 3 (!(knownB kind no)) (fun hc2 => ?_) (fun hc2 => ?_)
 · have hk1 : askB kind no l 0 = true := hc2
   refine xe 8 (.tuple #[.slice none 0 0, .int .i64 1]) ?_
   have he : openE kind no l = 1 := by simp [openE, hk1]
   exact .inl ⟨by rw [he]; decide, by rw [he], hb1⟩
 have hk1 : askB kind no l 0 = false := hc2
 have hkb : knownB kind no = true := by simpa using hc2
 refine xd 15 .z ?_
 refine xsL (.e [0] 1) (fun _ _ _ _ zo zx zy V => run_sliceLA (k := 252) (b := a) (n := 256) (c := c) (i := 252) (ki := .i64) 1 zo zx zy rfl (by omega) Tryz.underlying22 (by kernel_rfl) V) ?_
 have hB := Bl.next hb1 (below_drew W1)
 refine xcv (.e [] 2) (fun _ _ _ zo zx V hV => run_bstr zo zx ((Bys.cut h hl256 252 256 (by decide) (Nat.le_refl _)).below (Bl.next hB hV)) (drop_take_len (m := 256) hl256 (by decide) (by decide)) Tryz.underlying22 Tryz.underlying5 Tryz.underlying9) ?_
 refine xsH (.e [3] 4) (fun _ _ _ _ zo zx zy V => run_sliceH (k := 252) (b := a) (n := 256) (c := c) (i := 252) (ki := .i64) zo zx zy rfl (by omega) Tryz.underlying22 (by kernel_rfl) V) ?_
 refine xr (.o [6] 5) (args := #[.slice a 252 c]) (ref_SumN a 252 c (l.take 252) _ (by simp; omega) (by decide) ((Bys.take h hl256 252 (by omega)).below hB)) fun W3 hb3 => ?_
 refine xr (.o [] 7) (args := #[.int .i64 kind]) (ref_Salt kind (knownB_all hkb).1 (knownB_all hkb).2.1 _) fun W4 hb4 => ?_
 refine xq (.e [] 8) (congrArg (Value.int .i64) (show (IntKind.i64.wrap (↑(BitVec.ofInt 64 (↑(crcSum (l.take 252)) : Int) ^^^ BitVec.ofInt 64 (↑(saltN kind) : Int)).toNat : Int) : Int) = (↑(sumB l kind) : Int) from i64_xor (crcSum_lt (l.take 252)) (saltN_lt kind))) ?_
 refine yc (.o [] 9) (args := #[.int .i64 (↑(sumB l kind) : Int), .int .i64 4]) .z (ref_BytesN (↑(sumB l kind) : Int) 4 4 _ (Int.natCast_nonneg _) (by have := Nat.xor_lt_two_pow (n := 32) (crcSum_lt (l.take 252)) (saltN_lt kind); unfold sumB; omega) rfl (by decide)) ?_
 rintro _ W5 ⟨_, rfl, hb5, p4, c4, rfl, h4⟩
 have hs5 := (Bl.next (Bl.next hB hb3) hb4).size
 refine ⟨hb5, ?_⟩
 have h4'1 := own_mono h4 hs5
 refine xcv (.e [] 10) (fun _ _ _ zo zx V hV => run_bstr zo zx (bys_of (own_sl (own_below h4'1 hV)) (leB_len _ _)) (leB_len _ _) Tryz.underlying22 Tryz.underlying5 Tryz.underlying9) ?_
 refine xi (.r [11] 2) (!((⟨((l.drop 252).take 4).toArray⟩ : ByteArray).toList == (⟨(leB (↑(sumB l kind) : Int) 4).toArray⟩ : ByteArray).toList)) (fun hc6 => ?_) (fun hc6 => ?_)
 · have hk3 : askB kind no l 2 = true := by rw [← ask_sum hl256, ← str_beq]; exact hc6
   have hB'1 := Bl.next (Bl.next (Bl.next hB hb3) hb4) hb5
   refine xe 8 (.tuple #[.slice none 0 0, .int .i64 4]) ?_
   have he : openE kind no l = 4 := by simp [openE, hk1, hk2, hk3]
   exact .inl ⟨by rw [he]; decide, by rw [he], hB'1⟩
 have hk3 : askB kind no l 2 = false := by rw [← ask_sum hl256, ← str_beq]; exact hc6
 have hB'2 := Bl.next (Bl.next (Bl.next hB hb3) hb4) hb5
 refine xr 5 (args := #[.slice a 256 c, .int .i64 0, .int .i64 4]) (ref_GetN a 256 c 0 4 0 4 l _ hl256 rfl rfl (by decide) (by decide) (by decide) (h.below hB'2)) fun W7 hb7 => ?_
 refine xin 15 (↑(rawN l 0 4) : Int) no (fun hc8 => ?_) (fun hc8 => ?_)
 · have hk4 : askB kind no l 3 = true := bne_iff_ne.2 hc8
   have hB'3 := Bl.next hB'2 hb7
   refine xe 8 (.tuple #[.slice none 0 0, .int .i64 5]) ?_
   have he : openE kind no l = 5 := by simp [openE, hk1, hk2, hk3, hk4]
   exact .inl ⟨by rw [he]; decide, by rw [he], hB'3⟩
 have hk4 : askB kind no l 3 = false := bne_eq_false_iff_eq.2 hc8
 have hB'4 := Bl.next hB'2 hb7
 refine xr 5 (args := #[.slice a 256 c, .int .i64 4, .int .i64 2]) (ref_GetN a 256 c 4 2 4 2 l _ hl256 rfl rfl (by decide) (by decide) (by decide) (h.below hB'4)) fun W9 hb9 => ?_
 refine xin 15 (↑(rawN l 4 2) : Int) kind (fun hc10 => ?_) (fun hc10 => ?_)
 · have hk5 : askB kind no l 4 = true := bne_iff_ne.2 hc10
   have hB'5 := Bl.next hB'4 hb9
   refine xe 8 (.tuple #[.slice none 0 0, .int .i64 6]) ?_
   have he : openE kind no l = 6 := by simp [openE, hk1, hk2, hk3, hk4, hk5]
   exact .inl ⟨by rw [he]; decide, by rw [he], hB'5⟩
 have hk5 : askB kind no l 4 = false := bne_eq_false_iff_eq.2 hc10
 refine xx 6 _ 256 6 1 (BysM.elem h hl256 (k := 6) (by omega)).1 ?_
 have hB'6 := Bl.next hB'4 hb9
 refine xl 0 ((BysM.elem (h.below hB'6) hl256 (k := 6) (by omega)).2) ?_
 refine xg 2 [50, 51] ((↑(l.getD 6 0).toNat : Int) != (0 : Int)) (fun hc11 => ?_) (fun hc11 => ?_)
 · have hc11 := ne_of_bne hc11
   refine xe 16 (.tuple #[.slice none 0 0, .int .i64 7]) ?_
   have hk6 : askB kind no l 5 = true := bne_iff_ne.2 (by have h26 : rawN l 6 2 = (l.getD 6 0).toNat + 256 * (l.getD 7 0).toNat := raw2 l 6; omega)
   have he : openE kind no l = 7 := by simp [openE, hk1, hk2, hk3, hk4, hk5, hk6]
   exact .inl ⟨by rw [he]; decide, by rw [he], hB'6⟩
 have hc11 := eq_of_bne_false hc11
 refine xx 1 _ 256 7 1 (BysM.elem h hl256 (k := 7) (by omega)).1 ?_
 refine xl 0 ((BysM.elem (h.below hB'6) hl256 (k := 7) (by omega)).2) ?_
 refine xin 4 (↑(l.getD 7 0).toNat : Int) (0 : Int) (fun hc12 => ?_) (fun hc12 => ?_)
 · refine xe 8 (.tuple #[.slice none 0 0, .int .i64 7]) ?_
   have hk6 : askB kind no l 5 = true := bne_iff_ne.2 (by have h26 : rawN l 6 2 = (l.getD 6 0).toNat + 256 * (l.getD 7 0).toNat := raw2 l 6; omega)
   have he : openE kind no l = 7 := by simp [openE, hk1, hk2, hk3, hk4, hk5, hk6]
   exact .inl ⟨by rw [he]; decide, by rw [he], hB'6⟩
 refine xb0 4 5 fun b13 W13 n13 => ?_
 have g13 := n13.ge hB'6
 have h4'2 := own_below (own_below h4'1 hb7) hb9
 have r13_h4 := own_ne h4'2 n13
 refine xsB 1 (fun _ _ _ _ _ zo zx zy zz V => run_sliceLHA (k := 8) (h := 252) (b := a) (n := 256) (c := c) (i := 8) (ki := .i64) (j := 252) (kj := .i64) 1 zo zx zy rfl zz rfl (by omega) (by omega) Tryz.underlying22 (by kernel_rfl) V) ?_
 have o13 := own_of_blk (size := 1) (n := 0) n13.blk g13 rfl (by decide)
 have hB'7 := Bl.next hB'6 n13.below
 refine xbi 0 fun _ _ _ _ zJ zQ zo zx zy zK => op_app (m := (252 - 8)) (news := (((l.drop 8).take (252 - 8)).map bv)) (.int .u8 0) 1 1 (244) ((((l.drop 8).take 244).map bv)) zo Tryz.underlying22 (by kernel_rfl) rfl (by decide) zx o13 zy (slN_of ((Bys.cut h hl256 8 252 (by decide) (by decide)).below hB'7) (by simp; omega)) (by simp; omega) (bv_one _) (by unfold maxLen; omega) (by omega) hB'7.size (by rfl) (by rfl) fun px14 cx14 W14 o14 hg14 hb14 => ?_
 refine zK _ _ ?_
 have hB'8 := hB'7.trans hb14
 refine xe 5 (.tuple #[.slice px14 244 cx14, .int .i64 0]) ?_
 have hk6 : askB kind no l 5 = false := by have h26 : rawN l 6 2 = (l.getD 6 0).toNat + 256 * (l.getD 7 0).toNat := raw2 l 6; exact bne_eq_false_iff_eq.2 (by omega)
 exact .inr ⟨by simp [openE, hk1, hk2, hk3, hk4, hk5, hk6], _, _, rfl, hB'8, o14⟩
theorem ref_Open (kind no : Int) (a : Option Addr) (n c : Nat) (l : List UInt8) (w : World) (hn : l.length = n) (h : Bys w (.slice a n c) l) : Calls Tryz.prog 114 #[.slice a n c, .int .i64 kind, .int .i64 no] w (OpenP kind no l w) := by
  by_cases hl : l.length = 256
  · obtain rfl : n = 256 := by omega
    exact ref_Open_256 kind no a c l w hl h
  · subst hn; exact ref_Open_no kind no a c l w hl h
end Go.Proofs.YtinegkldgjhnpaaGreatDoor
