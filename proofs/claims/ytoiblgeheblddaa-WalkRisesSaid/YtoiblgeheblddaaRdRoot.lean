/- value.ReadRoot, whatever the string. -/
import Derived.Test.YtoiblgeheblddaaRdNode
import Derived.Test.YtoiblgeheblddaaPack
import Derived.Test.YtoiblgeheblddaaGw4
import Derived.Laws.IdiomStrings
namespace Go.Proofs.Ytoiblgeheblddaa
open Go.RowKit Go.Extern.Stop Go.Stop Go.Extern
set_option linter.unusedVariables false
attribute [local irreducible] wpList wpAnyH Code.wp Oper.wp

theorem op_strBytes {P : Program} {a : Act} {w : World} {K : Act → World → Prop} {Q : Exit → Act → World → Prop} {o : Oper} {src dst e : TypeId} {x : Operand} (l : List UInt8) (ho : o.op = .convert src dst x) (hx : a.eval x = .string ⟨l.toArray⟩)
    (hs : P.underlying src = some .string) (hd : P.underlying dst = some (.slice e)) (he : P.underlying e = some (.int .u8)) (hl : l.length ≤ 1000000)
    (k : ∀ b c W, Below w.heap.size w W → Bys W (.slice (some ⟨b, 0, none⟩) l.length c) l → K (a.put o.dst (.slice (some ⟨b, 0, none⟩) l.length c)) W) : o.wp P a w K Q := by
  have hr := run_bytes_of_string (P := P) w src dst e ⟨l.toArray⟩ hs hd he
  have hsz : (⟨l.toArray⟩ : ByteArray).size = l.length := by simp [ByteArray.size]
  rw [hsz] at hr
  obtain ⟨W1, hW1⟩ : ∃ W1, W1 = w.drew.alloc (.cells (bytesRow ⟨l.toArray⟩ (grownCap w l.length 0 e)) e ((bytesRow ⟨l.toArray⟩ (grownCap w l.length 0 e)).size, (bytesRow ⟨l.toArray⟩ (grownCap w l.length 0 e)).size + 1)) := ⟨_, rfl⟩
  rw [← hW1] at hr
  have h2 : (execOp a.eval o).run P w = .ok (.value (.slice (some ⟨w.heap.size, 0, none⟩) l.length (grownCap w l.length 0 e))) W1 := by
    simp only [execOp, ho, hx, Sem.run_bind, hr]; rfl
  refine op_val h2 (k _ _ _ (by rw [hW1]; exact (below_drew w).trans (show Below w.drew.heap.size w.drew _ from Bl.box w.drew _)) (.inr ⟨w.heap.size, 0, _, rfl, grownCap_ge w l.length 0 e, grownCap_le_maxLen w l.length 0 e (by unfold maxLen; omega), fun j y hj => ?_⟩))
  have hjl : j < l.length := by have := (List.getElem?_eq_some_iff.1 hj).1; simpa using this
  have hb := bytesRow_at ⟨l.toArray⟩ (grownCap w l.length 0 e) j (by simpa using hjl)
  have hy : y = .int .u8 ((l.toArray[j]'(by simpa using hjl)).toNat : Int) := by
    rw [List.getElem?_map, List.getElem?_eq_getElem hjl] at hj
    simp only [Option.map_some, Option.some.injEq] at hj
    rw [← hj]; rfl
  have hh : W1.heap[w.heap.size]? = some (.cells (bytesRow ⟨l.toArray⟩ (grownCap w l.length 0 e)) e ((bytesRow ⟨l.toArray⟩ (grownCap w l.length 0 e)).size, (bytesRow ⟨l.toArray⟩ (grownCap w l.length 0 e)).size + 1)) := by rw [hW1]; exact heap_alloc_new w.drew _
  rw [hy]
  simp [World.cell?, hh, hb]
/-- a root's number, by the four bytes of a value -/
def rootE (s : List UInt8) : Int := if s.length = 4 then (if 1 ≤ rawN s 0 4 ∧ rawN s 0 4 ≤ 14399 then 0 else 2) else 7
def rootN (s : List UInt8) : Nat := if rootE s = 0 then rawN s 0 4 else 0
theorem loop_len (bs : ByteArray) (i : Nat) (r : List UInt8) (h : i ≤ bs.size) : (ByteArray.toList.loop bs i r).length = r.length + (bs.size - i) := by
  rw [ByteArray.toList.loop]
  split
  · rename_i h2
    rw [loop_len bs (i + 1) _ (by omega)]
    simp; omega
  · simp; omega
termination_by bs.size - i
theorem toList_len (bs : ByteArray) : bs.toList.length = bs.size := by
  unfold ByteArray.toList; rw [loop_len _ _ _ (Nat.zero_le _)]; simp
theorem four_ne (n : Int) : ((⟨(leB n 4).toArray⟩ : ByteArray).toList == (⟨#[]⟩ : ByteArray).toList) = false := by
  cases hq : ((⟨(leB n 4).toArray⟩ : ByteArray).toList == (⟨#[]⟩ : ByteArray).toList) with
  | false => rfl
  | true =>
    have e := congrArg List.length (eq_of_beq hq)
    rw [toList_len, toList_len] at e
    simp [ByteArray.size, leB_len] at e
set_option maxRecDepth 100000 in
set_option maxHeartbeats 1000000 in
theorem value_rootR (w : World) :
    Calls Try.prog 74 #[] w (RetS (fun w' r => ∃ b, r = .slice (some ⟨b, 0, none⟩) 1 1 ∧ w.heap.size ≤ b ∧ Blk w' b [.int .i64 4, .int .i64 1, .int .i64 14399] 148) w) := by
  refine calls_of_wp Try.func74 rfl ?_
  refine g_fr ⟨#[undef, undef, undef], []⟩ (by kernel_rfl) ?_
  refine wp_seq ?_
  refine wp_region_lit ?_
  refine g_pv 1 [(0, .slice none 0 0)] (by kernel_rfl) ?_
  refine wpList_nil ?_
  refine wp_seq ?_
  refine wp_region_lit ?_
  refine g_pv 1 [(1, .agg #[.int .i64 4, .int .i64 1, .int .i64 14399])] (by kernel_rfl) ?_
  refine g_op (by kernel_rfl) (op_buildSlice 148 [.int .i64 4, .int .i64 1, .int .i64 14399] rfl (by kernel_rfl) ?_)
  intro b1 W1 n1
  have g1 := n1.ge (Below.refl w.heap.size _)
  have hB := n1.below
  have k1 := n1.blk
  refine g_pv 1 [(0, .slice (some ⟨b1, 0, none⟩) 1 1)] (by kernel_rfl) ?_
  refine wpList_nil ?_
  refine wp_ret ?_
  exact g_ret (.slice (some ⟨b1, 0, none⟩) 1 1) (by kernel_rfl) (by kernel_rfl) ⟨_, rfl, hB, _, rfl, g1, k1⟩
set_option maxRecDepth 100000 in
set_option maxHeartbeats 1000000 in
theorem value_putR (gl : Nat) (an : Option Addr) (cn : Nat) (n : Int) (w : World) (hl : Blk w gl [.int .i64 4, .int .i64 1, .int .i64 14399] 148) (hn : Sl w (.slice an 1 cn) 1 [.int .i64 n]) (h1 : 1 ≤ n) (h2 : n ≤ 14399) :
    Calls Try.prog 77 #[.slice (some ⟨gl, 0, none⟩) 1 1, .slice an 1 cn] w (Ret (.string ⟨(leB n 4).toArray⟩) w) := by
  have hlo := h1
  have hhi := h2
  clear h2
  refine calls_of_wp Try.func77 rfl ?_
  refine g_fr ⟨#[.slice (some ⟨gl, 0, none⟩) 1 1, .slice an 1 cn, undef, undef, undef, undef, undef, undef, undef, undef, undef, undef, undef, undef, undef, undef, undef, undef, undef, undef, undef, undef, undef, undef, undef, undef, undef, undef, undef, undef, undef, undef, undef, undef, undef, undef, undef, undef, undef, undef, undef, undef, undef, undef, undef, undef, undef, undef, undef, undef, undef], []⟩ (by kernel_rfl) ?_
  refine wp_seq ?_
  refine wp_region_lit ?_
  refine g_pv 1 [(4, .string ⟨#[]⟩)] (by kernel_rfl) ?_
  refine wpList_nil ?_
  refine wp_seq ?_
  refine wp_region_lit ?_
  refine g_pv 1 [(5, .slice none 0 0)] (by kernel_rfl) ?_
  refine wpList_nil ?_
  refine wp_seq ?_
  refine wp_seq ?_
  refine wp_region_lit ?_
  refine g_pv 3 [(10, .slice (some ⟨gl, 0, none⟩) 1 1), (11, .int .i64 1), (12, .int .i64 0)] (by kernel_rfl) ?_
  refine wpList_nil ?_
  refine wp_block ?_
  refine wp_loop_rounds 2 ?_
  refine g_round ?_
  refine wp_seq ?_
  refine wp_region_lit ?_
  refine g_pv 1 [(13, .bool true)] (by kernel_rfl) ?_
  refine wpList_nil ?_
  refine wp_seq ?_
  refine wp_cond_true (by kernel_rfl) ?_
  refine wp_skip ?_
  refine wp_seq ?_
  refine wp_block ?_
  refine wp_seq ?_
  refine wp_region_lit ?_
  refine g_pv 2 [(14, .int .i64 0), (15, .pointer (some ⟨gl, 0, none⟩))] (by kernel_rfl) ?_
  refine g_op (by kernel_rfl) (op_loadv (b := gl) (off := 0) [.int .i64 4, .int .i64 1, .int .i64 14399] _ rfl (by kernel_rfl) Try.underlying148 rfl (by kernel_rfl) hl.whole ?_)
  refine g_op (by kernel_rfl) (op_alloc [.int .i64 0, .int .i64 0, .int .i64 0] rfl (by kernel_rfl) ?_)
  intro b1 W1 n1
  have d1_gl := n1.ne hl
  have g1 := n1.ge (Below.refl w.heap.size _)
  have hB := n1.below
  replace hl := hl.below n1.below
  have k1 := n1.blk
  refine g_pv 1 [(6, .int .i64 0)] (by kernel_rfl) ?_
  refine g_op (by kernel_rfl) (op_storev (b := b1) (off := 0) [.int .i64 4, .int .i64 1, .int .i64 14399] rfl (by kernel_rfl) (by kernel_rfl) (by kernel_rfl) (by first | decide | simp [Value.oneCell']) k1 (by first | decide | simp) ?_)
  intro W2 u2 k2
  change Blk _ _ [.int .i64 4, .int .i64 1, .int .i64 14399] _ at k2
  replace hB := u2.below hB g1
  replace hl := u2.blk hl (Ne.symm (Ne.symm d1_gl))
  refine wpList_nil ?_
  refine wp_seq ?_
  refine wp_seq ?_
  replace hB := Bl.next hB (below_drew W2)
  replace hl := hl.below (below_drew W2)
  replace k2 := k2.below (below_drew W2)
  refine h_reg (Below (W2.drew).heap.size (W2.drew)) 16 rfl #[false, false, false, false, false, false, false, false, false, false, false, false, false, false, false, false] rfl (by kernel_rfl) (Below.refl _ _) ?_
  intro hS3
  have hBd5 := hB
  have kd5_gl := hl
  have kd5_b1 := k2
  refine h_pv [0, 1] 14 rfl #[true, true, false, false, false, false, false, false, false, false, false, false, false, false, false, false] [(17, .slice an 1 cn), (18, .int .i64 0)] (by kernel_rfl) (fun _ _ _ _ _ h => h) (by kernel_rfl) hS3 ?_
  refine h_val 2 13 rfl (.pointer (some (elemAddr an (0 * 1)))) rfl (by kernel_rfl) (by kernel_rfl) (by kernel_rfl) (fun _ _ _ _ _ h => h) (by kernel_rfl) (fun V hV => run_indexA (size := 1) (k := 0) (b := an) (n := 1) (c := cn) (i := 0) (ki := .i64) rfl (by kernel_rfl) (by kernel_rfl) rfl (by omega) (Ints.elem (l := [n]) hn (k := 0) (by simp)).1 Try.underlying27 (by kernel_rfl) V) hS3 ?_
  refine h_load 3 12 rfl (elemAddr an (0 * 1)) (.int .i64 n) rfl (by kernel_rfl) (by kernel_rfl) (by kernel_rfl) (fun _ _ _ _ _ h => h) (by kernel_rfl) rfl (by kernel_rfl) (by kernel_rfl) (fun V hV => (Ints.elem (l := [n]) ((hn.below hBd5).below hV) (k := 0) (by simp)).2) hS3 ?_
  refine h_pv [4] 11 rfl #[true, true, true, true, true, false, false, false, false, false, false, false, false, false, false, false] [(21, .pointer (some ⟨b1, 1, none⟩))] (by kernel_rfl) (fun _ _ _ _ _ h => h) (by kernel_rfl) hS3 ?_
  refine h_load 5 10 rfl ⟨b1, 1, none⟩ (.int .i64 1) rfl (by kernel_rfl) (by kernel_rfl) (by kernel_rfl) (fun _ _ _ _ _ h => h) (by kernel_rfl) rfl (by kernel_rfl) (by kernel_rfl) (fun V hV => ((k2.below hV).cell (i := 1) rfl)) hS3 ?_
  refine h_pv [6, 7] 8 rfl #[true, true, true, true, true, true, true, true, false, false, false, false, false, false, false, false] [(23, .bool (decide (n < (1 : Int)))), (24, .bool (decide (n < (1 : Int))))] (by kernel_rfl) (fun _ _ _ _ _ h => h) (by kernel_rfl) hS3 ?_
  have hc6 : (decide (n < (1 : Int)) : Bool) = false := decide_eq_false (by omega)
  refine h_b [23, 24] _ _ hc6 (by kernel_rfl) ?_
  refine h_pv [8, 9] 6 rfl #[true, true, true, true, true, true, true, true, true, true, false, false, false, false, false, false] [(25, .slice an 1 cn), (26, .int .i64 0)] (by kernel_rfl) (fun _ _ _ _ _ h => h) (by kernel_rfl) hS3 ?_
  refine h_val 10 5 rfl (.pointer (some (elemAddr an (0 * 1)))) rfl (by kernel_rfl) (by kernel_rfl) (by kernel_rfl) (fun _ _ _ _ _ h => h) (by kernel_rfl) (fun V hV => run_indexA (size := 1) (k := 0) (b := an) (n := 1) (c := cn) (i := 0) (ki := .i64) rfl (by kernel_rfl) (by kernel_rfl) rfl (by omega) (Ints.elem (l := [n]) hn (k := 0) (by simp)).1 Try.underlying27 (by kernel_rfl) V) hS3 ?_
  refine h_load 11 4 rfl (elemAddr an (0 * 1)) (.int .i64 n) rfl (by kernel_rfl) (by kernel_rfl) (by kernel_rfl) (fun _ _ _ _ _ h => h) (by kernel_rfl) rfl (by kernel_rfl) (by kernel_rfl) (fun V hV => (Ints.elem (l := [n]) ((hn.below hBd5).below hV) (k := 0) (by simp)).2) hS3 ?_
  refine h_pv [12] 3 rfl #[true, true, true, true, true, true, true, true, true, true, true, true, true, false, false, false] [(29, .pointer (some ⟨b1, 2, none⟩))] (by kernel_rfl) (fun _ _ _ _ _ h => h) (by kernel_rfl) hS3 ?_
  refine h_load 13 2 rfl ⟨b1, 2, none⟩ (.int .i64 14399) rfl (by kernel_rfl) (by kernel_rfl) (by kernel_rfl) (fun _ _ _ _ _ h => h) (by kernel_rfl) rfl (by kernel_rfl) (by kernel_rfl) (fun V hV => ((k2.below hV).cell (i := 2) rfl)) hS3 ?_
  refine h_pv [14, 15] 0 rfl #[true, true, true, true, true, true, true, true, true, true, true, true, true, true, true, true] [(31, .bool (decide (n > (14399 : Int)))), (32, .bool (decide (n > (14399 : Int))))] (by kernel_rfl) (fun _ _ _ _ _ h => h) (by kernel_rfl) hS3 ?_
  refine h_done _ (by kernel_rfl) ?_
  refine wp_cond_split (t := decide (n > (14399 : Int))) (by kernel_rfl) (fun hh => absurd (hh.symm.trans (show (decide (n > (14399 : Int)) : Bool) = false from decide_eq_false (by omega))) (by decide)) (fun _ => ?_)
  refine wp_skip ?_
  refine wp_seq ?_
  replace hB := Bl.next hB (below_drew W2.drew)
  replace hl := hl.below (below_drew W2.drew)
  replace k2 := k2.below (below_drew W2.drew)
  refine h_reg (Below (W2.drew.drew).heap.size (W2.drew.drew)) 14 rfl #[false, false, false, false, false, false, false, false, false, false, false, false, false, false] rfl (by kernel_rfl) (Below.refl _ _) ?_
  intro hS8
  have hBd10 := hB
  have kd10_gl := hl
  have kd10_b1 := k2
  refine h_pv [0] 13 rfl #[true, false, false, false, false, false, false, false, false, false, false, false, false, false] [(34, .pointer (some ⟨b1, 0, none⟩))] (by kernel_rfl) (fun _ _ _ _ _ h => h) (by kernel_rfl) hS8 ?_
  refine h_load 1 12 rfl ⟨b1, 0, none⟩ (.int .i64 4) rfl (by kernel_rfl) (by kernel_rfl) (by kernel_rfl) (fun _ _ _ _ _ h => h) (by kernel_rfl) rfl (by kernel_rfl) (by kernel_rfl) (fun V hV => ((k2.below hV).cell (i := 0) rfl)) hS8 ?_
  refine h_pv [2, 3] 10 rfl #[true, true, true, true, false, false, false, false, false, false, false, false, false, false] [(36, .slice an 1 cn), (37, .int .i64 0)] (by kernel_rfl) (fun _ _ _ _ _ h => h) (by kernel_rfl) hS8 ?_
  refine h_val 4 9 rfl (.pointer (some (elemAddr an (0 * 1)))) rfl (by kernel_rfl) (by kernel_rfl) (by kernel_rfl) (fun _ _ _ _ _ h => h) (by kernel_rfl) (fun V hV => run_indexA (size := 1) (k := 0) (b := an) (n := 1) (c := cn) (i := 0) (ki := .i64) rfl (by kernel_rfl) (by kernel_rfl) rfl (by omega) (Ints.elem (l := [n]) hn (k := 0) (by simp)).1 Try.underlying27 (by kernel_rfl) V) hS8 ?_
  refine h_load 5 8 rfl (elemAddr an (0 * 1)) (.int .i64 n) rfl (by kernel_rfl) (by kernel_rfl) (by kernel_rfl) (fun _ _ _ _ _ h => h) (by kernel_rfl) rfl (by kernel_rfl) (by kernel_rfl) (fun V hV => (Ints.elem (l := [n]) ((hn.below hBd10).below hV) (k := 0) (by simp)).2) hS8 ?_
  refine h_pv [6] 7 rfl #[true, true, true, true, true, true, true, false, false, false, false, false, false, false] [(40, .agg #[.int .i64 4, .int .i64 n])] (by kernel_rfl) (fun _ _ _ _ _ h => h) (by kernel_rfl) hS8 ?_
  refine h_one 7 6 rfl (by kernel_rfl) rfl (by kernel_rfl) (op_buildSlice 72 [.int .i64 4, .int .i64 n] rfl (by kernel_rfl) ?_)
  intro b11 W11 n11
  have d11_gl := n11.ne hl
  have d11_b1 := n11.ne k2
  have g11 := n11.ge hB
  have gd_b11 : (W2.drew.drew).heap.size ≤ b11 := by have := hS8.size; have := n11.at_; omega
  replace hB := Bl.next hB n11.below
  replace hl := hl.below n11.below
  replace k2 := k2.below n11.below
  have k11 := n11.blk
  have hS12 : Below (W2.drew.drew).heap.size (W2.drew.drew) (W11) := Bl.next hS8 n11.below
  refine ⟨hS12, ?_⟩
  refine h_str (Below (W11).heap.size (W11)) (fun V hV => Bl.next hS12 hV) ?_
  have hS13 : Below (W11).heap.size (W11) (W11) := Below.refl _ _
  have hs14 : w.heap.size ≤ (W11).heap.size := hB.size
  refine h_one 8 5 rfl (by kernel_rfl) rfl (by kernel_rfl) (op_call (lb := #[]) 23 #[.slice (some ⟨b11, 0, none⟩) 1 1] rfl (by kernel_rfl) (fun _ _ => by kernel_rfl) (by kernel_rfl) ((Pack_4 b11 n (by omega) (by omega) _ k11).mono ?_))
  rintro e W14 ⟨_, rfl, hb14, p2, c2, rfl, h2⟩
  refine ⟨_, rfl, ?_⟩
  replace hB := Bl.next hB hb14
  replace hl := hl.below hb14
  replace k2 := k2.below hb14
  replace k11 := k11.below hb14
  replace h2 := own_mono h2 hs14
  have hS15 : Below (W11).heap.size (W11) (W14) := Bl.next hS13 hb14
  refine ⟨hS15, ?_⟩
  refine h_str (Below (W14).heap.size (W14)) (fun V hV => Bl.next hS15 hV) ?_
  have hS16 : Below (W14).heap.size (W14) (W14) := Below.refl _ _
  refine h_pv [9, 10, 11, 12, 13] 0 rfl #[true, true, true, true, true, true, true, true, true, true, true, true, true, true] [(33, .tuple #[.slice p2 4 c2, .int .i64 0]), (43, .slice p2 4 c2), (44, .int .i64 0), (8, .slice p2 4 c2), (9, .int .i64 0)] (by kernel_rfl) (fun _ _ _ _ _ h => h) (by kernel_rfl) hS16 ?_
  refine h_done _ (by kernel_rfl) ?_
  refine wp_region_lit ?_
  refine g_pv 2 [(45, .slice none 0 0), (46, .slice p2 4 c2)] (by kernel_rfl) ?_
  have o17 := World.ownsRow_nil W14 w.heap.size 5 1
  refine g_op (by kernel_rfl) (op_app (e := 5) (n := 0) (xs := []) (m := 4) (news := (leB n 4).map bv) (.int .u8 0) 1 1 (4) ((leB n 4).map bv) rfl Try.underlying22 (by kernel_rfl) rfl (by decide) (by kernel_rfl) o17 (by kernel_rfl) (own_sl h2) (by simp [leB_len]) (bv_one _) (by unfold maxLen; omega) (by omega) hB.size (by rfl) (by simp) ?_)
  intro p18 c18 W18 o18 hg18 hb18
  replace hl := hl.grown hg18 o17 (by decide)
  replace k2 := k2.grown hg18 o17 (by decide)
  replace k11 := k11.grown hg18 o17 (by decide)
  replace hB := hB.trans hb18
  refine g_pv 1 [(5, .slice p18 4 c18)] (by kernel_rfl) ?_
  refine wpList_nil ?_
  refine wp_region_lit ?_
  refine g_pv 2 [(48, .int .i64 1), (12, .int .i64 1)] (by kernel_rfl) ?_
  refine wpList_nil ?_
  refine g_round ?_
  refine wp_seq ?_
  refine wp_region_lit ?_
  refine g_pv 1 [(13, .bool false)] (by kernel_rfl) ?_
  refine wpList_nil ?_
  refine wp_seq ?_
  refine wp_cond_false (by kernel_rfl) ?_
  refine wp_exit ?_
  refine then_exit ?_
  refine then_exit ?_
  refine inBlock_hit ?_
  refine wp_seq ?_
  refine wp_region_lit ?_
  refine g_pv 1 [(49, .slice p18 4 c18)] (by kernel_rfl) ?_
  refine g_op (by kernel_rfl) (op_val (run_bstr rfl (by kernel_rfl) (bys_of (own_sl o18) (leB_len _ _)) (leB_len _ _) Try.underlying22 Try.underlying5 Try.underlying9) ?_)
  refine g_pv 1 [(4, .string ⟨(leB n 4).toArray⟩)] (by kernel_rfl) ?_
  refine wpList_nil ?_
  refine wp_ret ?_
  exact g_ret (.string ⟨(leB n 4).toArray⟩) (by kernel_rfl) (by kernel_rfl) ⟨rfl, hB⟩
set_option maxRecDepth 100000 in
set_option maxHeartbeats 1000000 in
theorem value_putX (gl : Nat) (an : Option Addr) (cn : Nat) (n : Int) (w : World) (hl : Blk w gl [.int .i64 4, .int .i64 1, .int .i64 14399] 148) (hn : Sl w (.slice an 1 cn) 1 [.int .i64 n]) (h : ¬ (1 ≤ n ∧ n ≤ 14399)) :
    Calls Try.prog 77 #[.slice (some ⟨gl, 0, none⟩) 1 1, .slice an 1 cn] w (Ret (.string ⟨#[]⟩) w) := by
  refine calls_of_wp Try.func77 rfl ?_
  refine g_fr ⟨#[.slice (some ⟨gl, 0, none⟩) 1 1, .slice an 1 cn, undef, undef, undef, undef, undef, undef, undef, undef, undef, undef, undef, undef, undef, undef, undef, undef, undef, undef, undef, undef, undef, undef, undef, undef, undef, undef, undef, undef, undef, undef, undef, undef, undef, undef, undef, undef, undef, undef, undef, undef, undef, undef, undef, undef, undef, undef, undef, undef, undef], []⟩ (by kernel_rfl) ?_
  refine wp_seq ?_
  refine wp_region_lit ?_
  refine g_pv 1 [(4, .string ⟨#[]⟩)] (by kernel_rfl) ?_
  refine wpList_nil ?_
  refine wp_seq ?_
  refine wp_region_lit ?_
  refine g_pv 1 [(5, .slice none 0 0)] (by kernel_rfl) ?_
  refine wpList_nil ?_
  refine wp_seq ?_
  refine wp_seq ?_
  refine wp_region_lit ?_
  refine g_pv 3 [(10, .slice (some ⟨gl, 0, none⟩) 1 1), (11, .int .i64 1), (12, .int .i64 0)] (by kernel_rfl) ?_
  refine wpList_nil ?_
  refine wp_block ?_
  refine wp_loop_rounds 2 ?_
  refine g_round ?_
  refine wp_seq ?_
  refine wp_region_lit ?_
  refine g_pv 1 [(13, .bool true)] (by kernel_rfl) ?_
  refine wpList_nil ?_
  refine wp_seq ?_
  refine wp_cond_true (by kernel_rfl) ?_
  refine wp_skip ?_
  refine wp_seq ?_
  refine wp_block ?_
  refine wp_seq ?_
  refine wp_region_lit ?_
  refine g_pv 2 [(14, .int .i64 0), (15, .pointer (some ⟨gl, 0, none⟩))] (by kernel_rfl) ?_
  refine g_op (by kernel_rfl) (op_loadv (b := gl) (off := 0) [.int .i64 4, .int .i64 1, .int .i64 14399] _ rfl (by kernel_rfl) Try.underlying148 rfl (by kernel_rfl) hl.whole ?_)
  refine g_op (by kernel_rfl) (op_alloc [.int .i64 0, .int .i64 0, .int .i64 0] rfl (by kernel_rfl) ?_)
  intro b1 W1 n1
  have d1_gl := n1.ne hl
  have g1 := n1.ge (Below.refl w.heap.size _)
  have hB := n1.below
  replace hl := hl.below n1.below
  have k1 := n1.blk
  refine g_pv 1 [(6, .int .i64 0)] (by kernel_rfl) ?_
  refine g_op (by kernel_rfl) (op_storev (b := b1) (off := 0) [.int .i64 4, .int .i64 1, .int .i64 14399] rfl (by kernel_rfl) (by kernel_rfl) (by kernel_rfl) (by first | decide | simp [Value.oneCell']) k1 (by first | decide | simp) ?_)
  intro W2 u2 k2
  change Blk _ _ [.int .i64 4, .int .i64 1, .int .i64 14399] _ at k2
  replace hB := u2.below hB g1
  replace hl := u2.blk hl (Ne.symm (Ne.symm d1_gl))
  refine wpList_nil ?_
  refine wp_seq ?_
  refine wp_seq ?_
  replace hB := Bl.next hB (below_drew W2)
  replace hl := hl.below (below_drew W2)
  replace k2 := k2.below (below_drew W2)
  refine h_reg (Below (W2.drew).heap.size (W2.drew)) 16 rfl #[false, false, false, false, false, false, false, false, false, false, false, false, false, false, false, false] rfl (by kernel_rfl) (Below.refl _ _) ?_
  intro hS3
  have hBd5 := hB
  have kd5_gl := hl
  have kd5_b1 := k2
  refine h_pv [0, 1] 14 rfl #[true, true, false, false, false, false, false, false, false, false, false, false, false, false, false, false] [(17, .slice an 1 cn), (18, .int .i64 0)] (by kernel_rfl) (fun _ _ _ _ _ h => h) (by kernel_rfl) hS3 ?_
  refine h_val 2 13 rfl (.pointer (some (elemAddr an (0 * 1)))) rfl (by kernel_rfl) (by kernel_rfl) (by kernel_rfl) (fun _ _ _ _ _ h => h) (by kernel_rfl) (fun V hV => run_indexA (size := 1) (k := 0) (b := an) (n := 1) (c := cn) (i := 0) (ki := .i64) rfl (by kernel_rfl) (by kernel_rfl) rfl (by omega) (Ints.elem (l := [n]) hn (k := 0) (by simp)).1 Try.underlying27 (by kernel_rfl) V) hS3 ?_
  refine h_load 3 12 rfl (elemAddr an (0 * 1)) (.int .i64 n) rfl (by kernel_rfl) (by kernel_rfl) (by kernel_rfl) (fun _ _ _ _ _ h => h) (by kernel_rfl) rfl (by kernel_rfl) (by kernel_rfl) (fun V hV => (Ints.elem (l := [n]) ((hn.below hBd5).below hV) (k := 0) (by simp)).2) hS3 ?_
  refine h_pv [4] 11 rfl #[true, true, true, true, true, false, false, false, false, false, false, false, false, false, false, false] [(21, .pointer (some ⟨b1, 1, none⟩))] (by kernel_rfl) (fun _ _ _ _ _ h => h) (by kernel_rfl) hS3 ?_
  refine h_load 5 10 rfl ⟨b1, 1, none⟩ (.int .i64 1) rfl (by kernel_rfl) (by kernel_rfl) (by kernel_rfl) (fun _ _ _ _ _ h => h) (by kernel_rfl) rfl (by kernel_rfl) (by kernel_rfl) (fun V hV => ((k2.below hV).cell (i := 1) rfl)) hS3 ?_
  refine h_pv [6, 7] 8 rfl #[true, true, true, true, true, true, true, true, false, false, false, false, false, false, false, false] [(23, .bool (decide (n < (1 : Int)))), (24, .bool (decide (n < (1 : Int))))] (by kernel_rfl) (fun _ _ _ _ _ h => h) (by kernel_rfl) hS3 ?_
  rcases Bool.eq_false_or_eq_true (decide (n < (1 : Int))) with hc6 | hc6
  · refine h_b [23, 24] _ _ hc6 (by kernel_rfl) ?_
    have hc6 := of_decide_eq_true hc6
    refine h_pv [8, 9, 10, 11, 12, 13, 14, 15] 0 rfl #[true, true, true, true, true, true, true, true, true, true, true, true, true, true, true, true] [(25, undef), (26, undef), (27, undef), (28, undef), (29, undef), (30, undef), (31, undef), (32, .bool true)] (by kernel_rfl) (fun _ _ _ _ _ h => h) (by kernel_rfl) hS3 ?_
    refine h_done _ (by kernel_rfl) ?_
    refine wp_cond_true (by kernel_rfl) ?_
    refine wp_seq ?_
    refine wp_region_lit ?_
    refine g_pv 1 [(4, .string ⟨#[]⟩)] (by kernel_rfl) ?_
    refine wpList_nil ?_
    refine wp_ret (then_ret (inBlock_ret (then_ret (then_ret (inBlock_ret (then_ret ?_))))))
    exact g_ret (.string ⟨#[]⟩) (by kernel_rfl) (by kernel_rfl) ⟨rfl, hB⟩
  · refine h_b [23, 24] _ _ hc6 (by kernel_rfl) ?_
    have hc6 := of_decide_eq_false hc6
    refine h_pv [8, 9] 6 rfl #[true, true, true, true, true, true, true, true, true, true, false, false, false, false, false, false] [(25, .slice an 1 cn), (26, .int .i64 0)] (by kernel_rfl) (fun _ _ _ _ _ h => h) (by kernel_rfl) hS3 ?_
    refine h_val 10 5 rfl (.pointer (some (elemAddr an (0 * 1)))) rfl (by kernel_rfl) (by kernel_rfl) (by kernel_rfl) (fun _ _ _ _ _ h => h) (by kernel_rfl) (fun V hV => run_indexA (size := 1) (k := 0) (b := an) (n := 1) (c := cn) (i := 0) (ki := .i64) rfl (by kernel_rfl) (by kernel_rfl) rfl (by omega) (Ints.elem (l := [n]) hn (k := 0) (by simp)).1 Try.underlying27 (by kernel_rfl) V) hS3 ?_
    refine h_load 11 4 rfl (elemAddr an (0 * 1)) (.int .i64 n) rfl (by kernel_rfl) (by kernel_rfl) (by kernel_rfl) (fun _ _ _ _ _ h => h) (by kernel_rfl) rfl (by kernel_rfl) (by kernel_rfl) (fun V hV => (Ints.elem (l := [n]) ((hn.below hBd5).below hV) (k := 0) (by simp)).2) hS3 ?_
    refine h_pv [12] 3 rfl #[true, true, true, true, true, true, true, true, true, true, true, true, true, false, false, false] [(29, .pointer (some ⟨b1, 2, none⟩))] (by kernel_rfl) (fun _ _ _ _ _ h => h) (by kernel_rfl) hS3 ?_
    refine h_load 13 2 rfl ⟨b1, 2, none⟩ (.int .i64 14399) rfl (by kernel_rfl) (by kernel_rfl) (by kernel_rfl) (fun _ _ _ _ _ h => h) (by kernel_rfl) rfl (by kernel_rfl) (by kernel_rfl) (fun V hV => ((k2.below hV).cell (i := 2) rfl)) hS3 ?_
    refine h_pv [14, 15] 0 rfl #[true, true, true, true, true, true, true, true, true, true, true, true, true, true, true, true] [(31, .bool (decide (n > (14399 : Int)))), (32, .bool (decide (n > (14399 : Int))))] (by kernel_rfl) (fun _ _ _ _ _ h => h) (by kernel_rfl) hS3 ?_
    refine h_done _ (by kernel_rfl) ?_
    refine wp_cond_split (t := decide (n > (14399 : Int))) (by kernel_rfl) (fun _ => ?_) (fun hh => absurd (hh.symm.trans (show (decide (n > (14399 : Int)) : Bool) = true from decide_eq_true (by omega))) (by decide))
    refine wp_seq ?_
    refine wp_region_lit ?_
    refine g_pv 1 [(4, .string ⟨#[]⟩)] (by kernel_rfl) ?_
    refine wpList_nil ?_
    refine wp_ret (then_ret (inBlock_ret (then_ret (then_ret (inBlock_ret (then_ret ?_))))))
    exact g_ret (.string ⟨#[]⟩) (by kernel_rfl) (by kernel_rfl) ⟨rfl, hB⟩
set_option maxRecDepth 100000 in
set_option maxHeartbeats 1000000 in
theorem value_read_len (gl : Nat) (s : List UInt8) (w : World) (hl : Blk w gl [.int .i64 4, .int .i64 1, .int .i64 14399] 148) (hs : s.length ≤ 1000) (h4 : s.length ≠ 4) :
    Calls Try.prog 73 #[.slice (some ⟨gl, 0, none⟩) 1 1, .string ⟨s.toArray⟩] w (RetS (fun w' r => ∃ p c, r = .tuple #[.slice p 1 c, .int .i64 7] ∧ w'.ownsRow w.heap.size 3 1 (.slice p 1 c) 1 [.int .i64 0]) w) := by
  refine calls_of_wp Try.func73 rfl ?_
  refine g_fr ⟨#[.slice (some ⟨gl, 0, none⟩) 1 1, .string ⟨s.toArray⟩, undef, undef, undef, undef, undef, undef, undef, undef, undef, undef, undef, undef, undef, undef, undef, undef, undef, undef, undef, undef, undef, undef, undef, undef, undef, undef, undef, undef, undef, undef, undef, undef, undef, undef, undef, undef, undef, undef, undef, undef, undef, undef, undef, undef, undef, undef, undef, undef, undef, undef, undef, undef], []⟩ (by kernel_rfl) ?_
  refine wp_seq ?_
  refine wp_region_lit ?_
  refine g_pv 2 [(4, .slice none 0 0), (5, .int .i64 0)] (by kernel_rfl) ?_
  refine wpList_nil ?_
  refine wp_seq ?_
  refine wp_region_lit ?_
  refine g_pv 1 [(6, .slice none 0 0)] (by kernel_rfl) ?_
  refine wpList_nil ?_
  refine wp_seq ?_
  refine wp_region_lit ?_
  refine g_pv 1 [(7, .int .i64 0)] (by kernel_rfl) ?_
  refine wpList_nil ?_
  refine wp_seq ?_
  refine wp_seq ?_
  refine wp_region_lit ?_
  refine g_pv 3 [(12, .slice (some ⟨gl, 0, none⟩) 1 1), (13, .int .i64 1), (14, .int .i64 0)] (by kernel_rfl) ?_
  refine wpList_nil ?_
  refine wp_block ?_
  refine wp_loop_rounds 2 ?_
  refine g_round ?_
  refine wp_seq ?_
  refine wp_region_lit ?_
  refine g_pv 1 [(15, .bool true)] (by kernel_rfl) ?_
  refine wpList_nil ?_
  refine wp_seq ?_
  refine wp_cond_true (by kernel_rfl) ?_
  refine wp_skip ?_
  refine wp_seq ?_
  refine wp_block ?_
  refine wp_seq ?_
  refine wp_region_lit ?_
  refine g_pv 1 [(16, .pointer (some ⟨gl, 0, none⟩))] (by kernel_rfl) ?_
  refine g_op (by kernel_rfl) (op_loadv (b := gl) (off := 0) [.int .i64 4, .int .i64 1, .int .i64 14399] _ rfl (by kernel_rfl) Try.underlying148 rfl (by kernel_rfl) hl.whole ?_)
  refine g_op (by kernel_rfl) (op_alloc [.int .i64 0, .int .i64 0, .int .i64 0] rfl (by kernel_rfl) ?_)
  intro b1 W1 n1
  have d1_gl := n1.ne hl
  have g1 := n1.ge (Below.refl w.heap.size _)
  have hB := n1.below
  replace hl := hl.below n1.below
  have k1 := n1.blk
  refine g_op (by kernel_rfl) (op_storev (b := b1) (off := 0) [.int .i64 4, .int .i64 1, .int .i64 14399] rfl (by kernel_rfl) (by kernel_rfl) (by kernel_rfl) (by first | decide | simp [Value.oneCell']) k1 (by first | decide | simp) ?_)
  intro W2 u2 k2
  change Blk _ _ [.int .i64 4, .int .i64 1, .int .i64 14399] _ at k2
  replace hB := u2.below hB g1
  replace hl := u2.blk hl (Ne.symm (Ne.symm d1_gl))
  refine wpList_nil ?_
  refine wp_seq ?_
  refine wp_region_lit ?_
  refine g_pv 2 [(18, .slice none 0 0), (19, .pointer (some ⟨b1, 0, none⟩))] (by kernel_rfl) ?_
  refine g_op (by kernel_rfl) (op_load ⟨b1, 0, none⟩ (.int .i64 4) rfl (by kernel_rfl) (by kernel_rfl) (k2.cell (i := 0) rfl) ?_)
  refine g_op (by kernel_rfl) (op_buildSlice 3 [.int .i64 4] rfl (by kernel_rfl) ?_)
  intro b3 W3 n3
  have d3_gl := n3.ne hl
  have d3_b1 := n3.ne k2
  have g3 := n3.ge hB
  replace hB := Bl.next hB n3.below
  replace hl := hl.below n3.below
  replace k2 := k2.below n3.below
  have k3 := n3.blk
  have o4 := World.ownsRow_nil W3 w.heap.size 3 1
  refine g_op (by kernel_rfl) (op_app (e := 3) (n := 0) (xs := []) (m := 1) (news := [.int .i64 4]) (.int .i64 0) 1 8 (1) ([Value.int .i64 4]) rfl Try.underlying27 (by kernel_rfl) rfl (by decide) (by kernel_rfl) o4 (by kernel_rfl) (k3.sl 1 1 (by decide) (by decide)) rfl (by simp [Value.oneCell']) (by unfold maxLen; omega) (by omega) hB.size (by rfl) (by rfl) ?_)
  intro p5 c5 W5 o5 hg5 hb5
  replace hl := hl.grown hg5 o4 (by decide)
  replace k2 := k2.grown hg5 o4 (by decide)
  replace hB := hB.trans hb5
  refine g_pv 1 [(6, .slice p5 1 c5)] (by kernel_rfl) ?_
  refine wpList_nil ?_
  refine wp_region_lit ?_
  refine g_pv 2 [(23, .int .i64 0), (24, .pointer (some ⟨b1, 0, none⟩))] (by kernel_rfl) ?_
  refine g_op (by kernel_rfl) (op_load ⟨b1, 0, none⟩ (.int .i64 4) rfl (by kernel_rfl) (by kernel_rfl) (k2.cell (i := 0) rfl) ?_)
  refine g_pv 2 [(26, .int .i64 4), (7, .int .i64 4)] (by kernel_rfl) ?_
  refine wpList_nil ?_
  refine wp_region_lit ?_
  refine g_pv 2 [(27, .int .i64 1), (14, .int .i64 1)] (by kernel_rfl) ?_
  refine wpList_nil ?_
  refine g_round ?_
  refine wp_seq ?_
  refine wp_region_lit ?_
  refine g_pv 1 [(15, .bool false)] (by kernel_rfl) ?_
  refine wpList_nil ?_
  refine wp_seq ?_
  refine wp_cond_false (by kernel_rfl) ?_
  refine wp_exit ?_
  refine then_exit ?_
  refine then_exit ?_
  refine inBlock_hit ?_
  refine wp_seq ?_
  refine wp_seq ?_
  refine wp_region_lit ?_
  refine g_pv 4 [(28, .string ⟨s.toArray⟩), (29, .int .i64 (↑s.length : Int)), (30, .int .i64 4), (31, .bool ((↑s.length : Int) != (4 : Int)))] (by kernel_rfl) ?_
  refine wpList_nil ?_
  refine wp_cond_split (t := ((↑s.length : Int) != (4 : Int))) (by kernel_rfl) (fun _ => ?_) (fun hh => absurd (hh.symm.trans (show (((↑s.length : Int) != (4 : Int)) : Bool) = true from bne_iff_ne.2 (by omega))) (by decide))
  refine wp_seq ?_
  refine wp_region_lit ?_
  refine g_pv 2 [(32, .slice (some ⟨gl, 0, none⟩) 1 1), (33, .int .i64 1)] (by kernel_rfl) ?_
  refine g_op (by kernel_rfl) (op_make 1 (.int .i64 0) 1 8 [Value.int .i64 0] rfl (by kernel_rfl) (by kernel_rfl) Try.underlying27 (by kernel_rfl) rfl (by omega) (by omega) (rfl) ?_)
  intro b7 W7 n7
  have d7_gl := n7.ne hl
  have d7_b1 := n7.ne k2
  have g7 := n7.ge hB
  have r7_o5 := own_ne o5 n7
  replace hB := Bl.next hB n7.below
  replace hl := hl.below n7.below
  replace k2 := k2.below n7.below
  replace o5 := own_below o5 n7.below
  have k7 := n7.blk
  have o8 := own_of_blk (size := 1) (n := 1) k7 g7 (rfl) (by unfold maxLen; omega)
  refine g_pv 2 [(4, .slice (some ⟨b7, 0, none⟩) 1 1), (5, .int .i64 7)] (by kernel_rfl) ?_
  refine wpList_nil ?_
  refine wp_ret (then_ret ?_)
  exact g_ret (.tuple #[.slice (some ⟨b7, 0, none⟩) 1 1, .int .i64 7]) (by kernel_rfl) (by kernel_rfl) ⟨_, rfl, hB, _, _, rfl, o8⟩
set_option maxRecDepth 100000 in
set_option maxHeartbeats 1000000 in
theorem value_read_ok (gl : Nat) (s : List UInt8) (w : World) (hl : Blk w gl [.int .i64 4, .int .i64 1, .int .i64 14399] 148) (hs : s.length ≤ 1000) (h4 : s.length = 4) (h1 : 1 ≤ rawN s 0 4) (h2 : rawN s 0 4 ≤ 14399) :
    Calls Try.prog 73 #[.slice (some ⟨gl, 0, none⟩) 1 1, .string ⟨s.toArray⟩] w (RetS (fun w' r => ∃ p c, r = .tuple #[.slice p 1 c, .int .i64 0] ∧ w'.ownsRow w.heap.size 3 1 (.slice p 1 c) 1 [.int .i64 (↑(rawN s 0 4) : Int)]) w) := by
  refine calls_of_wp Try.func73 rfl ?_
  refine g_fr ⟨#[.slice (some ⟨gl, 0, none⟩) 1 1, .string ⟨s.toArray⟩, undef, undef, undef, undef, undef, undef, undef, undef, undef, undef, undef, undef, undef, undef, undef, undef, undef, undef, undef, undef, undef, undef, undef, undef, undef, undef, undef, undef, undef, undef, undef, undef, undef, undef, undef, undef, undef, undef, undef, undef, undef, undef, undef, undef, undef, undef, undef, undef, undef, undef, undef, undef], []⟩ (by kernel_rfl) ?_
  refine wp_seq ?_
  refine wp_region_lit ?_
  refine g_pv 2 [(4, .slice none 0 0), (5, .int .i64 0)] (by kernel_rfl) ?_
  refine wpList_nil ?_
  refine wp_seq ?_
  refine wp_region_lit ?_
  refine g_pv 1 [(6, .slice none 0 0)] (by kernel_rfl) ?_
  refine wpList_nil ?_
  refine wp_seq ?_
  refine wp_region_lit ?_
  refine g_pv 1 [(7, .int .i64 0)] (by kernel_rfl) ?_
  refine wpList_nil ?_
  refine wp_seq ?_
  refine wp_seq ?_
  refine wp_region_lit ?_
  refine g_pv 3 [(12, .slice (some ⟨gl, 0, none⟩) 1 1), (13, .int .i64 1), (14, .int .i64 0)] (by kernel_rfl) ?_
  refine wpList_nil ?_
  refine wp_block ?_
  refine wp_loop_rounds 2 ?_
  refine g_round ?_
  refine wp_seq ?_
  refine wp_region_lit ?_
  refine g_pv 1 [(15, .bool true)] (by kernel_rfl) ?_
  refine wpList_nil ?_
  refine wp_seq ?_
  refine wp_cond_true (by kernel_rfl) ?_
  refine wp_skip ?_
  refine wp_seq ?_
  refine wp_block ?_
  refine wp_seq ?_
  refine wp_region_lit ?_
  refine g_pv 1 [(16, .pointer (some ⟨gl, 0, none⟩))] (by kernel_rfl) ?_
  refine g_op (by kernel_rfl) (op_loadv (b := gl) (off := 0) [.int .i64 4, .int .i64 1, .int .i64 14399] _ rfl (by kernel_rfl) Try.underlying148 rfl (by kernel_rfl) hl.whole ?_)
  refine g_op (by kernel_rfl) (op_alloc [.int .i64 0, .int .i64 0, .int .i64 0] rfl (by kernel_rfl) ?_)
  intro b1 W1 n1
  have d1_gl := n1.ne hl
  have g1 := n1.ge (Below.refl w.heap.size _)
  have hB := n1.below
  replace hl := hl.below n1.below
  have k1 := n1.blk
  refine g_op (by kernel_rfl) (op_storev (b := b1) (off := 0) [.int .i64 4, .int .i64 1, .int .i64 14399] rfl (by kernel_rfl) (by kernel_rfl) (by kernel_rfl) (by first | decide | simp [Value.oneCell']) k1 (by first | decide | simp) ?_)
  intro W2 u2 k2
  change Blk _ _ [.int .i64 4, .int .i64 1, .int .i64 14399] _ at k2
  replace hB := u2.below hB g1
  replace hl := u2.blk hl (Ne.symm (Ne.symm d1_gl))
  refine wpList_nil ?_
  refine wp_seq ?_
  refine wp_region_lit ?_
  refine g_pv 2 [(18, .slice none 0 0), (19, .pointer (some ⟨b1, 0, none⟩))] (by kernel_rfl) ?_
  refine g_op (by kernel_rfl) (op_load ⟨b1, 0, none⟩ (.int .i64 4) rfl (by kernel_rfl) (by kernel_rfl) (k2.cell (i := 0) rfl) ?_)
  refine g_op (by kernel_rfl) (op_buildSlice 3 [.int .i64 4] rfl (by kernel_rfl) ?_)
  intro b3 W3 n3
  have d3_gl := n3.ne hl
  have d3_b1 := n3.ne k2
  have g3 := n3.ge hB
  replace hB := Bl.next hB n3.below
  replace hl := hl.below n3.below
  replace k2 := k2.below n3.below
  have k3 := n3.blk
  have o4 := World.ownsRow_nil W3 w.heap.size 3 1
  refine g_op (by kernel_rfl) (op_app (e := 3) (n := 0) (xs := []) (m := 1) (news := [.int .i64 4]) (.int .i64 0) 1 8 (1) ([Value.int .i64 4]) rfl Try.underlying27 (by kernel_rfl) rfl (by decide) (by kernel_rfl) o4 (by kernel_rfl) (k3.sl 1 1 (by decide) (by decide)) rfl (by simp [Value.oneCell']) (by unfold maxLen; omega) (by omega) hB.size (by rfl) (by rfl) ?_)
  intro p5 c5 W5 o5 hg5 hb5
  replace hl := hl.grown hg5 o4 (by decide)
  replace k2 := k2.grown hg5 o4 (by decide)
  replace hB := hB.trans hb5
  refine g_pv 1 [(6, .slice p5 1 c5)] (by kernel_rfl) ?_
  refine wpList_nil ?_
  refine wp_region_lit ?_
  refine g_pv 2 [(23, .int .i64 0), (24, .pointer (some ⟨b1, 0, none⟩))] (by kernel_rfl) ?_
  refine g_op (by kernel_rfl) (op_load ⟨b1, 0, none⟩ (.int .i64 4) rfl (by kernel_rfl) (by kernel_rfl) (k2.cell (i := 0) rfl) ?_)
  refine g_pv 2 [(26, .int .i64 4), (7, .int .i64 4)] (by kernel_rfl) ?_
  refine wpList_nil ?_
  refine wp_region_lit ?_
  refine g_pv 2 [(27, .int .i64 1), (14, .int .i64 1)] (by kernel_rfl) ?_
  refine wpList_nil ?_
  refine g_round ?_
  refine wp_seq ?_
  refine wp_region_lit ?_
  refine g_pv 1 [(15, .bool false)] (by kernel_rfl) ?_
  refine wpList_nil ?_
  refine wp_seq ?_
  refine wp_cond_false (by kernel_rfl) ?_
  refine wp_exit ?_
  refine then_exit ?_
  refine then_exit ?_
  refine inBlock_hit ?_
  refine wp_seq ?_
  refine wp_seq ?_
  refine wp_region_lit ?_
  refine g_pv 4 [(28, .string ⟨s.toArray⟩), (29, .int .i64 (↑s.length : Int)), (30, .int .i64 4), (31, .bool ((↑s.length : Int) != (4 : Int)))] (by kernel_rfl) ?_
  refine wpList_nil ?_
  refine wp_cond_split (t := ((↑s.length : Int) != (4 : Int))) (by kernel_rfl) (fun hh => absurd (hh.symm.trans (show (((↑s.length : Int) != (4 : Int)) : Bool) = false from by rw [h4]; rfl)) (by decide)) (fun _ => ?_)
  refine wp_skip ?_
  refine wp_seq ?_
  refine wp_region_lit ?_
  refine g_pv 1 [(36, .string ⟨s.toArray⟩)] (by kernel_rfl) ?_
  refine g_op (by kernel_rfl) (op_strBytes s rfl (by kernel_rfl) Try.underlying9 Try.underlying22 Try.underlying5 (by omega) ?_)
  intro bz cz W7 hb7 hbz
  replace hB := Bl.next hB hb7
  replace hl := hl.below hb7
  replace k2 := k2.below hb7
  replace o5 := own_below o5 hb7
  refine g_pv 1 [(38, .slice p5 1 c5)] (by kernel_rfl) ?_
  have hs8 : w.heap.size ≤ (W7).heap.size := hB.size
  refine g_op (by kernel_rfl) (op_call (lb := #[]) 61 #[.slice (some ⟨bz, 0, none⟩) s.length cz, .slice p5 1 c5] rfl (by kernel_rfl) (fun _ _ => by kernel_rfl) (by kernel_rfl) ((Unpack_okN (some ⟨bz, 0, none⟩) s.length cz s p5 c5 1 [4] [rawN s 0 4] _ rfl rfl rfl (by decide) (by simp; omega) (by omega) (by decide) hbz (own_sl o5) (fun i hi => by obtain rfl : i = 0 := (by simpa using hi); have := rawN_lt4 s 0 4 (by decide); simp [unpL]; omega)).mono ?_))
  rintro e W8 ⟨_, rfl, hb8, p5, c5, rfl, h5⟩
  refine ⟨_, rfl, ?_⟩
  replace hB := Bl.next hB hb8
  replace hl := hl.below hb8
  replace k2 := k2.below hb8
  replace o5 := own_below o5 hb8
  replace hbz := hbz.below hb8
  replace h5 := own_mono h5 hs8
  refine g_pv 5 [(35, .tuple #[.slice p5 1 c5, .int .i64 0]), (40, .slice p5 1 c5), (41, .int .i64 0), (10, .slice p5 1 c5), (11, .int .i64 0)] (by kernel_rfl) ?_
  refine wpList_nil ?_
  refine wp_seq ?_
  refine wp_seq ?_
  refine wp_region_lit ?_
  refine g_pv 5 [(42, .int .i64 0), (43, .bool false), (44, .bool false), (45, .slice (some ⟨gl, 0, none⟩) 1 1), (46, .slice p5 1 c5)] (by kernel_rfl) ?_
  refine g_op (by kernel_rfl) (op_call (lb := #[]) 77 #[.slice (some ⟨gl, 0, none⟩) 1 1, .slice p5 1 c5] rfl (by kernel_rfl) (fun _ _ => by kernel_rfl) (by kernel_rfl) ((value_putR gl p5 c5 (↑(rawN s 0 4) : Int) _ hl (own_sl h5) (by omega) (by omega)).mono ?_))
  rintro e W9 ⟨rfl, hb9⟩
  refine ⟨_, rfl, ?_⟩
  replace hB := Bl.next hB hb9
  replace hl := hl.below hb9
  replace k2 := k2.below hb9
  replace o5 := own_below o5 hb9
  replace hbz := hbz.below hb9
  replace h5 := own_below h5 hb9
  refine g_pv 2 [(48, .bool ((⟨(leB (↑(rawN s 0 4) : Int) 4).toArray⟩ : ByteArray).toList == (⟨#[]⟩ : ByteArray).toList)), (49, .bool ((⟨(leB (↑(rawN s 0 4) : Int) 4).toArray⟩ : ByteArray).toList == (⟨#[]⟩ : ByteArray).toList))] (by kernel_rfl) ?_
  refine wpList_nil ?_
  refine wp_cond_split (t := ((⟨(leB (↑(rawN s 0 4) : Int) 4).toArray⟩ : ByteArray).toList == (⟨#[]⟩ : ByteArray).toList)) (by kernel_rfl) (fun hh => absurd (hh.symm.trans (show (((⟨(leB (↑(rawN s 0 4) : Int) 4).toArray⟩ : ByteArray).toList == (⟨#[]⟩ : ByteArray).toList) : Bool) = false from four_ne _)) (by decide)) (fun _ => ?_)
  refine wp_skip ?_
  refine wp_seq ?_
  refine wp_region_lit ?_
  refine g_pv 3 [(53, .slice p5 1 c5), (4, .slice p5 1 c5), (5, .int .i64 0)] (by kernel_rfl) ?_
  refine wpList_nil ?_
  refine wp_ret ?_
  exact g_ret (.tuple #[.slice p5 1 c5, .int .i64 0]) (by kernel_rfl) (by kernel_rfl) ⟨_, rfl, hB, _, _, rfl, h5⟩
set_option maxRecDepth 100000 in
set_option maxHeartbeats 1000000 in
theorem value_read_bad (gl : Nat) (s : List UInt8) (w : World) (hl : Blk w gl [.int .i64 4, .int .i64 1, .int .i64 14399] 148) (hs : s.length ≤ 1000) (h4 : s.length = 4) (h1 : ¬ (1 ≤ (rawN s 0 4 : Int) ∧ (rawN s 0 4 : Int) ≤ 14399)) :
    Calls Try.prog 73 #[.slice (some ⟨gl, 0, none⟩) 1 1, .string ⟨s.toArray⟩] w (RetS (fun w' r => ∃ p c, r = .tuple #[.slice p 1 c, .int .i64 2] ∧ w'.ownsRow w.heap.size 3 1 (.slice p 1 c) 1 [.int .i64 0]) w) := by
  refine calls_of_wp Try.func73 rfl ?_
  refine g_fr ⟨#[.slice (some ⟨gl, 0, none⟩) 1 1, .string ⟨s.toArray⟩, undef, undef, undef, undef, undef, undef, undef, undef, undef, undef, undef, undef, undef, undef, undef, undef, undef, undef, undef, undef, undef, undef, undef, undef, undef, undef, undef, undef, undef, undef, undef, undef, undef, undef, undef, undef, undef, undef, undef, undef, undef, undef, undef, undef, undef, undef, undef, undef, undef, undef, undef, undef], []⟩ (by kernel_rfl) ?_
  refine wp_seq ?_
  refine wp_region_lit ?_
  refine g_pv 2 [(4, .slice none 0 0), (5, .int .i64 0)] (by kernel_rfl) ?_
  refine wpList_nil ?_
  refine wp_seq ?_
  refine wp_region_lit ?_
  refine g_pv 1 [(6, .slice none 0 0)] (by kernel_rfl) ?_
  refine wpList_nil ?_
  refine wp_seq ?_
  refine wp_region_lit ?_
  refine g_pv 1 [(7, .int .i64 0)] (by kernel_rfl) ?_
  refine wpList_nil ?_
  refine wp_seq ?_
  refine wp_seq ?_
  refine wp_region_lit ?_
  refine g_pv 3 [(12, .slice (some ⟨gl, 0, none⟩) 1 1), (13, .int .i64 1), (14, .int .i64 0)] (by kernel_rfl) ?_
  refine wpList_nil ?_
  refine wp_block ?_
  refine wp_loop_rounds 2 ?_
  refine g_round ?_
  refine wp_seq ?_
  refine wp_region_lit ?_
  refine g_pv 1 [(15, .bool true)] (by kernel_rfl) ?_
  refine wpList_nil ?_
  refine wp_seq ?_
  refine wp_cond_true (by kernel_rfl) ?_
  refine wp_skip ?_
  refine wp_seq ?_
  refine wp_block ?_
  refine wp_seq ?_
  refine wp_region_lit ?_
  refine g_pv 1 [(16, .pointer (some ⟨gl, 0, none⟩))] (by kernel_rfl) ?_
  refine g_op (by kernel_rfl) (op_loadv (b := gl) (off := 0) [.int .i64 4, .int .i64 1, .int .i64 14399] _ rfl (by kernel_rfl) Try.underlying148 rfl (by kernel_rfl) hl.whole ?_)
  refine g_op (by kernel_rfl) (op_alloc [.int .i64 0, .int .i64 0, .int .i64 0] rfl (by kernel_rfl) ?_)
  intro b1 W1 n1
  have d1_gl := n1.ne hl
  have g1 := n1.ge (Below.refl w.heap.size _)
  have hB := n1.below
  replace hl := hl.below n1.below
  have k1 := n1.blk
  refine g_op (by kernel_rfl) (op_storev (b := b1) (off := 0) [.int .i64 4, .int .i64 1, .int .i64 14399] rfl (by kernel_rfl) (by kernel_rfl) (by kernel_rfl) (by first | decide | simp [Value.oneCell']) k1 (by first | decide | simp) ?_)
  intro W2 u2 k2
  change Blk _ _ [.int .i64 4, .int .i64 1, .int .i64 14399] _ at k2
  replace hB := u2.below hB g1
  replace hl := u2.blk hl (Ne.symm (Ne.symm d1_gl))
  refine wpList_nil ?_
  refine wp_seq ?_
  refine wp_region_lit ?_
  refine g_pv 2 [(18, .slice none 0 0), (19, .pointer (some ⟨b1, 0, none⟩))] (by kernel_rfl) ?_
  refine g_op (by kernel_rfl) (op_load ⟨b1, 0, none⟩ (.int .i64 4) rfl (by kernel_rfl) (by kernel_rfl) (k2.cell (i := 0) rfl) ?_)
  refine g_op (by kernel_rfl) (op_buildSlice 3 [.int .i64 4] rfl (by kernel_rfl) ?_)
  intro b3 W3 n3
  have d3_gl := n3.ne hl
  have d3_b1 := n3.ne k2
  have g3 := n3.ge hB
  replace hB := Bl.next hB n3.below
  replace hl := hl.below n3.below
  replace k2 := k2.below n3.below
  have k3 := n3.blk
  have o4 := World.ownsRow_nil W3 w.heap.size 3 1
  refine g_op (by kernel_rfl) (op_app (e := 3) (n := 0) (xs := []) (m := 1) (news := [.int .i64 4]) (.int .i64 0) 1 8 (1) ([Value.int .i64 4]) rfl Try.underlying27 (by kernel_rfl) rfl (by decide) (by kernel_rfl) o4 (by kernel_rfl) (k3.sl 1 1 (by decide) (by decide)) rfl (by simp [Value.oneCell']) (by unfold maxLen; omega) (by omega) hB.size (by rfl) (by rfl) ?_)
  intro p5 c5 W5 o5 hg5 hb5
  replace hl := hl.grown hg5 o4 (by decide)
  replace k2 := k2.grown hg5 o4 (by decide)
  replace hB := hB.trans hb5
  refine g_pv 1 [(6, .slice p5 1 c5)] (by kernel_rfl) ?_
  refine wpList_nil ?_
  refine wp_region_lit ?_
  refine g_pv 2 [(23, .int .i64 0), (24, .pointer (some ⟨b1, 0, none⟩))] (by kernel_rfl) ?_
  refine g_op (by kernel_rfl) (op_load ⟨b1, 0, none⟩ (.int .i64 4) rfl (by kernel_rfl) (by kernel_rfl) (k2.cell (i := 0) rfl) ?_)
  refine g_pv 2 [(26, .int .i64 4), (7, .int .i64 4)] (by kernel_rfl) ?_
  refine wpList_nil ?_
  refine wp_region_lit ?_
  refine g_pv 2 [(27, .int .i64 1), (14, .int .i64 1)] (by kernel_rfl) ?_
  refine wpList_nil ?_
  refine g_round ?_
  refine wp_seq ?_
  refine wp_region_lit ?_
  refine g_pv 1 [(15, .bool false)] (by kernel_rfl) ?_
  refine wpList_nil ?_
  refine wp_seq ?_
  refine wp_cond_false (by kernel_rfl) ?_
  refine wp_exit ?_
  refine then_exit ?_
  refine then_exit ?_
  refine inBlock_hit ?_
  refine wp_seq ?_
  refine wp_seq ?_
  refine wp_region_lit ?_
  refine g_pv 4 [(28, .string ⟨s.toArray⟩), (29, .int .i64 (↑s.length : Int)), (30, .int .i64 4), (31, .bool ((↑s.length : Int) != (4 : Int)))] (by kernel_rfl) ?_
  refine wpList_nil ?_
  refine wp_cond_split (t := ((↑s.length : Int) != (4 : Int))) (by kernel_rfl) (fun hh => absurd (hh.symm.trans (show (((↑s.length : Int) != (4 : Int)) : Bool) = false from by rw [h4]; rfl)) (by decide)) (fun _ => ?_)
  refine wp_skip ?_
  refine wp_seq ?_
  refine wp_region_lit ?_
  refine g_pv 1 [(36, .string ⟨s.toArray⟩)] (by kernel_rfl) ?_
  refine g_op (by kernel_rfl) (op_strBytes s rfl (by kernel_rfl) Try.underlying9 Try.underlying22 Try.underlying5 (by omega) ?_)
  intro bz cz W7 hb7 hbz
  replace hB := Bl.next hB hb7
  replace hl := hl.below hb7
  replace k2 := k2.below hb7
  replace o5 := own_below o5 hb7
  refine g_pv 1 [(38, .slice p5 1 c5)] (by kernel_rfl) ?_
  have hs8 : w.heap.size ≤ (W7).heap.size := hB.size
  refine g_op (by kernel_rfl) (op_call (lb := #[]) 61 #[.slice (some ⟨bz, 0, none⟩) s.length cz, .slice p5 1 c5] rfl (by kernel_rfl) (fun _ _ => by kernel_rfl) (by kernel_rfl) ((Unpack_okN (some ⟨bz, 0, none⟩) s.length cz s p5 c5 1 [4] [rawN s 0 4] _ rfl rfl rfl (by decide) (by simp; omega) (by omega) (by decide) hbz (own_sl o5) (fun i hi => by obtain rfl : i = 0 := (by simpa using hi); have := rawN_lt4 s 0 4 (by decide); simp [unpL]; omega)).mono ?_))
  rintro e W8 ⟨_, rfl, hb8, p5, c5, rfl, h5⟩
  refine ⟨_, rfl, ?_⟩
  replace hB := Bl.next hB hb8
  replace hl := hl.below hb8
  replace k2 := k2.below hb8
  replace o5 := own_below o5 hb8
  replace hbz := hbz.below hb8
  replace h5 := own_mono h5 hs8
  refine g_pv 5 [(35, .tuple #[.slice p5 1 c5, .int .i64 0]), (40, .slice p5 1 c5), (41, .int .i64 0), (10, .slice p5 1 c5), (11, .int .i64 0)] (by kernel_rfl) ?_
  refine wpList_nil ?_
  refine wp_seq ?_
  refine wp_seq ?_
  refine wp_region_lit ?_
  refine g_pv 5 [(42, .int .i64 0), (43, .bool false), (44, .bool false), (45, .slice (some ⟨gl, 0, none⟩) 1 1), (46, .slice p5 1 c5)] (by kernel_rfl) ?_
  refine g_op (by kernel_rfl) (op_call (lb := #[]) 77 #[.slice (some ⟨gl, 0, none⟩) 1 1, .slice p5 1 c5] rfl (by kernel_rfl) (fun _ _ => by kernel_rfl) (by kernel_rfl) ((value_putX gl p5 c5 (↑(rawN s 0 4) : Int) _ hl (own_sl h5) (by omega)).mono ?_))
  rintro e W9 ⟨rfl, hb9⟩
  refine ⟨_, rfl, ?_⟩
  replace hB := Bl.next hB hb9
  replace hl := hl.below hb9
  replace k2 := k2.below hb9
  replace o5 := own_below o5 hb9
  replace hbz := hbz.below hb9
  replace h5 := own_below h5 hb9
  refine g_pv 2 [(48, .bool true), (49, .bool true)] (by kernel_rfl) ?_
  refine wpList_nil ?_
  refine wp_cond_true (by kernel_rfl) ?_
  refine wp_seq ?_
  refine wp_region_lit ?_
  refine g_pv 2 [(50, .slice (some ⟨gl, 0, none⟩) 1 1), (51, .int .i64 1)] (by kernel_rfl) ?_
  refine g_op (by kernel_rfl) (op_make 1 (.int .i64 0) 1 8 [Value.int .i64 0] rfl (by kernel_rfl) (by kernel_rfl) Try.underlying27 (by kernel_rfl) rfl (by omega) (by omega) (rfl) ?_)
  intro b10 W10 n10
  have d10_gl := n10.ne hl
  have d10_b1 := n10.ne k2
  have g10 := n10.ge hB
  have r10_o5 := own_ne o5 n10
  have r10_h5 := own_ne h5 n10
  replace hB := Bl.next hB n10.below
  replace hl := hl.below n10.below
  replace k2 := k2.below n10.below
  replace o5 := own_below o5 n10.below
  replace hbz := hbz.below n10.below
  replace h5 := own_below h5 n10.below
  have k10 := n10.blk
  have o11 := own_of_blk (size := 1) (n := 1) k10 g10 (rfl) (by unfold maxLen; omega)
  refine g_pv 2 [(4, .slice (some ⟨b10, 0, none⟩) 1 1), (5, .int .i64 2)] (by kernel_rfl) ?_
  refine wpList_nil ?_
  refine wp_ret (then_ret ?_)
  exact g_ret (.tuple #[.slice (some ⟨b10, 0, none⟩) 1 1, .int .i64 2]) (by kernel_rfl) (by kernel_rfl) ⟨_, rfl, hB, _, _, rfl, o11⟩
theorem value_readR (gl : Nat) (s : List UInt8) (w : World) (hl : Blk w gl [.int .i64 4, .int .i64 1, .int .i64 14399] 148) (hs : s.length ≤ 1000) : Calls Try.prog 73 #[.slice (some ⟨gl, 0, none⟩) 1 1, .string ⟨s.toArray⟩] w (RetS (fun w' r => ∃ p c, r = .tuple #[.slice p 1 c, .int .i64 (rootE s)] ∧ w'.ownsRow w.heap.size 3 1 (.slice p 1 c) 1 [.int .i64 (rootN s : Int)]) w) := by
  by_cases h4 : s.length = 4
  · by_cases h1 : 1 ≤ rawN s 0 4 ∧ rawN s 0 4 ≤ 14399
    · have he : rootE s = 0 := by unfold rootE; rw [if_pos h4, if_pos h1]
      rw [he, rootN, if_pos he]
      exact value_read_ok gl s w hl hs h4 h1.1 h1.2
    · have he : rootE s = 2 := by unfold rootE; rw [if_pos h4, if_neg h1]
      rw [he, rootN, if_neg (by rw [he]; decide)]
      exact value_read_bad gl s w hl hs h4 (by omega)
  · have he : rootE s = 7 := by unfold rootE; rw [if_neg h4]
    rw [he, rootN, if_neg (by rw [he]; decide)]
    exact value_read_len gl s w hl hs h4
set_option maxRecDepth 100000 in
set_option maxHeartbeats 1000000 in
theorem value_ReadRoot (s : List UInt8) (w : World) (hs : s.length ≤ 1000) :
    Calls Try.prog 53 #[.string ⟨s.toArray⟩] w (Ret (.tuple #[.int .i64 (rootN s : Int), .int .i64 (rootE s)]) w) := by
  refine calls_of_wp Try.func53 rfl ?_
  refine g_fr ⟨#[.string ⟨s.toArray⟩, undef, undef, undef, undef, undef, undef, undef, undef, undef, undef, undef, undef, undef, undef, undef], []⟩ (by kernel_rfl) ?_
  refine wp_seq ?_
  refine wp_region_lit ?_
  refine g_pv 2 [(2, .int .i64 0), (3, .int .i64 0)] (by kernel_rfl) ?_
  refine wpList_nil ?_
  refine wp_seq ?_
  refine wp_region_lit ?_
  refine g_op (by kernel_rfl) (op_call (lb := #[]) 74 #[] rfl (by kernel_rfl) (fun _ _ => by kernel_rfl) (by kernel_rfl) ((value_rootR _).mono ?_))
  rintro e W1 ⟨_, rfl, hb1, gl, rfl, gg, kl⟩
  refine ⟨_, rfl, ?_⟩
  have hB := hb1
  refine g_pv 1 [(8, .string ⟨s.toArray⟩)] (by kernel_rfl) ?_
  have hs2 : w.heap.size ≤ (W1).heap.size := hB.size
  refine g_op (by kernel_rfl) (op_call (lb := #[]) 73 #[.slice (some ⟨gl, 0, none⟩) 1 1, .string ⟨s.toArray⟩] rfl (by kernel_rfl) (fun _ _ => by kernel_rfl) (by kernel_rfl) ((value_readR gl s _ kl hs).mono ?_))
  rintro e W2 ⟨_, rfl, hb2, p5, c5, rfl, h5⟩
  refine ⟨_, rfl, ?_⟩
  replace hB := Bl.next hB hb2
  replace kl := kl.below hb2
  replace h5 := own_mono h5 hs2
  refine g_pv 5 [(6, .tuple #[.slice p5 1 c5, .int .i64 (rootE s)]), (10, .slice p5 1 c5), (11, .int .i64 (rootE s)), (4, .slice p5 1 c5), (5, .int .i64 (rootE s))] (by kernel_rfl) ?_
  refine wpList_nil ?_
  refine wp_seq ?_
  refine wp_region_lit ?_
  refine g_pv 1 [(12, .slice p5 1 c5)] (by kernel_rfl) ?_
  refine g_op (by kernel_rfl) (op_val (run_indexA (size := 1) (k := 0) (b := p5) (n := 1) (c := c5) (i := 0) (ki := .i64) rfl (by kernel_rfl) (by kernel_rfl) rfl (by omega) (Ints.elem (l := [(rootN s : Int)]) (own_sl h5) (k := 0) (by simp)).1 Try.underlying27 (by kernel_rfl) W2) ?_)
  refine g_op (by kernel_rfl) (op_load (elemAddr p5 (0 * 1)) (.int .i64 (↑(rootN s) : Int)) rfl (by kernel_rfl) (by kernel_rfl) (Ints.elem (l := [(rootN s : Int)]) (own_sl h5) (k := 0) (by simp)).2 ?_)
  refine g_pv 3 [(15, .int .i64 (rootE s)), (2, .int .i64 (↑(rootN s) : Int)), (3, .int .i64 (rootE s))] (by kernel_rfl) ?_
  refine wpList_nil ?_
  refine wp_ret ?_
  exact g_ret (.tuple #[.int .i64 (↑(rootN s) : Int), .int .i64 (rootE s)]) (by kernel_rfl) (by kernel_rfl) ⟨rfl, hB⟩
end Go.Proofs.Ytoiblgeheblddaa

