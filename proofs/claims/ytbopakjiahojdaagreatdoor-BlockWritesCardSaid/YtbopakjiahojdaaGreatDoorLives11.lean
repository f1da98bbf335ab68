/- The lives of law 11, and its statement BlockNobody. -/
import Derived.Test.YtbopakjiahojdaaGreatDoorBlkBits
import Derived.Test.YtbopakjiahojdaaGreatDoorNobody11
import Derived.Test.YtbopakjiahojdaaGreatDoorDoor
namespace Go.Proofs.YtbopakjiahojdaaGreatDoor
open Go.RowKit Go.Extern.Stop Go.Stop Go.Extern
set_option linter.unusedVariables false
attribute [local irreducible] wpList wpAnyH Code.wp Oper.wp

theorem ImgR.mono {B B' b : Nat} {p : Option Addr} {n c : Nat} {l : List UInt8} {w : World} (h : ImgR B b p n c l w) (hB : B' ≤ B) : ImgR B' b p n c l w := ⟨h.blk, own_mono h.row hB, h.hn⟩
theorem image_OfR (a : Option Addr) (c n m : Nat) (l : List UInt8) (w : World) (hn : l.length = n) (hm : min (n / 256) 14400 * 256 = m) (h : Bys w (.slice a n c) l) (hl : n ≤ 100000000) (hc : n ≤ c) :
    Calls Tryz.prog 21 #[.slice a n c] w (RetS (fun w' r => ∃ b p c2, r = .pointer (some ⟨b, 0, none⟩) ∧ w.heap.size ≤ b ∧ ImgR w.heap.size b p m c2 (l.take m) w') w) := by
  subst hn hm
  refine (image_Of a c l w h hl hc).mono ?_
  rintro e W ⟨_, rfl, hb, b, p, c2, rfl, h1, h2, h3⟩
  exact ⟨_, rfl, hb, b, p, c2, rfl, h1, h2, h3, by omega⟩
def WroteR (B b : Nat) (p : Option Addr) (n c : Nat) (l : List UInt8) (w : World) (e : Ending) (w' : World) : Prop :=
  e = .returned .nilIface ∧ Below B w w' ∧ Only [5] w w' ∧ ImgR B b p n c l w'
theorem block_WriteR (B b : Nat) (p : Option Addr) (n c k : Nat) (ki : Int) (l : List UInt8) (kind : Int) (a : Option Addr) (ca m : Nat) (li : List UInt8) (w : World) (hki : ki = (k : Int)) (hm : li.length = m) (hI : ImgR B b p n c l w) (hk : k < n / 256) (h1 : 1 ≤ kind) (h2 : kind ≤ 4) (hin : Bys w (.slice a m ca) li) (hl : m ≤ 244) (hBw : B ≤ w.heap.size) :
    Calls Tryz.prog 34 #[.pointer (some ⟨b, 0, none⟩), .int .i64 ki, .int .i64 kind, .slice a m ca] w (WroteR B b p n c (putB l (k * 256) (sealB kind k li)) w) := by
  subst hki hm
  obtain ⟨g, rfl, hc⟩ := hI.base (by omega)
  refine (block_Write B b g n c k l kind a ca li w hI.blk hI.row hI.hn hc hk h1 h2 hin hl hBw).mono ?_
  rintro e W ⟨rfl, hb, hO, _, ho⟩
  exact ⟨rfl, hb, hO, hI.blk.only hO (by decide), ho, hI.hn⟩
theorem block_Bits_ok (B b : Nat) (p : Option Addr) (n c : Nat) (l : List UInt8) (no : Int) (w : World) (hI : ImgR B b p n c l w) (he : bitsErr l no = 0) (m : Nat) (hm : rawN (inB l no) 0 4 = m) (xs : List Value) (hx : (bitsL (inB l no) m).map nv = xs) :
    Calls Tryz.prog 60 #[.pointer (some ⟨b, 0, none⟩), .int .i64 no] w (RetS (fun w' r => ∃ p c, r = .tuple #[.slice p m c, .nilIface] ∧ w'.ownsRow w.heap.size 3 1 (.slice p m c) m xs) w) := by
  subst hm hx
  refine (block_Bits B b p n c l no w hI).mono ?_
  rintro e W (⟨h, _⟩ | ⟨_, p4, c4, rfl, hb, h4⟩)
  · exact absurd he h
  · exact ⟨_, rfl, hb, p4, c4, rfl, h4⟩
def li11 : List UInt8 := [1, 0, 0, 0, 2] ++ List.replicate 239 0
def im11 : List UInt8 := putB (List.replicate 512 0) (1 * 256) (sealB 3 1 li11)
theorem li11_len : li11.length = 244 := by decide +kernel
theorem li11_ok : bitsOkB li11 = true := by decide +kernel
theorem im11_blk : blkB im11 1 = sealB 3 1 li11 := blkB_put (sealB_len (by rw [li11_len]; decide)) (by rw [List.length_replicate]; decide)
theorem im11_len : im11.length = 512 := by unfold im11; rw [putB_len (by rw [sealB_len (by rw [li11_len]; decide), List.length_replicate]; decide), List.length_replicate]
theorem im11_in : inB im11 1 = li11 := by
  rw [inB_in (no := 1) (j := 1) rfl, im11_blk, in_seal (by rw [li11_len]; decide)]
  unfold inSeal; rw [li11_len]; exact List.append_nil _
theorem im11_ok : bitsErr im11 1 = 0 := by
  unfold bitsErr
  rw [inE_in (no := 1) (j := 1) im11_len rfl (by decide), im11_blk, if_pos (open_seal (by decide) (by decide) (by decide) (by decide) (by rw [li11_len]; decide)), im11_in, if_pos li11_ok]
theorem im11_n : rawN (inB im11 1) 0 4 = 1 := by rw [im11_in]; decide +kernel
theorem im11_l : (bitsL (inB im11 1) 1).map nv = [.int .i64 2] := by rw [im11_in]; have : bitN li11 0 = 2 := by decide +kernel
                                                                     simp [bitsL, this, nv]
theorem text93 : textB [some 9] (some 3) = ⟨#[98, 108, 111, 99, 107, 32, 57, 58, 32, 101, 114, 114, 111, 114, 32, 51]⟩ := by
  have h9 : numB 9 = ⟨#[57]⟩ := by unfold numB; rw [show (Lib.itoa 9).toArray = #[57] by decide +kernel]
  have h3 : numB 3 = ⟨#[51]⟩ := by unfold numB; rw [show (Lib.itoa 3).toArray = #[51] by decide +kernel]
  unfold textB textB; rw [h9, h3]; rfl
theorem fault_Text93 (v : Value) (w : World) (hv : ErrV w [some 9] (some 3) v) : Calls Tryz.prog 51 #[v] w (Ret (.string ⟨#[98, 108, 111, 99, 107, 32, 57, 58, 32, 101, 114, 114, 111, 114, 32, 51]⟩) w) := by
  have := fault_Text (some 3) [some 9] v w (by decide) hv (fun _ => rfl) (fun b hb => by
    have hb' : b = 9 ∨ b = 3 := by
      rcases hb with hb | hb
      · left; simpa using hb
      · right; injection hb with h; exact h.symm
    rcases hb' with rfl | rfl
    · exact ⟨Itoas.small (n := 9) (by decide) w, by unfold numB; decide +kernel⟩
    · exact ⟨Itoas.small (n := 3) (by decide) w, by unfold numB; decide +kernel⟩)
  rwa [text93] at this
set_option maxRecDepth 100000 in
set_option maxHeartbeats 1000000 in
theorem readN_out (k : Nat) (B b : Nat) (p : Option Addr) (n c : Nat) (l : List UInt8) (no : Int) (w : World) (hI : ImgR B b p n c l w) (ho : ¬ (0 ≤ no ∧ no < (n / 256 : Nat))) :
    Calls Tryz.prog 82 #[.pointer (some ⟨b, 0, none⟩), .int .i64 no, .int .i64 2, .func (.func 83) #[] #[.pointer (some ⟨k, 0, none⟩)]] w (RetS (fun w' r => ∃ b, r = .tuple #[.agg #[.int .i64 0, .bool false, .slice none 0 0, .slice none 0 0], .iface 133 (.pointer (some ⟨b, 0, none⟩))] ∧ ErrV w' [some no] (some 3) (.iface 133 (.pointer (some ⟨b, 0, none⟩)))) w) := by
  refine calls_of_wp Tryz.func82 rfl ?_
  refine g_fr ⟨#[.pointer (some ⟨b, 0, none⟩), .int .i64 no, .int .i64 2, .func (.func 83) #[] #[.pointer (some ⟨k, 0, none⟩)], undef, undef, undef, undef, undef, undef, undef, undef, undef, undef, undef, undef, undef, undef, undef, undef, undef, undef, undef, undef, undef, undef, undef, undef, undef, undef, undef, undef, undef, undef, undef, undef, undef, undef, undef, undef, undef, undef, undef, undef, undef, undef, undef, undef, undef, undef, undef, undef, undef, undef, undef, undef], []⟩ (by kernel_rfl) ?_
  refine wp_seq ?_
  refine wp_region_lit ?_
  refine g_op (by kernel_rfl) (op_alloc [.int .i64 0, .bool false, .slice none 0 0, .slice none 0 0] rfl (by kernel_rfl) ?_)
  intro b1 W1 n1
  have g1 := n1.ge (Below.refl w.heap.size _)
  have hB := n1.below
  have k1 := n1.blk
  refine g_pv 1 [(9, .nilIface)] (by kernel_rfl) ?_
  refine wpList_nil ?_
  refine wp_seq ?_
  refine wp_region_lit ?_
  refine g_op (by kernel_rfl) (op_alloc [.int .i64 0, .bool false, .slice none 0 0, .slice none 0 0] rfl (by kernel_rfl) ?_)
  intro b2 W2 n2
  have d2_b1 := n2.ne k1
  have g2 := n2.ge hB
  replace hB := Bl.next hB n2.below
  replace k1 := k1.below n2.below
  have k2 := n2.blk
  refine wpList_nil ?_
  refine wp_seq ?_
  refine wp_region_lit ?_
  refine g_pv 2 [(16, .pointer (some ⟨b, 0, none⟩)), (17, .int .i64 no)] (by kernel_rfl) ?_
  refine g_op (by kernel_rfl) (op_call (lb := #[]) 107 #[.pointer (some ⟨b, 0, none⟩), .int .i64 no] rfl (by kernel_rfl) (fun _ _ => by kernel_rfl) (by kernel_rfl) ((image_Read_out B b p n c l no _ (hI.below hB) ho).mono ?_))
  rintro e W3 ⟨_, rfl, hb3, vr, rfl⟩
  refine ⟨_, rfl, ?_⟩
  replace hB := Bl.next hB hb3
  replace k1 := k1.below hb3
  replace k2 := k2.below hb3
  refine g_pv 5 [(15, .tuple #[vr, .int .i64 3]), (19, vr), (20, .int .i64 3), (11, vr), (12, .int .i64 3)] (by kernel_rfl) ?_
  refine wpList_nil ?_
  refine wp_seq ?_
  refine wp_seq ?_
  refine wp_region_lit ?_
  refine g_pv 2 [(21, .int .i64 3), (22, .bool true)] (by kernel_rfl) ?_
  refine wpList_nil ?_
  refine wp_cond_true (by kernel_rfl) ?_
  refine wp_seq ?_
  replace hB := Bl.next hB (below_drew W3)
  replace k1 := k1.below (below_drew W3)
  replace k2 := k2.below (below_drew W3)
  refine h_reg (BelowBut (W3.drew) b1) 7 rfl #[false, false, false, false, false, false, false] rfl (by kernel_rfl) ((Below.refl _ _).but _) ?_
  intro hS4
  have hBd6 := hB
  have kd6_b1 := k1
  have kd6_b2 := k2
  refine h_loadv (b := b2) (off := 0) 0 6 rfl [.int .i64 0, .bool false, .slice none 0 0, .slice none 0 0] _ rfl (by kernel_rfl) (by kernel_rfl) (by kernel_rfl) (fun _ _ _ _ _ h => h) (by kernel_rfl) rfl (by kernel_rfl) Tryz.underlying87 rfl (by kernel_rfl) (fun V hV => (hV.blk kd6_b2 (Ne.symm d2_b1)).whole) hS4 ?_
  refine h_pv [1, 2, 3] 3 rfl #[true, true, true, true, false, false, false] [(24, .int .i64 no), (25, .int .i64 3), (26, .iface 40 (.int .i64 3))] (by kernel_rfl) (fun _ _ _ _ _ h => h) (by kernel_rfl) hS4 ?_
  refine h_one 4 2 rfl (by kernel_rfl) rfl (by kernel_rfl) (op_call (lb := #[]) 63 #[.int .i64 no, .iface 40 (.int .i64 3)] rfl (by kernel_rfl) (fun _ _ => by kernel_rfl) (by kernel_rfl) ((block_told no 3 _).mono ?_))
  rintro e W7 ⟨_, rfl, hb7, hv7⟩
  refine ⟨_, rfl, ?_⟩
  replace hB := Bl.next hB hb7
  replace k1 := k1.below hb7
  replace k2 := k2.below hb7
  rw [if_neg (by decide), if_neg (by decide)] at hv7
  have hq7 := hv7
  obtain ⟨bf7, vf7, rfl, _, _⟩ := hq7
  have hS8 : BelowBut (W3.drew) b1 (W7) := hS4.next hb7
  refine ⟨hS8, ?_⟩
  refine h_one 5 1 rfl (by kernel_rfl) rfl (by kernel_rfl) (op_storev (b := b1) (off := 0) [.int .i64 0, .bool false, .slice none 0 0, .slice none 0 0] rfl (by kernel_rfl) (by kernel_rfl) (by kernel_rfl) (by first | decide | simp [Value.oneCell']) k1 (by first | decide | simp) ?_)
  intro W9 u9 k9
  change Blk _ _ [.int .i64 0, .bool false, .slice none 0 0, .slice none 0 0] _ at k9
  replace hB := u9.below hB g1
  replace k2 := u9.blk k2 (Ne.symm d2_b1)
  replace hv7 := hv7.upd u9 k1 (by decide)
  have hS10 : BelowBut (W3.drew) b1 (W9) := hS8.upd u9
  refine ⟨hS10, ?_⟩
  refine h_pv [6] 0 rfl #[true, true, true, true, true, true, true] [(9, .iface 133 (.pointer (some ⟨bf7, 0, none⟩)))] (by kernel_rfl) (fun _ _ _ _ _ h => h) (by kernel_rfl) hS10 ?_
  refine h_done _ (by kernel_rfl) ?_
  refine wp_ret (then_ret ?_)
  exact g_ret (.tuple #[.agg #[.int .i64 0, .bool false, .slice none 0 0, .slice none 0 0], .iface 133 (.pointer (some ⟨bf7, 0, none⟩))]) (by kernel_rfl) (res_ct (d := _) (cs := [.int .i64 0, .bool false, .slice none 0 0, .slice none 0 0]) rfl (by kernel_rfl) (by kernel_rfl) k9.whole Tryz.underlying87 rfl (by kernel_rfl)) ⟨_, rfl, hB, _, rfl, hv7⟩
set_option maxRecDepth 100000 in
set_option maxHeartbeats 1000000 in
theorem block_Node_out (tree : Int) (B b : Nat) (p : Option Addr) (n c : Nat) (l : List UInt8) (no : Int) (w : World) (hI : ImgR B b p n c l w) (ho : ¬ (0 ≤ no ∧ no < (n / 256 : Nat))) :
    Calls Tryz.prog 59 #[.pointer (some ⟨b, 0, none⟩), .int .i64 no, .int .i64 tree] w (RetS (fun w' r => ∃ b, r = .tuple #[.agg #[.int .i64 0, .bool false, .slice none 0 0, .slice none 0 0], .iface 133 (.pointer (some ⟨b, 0, none⟩))] ∧ ErrV w' [some no] (some 3) (.iface 133 (.pointer (some ⟨b, 0, none⟩)))) w) := by
  refine calls_of_wp Tryz.func59 rfl ?_
  refine g_fr ⟨#[.pointer (some ⟨b, 0, none⟩), .int .i64 no, .int .i64 tree, undef, undef, undef, undef, undef, undef, undef, undef, undef, undef, undef], []⟩ (by kernel_rfl) ?_
  refine wp_seq ?_
  refine wp_region_lit ?_
  refine g_op (by kernel_rfl) (op_box [.int .i64 tree] rfl (by kernel_rfl) ?_)
  intro b1 W1 n1
  have g1 := n1.ge (Below.refl w.heap.size _)
  have hB := n1.below
  have k1 := n1.blk
  refine g_op (by kernel_rfl) (op_alloc [.int .i64 0, .bool false, .slice none 0 0, .slice none 0 0] rfl (by kernel_rfl) ?_)
  intro b2 W2 n2
  have d2_b1 := n2.ne k1
  have g2 := n2.ge hB
  replace hB := Bl.next hB n2.below
  replace k1 := k1.below n2.below
  have k2 := n2.blk
  refine g_pv 1 [(7, .nilIface)] (by kernel_rfl) ?_
  refine wpList_nil ?_
  refine wp_seq ?_
  refine wp_region_lit ?_
  refine g_pv 3 [(8, .pointer (some ⟨b, 0, none⟩)), (9, .int .i64 no), (10, .func (.func 83) #[] #[.pointer (some ⟨b1, 0, none⟩)])] (by kernel_rfl) ?_
  refine g_op (by kernel_rfl) (op_call (lb := #[]) 82 #[.pointer (some ⟨b, 0, none⟩), .int .i64 no, .int .i64 2, .func (.func 83) #[] #[.pointer (some ⟨b1, 0, none⟩)]] rfl (by kernel_rfl) (fun _ _ => by kernel_rfl) (by kernel_rfl) ((readN_out b1 B b p n c l no _ (hI.below hB) ho).mono ?_))
  rintro e W3 ⟨_, rfl, hb3, bf, rfl, hv⟩
  refine ⟨_, rfl, ?_⟩
  replace hB := Bl.next hB hb3
  replace k1 := k1.below hb3
  replace k2 := k2.below hb3
  refine g_pv 2 [(12, .agg #[.int .i64 0, .bool false, .slice none 0 0, .slice none 0 0]), (13, .iface 133 (.pointer (some ⟨bf, 0, none⟩)))] (by kernel_rfl) ?_
  refine g_op (by kernel_rfl) (op_storev (b := b2) (off := 0) [.int .i64 0, .bool false, .slice none 0 0, .slice none 0 0] rfl (by kernel_rfl) (by kernel_rfl) (by kernel_rfl) (by first | decide | simp [Value.oneCell']) k2 (by first | decide | simp) ?_)
  intro W4 u4 k4
  change Blk _ _ [.int .i64 0, .bool false, .slice none 0 0, .slice none 0 0] _ at k4
  replace hB := u4.below hB g2
  replace k1 := u4.blk k1 (Ne.symm (Ne.symm d2_b1))
  replace hv := hv.upd u4 k2 (by decide)
  refine g_pv 1 [(7, .iface 133 (.pointer (some ⟨bf, 0, none⟩)))] (by kernel_rfl) ?_
  refine wpList_nil ?_
  refine wp_ret ?_
  exact g_ret (.tuple #[.agg #[.int .i64 0, .bool false, .slice none 0 0, .slice none 0 0], .iface 133 (.pointer (some ⟨bf, 0, none⟩))]) (by kernel_rfl) (res_ct (d := _) (cs := [.int .i64 0, .bool false, .slice none 0 0, .slice none 0 0]) rfl (by kernel_rfl) (by kernel_rfl) k4.whole Tryz.underlying87 rfl (by kernel_rfl)) ⟨_, rfl, hB, _, rfl, hv⟩
set_option maxRecDepth 100000 in
set_option maxHeartbeats 4000000 in
theorem lives11 (w : World) :
    Calls Tryz.prog 33 #[] w (Ret (.bool true) w) := by
  refine calls_of_wp Tryz.func33 rfl ?_
  refine g_fr ⟨#[undef, undef, undef, undef, undef, undef, undef, undef, undef, undef, undef, undef, undef, undef, undef, undef, undef, undef, undef, undef, undef, undef, undef, undef, undef, undef, undef, undef, undef, undef, undef, undef, undef, undef, undef, undef, undef, undef, undef, undef, undef, undef, undef, undef, undef], []⟩ (by kernel_rfl) ?_
  refine wp_seq ?_
  refine wp_region_lit ?_
  refine g_pv 1 [(0, .bool false)] (by kernel_rfl) ?_
  refine wpList_nil ?_
  refine wp_seq ?_
  refine wp_region_lit ?_
  refine g_op (by kernel_rfl) (op_make 512 (.int .u8 0) 1 1 ((List.replicate 512 (0 : UInt8)).map bv) rfl (by kernel_rfl) (by kernel_rfl) Tryz.underlying29 (by kernel_rfl) rfl (by omega) (by omega) (zerosB 512) ?_)
  intro b1 W1 n1
  have g1 := n1.ge (Below.refl w.heap.size _)
  have hB := n1.below
  have k1 := n1.blk
  have o2 := own_of_blk (size := 1) (n := 512) k1 g1 (by rw [List.length_map, List.length_replicate]) (by unfold maxLen; omega)
  have hs8 : w.heap.size ≤ (W1).heap.size := hB.size
  refine g_op (by kernel_rfl) (op_call (lb := #[]) 21 #[.slice (some ⟨b1, 0, none⟩) 512 512] rfl (by kernel_rfl) (fun _ _ => by kernel_rfl) (by kernel_rfl) ((image_OfR (some ⟨b1, 0, none⟩) 512 512 512 (List.replicate 512 (0 : UInt8)) _ List.length_replicate (by decide) (bys_of (own_sl o2) List.length_replicate) (by decide) (by decide)).mono ?_))
  rintro e W3 ⟨_, rfl, hb3, bi, pi, ci, rfl, _, hI⟩
  refine ⟨_, rfl, ?_⟩
  replace hB := Bl.next hB hb3
  replace hI := hI.mono hs8
  rw [List.take_of_length_le (by simp)] at hI
  refine g_pv 1 [(1, .pointer (some ⟨bi, 0, none⟩))] (by kernel_rfl) ?_
  refine wpList_nil ?_
  refine wp_seq ?_
  refine wp_region_lit ?_
  refine g_pv 1 [(10, .pointer (some ⟨bi, 0, none⟩))] (by kernel_rfl) ?_
  refine g_op (by kernel_rfl) (op_call (lb := #[]) 59 #[.pointer (some ⟨bi, 0, none⟩), .int .i64 9, .int .i64 0] rfl (by kernel_rfl) (fun _ _ => by kernel_rfl) (by kernel_rfl) ((block_Node_out 0 w.heap.size bi pi 512 ci _ 9 _ hI (by decide)).mono ?_))
  rintro e W4 ⟨_, rfl, hb4, bf, rfl, hv⟩
  refine ⟨_, rfl, ?_⟩
  replace hB := Bl.next hB hb4
  replace hI := hI.below hb4
  refine g_pv 3 [(9, .tuple #[.agg #[.int .i64 0, .bool false, .slice none 0 0, .slice none 0 0], .iface 133 (.pointer (some ⟨bf, 0, none⟩))]), (12, .agg #[.int .i64 0, .bool false, .slice none 0 0, .slice none 0 0]), (13, .iface 133 (.pointer (some ⟨bf, 0, none⟩)))] (by kernel_rfl) ?_
  refine g_op (by kernel_rfl) (op_alloc [.int .i64 0, .bool false, .slice none 0 0, .slice none 0 0] rfl (by kernel_rfl) ?_)
  intro b5 W5 n5
  have g5 := n5.ge hB
  replace hB := Bl.next hB n5.below
  replace hI := hI.below n5.below
  replace hv := hv.below n5.below
  have k5 := n5.blk
  refine g_op (by kernel_rfl) (op_storev (b := b5) (off := 0) [.int .i64 0, .bool false, .slice none 0 0, .slice none 0 0] rfl (by kernel_rfl) (by kernel_rfl) (by kernel_rfl) (by first | decide | simp [Value.oneCell']) k5 (by first | decide | simp) ?_)
  intro W6 u6 k6
  change Blk _ _ [.int .i64 0, .bool false, .slice none 0 0, .slice none 0 0] _ at k6
  replace hB := u6.below hB g5
  replace hI := hI.only (Only.of_upd (T := [87]) u6 k5 (by decide)) (by decide)
  replace hv := hv.upd u6 k5 (by decide)
  refine g_pv 1 [(3, .iface 133 (.pointer (some ⟨bf, 0, none⟩)))] (by kernel_rfl) ?_
  refine wpList_nil ?_
  refine wp_seq ?_
  refine wp_region_lit ?_
  refine g_pv 1 [(14, .pointer (some ⟨bi, 0, none⟩))] (by kernel_rfl) ?_
  refine g_op (by kernel_rfl) (op_buildSlice 5 [.int .u8 1, .int .u8 0, .int .u8 0, .int .u8 0, .int .u8 2] rfl (by kernel_rfl) ?_)
  intro b7 W7 n7
  have d7_b5 := n7.ne k6
  have g7 := n7.ge hB
  replace hB := Bl.next hB n7.below
  replace k6 := k6.below n7.below
  replace hI := hI.below n7.below
  replace hv := hv.below n7.below
  have k7 := n7.blk
  have hs8 : w.heap.size ≤ (W7).heap.size := hB.size
  refine g_op (by kernel_rfl) (op_appZ (kq := .i64) b7 5 239 [.int .u8 1, .int .u8 0, .int .u8 0, .int .u8 0, .int .u8 2] rfl Tryz.underlying29 Tryz.underlying3 (by kernel_rfl) (by kernel_rfl) k7 rfl (by kernel_rfl) (by decide) (by decide) ?_)
  intro gz cz W8 oz hb8
  replace hB := Bl.next hB hb8
  replace k6 := k6.below hb8
  replace k7 := k7.below hb8
  replace hI := hI.below hb8
  replace hv := hv.below hb8
  replace oz := own_mono oz hs8
  replace oz : W8.ownsRow w.heap.size 5 1 (.slice (some ⟨gz, 0, none⟩) 244 cz) 244 (li11.map bv) := oz
  refine g_op (by kernel_rfl) (op_call (lb := #[]) 34 #[.pointer (some ⟨bi, 0, none⟩), .int .i64 1, .int .i64 3, .slice (some ⟨gz, 0, none⟩) 244 cz] rfl (by kernel_rfl) (fun _ _ => by kernel_rfl) (by kernel_rfl) ((block_WriteR w.heap.size bi pi 512 ci 1 1 (List.replicate 512 (0 : UInt8)) 3 (some ⟨gz, 0, none⟩) cz 244 li11 _ rfl li11_len hI (by decide) (by decide) (by decide) (bys_of (own_sl oz) li11_len) (by decide) hB.size).mono ?_))
  rintro e W9 ⟨rfl, hb9, hO9, hI⟩
  refine ⟨_, rfl, ?_⟩
  replace hB := hB.trans hb9
  replace k6 := k6.only hO9 (by decide)
  replace hv := hv.only hO9 (by decide)
  rw [show putB (List.replicate 512 (0 : UInt8)) (1 * 256) (sealB 3 (1 : Nat) li11) = im11 from rfl] at hI
  refine g_pv 1 [(4, .nilIface)] (by kernel_rfl) ?_
  refine wpList_nil ?_
  refine wp_seq ?_
  refine wp_region_lit ?_
  refine g_pv 1 [(19, .pointer (some ⟨bi, 0, none⟩))] (by kernel_rfl) ?_
  have hs10 : w.heap.size ≤ (W9).heap.size := hB.size
  refine g_op (by kernel_rfl) (op_call (lb := #[]) 60 #[.pointer (some ⟨bi, 0, none⟩), .int .i64 1] rfl (by kernel_rfl) (fun _ _ => by kernel_rfl) (by kernel_rfl) ((block_Bits_ok w.heap.size bi pi 512 ci im11 1 _ hI im11_ok 1 im11_n _ im11_l).mono ?_))
  rintro e W10 ⟨_, rfl, hb10, p4, c4, rfl, h4⟩
  refine ⟨_, rfl, ?_⟩
  replace hB := Bl.next hB hb10
  replace k6 := k6.below hb10
  replace hI := hI.below hb10
  replace hv := hv.below hb10
  replace h4 := own_mono h4 hs10
  refine g_pv 5 [(18, .tuple #[.slice p4 1 c4, .nilIface]), (21, .slice p4 1 c4), (22, .nilIface), (5, .slice p4 1 c4), (6, .nilIface)] (by kernel_rfl) ?_
  refine wpList_nil ?_
  refine wp_seq ?_
  refine wp_region_lit ?_
  refine g_pv 1 [(23, .iface 133 (.pointer (some ⟨bf, 0, none⟩)))] (by kernel_rfl) ?_
  refine g_op (by kernel_rfl) (op_call (lb := #[]) 51 #[.iface 133 (.pointer (some ⟨bf, 0, none⟩))] rfl (by kernel_rfl) (fun _ _ => by kernel_rfl) (by kernel_rfl) ((fault_Text93 _ _ hv).mono ?_))
  rintro e W11 ⟨rfl, hb11⟩
  refine ⟨_, rfl, ?_⟩
  replace hB := Bl.next hB hb11
  replace k6 := k6.below hb11
  replace hI := hI.below hb11
  replace hv := hv.below hb11
  replace h4 := own_below h4 hb11
  refine g_pure 16 ⟨#[.bool false, .pointer (some ⟨bi, 0, none⟩), .pointer (some ⟨b5, 0, none⟩), .iface 133 (.pointer (some ⟨bf, 0, none⟩)), .nilIface, .slice p4 1 c4, .nilIface, .slice (some ⟨b1, 0, none⟩) 512 512, .pointer (some ⟨bi, 0, none⟩), .tuple #[.agg #[.int .i64 0, .bool false, .slice none 0 0, .slice none 0 0], .iface 133 (.pointer (some ⟨bf, 0, none⟩))], .pointer (some ⟨bi, 0, none⟩), .tuple #[.agg #[.int .i64 0, .bool false, .slice none 0 0, .slice none 0 0], .iface 133 (.pointer (some ⟨bf, 0, none⟩))], .agg #[.int .i64 0, .bool false, .slice none 0 0, .slice none 0 0], .iface 133 (.pointer (some ⟨bf, 0, none⟩)), .pointer (some ⟨bi, 0, none⟩), .slice (some ⟨b7, 0, none⟩) 5 5, .slice (some ⟨gz, 0, none⟩) 244 cz, .nilIface, .tuple #[.slice p4 1 c4, .nilIface], .pointer (some ⟨bi, 0, none⟩), .tuple #[.slice p4 1 c4, .nilIface], .slice p4 1 c4, .nilIface, .iface 133 (.pointer (some ⟨bf, 0, none⟩)), .string ⟨#[98, 108, 111, 99, 107, 32, 57, 58, 32, 101, 114, 114, 111, 114, 32, 51]⟩, .bool true, .bool true, .nilIface, .bool true, .bool true, .bool true, .nilIface, .bool true, .bool true, .bool true, .slice p4 1 c4, .int .i64 1, .bool true, .bool true, .bool true, .slice p4 1 c4, undef, undef, undef, undef], []⟩ (by kernel_rfl) ?_
  refine g_op (by kernel_rfl) (op_val (run_indexA (size := 1) (k := 0) (b := p4) (n := 1) (c := c4) (i := 0) (ki := .i64) rfl (by kernel_rfl) (by kernel_rfl) rfl (by omega) (Ints.elem (l := [2]) (own_sl h4) (k := 0) (by decide)).1 Tryz.underlying31 (by kernel_rfl) W11) ?_)
  refine g_op (by kernel_rfl) (op_load (elemAddr p4 (0 * 1)) (.int .i64 2) rfl (by kernel_rfl) (by kernel_rfl) (Ints.elem (l := [2]) (own_sl h4) (k := 0) (by decide)).2 ?_)
  refine g_pv 3 [(43, .bool true), (44, .bool true), (0, .bool true)] (by kernel_rfl) ?_
  refine wpList_nil ?_
  refine wp_ret ?_
  exact g_ret (.bool true) (by kernel_rfl) (by kernel_rfl) ⟨rfl, hB⟩
end Go.Proofs.YtbopakjiahojdaaGreatDoor

