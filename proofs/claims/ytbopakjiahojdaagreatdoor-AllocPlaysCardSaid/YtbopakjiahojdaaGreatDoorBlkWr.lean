/- block.Write of anything, and the statement BlockWrites, walked. -/
import Derived.Test.YtbopakjiahojdaaGreatDoorRefImg
import Derived.Test.YtbopakjiahojdaaGreatDoorImgWr
namespace Go.Proofs.YtbopakjiahojdaaGreatDoor
open Go.RowKit Go.Extern.Stop Go.Stop Go.Extern
set_option linter.unusedVariables false
attribute [local irreducible] wpList wpAnyH Code.wp Oper.wp

theorem seal_Seal_err (kind no : Int) (a : Option Addr) (c : Nat) (li : List UInt8) (w : World) (h : Bys w (.slice a li.length c) li) (hs : sealE kind no li ≠ 0) :
    Calls Tryz.prog 61 #[.int .i64 kind, .int .i64 no, .slice a li.length c] w (Ret (.tuple #[.slice none 0 0, .int .i64 (sealE kind no li)]) w) := by
  refine (seal_SealG kind no a c li w h).mono ?_
  rintro e W (⟨_, rfl, hb⟩ | ⟨h0, _⟩)
  · exact ⟨rfl, hb⟩
  · exact absurd h0 hs
theorem seal_Seal_yes (kind no : Int) (a : Option Addr) (c : Nat) (li : List UInt8) (w : World) (h : Bys w (.slice a li.length c) li) (hs : sealE kind no li = 0) :
    Calls Tryz.prog 61 #[.int .i64 kind, .int .i64 no, .slice a li.length c] w (fun e w' => li.length ≤ 244 ∧ ∃ p c, e = .returned (.tuple #[.slice p 256 c, .int .i64 0]) ∧ Below w.heap.size w w') := by
  refine (seal_SealG kind no a c li w h).mono ?_
  rintro e W (⟨h0, _⟩ | ⟨_, _, hl, p, c2, rfl, hb, ho⟩)
  · exact absurd hs h0
  · exact ⟨hl, p, c2, rfl, hb⟩
theorem sealE_zero {kind no : Int} {li : List UInt8} (h : sealE kind no li = 0) : knownB kind no = true ∧ li.length ≤ 244 := by
  unfold sealE at h
  split at h
  · split at h
    · exact ⟨by assumption, by assumption⟩
    · cases h
  · cases h
set_option maxRecDepth 100000 in
set_option maxHeartbeats 1000000 in
theorem image_Write_out (b : Nat) (p : Option Addr) (n c : Nat) (k : Int) (x : Value) (w : World) (hk : Blk w b [.slice p n c] 98) (hn : n ≤ 100000000) (ho : ¬ (0 ≤ k ∧ k < (n / 256 : Nat))) :
    Calls Tryz.prog 62 #[.pointer (some ⟨b, 0, none⟩), .int .i64 k, x] w (Ret (.int .i64 3) w) := by
  refine calls_of_wp Tryz.func62 rfl ?_
  refine g_fr ⟨#[.pointer (some ⟨b, 0, none⟩), .int .i64 k, x, undef, undef, undef, undef, undef, undef, undef, undef, undef, undef, undef, undef, undef, undef, undef, undef, undef, undef, undef, undef, undef], []⟩ (by kernel_rfl) ?_
  refine wp_seq ?_
  refine wp_region_lit ?_
  refine g_pv 1 [(6, .int .i64 0)] (by kernel_rfl) ?_
  refine wpList_nil ?_
  refine wp_seq ?_
  refine wp_region_lit ?_
  refine g_pv 2 [(10, .pointer (some ⟨b, 0, none⟩)), (11, .int .i64 k)] (by kernel_rfl) ?_
  refine g_op (by kernel_rfl) (op_call (lb := #[]) 90 #[.pointer (some ⟨b, 0, none⟩), .int .i64 k] rfl (by kernel_rfl) (fun _ _ => by kernel_rfl) (by kernel_rfl) ((image_block_out b p n c k _ (hk.below (Below.refl w.heap.size _)) hn ho).mono ?_))
  rintro e W1 ⟨rfl, hb1⟩
  refine ⟨_, rfl, ?_⟩
  have hB := hb1
  refine g_pv 5 [(9, .tuple #[.slice none 0 0, .int .i64 3]), (13, .slice none 0 0), (14, .int .i64 3), (7, .slice none 0 0), (8, .int .i64 3)] (by kernel_rfl) ?_
  refine wpList_nil ?_
  refine wp_seq ?_
  refine wp_seq ?_
  refine wp_region_lit ?_
  refine g_pv 2 [(15, .int .i64 3), (16, .bool true)] (by kernel_rfl) ?_
  refine wpList_nil ?_
  refine wp_cond_true (by kernel_rfl) ?_
  refine wp_seq ?_
  refine wp_region_lit ?_
  refine g_pv 2 [(17, .int .i64 3), (6, .int .i64 3)] (by kernel_rfl) ?_
  refine wpList_nil ?_
  refine wp_ret (then_ret ?_)
  exact g_ret (.int .i64 3) (by kernel_rfl) (by kernel_rfl) ⟨rfl, hB⟩
set_option maxRecDepth 100000 in
set_option maxHeartbeats 1000000 in
theorem blkW_bad (B b : Nat) (p : Option Addr) (n c : Nat) (l : List UInt8) (no kind : Int) (a : Option Addr) (ca : Nat) (li : List UInt8) (w : World) (hI : ImgR B b p n c l w) (hin : Bys w (.slice a li.length ca) li) (hs : sealE kind no li ≠ 0) :
    Calls Tryz.prog 34 #[.pointer (some ⟨b, 0, none⟩), .int .i64 no, .int .i64 kind, .slice a li.length ca] w (RetS (fun w' r => ErrV w' [some no] (some (sealE kind no li)) r) w) := by
  refine calls_of_wp Tryz.func34 rfl ?_
  refine g_fr ⟨#[.pointer (some ⟨b, 0, none⟩), .int .i64 no, .int .i64 kind, .slice a li.length ca, undef, undef, undef, undef, undef, undef, undef, undef, undef, undef, undef, undef, undef, undef, undef, undef, undef, undef, undef, undef, undef, undef, undef, undef], []⟩ (by kernel_rfl) ?_
  refine wp_seq ?_
  refine wp_region_lit ?_
  refine g_pv 1 [(8, .nilIface)] (by kernel_rfl) ?_
  refine wpList_nil ?_
  refine wp_seq ?_
  refine wp_region_lit ?_
  refine g_pv 3 [(12, .int .i64 kind), (13, .int .i64 no), (14, .slice a li.length ca)] (by kernel_rfl) ?_
  refine g_op (by kernel_rfl) (op_call (lb := #[]) 61 #[.int .i64 kind, .int .i64 no, .slice a li.length ca] rfl (by kernel_rfl) (fun _ _ => by kernel_rfl) (by kernel_rfl) ((seal_Seal_err kind no a ca li _ (hin.below (Below.refl w.heap.size _)) hs).mono ?_))
  rintro e W1 ⟨rfl, hb1⟩
  refine ⟨_, rfl, ?_⟩
  have hB := hb1
  refine g_pv 5 [(11, .tuple #[.slice none 0 0, .int .i64 (sealE kind no li)]), (16, .slice none 0 0), (17, .int .i64 (sealE kind no li)), (9, .slice none 0 0), (10, .int .i64 (sealE kind no li))] (by kernel_rfl) ?_
  refine wpList_nil ?_
  refine wp_seq ?_
  refine wp_seq ?_
  refine wp_region_lit ?_
  refine g_pv 2 [(18, .int .i64 (sealE kind no li)), (19, .bool ((sealE kind no li) == (0 : Int)))] (by kernel_rfl) ?_
  refine wpList_nil ?_
  refine wp_cond_split (t := ((sealE kind no li) == (0 : Int))) (by kernel_rfl) (fun hh => absurd (hh.symm.trans (show (((sealE kind no li) == (0 : Int)) : Bool) = false from beq_false_of_ne hs)) (by decide)) (fun _ => ?_)
  refine wp_skip ?_
  refine wp_seq ?_
  refine wp_region_lit ?_
  refine g_pv 3 [(24, .int .i64 no), (25, .int .i64 (sealE kind no li)), (26, .iface 40 (.int .i64 (sealE kind no li)))] (by kernel_rfl) ?_
  refine g_op (by kernel_rfl) (op_call (lb := #[]) 63 #[.int .i64 no, .iface 40 (.int .i64 (sealE kind no li))] rfl (by kernel_rfl) (fun _ _ => by kernel_rfl) (by kernel_rfl) ((block_told no (sealE kind no li) _).mono ?_))
  rintro e W3 ⟨_, rfl, hb3, hv3⟩
  refine ⟨_, rfl, ?_⟩
  replace hB := Bl.next hB hb3
  rw [if_neg hs, if_neg hs] at hv3
  have hq3 := hv3
  obtain ⟨bf3, vf3, rfl, _, _⟩ := hq3
  refine g_pv 1 [(8, .iface 133 (.pointer (some ⟨bf3, 0, none⟩)))] (by kernel_rfl) ?_
  refine wpList_nil ?_
  refine wp_ret ?_
  exact g_ret (.iface 133 (.pointer (some ⟨bf3, 0, none⟩))) (by kernel_rfl) (by kernel_rfl) ⟨_, rfl, hB, hv3⟩
set_option maxRecDepth 100000 in
set_option maxHeartbeats 1000000 in
theorem blkW_out (B b : Nat) (p : Option Addr) (n c : Nat) (l : List UInt8) (no kind : Int) (a : Option Addr) (ca : Nat) (li : List UInt8) (w : World) (hI : ImgR B b p n c l w) (hin : Bys w (.slice a li.length ca) li) (hs : sealE kind no li = 0) (ho : ¬ (0 ≤ no ∧ no < (n / 256 : Nat))) :
    Calls Tryz.prog 34 #[.pointer (some ⟨b, 0, none⟩), .int .i64 no, .int .i64 kind, .slice a li.length ca] w (RetS (fun w' r => ErrV w' [some no] (some 3) r) w) := by
  refine calls_of_wp Tryz.func34 rfl ?_
  refine g_fr ⟨#[.pointer (some ⟨b, 0, none⟩), .int .i64 no, .int .i64 kind, .slice a li.length ca, undef, undef, undef, undef, undef, undef, undef, undef, undef, undef, undef, undef, undef, undef, undef, undef, undef, undef, undef, undef, undef, undef, undef, undef], []⟩ (by kernel_rfl) ?_
  refine wp_seq ?_
  refine wp_region_lit ?_
  refine g_pv 1 [(8, .nilIface)] (by kernel_rfl) ?_
  refine wpList_nil ?_
  refine wp_seq ?_
  refine wp_region_lit ?_
  refine g_pv 3 [(12, .int .i64 kind), (13, .int .i64 no), (14, .slice a li.length ca)] (by kernel_rfl) ?_
  refine g_op (by kernel_rfl) (op_call (lb := #[]) 61 #[.int .i64 kind, .int .i64 no, .slice a li.length ca] rfl (by kernel_rfl) (fun _ _ => by kernel_rfl) (by kernel_rfl) ((seal_Seal_yes kind no a ca li _ (hin.below (Below.refl w.heap.size _)) hs).mono ?_))
  rintro e W1 ⟨_, p2, c2, rfl, hb1⟩
  refine ⟨_, rfl, ?_⟩
  have hB := hb1
  refine g_pv 5 [(11, .tuple #[.slice p2 256 c2, .int .i64 0]), (16, .slice p2 256 c2), (17, .int .i64 0), (9, .slice p2 256 c2), (10, .int .i64 0)] (by kernel_rfl) ?_
  refine wpList_nil ?_
  refine wp_seq ?_
  refine wp_seq ?_
  refine wp_region_lit ?_
  refine g_pv 2 [(18, .int .i64 0), (19, .bool true)] (by kernel_rfl) ?_
  refine wpList_nil ?_
  refine wp_cond_true (by kernel_rfl) ?_
  refine wp_region_lit ?_
  refine g_pv 3 [(20, .pointer (some ⟨b, 0, none⟩)), (21, .int .i64 no), (22, .slice p2 256 c2)] (by kernel_rfl) ?_
  refine g_op (by kernel_rfl) (op_call (lb := #[]) 62 #[.pointer (some ⟨b, 0, none⟩), .int .i64 no, .slice p2 256 c2] rfl (by kernel_rfl) (fun _ _ => by kernel_rfl) (by kernel_rfl) ((image_Write_out b p n c no _ _ (hI.below hB).blk (by have := hI.hn; omega) ho).mono ?_))
  rintro e W2 ⟨rfl, hb2⟩
  refine ⟨_, rfl, ?_⟩
  replace hB := Bl.next hB hb2
  refine g_pv 1 [(10, .int .i64 3)] (by kernel_rfl) ?_
  refine wpList_nil ?_
  refine wp_seq ?_
  refine wp_region_lit ?_
  refine g_pv 3 [(24, .int .i64 no), (25, .int .i64 3), (26, .iface 40 (.int .i64 3))] (by kernel_rfl) ?_
  refine g_op (by kernel_rfl) (op_call (lb := #[]) 63 #[.int .i64 no, .iface 40 (.int .i64 3)] rfl (by kernel_rfl) (fun _ _ => by kernel_rfl) (by kernel_rfl) ((block_told no 3 _).mono ?_))
  rintro e W3 ⟨_, rfl, hb3, hv3⟩
  refine ⟨_, rfl, ?_⟩
  replace hB := Bl.next hB hb3
  rw [if_neg (by decide), if_neg (by decide)] at hv3
  have hq3 := hv3
  obtain ⟨bf3, vf3, rfl, _, _⟩ := hq3
  refine g_pv 1 [(8, .iface 133 (.pointer (some ⟨bf3, 0, none⟩)))] (by kernel_rfl) ?_
  refine wpList_nil ?_
  refine wp_ret ?_
  exact g_ret (.iface 133 (.pointer (some ⟨bf3, 0, none⟩))) (by kernel_rfl) (by kernel_rfl) ⟨_, rfl, hB, hv3⟩
def erL (no er : Int) : List (Option Int) := if er = 0 then [] else [some no]
def erT (er : Int) : Option Int := if er = 0 then none else some er
theorem erL_blocks (no er : Int) : blocksOf (erL no er) = fltL no er := by unfold erL fltL; split <;> rfl
theorem erL_code (no er : Int) : codeOf (erL no er) (erT er) = er := by
  unfold erL erT
  split
  · rename_i h; rw [h]; rfl
  · rfl
theorem erL_len (no er : Int) : (erL no er).length ≤ 1000000 := by unfold erL; split <;> simp
def WroteG (B b : Nat) (p : Option Addr) (n c : Nat) (l : List UInt8) (no er : Int) (w : World) (e : Ending) (w' : World) : Prop :=
  ∃ v, e = .returned v ∧ Below B w w' ∧ Only [5] w w' ∧ ImgR B b p n c l w' ∧ ErrV w' (erL no er) (erT er) v
theorem block_WriteG (B b : Nat) (p : Option Addr) (k n c : Nat) (l : List UInt8) (no kind : Int) (a : Option Addr) (ca : Nat) (li : List UInt8) (w : World) (hn : n = k * 256) (hI : ImgR B b p n c l w) (hin : Bys w (.slice a li.length ca) li) (hBw : B ≤ w.heap.size) :
    Calls Tryz.prog 34 #[.pointer (some ⟨b, 0, none⟩), .int .i64 no, .int .i64 kind, .slice a li.length ca] w (WroteG B b p n c (wrL kind no k li l) no (wrE kind no k li) w) := by
  have hk : n / 256 = k := by omega
  by_cases hs : sealE kind no li = 0
  · obtain ⟨hkb, hl4⟩ := sealE_zero hs
    obtain ⟨h1, h2, h3, h4⟩ := knownB_all hkb
    by_cases ho : 0 ≤ no ∧ no < (k : Int)
    · have he : wrE kind no k li = 0 := by unfold wrE; rw [if_pos hs, if_pos ho]
      obtain ⟨j, rfl⟩ : ∃ j : Nat, no = j := ⟨no.toNat, by omega⟩
      rw [wrL, if_pos he, he]
      refine (block_WriteR B b p n c j (j : Int) l kind a ca li.length li w rfl rfl hI (by omega) h1 h2 hin hl4 hBw).mono ?_
      rintro e W ⟨rfl, hb, hO, hI2⟩
      exact ⟨_, rfl, hb, hO, hI2, rfl⟩
    · have he : wrE kind no k li = 3 := by unfold wrE; rw [if_pos hs, if_neg ho]
      rw [wrL, if_neg (by rw [he]; decide), he]
      refine (blkW_out B b p n c l no kind a ca li w hI hin hs (by rw [hk]; exact ho)).mono ?_
      rintro e W ⟨v, rfl, hb, hv⟩
      exact ⟨_, rfl, hb.mono hBw, Only.of_below hb, hI.below hb, hv⟩
  · have he : wrE kind no k li = sealE kind no li := by unfold wrE; rw [if_neg hs]
    rw [wrL, if_neg (by rw [he]; exact hs), he]
    refine (blkW_bad B b p n c l no kind a ca li w hI hin hs).mono ?_
    rintro e W ⟨v, rfl, hb, hv⟩
    exact ⟨_, rfl, hb.mono hBw, Only.of_below hb, hI.below hb, by rw [erL, erT, if_neg hs, if_neg hs]; exact hv⟩
theorem ref_OfN (a : Option Addr) (c n k : Nat) (l : List UInt8) (w : World) (hn : l.length = n) (hk : min (n / 256) 14400 = k) (h : Bys w (.slice a n c) l) (hl : n ≤ 100000000) :
    Calls Tryz.prog 9 #[.slice a n c] w (RetS (fun w' r => ∃ bm p c2, r = .pointer (some ⟨bm, 0, none⟩) ∧ w.heap.size ≤ bm ∧ RefI w.heap.size bm p k c2 (l.take (k * 256)) w') w) := by
  subst hn hk; exact ref_Of a c l w h hl
set_option maxRecDepth 100000 in
set_option maxHeartbeats 1000000 in
theorem law11_same (no er : Int) (v : Value) (a5 : Option Addr) (c5 : Nat) (w : World) (hg : ErrT w) (hv : ErrV w (erL no er) (erT er) v) (hs : Ints w (.slice a5 (fltL no er).length c5) (fltL no er)) :
    Calls Tryz.prog 36 #[v, .agg #[.slice a5 ((fltL no er).length) c5, .int .i64 er]] w (Ret (.bool true) w) := by
  refine calls_of_wp Tryz.func36 rfl ?_
  refine g_fr ⟨#[v, .agg #[.slice a5 ((fltL no er).length) c5, .int .i64 er], undef, undef, undef, undef, undef, undef, undef], []⟩ (by kernel_rfl) ?_
  refine wp_seq ?_
  refine wp_region_lit ?_
  refine g_op (by kernel_rfl) (op_box [.slice a5 ((fltL no er).length) c5, .int .i64 er] rfl (by kernel_rfl) ?_)
  intro b1 W1 n1
  have g1 := n1.ge (Below.refl w.heap.size _)
  have hB := n1.below
  replace hv := hv.below n1.below
  have k1 := n1.blk
  refine g_pv 1 [(4, .bool false)] (by kernel_rfl) ?_
  refine wpList_nil ?_
  refine wp_seq ?_
  replace hB := Bl.next hB (below_drew W1)
  replace k1 := k1.below (below_drew W1)
  replace hv := hv.below (below_drew W1)
  refine h_reg (Below (W1.drew).heap.size (W1.drew)) 5 rfl #[false, false, false, false, false] rfl (by kernel_rfl) (Below.refl _ _) ?_
  intro hS2
  have hBd4 := hB
  have kd4_b1 := k1
  refine h_pv [0] 4 rfl #[true, false, false, false, false] [(5, v)] (by kernel_rfl) (fun _ _ _ _ _ h => h) (by kernel_rfl) hS2 ?_
  refine h_loadv (b := b1) (off := 0) 2 3 rfl [.slice a5 ((fltL no er).length) c5, .int .i64 er] _ rfl (by kernel_rfl) (by kernel_rfl) (by kernel_rfl) (fun _ _ _ _ _ h => h) (by kernel_rfl) rfl (by kernel_rfl) Tryz.underlying33 rfl (by kernel_rfl) (fun V hV => (k1.below hV).whole) hS2 ?_
  refine h_one 1 2 rfl (by kernel_rfl) rfl (by kernel_rfl) (op_call (lb := #[]) 15 #[v] rfl (by kernel_rfl) (fun _ _ => by kernel_rfl) (by kernel_rfl) ((law05_Told (erT er) (erL no er) v _ (erL_len no er) (hg.below hB) hv).mono ?_))
  rintro e W5 ⟨vt, rfl, hb5, hq⟩
  refine ⟨_, rfl, ?_⟩
  replace hB := Bl.next hB hb5
  replace k1 := k1.below hb5
  replace hv := hv.below hb5
  rw [erL_blocks, erL_code] at hq
  have hS6 : Below (W1.drew).heap.size (W1.drew) (W5) := Bl.next hS2 hb5
  refine ⟨hS6, ?_⟩
  refine h_str (Below (W5).heap.size (W5)) (fun V hV => Bl.next hS6 hV) ?_
  have hS7 : Below (W5).heap.size (W5) (W5) := Below.refl _ _
  refine h_one 3 1 rfl (by kernel_rfl) rfl (by kernel_rfl) (op_call (lb := #[]) 14 #[vt, .agg #[.slice a5 ((fltL no er).length) c5, .int .i64 er]] rfl (by kernel_rfl) (fun _ _ => by kernel_rfl) (by kernel_rfl) ((ref05_Same (fltL no er) er vt _ _ hq ⟨_, rfl, Sl.below hs hB⟩).mono ?_))
  rintro e W8 ⟨rfl, hb8⟩
  refine ⟨_, rfl, ?_⟩
  replace hB := Bl.next hB hb8
  replace k1 := k1.below hb8
  replace hv := hv.below hb8
  replace hq := hq.below hb8
  have hS9 : Below (W5).heap.size (W5) (W8) := Bl.next hS7 hb8
  refine ⟨hS9, ?_⟩
  refine h_str (Below (W8).heap.size (W8)) (fun V hV => Bl.next hS9 hV) ?_
  have hS10 : Below (W8).heap.size (W8) (W8) := Below.refl _ _
  refine h_pv [4] 0 rfl #[true, true, true, true, true] [(4, .bool true)] (by kernel_rfl) (fun _ _ _ _ _ h => h) (by kernel_rfl) hS10 ?_
  refine h_done _ (by kernel_rfl) ?_
  refine wp_ret ?_
  exact g_ret (.bool true) (by kernel_rfl) (by kernel_rfl) ⟨rfl, hB⟩
end Go.Proofs.YtbopakjiahojdaaGreatDoor

