/- strconv.Itoa at 14, and the lives of law 16. -/
import Derived.Test.YtcmbnkfkbdccoaaDoorAlloc
import Derived.Test.YtcmbnkfkbdccoaaDoorErrText
import Derived.Test.YtcmbnkfkbdccoaaDoorDoor
namespace Go.Proofs.YtcmbnkfkbdccoaaDoor
open Go.RowKit Go.Extern.Stop Go.Stop Go.Extern
set_option linter.unusedVariables false

set_option maxRecDepth 100000 in
set_option maxHeartbeats 1000000 in
theorem small_14 (w : World) :
    Calls Tryd.prog 74 #[.int .i64 14] w (Ret (.string ⟨#[49, 52]⟩) w) := by
  refine calls_of_wp Tryd.func74 rfl ?_
  refine g_fr ⟨#[.int .i64 14, undef, undef, undef, undef, undef, undef, undef, undef, undef, undef, undef, undef, undef, undef], []⟩ (by kernel_rfl) ?_
  refine wp_seq ?_
  refine wp_region_lit ?_
  refine g_pure 1 ⟨#[.int .i64 14, undef, .string ⟨#[]⟩, undef, undef, undef, undef, undef, undef, undef, undef, undef, undef, undef, undef], []⟩ (by kernel_rfl) ?_
  refine wpList_nil ?_
  refine wp_seq ?_
  refine wp_seq ?_
  refine wp_region_lit ?_
  refine g_pure 2 ⟨#[.int .i64 14, undef, .string ⟨#[]⟩, .int .i64 14, .bool false, undef, undef, undef, undef, undef, undef, undef, undef, undef, undef], []⟩ (by kernel_rfl) ?_
  refine wpList_nil ?_
  refine wp_cond_false rfl ?_
  refine wp_skip ?_
  refine wp_seq ?_
  refine wp_region_lit ?_
  refine g_pure 7 ⟨#[.int .i64 14, undef, .string ⟨#[49, 52]⟩, .int .i64 14, .bool false, undef, undef, undef, undef, .int .i64 14, .int .i64 28, .int .i64 14, .int .i64 28, .int .i64 30, .string ⟨#[49, 52]⟩], []⟩ (by kernel_rfl) ?_
  refine wpList_nil ?_
  refine wp_ret ?_
  show bodyPost _ _ _ .ret _ _
  exact g_ret (.string ⟨#[49, 52]⟩) rfl (by kernel_rfl) ⟨rfl, (Below.refl w.heap.size _)⟩
set_option maxRecDepth 100000 in
set_option maxHeartbeats 1000000 in
theorem FormatInt_14 (w : World) :
    Calls Tryd.prog 73 #[.int .i64 14, .int .i64 10] w (Ret (.string ⟨#[49, 52]⟩) w) := by
  refine calls_of_wp Tryd.func73 rfl ?_
  refine g_fr ⟨#[.int .i64 14, .int .i64 10, undef, undef, undef, undef, undef, undef, undef, undef, undef, undef, undef, undef, undef, undef, undef, undef, undef, undef, undef, undef, undef, undef, undef, undef, undef, undef, undef, undef, undef, undef, undef, undef, undef, undef, undef, undef, undef, undef, undef, undef, undef, undef, undef, undef, undef, undef, undef, undef, undef, undef, undef, undef], []⟩ (by kernel_rfl) ?_
  refine wp_seq ?_
  refine wp_region_lit ?_
  refine g_pure 1 ⟨#[.int .i64 14, .int .i64 10, undef, undef, .string ⟨#[]⟩, undef, undef, undef, undef, undef, undef, undef, undef, undef, undef, undef, undef, undef, undef, undef, undef, undef, undef, undef, undef, undef, undef, undef, undef, undef, undef, undef, undef, undef, undef, undef, undef, undef, undef, undef, undef, undef, undef, undef, undef, undef, undef, undef, undef, undef, undef, undef, undef, undef], []⟩ (by kernel_rfl) ?_
  refine wpList_nil ?_
  refine wp_seq ?_
  refine wp_seq ?_
  refine wp_region_lit ?_
  refine g_pure 2 ⟨#[.int .i64 14, .int .i64 10, undef, undef, .string ⟨#[]⟩, undef, undef, undef, undef, undef, .int .i64 10, .bool true, undef, undef, undef, undef, undef, undef, undef, undef, undef, undef, undef, undef, undef, undef, undef, undef, undef, undef, undef, undef, undef, undef, undef, undef, undef, undef, undef, undef, undef, undef, undef, undef, undef, undef, undef, undef, undef, undef, undef, undef, undef, undef], []⟩ (by kernel_rfl) ?_
  refine wpList_nil ?_
  refine wp_cond_true rfl ?_
  refine wp_seq ?_
  refine wp_seq ?_
  refine wp_region_lit ?_
  refine g_pure 6 ⟨#[.int .i64 14, .int .i64 10, undef, undef, .string ⟨#[]⟩, undef, undef, undef, undef, undef, .int .i64 10, .bool true, .int .i64 14, .bool true, .bool true, .int .i64 14, .bool true, .bool true, undef, undef, undef, undef, undef, undef, undef, undef, undef, undef, undef, undef, undef, undef, undef, undef, undef, undef, undef, undef, undef, undef, undef, undef, undef, undef, undef, undef, undef, undef, undef, undef, undef, undef, undef, undef], []⟩ (by kernel_rfl) ?_
  refine wpList_nil ?_
  refine wp_cond_true rfl ?_
  refine wp_seq ?_
  refine wp_region_lit ?_
  refine g_pure 1 ⟨#[.int .i64 14, .int .i64 10, undef, undef, .string ⟨#[]⟩, undef, undef, undef, undef, undef, .int .i64 10, .bool true, .int .i64 14, .bool true, .bool true, .int .i64 14, .bool true, .bool true, .int .i64 14, undef, undef, undef, undef, undef, undef, undef, undef, undef, undef, undef, undef, undef, undef, undef, undef, undef, undef, undef, undef, undef, undef, undef, undef, undef, undef, undef, undef, undef, undef, undef, undef, undef, undef, undef], []⟩ (by kernel_rfl) ?_
  refine g_op (by kernel_rfl) (op_call 74 #[.int .i64 14] rfl rfl (fun _ _ => by kernel_rfl) (by kernel_rfl) ((small_14 _).mono ?_))
  rintro e W1 ⟨rfl, hb1⟩
  refine ⟨_, rfl, ?_⟩
  have hB := hb1
  refine g_pure 1 ⟨#[.int .i64 14, .int .i64 10, undef, undef, .string ⟨#[49, 52]⟩, undef, undef, undef, undef, undef, .int .i64 10, .bool true, .int .i64 14, .bool true, .bool true, .int .i64 14, .bool true, .bool true, .int .i64 14, .string ⟨#[49, 52]⟩, undef, undef, undef, undef, undef, undef, undef, undef, undef, undef, undef, undef, undef, undef, undef, undef, undef, undef, undef, undef, undef, undef, undef, undef, undef, undef, undef, undef, undef, undef, undef, undef, undef, undef], []⟩ (by kernel_rfl) ?_
  refine wpList_nil ?_
  refine wp_ret ?_
  show bodyPost _ _ _ .ret _ _
  exact g_ret (.string ⟨#[49, 52]⟩) rfl (by kernel_rfl) ⟨rfl, hB⟩
set_option maxRecDepth 100000 in
set_option maxHeartbeats 1000000 in
theorem iItoa_14 (w : World) :
    Calls Tryd.prog 72 #[.int .i64 14] w (Ret (.string ⟨#[49, 52]⟩) w) := by
  refine calls_of_wp Tryd.func72 rfl ?_
  refine g_fr ⟨#[.int .i64 14, undef, undef, undef, undef], []⟩ (by kernel_rfl) ?_
  refine wp_seq ?_
  refine wp_region_lit ?_
  refine g_pure 1 ⟨#[.int .i64 14, undef, .string ⟨#[]⟩, undef, undef], []⟩ (by kernel_rfl) ?_
  refine wpList_nil ?_
  refine wp_seq ?_
  refine wp_region_lit ?_
  refine g_pure 1 ⟨#[.int .i64 14, undef, .string ⟨#[]⟩, .int .i64 14, undef], []⟩ (by kernel_rfl) ?_
  refine g_op (by kernel_rfl) (op_call 73 #[.int .i64 14, .int .i64 10] rfl rfl (fun _ _ => by kernel_rfl) (by kernel_rfl) ((FormatInt_14 _).mono ?_))
  rintro e W1 ⟨rfl, hb1⟩
  refine ⟨_, rfl, ?_⟩
  have hB := hb1
  refine g_pure 1 ⟨#[.int .i64 14, undef, .string ⟨#[49, 52]⟩, .int .i64 14, .string ⟨#[49, 52]⟩], []⟩ (by kernel_rfl) ?_
  refine wpList_nil ?_
  refine wp_ret ?_
  show bodyPost _ _ _ .ret _ _
  exact g_ret (.string ⟨#[49, 52]⟩) rfl (by kernel_rfl) ⟨rfl, hB⟩
set_option maxRecDepth 100000 in
set_option maxHeartbeats 1000000 in
theorem Itoa_14 (w : World) :
    Calls Tryd.prog 71 #[.int .i64 14] w (Ret (.string ⟨#[49, 52]⟩) w) := by
  refine calls_of_wp Tryd.func71 rfl ?_
  refine g_fr ⟨#[.int .i64 14, undef, undef, undef, undef], []⟩ (by kernel_rfl) ?_
  refine wp_seq ?_
  refine wp_region_lit ?_
  refine g_pure 1 ⟨#[.int .i64 14, undef, .string ⟨#[]⟩, undef, undef], []⟩ (by kernel_rfl) ?_
  refine wpList_nil ?_
  refine wp_seq ?_
  refine wp_region_lit ?_
  refine g_pure 1 ⟨#[.int .i64 14, undef, .string ⟨#[]⟩, .int .i64 14, undef], []⟩ (by kernel_rfl) ?_
  refine g_op (by kernel_rfl) (op_call 72 #[.int .i64 14] rfl rfl (fun _ _ => by kernel_rfl) (by kernel_rfl) ((iItoa_14 _).mono ?_))
  rintro e W1 ⟨rfl, hb1⟩
  refine ⟨_, rfl, ?_⟩
  have hB := hb1
  refine g_pure 1 ⟨#[.int .i64 14, undef, .string ⟨#[49, 52]⟩, .int .i64 14, .string ⟨#[49, 52]⟩], []⟩ (by kernel_rfl) ?_
  refine wpList_nil ?_
  refine wp_ret ?_
  show bodyPost _ _ _ .ret _ _
  exact g_ret (.string ⟨#[49, 52]⟩) rfl (by kernel_rfl) ⟨rfl, hB⟩
theorem itoa14 : (Lib.itoa 14).toArray = #[49, 52] := by decide +kernel
theorem Itoas.at14 (w : World) : Itoas w 14 := fun W _ => by
  have := Itoa_14 W
  rwa [show (#[49, 52] : Array UInt8) = (Lib.itoa 14).toArray from itoa14.symm] at this
theorem text14 : textB [] (some 14) = ⟨#[101, 114, 114, 111, 114, 32, 49, 52]⟩ := by
  have h : numB 14 = ⟨#[49, 52]⟩ := by unfold numB; rw [itoa14]
  unfold textB; rw [h]; rfl
theorem fault_Text14 (w : World) : Calls Tryd.prog 25 #[.iface 36 (.int .i64 14)] w (Ret (.string ⟨#[101, 114, 114, 111, 114, 32, 49, 52]⟩) w) := by
  have := fault_Text (some 14) [] _ w (by decide) (show ErrV w [] (some 14) (.iface 36 (.int .i64 14)) from rfl) (fun _ => rfl) (fun b hb => by
    rcases hb with hb | hb
    · cases hb
    · obtain rfl : b = 14 := by injection hb with h; exact h.symm
      exact ⟨Itoas.at14 w, by unfold numB; rw [itoa14]; decide⟩)
  rwa [text14] at this
theorem image_OfN (a : Option Addr) (c n m : Nat) (l : List UInt8) (w : World) (hn : l.length = n) (hm : min (n / 256) 14400 * 256 = m) (h : Bys w (.slice a n c) l) (hl : n ≤ 100000000) (hc : n ≤ c) :
    Calls Tryd.prog 24 #[.slice a n c] w (RetS (fun w' r => ∃ b p c, r = .pointer (some ⟨b, 0, none⟩) ∧ w.heap.size ≤ b ∧ Blk w' b [.slice p m c] 75 ∧ w'.ownsRow w.heap.size 5 1 (.slice p m c) m ((l.take m).map bv)) w) := by
  subst hn hm; exact image_Of a c l w h hl hc
theorem alloc_NewN (b : Nat) (p0 : Option Addr) (n c f N : Nat) (fi : Int) (hfi : fi = (f : Int)) (hN : n / 256 - f = N) (w : World) (hk : Blk w b [.slice p0 n c] 75) (hn : n ≤ 3686400) (h1 : 1 ≤ f) (h2 : f ≤ n / 256) :
    Calls Tryd.prog 11 #[.pointer (some ⟨b, 0, none⟩), .int .i64 fi] w (RetS (fun w' r => ∃ ba p c2, r = .tuple #[.pointer (some ⟨ba, 0, none⟩), .nilIface] ∧ w.heap.size ≤ ba ∧ Blk w' ba [.slice p N c2, .int .i64 0, .pointer (some ⟨b, 0, none⟩)] 29 ∧ w'.ownsRow w.heap.size 3 1 (.slice p N c2) N ((rngJ f N).map (Value.int .i64))) w) := by
  subst hfi hN; exact alloc_New b p0 n c f w hk hn h1 h2
set_option maxRecDepth 100000 in
set_option maxHeartbeats 1000000 in
theorem lives16 (w : World) :
    Calls Tryd.prog 13 #[] w (Ret (.bool true) w) := by
  refine calls_of_wp Tryd.func13 rfl ?_
  refine g_fr ⟨#[undef, undef, undef, undef, undef, undef, undef, undef, undef, undef, undef, undef, undef, undef, undef, undef, undef, undef, undef, undef, undef, undef, undef, undef, undef, undef, undef, undef, undef, undef, undef, undef, undef, undef, undef, undef, undef, undef, undef, undef, undef, undef, undef, undef, undef, undef, undef, undef, undef, undef, undef, undef, undef, undef, undef], []⟩ (by kernel_rfl) ?_
  refine wp_seq ?_
  refine wp_region_lit ?_
  refine g_pure 1 ⟨#[.bool false, undef, undef, undef, undef, undef, undef, undef, undef, undef, undef, undef, undef, undef, undef, undef, undef, undef, undef, undef, undef, undef, undef, undef, undef, undef, undef, undef, undef, undef, undef, undef, undef, undef, undef, undef, undef, undef, undef, undef, undef, undef, undef, undef, undef, undef, undef, undef, undef, undef, undef, undef, undef, undef, undef], []⟩ (by kernel_rfl) ?_
  refine wpList_nil ?_
  refine wp_seq ?_
  refine wp_region_lit ?_
  refine g_op (by kernel_rfl) (op_make 768 (.int .u8 0) 1 1 ((List.replicate 768 (0 : UInt8)).map bv) rfl rfl rfl Tryd.underlying22 (by kernel_rfl) rfl (by omega) (by omega) (zerosB 768) ?_)
  intro b1 W1 n1
  have g1 := n1.ge (Below.refl w.heap.size _)
  have hB := n1.below
  have k1 := n1.blk
  have o2 := own_of_blk (size := 1) (n := 768) k1 g1 (by rw [List.length_map, List.length_replicate]) (by unfold maxLen; omega)
  refine g_op (by kernel_rfl) (op_call 24 #[.slice (some ⟨b1, 0, none⟩) 768 768] rfl rfl (fun _ _ => by kernel_rfl) (by kernel_rfl) ((image_OfN (some ⟨b1, 0, none⟩) 768 768 768 (List.replicate 768 (0 : UInt8)) _ List.length_replicate (by decide) (bys_of (own_sl o2) List.length_replicate) (by decide) (by decide)).mono ?_))
  rintro e W3 ⟨_, rfl, hb3, bi, pi, ci, rfl, gi, ki, hd⟩
  refine ⟨_, rfl, ?_⟩
  replace hB := Bl.next hB hb3
  have hs9 := hB.size
  have hs4 : w.heap.size ≤ (W3).heap.size := Nat.le_trans (Nat.le_refl _) hB.size
  refine g_op (by kernel_rfl) (op_call 11 #[.pointer (some ⟨bi, 0, none⟩), .int .i64 1] rfl rfl (fun _ _ => by kernel_rfl) (by kernel_rfl) ((alloc_NewN bi pi 768 ci 1 2 1 rfl (by decide) _ ki (by decide) (by decide) (by decide)).mono ?_))
  rintro e W4 ⟨_, rfl, hb4, ba, pa, ca, rfl, ga, ka, ho⟩
  refine ⟨_, rfl, ?_⟩
  replace hB := Bl.next hB hb4
  replace ki := ki.below hb4
  replace ho := own_mono ho hs4
  replace ga := Nat.le_trans hs9 ga
  refine g_pure 5 ⟨#[.bool false, .pointer (some ⟨ba, 0, none⟩), .nilIface, undef, undef, undef, undef, undef, undef, .tuple #[.pointer (some ⟨ba, 0, none⟩), .nilIface], .slice (some ⟨b1, 0, none⟩) 768 768, .pointer (some ⟨bi, 0, none⟩), .tuple #[.pointer (some ⟨ba, 0, none⟩), .nilIface], .pointer (some ⟨ba, 0, none⟩), .nilIface, undef, undef, undef, undef, undef, undef, undef, undef, undef, undef, undef, undef, undef, undef, undef, undef, undef, undef, undef, undef, undef, undef, undef, undef, undef, undef, undef, undef, undef, undef, undef, undef, undef, undef, undef, undef, undef, undef, undef, undef], []⟩ (by kernel_rfl) ?_
  refine wpList_nil ?_
  refine wp_seq ?_
  refine wp_seq ?_
  refine wp_region_lit ?_
  refine g_pure 6 ⟨#[.bool false, .pointer (some ⟨ba, 0, none⟩), .nilIface, undef, undef, undef, undef, undef, undef, .tuple #[.pointer (some ⟨ba, 0, none⟩), .nilIface], .slice (some ⟨b1, 0, none⟩) 768 768, .pointer (some ⟨bi, 0, none⟩), .tuple #[.pointer (some ⟨ba, 0, none⟩), .nilIface], .pointer (some ⟨ba, 0, none⟩), .nilIface, .nilIface, .bool false, .bool false, .pointer (some ⟨ba, 0, none⟩), .bool false, .bool false, undef, undef, undef, undef, undef, undef, undef, undef, undef, undef, undef, undef, undef, undef, undef, undef, undef, undef, undef, undef, undef, undef, undef, undef, undef, undef, undef, undef, undef, undef, undef, undef, undef, undef], []⟩ (by kernel_rfl) ?_
  refine wpList_nil ?_
  refine wp_cond_false rfl ?_
  refine wp_skip ?_
  refine wp_seq ?_
  refine wp_region_lit ?_
  refine g_pure 1 ⟨#[.bool false, .pointer (some ⟨ba, 0, none⟩), .nilIface, undef, undef, undef, undef, undef, undef, .tuple #[.pointer (some ⟨ba, 0, none⟩), .nilIface], .slice (some ⟨b1, 0, none⟩) 768 768, .pointer (some ⟨bi, 0, none⟩), .tuple #[.pointer (some ⟨ba, 0, none⟩), .nilIface], .pointer (some ⟨ba, 0, none⟩), .nilIface, .nilIface, .bool false, .bool false, .pointer (some ⟨ba, 0, none⟩), .bool false, .bool false, undef, .pointer (some ⟨ba, 0, none⟩), undef, undef, undef, undef, undef, undef, undef, undef, undef, undef, undef, undef, undef, undef, undef, undef, undef, undef, undef, undef, undef, undef, undef, undef, undef, undef, undef, undef, undef, undef, undef, undef], []⟩ (by kernel_rfl) ?_
  refine g_op (by kernel_rfl) (op_call 4 #[.pointer (some ⟨ba, 0, none⟩)] rfl rfl (fun _ _ => by kernel_rfl) (by kernel_rfl) ((alloc_Next w.heap.size ba pa 2 ca 0 (rngJ 1 2) (rngJ_len 1 2) bi 1 (rngJ_get (by decide)) _ ka ho ga hB.size (by decide) (by decide)).mono ?_))
  rintro e W5 ⟨rfl, hb5, hO5, kA, ho⟩
  refine ⟨_, rfl, ?_⟩
  replace hB := hB.trans hb5
  replace ki := ki.only hO5 (by decide)
  refine g_pure 5 ⟨#[.bool false, .pointer (some ⟨ba, 0, none⟩), .nilIface, .int .i64 1, .nilIface, undef, undef, undef, undef, .tuple #[.pointer (some ⟨ba, 0, none⟩), .nilIface], .slice (some ⟨b1, 0, none⟩) 768 768, .pointer (some ⟨bi, 0, none⟩), .tuple #[.pointer (some ⟨ba, 0, none⟩), .nilIface], .pointer (some ⟨ba, 0, none⟩), .nilIface, .nilIface, .bool false, .bool false, .pointer (some ⟨ba, 0, none⟩), .bool false, .bool false, .tuple #[.int .i64 1, .nilIface], .pointer (some ⟨ba, 0, none⟩), .tuple #[.int .i64 1, .nilIface], .int .i64 1, .nilIface, undef, undef, undef, undef, undef, undef, undef, undef, undef, undef, undef, undef, undef, undef, undef, undef, undef, undef, undef, undef, undef, undef, undef, undef, undef, undef, undef, undef, undef], []⟩ (by kernel_rfl) ?_
  refine wpList_nil ?_
  refine wp_seq ?_
  refine wp_region_lit ?_
  refine g_pure 1 ⟨#[.bool false, .pointer (some ⟨ba, 0, none⟩), .nilIface, .int .i64 1, .nilIface, undef, undef, undef, undef, .tuple #[.pointer (some ⟨ba, 0, none⟩), .nilIface], .slice (some ⟨b1, 0, none⟩) 768 768, .pointer (some ⟨bi, 0, none⟩), .tuple #[.pointer (some ⟨ba, 0, none⟩), .nilIface], .pointer (some ⟨ba, 0, none⟩), .nilIface, .nilIface, .bool false, .bool false, .pointer (some ⟨ba, 0, none⟩), .bool false, .bool false, .tuple #[.int .i64 1, .nilIface], .pointer (some ⟨ba, 0, none⟩), .tuple #[.int .i64 1, .nilIface], .int .i64 1, .nilIface, undef, .pointer (some ⟨ba, 0, none⟩), undef, undef, undef, undef, undef, undef, undef, undef, undef, undef, undef, undef, undef, undef, undef, undef, undef, undef, undef, undef, undef, undef, undef, undef, undef, undef, undef], []⟩ (by kernel_rfl) ?_
  refine g_op (by kernel_rfl) (op_call 4 #[.pointer (some ⟨ba, 0, none⟩)] rfl rfl (fun _ _ => by kernel_rfl) (by kernel_rfl) ((alloc_Next w.heap.size ba pa 2 ca 1 (rngJ 1 2) (rngJ_len 1 2) bi 2 (rngJ_get (by decide)) _ kA ho ga hB.size (by decide) (by decide)).mono ?_))
  rintro e W6 ⟨rfl, hb6, hO6, kA, ho⟩
  refine ⟨_, rfl, ?_⟩
  replace hB := hB.trans hb6
  replace ki := ki.only hO6 (by decide)
  refine g_pure 5 ⟨#[.bool false, .pointer (some ⟨ba, 0, none⟩), .nilIface, .int .i64 1, .nilIface, .int .i64 2, .nilIface, undef, undef, .tuple #[.pointer (some ⟨ba, 0, none⟩), .nilIface], .slice (some ⟨b1, 0, none⟩) 768 768, .pointer (some ⟨bi, 0, none⟩), .tuple #[.pointer (some ⟨ba, 0, none⟩), .nilIface], .pointer (some ⟨ba, 0, none⟩), .nilIface, .nilIface, .bool false, .bool false, .pointer (some ⟨ba, 0, none⟩), .bool false, .bool false, .tuple #[.int .i64 1, .nilIface], .pointer (some ⟨ba, 0, none⟩), .tuple #[.int .i64 1, .nilIface], .int .i64 1, .nilIface, .tuple #[.int .i64 2, .nilIface], .pointer (some ⟨ba, 0, none⟩), .tuple #[.int .i64 2, .nilIface], .int .i64 2, .nilIface, undef, undef, undef, undef, undef, undef, undef, undef, undef, undef, undef, undef, undef, undef, undef, undef, undef, undef, undef, undef, undef, undef, undef, undef], []⟩ (by kernel_rfl) ?_
  refine wpList_nil ?_
  refine wp_seq ?_
  refine wp_region_lit ?_
  refine g_pure 1 ⟨#[.bool false, .pointer (some ⟨ba, 0, none⟩), .nilIface, .int .i64 1, .nilIface, .int .i64 2, .nilIface, undef, undef, .tuple #[.pointer (some ⟨ba, 0, none⟩), .nilIface], .slice (some ⟨b1, 0, none⟩) 768 768, .pointer (some ⟨bi, 0, none⟩), .tuple #[.pointer (some ⟨ba, 0, none⟩), .nilIface], .pointer (some ⟨ba, 0, none⟩), .nilIface, .nilIface, .bool false, .bool false, .pointer (some ⟨ba, 0, none⟩), .bool false, .bool false, .tuple #[.int .i64 1, .nilIface], .pointer (some ⟨ba, 0, none⟩), .tuple #[.int .i64 1, .nilIface], .int .i64 1, .nilIface, .tuple #[.int .i64 2, .nilIface], .pointer (some ⟨ba, 0, none⟩), .tuple #[.int .i64 2, .nilIface], .int .i64 2, .nilIface, undef, .pointer (some ⟨ba, 0, none⟩), undef, undef, undef, undef, undef, undef, undef, undef, undef, undef, undef, undef, undef, undef, undef, undef, undef, undef, undef, undef, undef, undef], []⟩ (by kernel_rfl) ?_
  refine g_op (by kernel_rfl) (op_call 4 #[.pointer (some ⟨ba, 0, none⟩)] rfl rfl (fun _ _ => by kernel_rfl) (by kernel_rfl) ((alloc_Next_none ba bi pa 2 ca 2 _ kA (by decide)).mono ?_))
  rintro e W7 ⟨rfl, hb7⟩
  refine ⟨_, rfl, ?_⟩
  replace hB := Bl.next hB hb7
  replace ki := ki.below hb7
  replace kA := kA.below hb7
  replace ho := own_below ho hb7
  refine g_pure 5 ⟨#[.bool false, .pointer (some ⟨ba, 0, none⟩), .nilIface, .int .i64 1, .nilIface, .int .i64 2, .nilIface, .int .i64 0, .iface 36 (.int .i64 14), .tuple #[.pointer (some ⟨ba, 0, none⟩), .nilIface], .slice (some ⟨b1, 0, none⟩) 768 768, .pointer (some ⟨bi, 0, none⟩), .tuple #[.pointer (some ⟨ba, 0, none⟩), .nilIface], .pointer (some ⟨ba, 0, none⟩), .nilIface, .nilIface, .bool false, .bool false, .pointer (some ⟨ba, 0, none⟩), .bool false, .bool false, .tuple #[.int .i64 1, .nilIface], .pointer (some ⟨ba, 0, none⟩), .tuple #[.int .i64 1, .nilIface], .int .i64 1, .nilIface, .tuple #[.int .i64 2, .nilIface], .pointer (some ⟨ba, 0, none⟩), .tuple #[.int .i64 2, .nilIface], .int .i64 2, .nilIface, .tuple #[.int .i64 0, .iface 36 (.int .i64 14)], .pointer (some ⟨ba, 0, none⟩), .tuple #[.int .i64 0, .iface 36 (.int .i64 14)], .int .i64 0, .iface 36 (.int .i64 14), undef, undef, undef, undef, undef, undef, undef, undef, undef, undef, undef, undef, undef, undef, undef, undef, undef, undef, undef], []⟩ (by kernel_rfl) ?_
  refine wpList_nil ?_
  refine wp_seq ?_
  refine wp_region_lit ?_
  refine g_pure 16 ⟨#[.bool false, .pointer (some ⟨ba, 0, none⟩), .nilIface, .int .i64 1, .nilIface, .int .i64 2, .nilIface, .int .i64 0, .iface 36 (.int .i64 14), .tuple #[.pointer (some ⟨ba, 0, none⟩), .nilIface], .slice (some ⟨b1, 0, none⟩) 768 768, .pointer (some ⟨bi, 0, none⟩), .tuple #[.pointer (some ⟨ba, 0, none⟩), .nilIface], .pointer (some ⟨ba, 0, none⟩), .nilIface, .nilIface, .bool false, .bool false, .pointer (some ⟨ba, 0, none⟩), .bool false, .bool false, .tuple #[.int .i64 1, .nilIface], .pointer (some ⟨ba, 0, none⟩), .tuple #[.int .i64 1, .nilIface], .int .i64 1, .nilIface, .tuple #[.int .i64 2, .nilIface], .pointer (some ⟨ba, 0, none⟩), .tuple #[.int .i64 2, .nilIface], .int .i64 2, .nilIface, .tuple #[.int .i64 0, .iface 36 (.int .i64 14)], .pointer (some ⟨ba, 0, none⟩), .tuple #[.int .i64 0, .iface 36 (.int .i64 14)], .int .i64 0, .iface 36 (.int .i64 14), .int .i64 1, .bool true, .bool true, .nilIface, .bool true, .bool true, .bool true, .int .i64 2, .bool true, .bool true, .bool true, .nilIface, .bool true, .bool true, .bool true, .iface 36 (.int .i64 14), undef, undef, undef], []⟩ (by kernel_rfl) ?_
  refine g_op (by kernel_rfl) (op_call 25 #[.iface 36 (.int .i64 14)] rfl rfl (fun _ _ => by kernel_rfl) (by kernel_rfl) ((fault_Text14 _).mono ?_))
  rintro e W8 ⟨rfl, hb8⟩
  refine ⟨_, rfl, ?_⟩
  replace hB := Bl.next hB hb8
  replace ki := ki.below hb8
  replace kA := kA.below hb8
  replace ho := own_below ho hb8
  refine g_pure 3 ⟨#[.bool true, .pointer (some ⟨ba, 0, none⟩), .nilIface, .int .i64 1, .nilIface, .int .i64 2, .nilIface, .int .i64 0, .iface 36 (.int .i64 14), .tuple #[.pointer (some ⟨ba, 0, none⟩), .nilIface], .slice (some ⟨b1, 0, none⟩) 768 768, .pointer (some ⟨bi, 0, none⟩), .tuple #[.pointer (some ⟨ba, 0, none⟩), .nilIface], .pointer (some ⟨ba, 0, none⟩), .nilIface, .nilIface, .bool false, .bool false, .pointer (some ⟨ba, 0, none⟩), .bool false, .bool false, .tuple #[.int .i64 1, .nilIface], .pointer (some ⟨ba, 0, none⟩), .tuple #[.int .i64 1, .nilIface], .int .i64 1, .nilIface, .tuple #[.int .i64 2, .nilIface], .pointer (some ⟨ba, 0, none⟩), .tuple #[.int .i64 2, .nilIface], .int .i64 2, .nilIface, .tuple #[.int .i64 0, .iface 36 (.int .i64 14)], .pointer (some ⟨ba, 0, none⟩), .tuple #[.int .i64 0, .iface 36 (.int .i64 14)], .int .i64 0, .iface 36 (.int .i64 14), .int .i64 1, .bool true, .bool true, .nilIface, .bool true, .bool true, .bool true, .int .i64 2, .bool true, .bool true, .bool true, .nilIface, .bool true, .bool true, .bool true, .iface 36 (.int .i64 14), .string ⟨#[101, 114, 114, 111, 114, 32, 49, 52]⟩, .bool true, .bool true], []⟩ (by kernel_rfl) ?_
  refine wpList_nil ?_
  refine wp_ret ?_
  show bodyPost _ _ _ .ret _ _
  exact g_ret (.bool true) rfl (by kernel_rfl) ⟨rfl, hB⟩
end Go.Proofs.YtcmbnkfkbdccoaaDoor

