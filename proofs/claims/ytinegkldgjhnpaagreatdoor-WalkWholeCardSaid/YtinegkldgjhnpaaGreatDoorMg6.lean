/- The document's answer for layer 14: Scan. image.Of and block.Write at an image in a row of its own. The lives of law 14. errors.Is of an error that lies in memory (Faults over an Errno) at an Errno, and fault.Is. The statement WalkRises, walked. What is found of a tree is as the document has it: SameEntries, Same, same. Whole, the program's and the document's; the statements WalkScans and WalkWhole, walked. How a slice of bytes that came in reads: as a list of bytes. -/
import Derived.Laws.StructEq
import Derived.Test.YtinegkldgjhnpaaGreatDoorMg5
namespace Go.Proofs.YtinegkldgjhnpaaGreatDoor
open Go.RowKit Go.Extern.Stop Go.Stop Go.Extern
set_option linter.unusedVariables false
attribute [local irreducible] wpList wpAnyH Code.wp Oper.wp Go

set_option maxRecDepth 100000 in
set_option maxHeartbeats 16000000 in
theorem ref14_Scan (B bm : Nat) (p : Option Addr) (k c : Nat) (l : List UInt8) (root tree fuel : Int) (w : World) (hI : RefI B bm p k c l w) (hfu : fuel ≤ 1000) :
    Calls Tryz.prog 11 #[.pointer (some ⟨bm, 0, none⟩), .int .i64 root, .int .i64 tree, .int .i64 fuel] w (RScanP (scanW l root tree fuel) w) := by
 refine zin 186 Tryz.func11 ?_
 refine xa 2 [.slice none 0 0, .slice none 0 0, .int .i64 0, .int .i64 0, .slice none 0 0] 35 fun b1 W1 n1 => ?_
 refine xa 5 [.slice none 0 0, .slice none 0 0, .int .i64 0, .int .i64 0, .slice none 0 0] 35 fun b2 W2 n2 => ?_
 have d2_b1 := n2.ne n1.blk
 refine xsv 0 n2.blk [.slice none 0 0, .slice none 0 0, .int .i64 0, .int .i64 0, .slice none 0 0] fun W3 u3 k3 => ?_
 have g2 := n2.ge n1.below
 refine xbs 7 1 [.int .i64 root, .int .i64 0, .int .i64 281474976710656, .slice none 0 0, .int .i64 0] 102 fun b4 W4 n4 => ?_
 have g4 := n4.ge (u3.below (Bl.next n1.below n2.below) g2)
 have hw0 : SufV w.heap.size W4 (some ⟨b4, 0, none⟩) 1 [⟨root, 0, 281474976710656, [], 0, none, 0⟩] := SufV.of (own_of_blk (size := 5) (n := 1) n4.blk g4 rfl (by decide)) rfl
 have hI'1 := (((hI.below n1.below).below n2.below).only (Only.of_upd (T := [35]) u3 n2.blk (by decide)) (by decide)).below n4.below
 have hB := Bl.next (u3.below (Bl.next n1.below n2.below) g2) n4.below
 have k1'1 := (u3.blk (n1.blk.below n2.below) (Ne.symm (Ne.symm d2_b1))).below n4.below
 have k3'1 := k3.below n4.below
 refine zl 5 186 (fun zm zkv V => ∃ (s : WS) (ts : List Wt) (pe pb pf : Option Addr) (ce cb cf : Nat) (fv : List Ft) (aw : Option Addr) (cw : Nat), zkv = [(0, .pointer (some ⟨bm, 0, none⟩)), (2, .int .i64 tree), (3, .int .i64 fuel), (8, .pointer (some ⟨b1, 0, none⟩)), (9, .pointer (some ⟨b2, 0, none⟩)), (10, .slice aw ts.length cw)] ∧ zm = 20 * (fuel.toNat - s.looked) + ts.length ∧ Below w.heap.size w V ∧ Blk V b1 ([.slice none 0 0, .slice none 0 0, .int .i64 0, .int .i64 0, .slice none 0 0]) 35 ∧ Blk V b2 ([.slice pe s.es.length ce, .slice pb s.bs.length cb, .int .i64 s.deep, .int .i64 (↑s.looked : Int), .slice pf fv.length cf]) 35 ∧ V.ownsRow w.heap.size 108 3 (.slice pe s.es.length ce) s.es.length (s.es.flatMap entC) ∧ V.ownsRow w.heap.size 3 1 (.slice pb s.bs.length cb) s.bs.length (s.bs.map (Value.int .i64)) ∧ V.ownsRow w.heap.size 45 2 (.slice pf fv.length cf) fv.length (fv.flatMap fltC) ∧ SufV w.heap.size V aw cw ts ∧ KeptI w.heap.size V (.slice pb s.bs.length cb) (ts.map wayK ++ fv.map fltK) ∧ RefI B bm p k c l V ∧ WaitOk l tree fuel (scanW l root tree fuel) ts s ∧ fv.map fltP = s.fs) ⟨ws0, [⟨root, 0, 281474976710656, [], 0, none, 0⟩], none, none, none, 0, 0, 0, [], (some ⟨b4, 0, none⟩), 1, rfl, rfl, hB, k1'1, k3'1, World.ownsRow_nil _ _ _ _, World.ownsRow_nil _ _ _ _, World.ownsRow_nil _ _ _ _, hw0, (fun x hx => by rw [show x = wayK ⟨root, 0, 281474976710656, [], 0, none, 0⟩ from List.mem_singleton.1 hx]; exact ⟨World.ownsRow_nil _ _ _ _, Apart.nil _⟩), hI'1, wait0 l root tree fuel, rfl⟩ ?_
 rintro _ _ W5 ⟨s, ts, pe, pb, pf, ce, cb, cf, fv, aw, cw, rfl, rfl, hB_5, k5_b1, k5_b2, hEn, hBl, hFl, hWt, hKi, hI, hwo, hfv⟩ J5 hJ5 r5
 have hgr := hwo.grow
 obtain ⟨hfe, hfb, hff⟩ := scanW_few l root tree fuel hfu
 have hfl : fv.length = s.fs.length := by rw [← hfv]; simp
 have hg1 := hgr.1
 have hg2 := hgr.2.1
 have hg3 := hgr.2.2
 have hfew := hwo.few
 refine xid 8 ((↑ts.length : Int) > (0 : Int)) (fun hc6 => ?_) (fun hc6 => ?_)
 · obtain ⟨t, r, htr⟩ : ∃ t r, ts = t :: r := by
     cases ts with
     | nil => simp at hc6
     | cons t r => exact ⟨t, r, rfl⟩
   have hwo1 : WaitOk l tree fuel (scanW l root tree fuel) (t :: r) s := htr ▸ hwo
   have hwl : t.way.length ≤ 16 := hwo1.way t List.mem_cons_self
   have htl : ts.length = r.length + 1 := by rw [htr]; rfl
   have hWs := SufV.at_ hWt
   have hKt : KeptI w.heap.size W5 (.slice pb s.bs.length cb) ((t :: r).map wayK ++ fv.map fltK) := by rw [← htr]; exact hKi
   refine xx 6 _ ts.length 0 5 (Sts.cell (hWs.sts htr) wtC_len t (k := 0) (i := 0) (by simp) rfl).1 ?_
   refine xlv 0 (Sts.rp (k := 0) (hWs.sts htr) wtC_len t (by simp) (by decide)) ?_
   refine xa 0 [.int .i64 0, .int .i64 0, .int .i64 0, .slice none 0 0, .int .i64 0] 102 fun b7 W7 n7 => ?_
   have g7 := n7.ge hB_5
   refine xsv 0 n7.blk [.int .i64 t.no, .int .i64 t.lo, .int .i64 t.hi, .slice t.wa t.way.length t.wc, .int .i64 t.ft] fun W8 u8 k8 => ?_
   refine xsL 5 (fun _ _ _ _ zo zx zy V => run_sliceLA (k := 1) (b := aw) (n := ts.length) (c := cw) (i := 1) (ki := .i64) 5 zo zx zy rfl (by omega) Tryz.underlying103 (by kernel_rfl) V) ?_
   refine xb 7 4 k8 ?_
   refine xin 3 t.ft (0 : Int) (fun hc9 => ?_) (fun hc9 => ?_)
   · have hft := hc9
     refine xd 1 (.t w.heap.size [45, 35]) ?_
     have k8'1 := k8.below (below_drew W8)
     refine xbt (.e [0, 2] 3) 3 w.heap.size [45, 35] k8'1 ?_
     refine xbt (.e [4] 5) 0 w.heap.size [45, 35] k8'1 ?_
     refine xbt (.e [6] 7) 4 w.heap.size [45, 35] k8'1 ?_
     refine xm2 0 1 8 ?_ ?_
     · have k5_b2'1 := (u8.blkT (k5_b2.below n7.below) n7.blk (by decide)).below (below_drew W8)
       refine xb 0 4 k5_b2'1 ?_
       have hBl'1 := own_below (u8.own2 (own_below hBl n7.below) n7.blk (by decide)) (below_drew W8)
       have hB'1 := Bl.next (u8.below (Bl.next hB_5 n7.below) g7) (below_drew W8)
       have hBlA := hBl'1
       have hszA := hB'1.size
       refine yc (.o [] 8) (args := #[.int .i64 t.no, .int .i64 t.ft]) (.t w.heap.size [45, 35]) (ref11_AtK t.no t.ft _ hft) ?_
       rintro _ W10 ⟨fa, fc, rfl, hb10, hNA⟩
       refine ⟨(SF.of_below _ hb10), ?_⟩
       have hKt'1 := (((hKt.below n7.below).only (Only.of_upd (T := [102]) u8 n7.blk (by decide)) (by decide)).below (below_drew W8)).below hb10
       refine yc (.o [] 9) (args := #[.slice t.wa t.way.length t.wc, .agg #[.slice fa 1 fc, .int .i64 t.ft]]) (.t w.heap.size [45, 35]) (ref14_wrapK t.wa t.wc t.way t.ft _ fa fc t.no _ hft (KeptI.hd hKt'1).ints (by omega) hNA) ?_
       rintro _ W11 ⟨fa2, fc2, rfl, hb11, hNB⟩
       refine ⟨(SF.of_below _ hb11), ?_⟩
       have hNp := hNB.apart hBlA (Nat.le_refl _)
       refine xbs (.o [] 10) 1 [.slice fa2 ((t.way ++ [t.no]).length) fc2, .int .i64 t.ft] 45 fun b12 W12 n12 => ?_
       have hB'2 := Bl.next (Bl.next hB'1 hb10) hb11
       have g12 := n12.ge hB'2
       have hFl'1 := own_below (own_below (own_below (u8.own2 (own_below hFl n7.below) n7.blk (by decide)) (below_drew W8)) hb10) hb11
       have r12_hFl := own_ne hFl'1 n12
       have hFl'2 := own_below hFl'1 n12.below
       have hB'3 := Bl.next hB'2 n12.below
       refine ybi (.o [] 11) (.t w.heap.size [45, 35]) fun _ _ _ _ zJ zQ zo zx zy zK => op_app (m := 1) (news := [.slice fa2 ((t.way ++ [t.no]).length) fc2, .int .i64 t.ft]) (.agg #[.slice none 0 0, .int .i64 0]) 2 32 ((fv ++ [(Ft.mk (t.way ++ [t.no]) t.ft fa2 fc2)]).length) (((fv ++ [(Ft.mk (t.way ++ [t.no]) t.ft fa2 fc2)]).flatMap fltC)) zo Tryz.underlying33 (by kernel_rfl) rfl (by decide) zx hFl'2 zy (n12.blk.sl 1 1 (by decide) (by decide)) rfl (by simp [Value.oneCell']) (by unfold maxLen; omega) (by omega) hB'3.size (by simp) (by rw [List.flatMap_append]; rfl) fun px13 cx13 W13 o13 hg13 hb13 => ?_
       refine zK _ _ (sft_grown hb13 hg13 hFl'2 (by decide)) ?_
       have k5_b2'2 := (((k5_b2'1.below hb10).below hb11).below n12.below).grown hg13 hFl'2 (by decide)
       refine ys (.o [12] 13) k5_b2'2 [.slice pe s.es.length ce, .slice pb s.bs.length cb, .int .i64 s.deep, .int .i64 (↑s.looked : Int), .slice px13 ((fv ++ [(Ft.mk (t.way ++ [t.no]) t.ft fa2 fc2)]).length) cx13] (.t w.heap.size [45, 35]) fun W14 u14 k14 => ⟨(sft_upd u14 k5_b2'2 g2 (by decide)), ?_⟩
       refine xv1 5 10 (show (.slice (cutA aw 1 cw 5) (ts.length - 1) (cw - 1) : Value) = .slice (cutA aw 1 cw 5) r.length (cw - 1) from by rw [htr]; rfl) ?_
       have hWs'1 := (((((((hWs.below n7.below).updN u8 n7 rfl).below (below_drew W8)).below hb10).below hb11).below n12.below).only (Only.of_grown (T := [45]) hg13 hFl'2 (by decide)) (by decide)).only (Only.of_upd (T := [35]) u14 k5_b2'2 (by decide)) (by decide)
       have hKt'2 := (((hKt'1.below hb11).below n12.below).only (Only.of_grown (T := [45]) hg13 hFl'2 (by decide)) (by decide)).only (Only.of_upd (T := [35]) u14 k5_b2'2 (by decide)) (by decide)
       have hNB'1 := ((hNB.below n12.below).only (Only.of_grown (T := [45]) hg13 hFl'2 (by decide)) (by decide)).only (Only.of_upd (T := [35]) u14 k5_b2'2 (by decide)) (by decide)
       have hB'4 := u14.below (hB'3.trans hb13) g2
       have k5_b1'1 := u14.blk ((((((u8.blkT (k5_b1.below n7.below) n7.blk (by decide)).below (below_drew W8)).below hb10).below hb11).below n12.below).grown hg13 hFl'2 (by decide)) (Ne.symm (Ne.symm d2_b1))
       have hEn'1 := u14.own2 (own_grown (own_below (own_below (own_below (own_below (u8.own2 (own_below hEn n7.below) n7.blk (by decide)) (below_drew W8)) hb10) hb11) n12.below) hg13 hFl'2 (by decide)) k5_b2'2 (by decide)
       have hBl'2 := u14.own2 (own_grown (own_below (own_below (own_below hBl'1 hb10) hb11) n12.below) hg13 hFl'2 (by decide)) k5_b2'2 (by decide)
       have o13'1 := u14.own2 o13 k5_b2'2 (by decide)
       have hI'2 := (((((((hI.below n7.below).only (Only.of_upd (T := [102]) u8 n7.blk (by decide)) (by decide)).below (below_drew W8)).below hb10).below hb11).below n12.below).only (Only.of_grown (T := [45]) hg13 hFl'2 (by decide)) (by decide)).only (Only.of_upd (T := [35]) u14 k5_b2'2 (by decide)) (by decide)
       refine ze 0 (hJ5 _ _ _ ⟨(noteW t.way [t.no] t.ft s), r, pe, pb, px13, ce, cb, cx13, (fv ++ [(Ft.mk (t.way ++ [t.no]) t.ft fa2 fc2)]), (cutA aw 1 cw 5), (cw - 1), rfl, rfl, hB'4, k5_b1'1, k14, hEn'1, hBl'2, o13'1, (SufN.tail hWs'1 htr), (KeptI.note (f := (Ft.mk (t.way ++ [t.no]) t.ft fa2 fc2)) hKt'2 (hNB'1.mono hszA) hNp), hI'2, hwo1.fault hft, map_fltP_snoc hfv⟩ ?_)
       show 20 * (fuel.toNat - s.looked) + r.length < 20 * (fuel.toNat - s.looked) + ts.length
       omega
     have hBl'3 := own_below (u8.own2 (own_below hBl n7.below) n7.blk (by decide)) (below_drew W8)
     have hB'5 := Bl.next (u8.below (Bl.next hB_5 n7.below) g7) (below_drew W8)
     have hBlA := hBl'3
     have hszA := hB'5.size
     refine yc 0 (args := #[.int .i64 t.no, .int .i64 t.ft]) (.t w.heap.size [45, 35]) (ref11_AtK t.no t.ft _ hft) ?_
     rintro _ W15 ⟨fa, fc, rfl, hb15, hNA⟩
     refine ⟨(SF.of_below _ hb15), ?_⟩
     refine xm2 0 1 9 ?_ ?_
     · have k5_b2'3 := ((u8.blkT (k5_b2.below n7.below) n7.blk (by decide)).below (below_drew W8)).below hb15
       refine xb 0 4 k5_b2'3 ?_
       have hKt'3 := (((hKt.below n7.below).only (Only.of_upd (T := [102]) u8 n7.blk (by decide)) (by decide)).below (below_drew W8)).below hb15
       refine yc (.o [] 9) (args := #[.slice t.wa t.way.length t.wc, .agg #[.slice fa 1 fc, .int .i64 t.ft]]) (.t w.heap.size [45, 35]) (ref14_wrapK t.wa t.wc t.way t.ft _ fa fc t.no _ hft (KeptI.hd hKt'3).ints (by omega) hNA) ?_
       rintro _ W16 ⟨fa2, fc2, rfl, hb16, hNB⟩
       refine ⟨(SF.of_below _ hb16), ?_⟩
       have hNp := hNB.apart hBlA (Nat.le_refl _)
       refine xbs (.o [] 10) 1 [.slice fa2 ((t.way ++ [t.no]).length) fc2, .int .i64 t.ft] 45 fun b17 W17 n17 => ?_
       have hB'6 := Bl.next (Bl.next hB'5 hb15) hb16
       have g17 := n17.ge hB'6
       have hFl'3 := own_below (own_below (own_below (u8.own2 (own_below hFl n7.below) n7.blk (by decide)) (below_drew W8)) hb15) hb16
       have r17_hFl := own_ne hFl'3 n17
       have hFl'4 := own_below hFl'3 n17.below
       have hB'7 := Bl.next hB'6 n17.below
       refine ybi (.o [] 11) (.t w.heap.size [45, 35]) fun _ _ _ _ zJ zQ zo zx zy zK => op_app (m := 1) (news := [.slice fa2 ((t.way ++ [t.no]).length) fc2, .int .i64 t.ft]) (.agg #[.slice none 0 0, .int .i64 0]) 2 32 ((fv ++ [(Ft.mk (t.way ++ [t.no]) t.ft fa2 fc2)]).length) (((fv ++ [(Ft.mk (t.way ++ [t.no]) t.ft fa2 fc2)]).flatMap fltC)) zo Tryz.underlying33 (by kernel_rfl) rfl (by decide) zx hFl'4 zy (n17.blk.sl 1 1 (by decide) (by decide)) rfl (by simp [Value.oneCell']) (by unfold maxLen; omega) (by omega) hB'7.size (by simp) (by rw [List.flatMap_append]; rfl) fun px18 cx18 W18 o18 hg18 hb18 => ?_
       refine zK _ _ (sft_grown hb18 hg18 hFl'4 (by decide)) ?_
       have k5_b2'4 := ((k5_b2'3.below hb16).below n17.below).grown hg18 hFl'4 (by decide)
       refine ys (.o [12] 13) k5_b2'4 [.slice pe s.es.length ce, .slice pb s.bs.length cb, .int .i64 s.deep, .int .i64 (↑s.looked : Int), .slice px18 ((fv ++ [(Ft.mk (t.way ++ [t.no]) t.ft fa2 fc2)]).length) cx18] (.t w.heap.size [45, 35]) fun W19 u19 k19 => ⟨(sft_upd u19 k5_b2'4 g2 (by decide)), ?_⟩
       refine xv1 5 10 (show (.slice (cutA aw 1 cw 5) (ts.length - 1) (cw - 1) : Value) = .slice (cutA aw 1 cw 5) r.length (cw - 1) from by rw [htr]; rfl) ?_
       have hWs'2 := (((((((hWs.below n7.below).updN u8 n7 rfl).below (below_drew W8)).below hb15).below hb16).below n17.below).only (Only.of_grown (T := [45]) hg18 hFl'4 (by decide)) (by decide)).only (Only.of_upd (T := [35]) u19 k5_b2'4 (by decide)) (by decide)
       have hKt'4 := (((hKt'3.below hb16).below n17.below).only (Only.of_grown (T := [45]) hg18 hFl'4 (by decide)) (by decide)).only (Only.of_upd (T := [35]) u19 k5_b2'4 (by decide)) (by decide)
       have hNB'2 := ((hNB.below n17.below).only (Only.of_grown (T := [45]) hg18 hFl'4 (by decide)) (by decide)).only (Only.of_upd (T := [35]) u19 k5_b2'4 (by decide)) (by decide)
       have hB'8 := u19.below (hB'7.trans hb18) g2
       have k5_b1'2 := u19.blk ((((((u8.blkT (k5_b1.below n7.below) n7.blk (by decide)).below (below_drew W8)).below hb15).below hb16).below n17.below).grown hg18 hFl'4 (by decide)) (Ne.symm (Ne.symm d2_b1))
       have hEn'2 := u19.own2 (own_grown (own_below (own_below (own_below (own_below (u8.own2 (own_below hEn n7.below) n7.blk (by decide)) (below_drew W8)) hb15) hb16) n17.below) hg18 hFl'4 (by decide)) k5_b2'4 (by decide)
       have hBl'4 := u19.own2 (own_grown (own_below (own_below (own_below hBl'3 hb15) hb16) n17.below) hg18 hFl'4 (by decide)) k5_b2'4 (by decide)
       have o18'1 := u19.own2 o18 k5_b2'4 (by decide)
       have hI'3 := (((((((hI.below n7.below).only (Only.of_upd (T := [102]) u8 n7.blk (by decide)) (by decide)).below (below_drew W8)).below hb15).below hb16).below n17.below).only (Only.of_grown (T := [45]) hg18 hFl'4 (by decide)) (by decide)).only (Only.of_upd (T := [35]) u19 k5_b2'4 (by decide)) (by decide)
       refine ze 0 (hJ5 _ _ _ ⟨(noteW t.way [t.no] t.ft s), r, pe, pb, px18, ce, cb, cx18, (fv ++ [(Ft.mk (t.way ++ [t.no]) t.ft fa2 fc2)]), (cutA aw 1 cw 5), (cw - 1), rfl, rfl, hB'8, k5_b1'2, k19, hEn'2, hBl'4, o18'1, (SufN.tail hWs'2 htr), (KeptI.note (f := (Ft.mk (t.way ++ [t.no]) t.ft fa2 fc2)) hKt'4 (hNB'2.mono hszA) hNp), hI'3, hwo1.fault hft, map_fltP_snoc hfv⟩ ?_)
       show 20 * (fuel.toNat - s.looked) + r.length < 20 * (fuel.toNat - s.looked) + ts.length
       omega
     have hKt'5 := (((hKt.below n7.below).only (Only.of_upd (T := [102]) u8 n7.blk (by decide)) (by decide)).below (below_drew W8)).below hb15
     refine yc 0 (args := #[.slice t.wa t.way.length t.wc, .agg #[.slice fa 1 fc, .int .i64 t.ft]]) (.t w.heap.size [45, 35]) (ref14_wrapK t.wa t.wc t.way t.ft _ fa fc t.no _ hft (KeptI.hd hKt'5).ints (by omega) hNA) ?_
     rintro _ W20 ⟨fa2, fc2, rfl, hb20, hNB⟩
     refine ⟨(SF.of_below _ hb20), ?_⟩
     have hNp := hNB.apart hBlA (Nat.le_refl _)
     refine xm2 0 1 10 ?_ ?_
     · have k5_b2'5 := (((u8.blkT (k5_b2.below n7.below) n7.blk (by decide)).below (below_drew W8)).below hb15).below hb20
       refine xb 0 4 k5_b2'5 ?_
       refine xbs (.o [] 10) 1 [.slice fa2 ((t.way ++ [t.no]).length) fc2, .int .i64 t.ft] 45 fun b21 W21 n21 => ?_
       have hB'9 := Bl.next (Bl.next hB'5 hb15) hb20
       have g21 := n21.ge hB'9
       have hFl'5 := own_below (own_below (own_below (u8.own2 (own_below hFl n7.below) n7.blk (by decide)) (below_drew W8)) hb15) hb20
       have r21_hFl := own_ne hFl'5 n21
       have hFl'6 := own_below hFl'5 n21.below
       have hB'10 := Bl.next hB'9 n21.below
       refine ybi (.o [] 11) (.t w.heap.size [45, 35]) fun _ _ _ _ zJ zQ zo zx zy zK => op_app (m := 1) (news := [.slice fa2 ((t.way ++ [t.no]).length) fc2, .int .i64 t.ft]) (.agg #[.slice none 0 0, .int .i64 0]) 2 32 ((fv ++ [(Ft.mk (t.way ++ [t.no]) t.ft fa2 fc2)]).length) (((fv ++ [(Ft.mk (t.way ++ [t.no]) t.ft fa2 fc2)]).flatMap fltC)) zo Tryz.underlying33 (by kernel_rfl) rfl (by decide) zx hFl'6 zy (n21.blk.sl 1 1 (by decide) (by decide)) rfl (by simp [Value.oneCell']) (by unfold maxLen; omega) (by omega) hB'10.size (by simp) (by rw [List.flatMap_append]; rfl) fun px22 cx22 W22 o22 hg22 hb22 => ?_
       refine zK _ _ (sft_grown hb22 hg22 hFl'6 (by decide)) ?_
       have k5_b2'6 := (k5_b2'5.below n21.below).grown hg22 hFl'6 (by decide)
       refine ys (.o [12] 13) k5_b2'6 [.slice pe s.es.length ce, .slice pb s.bs.length cb, .int .i64 s.deep, .int .i64 (↑s.looked : Int), .slice px22 ((fv ++ [(Ft.mk (t.way ++ [t.no]) t.ft fa2 fc2)]).length) cx22] (.t w.heap.size [45, 35]) fun W23 u23 k23 => ⟨(sft_upd u23 k5_b2'6 g2 (by decide)), ?_⟩
       refine xv1 5 10 (show (.slice (cutA aw 1 cw 5) (ts.length - 1) (cw - 1) : Value) = .slice (cutA aw 1 cw 5) r.length (cw - 1) from by rw [htr]; rfl) ?_
       have hWs'3 := (((((((hWs.below n7.below).updN u8 n7 rfl).below (below_drew W8)).below hb15).below hb20).below n21.below).only (Only.of_grown (T := [45]) hg22 hFl'6 (by decide)) (by decide)).only (Only.of_upd (T := [35]) u23 k5_b2'6 (by decide)) (by decide)
       have hKt'6 := (((hKt'5.below hb20).below n21.below).only (Only.of_grown (T := [45]) hg22 hFl'6 (by decide)) (by decide)).only (Only.of_upd (T := [35]) u23 k5_b2'6 (by decide)) (by decide)
       have hNB'3 := ((hNB.below n21.below).only (Only.of_grown (T := [45]) hg22 hFl'6 (by decide)) (by decide)).only (Only.of_upd (T := [35]) u23 k5_b2'6 (by decide)) (by decide)
       have hB'11 := u23.below (hB'10.trans hb22) g2
       have k5_b1'3 := u23.blk ((((((u8.blkT (k5_b1.below n7.below) n7.blk (by decide)).below (below_drew W8)).below hb15).below hb20).below n21.below).grown hg22 hFl'6 (by decide)) (Ne.symm (Ne.symm d2_b1))
       have hEn'3 := u23.own2 (own_grown (own_below (own_below (own_below (own_below (u8.own2 (own_below hEn n7.below) n7.blk (by decide)) (below_drew W8)) hb15) hb20) n21.below) hg22 hFl'6 (by decide)) k5_b2'6 (by decide)
       have hBl'5 := u23.own2 (own_grown (own_below (own_below (own_below hBl'3 hb15) hb20) n21.below) hg22 hFl'6 (by decide)) k5_b2'6 (by decide)
       have o22'1 := u23.own2 o22 k5_b2'6 (by decide)
       have hI'4 := (((((((hI.below n7.below).only (Only.of_upd (T := [102]) u8 n7.blk (by decide)) (by decide)).below (below_drew W8)).below hb15).below hb20).below n21.below).only (Only.of_grown (T := [45]) hg22 hFl'6 (by decide)) (by decide)).only (Only.of_upd (T := [35]) u23 k5_b2'6 (by decide)) (by decide)
       refine ze 0 (hJ5 _ _ _ ⟨(noteW t.way [t.no] t.ft s), r, pe, pb, px22, ce, cb, cx22, (fv ++ [(Ft.mk (t.way ++ [t.no]) t.ft fa2 fc2)]), (cutA aw 1 cw 5), (cw - 1), rfl, rfl, hB'11, k5_b1'3, k23, hEn'3, hBl'5, o22'1, (SufN.tail hWs'3 htr), (KeptI.note (f := (Ft.mk (t.way ++ [t.no]) t.ft fa2 fc2)) hKt'6 (hNB'3.mono hszA) hNp), hI'4, hwo1.fault hft, map_fltP_snoc hfv⟩ ?_)
       show 20 * (fuel.toNat - s.looked) + r.length < 20 * (fuel.toNat - s.looked) + ts.length
       omega
     refine xbs 0 1 [.slice fa2 ((t.way ++ [t.no]).length) fc2, .int .i64 t.ft] 45 fun b24 W24 n24 => ?_
     have hB'12 := Bl.next (Bl.next hB'5 hb15) hb20
     have g24 := n24.ge hB'12
     have hFl'7 := own_below (own_below (own_below (u8.own2 (own_below hFl n7.below) n7.blk (by decide)) (below_drew W8)) hb15) hb20
     have r24_hFl := own_ne hFl'7 n24
     have k5_b2'7 := ((((u8.blkT (k5_b2.below n7.below) n7.blk (by decide)).below (below_drew W8)).below hb15).below hb20).below n24.below
     refine xb (.o [] 1) 4 k5_b2'7 ?_
     have hFl'8 := own_below hFl'7 n24.below
     have hB'13 := Bl.next hB'12 n24.below
     refine ybi (.o [] 11) (.t w.heap.size [45, 35]) fun _ _ _ _ zJ zQ zo zx zy zK => op_app (m := 1) (news := [.slice fa2 ((t.way ++ [t.no]).length) fc2, .int .i64 t.ft]) (.agg #[.slice none 0 0, .int .i64 0]) 2 32 ((fv ++ [(Ft.mk (t.way ++ [t.no]) t.ft fa2 fc2)]).length) (((fv ++ [(Ft.mk (t.way ++ [t.no]) t.ft fa2 fc2)]).flatMap fltC)) zo Tryz.underlying33 (by kernel_rfl) rfl (by decide) zx hFl'8 zy (n24.blk.sl 1 1 (by decide) (by decide)) rfl (by simp [Value.oneCell']) (by unfold maxLen; omega) (by omega) hB'13.size (by simp) (by rw [List.flatMap_append]; rfl) fun px25 cx25 W25 o25 hg25 hb25 => ?_
     refine zK _ _ (sft_grown hb25 hg25 hFl'8 (by decide)) ?_
     have k5_b2'8 := k5_b2'7.grown hg25 hFl'8 (by decide)
     refine ys (.o [12] 13) k5_b2'8 [.slice pe s.es.length ce, .slice pb s.bs.length cb, .int .i64 s.deep, .int .i64 (↑s.looked : Int), .slice px25 ((fv ++ [(Ft.mk (t.way ++ [t.no]) t.ft fa2 fc2)]).length) cx25] (.t w.heap.size [45, 35]) fun W26 u26 k26 => ⟨(sft_upd u26 k5_b2'8 g2 (by decide)), ?_⟩
     refine xv1 5 10 (show (.slice (cutA aw 1 cw 5) (ts.length - 1) (cw - 1) : Value) = .slice (cutA aw 1 cw 5) r.length (cw - 1) from by rw [htr]; rfl) ?_
     have hWs'4 := (((((((hWs.below n7.below).updN u8 n7 rfl).below (below_drew W8)).below hb15).below hb20).below n24.below).only (Only.of_grown (T := [45]) hg25 hFl'8 (by decide)) (by decide)).only (Only.of_upd (T := [35]) u26 k5_b2'8 (by decide)) (by decide)
     have hKt'7 := (((hKt'5.below hb20).below n24.below).only (Only.of_grown (T := [45]) hg25 hFl'8 (by decide)) (by decide)).only (Only.of_upd (T := [35]) u26 k5_b2'8 (by decide)) (by decide)
     have hNB'4 := ((hNB.below n24.below).only (Only.of_grown (T := [45]) hg25 hFl'8 (by decide)) (by decide)).only (Only.of_upd (T := [35]) u26 k5_b2'8 (by decide)) (by decide)
     have hB'14 := u26.below (hB'13.trans hb25) g2
     have k5_b1'4 := u26.blk ((((((u8.blkT (k5_b1.below n7.below) n7.blk (by decide)).below (below_drew W8)).below hb15).below hb20).below n24.below).grown hg25 hFl'8 (by decide)) (Ne.symm (Ne.symm d2_b1))
     have hEn'4 := u26.own2 (own_grown (own_below (own_below (own_below (own_below (u8.own2 (own_below hEn n7.below) n7.blk (by decide)) (below_drew W8)) hb15) hb20) n24.below) hg25 hFl'8 (by decide)) k5_b2'8 (by decide)
     have hBl'6 := u26.own2 (own_grown (own_below (own_below (own_below hBl'3 hb15) hb20) n24.below) hg25 hFl'8 (by decide)) k5_b2'8 (by decide)
     have o25'1 := u26.own2 o25 k5_b2'8 (by decide)
     have hI'5 := (((((((hI.below n7.below).only (Only.of_upd (T := [102]) u8 n7.blk (by decide)) (by decide)).below (below_drew W8)).below hb15).below hb20).below n24.below).only (Only.of_grown (T := [45]) hg25 hFl'8 (by decide)) (by decide)).only (Only.of_upd (T := [35]) u26 k5_b2'8 (by decide)) (by decide)
     refine ze 0 (hJ5 _ _ _ ⟨(noteW t.way [t.no] t.ft s), r, pe, pb, px25, ce, cb, cx25, (fv ++ [(Ft.mk (t.way ++ [t.no]) t.ft fa2 fc2)]), (cutA aw 1 cw 5), (cw - 1), rfl, rfl, hB'14, k5_b1'4, k26, hEn'4, hBl'6, o25'1, (SufN.tail hWs'4 htr), (KeptI.note (f := (Ft.mk (t.way ++ [t.no]) t.ft fa2 fc2)) hKt'7 (hNB'4.mono hszA) hNp), hI'5, hwo1.fault hft, map_fltP_snoc hfv⟩ ?_)
     show 20 * (fuel.toNat - s.looked) + r.length < 20 * (fuel.toNat - s.looked) + ts.length
     omega
   have hft := hc9
   have k5_b2'9 := u8.blkT (k5_b2.below n7.below) n7.blk (by decide)
   refine xb 6 3 k5_b2'9 ?_
   refine xid 4 ((↑s.looked : Int) ≥ fuel) (fun hc27 => ?_) (fun hc27 => ?_)
   · have hfs : fuel ≤ s.looked := by omega
     refine xd 1 (.t w.heap.size [45, 35]) ?_
     have k8'2 := k8.below (below_drew W8)
     refine xbt (.e [0, 2] 3) 3 w.heap.size [45, 35] k8'2 ?_
     refine xbt (.e [4] 5) 0 w.heap.size [45, 35] k8'2 ?_
     refine xm2 0 1 6 ?_ ?_
     · have k5_b2'10 := k5_b2'9.below (below_drew W8)
       refine xb 0 4 k5_b2'10 ?_
       have hBl'7 := own_below (u8.own2 (own_below hBl n7.below) n7.blk (by decide)) (below_drew W8)
       have hB'15 := Bl.next (u8.below (Bl.next hB_5 n7.below) g7) (below_drew W8)
       have hBlA := hBl'7
       have hszA := hB'15.size
       refine yc (.o [] 6) (args := #[.int .i64 t.no, .int .i64 12]) (.t w.heap.size [45, 35]) (ref11_AtK t.no 12 _ (by decide)) ?_
       rintro _ W28 ⟨fa, fc, rfl, hb28, hNA⟩
       refine ⟨(SF.of_below _ hb28), ?_⟩
       have hKt'8 := (((hKt.below n7.below).only (Only.of_upd (T := [102]) u8 n7.blk (by decide)) (by decide)).below (below_drew W8)).below hb28
       refine yc (.o [] 7) (args := #[.slice t.wa t.way.length t.wc, .agg #[.slice fa 1 fc, .int .i64 12]]) (.t w.heap.size [45, 35]) (ref14_wrapK t.wa t.wc t.way 12 _ fa fc t.no _ (by decide) (KeptI.hd hKt'8).ints (by omega) hNA) ?_
       rintro _ W29 ⟨fa2, fc2, rfl, hb29, hNB⟩
       refine ⟨(SF.of_below _ hb29), ?_⟩
       have hNp := hNB.apart hBlA (Nat.le_refl _)
       refine xbs (.o [] 8) 1 [.slice fa2 ((t.way ++ [t.no]).length) fc2, .int .i64 12] 45 fun b30 W30 n30 => ?_
       have hB'16 := Bl.next (Bl.next hB'15 hb28) hb29
       have g30 := n30.ge hB'16
       have hFl'9 := own_below (own_below (own_below (u8.own2 (own_below hFl n7.below) n7.blk (by decide)) (below_drew W8)) hb28) hb29
       have r30_hFl := own_ne hFl'9 n30
       have hFl'10 := own_below hFl'9 n30.below
       have hB'17 := Bl.next hB'16 n30.below
       refine ybi (.o [] 9) (.t w.heap.size [45, 35]) fun _ _ _ _ zJ zQ zo zx zy zK => op_app (m := 1) (news := [.slice fa2 ((t.way ++ [t.no]).length) fc2, .int .i64 12]) (.agg #[.slice none 0 0, .int .i64 0]) 2 32 ((fv ++ [(Ft.mk (t.way ++ [t.no]) 12 fa2 fc2)]).length) (((fv ++ [(Ft.mk (t.way ++ [t.no]) 12 fa2 fc2)]).flatMap fltC)) zo Tryz.underlying33 (by kernel_rfl) rfl (by decide) zx hFl'10 zy (n30.blk.sl 1 1 (by decide) (by decide)) rfl (by simp [Value.oneCell']) (by unfold maxLen; omega) (by omega) hB'17.size (by simp) (by rw [List.flatMap_append]; rfl) fun px31 cx31 W31 o31 hg31 hb31 => ?_
       refine zK _ _ (sft_grown hb31 hg31 hFl'10 (by decide)) ?_
       have k5_b2'11 := (((k5_b2'10.below hb28).below hb29).below n30.below).grown hg31 hFl'10 (by decide)
       refine ys (.o [10] 11) k5_b2'11 [.slice pe s.es.length ce, .slice pb s.bs.length cb, .int .i64 s.deep, .int .i64 (↑s.looked : Int), .slice px31 ((fv ++ [(Ft.mk (t.way ++ [t.no]) 12 fa2 fc2)]).length) cx31] (.t w.heap.size [45, 35]) fun W32 u32 k32 => ⟨(sft_upd u32 k5_b2'11 g2 (by decide)), ?_⟩
       refine xlv 4 k32.rp ?_
       have k5_b1'5 := u32.blk ((((((u8.blkT (k5_b1.below n7.below) n7.blk (by decide)).below (below_drew W8)).below hb28).below hb29).below n30.below).grown hg31 hFl'10 (by decide)) (Ne.symm (Ne.symm d2_b1))
       refine xsv 0 k5_b1'5 [.slice pe s.es.length ce, .slice pb s.bs.length cb, .int .i64 s.deep, .int .i64 (↑s.looked : Int), .slice px31 ((fv ++ [(Ft.mk (t.way ++ [t.no]) 12 fa2 fc2)]).length) cx31] fun W33 u33 k33 => ?_
       have g1 := n1.ge (Below.refl w.heap.size _)
       have hB'18 := u33.below (u32.below (hB'17.trans hb31) g2) g1
       have hEn'5 := u33.own2 (u32.own2 (own_grown (own_below (own_below (own_below (own_below (u8.own2 (own_below hEn n7.below) n7.blk (by decide)) (below_drew W8)) hb28) hb29) n30.below) hg31 hFl'10 (by decide)) k5_b2'11 (by decide)) k5_b1'5 (by decide)
       have hBl'8 := u33.own2 (u32.own2 (own_grown (own_below (own_below (own_below hBl'7 hb28) hb29) n30.below) hg31 hFl'10 (by decide)) k5_b2'11 (by decide)) k5_b1'5 (by decide)
       have o31'1 := u33.own2 (u32.own2 o31 k5_b2'11 (by decide)) k5_b1'5 (by decide)
       have hKt'9 := ((((hKt'8.below hb29).below n30.below).only (Only.of_grown (T := [45]) hg31 hFl'10 (by decide)) (by decide)).only (Only.of_upd (T := [35]) u32 k5_b2'11 (by decide)) (by decide)).only (Only.of_upd (T := [35]) u33 k5_b1'5 (by decide)) (by decide)
       have hNB'5 := (((hNB.below n30.below).only (Only.of_grown (T := [45]) hg31 hFl'10 (by decide)) (by decide)).only (Only.of_upd (T := [35]) u32 k5_b2'11 (by decide)) (by decide)).only (Only.of_upd (T := [35]) u33 k5_b1'5 (by decide)) (by decide)
       refine xec 8 k33 (.agg #[.slice pe s.es.length ce, .slice pb s.bs.length cb, .int .i64 s.deep, .int .i64 (↑s.looked : Int), .slice px31 ((fv ++ [(Ft.mk (t.way ++ [t.no]) 12 fa2 fc2)]).length) cx31]) ?_
       rw [hwo1.fuel hft hfs]
       exact ⟨pe, pb, _, ce, cb, _, fv ++ [(Ft.mk (t.way ++ [t.no]) 12 fa2 fc2)], rfl, hB'18, hEn'5, hBl'8, o31'1, map_fltP_snoc hfv, (KeptI.note (f := (Ft.mk (t.way ++ [t.no]) 12 fa2 fc2)) hKt'9 (hNB'5.mono hszA) hNp).sub (fun x hx => List.mem_append.2 (.inr hx))⟩
     have hBl'9 := own_below (u8.own2 (own_below hBl n7.below) n7.blk (by decide)) (below_drew W8)
     have hB'19 := Bl.next (u8.below (Bl.next hB_5 n7.below) g7) (below_drew W8)
     have hBlA := hBl'9
     have hszA := hB'19.size
     refine yc 0 (args := #[.int .i64 t.no, .int .i64 12]) (.t w.heap.size [45, 35]) (ref11_AtK t.no 12 _ (by decide)) ?_
     rintro _ W34 ⟨fa, fc, rfl, hb34, hNA⟩
     refine ⟨(SF.of_below _ hb34), ?_⟩
     refine xm2 0 1 7 ?_ ?_
     · have k5_b2'12 := (k5_b2'9.below (below_drew W8)).below hb34
       refine xb 0 4 k5_b2'12 ?_
       have hKt'10 := (((hKt.below n7.below).only (Only.of_upd (T := [102]) u8 n7.blk (by decide)) (by decide)).below (below_drew W8)).below hb34
       refine yc (.o [] 7) (args := #[.slice t.wa t.way.length t.wc, .agg #[.slice fa 1 fc, .int .i64 12]]) (.t w.heap.size [45, 35]) (ref14_wrapK t.wa t.wc t.way 12 _ fa fc t.no _ (by decide) (KeptI.hd hKt'10).ints (by omega) hNA) ?_
       rintro _ W35 ⟨fa2, fc2, rfl, hb35, hNB⟩
       refine ⟨(SF.of_below _ hb35), ?_⟩
       have hNp := hNB.apart hBlA (Nat.le_refl _)
       refine xbs (.o [] 8) 1 [.slice fa2 ((t.way ++ [t.no]).length) fc2, .int .i64 12] 45 fun b36 W36 n36 => ?_
       have hB'20 := Bl.next (Bl.next hB'19 hb34) hb35
       have g36 := n36.ge hB'20
       have hFl'11 := own_below (own_below (own_below (u8.own2 (own_below hFl n7.below) n7.blk (by decide)) (below_drew W8)) hb34) hb35
       have r36_hFl := own_ne hFl'11 n36
       have hFl'12 := own_below hFl'11 n36.below
       have hB'21 := Bl.next hB'20 n36.below
       refine ybi (.o [] 9) (.t w.heap.size [45, 35]) fun _ _ _ _ zJ zQ zo zx zy zK => op_app (m := 1) (news := [.slice fa2 ((t.way ++ [t.no]).length) fc2, .int .i64 12]) (.agg #[.slice none 0 0, .int .i64 0]) 2 32 ((fv ++ [(Ft.mk (t.way ++ [t.no]) 12 fa2 fc2)]).length) (((fv ++ [(Ft.mk (t.way ++ [t.no]) 12 fa2 fc2)]).flatMap fltC)) zo Tryz.underlying33 (by kernel_rfl) rfl (by decide) zx hFl'12 zy (n36.blk.sl 1 1 (by decide) (by decide)) rfl (by simp [Value.oneCell']) (by unfold maxLen; omega) (by omega) hB'21.size (by simp) (by rw [List.flatMap_append]; rfl) fun px37 cx37 W37 o37 hg37 hb37 => ?_
       refine zK _ _ (sft_grown hb37 hg37 hFl'12 (by decide)) ?_
       have k5_b2'13 := ((k5_b2'12.below hb35).below n36.below).grown hg37 hFl'12 (by decide)
       refine ys (.o [10] 11) k5_b2'13 [.slice pe s.es.length ce, .slice pb s.bs.length cb, .int .i64 s.deep, .int .i64 (↑s.looked : Int), .slice px37 ((fv ++ [(Ft.mk (t.way ++ [t.no]) 12 fa2 fc2)]).length) cx37] (.t w.heap.size [45, 35]) fun W38 u38 k38 => ⟨(sft_upd u38 k5_b2'13 g2 (by decide)), ?_⟩
       refine xlv 4 k38.rp ?_
       have k5_b1'6 := u38.blk ((((((u8.blkT (k5_b1.below n7.below) n7.blk (by decide)).below (below_drew W8)).below hb34).below hb35).below n36.below).grown hg37 hFl'12 (by decide)) (Ne.symm (Ne.symm d2_b1))
       refine xsv 0 k5_b1'6 [.slice pe s.es.length ce, .slice pb s.bs.length cb, .int .i64 s.deep, .int .i64 (↑s.looked : Int), .slice px37 ((fv ++ [(Ft.mk (t.way ++ [t.no]) 12 fa2 fc2)]).length) cx37] fun W39 u39 k39 => ?_
       have g1 := n1.ge (Below.refl w.heap.size _)
       have hB'22 := u39.below (u38.below (hB'21.trans hb37) g2) g1
       have hEn'6 := u39.own2 (u38.own2 (own_grown (own_below (own_below (own_below (own_below (u8.own2 (own_below hEn n7.below) n7.blk (by decide)) (below_drew W8)) hb34) hb35) n36.below) hg37 hFl'12 (by decide)) k5_b2'13 (by decide)) k5_b1'6 (by decide)
       have hBl'10 := u39.own2 (u38.own2 (own_grown (own_below (own_below (own_below hBl'9 hb34) hb35) n36.below) hg37 hFl'12 (by decide)) k5_b2'13 (by decide)) k5_b1'6 (by decide)
       have o37'1 := u39.own2 (u38.own2 o37 k5_b2'13 (by decide)) k5_b1'6 (by decide)
       have hKt'11 := ((((hKt'10.below hb35).below n36.below).only (Only.of_grown (T := [45]) hg37 hFl'12 (by decide)) (by decide)).only (Only.of_upd (T := [35]) u38 k5_b2'13 (by decide)) (by decide)).only (Only.of_upd (T := [35]) u39 k5_b1'6 (by decide)) (by decide)
       have hNB'6 := (((hNB.below n36.below).only (Only.of_grown (T := [45]) hg37 hFl'12 (by decide)) (by decide)).only (Only.of_upd (T := [35]) u38 k5_b2'13 (by decide)) (by decide)).only (Only.of_upd (T := [35]) u39 k5_b1'6 (by decide)) (by decide)
       refine xec 8 k39 (.agg #[.slice pe s.es.length ce, .slice pb s.bs.length cb, .int .i64 s.deep, .int .i64 (↑s.looked : Int), .slice px37 ((fv ++ [(Ft.mk (t.way ++ [t.no]) 12 fa2 fc2)]).length) cx37]) ?_
       rw [hwo1.fuel hft hfs]
       exact ⟨pe, pb, _, ce, cb, _, fv ++ [(Ft.mk (t.way ++ [t.no]) 12 fa2 fc2)], rfl, hB'22, hEn'6, hBl'10, o37'1, map_fltP_snoc hfv, (KeptI.note (f := (Ft.mk (t.way ++ [t.no]) 12 fa2 fc2)) hKt'11 (hNB'6.mono hszA) hNp).sub (fun x hx => List.mem_append.2 (.inr hx))⟩
     have hKt'12 := (((hKt.below n7.below).only (Only.of_upd (T := [102]) u8 n7.blk (by decide)) (by decide)).below (below_drew W8)).below hb34
     refine yc 0 (args := #[.slice t.wa t.way.length t.wc, .agg #[.slice fa 1 fc, .int .i64 12]]) (.t w.heap.size [45, 35]) (ref14_wrapK t.wa t.wc t.way 12 _ fa fc t.no _ (by decide) (KeptI.hd hKt'12).ints (by omega) hNA) ?_
     rintro _ W40 ⟨fa2, fc2, rfl, hb40, hNB⟩
     refine ⟨(SF.of_below _ hb40), ?_⟩
     have hNp := hNB.apart hBlA (Nat.le_refl _)
     refine xm2 0 1 8 ?_ ?_
     · have k5_b2'14 := ((k5_b2'9.below (below_drew W8)).below hb34).below hb40
       refine xb 0 4 k5_b2'14 ?_
       refine xbs (.o [] 8) 1 [.slice fa2 ((t.way ++ [t.no]).length) fc2, .int .i64 12] 45 fun b41 W41 n41 => ?_
       have hB'23 := Bl.next (Bl.next hB'19 hb34) hb40
       have g41 := n41.ge hB'23
       have hFl'13 := own_below (own_below (own_below (u8.own2 (own_below hFl n7.below) n7.blk (by decide)) (below_drew W8)) hb34) hb40
       have r41_hFl := own_ne hFl'13 n41
       have hFl'14 := own_below hFl'13 n41.below
       have hB'24 := Bl.next hB'23 n41.below
       refine ybi (.o [] 9) (.t w.heap.size [45, 35]) fun _ _ _ _ zJ zQ zo zx zy zK => op_app (m := 1) (news := [.slice fa2 ((t.way ++ [t.no]).length) fc2, .int .i64 12]) (.agg #[.slice none 0 0, .int .i64 0]) 2 32 ((fv ++ [(Ft.mk (t.way ++ [t.no]) 12 fa2 fc2)]).length) (((fv ++ [(Ft.mk (t.way ++ [t.no]) 12 fa2 fc2)]).flatMap fltC)) zo Tryz.underlying33 (by kernel_rfl) rfl (by decide) zx hFl'14 zy (n41.blk.sl 1 1 (by decide) (by decide)) rfl (by simp [Value.oneCell']) (by unfold maxLen; omega) (by omega) hB'24.size (by simp) (by rw [List.flatMap_append]; rfl) fun px42 cx42 W42 o42 hg42 hb42 => ?_
       refine zK _ _ (sft_grown hb42 hg42 hFl'14 (by decide)) ?_
       have k5_b2'15 := (k5_b2'14.below n41.below).grown hg42 hFl'14 (by decide)
       refine ys (.o [10] 11) k5_b2'15 [.slice pe s.es.length ce, .slice pb s.bs.length cb, .int .i64 s.deep, .int .i64 (↑s.looked : Int), .slice px42 ((fv ++ [(Ft.mk (t.way ++ [t.no]) 12 fa2 fc2)]).length) cx42] (.t w.heap.size [45, 35]) fun W43 u43 k43 => ⟨(sft_upd u43 k5_b2'15 g2 (by decide)), ?_⟩
       refine xlv 4 k43.rp ?_
       have k5_b1'7 := u43.blk ((((((u8.blkT (k5_b1.below n7.below) n7.blk (by decide)).below (below_drew W8)).below hb34).below hb40).below n41.below).grown hg42 hFl'14 (by decide)) (Ne.symm (Ne.symm d2_b1))
       refine xsv 0 k5_b1'7 [.slice pe s.es.length ce, .slice pb s.bs.length cb, .int .i64 s.deep, .int .i64 (↑s.looked : Int), .slice px42 ((fv ++ [(Ft.mk (t.way ++ [t.no]) 12 fa2 fc2)]).length) cx42] fun W44 u44 k44 => ?_
       have g1 := n1.ge (Below.refl w.heap.size _)
       have hB'25 := u44.below (u43.below (hB'24.trans hb42) g2) g1
       have hEn'7 := u44.own2 (u43.own2 (own_grown (own_below (own_below (own_below (own_below (u8.own2 (own_below hEn n7.below) n7.blk (by decide)) (below_drew W8)) hb34) hb40) n41.below) hg42 hFl'14 (by decide)) k5_b2'15 (by decide)) k5_b1'7 (by decide)
       have hBl'11 := u44.own2 (u43.own2 (own_grown (own_below (own_below (own_below hBl'9 hb34) hb40) n41.below) hg42 hFl'14 (by decide)) k5_b2'15 (by decide)) k5_b1'7 (by decide)
       have o42'1 := u44.own2 (u43.own2 o42 k5_b2'15 (by decide)) k5_b1'7 (by decide)
       have hKt'13 := ((((hKt'12.below hb40).below n41.below).only (Only.of_grown (T := [45]) hg42 hFl'14 (by decide)) (by decide)).only (Only.of_upd (T := [35]) u43 k5_b2'15 (by decide)) (by decide)).only (Only.of_upd (T := [35]) u44 k5_b1'7 (by decide)) (by decide)
       have hNB'7 := (((hNB.below n41.below).only (Only.of_grown (T := [45]) hg42 hFl'14 (by decide)) (by decide)).only (Only.of_upd (T := [35]) u43 k5_b2'15 (by decide)) (by decide)).only (Only.of_upd (T := [35]) u44 k5_b1'7 (by decide)) (by decide)
       refine xec 8 k44 (.agg #[.slice pe s.es.length ce, .slice pb s.bs.length cb, .int .i64 s.deep, .int .i64 (↑s.looked : Int), .slice px42 ((fv ++ [(Ft.mk (t.way ++ [t.no]) 12 fa2 fc2)]).length) cx42]) ?_
       rw [hwo1.fuel hft hfs]
       exact ⟨pe, pb, _, ce, cb, _, fv ++ [(Ft.mk (t.way ++ [t.no]) 12 fa2 fc2)], rfl, hB'25, hEn'7, hBl'11, o42'1, map_fltP_snoc hfv, (KeptI.note (f := (Ft.mk (t.way ++ [t.no]) 12 fa2 fc2)) hKt'13 (hNB'7.mono hszA) hNp).sub (fun x hx => List.mem_append.2 (.inr hx))⟩
     refine xbs 0 1 [.slice fa2 ((t.way ++ [t.no]).length) fc2, .int .i64 12] 45 fun b45 W45 n45 => ?_
     have hB'26 := Bl.next (Bl.next hB'19 hb34) hb40
     have g45 := n45.ge hB'26
     have hFl'15 := own_below (own_below (own_below (u8.own2 (own_below hFl n7.below) n7.blk (by decide)) (below_drew W8)) hb34) hb40
     have r45_hFl := own_ne hFl'15 n45
     have k5_b2'16 := (((k5_b2'9.below (below_drew W8)).below hb34).below hb40).below n45.below
     refine xb (.o [] 1) 4 k5_b2'16 ?_
     have hFl'16 := own_below hFl'15 n45.below
     have hB'27 := Bl.next hB'26 n45.below
     refine ybi (.o [] 9) (.t w.heap.size [45, 35]) fun _ _ _ _ zJ zQ zo zx zy zK => op_app (m := 1) (news := [.slice fa2 ((t.way ++ [t.no]).length) fc2, .int .i64 12]) (.agg #[.slice none 0 0, .int .i64 0]) 2 32 ((fv ++ [(Ft.mk (t.way ++ [t.no]) 12 fa2 fc2)]).length) (((fv ++ [(Ft.mk (t.way ++ [t.no]) 12 fa2 fc2)]).flatMap fltC)) zo Tryz.underlying33 (by kernel_rfl) rfl (by decide) zx hFl'16 zy (n45.blk.sl 1 1 (by decide) (by decide)) rfl (by simp [Value.oneCell']) (by unfold maxLen; omega) (by omega) hB'27.size (by simp) (by rw [List.flatMap_append]; rfl) fun px46 cx46 W46 o46 hg46 hb46 => ?_
     refine zK _ _ (sft_grown hb46 hg46 hFl'16 (by decide)) ?_
     have k5_b2'17 := k5_b2'16.grown hg46 hFl'16 (by decide)
     refine ys (.o [10] 11) k5_b2'17 [.slice pe s.es.length ce, .slice pb s.bs.length cb, .int .i64 s.deep, .int .i64 (↑s.looked : Int), .slice px46 ((fv ++ [(Ft.mk (t.way ++ [t.no]) 12 fa2 fc2)]).length) cx46] (.t w.heap.size [45, 35]) fun W47 u47 k47 => ⟨(sft_upd u47 k5_b2'17 g2 (by decide)), ?_⟩
     refine xlv 4 k47.rp ?_
     have k5_b1'8 := u47.blk ((((((u8.blkT (k5_b1.below n7.below) n7.blk (by decide)).below (below_drew W8)).below hb34).below hb40).below n45.below).grown hg46 hFl'16 (by decide)) (Ne.symm (Ne.symm d2_b1))
     refine xsv 0 k5_b1'8 [.slice pe s.es.length ce, .slice pb s.bs.length cb, .int .i64 s.deep, .int .i64 (↑s.looked : Int), .slice px46 ((fv ++ [(Ft.mk (t.way ++ [t.no]) 12 fa2 fc2)]).length) cx46] fun W48 u48 k48 => ?_
     have g1 := n1.ge (Below.refl w.heap.size _)
     have hB'28 := u48.below (u47.below (hB'27.trans hb46) g2) g1
     have hEn'8 := u48.own2 (u47.own2 (own_grown (own_below (own_below (own_below (own_below (u8.own2 (own_below hEn n7.below) n7.blk (by decide)) (below_drew W8)) hb34) hb40) n45.below) hg46 hFl'16 (by decide)) k5_b2'17 (by decide)) k5_b1'8 (by decide)
     have hBl'12 := u48.own2 (u47.own2 (own_grown (own_below (own_below (own_below hBl'9 hb34) hb40) n45.below) hg46 hFl'16 (by decide)) k5_b2'17 (by decide)) k5_b1'8 (by decide)
     have o46'1 := u48.own2 (u47.own2 o46 k5_b2'17 (by decide)) k5_b1'8 (by decide)
     have hKt'14 := ((((hKt'12.below hb40).below n45.below).only (Only.of_grown (T := [45]) hg46 hFl'16 (by decide)) (by decide)).only (Only.of_upd (T := [35]) u47 k5_b2'17 (by decide)) (by decide)).only (Only.of_upd (T := [35]) u48 k5_b1'8 (by decide)) (by decide)
     have hNB'8 := (((hNB.below n45.below).only (Only.of_grown (T := [45]) hg46 hFl'16 (by decide)) (by decide)).only (Only.of_upd (T := [35]) u47 k5_b2'17 (by decide)) (by decide)).only (Only.of_upd (T := [35]) u48 k5_b1'8 (by decide)) (by decide)
     refine xec 8 k48 (.agg #[.slice pe s.es.length ce, .slice pb s.bs.length cb, .int .i64 s.deep, .int .i64 (↑s.looked : Int), .slice px46 ((fv ++ [(Ft.mk (t.way ++ [t.no]) 12 fa2 fc2)]).length) cx46]) ?_
     rw [hwo1.fuel hft hfs]
     exact ⟨pe, pb, _, ce, cb, _, fv ++ [(Ft.mk (t.way ++ [t.no]) 12 fa2 fc2)], rfl, hB'28, hEn'8, hBl'12, o46'1, map_fltP_snoc hfv, (KeptI.note (f := (Ft.mk (t.way ++ [t.no]) 12 fa2 fc2)) hKt'14 (hNB'8.mono hszA) hNp).sub (fun x hx => List.mem_append.2 (.inr hx))⟩
   have hfs : ¬ fuel ≤ s.looked := by omega
   refine xb 5 3 k5_b2'9 ?_
   refine xwm 0 ((↑s.looked : Int) + 1) (↑(s.looked + 1) : Int) ?_
   refine xs 1 k5_b2'9 [.slice pe s.es.length ce, .slice pb s.bs.length cb, .int .i64 s.deep, .int .i64 (↑(s.looked + 1) : Int), .slice pf fv.length cf] fun W49 u49 k49 => ?_
   have k8'3 := u49.blkT k8 k5_b2'9 (by decide)
   refine xlv 5 k8'3.rp ?_
   refine xb 2 2 k49 ?_
   have hBl'13 := u49.own2 (u8.own2 (own_below hBl n7.below) n7.blk (by decide)) k5_b2'9 (by decide)
   have hB'29 := u49.below (u8.below (Bl.next hB_5 n7.below) g7) g2
   have hBlA := hBl'13
   have hszA := hB'29.size
   have hI'6 := ((hI.below n7.below).only (Only.of_upd (T := [102]) u8 n7.blk (by decide)) (by decide)).only (Only.of_upd (T := [35]) u49 k5_b2'9 (by decide)) (by decide)
   have hKt'15 := ((hKt.below n7.below).only (Only.of_upd (T := [102]) u8 n7.blk (by decide)) (by decide)).only (Only.of_upd (T := [35]) u49 k5_b2'9 (by decide)) (by decide)
   refine xc 0 (args := #[.pointer (some ⟨bm, 0, none⟩), .agg #[.int .i64 t.no, .int .i64 t.lo, .int .i64 t.hi, .slice t.wa t.way.length t.wc, .int .i64 t.ft], .int .i64 tree, .int .i64 s.deep]) ((ref14_look B bm p k c l t.no tree t.lo t.hi s.deep t.way t.wa t.wc (.int .i64 t.ft) _ hI'6 (KeptI.hd hKt'15).ints (by omega) (hwo1.right t List.mem_cons_self hft)).mono (fun _ _ h => RLookP.or hBl'13 h)) ?_
   rintro e W50 hq50
   rcases hq50 with ⟨hle, a4, b4, k4, n4, c4, v4, m4, d4, fa, fc, rfl, hb50, hNA⟩ | ⟨hle, kp, kc, vp, vc, rfl, hb50, hk, hApk, hv_⟩
   · refine xa 3 [.int .i64 0, .bool false, .slice none 0 0, .slice none 0 0] 52 fun b51 W51 n51 => ?_
     have hB'30 := Bl.next hB'29 hb50
     have g51 := n51.ge hB'30
     refine xa 0 [.slice none 0 0, .int .i64 0] 45 fun b52 W52 n52 => ?_
     have hB'31 := Bl.next hB'30 n51.below
     have g52 := n52.ge hB'31
     have hFl'17 := own_below (own_below (u49.own2 (u8.own2 (own_below hFl n7.below) n7.blk (by decide)) k5_b2'9 (by decide)) hb50) n51.below
     have r52_hFl := own_ne hFl'17 n52
     have k51 := n51.blk.below n52.below
     refine xsv 0 k51 [.int .i64 a4, .bool b4, .slice k4 n4 c4, .slice v4 m4 d4] fun W53 u53 k53 => ?_
     have k52 := u53.blkT n52.blk k51 (by decide)
     refine xsv 0 k52 [.slice fa 1 fc, .int .i64 (lookE l t.way t.no tree t.lo t.hi s.deep)] fun W54 u54 k54 => ?_
     refine xb 6 1 k54 ?_
     refine xk 3 (show (((lookE l t.way t.no tree t.lo t.hi s.deep) != (0 : Int)) : Bool) = true from bne_iff_ne.2 hle) ?_
     refine xd 1 (.t w.heap.size [45, 35]) ?_
     have k8'4 := (u54.blkT (u53.blkT (((k8'3.below hb50).below n51.below).below n52.below) k51 (by decide)) k52 (by decide)).below (below_drew W54)
     refine xbt (.e [0, 2] 3) 3 w.heap.size [45, 35] k8'4 ?_
     refine xm2 0 1 4 ?_ ?_
     · have k49'1 := (u54.blkT (u53.blkT (((k49.below hb50).below n51.below).below n52.below) k51 (by decide)) k52 (by decide)).below (below_drew W54)
       refine xb 0 4 k49'1 ?_
       have k54'1 := k54.below (below_drew W54)
       refine xlv (.o [] 4) k54'1.rp ?_
       have hKt'16 := (((((hKt'15.below hb50).below n51.below).below n52.below).only (Only.of_upd (T := [52]) u53 k51 (by decide)) (by decide)).only (Only.of_upd (T := [45]) u54 k52 (by decide)) (by decide)).below (below_drew W54)
       have hNA'1 := ((((hNA.below n51.below).below n52.below).only (Only.of_upd (T := [52]) u53 k51 (by decide)) (by decide)).only (Only.of_upd (T := [45]) u54 k52 (by decide)) (by decide)).below (below_drew W54)
       refine yc (.o [] 5) (args := #[.slice t.wa t.way.length t.wc, .agg #[.slice fa 1 fc, .int .i64 (lookE l t.way t.no tree t.lo t.hi s.deep)]]) (.t w.heap.size [45, 35]) (ref14_wrapK t.wa t.wc t.way (lookE l t.way t.no tree t.lo t.hi s.deep) _ fa fc t.no _ hle (KeptI.hd hKt'16).ints (by omega) hNA'1) ?_
       rintro _ W55 ⟨fa2, fc2, rfl, hb55, hNB⟩
       refine ⟨(SF.of_below _ hb55), ?_⟩
       have hNp := hNB.apart hBlA (Nat.le_refl _)
       refine xbs (.o [] 6) 1 [.slice fa2 ((t.way ++ [t.no]).length) fc2, .int .i64 (lookE l t.way t.no tree t.lo t.hi s.deep)] 45 fun b56 W56 n56 => ?_
       have k54'2 := k54'1.below hb55
       have d56_b52 := n56.ne k54'2
       have hB'32 := Bl.next (Bl.next (u54.below (u53.below (Bl.next hB'31 n52.below) g51) g52) (below_drew W54)) hb55
       have g56 := n56.ge hB'32
       have hFl'18 := own_below (own_below (u54.own3 (u53.own2 (own_below hFl'17 n52.below) k51 (by decide)) r52_hFl) (below_drew W54)) hb55
       have r56_hFl := own_ne hFl'18 n56
       have hFl'19 := own_below hFl'18 n56.below
       have hB'33 := Bl.next hB'32 n56.below
       refine ybi (.o [] 7) (.t w.heap.size [45, 35]) fun _ _ _ _ zJ zQ zo zx zy zK => op_app (m := 1) (news := [.slice fa2 ((t.way ++ [t.no]).length) fc2, .int .i64 (lookE l t.way t.no tree t.lo t.hi s.deep)]) (.agg #[.slice none 0 0, .int .i64 0]) 2 32 ((fv ++ [(Ft.mk (t.way ++ [t.no]) (lookE l t.way t.no tree t.lo t.hi s.deep) fa2 fc2)]).length) (((fv ++ [(Ft.mk (t.way ++ [t.no]) (lookE l t.way t.no tree t.lo t.hi s.deep) fa2 fc2)]).flatMap fltC)) zo Tryz.underlying33 (by kernel_rfl) rfl (by decide) zx hFl'19 zy (n56.blk.sl 1 1 (by decide) (by decide)) rfl (by simp [Value.oneCell']) (by unfold maxLen; omega) (by omega) hB'33.size (by simp) (by rw [List.flatMap_append]; rfl) fun px57 cx57 W57 o57 hg57 hb57 => ?_
       refine zK _ _ (sft_grown hb57 hg57 hFl'19 (by decide)) ?_
       have k49'2 := ((k49'1.below hb55).below n56.below).grown hg57 hFl'19 (by decide)
       refine ys (.o [8] 9) k49'2 [.slice pe s.es.length ce, .slice pb s.bs.length cb, .int .i64 s.deep, .int .i64 (↑(s.looked + 1) : Int), .slice px57 ((fv ++ [(Ft.mk (t.way ++ [t.no]) (lookE l t.way t.no tree t.lo t.hi s.deep) fa2 fc2)]).length) cx57] (.t w.heap.size [45, 35]) fun W58 u58 k58 => ⟨(sft_upd u58 k49'2 g2 (by decide)), ?_⟩
       refine xv1 5 10 (show (.slice (cutA aw 1 cw 5) (ts.length - 1) (cw - 1) : Value) = .slice (cutA aw 1 cw 5) r.length (cw - 1) from by rw [htr]; rfl) ?_
       have hWs'5 := ((((((((((((hWs.below n7.below).updN u8 n7 rfl).only (Only.of_upd (T := [35]) u49 k5_b2'9 (by decide)) (by decide)).below hb50).below n51.below).below n52.below).only (Only.of_upd (T := [52]) u53 k51 (by decide)) (by decide)).only (Only.of_upd (T := [45]) u54 k52 (by decide)) (by decide)).below (below_drew W54)).below hb55).below n56.below).only (Only.of_grown (T := [45]) hg57 hFl'19 (by decide)) (by decide)).only (Only.of_upd (T := [35]) u58 k49'2 (by decide)) (by decide)
       have hKt'17 := (((hKt'16.below hb55).below n56.below).only (Only.of_grown (T := [45]) hg57 hFl'19 (by decide)) (by decide)).only (Only.of_upd (T := [35]) u58 k49'2 (by decide)) (by decide)
       have hNB'9 := ((hNB.below n56.below).only (Only.of_grown (T := [45]) hg57 hFl'19 (by decide)) (by decide)).only (Only.of_upd (T := [35]) u58 k49'2 (by decide)) (by decide)
       have hB'34 := u58.below (hB'33.trans hb57) g2
       have k5_b1'9 := u58.blk (((((u54.blkT (u53.blkT ((((u49.blk (u8.blkT (k5_b1.below n7.below) n7.blk (by decide)) (Ne.symm (Ne.symm d2_b1))).below hb50).below n51.below).below n52.below) k51 (by decide)) k52 (by decide)).below (below_drew W54)).below hb55).below n56.below).grown hg57 hFl'19 (by decide)) (Ne.symm (Ne.symm d2_b1))
       have hEn'9 := u58.own2 (own_grown (own_below (own_below (own_below (u54.own2 (u53.own2 (own_below (own_below (own_below (u49.own2 (u8.own2 (own_below hEn n7.below) n7.blk (by decide)) k5_b2'9 (by decide)) hb50) n51.below) n52.below) k51 (by decide)) k52 (by decide)) (below_drew W54)) hb55) n56.below) hg57 hFl'19 (by decide)) k49'2 (by decide)
       have hBl'14 := u58.own2 (own_grown (own_below (own_below (own_below (u54.own2 (u53.own2 (own_below (own_below (own_below hBl'13 hb50) n51.below) n52.below) k51 (by decide)) k52 (by decide)) (below_drew W54)) hb55) n56.below) hg57 hFl'19 (by decide)) k49'2 (by decide)
       have o57'1 := u58.own2 o57 k49'2 (by decide)
       have hI'7 := (((((((((hI'6.below hb50).below n51.below).below n52.below).only (Only.of_upd (T := [52]) u53 k51 (by decide)) (by decide)).only (Only.of_upd (T := [45]) u54 k52 (by decide)) (by decide)).below (below_drew W54)).below hb55).below n56.below).only (Only.of_grown (T := [45]) hg57 hFl'19 (by decide)) (by decide)).only (Only.of_upd (T := [35]) u58 k49'2 (by decide)) (by decide)
       refine ze 0 (hJ5 _ _ _ ⟨(noteW t.way [t.no] (lookE l t.way t.no tree t.lo t.hi s.deep) { s with looked := s.looked + 1 }), r, pe, pb, px57, ce, cb, cx57, (fv ++ [(Ft.mk (t.way ++ [t.no]) (lookE l t.way t.no tree t.lo t.hi s.deep) fa2 fc2)]), (cutA aw 1 cw 5), (cw - 1), rfl, rfl, hB'34, k5_b1'9, k58, hEn'9, hBl'14, o57'1, (SufN.tail hWs'5 htr), (KeptI.note (f := (Ft.mk (t.way ++ [t.no]) (lookE l t.way t.no tree t.lo t.hi s.deep) fa2 fc2)) hKt'17 (hNB'9.mono hszA) hNp), hI'7, hwo1.err hft hfs hle, map_fltP_snoc hfv⟩ ?_)
       show 20 * (fuel.toNat - (s.looked + 1)) + r.length < 20 * (fuel.toNat - s.looked) + ts.length
       omega
     have k54'3 := k54.below (below_drew W54)
     refine xlv 0 k54'3.rp ?_
     refine xm2 0 1 5 ?_ ?_
     · have k49'3 := (u54.blkT (u53.blkT (((k49.below hb50).below n51.below).below n52.below) k51 (by decide)) k52 (by decide)).below (below_drew W54)
       refine xb 0 4 k49'3 ?_
       have hKt'18 := (((((hKt'15.below hb50).below n51.below).below n52.below).only (Only.of_upd (T := [52]) u53 k51 (by decide)) (by decide)).only (Only.of_upd (T := [45]) u54 k52 (by decide)) (by decide)).below (below_drew W54)
       have hNA'2 := ((((hNA.below n51.below).below n52.below).only (Only.of_upd (T := [52]) u53 k51 (by decide)) (by decide)).only (Only.of_upd (T := [45]) u54 k52 (by decide)) (by decide)).below (below_drew W54)
       refine yc (.o [] 5) (args := #[.slice t.wa t.way.length t.wc, .agg #[.slice fa 1 fc, .int .i64 (lookE l t.way t.no tree t.lo t.hi s.deep)]]) (.t w.heap.size [45, 35]) (ref14_wrapK t.wa t.wc t.way (lookE l t.way t.no tree t.lo t.hi s.deep) _ fa fc t.no _ hle (KeptI.hd hKt'18).ints (by omega) hNA'2) ?_
       rintro _ W59 ⟨fa2, fc2, rfl, hb59, hNB⟩
       refine ⟨(SF.of_below _ hb59), ?_⟩
       have hNp := hNB.apart hBlA (Nat.le_refl _)
       refine xbs (.o [] 6) 1 [.slice fa2 ((t.way ++ [t.no]).length) fc2, .int .i64 (lookE l t.way t.no tree t.lo t.hi s.deep)] 45 fun b60 W60 n60 => ?_
       have k54'4 := k54'3.below hb59
       have d60_b52 := n60.ne k54'4
       have hB'35 := Bl.next (Bl.next (u54.below (u53.below (Bl.next hB'31 n52.below) g51) g52) (below_drew W54)) hb59
       have g60 := n60.ge hB'35
       have hFl'20 := own_below (own_below (u54.own3 (u53.own2 (own_below hFl'17 n52.below) k51 (by decide)) r52_hFl) (below_drew W54)) hb59
       have r60_hFl := own_ne hFl'20 n60
       have hFl'21 := own_below hFl'20 n60.below
       have hB'36 := Bl.next hB'35 n60.below
       refine ybi (.o [] 7) (.t w.heap.size [45, 35]) fun _ _ _ _ zJ zQ zo zx zy zK => op_app (m := 1) (news := [.slice fa2 ((t.way ++ [t.no]).length) fc2, .int .i64 (lookE l t.way t.no tree t.lo t.hi s.deep)]) (.agg #[.slice none 0 0, .int .i64 0]) 2 32 ((fv ++ [(Ft.mk (t.way ++ [t.no]) (lookE l t.way t.no tree t.lo t.hi s.deep) fa2 fc2)]).length) (((fv ++ [(Ft.mk (t.way ++ [t.no]) (lookE l t.way t.no tree t.lo t.hi s.deep) fa2 fc2)]).flatMap fltC)) zo Tryz.underlying33 (by kernel_rfl) rfl (by decide) zx hFl'21 zy (n60.blk.sl 1 1 (by decide) (by decide)) rfl (by simp [Value.oneCell']) (by unfold maxLen; omega) (by omega) hB'36.size (by simp) (by rw [List.flatMap_append]; rfl) fun px61 cx61 W61 o61 hg61 hb61 => ?_
       refine zK _ _ (sft_grown hb61 hg61 hFl'21 (by decide)) ?_
       have k49'4 := ((k49'3.below hb59).below n60.below).grown hg61 hFl'21 (by decide)
       refine ys (.o [8] 9) k49'4 [.slice pe s.es.length ce, .slice pb s.bs.length cb, .int .i64 s.deep, .int .i64 (↑(s.looked + 1) : Int), .slice px61 ((fv ++ [(Ft.mk (t.way ++ [t.no]) (lookE l t.way t.no tree t.lo t.hi s.deep) fa2 fc2)]).length) cx61] (.t w.heap.size [45, 35]) fun W62 u62 k62 => ⟨(sft_upd u62 k49'4 g2 (by decide)), ?_⟩
       refine xv1 5 10 (show (.slice (cutA aw 1 cw 5) (ts.length - 1) (cw - 1) : Value) = .slice (cutA aw 1 cw 5) r.length (cw - 1) from by rw [htr]; rfl) ?_
       have hWs'6 := ((((((((((((hWs.below n7.below).updN u8 n7 rfl).only (Only.of_upd (T := [35]) u49 k5_b2'9 (by decide)) (by decide)).below hb50).below n51.below).below n52.below).only (Only.of_upd (T := [52]) u53 k51 (by decide)) (by decide)).only (Only.of_upd (T := [45]) u54 k52 (by decide)) (by decide)).below (below_drew W54)).below hb59).below n60.below).only (Only.of_grown (T := [45]) hg61 hFl'21 (by decide)) (by decide)).only (Only.of_upd (T := [35]) u62 k49'4 (by decide)) (by decide)
       have hKt'19 := (((hKt'18.below hb59).below n60.below).only (Only.of_grown (T := [45]) hg61 hFl'21 (by decide)) (by decide)).only (Only.of_upd (T := [35]) u62 k49'4 (by decide)) (by decide)
       have hNB'10 := ((hNB.below n60.below).only (Only.of_grown (T := [45]) hg61 hFl'21 (by decide)) (by decide)).only (Only.of_upd (T := [35]) u62 k49'4 (by decide)) (by decide)
       have hB'37 := u62.below (hB'36.trans hb61) g2
       have k5_b1'10 := u62.blk (((((u54.blkT (u53.blkT ((((u49.blk (u8.blkT (k5_b1.below n7.below) n7.blk (by decide)) (Ne.symm (Ne.symm d2_b1))).below hb50).below n51.below).below n52.below) k51 (by decide)) k52 (by decide)).below (below_drew W54)).below hb59).below n60.below).grown hg61 hFl'21 (by decide)) (Ne.symm (Ne.symm d2_b1))
       have hEn'10 := u62.own2 (own_grown (own_below (own_below (own_below (u54.own2 (u53.own2 (own_below (own_below (own_below (u49.own2 (u8.own2 (own_below hEn n7.below) n7.blk (by decide)) k5_b2'9 (by decide)) hb50) n51.below) n52.below) k51 (by decide)) k52 (by decide)) (below_drew W54)) hb59) n60.below) hg61 hFl'21 (by decide)) k49'4 (by decide)
       have hBl'15 := u62.own2 (own_grown (own_below (own_below (own_below (u54.own2 (u53.own2 (own_below (own_below (own_below hBl'13 hb50) n51.below) n52.below) k51 (by decide)) k52 (by decide)) (below_drew W54)) hb59) n60.below) hg61 hFl'21 (by decide)) k49'4 (by decide)
       have o61'1 := u62.own2 o61 k49'4 (by decide)
       have hI'8 := (((((((((hI'6.below hb50).below n51.below).below n52.below).only (Only.of_upd (T := [52]) u53 k51 (by decide)) (by decide)).only (Only.of_upd (T := [45]) u54 k52 (by decide)) (by decide)).below (below_drew W54)).below hb59).below n60.below).only (Only.of_grown (T := [45]) hg61 hFl'21 (by decide)) (by decide)).only (Only.of_upd (T := [35]) u62 k49'4 (by decide)) (by decide)
       refine ze 0 (hJ5 _ _ _ ⟨(noteW t.way [t.no] (lookE l t.way t.no tree t.lo t.hi s.deep) { s with looked := s.looked + 1 }), r, pe, pb, px61, ce, cb, cx61, (fv ++ [(Ft.mk (t.way ++ [t.no]) (lookE l t.way t.no tree t.lo t.hi s.deep) fa2 fc2)]), (cutA aw 1 cw 5), (cw - 1), rfl, rfl, hB'37, k5_b1'10, k62, hEn'10, hBl'15, o61'1, (SufN.tail hWs'6 htr), (KeptI.note (f := (Ft.mk (t.way ++ [t.no]) (lookE l t.way t.no tree t.lo t.hi s.deep) fa2 fc2)) hKt'19 (hNB'10.mono hszA) hNp), hI'8, hwo1.err hft hfs hle, map_fltP_snoc hfv⟩ ?_)
       show 20 * (fuel.toNat - (s.looked + 1)) + r.length < 20 * (fuel.toNat - s.looked) + ts.length
       omega
     have hKt'20 := (((((hKt'15.below hb50).below n51.below).below n52.below).only (Only.of_upd (T := [52]) u53 k51 (by decide)) (by decide)).only (Only.of_upd (T := [45]) u54 k52 (by decide)) (by decide)).below (below_drew W54)
     have hNA'3 := ((((hNA.below n51.below).below n52.below).only (Only.of_upd (T := [52]) u53 k51 (by decide)) (by decide)).only (Only.of_upd (T := [45]) u54 k52 (by decide)) (by decide)).below (below_drew W54)
     refine yc 0 (args := #[.slice t.wa t.way.length t.wc, .agg #[.slice fa 1 fc, .int .i64 (lookE l t.way t.no tree t.lo t.hi s.deep)]]) (.t w.heap.size [45, 35]) (ref14_wrapK t.wa t.wc t.way (lookE l t.way t.no tree t.lo t.hi s.deep) _ fa fc t.no _ hle (KeptI.hd hKt'20).ints (by omega) hNA'3) ?_
     rintro _ W63 ⟨fa2, fc2, rfl, hb63, hNB⟩
     refine ⟨(SF.of_below _ hb63), ?_⟩
     have hNp := hNB.apart hBlA (Nat.le_refl _)
     refine xm2 0 1 6 ?_ ?_
     · have k49'5 := ((u54.blkT (u53.blkT (((k49.below hb50).below n51.below).below n52.below) k51 (by decide)) k52 (by decide)).below (below_drew W54)).below hb63
       refine xb 0 4 k49'5 ?_
       refine xbs (.o [] 6) 1 [.slice fa2 ((t.way ++ [t.no]).length) fc2, .int .i64 (lookE l t.way t.no tree t.lo t.hi s.deep)] 45 fun b64 W64 n64 => ?_
       have k54'5 := k54'3.below hb63
       have d64_b52 := n64.ne k54'5
       have hB'38 := Bl.next (Bl.next (u54.below (u53.below (Bl.next hB'31 n52.below) g51) g52) (below_drew W54)) hb63
       have g64 := n64.ge hB'38
       have hFl'22 := own_below (own_below (u54.own3 (u53.own2 (own_below hFl'17 n52.below) k51 (by decide)) r52_hFl) (below_drew W54)) hb63
       have r64_hFl := own_ne hFl'22 n64
       have hFl'23 := own_below hFl'22 n64.below
       have hB'39 := Bl.next hB'38 n64.below
       refine ybi (.o [] 7) (.t w.heap.size [45, 35]) fun _ _ _ _ zJ zQ zo zx zy zK => op_app (m := 1) (news := [.slice fa2 ((t.way ++ [t.no]).length) fc2, .int .i64 (lookE l t.way t.no tree t.lo t.hi s.deep)]) (.agg #[.slice none 0 0, .int .i64 0]) 2 32 ((fv ++ [(Ft.mk (t.way ++ [t.no]) (lookE l t.way t.no tree t.lo t.hi s.deep) fa2 fc2)]).length) (((fv ++ [(Ft.mk (t.way ++ [t.no]) (lookE l t.way t.no tree t.lo t.hi s.deep) fa2 fc2)]).flatMap fltC)) zo Tryz.underlying33 (by kernel_rfl) rfl (by decide) zx hFl'23 zy (n64.blk.sl 1 1 (by decide) (by decide)) rfl (by simp [Value.oneCell']) (by unfold maxLen; omega) (by omega) hB'39.size (by simp) (by rw [List.flatMap_append]; rfl) fun px65 cx65 W65 o65 hg65 hb65 => ?_
       refine zK _ _ (sft_grown hb65 hg65 hFl'23 (by decide)) ?_
       have k49'6 := (k49'5.below n64.below).grown hg65 hFl'23 (by decide)
       refine ys (.o [8] 9) k49'6 [.slice pe s.es.length ce, .slice pb s.bs.length cb, .int .i64 s.deep, .int .i64 (↑(s.looked + 1) : Int), .slice px65 ((fv ++ [(Ft.mk (t.way ++ [t.no]) (lookE l t.way t.no tree t.lo t.hi s.deep) fa2 fc2)]).length) cx65] (.t w.heap.size [45, 35]) fun W66 u66 k66 => ⟨(sft_upd u66 k49'6 g2 (by decide)), ?_⟩
       refine xv1 5 10 (show (.slice (cutA aw 1 cw 5) (ts.length - 1) (cw - 1) : Value) = .slice (cutA aw 1 cw 5) r.length (cw - 1) from by rw [htr]; rfl) ?_
       have hWs'7 := ((((((((((((hWs.below n7.below).updN u8 n7 rfl).only (Only.of_upd (T := [35]) u49 k5_b2'9 (by decide)) (by decide)).below hb50).below n51.below).below n52.below).only (Only.of_upd (T := [52]) u53 k51 (by decide)) (by decide)).only (Only.of_upd (T := [45]) u54 k52 (by decide)) (by decide)).below (below_drew W54)).below hb63).below n64.below).only (Only.of_grown (T := [45]) hg65 hFl'23 (by decide)) (by decide)).only (Only.of_upd (T := [35]) u66 k49'6 (by decide)) (by decide)
       have hKt'21 := (((hKt'20.below hb63).below n64.below).only (Only.of_grown (T := [45]) hg65 hFl'23 (by decide)) (by decide)).only (Only.of_upd (T := [35]) u66 k49'6 (by decide)) (by decide)
       have hNB'11 := ((hNB.below n64.below).only (Only.of_grown (T := [45]) hg65 hFl'23 (by decide)) (by decide)).only (Only.of_upd (T := [35]) u66 k49'6 (by decide)) (by decide)
       have hB'40 := u66.below (hB'39.trans hb65) g2
       have k5_b1'11 := u66.blk (((((u54.blkT (u53.blkT ((((u49.blk (u8.blkT (k5_b1.below n7.below) n7.blk (by decide)) (Ne.symm (Ne.symm d2_b1))).below hb50).below n51.below).below n52.below) k51 (by decide)) k52 (by decide)).below (below_drew W54)).below hb63).below n64.below).grown hg65 hFl'23 (by decide)) (Ne.symm (Ne.symm d2_b1))
       have hEn'11 := u66.own2 (own_grown (own_below (own_below (own_below (u54.own2 (u53.own2 (own_below (own_below (own_below (u49.own2 (u8.own2 (own_below hEn n7.below) n7.blk (by decide)) k5_b2'9 (by decide)) hb50) n51.below) n52.below) k51 (by decide)) k52 (by decide)) (below_drew W54)) hb63) n64.below) hg65 hFl'23 (by decide)) k49'6 (by decide)
       have hBl'16 := u66.own2 (own_grown (own_below (own_below (own_below (u54.own2 (u53.own2 (own_below (own_below (own_below hBl'13 hb50) n51.below) n52.below) k51 (by decide)) k52 (by decide)) (below_drew W54)) hb63) n64.below) hg65 hFl'23 (by decide)) k49'6 (by decide)
       have o65'1 := u66.own2 o65 k49'6 (by decide)
       have hI'9 := (((((((((hI'6.below hb50).below n51.below).below n52.below).only (Only.of_upd (T := [52]) u53 k51 (by decide)) (by decide)).only (Only.of_upd (T := [45]) u54 k52 (by decide)) (by decide)).below (below_drew W54)).below hb63).below n64.below).only (Only.of_grown (T := [45]) hg65 hFl'23 (by decide)) (by decide)).only (Only.of_upd (T := [35]) u66 k49'6 (by decide)) (by decide)
       refine ze 0 (hJ5 _ _ _ ⟨(noteW t.way [t.no] (lookE l t.way t.no tree t.lo t.hi s.deep) { s with looked := s.looked + 1 }), r, pe, pb, px65, ce, cb, cx65, (fv ++ [(Ft.mk (t.way ++ [t.no]) (lookE l t.way t.no tree t.lo t.hi s.deep) fa2 fc2)]), (cutA aw 1 cw 5), (cw - 1), rfl, rfl, hB'40, k5_b1'11, k66, hEn'11, hBl'16, o65'1, (SufN.tail hWs'7 htr), (KeptI.note (f := (Ft.mk (t.way ++ [t.no]) (lookE l t.way t.no tree t.lo t.hi s.deep) fa2 fc2)) hKt'21 (hNB'11.mono hszA) hNp), hI'9, hwo1.err hft hfs hle, map_fltP_snoc hfv⟩ ?_)
       show 20 * (fuel.toNat - (s.looked + 1)) + r.length < 20 * (fuel.toNat - s.looked) + ts.length
       omega
     refine xbs 0 1 [.slice fa2 ((t.way ++ [t.no]).length) fc2, .int .i64 (lookE l t.way t.no tree t.lo t.hi s.deep)] 45 fun b67 W67 n67 => ?_
     have k54'6 := k54'3.below hb63
     have d67_b52 := n67.ne k54'6
     have hB'41 := Bl.next (Bl.next (u54.below (u53.below (Bl.next hB'31 n52.below) g51) g52) (below_drew W54)) hb63
     have g67 := n67.ge hB'41
     have hFl'24 := own_below (own_below (u54.own3 (u53.own2 (own_below hFl'17 n52.below) k51 (by decide)) r52_hFl) (below_drew W54)) hb63
     have r67_hFl := own_ne hFl'24 n67
     have k49'7 := (((u54.blkT (u53.blkT (((k49.below hb50).below n51.below).below n52.below) k51 (by decide)) k52 (by decide)).below (below_drew W54)).below hb63).below n67.below
     refine xb (.o [] 1) 4 k49'7 ?_
     have hFl'25 := own_below hFl'24 n67.below
     have hB'42 := Bl.next hB'41 n67.below
     refine ybi (.o [] 7) (.t w.heap.size [45, 35]) fun _ _ _ _ zJ zQ zo zx zy zK => op_app (m := 1) (news := [.slice fa2 ((t.way ++ [t.no]).length) fc2, .int .i64 (lookE l t.way t.no tree t.lo t.hi s.deep)]) (.agg #[.slice none 0 0, .int .i64 0]) 2 32 ((fv ++ [(Ft.mk (t.way ++ [t.no]) (lookE l t.way t.no tree t.lo t.hi s.deep) fa2 fc2)]).length) (((fv ++ [(Ft.mk (t.way ++ [t.no]) (lookE l t.way t.no tree t.lo t.hi s.deep) fa2 fc2)]).flatMap fltC)) zo Tryz.underlying33 (by kernel_rfl) rfl (by decide) zx hFl'25 zy (n67.blk.sl 1 1 (by decide) (by decide)) rfl (by simp [Value.oneCell']) (by unfold maxLen; omega) (by omega) hB'42.size (by simp) (by rw [List.flatMap_append]; rfl) fun px68 cx68 W68 o68 hg68 hb68 => ?_
     refine zK _ _ (sft_grown hb68 hg68 hFl'25 (by decide)) ?_
     have k49'8 := k49'7.grown hg68 hFl'25 (by decide)
     refine ys (.o [8] 9) k49'8 [.slice pe s.es.length ce, .slice pb s.bs.length cb, .int .i64 s.deep, .int .i64 (↑(s.looked + 1) : Int), .slice px68 ((fv ++ [(Ft.mk (t.way ++ [t.no]) (lookE l t.way t.no tree t.lo t.hi s.deep) fa2 fc2)]).length) cx68] (.t w.heap.size [45, 35]) fun W69 u69 k69 => ⟨(sft_upd u69 k49'8 g2 (by decide)), ?_⟩
     refine xv1 5 10 (show (.slice (cutA aw 1 cw 5) (ts.length - 1) (cw - 1) : Value) = .slice (cutA aw 1 cw 5) r.length (cw - 1) from by rw [htr]; rfl) ?_
     have hWs'8 := ((((((((((((hWs.below n7.below).updN u8 n7 rfl).only (Only.of_upd (T := [35]) u49 k5_b2'9 (by decide)) (by decide)).below hb50).below n51.below).below n52.below).only (Only.of_upd (T := [52]) u53 k51 (by decide)) (by decide)).only (Only.of_upd (T := [45]) u54 k52 (by decide)) (by decide)).below (below_drew W54)).below hb63).below n67.below).only (Only.of_grown (T := [45]) hg68 hFl'25 (by decide)) (by decide)).only (Only.of_upd (T := [35]) u69 k49'8 (by decide)) (by decide)
     have hKt'22 := (((hKt'20.below hb63).below n67.below).only (Only.of_grown (T := [45]) hg68 hFl'25 (by decide)) (by decide)).only (Only.of_upd (T := [35]) u69 k49'8 (by decide)) (by decide)
     have hNB'12 := ((hNB.below n67.below).only (Only.of_grown (T := [45]) hg68 hFl'25 (by decide)) (by decide)).only (Only.of_upd (T := [35]) u69 k49'8 (by decide)) (by decide)
     have hB'43 := u69.below (hB'42.trans hb68) g2
     have k5_b1'12 := u69.blk (((((u54.blkT (u53.blkT ((((u49.blk (u8.blkT (k5_b1.below n7.below) n7.blk (by decide)) (Ne.symm (Ne.symm d2_b1))).below hb50).below n51.below).below n52.below) k51 (by decide)) k52 (by decide)).below (below_drew W54)).below hb63).below n67.below).grown hg68 hFl'25 (by decide)) (Ne.symm (Ne.symm d2_b1))
     have hEn'12 := u69.own2 (own_grown (own_below (own_below (own_below (u54.own2 (u53.own2 (own_below (own_below (own_below (u49.own2 (u8.own2 (own_below hEn n7.below) n7.blk (by decide)) k5_b2'9 (by decide)) hb50) n51.below) n52.below) k51 (by decide)) k52 (by decide)) (below_drew W54)) hb63) n67.below) hg68 hFl'25 (by decide)) k49'8 (by decide)
     have hBl'17 := u69.own2 (own_grown (own_below (own_below (own_below (u54.own2 (u53.own2 (own_below (own_below (own_below hBl'13 hb50) n51.below) n52.below) k51 (by decide)) k52 (by decide)) (below_drew W54)) hb63) n67.below) hg68 hFl'25 (by decide)) k49'8 (by decide)
     have o68'1 := u69.own2 o68 k49'8 (by decide)
     have hI'10 := (((((((((hI'6.below hb50).below n51.below).below n52.below).only (Only.of_upd (T := [52]) u53 k51 (by decide)) (by decide)).only (Only.of_upd (T := [45]) u54 k52 (by decide)) (by decide)).below (below_drew W54)).below hb63).below n67.below).only (Only.of_grown (T := [45]) hg68 hFl'25 (by decide)) (by decide)).only (Only.of_upd (T := [35]) u69 k49'8 (by decide)) (by decide)
     refine ze 0 (hJ5 _ _ _ ⟨(noteW t.way [t.no] (lookE l t.way t.no tree t.lo t.hi s.deep) { s with looked := s.looked + 1 }), r, pe, pb, px68, ce, cb, cx68, (fv ++ [(Ft.mk (t.way ++ [t.no]) (lookE l t.way t.no tree t.lo t.hi s.deep) fa2 fc2)]), (cutA aw 1 cw 5), (cw - 1), rfl, rfl, hB'43, k5_b1'12, k69, hEn'12, hBl'17, o68'1, (SufN.tail hWs'8 htr), (KeptI.note (f := (Ft.mk (t.way ++ [t.no]) (lookE l t.way t.no tree t.lo t.hi s.deep) fa2 fc2)) hKt'22 (hNB'12.mono hszA) hNp), hI'10, hwo1.err hft hfs hle, map_fltP_snoc hfv⟩ ?_)
     show 20 * (fuel.toNat - (s.looked + 1)) + r.length < 20 * (fuel.toNat - s.looked) + ts.length
     omega
   have hnc : nodC (inB l t.no) ≤ 18 := (look_node hle).2.2
   refine xa 3 [.int .i64 0, .bool false, .slice none 0 0, .slice none 0 0] 52 fun b70 W70 n70 => ?_
   have hB'44 := Bl.next hB'29 hb50
   have g70 := n70.ge hB'44
   refine xa 0 [.slice none 0 0, .int .i64 0] 45 fun b71 W71 n71 => ?_
   have hB'45 := Bl.next hB'44 n70.below
   have g71 := n71.ge hB'45
   have hFl'26 := own_below (own_below (u49.own2 (u8.own2 (own_below hFl n7.below) n7.blk (by decide)) k5_b2'9 (by decide)) hb50) n70.below
   have r71_hFl := own_ne hFl'26 n71
   have k70 := n70.blk.below n71.below
   refine xsv 0 k70 [.int .i64 (nodT (inB l t.no)), .bool (nodL (inB l t.no)), .slice kp (nodC (inB l t.no)) kc, .slice vp (nodC (inB l t.no)) vc] fun W72 u72 k72 => ?_
   have k71 := u72.blkT n71.blk k70 (by decide)
   refine xsv 0 k71 [.slice none 0 0, .int .i64 0] fun W73 u73 k73 => ?_
   refine xb 6 1 k73 ?_
   have k49'9 := u73.blkT (u72.blkT (((k49.below hb50).below n70.below).below n71.below) k70 (by decide)) k71 (by decide)
   refine xb 9 1 k49'9 ?_
   have k8'5 := u73.blkT (u72.blkT (((k8'3.below hb50).below n70.below).below n71.below) k70 (by decide)) k71 (by decide)
   refine xb 1 0 k8'5 ?_
   refine xbs 0 1 [.int .i64 t.no] 3 fun b74 W74 n74 => ?_
   have hB'46 := u73.below (u72.below (Bl.next hB'45 n71.below) g70) g71
   have g74 := n74.ge hB'46
   have hBl'18 := u73.own2 (u72.own2 (own_below (own_below (own_below hBl'13 hb50) n70.below) n71.below) k70 (by decide)) k71 (by decide)
   have r74_hBl := own_ne hBl'18 n74
   have hk'1 := u73.own2 (u72.own2 (own_below (own_below (own_mono hk hB'29.size) n70.below) n71.below) k70 (by decide)) k71 (by decide)
   have r74_hk := own_ne hk'1 n74
   have hBl'19 := own_below hBl'18 n74.below
   have hB'47 := Bl.next hB'46 n74.below
   refine xbi 0 fun _ _ _ _ zJ zQ zo zx zy zK => op_app_at (b := b74) (c := 1) (m := 1) (news := [.int .i64 t.no]) (.int .i64 0) 1 8 ((s.bs ++ [t.no]).length) (((s.bs ++ [t.no]).map (Value.int .i64))) zo Tryz.underlying26 (by kernel_rfl) rfl (by decide) zx hBl'19 zy n74.blk rfl (by simp [Value.oneCell']) (by unfold maxLen; omega) (by omega) hB'47.size (by simp) (by simp) fun px75 cx75 W75 o75 hg75 hb75 ha75 => ?_
   have hk'2 := own_below hk'1 n74.below
   have q75_hk := hApk.row hk'2 hg75
   replace hApk := (hApk.grow hk'2 ha75)
   have hkq75 := q75_hk
   refine zK _ _ ?_
   have k49'10 := (k49'9.below n74.below).grown hg75 hBl'19 (by decide)
   refine xs 1 k49'10 [.slice pe s.es.length ce, .slice px75 ((s.bs ++ [t.no]).length) cx75, .int .i64 s.deep, .int .i64 (↑(s.looked + 1) : Int), .slice pf fv.length cf] fun W76 u76 k76 => ?_
   have k72'1 := u76.blkT (((u73.blkT k72 k71 (by decide)).below n74.below).grown hg75 hBl'19 (by decide)) k49'10 (by decide)
   refine xb 6 1 k72'1 ?_
   refine xi 2 (nodL (inB l t.no)) (fun hc77 => ?_) (fun hc77 => ?_)
   · have hlf := hc77
     have k8'6 := u76.blkT ((k8'5.below n74.below).grown hg75 hBl'19 (by decide)) k49'10 (by decide)
     refine xb 3 3 k8'6 ?_
     refine xwm 1 ((↑t.way.length : Int) + 1) (↑(t.way.length + 1) : Int) ?_
     refine xs 1 k76 [.slice pe s.es.length ce, .slice px75 ((s.bs ++ [t.no]).length) cx75, .int .i64 (↑(t.way.length + 1) : Int), .int .i64 (↑(s.looked + 1) : Int), .slice pf fv.length cf] fun W78 u78 k78 => ?_
     have hWs'9 := (((((((((((hWs.below n7.below).updN u8 n7 rfl).only (Only.of_upd (T := [35]) u49 k5_b2'9 (by decide)) (by decide)).below hb50).below n70.below).below n71.below).only (Only.of_upd (T := [52]) u72 k70 (by decide)) (by decide)).only (Only.of_upd (T := [45]) u73 k71 (by decide)) (by decide)).below n74.below).only (Only.of_grown (T := [3]) hg75 hBl'19 (by decide)) (by decide)).only (Only.of_upd (T := [35]) u76 k49'10 (by decide)) (by decide)).only (Only.of_upd (T := [35]) u78 k76 (by decide)) (by decide)
     have hWu := hWs'9.un
     have hgl := (hwo1.leaf hft hfs hle hlf).grow.1
     have hgl2 : s.es.length + nodC (inB l t.no) ≤ 1000000 := by have q := Nat.le_trans hgl hfe; simpa [leafL_len] using q
     have hEn'13 := u78.own2 (u76.own2 (own_grown (own_below (u73.own2 (u72.own2 (own_below (own_below (own_below (u49.own2 (u8.own2 (own_below hEn n7.below) n7.blk (by decide)) k5_b2'9 (by decide)) hb50) n70.below) n71.below) k70 (by decide)) k71 (by decide)) n74.below) hg75 hBl'19 (by decide)) k49'10 (by decide)) k76 (by decide)
     have hI'11 := ((((((((hI'6.below hb50).below n70.below).below n71.below).only (Only.of_upd (T := [52]) u72 k70 (by decide)) (by decide)).only (Only.of_upd (T := [45]) u73 k71 (by decide)) (by decide)).below n74.below).only (Only.of_grown (T := [3]) hg75 hBl'19 (by decide)) (by decide)).only (Only.of_upd (T := [35]) u76 k49'10 (by decide)) (by decide)).only (Only.of_upd (T := [35]) u78 k76 (by decide)) (by decide)
     have hFl'27 := u78.own2 (u76.own2 (own_grown (own_below (u73.own3 (u72.own2 (own_below hFl'26 n71.below) k70 (by decide)) r71_hFl) n74.below) hg75 hBl'19 (by decide)) k49'10 (by decide)) k76 (by decide)
     have hKt'23 := ((((((((hKt'15.below hb50).below n70.below).below n71.below).only (Only.of_upd (T := [52]) u72 k70 (by decide)) (by decide)).only (Only.of_upd (T := [45]) u73 k71 (by decide)) (by decide)).below n74.below).grow hBl'19 hg75 ha75).only (Only.of_upd (T := [35]) u76 k49'10 (by decide)) (by decide)).only (Only.of_upd (T := [35]) u78 k76 (by decide)) (by decide)
     have hv_'1 := u78.own2 (u76.own2 (own_grown (own_below (u73.own2 (u72.own2 (own_below (own_below (own_mono hv_ hB'29.size) n70.below) n71.below) k70 (by decide)) k71 (by decide)) n74.below) hg75 hBl'19 (by decide)) k49'10 (by decide)) k76 (by decide)
     have hk'3 := u78.own2 (u76.own2 hkq75 k49'10 (by decide)) k76 (by decide)
     have o75'1 := u78.own2 (u76.own2 o75 k49'10 (by decide)) k76 (by decide)
     have hB'48 := u78.below (u76.below (hB'47.trans hb75) g2) g2
     have k5_b1'13 := u78.blk (u76.blk (((u73.blkT (u72.blkT ((((u49.blk (u8.blkT (k5_b1.below n7.below) n7.blk (by decide)) (Ne.symm (Ne.symm d2_b1))).below hb50).below n70.below).below n71.below) k70 (by decide)) k71 (by decide)).below n74.below).grown hg75 hBl'19 (by decide)) (Ne.symm (Ne.symm d2_b1))) (Ne.symm (Ne.symm d2_b1))
     have k8'7 := u78.blkT k8'6 k76 (by decide)
     have k72'2 := u78.blkT k72'1 k76 (by decide)
     have k73'1 := u78.blkT (u76.blkT ((k73.below n74.below).grown hg75 hBl'19 (by decide)) k49'10 (by decide)) k76 (by decide)
     refine zl 9 186 (fun zm zkv V => ∃ (i : Nat) (pe2 : Option Addr) (ce2 : Nat), zkv = [(0, .pointer (some ⟨bm, 0, none⟩)), (2, .int .i64 tree), (3, .int .i64 fuel), (8, .pointer (some ⟨b1, 0, none⟩)), (9, .pointer (some ⟨b2, 0, none⟩)), (10, .slice (cutA aw 1 cw 5) (ts.length - 1) (cw - 1)), (11, .pointer (some ⟨b7, 0, none⟩)), (12, .pointer (some ⟨b70, 0, none⟩)), (14, .int .i64 (↑i : Int))] ∧ zm = (nodC (inB l t.no)) - ((↑i : Int)).toNat ∧ Below w.heap.size w V ∧ Blk V b1 ([.slice none 0 0, .slice none 0 0, .int .i64 0, .int .i64 0, .slice none 0 0]) 35 ∧ Blk V b2 ([.slice pe2 (s.es.length + i) ce2, .slice px75 ((s.bs ++ [t.no]).length) cx75, .int .i64 (↑(t.way.length + 1) : Int), .int .i64 (↑(s.looked + 1) : Int), .slice pf fv.length cf]) 35 ∧ Blk V b7 ([.int .i64 t.no, .int .i64 t.lo, .int .i64 t.hi, .slice t.wa t.way.length t.wc, .int .i64 t.ft]) 102 ∧ Blk V b70 ([.int .i64 (nodT (inB l t.no)), .bool (nodL (inB l t.no)), .slice kp (nodC (inB l t.no)) kc, .slice vp (nodC (inB l t.no)) vc]) 52 ∧ Blk V b71 ([.slice none 0 0, .int .i64 0]) 45 ∧ V.ownsRow w.heap.size 108 3 (.slice pe2 (s.es.length + i) ce2) (s.es.length + i) ((s.es ++ leafL (nodK l t.no) (nodV l t.no) t.no i).flatMap entC) ∧ RefI B bm p k c l V ∧ V.ownsRow w.heap.size 45 2 (.slice pf fv.length cf) fv.length (fv.flatMap fltC) ∧ SufV w.heap.size V aw cw ts ∧ KeptI w.heap.size V (.slice px75 ((s.bs ++ [t.no]).length) cx75) ((t :: r).map wayK ++ fv.map fltK) ∧ V.ownsRow w.heap.size 9 1 (.slice vp (nodC (inB l t.no)) vc) (nodC (inB l t.no)) ((nodV l t.no).map sv) ∧ V.ownsRow w.heap.size 3 1 (.slice kp (nodC (inB l t.no)) kc) (nodC (inB l t.no)) ((nodK l t.no).map (Value.int .i64)) ∧ V.ownsRow w.heap.size 3 1 (.slice px75 ((s.bs ++ [t.no]).length) cx75) ((s.bs ++ [t.no]).length) ((s.bs ++ [t.no]).map (Value.int .i64)) ∧ i ≤ (nodC (inB l t.no))) ⟨0, pe, ce, rfl, rfl, hB'48, k5_b1'13, k78, k8'7, k72'2, k73'1, (by simpa [leafL] using hEn'13), hI'11, hFl'27, hWu, hKt'23, hv_'1, hk'3, o75'1, Nat.zero_le _⟩ ?_
     rintro _ _ W79 ⟨i, pe2, ce2, rfl, rfl, hB_79, k79_b1, k79_b2, k79_b7, k79_b70, k79_b71, hE, hI, hFl, hWu, hKt, hv_, hk, o75, hi⟩ J79 hJ79 r79
     refine xb 5 2 k79_b70 ?_
     refine xid 4 ((↑i : Int) < (↑(nodC (inB l t.no)) : Int)) (fun hc80 => ?_) (fun hc80 => ?_)
     · refine xd 4 (.t w.heap.size [108, 35]) ?_
       have k79_b70'1 := k79_b70.below (below_drew W79)
       refine xbt (.e [0, 2] 3) 2 w.heap.size [108, 35] k79_b70'1 ?_
       have hk'4 := own_below hk (below_drew W79)
       refine xx (.e [4] 5) _ (nodC (inB l t.no)) i 1 (IntsN.elem (l := nodK l t.no) (own_sl hk'4) (keysI_len _ _) (k := i) (by omega)).1 ?_
       refine xlt (.e [] 6) (.t w.heap.size [108, 35]) (fun V hV => (IntsN.elem (l := nodK l t.no) (own_sl (own_only hk'4 hV.2 (by decide))) (keysI_len _ _) (k := i) (by omega)).2) ?_
       refine xbt (.e [7] 8) 3 w.heap.size [108, 35] k79_b70'1 ?_
       have hv_'2 := own_below hv_ (below_drew W79)
       refine xx (.e [9] 10) _ (nodC (inB l t.no)) i 1 (Strs.elem (V := nodV l t.no) (own_sl hv_'2) (valsL_len _ _) (k := i) (by omega)).1 ?_
       refine xlt (.e [] 11) (.t w.heap.size [108, 35]) (fun V hV => (Strs.elem (V := nodV l t.no) (own_sl (own_only hv_'2 hV.2 (by decide))) (valsL_len _ _) (k := i) (by omega)).2) ?_
       have k79_b7'1 := k79_b7.below (below_drew W79)
       refine xbt (.e [12] 13) 0 w.heap.size [108, 35] k79_b7'1 ?_
       refine xm2 (.b [14]) 1 15 ?_ ?_
       · have k79_b2'1 := k79_b2.below (below_drew W79)
         refine xb 0 0 k79_b2'1 ?_
         refine xbs (.o [] 15) 1 [.int .i64 ((nodK l t.no).getD i 0), .string ⟨((nodV l t.no).getD i []).toArray⟩, .int .i64 t.no] 108 fun b81 W81 n81 => ?_
         have hB'49 := Bl.next hB_79 (below_drew W79)
         have g81 := n81.ge hB'49
         have hE'1 := own_below hE (below_drew W79)
         have r81_hE := own_ne hE'1 n81
         have hE'2 := own_below hE'1 n81.below
         have hB'50 := Bl.next hB'49 n81.below
         refine ybi (.o [] 16) (.t w.heap.size [108, 35]) fun _ _ _ _ zJ zQ zo zx zy zK => op_app (m := 1) (news := [.int .i64 ((nodK l t.no).getD i 0), .string ⟨((nodV l t.no).getD i []).toArray⟩, .int .i64 t.no]) (.agg #[.int .i64 0, .string ⟨#[]⟩, .int .i64 0]) 3 32 ((s.es.length + (i + 1))) (((s.es ++ leafL (nodK l t.no) (nodV l t.no) t.no (i + 1)).flatMap entC)) zo Tryz.underlying25 (by kernel_rfl) rfl (by decide) zx hE'2 zy (n81.blk.sl 1 1 (by decide) (by decide)) rfl (by simp [Value.oneCell']) (by unfold maxLen; omega) (by omega) hB'50.size (by omega) (leaf_row _ _ _ _ _) fun px82 cx82 W82 o82 hg82 hb82 => ?_
         refine zK _ _ (sft_grown hb82 hg82 hE'2 (by decide)) ?_
         have k79_b2'2 := (k79_b2'1.below n81.below).grown hg82 hE'2 (by decide)
         refine ys (.o [17] 18) k79_b2'2 [.slice px82 (s.es.length + (i + 1)) cx82, .slice px75 ((s.bs ++ [t.no]).length) cx75, .int .i64 (↑(t.way.length + 1) : Int), .int .i64 (↑(s.looked + 1) : Int), .slice pf fv.length cf] (.t w.heap.size [108, 35]) fun W83 u83 k83 => ⟨(sft_upd u83 k79_b2'2 g2 (by decide)), ?_⟩
         refine xwm 5 ((↑i : Int) + 1) (↑(i + 1) : Int) ?_
         have hB'51 := u83.below (hB'50.trans hb82) g2
         have k79_b1'1 := u83.blk (((k79_b1.below (below_drew W79)).below n81.below).grown hg82 hE'2 (by decide)) (Ne.symm (Ne.symm d2_b1))
         have k79_b7'2 := u83.blkT ((k79_b7'1.below n81.below).grown hg82 hE'2 (by decide)) k79_b2'2 (by decide)
         have k79_b70'2 := u83.blkT ((k79_b70'1.below n81.below).grown hg82 hE'2 (by decide)) k79_b2'2 (by decide)
         have k79_b71'1 := u83.blkT (((k79_b71.below (below_drew W79)).below n81.below).grown hg82 hE'2 (by decide)) k79_b2'2 (by decide)
         have o82'1 := u83.own2 o82 k79_b2'2 (by decide)
         have hI'12 := (((hI.below (below_drew W79)).below n81.below).only (Only.of_grown (T := [108]) hg82 hE'2 (by decide)) (by decide)).only (Only.of_upd (T := [35]) u83 k79_b2'2 (by decide)) (by decide)
         have hFl'28 := u83.own2 (own_grown (own_below (own_below hFl (below_drew W79)) n81.below) hg82 hE'2 (by decide)) k79_b2'2 (by decide)
         have hWu'1 := (((hWu.below (below_drew W79)).below n81.below).only (Only.of_grown (T := [108]) hg82 hE'2 (by decide)) (by decide)).only (Only.of_upd (T := [35]) u83 k79_b2'2 (by decide)) (by decide)
         have hKt'24 := (((hKt.below (below_drew W79)).below n81.below).only (Only.of_grown (T := [108]) hg82 hE'2 (by decide)) (by decide)).only (Only.of_upd (T := [35]) u83 k79_b2'2 (by decide)) (by decide)
         have hv_'3 := u83.own2 (own_grown (own_below hv_'2 n81.below) hg82 hE'2 (by decide)) k79_b2'2 (by decide)
         have hk'5 := u83.own2 (own_grown (own_below hk'4 n81.below) hg82 hE'2 (by decide)) k79_b2'2 (by decide)
         have o75'2 := u83.own2 (own_grown (own_below (own_below o75 (below_drew W79)) n81.below) hg82 hE'2 (by decide)) k79_b2'2 (by decide)
         exact ze 2 (hJ79 _ _ _ ⟨i + 1, _, _, rfl, rfl, hB'51, k79_b1'1, k83, k79_b7'2, k79_b70'2, k79_b71'1, o82'1, hI'12, hFl'28, hWu'1, hKt'24, hv_'3, hk'5, o75'2, by omega⟩ (by omega))
       refine xbs 0 1 [.int .i64 ((nodK l t.no).getD i 0), .string ⟨((nodV l t.no).getD i []).toArray⟩, .int .i64 t.no] 108 fun b84 W84 n84 => ?_
       have hB'52 := Bl.next hB_79 (below_drew W79)
       have g84 := n84.ge hB'52
       have hE'3 := own_below hE (below_drew W79)
       have r84_hE := own_ne hE'3 n84
       have k79_b2'3 := (k79_b2.below (below_drew W79)).below n84.below
       refine xb (.o [] 1) 0 k79_b2'3 ?_
       have hE'4 := own_below hE'3 n84.below
       have hB'53 := Bl.next hB'52 n84.below
       refine ybi (.o [] 16) (.t w.heap.size [108, 35]) fun _ _ _ _ zJ zQ zo zx zy zK => op_app (m := 1) (news := [.int .i64 ((nodK l t.no).getD i 0), .string ⟨((nodV l t.no).getD i []).toArray⟩, .int .i64 t.no]) (.agg #[.int .i64 0, .string ⟨#[]⟩, .int .i64 0]) 3 32 ((s.es.length + (i + 1))) (((s.es ++ leafL (nodK l t.no) (nodV l t.no) t.no (i + 1)).flatMap entC)) zo Tryz.underlying25 (by kernel_rfl) rfl (by decide) zx hE'4 zy (n84.blk.sl 1 1 (by decide) (by decide)) rfl (by simp [Value.oneCell']) (by unfold maxLen; omega) (by omega) hB'53.size (by omega) (leaf_row _ _ _ _ _) fun px85 cx85 W85 o85 hg85 hb85 => ?_
       refine zK _ _ (sft_grown hb85 hg85 hE'4 (by decide)) ?_
       have k79_b2'4 := k79_b2'3.grown hg85 hE'4 (by decide)
       refine ys (.o [17] 18) k79_b2'4 [.slice px85 (s.es.length + (i + 1)) cx85, .slice px75 ((s.bs ++ [t.no]).length) cx75, .int .i64 (↑(t.way.length + 1) : Int), .int .i64 (↑(s.looked + 1) : Int), .slice pf fv.length cf] (.t w.heap.size [108, 35]) fun W86 u86 k86 => ⟨(sft_upd u86 k79_b2'4 g2 (by decide)), ?_⟩
       refine xwm 5 ((↑i : Int) + 1) (↑(i + 1) : Int) ?_
       have hB'54 := u86.below (hB'53.trans hb85) g2
       have k79_b1'2 := u86.blk (((k79_b1.below (below_drew W79)).below n84.below).grown hg85 hE'4 (by decide)) (Ne.symm (Ne.symm d2_b1))
       have k79_b7'3 := u86.blkT ((k79_b7'1.below n84.below).grown hg85 hE'4 (by decide)) k79_b2'4 (by decide)
       have k79_b70'3 := u86.blkT ((k79_b70'1.below n84.below).grown hg85 hE'4 (by decide)) k79_b2'4 (by decide)
       have k79_b71'2 := u86.blkT (((k79_b71.below (below_drew W79)).below n84.below).grown hg85 hE'4 (by decide)) k79_b2'4 (by decide)
       have o85'1 := u86.own2 o85 k79_b2'4 (by decide)
       have hI'13 := (((hI.below (below_drew W79)).below n84.below).only (Only.of_grown (T := [108]) hg85 hE'4 (by decide)) (by decide)).only (Only.of_upd (T := [35]) u86 k79_b2'4 (by decide)) (by decide)
       have hFl'29 := u86.own2 (own_grown (own_below (own_below hFl (below_drew W79)) n84.below) hg85 hE'4 (by decide)) k79_b2'4 (by decide)
       have hWu'2 := (((hWu.below (below_drew W79)).below n84.below).only (Only.of_grown (T := [108]) hg85 hE'4 (by decide)) (by decide)).only (Only.of_upd (T := [35]) u86 k79_b2'4 (by decide)) (by decide)
       have hKt'25 := (((hKt.below (below_drew W79)).below n84.below).only (Only.of_grown (T := [108]) hg85 hE'4 (by decide)) (by decide)).only (Only.of_upd (T := [35]) u86 k79_b2'4 (by decide)) (by decide)
       have hv_'4 := u86.own2 (own_grown (own_below hv_'2 n84.below) hg85 hE'4 (by decide)) k79_b2'4 (by decide)
       have hk'6 := u86.own2 (own_grown (own_below hk'4 n84.below) hg85 hE'4 (by decide)) k79_b2'4 (by decide)
       have o75'3 := u86.own2 (own_grown (own_below (own_below o75 (below_drew W79)) n84.below) hg85 hE'4 (by decide)) k79_b2'4 (by decide)
       exact ze 2 (hJ79 _ _ _ ⟨i + 1, _, _, rfl, rfl, hB'54, k79_b1'2, k86, k79_b7'3, k79_b70'3, k79_b71'2, o85'1, hI'13, hFl'29, hWu'2, hKt'25, hv_'4, hk'6, o75'3, by omega⟩ (by omega))
     refine xv1 8 10 (show (.slice (cutA aw 1 cw 5) (ts.length - 1) (cw - 1) : Value) = .slice (cutA aw 1 cw 5) r.length (cw - 1) from by rw [htr]; rfl) ?_
     have hin : i = (nodC (inB l t.no)) := by omega
     have hk9 := k79_b2
     have hEe := hE
     rw [hin] at hk9 hEe
     refine ze 0 (hJ5 _ _ _ ⟨{ s with looked := s.looked + 1, bs := s.bs ++ [t.no], deep := ((t.way.length + 1 : Nat) : Int), es := s.es ++ leafL (nodK l t.no) (nodV l t.no) t.no (nodC (inB l t.no)) }, r, pe2, px75, pf, ce2, cx75, cf, fv, (cutA aw 1 cw 5), (cw - 1), rfl, rfl, hB_79, k79_b1, (by simpa [leafL_len] using hk9), (by simpa [leafL_len] using hEe), o75, hFl, (SufN.tail (SufV.at_ hWu) htr), hKt.drop1, hI, hwo1.leaf hft hfs hle hlf, hfv⟩ ?_)
     show 20 * (fuel.toNat - (s.looked + 1)) + r.length < 20 * (fuel.toNat - s.looked) + ts.length
     omega
   have hlf := hc77
   have o75'4 := u76.own2 o75 k49'10 (by decide)
   have hBlF := o75'4
   have hKt'26 := (((((((hKt'15.below hb50).below n70.below).below n71.below).only (Only.of_upd (T := [52]) u72 k70 (by decide)) (by decide)).only (Only.of_upd (T := [45]) u73 k71 (by decide)) (by decide)).below n74.below).grow hBl'19 hg75 ha75).only (Only.of_upd (T := [35]) u76 k49'10 (by decide)) (by decide)
   have hway0 := (KeptI.hd hKt'26).ints
   have hB'55 := u76.below (hB'47.trans hb75) g2
   have hF87 := hB'55
   refine xd 3 (.t W76.heap.size [3]) ?_
   have k8_hF87 := u76.blkT ((k8'5.below n74.below).grown hg75 hBl'19 (by decide)) k49'10 (by decide)
   have hB := (below_drew W76)
   refine xlt (.e [1] 2) (.t W76.heap.size [3]) (fun V hV => ((k8_hF87.below (sft_keep hB hV (Nat.le_refl _))).cell (i := 3) rfl)) ?_
   refine xlt (.e [4] 5) (.t W76.heap.size [3]) (fun V hV => ((k8_hF87.below (sft_keep hB hV (Nat.le_refl _))).cell (i := 0) rfl)) ?_
   refine xm2 0 0 6 ?_ ?_
   · refine xb0 0 3 fun b88 W88 n88 => ?_
     have g88 := n88.ge hB
     refine xm2 0 3 6 ?_ ?_
     · have o88 := own_of_blk (size := 1) (n := 0) n88.blk g88 rfl (by decide)
       have hB'56 := Bl.next hB n88.below
       refine ybi 0 (.t W76.heap.size [3]) fun _ _ _ _ zJ zQ zo zx zy zK => op_app (m := t.way.length) (news := (t.way.map (Value.int .i64))) (.int .i64 0) 1 8 (t.way.length) ((t.way.map (Value.int .i64))) zo Tryz.underlying26 (by kernel_rfl) rfl (by decide) zx o88 zy (hway0.below hB'56) (by simp) (ints_one _) (by unfold maxLen; omega) (by omega) hB'56.size (by omega) (by rfl) fun px89 cx89 W89 o89 hg89 hb89 => ?_
       refine zK _ _ (sft_grown hb89 hg89 o88 (by decide)) ?_
       refine xbs (.o [] 6) 1 [.int .i64 t.no] 3 fun b90 W90 n90 => ?_
       have hB'57 := hB'56.trans hb89
       have g90 := n90.ge hB'57
       have r90_o89 := own_ne o89 n90
       have o89'1 := own_below o89 n90.below
       have hB'58 := Bl.next hB'57 n90.below
       refine ybi (.o [] 7) (.t W76.heap.size [3]) fun _ _ _ _ zJ zQ zo zx zy zK => op_app (m := 1) (news := [.int .i64 t.no]) (.int .i64 0) 1 8 ((t.way ++ [t.no]).length) (((t.way ++ [t.no]).map (Value.int .i64))) zo Tryz.underlying26 (by kernel_rfl) rfl (by decide) zx o89'1 zy (n90.blk.sl 1 1 (by decide) (by decide)) rfl (by simp [Value.oneCell']) (by unfold maxLen; omega) (by omega) hB'58.size (by simp) (by simp) fun px91 cx91 W91 o91 hg91 hb91 => ?_
       refine zK _ _ (sft_grown hb91 hg91 o89'1 (by decide)) ?_
       have hB'59 := hB'58.trans hb91
       refine zl (.r [8] 14) 186 (fun zm zkv V => ∃ (i : Nat) (pq : Option Addr) (cq : Nat), zkv = [(0, .pointer (some ⟨bm, 0, none⟩)), (2, .int .i64 tree), (3, .int .i64 fuel), (8, .pointer (some ⟨b1, 0, none⟩)), (9, .pointer (some ⟨b2, 0, none⟩)), (10, .slice (cutA aw 1 cw 5) (ts.length - 1) (cw - 1)), (11, .pointer (some ⟨b7, 0, none⟩)), (12, .pointer (some ⟨b70, 0, none⟩)), (15, .slice px91 ((t.way ++ [t.no]).length) cx91), (16, .slice pq i cq), (17, .int .i64 (↑i : Int))] ∧ zm = (nodC (inB l t.no)) - ((↑i : Int)).toNat ∧ Below W76.heap.size W76 V ∧ V.ownsRow W76.heap.size 102 5 (.slice pq i cq) i ((belowL l t px91 cx91 i).flatMap wtC) ∧ V.ownsRow W76.heap.size 3 1 (.slice px91 ((t.way ++ [t.no]).length) cx91) ((t.way ++ [t.no]).length) ((t.way ++ [t.no]).map (Value.int .i64)) ∧ i ≤ (nodC (inB l t.no))) ⟨0, _, _, rfl, rfl, hB'59, World.ownsRow_nil _ _ _ _, o91, Nat.zero_le _⟩ ?_
       rintro _ _ W92 ⟨i, pq, cq, rfl, rfl, hB_92, hB_, o91, hi⟩ J92 hJ92 r92
       refine xl 5 ((k72'1.below hB_92).cell (i := 2) rfl) ?_
       refine xid 4 ((↑i : Int) < (↑(nodC (inB l t.no)) : Int)) (fun hc93 => ?_) (fun hc93 => ?_)
       · refine xl 7 ((k72'1.below hB_92).cell (i := 3) rfl) ?_
         have hv__hF87 := own_sl (u76.own2 (own_grown (own_below (u73.own2 (u72.own2 (own_below (own_below (own_mono hv_ hB'29.size) n70.below) n71.below) k70 (by decide)) k71 (by decide)) n74.below) hg75 hBl'19 (by decide)) k49'10 (by decide))
         refine xx 1 _ (nodC (inB l t.no)) i 1 (Strs.elem (V := nodV l t.no) hv__hF87 (valsL_len _ _) (k := i) (by omega)).1 ?_
         refine xl 0 ((Strs.elem (V := nodV l t.no) (hv__hF87.below hB_92) (valsL_len _ _) (k := i) (by omega)).2) ?_
         refine xr 0 (args := #[.string ⟨((nodV l t.no).getD i []).toArray⟩]) (ref08_Root ((nodV l t.no).getD i []) _ (valsL_short _ _ _)) fun W94 hb94 => ?_
         refine xin 14 (rootE ((nodV l t.no).getD i [])) (0 : Int) (fun hc95 => ?_) (fun hc95 => ?_)
         · have hrt := hc95
           have hB'60 := Bl.next hB_92 hb94
           refine xl 4 ((k8_hF87.below hB'60).cell (i := 0) rfl) ?_
           refine xl 1 ((k8_hF87.below hB'60).cell (i := 3) rfl) ?_
           refine xbs 2 1 [.int .i64 t.no, .int .i64 0, .int .i64 0, .slice t.wa t.way.length t.wc, .int .i64 (rootE ((nodV l t.no).getD i []))] 102 fun b96 W96 n96 => ?_
           have g96 := n96.ge hB'60
           have hB_'1 := own_below hB_ hb94
           have r96_hB_ := own_ne hB_'1 n96
           have hB_'2 := own_below hB_'1 n96.below
           have hB'61 := Bl.next hB'60 n96.below
           refine xbi 0 fun _ _ _ _ zJ zQ zo zx zy zK => op_app (m := 1) (news := [.int .i64 t.no, .int .i64 0, .int .i64 0, .slice t.wa t.way.length t.wc, .int .i64 (rootE ((nodV l t.no).getD i []))]) (.agg #[.int .i64 0, .int .i64 0, .int .i64 0, .slice none 0 0, .int .i64 0]) 5 56 (i + 1) (((belowL l t px91 cx91 (i + 1)).flatMap wtC)) zo Tryz.underlying103 (by kernel_rfl) rfl (by decide) zx hB_'2 zy (n96.blk.sl 1 1 (by decide) (by decide)) rfl (by simp [Value.oneCell']) (by unfold maxLen; omega) (by omega) hB'61.size (by rfl) (by rw [belowL_snoc, List.flatMap_append, show belowW l t px91 cx91 i = ⟨t.no, 0, 0, t.way, rootE ((nodV l t.no).getD i []), t.wa, t.wc⟩ from by unfold belowW; rw [if_neg hrt]]; rfl) fun px97 cx97 W97 o97 hg97 hb97 => ?_
           refine zK _ _ ?_
           refine xwm 9 ((↑i : Int) + 1) (↑(i + 1) : Int) ?_
           have hB'62 := hB'61.trans hb97
           have o91'1 := own_grown (own_below (own_below o91 hb94) n96.below) hg97 hB_'2 (by decide)
           exact ze 2 (hJ92 _ _ _ ⟨i + 1, _, _, rfl, rfl, hB'62, o97, o91'1, by omega⟩ (by omega))
         have hrt := hc95
         have hB'63 := Bl.next hB_92 hb94
         refine xlv 5 ((k8_hF87.below hB'63).rpp 1 2) ?_
         refine xl 1 ((k72'1.below hB'63).cell (i := 2) rfl) ?_
         have hkl : (nodK l t.no).length = (nodC (inB l t.no)) := keysI_len _ _
         have hci := child_in (look_node hle).2.1 (i := i) (by rw [hkl]; omega)
         have hk_hF87 := own_sl (u76.own2 hkq75 k49'10 (by decide))
         refine xr 1 (args := #[.agg #[.int .i64 t.lo, .int .i64 t.hi], .slice kp (nodC (inB l t.no)) kc, .int .i64 (↑i : Int)]) ((refspan_child t.lo t.hi (↑i : Int) _ (nodK l t.no) _ ⟨by omega, by omega⟩ (by rw [hkl]; omega) (intsN_of (hk_hF87.below hB'63) hkl)).mono (fun _ _ h => by rw [hci] at h; exact h)) fun W98 hb98 => ?_
         refine xa 3 [.int .i64 0, .int .i64 0] 96 fun b99 W99 n99 => ?_
         have hB'64 := Bl.next hB'63 hb98
         have g99 := n99.ge hB'64
         refine xsv 0 n99.blk [.int .i64 ((partAt t.hi (nodK l t.no) i).1), .int .i64 ((partAt t.hi (nodK l t.no) i).2)] fun W100 u100 k100 => ?_
         refine xlv 6 k100.rp ?_
         refine xbs 2 1 [.int .i64 (↑(rootN ((nodV l t.no).getD i [])) : Int), .int .i64 ((partAt t.hi (nodK l t.no) i).1), .int .i64 ((partAt t.hi (nodK l t.no) i).2), .slice px91 ((t.way ++ [t.no]).length) cx91, .int .i64 0] 102 fun b101 W101 n101 => ?_
         have hB'65 := u100.below (Bl.next hB'64 n99.below) g99
         have g101 := n101.ge hB'65
         have hB_'3 := u100.own2 (own_below (own_below (own_below hB_ hb94) hb98) n99.below) n99.blk (by decide)
         have r101_hB_ := own_ne hB_'3 n101
         have hB_'4 := own_below hB_'3 n101.below
         have hB'66 := Bl.next hB'65 n101.below
         refine xbi 0 fun _ _ _ _ zJ zQ zo zx zy zK => op_app (m := 1) (news := [.int .i64 (↑(rootN ((nodV l t.no).getD i [])) : Int), .int .i64 ((partAt t.hi (nodK l t.no) i).1), .int .i64 ((partAt t.hi (nodK l t.no) i).2), .slice px91 ((t.way ++ [t.no]).length) cx91, .int .i64 0]) (.agg #[.int .i64 0, .int .i64 0, .int .i64 0, .slice none 0 0, .int .i64 0]) 5 56 (i + 1) (((belowL l t px91 cx91 (i + 1)).flatMap wtC)) zo Tryz.underlying103 (by kernel_rfl) rfl (by decide) zx hB_'4 zy (n101.blk.sl 1 1 (by decide) (by decide)) rfl (by simp [Value.oneCell']) (by unfold maxLen; omega) (by omega) hB'66.size (by rfl) (by rw [belowL_snoc, List.flatMap_append, show belowW l t px91 cx91 i = ⟨rootN ((nodV l t.no).getD i []), (partAt t.hi (nodK l t.no) i).1, (partAt t.hi (nodK l t.no) i).2, t.way ++ [t.no], 0, px91, cx91⟩ from by unfold belowW; rw [if_pos hrt]]; rfl) fun px102 cx102 W102 o102 hg102 hb102 => ?_
         refine zK _ _ ?_
         refine xwm 6 ((↑i : Int) + 1) (↑(i + 1) : Int) ?_
         have hB'67 := hB'66.trans hb102
         have o91'2 := own_grown (own_below (u100.own2 (own_below (own_below (own_below o91 hb94) hb98) n99.below) n99.blk (by decide)) n101.below) hg102 hB_'4 (by decide)
         exact ze 2 (hJ92 _ _ _ ⟨i + 1, _, _, rfl, rfl, hB'67, o102, o91'2, by omega⟩ (by omega))
       have hWs_hF87 := ((((((((((hWs.below n7.below).updN u8 n7 rfl).only (Only.of_upd (T := [35]) u49 k5_b2'9 (by decide)) (by decide)).below hb50).below n70.below).below n71.below).only (Only.of_upd (T := [52]) u72 k70 (by decide)) (by decide)).only (Only.of_upd (T := [45]) u73 k71 (by decide)) (by decide)).below n74.below).only (Only.of_grown (T := [3]) hg75 hBl'19 (by decide)) (by decide)).only (Only.of_upd (T := [35]) u76 k49'10 (by decide)) (by decide)
       refine xbi 8 fun _ _ _ _ zJ zQ zo zx zy zK => op_app (m := (ts.length - 1)) (news := (r.flatMap wtC)) (.agg #[.int .i64 0, .int .i64 0, .int .i64 0, .slice none 0 0, .int .i64 0]) 5 56 ((belowL l t px91 cx91 (nodC (inB l t.no)) ++ r).length) (((belowL l t px91 cx91 (nodC (inB l t.no)) ++ r).flatMap wtC)) zo Tryz.underlying103 (by kernel_rfl) rfl (by decide) zx hB_ zy ((hWs_hF87.below hB_92).slN htr) (by rw [flat_length wtC_len, htl]; rfl) (wt_one r) (by unfold maxLen; omega) (by omega) hB_92.size (by rw [List.length_append, belowL_len, htl]; omega) (by rw [List.flatMap_append, show i = (nodC (inB l t.no)) by omega]) fun px103 cx103 W103 o103 hg103 hb103 => ?_
       refine zK _ _ ?_
       have o91'3 := own_grown o91 hg103 hB_ (by decide)
       have hApW := (Apart.of_lt hBlF o91'3 (Nat.le_refl _)).symm
       have hB'68 := hB_92.trans hb103
       have hT104 : Below W76.heap.size W76 W103 := hB'68
       have hs104 : w.heap.size ≤ W76.heap.size := hF87.size
       have o103'1 := own_mono o103 hs104
       have hKt'27 := hKt'26.below hT104
       have o91'4 := own_mono o91'3 hs104
       have hB := Bl.next hF87 hT104
       have k5_b1'14 := (u76.blk (((u73.blkT (u72.blkT ((((u49.blk (u8.blkT (k5_b1.below n7.below) n7.blk (by decide)) (Ne.symm (Ne.symm d2_b1))).below hb50).below n70.below).below n71.below) k70 (by decide)) k71 (by decide)).below n74.below).grown hg75 hBl'19 (by decide)) (Ne.symm (Ne.symm d2_b1))).below hT104
       have k76'1 := k76.below hT104
       have hEn'14 := own_below (u76.own2 (own_grown (own_below (u73.own2 (u72.own2 (own_below (own_below (own_below (u49.own2 (u8.own2 (own_below hEn n7.below) n7.blk (by decide)) k5_b2'9 (by decide)) hb50) n70.below) n71.below) k70 (by decide)) k71 (by decide)) n74.below) hg75 hBl'19 (by decide)) k49'10 (by decide)) hT104
       have o75'5 := own_below o75'4 hT104
       have hFl'30 := own_below (u76.own2 (own_grown (own_below (u73.own3 (u72.own2 (own_below hFl'26 n71.below) k70 (by decide)) r71_hFl) n74.below) hg75 hBl'19 (by decide)) k49'10 (by decide)) hT104
       have hI'14 := ((((((((hI'6.below hb50).below n70.below).below n71.below).only (Only.of_upd (T := [52]) u72 k70 (by decide)) (by decide)).only (Only.of_upd (T := [45]) u73 k71 (by decide)) (by decide)).below n74.below).only (Only.of_grown (T := [3]) hg75 hBl'19 (by decide)) (by decide)).only (Only.of_upd (T := [35]) u76 k49'10 (by decide)) (by decide)).below hT104
       refine ze 3 (hJ5 _ _ _ ⟨{ s with looked := s.looked + 1, bs := s.bs ++ [t.no] }, (belowL l t px91 cx91 (nodC (inB l t.no)) ++ r), pe, px75, pf, ce, cx75, cf, fv, px103, cx103, rfl, rfl, hB, k5_b1'14, k76'1, hEn'14, o75'5, hFl'30, (SufV.of o103'1 rfl), (KeptI.below_visits hKt'27 o91'4 hApW), hI'14, hwo1.inner px91 cx91 hft hfs hle hlf, hfv⟩ ?_)
       show 20 * (fuel.toNat - (s.looked + 1)) + (belowL l t px91 cx91 (nodC (inB l t.no)) ++ r).length < 20 * (fuel.toNat - s.looked) + ts.length
       rw [List.length_append, belowL_len, htl]
       omega
     refine xbs 0 1 [.int .i64 t.no] 3 fun b105 W105 n105 => ?_
     have hB'69 := Bl.next hB n88.below
     have g105 := n105.ge hB'69
     have o88 := own_of_blk (size := 1) (n := 0) n88.blk g88 rfl (by decide)
     have r105_o88 := own_ne o88 n105
     have o88'1 := own_below o88 n105.below
     have hB'70 := Bl.next hB'69 n105.below
     refine ybi (.o [] 3) (.t W76.heap.size [3]) fun _ _ _ _ zJ zQ zo zx zy zK => op_app (m := t.way.length) (news := (t.way.map (Value.int .i64))) (.int .i64 0) 1 8 (t.way.length) ((t.way.map (Value.int .i64))) zo Tryz.underlying26 (by kernel_rfl) rfl (by decide) zx o88'1 zy (hway0.below hB'70) (by simp) (ints_one _) (by unfold maxLen; omega) (by omega) hB'70.size (by omega) (by rfl) fun px106 cx106 W106 o106 hg106 hb106 => ?_
     refine zK _ _ (sft_grown hb106 hg106 o88'1 (by decide)) ?_
     have k105 := n105.blk.grown3 hg106 r105_o88
     have hB'71 := hB'70.trans hb106
     refine ybi (.o [] 7) (.t W76.heap.size [3]) fun _ _ _ _ zJ zQ zo zx zy zK => op_app (m := 1) (news := [.int .i64 t.no]) (.int .i64 0) 1 8 ((t.way ++ [t.no]).length) (((t.way ++ [t.no]).map (Value.int .i64))) zo Tryz.underlying26 (by kernel_rfl) rfl (by decide) zx o106 zy (k105.sl 1 1 (by decide) (by decide)) rfl (by simp [Value.oneCell']) (by unfold maxLen; omega) (by omega) hB'71.size (by simp) (by simp) fun px107 cx107 W107 o107 hg107 hb107 => ?_
     refine zK _ _ (sft_grown hb107 hg107 o106 (by decide)) ?_
     have hB'72 := hB'71.trans hb107
     refine zl (.r [8] 14) 186 (fun zm zkv V => ∃ (i : Nat) (pq : Option Addr) (cq : Nat), zkv = [(0, .pointer (some ⟨bm, 0, none⟩)), (2, .int .i64 tree), (3, .int .i64 fuel), (8, .pointer (some ⟨b1, 0, none⟩)), (9, .pointer (some ⟨b2, 0, none⟩)), (10, .slice (cutA aw 1 cw 5) (ts.length - 1) (cw - 1)), (11, .pointer (some ⟨b7, 0, none⟩)), (12, .pointer (some ⟨b70, 0, none⟩)), (15, .slice px107 ((t.way ++ [t.no]).length) cx107), (16, .slice pq i cq), (17, .int .i64 (↑i : Int))] ∧ zm = (nodC (inB l t.no)) - ((↑i : Int)).toNat ∧ Below W76.heap.size W76 V ∧ V.ownsRow W76.heap.size 102 5 (.slice pq i cq) i ((belowL l t px107 cx107 i).flatMap wtC) ∧ V.ownsRow W76.heap.size 3 1 (.slice px107 ((t.way ++ [t.no]).length) cx107) ((t.way ++ [t.no]).length) ((t.way ++ [t.no]).map (Value.int .i64)) ∧ i ≤ (nodC (inB l t.no))) ⟨0, _, _, rfl, rfl, hB'72, World.ownsRow_nil _ _ _ _, o107, Nat.zero_le _⟩ ?_
     rintro _ _ W108 ⟨i, pq, cq, rfl, rfl, hB_108, hB_, o107, hi⟩ J108 hJ108 r108
     refine xl 5 ((k72'1.below hB_108).cell (i := 2) rfl) ?_
     refine xid 4 ((↑i : Int) < (↑(nodC (inB l t.no)) : Int)) (fun hc109 => ?_) (fun hc109 => ?_)
     · refine xl 7 ((k72'1.below hB_108).cell (i := 3) rfl) ?_
       have hv__hF87 := own_sl (u76.own2 (own_grown (own_below (u73.own2 (u72.own2 (own_below (own_below (own_mono hv_ hB'29.size) n70.below) n71.below) k70 (by decide)) k71 (by decide)) n74.below) hg75 hBl'19 (by decide)) k49'10 (by decide))
       refine xx 1 _ (nodC (inB l t.no)) i 1 (Strs.elem (V := nodV l t.no) hv__hF87 (valsL_len _ _) (k := i) (by omega)).1 ?_
       refine xl 0 ((Strs.elem (V := nodV l t.no) (hv__hF87.below hB_108) (valsL_len _ _) (k := i) (by omega)).2) ?_
       refine xr 0 (args := #[.string ⟨((nodV l t.no).getD i []).toArray⟩]) (ref08_Root ((nodV l t.no).getD i []) _ (valsL_short _ _ _)) fun W110 hb110 => ?_
       refine xin 14 (rootE ((nodV l t.no).getD i [])) (0 : Int) (fun hc111 => ?_) (fun hc111 => ?_)
       · have hrt := hc111
         have hB'73 := Bl.next hB_108 hb110
         refine xl 4 ((k8_hF87.below hB'73).cell (i := 0) rfl) ?_
         refine xl 1 ((k8_hF87.below hB'73).cell (i := 3) rfl) ?_
         refine xbs 2 1 [.int .i64 t.no, .int .i64 0, .int .i64 0, .slice t.wa t.way.length t.wc, .int .i64 (rootE ((nodV l t.no).getD i []))] 102 fun b112 W112 n112 => ?_
         have g112 := n112.ge hB'73
         have hB_'5 := own_below hB_ hb110
         have r112_hB_ := own_ne hB_'5 n112
         have hB_'6 := own_below hB_'5 n112.below
         have hB'74 := Bl.next hB'73 n112.below
         refine xbi 0 fun _ _ _ _ zJ zQ zo zx zy zK => op_app (m := 1) (news := [.int .i64 t.no, .int .i64 0, .int .i64 0, .slice t.wa t.way.length t.wc, .int .i64 (rootE ((nodV l t.no).getD i []))]) (.agg #[.int .i64 0, .int .i64 0, .int .i64 0, .slice none 0 0, .int .i64 0]) 5 56 (i + 1) (((belowL l t px107 cx107 (i + 1)).flatMap wtC)) zo Tryz.underlying103 (by kernel_rfl) rfl (by decide) zx hB_'6 zy (n112.blk.sl 1 1 (by decide) (by decide)) rfl (by simp [Value.oneCell']) (by unfold maxLen; omega) (by omega) hB'74.size (by rfl) (by rw [belowL_snoc, List.flatMap_append, show belowW l t px107 cx107 i = ⟨t.no, 0, 0, t.way, rootE ((nodV l t.no).getD i []), t.wa, t.wc⟩ from by unfold belowW; rw [if_neg hrt]]; rfl) fun px113 cx113 W113 o113 hg113 hb113 => ?_
         refine zK _ _ ?_
         refine xwm 9 ((↑i : Int) + 1) (↑(i + 1) : Int) ?_
         have hB'75 := hB'74.trans hb113
         have o107'1 := own_grown (own_below (own_below o107 hb110) n112.below) hg113 hB_'6 (by decide)
         exact ze 2 (hJ108 _ _ _ ⟨i + 1, _, _, rfl, rfl, hB'75, o113, o107'1, by omega⟩ (by omega))
       have hrt := hc111
       have hB'76 := Bl.next hB_108 hb110
       refine xlv 5 ((k8_hF87.below hB'76).rpp 1 2) ?_
       refine xl 1 ((k72'1.below hB'76).cell (i := 2) rfl) ?_
       have hkl : (nodK l t.no).length = (nodC (inB l t.no)) := keysI_len _ _
       have hci := child_in (look_node hle).2.1 (i := i) (by rw [hkl]; omega)
       have hk_hF87 := own_sl (u76.own2 hkq75 k49'10 (by decide))
       refine xr 1 (args := #[.agg #[.int .i64 t.lo, .int .i64 t.hi], .slice kp (nodC (inB l t.no)) kc, .int .i64 (↑i : Int)]) ((refspan_child t.lo t.hi (↑i : Int) _ (nodK l t.no) _ ⟨by omega, by omega⟩ (by rw [hkl]; omega) (intsN_of (hk_hF87.below hB'76) hkl)).mono (fun _ _ h => by rw [hci] at h; exact h)) fun W114 hb114 => ?_
       refine xa 3 [.int .i64 0, .int .i64 0] 96 fun b115 W115 n115 => ?_
       have hB'77 := Bl.next hB'76 hb114
       have g115 := n115.ge hB'77
       refine xsv 0 n115.blk [.int .i64 ((partAt t.hi (nodK l t.no) i).1), .int .i64 ((partAt t.hi (nodK l t.no) i).2)] fun W116 u116 k116 => ?_
       refine xlv 6 k116.rp ?_
       refine xbs 2 1 [.int .i64 (↑(rootN ((nodV l t.no).getD i [])) : Int), .int .i64 ((partAt t.hi (nodK l t.no) i).1), .int .i64 ((partAt t.hi (nodK l t.no) i).2), .slice px107 ((t.way ++ [t.no]).length) cx107, .int .i64 0] 102 fun b117 W117 n117 => ?_
       have hB'78 := u116.below (Bl.next hB'77 n115.below) g115
       have g117 := n117.ge hB'78
       have hB_'7 := u116.own2 (own_below (own_below (own_below hB_ hb110) hb114) n115.below) n115.blk (by decide)
       have r117_hB_ := own_ne hB_'7 n117
       have hB_'8 := own_below hB_'7 n117.below
       have hB'79 := Bl.next hB'78 n117.below
       refine xbi 0 fun _ _ _ _ zJ zQ zo zx zy zK => op_app (m := 1) (news := [.int .i64 (↑(rootN ((nodV l t.no).getD i [])) : Int), .int .i64 ((partAt t.hi (nodK l t.no) i).1), .int .i64 ((partAt t.hi (nodK l t.no) i).2), .slice px107 ((t.way ++ [t.no]).length) cx107, .int .i64 0]) (.agg #[.int .i64 0, .int .i64 0, .int .i64 0, .slice none 0 0, .int .i64 0]) 5 56 (i + 1) (((belowL l t px107 cx107 (i + 1)).flatMap wtC)) zo Tryz.underlying103 (by kernel_rfl) rfl (by decide) zx hB_'8 zy (n117.blk.sl 1 1 (by decide) (by decide)) rfl (by simp [Value.oneCell']) (by unfold maxLen; omega) (by omega) hB'79.size (by rfl) (by rw [belowL_snoc, List.flatMap_append, show belowW l t px107 cx107 i = ⟨rootN ((nodV l t.no).getD i []), (partAt t.hi (nodK l t.no) i).1, (partAt t.hi (nodK l t.no) i).2, t.way ++ [t.no], 0, px107, cx107⟩ from by unfold belowW; rw [if_pos hrt]]; rfl) fun px118 cx118 W118 o118 hg118 hb118 => ?_
       refine zK _ _ ?_
       refine xwm 6 ((↑i : Int) + 1) (↑(i + 1) : Int) ?_
       have hB'80 := hB'79.trans hb118
       have o107'2 := own_grown (own_below (u116.own2 (own_below (own_below (own_below o107 hb110) hb114) n115.below) n115.blk (by decide)) n117.below) hg118 hB_'8 (by decide)
       exact ze 2 (hJ108 _ _ _ ⟨i + 1, _, _, rfl, rfl, hB'80, o118, o107'2, by omega⟩ (by omega))
     have hWs_hF87 := ((((((((((hWs.below n7.below).updN u8 n7 rfl).only (Only.of_upd (T := [35]) u49 k5_b2'9 (by decide)) (by decide)).below hb50).below n70.below).below n71.below).only (Only.of_upd (T := [52]) u72 k70 (by decide)) (by decide)).only (Only.of_upd (T := [45]) u73 k71 (by decide)) (by decide)).below n74.below).only (Only.of_grown (T := [3]) hg75 hBl'19 (by decide)) (by decide)).only (Only.of_upd (T := [35]) u76 k49'10 (by decide)) (by decide)
     refine xbi 8 fun _ _ _ _ zJ zQ zo zx zy zK => op_app (m := (ts.length - 1)) (news := (r.flatMap wtC)) (.agg #[.int .i64 0, .int .i64 0, .int .i64 0, .slice none 0 0, .int .i64 0]) 5 56 ((belowL l t px107 cx107 (nodC (inB l t.no)) ++ r).length) (((belowL l t px107 cx107 (nodC (inB l t.no)) ++ r).flatMap wtC)) zo Tryz.underlying103 (by kernel_rfl) rfl (by decide) zx hB_ zy ((hWs_hF87.below hB_108).slN htr) (by rw [flat_length wtC_len, htl]; rfl) (wt_one r) (by unfold maxLen; omega) (by omega) hB_108.size (by rw [List.length_append, belowL_len, htl]; omega) (by rw [List.flatMap_append, show i = (nodC (inB l t.no)) by omega]) fun px119 cx119 W119 o119 hg119 hb119 => ?_
     refine zK _ _ ?_
     have o107'3 := own_grown o107 hg119 hB_ (by decide)
     have hApW := (Apart.of_lt hBlF o107'3 (Nat.le_refl _)).symm
     have hB'81 := hB_108.trans hb119
     have hT120 : Below W76.heap.size W76 W119 := hB'81
     have hs120 : w.heap.size ≤ W76.heap.size := hF87.size
     have o119'1 := own_mono o119 hs120
     have hKt'28 := hKt'26.below hT120
     have o107'4 := own_mono o107'3 hs120
     have hB := Bl.next hF87 hT120
     have k5_b1'15 := (u76.blk (((u73.blkT (u72.blkT ((((u49.blk (u8.blkT (k5_b1.below n7.below) n7.blk (by decide)) (Ne.symm (Ne.symm d2_b1))).below hb50).below n70.below).below n71.below) k70 (by decide)) k71 (by decide)).below n74.below).grown hg75 hBl'19 (by decide)) (Ne.symm (Ne.symm d2_b1))).below hT120
     have k76'2 := k76.below hT120
     have hEn'15 := own_below (u76.own2 (own_grown (own_below (u73.own2 (u72.own2 (own_below (own_below (own_below (u49.own2 (u8.own2 (own_below hEn n7.below) n7.blk (by decide)) k5_b2'9 (by decide)) hb50) n70.below) n71.below) k70 (by decide)) k71 (by decide)) n74.below) hg75 hBl'19 (by decide)) k49'10 (by decide)) hT120
     have o75'6 := own_below o75'4 hT120
     have hFl'31 := own_below (u76.own2 (own_grown (own_below (u73.own3 (u72.own2 (own_below hFl'26 n71.below) k70 (by decide)) r71_hFl) n74.below) hg75 hBl'19 (by decide)) k49'10 (by decide)) hT120
     have hI'15 := ((((((((hI'6.below hb50).below n70.below).below n71.below).only (Only.of_upd (T := [52]) u72 k70 (by decide)) (by decide)).only (Only.of_upd (T := [45]) u73 k71 (by decide)) (by decide)).below n74.below).only (Only.of_grown (T := [3]) hg75 hBl'19 (by decide)) (by decide)).only (Only.of_upd (T := [35]) u76 k49'10 (by decide)) (by decide)).below hT120
     refine ze 3 (hJ5 _ _ _ ⟨{ s with looked := s.looked + 1, bs := s.bs ++ [t.no] }, (belowL l t px107 cx107 (nodC (inB l t.no)) ++ r), pe, px75, pf, ce, cx75, cf, fv, px119, cx119, rfl, rfl, hB, k5_b1'15, k76'2, hEn'15, o75'6, hFl'31, (SufV.of o119'1 rfl), (KeptI.below_visits hKt'28 o107'4 hApW), hI'15, hwo1.inner px107 cx107 hft hfs hle hlf, hfv⟩ ?_)
     show 20 * (fuel.toNat - (s.looked + 1)) + (belowL l t px107 cx107 (nodC (inB l t.no)) ++ r).length < 20 * (fuel.toNat - s.looked) + ts.length
     rw [List.length_append, belowL_len, htl]
     omega
   refine xbs 0 1 [.int .i64 t.no] 3 fun b121 W121 n121 => ?_
   have g121 := n121.ge hB
   refine xb0 (.o [] 0) 3 fun b122 W122 n122 => ?_
   have d122_b121 := n122.ne n121.blk
   have hB'82 := Bl.next hB n121.below
   have g122 := n122.ge hB'82
   have o122 := own_of_blk (size := 1) (n := 0) n122.blk g122 rfl (by decide)
   have hB'83 := Bl.next hB'82 n122.below
   refine ybi (.o [] 3) (.t W76.heap.size [3]) fun _ _ _ _ zJ zQ zo zx zy zK => op_app (m := t.way.length) (news := (t.way.map (Value.int .i64))) (.int .i64 0) 1 8 (t.way.length) ((t.way.map (Value.int .i64))) zo Tryz.underlying26 (by kernel_rfl) rfl (by decide) zx o122 zy (hway0.below hB'83) (by simp) (ints_one _) (by unfold maxLen; omega) (by omega) hB'83.size (by omega) (by rfl) fun px123 cx123 W123 o123 hg123 hb123 => ?_
   refine zK _ _ (sft_grown hb123 hg123 o122 (by decide)) ?_
   have k121'1 := (n121.blk.below n122.below).grown3 hg123 (fun j hj => by obtain rfl : b122 = j := Option.some.inj hj; exact (Ne.symm d122_b121))
   have hB'84 := hB'83.trans hb123
   refine ybi (.o [] 7) (.t W76.heap.size [3]) fun _ _ _ _ zJ zQ zo zx zy zK => op_app (m := 1) (news := [.int .i64 t.no]) (.int .i64 0) 1 8 ((t.way ++ [t.no]).length) (((t.way ++ [t.no]).map (Value.int .i64))) zo Tryz.underlying26 (by kernel_rfl) rfl (by decide) zx o123 zy (k121'1.sl 1 1 (by decide) (by decide)) rfl (by simp [Value.oneCell']) (by unfold maxLen; omega) (by omega) hB'84.size (by simp) (by simp) fun px124 cx124 W124 o124 hg124 hb124 => ?_
   refine zK _ _ (sft_grown hb124 hg124 o123 (by decide)) ?_
   have hB'85 := hB'84.trans hb124
   refine zl (.r [8] 14) 186 (fun zm zkv V => ∃ (i : Nat) (pq : Option Addr) (cq : Nat), zkv = [(0, .pointer (some ⟨bm, 0, none⟩)), (2, .int .i64 tree), (3, .int .i64 fuel), (8, .pointer (some ⟨b1, 0, none⟩)), (9, .pointer (some ⟨b2, 0, none⟩)), (10, .slice (cutA aw 1 cw 5) (ts.length - 1) (cw - 1)), (11, .pointer (some ⟨b7, 0, none⟩)), (12, .pointer (some ⟨b70, 0, none⟩)), (15, .slice px124 ((t.way ++ [t.no]).length) cx124), (16, .slice pq i cq), (17, .int .i64 (↑i : Int))] ∧ zm = (nodC (inB l t.no)) - ((↑i : Int)).toNat ∧ Below W76.heap.size W76 V ∧ V.ownsRow W76.heap.size 102 5 (.slice pq i cq) i ((belowL l t px124 cx124 i).flatMap wtC) ∧ V.ownsRow W76.heap.size 3 1 (.slice px124 ((t.way ++ [t.no]).length) cx124) ((t.way ++ [t.no]).length) ((t.way ++ [t.no]).map (Value.int .i64)) ∧ i ≤ (nodC (inB l t.no))) ⟨0, _, _, rfl, rfl, hB'85, World.ownsRow_nil _ _ _ _, o124, Nat.zero_le _⟩ ?_
   rintro _ _ W125 ⟨i, pq, cq, rfl, rfl, hB_125, hB_, o124, hi⟩ J125 hJ125 r125
   refine xl 5 ((k72'1.below hB_125).cell (i := 2) rfl) ?_
   refine xid 4 ((↑i : Int) < (↑(nodC (inB l t.no)) : Int)) (fun hc126 => ?_) (fun hc126 => ?_)
   · refine xl 7 ((k72'1.below hB_125).cell (i := 3) rfl) ?_
     have hv__hF87 := own_sl (u76.own2 (own_grown (own_below (u73.own2 (u72.own2 (own_below (own_below (own_mono hv_ hB'29.size) n70.below) n71.below) k70 (by decide)) k71 (by decide)) n74.below) hg75 hBl'19 (by decide)) k49'10 (by decide))
     refine xx 1 _ (nodC (inB l t.no)) i 1 (Strs.elem (V := nodV l t.no) hv__hF87 (valsL_len _ _) (k := i) (by omega)).1 ?_
     refine xl 0 ((Strs.elem (V := nodV l t.no) (hv__hF87.below hB_125) (valsL_len _ _) (k := i) (by omega)).2) ?_
     refine xr 0 (args := #[.string ⟨((nodV l t.no).getD i []).toArray⟩]) (ref08_Root ((nodV l t.no).getD i []) _ (valsL_short _ _ _)) fun W127 hb127 => ?_
     refine xin 14 (rootE ((nodV l t.no).getD i [])) (0 : Int) (fun hc128 => ?_) (fun hc128 => ?_)
     · have hrt := hc128
       have hB'86 := Bl.next hB_125 hb127
       refine xl 4 ((k8_hF87.below hB'86).cell (i := 0) rfl) ?_
       refine xl 1 ((k8_hF87.below hB'86).cell (i := 3) rfl) ?_
       refine xbs 2 1 [.int .i64 t.no, .int .i64 0, .int .i64 0, .slice t.wa t.way.length t.wc, .int .i64 (rootE ((nodV l t.no).getD i []))] 102 fun b129 W129 n129 => ?_
       have g129 := n129.ge hB'86
       have hB_'9 := own_below hB_ hb127
       have r129_hB_ := own_ne hB_'9 n129
       have hB_'10 := own_below hB_'9 n129.below
       have hB'87 := Bl.next hB'86 n129.below
       refine xbi 0 fun _ _ _ _ zJ zQ zo zx zy zK => op_app (m := 1) (news := [.int .i64 t.no, .int .i64 0, .int .i64 0, .slice t.wa t.way.length t.wc, .int .i64 (rootE ((nodV l t.no).getD i []))]) (.agg #[.int .i64 0, .int .i64 0, .int .i64 0, .slice none 0 0, .int .i64 0]) 5 56 (i + 1) (((belowL l t px124 cx124 (i + 1)).flatMap wtC)) zo Tryz.underlying103 (by kernel_rfl) rfl (by decide) zx hB_'10 zy (n129.blk.sl 1 1 (by decide) (by decide)) rfl (by simp [Value.oneCell']) (by unfold maxLen; omega) (by omega) hB'87.size (by rfl) (by rw [belowL_snoc, List.flatMap_append, show belowW l t px124 cx124 i = ⟨t.no, 0, 0, t.way, rootE ((nodV l t.no).getD i []), t.wa, t.wc⟩ from by unfold belowW; rw [if_neg hrt]]; rfl) fun px130 cx130 W130 o130 hg130 hb130 => ?_
       refine zK _ _ ?_
       refine xwm 9 ((↑i : Int) + 1) (↑(i + 1) : Int) ?_
       have hB'88 := hB'87.trans hb130
       have o124'1 := own_grown (own_below (own_below o124 hb127) n129.below) hg130 hB_'10 (by decide)
       exact ze 2 (hJ125 _ _ _ ⟨i + 1, _, _, rfl, rfl, hB'88, o130, o124'1, by omega⟩ (by omega))
     have hrt := hc128
     have hB'89 := Bl.next hB_125 hb127
     refine xlv 5 ((k8_hF87.below hB'89).rpp 1 2) ?_
     refine xl 1 ((k72'1.below hB'89).cell (i := 2) rfl) ?_
     have hkl : (nodK l t.no).length = (nodC (inB l t.no)) := keysI_len _ _
     have hci := child_in (look_node hle).2.1 (i := i) (by rw [hkl]; omega)
     have hk_hF87 := own_sl (u76.own2 hkq75 k49'10 (by decide))
     refine xr 1 (args := #[.agg #[.int .i64 t.lo, .int .i64 t.hi], .slice kp (nodC (inB l t.no)) kc, .int .i64 (↑i : Int)]) ((refspan_child t.lo t.hi (↑i : Int) _ (nodK l t.no) _ ⟨by omega, by omega⟩ (by rw [hkl]; omega) (intsN_of (hk_hF87.below hB'89) hkl)).mono (fun _ _ h => by rw [hci] at h; exact h)) fun W131 hb131 => ?_
     refine xa 3 [.int .i64 0, .int .i64 0] 96 fun b132 W132 n132 => ?_
     have hB'90 := Bl.next hB'89 hb131
     have g132 := n132.ge hB'90
     refine xsv 0 n132.blk [.int .i64 ((partAt t.hi (nodK l t.no) i).1), .int .i64 ((partAt t.hi (nodK l t.no) i).2)] fun W133 u133 k133 => ?_
     refine xlv 6 k133.rp ?_
     refine xbs 2 1 [.int .i64 (↑(rootN ((nodV l t.no).getD i [])) : Int), .int .i64 ((partAt t.hi (nodK l t.no) i).1), .int .i64 ((partAt t.hi (nodK l t.no) i).2), .slice px124 ((t.way ++ [t.no]).length) cx124, .int .i64 0] 102 fun b134 W134 n134 => ?_
     have hB'91 := u133.below (Bl.next hB'90 n132.below) g132
     have g134 := n134.ge hB'91
     have hB_'11 := u133.own2 (own_below (own_below (own_below hB_ hb127) hb131) n132.below) n132.blk (by decide)
     have r134_hB_ := own_ne hB_'11 n134
     have hB_'12 := own_below hB_'11 n134.below
     have hB'92 := Bl.next hB'91 n134.below
     refine xbi 0 fun _ _ _ _ zJ zQ zo zx zy zK => op_app (m := 1) (news := [.int .i64 (↑(rootN ((nodV l t.no).getD i [])) : Int), .int .i64 ((partAt t.hi (nodK l t.no) i).1), .int .i64 ((partAt t.hi (nodK l t.no) i).2), .slice px124 ((t.way ++ [t.no]).length) cx124, .int .i64 0]) (.agg #[.int .i64 0, .int .i64 0, .int .i64 0, .slice none 0 0, .int .i64 0]) 5 56 (i + 1) (((belowL l t px124 cx124 (i + 1)).flatMap wtC)) zo Tryz.underlying103 (by kernel_rfl) rfl (by decide) zx hB_'12 zy (n134.blk.sl 1 1 (by decide) (by decide)) rfl (by simp [Value.oneCell']) (by unfold maxLen; omega) (by omega) hB'92.size (by rfl) (by rw [belowL_snoc, List.flatMap_append, show belowW l t px124 cx124 i = ⟨rootN ((nodV l t.no).getD i []), (partAt t.hi (nodK l t.no) i).1, (partAt t.hi (nodK l t.no) i).2, t.way ++ [t.no], 0, px124, cx124⟩ from by unfold belowW; rw [if_pos hrt]]; rfl) fun px135 cx135 W135 o135 hg135 hb135 => ?_
     refine zK _ _ ?_
     refine xwm 6 ((↑i : Int) + 1) (↑(i + 1) : Int) ?_
     have hB'93 := hB'92.trans hb135
     have o124'2 := own_grown (own_below (u133.own2 (own_below (own_below (own_below o124 hb127) hb131) n132.below) n132.blk (by decide)) n134.below) hg135 hB_'12 (by decide)
     exact ze 2 (hJ125 _ _ _ ⟨i + 1, _, _, rfl, rfl, hB'93, o135, o124'2, by omega⟩ (by omega))
   have hWs_hF87 := ((((((((((hWs.below n7.below).updN u8 n7 rfl).only (Only.of_upd (T := [35]) u49 k5_b2'9 (by decide)) (by decide)).below hb50).below n70.below).below n71.below).only (Only.of_upd (T := [52]) u72 k70 (by decide)) (by decide)).only (Only.of_upd (T := [45]) u73 k71 (by decide)) (by decide)).below n74.below).only (Only.of_grown (T := [3]) hg75 hBl'19 (by decide)) (by decide)).only (Only.of_upd (T := [35]) u76 k49'10 (by decide)) (by decide)
   refine xbi 8 fun _ _ _ _ zJ zQ zo zx zy zK => op_app (m := (ts.length - 1)) (news := (r.flatMap wtC)) (.agg #[.int .i64 0, .int .i64 0, .int .i64 0, .slice none 0 0, .int .i64 0]) 5 56 ((belowL l t px124 cx124 (nodC (inB l t.no)) ++ r).length) (((belowL l t px124 cx124 (nodC (inB l t.no)) ++ r).flatMap wtC)) zo Tryz.underlying103 (by kernel_rfl) rfl (by decide) zx hB_ zy ((hWs_hF87.below hB_125).slN htr) (by rw [flat_length wtC_len, htl]; rfl) (wt_one r) (by unfold maxLen; omega) (by omega) hB_125.size (by rw [List.length_append, belowL_len, htl]; omega) (by rw [List.flatMap_append, show i = (nodC (inB l t.no)) by omega]) fun px136 cx136 W136 o136 hg136 hb136 => ?_
   refine zK _ _ ?_
   have o124'3 := own_grown o124 hg136 hB_ (by decide)
   have hApW := (Apart.of_lt hBlF o124'3 (Nat.le_refl _)).symm
   have hB'94 := hB_125.trans hb136
   have hT137 : Below W76.heap.size W76 W136 := hB'94
   have hs137 : w.heap.size ≤ W76.heap.size := hF87.size
   have o136'1 := own_mono o136 hs137
   have hKt'29 := hKt'26.below hT137
   have o124'4 := own_mono o124'3 hs137
   have hB := Bl.next hF87 hT137
   have k5_b1'16 := (u76.blk (((u73.blkT (u72.blkT ((((u49.blk (u8.blkT (k5_b1.below n7.below) n7.blk (by decide)) (Ne.symm (Ne.symm d2_b1))).below hb50).below n70.below).below n71.below) k70 (by decide)) k71 (by decide)).below n74.below).grown hg75 hBl'19 (by decide)) (Ne.symm (Ne.symm d2_b1))).below hT137
   have k76'3 := k76.below hT137
   have hEn'16 := own_below (u76.own2 (own_grown (own_below (u73.own2 (u72.own2 (own_below (own_below (own_below (u49.own2 (u8.own2 (own_below hEn n7.below) n7.blk (by decide)) k5_b2'9 (by decide)) hb50) n70.below) n71.below) k70 (by decide)) k71 (by decide)) n74.below) hg75 hBl'19 (by decide)) k49'10 (by decide)) hT137
   have o75'7 := own_below o75'4 hT137
   have hFl'32 := own_below (u76.own2 (own_grown (own_below (u73.own3 (u72.own2 (own_below hFl'26 n71.below) k70 (by decide)) r71_hFl) n74.below) hg75 hBl'19 (by decide)) k49'10 (by decide)) hT137
   have hI'16 := ((((((((hI'6.below hb50).below n70.below).below n71.below).only (Only.of_upd (T := [52]) u72 k70 (by decide)) (by decide)).only (Only.of_upd (T := [45]) u73 k71 (by decide)) (by decide)).below n74.below).only (Only.of_grown (T := [3]) hg75 hBl'19 (by decide)) (by decide)).only (Only.of_upd (T := [35]) u76 k49'10 (by decide)) (by decide)).below hT137
   refine ze 3 (hJ5 _ _ _ ⟨{ s with looked := s.looked + 1, bs := s.bs ++ [t.no] }, (belowL l t px124 cx124 (nodC (inB l t.no)) ++ r), pe, px75, pf, ce, cx75, cf, fv, px136, cx136, rfl, rfl, hB, k5_b1'16, k76'3, hEn'16, o75'7, hFl'32, (SufV.of o136'1 rfl), (KeptI.below_visits hKt'29 o124'4 hApW), hI'16, hwo1.inner px124 cx124 hft hfs hle hlf, hfv⟩ ?_)
   show 20 * (fuel.toNat - (s.looked + 1)) + (belowL l t px124 cx124 (nodC (inB l t.no)) ++ r).length < 20 * (fuel.toNat - s.looked) + ts.length
   rw [List.length_append, belowL_len, htl]
   omega
 have hcE := hc6
 refine xlv 7 k5_b2.rp ?_
 refine xsv 0 k5_b1 [.slice pe s.es.length ce, .slice pb s.bs.length cb, .int .i64 s.deep, .int .i64 (↑s.looked : Int), .slice pf fv.length cf] fun W138 u138 k138 => ?_
 have g1 := n1.ge (Below.refl w.heap.size _)
 have hB'95 := u138.below hB_5 g1
 have hEn'17 := u138.own2 hEn k5_b1 (by decide)
 have hBl'20 := u138.own2 hBl k5_b1 (by decide)
 have hFl'33 := u138.own2 hFl k5_b1 (by decide)
 have hKi'1 := hKi.only (Only.of_upd (T := [35]) u138 k5_b1 (by decide)) (by decide)
 refine xec 3 k138 (.agg #[.slice pe s.es.length ce, .slice pb s.bs.length cb, .int .i64 s.deep, .int .i64 (↑s.looked : Int), .slice pf fv.length cf]) ?_
 obtain rfl : ts = [] := by cases ts with
   | nil => rfl
   | cons t r => simp at hcE
 rw [hwo.nil]
 exact ⟨pe, pb, pf, ce, cb, cf, fv, rfl, hB'95, hEn'17, hBl'20, hFl'33, hfv, hKi'1⟩
end Go.Proofs.YtinegkldgjhnpaaGreatDoor
namespace Go.Proofs.YtinegkldgjhnpaaGreatDoor
open Go.RowKit Go.Extern.Stop Go.Stop Go.Extern
set_option linter.unusedVariables false
attribute [local irreducible] wpList wpAnyH Code.wp Oper.wp Go

theorem ImgR.mono {B B' b : Nat} {p : Option Addr} {n c : Nat} {l : List UInt8} {w : World} (h : ImgR B b p n c l w) (hB : B' ≤ B) : ImgR B' b p n c l w := ⟨h.blk, own_mono h.row hB, h.hn⟩
theorem image_OfR (a : Option Addr) (c n m : Nat) (l : List UInt8) (w : World) (hn : l.length = n) (hm : min (n / 256) 14400 * 256 = m) (h : Bys w (.slice a n c) l) (hl : n ≤ 100000000) (hc : n ≤ c) :
    Calls Tryz.prog 10 #[.slice a n c] w (RetS (fun w' r => ∃ b p c2, r = .pointer (some ⟨b, 0, none⟩) ∧ w.heap.size ≤ b ∧ ImgR w.heap.size b p m c2 (l.take m) w') w) := by
  subst hn hm
  refine (image_Of a c l w h hl hc).mono ?_
  rintro e W ⟨_, rfl, hb, b, p, c2, rfl, h1, h2, h3⟩
  exact ⟨_, rfl, hb, b, p, c2, rfl, h1, h2, h3, by omega⟩
def WroteR (B b : Nat) (p : Option Addr) (n c : Nat) (l : List UInt8) (w : World) (e : Ending) (w' : World) : Prop :=
  e = .returned .nilIface ∧ Below B w w' ∧ Only [5] w w' ∧ ImgR B b p n c l w'
theorem block_WriteR (B b : Nat) (p : Option Addr) (n c k : Nat) (ki : Int) (l : List UInt8) (kind : Int) (a : Option Addr) (ca m : Nat) (li : List UInt8) (w : World) (hki : ki = (k : Int)) (hm : li.length = m) (hI : ImgR B b p n c l w) (hk : k < n / 256) (h1 : 1 ≤ kind) (h2 : kind ≤ 4) (hin : Bys w (.slice a m ca) li) (hl : m ≤ 244) (hBw : B ≤ w.heap.size) :
    Calls Tryz.prog 20 #[.pointer (some ⟨b, 0, none⟩), .int .i64 ki, .int .i64 kind, .slice a m ca] w (WroteR B b p n c (putB l (k * 256) (sealB kind k li)) w) := by
  subst hki hm
  obtain ⟨g, rfl, hc⟩ := hI.base (by omega)
  refine (block_Write B b g n c k l kind a ca li w hI.blk hI.row hI.hn hc hk h1 h2 hin hl hBw).mono ?_
  rintro e W ⟨rfl, hb, hO, _, ho⟩
  exact ⟨rfl, hb, hO, hI.blk.only hO (by decide), ho, hI.hn⟩
end Go.Proofs.YtinegkldgjhnpaaGreatDoor
namespace Go.Proofs.YtinegkldgjhnpaaGreatDoor
open Go.RowKit Go.Extern.Stop Go.Stop Go.Extern
set_option linter.unusedVariables false
attribute [local irreducible] wpList wpAnyH Code.wp Oper.wp Go

def li14 : List UInt8 := nodeP 12 8 (headB 2 true 0 12 8) [] [] 0
def im14 : List UInt8 := putB (List.replicate 512 0) (1 * 256) (sealB 2 1 li14)
theorem li14_len : li14.length = 244 := by decide +kernel
theorem li14_ok : nodeTE li14 2 = 0 := by decide +kernel
theorem im14_blk : blkB im14 1 = sealB 2 1 li14 := blkB_put (sealB_len (by rw [li14_len]; decide)) (by rw [List.length_replicate]; decide)
theorem im14_len : im14.length = 512 := by unfold im14; rw [putB_len (by rw [sealB_len (by rw [li14_len]; decide), List.length_replicate]; decide), List.length_replicate]
theorem im14_in : inB im14 1 = li14 := by
  rw [inB_in (no := 1) (j := 1) rfl, im14_blk, in_seal (by rw [li14_len]; decide)]
  unfold inSeal; rw [li14_len]; exact List.append_nil _
theorem im14_ok : nodeErr im14 1 2 = 0 := by
  unfold nodeErr
  rw [inE_in (no := 1) (j := 1) im14_len rfl (by decide), im14_blk, if_pos (open_seal (by decide) (by decide) (by decide) (by decide) (by rw [li14_len]; decide)), im14_in, li14_ok]
theorem im14_c : nodC (inB im14 1) = 0 := by rw [im14_in]; decide +kernel
theorem im14_l : nodL (inB im14 1) = true := by rw [im14_in]; decide +kernel
theorem im14_look : lookE im14 [] 1 2 0 281474976710656 0 = 0 := by
  unfold lookE
  rw [if_neg (by decide), if_neg (by decide), if_neg (by rw [im14_ok]; decide), im14_c, if_neg (by decide), if_neg (by simp)]
theorem scan14 : scanW im14 1 2 9 = ⟨[], [1], 1, 1, [], false⟩ := by
  unfold scanW visitF
  rw [if_neg (by decide), if_neg (by rw [show ws0.deep = 0 from rfl, im14_look]; decide), if_pos im14_l, im14_c]
  rfl
theorem walk_Scan14 (B b : Nat) (p : Option Addr) (n c : Nat) (w : World) (hI : ImgR B b p n c im14 w) :
    Calls Tryz.prog 9 #[.pointer (some ⟨b, 0, none⟩), .int .i64 1, .int .i64 2, .int .i64 9] w (RetS (fun _ r => ∃ pe pb pf ce cb cf, r = .agg #[.slice pe 0 ce, .slice pb 1 cb, .int .i64 1, .int .i64 1, .slice pf 0 cf]) w) := by
  refine (walk_Scan B b p n c im14 1 2 9 w (by decide) hI).mono ?_
  rintro e W ⟨pe, pb, pf, ce, cb, cf, fv, rfl, hb, _⟩
  rw [scan14]
  exact ⟨_, rfl, hb, pe, pb, pf, ce, cb, cf, rfl⟩
theorem ok14 : NodeOk 2 true 0 12 8 [] [] := ⟨by decide, by decide, rfl, rfl, rfl, rfl, by decide, fun h => (nomatch h), fun i h => absurd h (Nat.not_lt_zero i), fun j h => absurd h (Nat.not_lt_zero (j + 1)), fun i h => absurd h (Nat.not_lt_zero i)⟩
set_option maxRecDepth 100000 in
set_option maxHeartbeats 4000000 in
theorem lives14 (w : World) :
    Calls Tryz.prog 7 #[] w (Ret (.bool true) w) := by
 refine zin 42 Tryz.func7 ?_
 refine xmk 7 fun _ _ _ _ zJ zQ zo zx zy zK => op_make 512 (.int .u8 0) 1 1 ((List.replicate 512 (0 : UInt8)).map bv) zo zx zy Tryz.underlying22 (by kernel_rfl) rfl (by omega) (by omega) (zerosB 512) fun b1 W1 n1 => ?_
 refine zK _ _ ?_
 have hs8 : w.heap.size ≤ (W1).heap.size := n1.below.size
 have o1 := own_of_blk (size := 1) (n := 512) n1.blk (n1.ge (Below.refl w.heap.size _)) (by rw [List.length_map, List.length_replicate]) (by unfold maxLen; omega)
 refine xc 0 (args := #[.slice (some ⟨b1, 0, none⟩) 512 512]) (image_OfR (some ⟨b1, 0, none⟩) 512 512 512 (List.replicate 512 (0 : UInt8)) _ List.length_replicate (by decide) (bys_of (own_sl o1) List.length_replicate) (by decide) (by decide)) ?_
 rintro _ W2 ⟨_, rfl, hb2, bi, pi, ci, rfl, _, hI⟩
 replace hI := hI.mono hs8
 rw [List.take_of_length_le (by simp)] at hI
 refine xc 6 (args := #[.agg #[.int .i64 2, .bool true, .slice none 0 0, .slice none 0 0]]) (node_Put 2 true 0 12 8 [] [] none none 0 0 _ ok14 (.inl ⟨none, 0, rfl, rfl, rfl⟩) (.inl ⟨none, 0, rfl, rfl, rfl⟩)) ?_
 rintro _ W3 ⟨_, rfl, hb3, pz, cz, rfl, oz⟩
 have hs3 := (Bl.next n1.below hb2).size
 have oz'1 := own_mono oz hs3
 change World.ownsRow _ _ _ _ _ _ (li14.map bv) at oz'1
 have hI'1 := hI.below hb3
 have hB'1 := Bl.next (Bl.next n1.below hb2) hb3
 refine xc 15 (args := #[.pointer (some ⟨bi, 0, none⟩), .int .i64 1, .int .i64 2, .slice pz 244 cz]) (block_WriteR w.heap.size bi pi 512 ci 1 1 (List.replicate 512 (0 : UInt8)) 2 pz cz 244 li14 _ rfl li14_len hI'1 (by decide) (by decide) (by decide) (bys_of (own_sl oz'1) li14_len) (by decide) hB'1.size) ?_
 rintro _ W4 ⟨rfl, hb4, hO4, hI⟩
 rw [show putB (List.replicate 512 (0 : UInt8)) (1 * 256) (sealB 2 (1 : Nat) li14) = im14 from rfl] at hI
 refine xc 10 (args := #[.pointer (some ⟨bi, 0, none⟩), .int .i64 1, .int .i64 2, .int .i64 9]) (walk_Scan14 w.heap.size bi pi 512 ci _ hI) ?_
 rintro _ W5 ⟨_, rfl, hb5, pe, pb, pf, ce, cb, cf, rfl⟩
 refine xa 0 [.slice none 0 0, .slice none 0 0, .int .i64 0, .int .i64 0, .slice none 0 0] 29 fun b6 W6 n6 => ?_
 have hB'2 := Bl.next (hB'1.trans hb4) hb5
 have g6 := n6.ge hB'2
 refine xsv 0 n6.blk [.slice pe 0 ce, .slice pb 1 cb, .int .i64 1, .int .i64 1, .slice pf 0 cf] fun W7 u7 k7 => ?_
 refine xb 5 0 k7 ?_
 refine xb 4 2 k7 ?_
 refine xb 4 3 k7 ?_
 refine xb 4 1 k7 ?_
 have hB'3 := u7.below (Bl.next hB'2 n6.below) g6
 exact xe 7 (.bool true) ⟨rfl, hB'3⟩
end Go.Proofs.YtinegkldgjhnpaaGreatDoor
namespace Go.Proofs.YtinegkldgjhnpaaGreatDoor
open Go.RowKit Go.Extern.Stop Go.Stop Go.Extern
set_option linter.unusedVariables false
/-- whether an error is of number d -/
def isE (l : List (Option Int)) (t : Option Int) (d : Int) : Bool := if noErr l t then d == 0 else t == some d
theorem iface_ne {P : Program} (w : World) {ti ta tb : TypeId} {ms : Array (String × TypeId)} (x y : Value) (hi : P.underlying ti = some (.interface ms)) (hne : ta ≠ tb) : (binOp .eql ti (.iface ta x) (.iface tb y)).run P w = .ok (.bool false) w := by
  simp only [binOp]
  have h : ∀ d : Nat, (Op.equalIn (d + 2) ti (.iface ta x) (.iface tb y)).run P w = .ok false w := fun d => by simp [Op.equalIn, run_underlying hi, hne]
  simp [Op.equal, Op.maxDepth, h 9998]
theorem Tryz.eqFN (a : Value) (b : Int) (w : World) : (binOp .eql 41 (.iface 67 a) (.iface 53 (.int .i64 b))).run Tryz.prog w = .ok (.bool false) w :=
  iface_ne w a _ Tryz.underlying41 (by decide)
set_option maxRecDepth 100000 in
set_option maxHeartbeats 2000000 in
theorem errors_isC (l : List (Option Int)) (t : Option Int) (v : Value) (d : Int) (w : World) (hv : ErrV w l t v) (hn : noErr l t = false) (hs : ∀ b ∈ l, b.isSome = true) : Calls Tryz.prog 134 #[v, .iface 53 (.int .i64 d), .bool true] w (Ret (.bool (t == some d)) w) := by
  have y1 := Tryz.eqN
  have y2 := Tryz.noIsN
  have y3 := Tryz.noUnwrapN
  have y4 := Tryz.noUnwrapsN
  have y5 := Tryz.eqFN
  have y6 := Tryz.noIsF
  have y7 := Tryz.hasUnwrapF
  have y8 := Tryz.methUnwrapF
  have y9 := Tryz.nilUnwrapF
  go_enter Tryz.func134, Tryz.ntmps134
  go_wp2_with fail
  go_loopg [0] l.length (fun k x wr => ∃ l', l'.length = k ∧ ErrV wr l' t x ∧ noErr l' t = false ∧ (∀ b ∈ l', b.isSome = true) ∧ Below w.heap.size w wr)
  case atStart => exact ⟨l, rfl, hv, hn, hs, Below.refl _ _⟩
  case round =>
    obtain ⟨l', hk, hx, hne, hss, hbr⟩ := hrel
    match l', hx with
    | [], hx =>
      cases t with
      | none => simp [noErr] at hne
      | some c =>
        obtain rfl : u0 = _ := hx
        by_cases h : c = d
        · have h' : (c == d) = true := by simpa using h
          have h2 : (some c == some d) = true := by simpa using h
          have HH := Lib.hid h; clear h
          have HK := Lib.hid hk; clear hk
          go_wp2_with fail
          go_ret
          exact ⟨by rw [h2]; rfl, hbr⟩
        · have h' : (c == d) = false := by simpa using h
          have h2 : (some c == some d) = false := by simpa using h
          have HH := Lib.hid h; clear h
          have HK := Lib.hid hk; clear hk
          go_wp2_with fail
          go_ret
          exact ⟨by rw [h2]; rfl, hbr⟩
    | some b :: r, hx =>
      obtain ⟨blk, v', rfl, hkb, h3⟩ := hx
      have h1 := hkb.cell (i := 1) rfl
      have HK := Lib.hid hk; clear hk
      go_wp2_with fail
      refine (fault_unwrapM _ _ _ h1).mono ?_
      rintro e w' ⟨rfl, rfl⟩
      rcases h3.nil_or with ⟨hz, rfl⟩ | ⟨hz, ty, x, rfl⟩
      · obtain ⟨rfl, rfl⟩ := noErr_true hz
        go_wp2_with fail
        go_ret
        exact ⟨rfl, hbr⟩
      · go_wp2_with fail
        go_roundg (r.length)
        case measure => rw [← HK.out]; simp
        case rel => exact ⟨r, rfl, h3, hz, fun b hb => hss b (List.mem_cons_of_mem _ hb), hbr⟩
    | none :: r, hx => exact absurd (hss none List.mem_cons_self) (by decide)
set_option maxRecDepth 100000 in
set_option maxHeartbeats 2000000 in
theorem errors_IsC (l : List (Option Int)) (t : Option Int) (ty : TypeId) (x : Value) (d : Int) (w : World) (hv : ErrV w l t (.iface ty x)) (hn : noErr l t = false) (hs : ∀ b ∈ l, b.isSome = true) : Calls Tryz.prog 98 #[.iface ty x, .iface 53 (.int .i64 d)] w (Ret (.bool (t == some d)) w) := by
  have h66 := @run_callFunc_extern Tryz.prog 106 _ ReflectliteType.typeOf Tryz.func106 (by kernel_rfl) (by kernel_rfl) (by kernel_rfl) (by kernel_rfl)
  have y1 := Tryz.typeOfN
  have y2 := Tryz.methComparable
  have y3 := Tryz.comparableN
  go_enter Tryz.func98, Tryz.ntmps98
  go_wp2_with fail
  refine (errors_isC l t _ d _ hv hn hs).mono ?_
  rintro e w' ⟨rfl, hb⟩
  go_wp2_with fail
  go_ret
  exact ⟨rfl, hb⟩
end Go.Proofs.YtinegkldgjhnpaaGreatDoor
namespace Go.Proofs.YtinegkldgjhnpaaGreatDoor
open Go.RowKit Go.Extern.Stop Go.Stop Go.Extern
set_option linter.unusedVariables false
attribute [local irreducible] wpList wpAnyH Code.wp Oper.wp

theorem visitF_len (l : List UInt8) (tree fuel : Int) : ∀ (d : Nat) (way : List Int) (no lo hi : Int) (s : WS), way.length + d ≤ 20 → (∀ f ∈ s.fs, f.1.length ≤ 40) → ∀ f ∈ (visitF l tree fuel d way no lo hi s).fs, f.1.length ≤ 40
  | 0, _, _, _, _, s, _, h => h
  | d + 1, way, no, lo, hi, s, hw, h => by
    have hnote : ∀ (c : Int) (s : WS), (∀ f ∈ s.fs, f.1.length ≤ 40) → ∀ f ∈ (noteW way [no] c s).fs, f.1.length ≤ 40 := by
      intro c s h f hf
      simp only [noteW, List.mem_append, List.mem_singleton] at hf
      rcases hf with hf | rfl
      · exact h f hf
      · simp; omega
    unfold visitF
    split
    · exact hnote _ _ h
    · split
      · exact hnote _ _ h
      · split
        · exact h
        · refine loopW_ind (V := visitF l tree fuel d) (l := l) (way := way) (no := no) (hi := hi) (s := { s with looked := s.looked + 1, bs := s.bs ++ [no] }) (fun _ t => ∀ f ∈ t.fs, f.1.length ≤ 40) h (nodC (inB l no)) ?_ fun _ _ _ _ q => q
          intro i t _ _ q
          unfold childW
          split
          · exact visitF_len l tree fuel d (way ++ [no]) _ _ _ t (by simp; omega) q
          · exact hnote _ _ q
theorem scanW_len (l : List UInt8) (root tree fuel : Int) : ∀ f ∈ (scanW l root tree fuel).fs, f.1.length ≤ 40 := visitF_len l tree fuel 17 [] root _ _ ws0 (by decide) (by simp [ws0])
theorem getD_in {α : Type} {l : List α} {d : α} {i : Nat} (h : i < l.length) : l.getD i d ∈ l := by simp [List.getD, h]
theorem pair_get {α : Type} {R : α → α → Prop} {l : List α} {d : α} (h : l.Pairwise R) {i j : Nat} (hij : i < j) (hj : j < l.length) : R (l.getD i d) (l.getD j d) := by
  have := List.pairwise_iff_getElem.1 h i j (by omega) hj hij
  simpa [List.getD, hj, show i < l.length by omega] using this
theorem FltsW.at {w : World} : ∀ {fs : List (List Int × Int)} {vs : List Value}, FltsW w fs vs → ∀ {j : Nat}, j < fs.length → ∃ ty x, vs[j]? = some (.iface ty x) ∧ ErrV w ((fs.getD j ([], 0)).1.map some) (some (fs.getD j ([], 0)).2) (.iface ty x)
  | f :: r, v :: q, h, 0, _ => by
    obtain ⟨ty, x, rfl⟩ := h.1.iface
    exact ⟨ty, x, rfl, h.1⟩
  | f :: r, v :: q, h, j + 1, hj => by
    obtain ⟨ty, x, h1, h2⟩ := h.2.at (j := j) (by simpa using hj)
    exact ⟨ty, x, by simpa using h1, by simpa using h2⟩
  | [], _, _, j, hj => absurd hj (by simp)
  | _ :: _, [], h, _, _ => h.elim
theorem Sl.elem1 {w : World} {b : Option Addr} {n c : Nat} {xs : List Value} (h : Sl w (.slice b n c) n xs) {j : Nat} {x : Value} (hj : xs[j]? = some x) : b.isSome = true ∧ w.cell? (elemAddr b (j * 1)) = some x := by rw [Nat.mul_one]; exact Sl.elem h hj
theorem blocksOf_some (l : List Int) : blocksOf (l.map some) = l := by unfold blocksOf; simp [List.filterMap_map]
theorem fault_BlocksS (l : List Int) (c : Int) (v : Value) (w : World) (hlen : l.length ≤ 1000000) (hv : ErrV w (l.map some) (some c) v) :
    Calls Tryz.prog 46 #[v] w (RetS (fun w' r => ∃ p cp, r = .slice p l.length cp ∧ w'.ownsRow w.heap.size 3 1 (.slice p l.length cp) l.length (l.map (Value.int .i64))) w) := by
  refine (fault_Blocks (some c) (l.map some) v w (by simpa using hlen) hv).mono ?_
  rw [blocksOf_some]
  rintro e W ⟨r, rfl, hb, ho⟩
  obtain ⟨p, cp, rfl⟩ := (own_sl ho).slice
  exact ⟨_, rfl, hb, p, cp, rfl, ho⟩
theorem block_NodeOk (B b : Nat) (p : Option Addr) (n c : Nat) (l : List UInt8) (no tree : Int) (w : World) (hI : ImgR B b p n c l w) (h0 : nodeErr l no tree = 0) :
    Calls Tryz.prog 21 #[.pointer (some ⟨b, 0, none⟩), .int .i64 no, .int .i64 tree] w (fun e w' => ∃ kp kc vp vc, e = .returned (.tuple #[.agg #[.int .i64 (nodT (inB l no)), .bool (nodL (inB l no)), .slice kp (nodC (inB l no)) kc, .slice vp (nodC (inB l no)) vc], .nilIface]) ∧ Below w.heap.size w w' ∧
      w'.ownsRow w.heap.size 3 1 (.slice kp (nodC (inB l no)) kc) (nodC (inB l no)) ((nodK l no).map (Value.int .i64)) ∧ w'.ownsRow w.heap.size 9 1 (.slice vp (nodC (inB l no)) vc) (nodC (inB l no)) ((nodV l no).map sv)) := by
  refine (block_Node B b p n c l no tree w hI).mono ?_
  rintro e W (⟨h, _⟩ | ⟨_, h⟩)
  · exact absurd h0 h
  · exact h
def ScanT (t : WS) (w : World) (e : Ending) (w' : World) : Prop := ∃ pe pb pf ce cb cf fv, e = .returned (.agg (walkC t pe pb pf ce cb cf).toArray) ∧ Below w.heap.size w w' ∧ WalkV w.heap.size t pe pb pf ce cb cf fv w'
theorem walk_ScanAs (Bi b : Nat) (pi : Option Addr) (ni ci : Nat) (l : List UInt8) (root tree fuel : Int) (t : WS) (w : World) (hfu : fuel ≤ 1000) (hI : ImgR Bi b pi ni ci l w) (ht : scanW l root tree fuel = t) :
    Calls Tryz.prog 9 #[.pointer (some ⟨b, 0, none⟩), .int .i64 root, .int .i64 tree, .int .i64 fuel] w (ScanT t w) := by
  subst ht; exact walk_Scan Bi b pi ni ci l root tree fuel w hfu hI
theorem and255 (x : Int) : ∃ q : Nat, IntKind.i64.wrap (↑(BitVec.ofInt 64 x &&& BitVec.ofInt 64 255).toNat : Int) = (q : Int) ∧ q ≤ 255 := by
  have h : (BitVec.ofInt 64 x &&& BitVec.ofInt 64 255).toNat ≤ 255 := by
    rw [BitVec.toNat_and]
    exact Nat.le_trans Nat.and_le_right (by decide)
  exact ⟨_, IntWalk.i64_in _ (by omega), h⟩
def anyD (fs : List (List Int × Int)) (j : Nat) : Bool := (fs.take j).any (·.2 == 12)
theorem anyD_succ {fs : List (List Int × Int)} {j : Nat} (h : j < fs.length) : anyD fs (j + 1) = (anyD fs j || (fs.getD j ([], 0)).2 == 12) := by
  unfold anyD
  rw [List.take_succ_eq_append_getElem h, List.any_append]
  simp [List.getD, h]
theorem anyD_all {fs : List (List Int × Int)} {j : Nat} (h : fs.length ≤ j) : anyD fs j = true ↔ ∃ f ∈ fs, f.2 = 12 := by
  unfold anyD
  rw [List.take_of_length_le h]
  simp
theorem scan_dry {l : List UInt8} {root tree fuel : Int} {j : Nat} (hj : (scanW l root tree fuel).fs.length ≤ j) : (scanW l root tree fuel).dry = anyD (scanW l root tree fuel).fs j := by
  obtain ⟨es, fs, h⟩ := scanW_went l root tree fuel
  have hf : (scanW l root tree fuel).fs = fs := by rw [h.fsE]; rfl
  have := h.dry
  rw [hf] at hj ⊢
  cases q : anyD fs j with
  | true => rw [this]; exact .inr ((anyD_all hj).1 q)
  | false =>
    cases q2 : (scanW l root tree fuel).dry with
    | false => rfl
    | true =>
      rcases this.1 q2 with q3 | q3
      · cases q3
      · rw [(anyD_all hj).2 q3] at q; cases q
theorem scan_full {l : List UInt8} {root tree fuel : Int} (h : (scanW l root tree fuel).dry = true) : (scanW l root tree fuel).looked = fuel.toNat := by
  have h2 := scanW_looked l root tree fuel
  obtain ⟨es, fs, hw⟩ := scanW_went l root tree fuel
  rcases hw.fuelE h with q | q
  · cases q
  · omega
theorem scan_more {l : List UInt8} {root tree fuel : Int} {q : Nat} (h : (scanW l root tree fuel).dry = false) : scanW l root tree (fuel + q) = scanW l root tree fuel :=
  visitF_more l tree fuel (fuel + q) (by omega) 17 [] root _ _ ws0 h
/-- what the law asks of a scan -/
theorem scan_law (l : List UInt8) (root tree fuel : Int) : (scanW l root tree fuel).looked ≤ fuel.toNat ∧ (scanW l root tree fuel).bs.length ≤ (scanW l root tree fuel).looked ∧ (∀ x ∈ (scanW l root tree fuel).es, InBlk l tree x) ∧
    (scanW l root tree fuel).es.Pairwise (fun x y => x.1 < y.1) ∧ ∀ f ∈ (scanW l root tree fuel).fs, f.1 ≠ [] ∧ f.1.getD 0 0 = root := by
  obtain ⟨es, fs, h⟩ := scanW_went l root tree fuel
  have h1 : (scanW l root tree fuel).es = es := by rw [h.esE]; rfl
  have h2 : (scanW l root tree fuel).fs = fs := by rw [h.fsE]; rfl
  have h3 := h.blks
  refine ⟨scanW_looked _ _ _ _, by simpa [ws0] using h3, fun x hx => h.inb x (h1 ▸ hx), by rw [h1]; exact h.rise.1, fun f hf => ?_⟩
  obtain ⟨q1, q2, _⟩ := h.flt f (h2 ▸ hf)
  refine ⟨q2, ?_⟩
  cases e : f.1 with
  | nil => exact absurd e q2
  | cons a r => rw [e] at q1; simpa using q1
end Go.Proofs.YtinegkldgjhnpaaGreatDoor
namespace Go.Proofs.YtinegkldgjhnpaaGreatDoor
open Go.RowKit Go.Extern.Stop Go.Stop Go.Extern
set_option linter.unusedVariables false
attribute [local irreducible] wpList wpAnyH Code.wp Oper.wp Go

theorem run_entne {a : Act} {o : Oper} {p q : Operand} (x : Ent) (ho : o.op = .binOp .neq 108 p q 108) (hx : a.eval p = .agg (entC x).toArray) (hy : a.eval q = .agg (entC x).toArray) (V : World) :
    (execOp a.eval o).run Tryz.prog V = .ok (.value (.bool false)) V := by
  have h1 := Tryz.underlying108
  have h2 := Tryz.underlying3
  have h3 := Tryz.underlying9
  have h4 : Tryz.prog.stoodInHeld 108 = false := by kernel_rfl
  have hb : (binOp .neq 108 (.agg (entC x).toArray) (.agg (entC x).toArray)).run Tryz.prog V = .ok (.bool false) V := by
    obtain ⟨x0, x1, x2⟩ := x
    simp [go_sem, Program.fieldsOf, h1, h2, h3, h4, Op.eqFields, entC]
  have hg := run_eqGuard_agg (P := Tryz.prog) (w := V) .neq 108 p q (entC x).toArray (entC x).toArray (by kernel_rfl)
  simp only [execOp, ho, hx, hy, Sem.run_bind, hg, Result.andThen_ok, hb]
  rfl
set_option maxRecDepth 100000 in
set_option maxHeartbeats 1000000 in
theorem ref14_SameEntries (a b : Option Addr) (ca cb : Nat) (es : List Ent) (w : World) (ha : Sts entC w (.slice a es.length ca) es) (hb : Sts entC w (.slice b es.length cb) es) :
    Calls Tryz.prog 36 #[.slice a es.length ca, .slice b es.length cb] w (Ret (.bool true) w) := by
 have hLa := Sl.len ha
 refine zin 26 Tryz.func36 ?_
 refine xk 15 (show (((↑es.length : Int) != (↑es.length : Int)) : Bool) = false from by simp) ?_
 have hB := Below.refl w.heap.size w
 refine zl 9 26 (fun zm zkv V => ∃ (i : Nat), zkv = [(0, .slice a es.length ca), (1, .slice b es.length cb), (5, .int .i64 (↑i : Int))] ∧ zm = es.length - ((↑i : Int)).toNat ∧ Below w.heap.size w V ∧ i ≤ es.length) ⟨0, rfl, rfl, hB, Nat.zero_le _⟩ ?_
 rintro _ _ W1 ⟨i, rfl, rfl, hB_1, hi⟩ J1 hJ1 r1
 refine xid 9 ((↑i : Int) < (↑es.length : Int)) (fun hc2 => ?_) (fun hc2 => ?_)
 · refine xd 5 .z ?_
   refine xx (.e [0, 1] 2) _ es.length i 3 (Sts.cell ha entC_len entD (k := i) (i := 0) (by omega) rfl).1 ?_
   have hB'1 := Bl.next hB_1 (below_drew W1)
   refine xlv (.e [] 3) (Sts.rp (k := i) (ha.below hB'1) entC_len entD (by omega) (by decide)) ?_
   refine xx (.e [4, 5] 6) _ es.length i 3 (Sts.cell hb entC_len entD (k := i) (i := 0) (by omega) rfl).1 ?_
   refine xlv (.e [] 7) (Sts.rp (k := i) (hb.below hB'1) entC_len entD (by omega) (by decide)) ?_
   refine xbo (.e [] 8) (t := 108) (t2 := 108) (fun _ _ _ _ zo zx zy V hV => run_entne (es.getD i entD) zo zx zy V) ?_
   refine xwm 8 ((↑i : Int) + 1) (↑(i + 1) : Int) ?_
   exact ze 2 (hJ1 _ _ _ ⟨i + 1, rfl, rfl, hB'1, by omega⟩ (by omega))
 exact xe 11 (.bool true) ⟨rfl, hB_1⟩
set_option maxRecDepth 100000 in
set_option maxHeartbeats 1000000 in
theorem ref01_Same (a b : Option Addr) (ca cb : Nat) (l : List Int) (w : World) (ha : Ints w (.slice a l.length ca) l) (hb : Ints w (.slice b l.length cb) l) :
    Calls Tryz.prog 34 #[.slice a l.length ca, .slice b l.length cb] w (Ret (.bool true) w) := by
 have hLa := Sl.len ha
 refine zin 26 Tryz.func34 ?_
 refine xk 15 (show (((↑l.length : Int) != (↑l.length : Int)) : Bool) = false from by simp) ?_
 have hB := Below.refl w.heap.size w
 refine zl 9 26 (fun zm zkv V => ∃ (i : Nat), zkv = [(0, .slice a l.length ca), (1, .slice b l.length cb), (5, .int .i64 (↑i : Int))] ∧ zm = l.length - ((↑i : Int)).toNat ∧ Below w.heap.size w V ∧ i ≤ l.length) ⟨0, rfl, rfl, hB, Nat.zero_le _⟩ ?_
 rintro _ _ W1 ⟨i, rfl, rfl, hB_1, hi⟩ J1 hJ1 r1
 refine xid 9 ((↑i : Int) < (↑l.length : Int)) (fun hc2 => ?_) (fun hc2 => ?_)
 · refine xd 5 .z ?_
   refine xx (.e [0, 1] 2) _ l.length i 1 (Ints.elem ha (k := i) (by omega)).1 ?_
   have hB'1 := Bl.next hB_1 (below_drew W1)
   refine xl (.e [] 3) ((Ints.elem (ha.below hB'1) (k := i) (by omega)).2) ?_
   refine xx (.e [4, 5] 6) _ l.length i 1 (Ints.elem hb (k := i) (by omega)).1 ?_
   refine xl (.e [] 7) ((Ints.elem (hb.below hB'1) (k := i) (by omega)).2) ?_
   refine xk (.r [8] 2) (show (((l.getD i 0) != (l.getD i 0)) : Bool) = false from by simp) ?_
   refine xwm 5 ((↑i : Int) + 1) (↑(i + 1) : Int) ?_
   exact ze 2 (hJ1 _ _ _ ⟨i + 1, rfl, rfl, hB'1, by omega⟩ (by omega))
 exact xe 11 (.bool true) ⟨rfl, hB_1⟩
theorem codeOf_some (l : List Int) (c : Int) : codeOf (l.map some) (some c) = c := by simp [codeOf, noErr]
def ft0 : Ft := ⟨[], 0, none, 0⟩
/-- what the program has found, in any world: rows as they are read -/
structure WalkS (t : WS) (pe pb pf : Option Addr) (ce cb cf : Nat) (fv : List Value) (w : World) : Prop where
  ents : Sts entC w (.slice pe t.es.length ce) t.es
  blks : Ints w (.slice pb t.bs.length cb) t.bs
  flts : Sl w (.slice pf t.fs.length cf) t.fs.length fv
  fltv : FltsW w t.fs fv
theorem WalkS.below {t : WS} {pe pb pf : Option Addr} {ce cb cf : Nat} {fv : List Value} {w W : World} (h : WalkS t pe pb pf ce cb cf fv w) (hb : Below w.heap.size w W) : WalkS t pe pb pf ce cb cf fv W :=
  ⟨Sl.below h.ents hb, Sl.below h.blks hb, Sl.below h.flts hb, h.fltv.below hb⟩
/-- what the document has -/
structure RWalkS (t : WS) (pe pb pf : Option Addr) (ce cb cf : Nat) (fv : List Ft) (w : World) : Prop where
  ents : Sts entC w (.slice pe t.es.length ce) t.es
  blks : Ints w (.slice pb t.bs.length cb) t.bs
  flts : Sts fltC w (.slice pf fv.length cf) fv
  map : fv.map fltP = t.fs
  kept : ∀ f ∈ fv, Ints w (.slice f.fa f.bl.length f.fc) f.bl
theorem RWalkS.below {t : WS} {pe pb pf : Option Addr} {ce cb cf : Nat} {fv : List Ft} {w W : World} (h : RWalkS t pe pb pf ce cb cf fv w) (hb : Below w.heap.size w W) : RWalkS t pe pb pf ce cb cf fv W :=
  ⟨Sl.below h.ents hb, Sl.below h.blks hb, Sl.below h.flts hb, h.map, fun f hf => Sl.below (h.kept f hf) hb⟩
theorem RWalkS.at_ {t : WS} {pe pb pf : Option Addr} {ce cb cf : Nat} {fv : List Ft} {w : World} (h : RWalkS t pe pb pf ce cb cf fv w) {i : Nat} (hi : i < fv.length) : t.fs.getD i ([], 0) = ((fv.getD i ft0).bl, (fv.getD i ft0).c) := by
  rw [← h.map]; simp [List.getD, hi, fltP]
theorem RWalkS.len {t : WS} {pe pb pf : Option Addr} {ce cb cf : Nat} {fv : List Ft} {w : World} (h : RWalkS t pe pb pf ce cb cf fv w) : fv.length = t.fs.length := by rw [← h.map]; simp
theorem told_some (f : List Int × Int) (v : Value) (w : World) (hlen : f.1.length ≤ 1000000) (hg : ErrT w) (hv : ErrV w (f.1.map some) (some f.2) v) :
    Calls Tryz.prog 16 #[v] w (fun e w' => ∃ a c, e = .returned (.agg #[.slice a f.1.length c, .int .i64 f.2]) ∧ Below w.heap.size w w' ∧ Ints w' (.slice a f.1.length c) f.1) := by
  refine (law05_Told (some f.2) (f.1.map some) v w (by simpa using hlen) hg hv).mono ?_
  rw [codeOf_some, blocksOf_some]
  rintro e W ⟨_, rfl, hb, s, rfl, hs⟩
  obtain ⟨a, c, rfl⟩ := hs.slice
  exact ⟨a, c, rfl, hb, hs⟩
set_option maxRecDepth 100000 in
set_option maxHeartbeats 4000000 in
theorem law14_same (t : WS) (pe pb pf pe2 pb2 pf2 : Option Addr) (ce cb cf ce2 cb2 cf2 : Nat) (fv : List Value) (fv2 : List Ft) (w : World) (hg : ErrT w) (hlen : ∀ f ∈ t.fs, f.1.length ≤ 1000000) (hP : WalkS t pe pb pf ce cb cf fv w) (hQ : RWalkS t pe2 pb2 pf2 ce2 cb2 cf2 fv2 w) :
    Calls Tryz.prog 8 #[.agg #[.slice pe t.es.length ce, .slice pb t.bs.length cb, .int .i64 t.deep, .int .i64 (↑t.looked : Int), .slice pf t.fs.length cf], .agg #[.slice pe2 t.es.length ce2, .slice pb2 t.bs.length cb2, .int .i64 t.deep, .int .i64 (↑t.looked : Int), .slice pf2 fv2.length cf2]] w (Ret (.bool true) w) := by
 have hln := hQ.len
 have hLa := Sl.len hP.flts
 refine zin 63 Tryz.func8 ?_
 refine xa 2 [.slice pe t.es.length ce, .slice pb t.bs.length cb, .int .i64 t.deep, .int .i64 (↑t.looked : Int), .slice pf t.fs.length cf] 29 fun b1 W1 n1 => ?_
 refine xa 0 [.slice pe2 t.es.length ce2, .slice pb2 t.bs.length cb2, .int .i64 t.deep, .int .i64 (↑t.looked : Int), .slice pf2 fv2.length cf2] 35 fun b2 W2 n2 => ?_
 have k1 := n1.blk.below n2.below
 refine xb 7 0 k1 ?_
 refine xb 1 0 n2.blk ?_
 have hP'1 := (hP.below n1.below).below n2.below
 have hQ'1 := (hQ.below n1.below).below n2.below
 refine xr 0 (args := #[.slice pe t.es.length ce, .slice pe2 t.es.length ce2]) (ref14_SameEntries pe pe2 ce ce2 t.es _ hP'1.ents hQ'1.ents) fun W3 hb3 => ?_
 have k1'1 := k1.below hb3
 refine xb 3 1 k1'1 ?_
 have k2'1 := n2.blk.below hb3
 refine xb 1 1 k2'1 ?_
 have hP'2 := hP'1.below hb3
 have hQ'2 := hQ'1.below hb3
 refine xr 0 (args := #[.slice pb t.bs.length cb, .slice pb2 t.bs.length cb2]) (ref01_Same pb pb2 cb cb2 t.bs _ hP'2.blks hQ'2.blks) fun W4 hb4 => ?_
 have k1'2 := k1'1.below hb4
 refine xb 4 2 k1'2 ?_
 have k2'2 := k2'1.below hb4
 refine xb 1 2 k2'2 ?_
 refine xgk 3 [25, 26, 27] (show ((t.deep != t.deep) : Bool) = false from by simp) ?_
 refine xb 1 3 k1'2 ?_
 refine xb 1 3 k2'2 ?_
 refine xgk 3 [32, 33, 34] (show (((↑t.looked : Int) != (↑t.looked : Int)) : Bool) = false from by simp) ?_
 refine xb 1 4 k1'2 ?_
 refine xb 2 4 k2'2 ?_
 refine xk 5 (show (((↑t.fs.length : Int) != (↑fv2.length : Int)) : Bool) = false from by rw [hln]; simp) ?_
 have hP'3 := hP'2.below hb4
 have hQ'3 := hQ'2.below hb4
 have hg'1 := (((hg.below n1.below).below n2.below).below hb3).below hb4
 have hB := Bl.next (Bl.next (Bl.next n1.below n2.below) hb3) hb4
 refine zl 9 63 (fun zm zkv V => ∃ (i : Nat), zkv = [(2, .pointer (some ⟨b1, 0, none⟩)), (3, .pointer (some ⟨b2, 0, none⟩)), (5, .int .i64 (↑i : Int))] ∧ zm = t.fs.length - ((↑i : Int)).toNat ∧ Below w.heap.size w V ∧ Blk V b1 ([.slice pe t.es.length ce, .slice pb t.bs.length cb, .int .i64 t.deep, .int .i64 (↑t.looked : Int), .slice pf t.fs.length cf]) 29 ∧ Blk V b2 ([.slice pe2 t.es.length ce2, .slice pb2 t.bs.length cb2, .int .i64 t.deep, .int .i64 (↑t.looked : Int), .slice pf2 fv2.length cf2]) 35 ∧ WalkS t pe pb pf ce cb cf fv V ∧ RWalkS t pe2 pb2 pf2 ce2 cb2 cf2 fv2 V ∧ ErrT V ∧ i ≤ t.fs.length) ⟨0, rfl, rfl, hB, k1'2, k2'2, hP'3, hQ'3, hg'1, Nat.zero_le _⟩ ?_
 rintro _ _ W7 ⟨i, rfl, rfl, hB_7, k7_b1, k7_b2, hP, hQ, hg, hi⟩ J7 hJ7 r7
 refine xb 5 4 k7_b1 ?_
 refine xid 4 ((↑i : Int) < (↑t.fs.length : Int)) (fun hc8 => ?_) (fun hc8 => ?_)
 · obtain ⟨tyi, xi, hxi, hEi⟩ := hP.fltv.at (j := i) (by omega)
   have hpi := hQ.at_ (i := i) (by omega)
   refine xd 5 .z ?_
   have k7_b1'1 := k7_b1.below (below_drew W7)
   refine xb (.e [0] 1) 4 k7_b1'1 ?_
   have hP'4 := hP.below (below_drew W7)
   refine xx (.e [2] 3) _ t.fs.length i 1 (Sl.elem1 (hP'4.flts) hxi).1 ?_
   refine xl (.e [] 4) ((Sl.elem1 (hP'4.flts) hxi).2) ?_
   have k7_b2'1 := k7_b2.below (below_drew W7)
   refine xb (.e [6] 7) 4 k7_b2'1 ?_
   have hQ'4 := hQ.below (below_drew W7)
   refine xx (.e [8] 9) _ fv2.length i 2 (Sts.cell (hQ'4.flts) fltC_len ft0 (k := i) (i := 0) (by omega) rfl).1 ?_
   refine xlv (.e [] 10) (Sts.rp (k := i) (hQ'4.flts) fltC_len ft0 (by omega) (by decide)) ?_
   have hg'2 := hg.below (below_drew W7)
   have hEi'1 := hEi.below (below_drew W7)
   refine yc (.o [] 5) (args := #[.iface tyi (xi)]) .z (told_some (t.fs.getD i ([], 0)) _ _ (hlen (t.fs.getD i ([], 0)) (getD_in (by omega))) hg'2 hEi'1) ?_
   rintro _ W9 ⟨at_, ct, rfl, hb9, hT⟩
   refine ⟨hb9, ?_⟩
   have hQ'5 := hQ'4.below hb9
   refine xr (.o [] 11) (args := #[.agg #[.slice at_ ((t.fs.getD i ([], 0)).1.length) ct, .int .i64 ((t.fs.getD i ([], 0)).2)], .agg #[.slice ((fv2.getD i ft0).fa) ((fv2.getD i ft0).bl.length) ((fv2.getD i ft0).fc), .int .i64 ((fv2.getD i ft0).c)]]) (ref05_Same (t.fs.getD i ([], 0)).1 (t.fs.getD i ([], 0)).2 _ _ _ ⟨_, rfl, hT⟩ ⟨_, by rw [hpi], by rw [hpi]; exact hQ'5.kept (fv2.getD i ft0) (getD_in (by omega))⟩) fun W10 hb10 => ?_
   refine xwm (.r [12] 8) ((↑i : Int) + 1) (↑(i + 1) : Int) ?_
   have hB'1 := Bl.next (Bl.next (Bl.next hB_7 (below_drew W7)) hb9) hb10
   have k7_b1'2 := (k7_b1'1.below hb9).below hb10
   have k7_b2'2 := (k7_b2'1.below hb9).below hb10
   have hP'5 := (hP'4.below hb9).below hb10
   have hQ'6 := hQ'5.below hb10
   have hg'3 := (hg'2.below hb9).below hb10
   exact ze 2 (hJ7 _ _ _ ⟨i + 1, rfl, rfl, hB'1, k7_b1'2, k7_b2'2, hP'5, hQ'6, hg'3, by omega⟩ (by omega))
 exact xe 11 (.bool true) ⟨rfl, hB_7⟩
end Go.Proofs.YtinegkldgjhnpaaGreatDoor
namespace Go.Proofs.YtinegkldgjhnpaaGreatDoor
open Go.RowKit Go.Extern.Stop Go.Stop Go.Extern
set_option linter.unusedVariables false
attribute [local irreducible] wpList wpAnyH Code.wp Oper.wp Go

def eL (S : WS) : List (Option Int) := if S.fs = [] then [] else (S.fs.getD 0 ([], 0)).1.map some
def eT (S : WS) : Option Int := if S.fs = [] then none else some (S.fs.getD 0 ([], 0)).2
def wholeT (S : WS) : WS := if S.fs = [] then S else ws0
def wholeF (S : WS) : List Int × Int := if S.fs = [] then ([], 0) else S.fs.getD 0 ([], 0)
theorem blocks_eL (S : WS) : blocksOf (eL S) = (wholeF S).1 := by
  unfold eL wholeF; split
  · rfl
  · exact blocksOf_some _
theorem code_eL (S : WS) : codeOf (eL S) (eT S) = (wholeF S).2 := by
  unfold eL eT wholeF; split
  · rfl
  · exact codeOf_some _ _
def FirstP (fs : List (List Int × Int)) (w : World) (e : Ending) (w' : World) : Prop :=
  (fs = [] ∧ e = .returned .nilIface ∧ Below w.heap.size w w') ∨ (fs ≠ [] ∧ ∃ ty x, e = .returned (.iface ty x) ∧ Below w.heap.size w w' ∧ ErrV w' ((fs.getD 0 ([], 0)).1.map some) (some (fs.getD 0 ([], 0)).2) (.iface ty x))
set_option maxRecDepth 100000 in
set_option maxHeartbeats 1000000 in
theorem fault_First_some (p : Option Addr) (n c : Nat) (fv : List Value) (ty : TypeId) (x : Value) (w : World) (hn : 0 < n) (hS : Sl w (.slice p n c) n fv) (hx : fv[0]? = some (.iface ty x)) :
    Calls Tryz.prog 45 #[.slice p n c] w (Ret (.iface ty x) w) := by
 refine zin 15 Tryz.func45 ?_
 refine xu 14 1 ?_
 refine xk 6 (show (decide ((0 : Int) < (↑n : Int)) : Bool) = true from decide_eq_true (by omega)) ?_
 refine xx 6 _ n 0 1 (Sl.elem1 hS hx).1 ?_
 refine xl 0 ((Sl.elem1 hS hx).2) ?_
 exact xe 22 (.iface ty (x)) ⟨rfl, (Below.refl w.heap.size _)⟩
set_option maxRecDepth 100000 in
set_option maxHeartbeats 1000000 in
theorem fault_First_none (p : Option Addr) (c : Nat) (w : World) :
    Calls Tryz.prog 45 #[.slice p 0 c] w (Ret .nilIface w) := by
 refine zin 15 Tryz.func45 ?_
 refine xu 14 1 ?_
 exact xe 18 .nilIface ⟨rfl, (Below.refl w.heap.size _)⟩
theorem fault_FirstP (p : Option Addr) (n c : Nat) (fs : List (List Int × Int)) (fv : List Value) (w : World) (hn : fs.length = n) (hS : Sl w (.slice p n c) n fv) (hF : FltsW w fs fv) : Calls Tryz.prog 45 #[.slice p n c] w (FirstP fs w) := by
  subst hn
  match fs, hS, hF with
  | [], hS, hF =>
    refine (fault_First_none p c w).mono ?_
    rintro e W ⟨rfl, hb⟩
    exact .inl ⟨rfl, rfl, hb⟩
  | f :: r, hS, hF =>
    obtain ⟨ty, x, h1, h2⟩ := hF.at (j := 0) (by simp)
    refine (fault_First_some p _ c fv ty x w (by simp) hS h1).mono ?_
    rintro e W ⟨rfl, hb⟩
    exact .inr ⟨by simp, ty, x, rfl, hb, h2.below hb⟩
theorem WalkV.mono {B B' : Nat} {t : WS} {pe pb pf : Option Addr} {ce cb cf : Nat} {fv : List Value} {w : World} (h : WalkV B t pe pb pf ce cb cf fv w) (hB : B' ≤ B) : WalkV B' t pe pb pf ce cb cf fv w := ⟨own_mono h.ents hB, own_mono h.blks hB, own_mono h.flts hB, h.fltv⟩
theorem WalkV.below {B : Nat} {t : WS} {pe pb pf : Option Addr} {ce cb cf : Nat} {fv : List Value} {w W : World} (h : WalkV B t pe pb pf ce cb cf fv w) (hb : Below w.heap.size w W) : WalkV B t pe pb pf ce cb cf fv W := ⟨own_below h.ents hb, own_below h.blks hb, own_below h.flts hb, h.fltv.below hb⟩
theorem WalkV.only {B : Nat} {T : List TypeId} {t : WS} {pe pb pf : Option Addr} {ce cb cf : Nat} {fv : List Value} {w W : World} (h : WalkV B t pe pb pf ce cb cf fv w) (hO : Only T w W) (hT : T.contains 108 = false ∧ T.contains 3 = false ∧ T.contains 41 = false ∧ T.contains 72 = false) : WalkV B t pe pb pf ce cb cf fv W := ⟨own_only h.ents hO hT.1, own_only h.blks hO hT.2.1, own_only h.flts hO hT.2.2.1, h.fltv.only hO hT.2.2.2⟩
/-- what the document has, in rows of the call's own -/
structure RWalkV (B : Nat) (t : WS) (pe pb pf : Option Addr) (ce cb cf : Nat) (fv : List Ft) (w : World) : Prop where
  ents : w.ownsRow B 108 3 (.slice pe t.es.length ce) t.es.length (t.es.flatMap entC)
  blks : w.ownsRow B 3 1 (.slice pb t.bs.length cb) t.bs.length (t.bs.map (Value.int .i64))
  flts : w.ownsRow B 45 2 (.slice pf fv.length cf) fv.length (fv.flatMap fltC)
  map : fv.map fltP = t.fs
  kept : ∀ f ∈ fv, IntsAt B w f.fa f.fc f.bl
theorem RWalkV.s {B : Nat} {t : WS} {pe pb pf : Option Addr} {ce cb cf : Nat} {fv : List Ft} {w : World} (h : RWalkV B t pe pb pf ce cb cf fv w) : RWalkS t pe pb pf ce cb cf fv w := ⟨own_sl h.ents, own_sl h.blks, own_sl h.flts, h.map, fun f hf => (h.kept f hf).ints⟩
theorem RWalkV.mono {B B' : Nat} {t : WS} {pe pb pf : Option Addr} {ce cb cf : Nat} {fv : List Ft} {w : World} (h : RWalkV B t pe pb pf ce cb cf fv w) (hB : B' ≤ B) : RWalkV B' t pe pb pf ce cb cf fv w := ⟨own_mono h.ents hB, own_mono h.blks hB, own_mono h.flts hB, h.map, fun f hf => (h.kept f hf).mono hB⟩
theorem RWalkV.below {B : Nat} {t : WS} {pe pb pf : Option Addr} {ce cb cf : Nat} {fv : List Ft} {w W : World} (h : RWalkV B t pe pb pf ce cb cf fv w) (hb : Below w.heap.size w W) : RWalkV B t pe pb pf ce cb cf fv W := ⟨own_below h.ents hb, own_below h.blks hb, own_below h.flts hb, h.map, fun f hf => (h.kept f hf).below hb⟩
theorem RWalkV.only {B : Nat} {T : List TypeId} {t : WS} {pe pb pf : Option Addr} {ce cb cf : Nat} {fv : List Ft} {w W : World} (h : RWalkV B t pe pb pf ce cb cf fv w) (hO : Only T w W) (hT : T.contains 108 = false ∧ T.contains 3 = false ∧ T.contains 45 = false) : RWalkV B t pe pb pf ce cb cf fv W := ⟨own_only h.ents hO hT.1, own_only h.blks hO hT.2.1, own_only h.flts hO hT.2.2, h.map, fun f hf => (h.kept f hf).only hO hT.2.1⟩
theorem RWalkV.updF {B b : Nat} {cs : List Value} {t : WS} {pe pb pf : Option Addr} {ce cb cf : Nat} {fv : List Ft} {w W : World} (h : RWalkV B t pe pb pf ce cb cf fv w) (u : Upd w b W) (k : Blk w b cs 45) (hs : ∀ j, (Value.slice pf fv.length cf).ownBlock = some j → j ≠ b) : RWalkV B t pe pb pf ce cb cf fv W :=
  ⟨u.own2 h.ents k (by decide), u.own2 h.blks k (by decide), u.own3 h.flts hs, h.map, fun f hf => u.own2 (h.kept f hf) k (by decide)⟩
theorem WalkV.s {B : Nat} {t : WS} {pe pb pf : Option Addr} {ce cb cf : Nat} {fv : List Value} {w : World} (h : WalkV B t pe pb pf ce cb cf fv w) : WalkS t pe pb pf ce cb cf fv w := ⟨own_sl h.ents, own_sl h.blks, own_sl h.flts, h.fltv⟩
theorem WalkV.zero (B : Nat) (w : World) : WalkV B ws0 none none none 0 0 0 [] w := ⟨World.ownsRow_nil _ _ _ _, World.ownsRow_nil _ _ _ _, World.ownsRow_nil _ _ _ _, trivial⟩
theorem RWalkV.zero (B : Nat) (w : World) : RWalkV B ws0 none none none 0 0 0 [] w := ⟨World.ownsRow_nil _ _ _ _, World.ownsRow_nil _ _ _ _, World.ownsRow_nil _ _ _ _, rfl, fun _ h => by cases h⟩
theorem whole_ok {S : WS} (h : S.fs = []) : wholeT S = S ∧ wholeF S = ([], 0) ∧ eL S = [] ∧ eT S = none := by unfold wholeT wholeF eL eT; simp [h]
theorem whole_bad {S : WS} (h : S.fs ≠ []) : wholeT S = ws0 ∧ wholeF S = S.fs.getD 0 ([], 0) ∧ eL S = (S.fs.getD 0 ([], 0)).1.map some ∧ eT S = some (S.fs.getD 0 ([], 0)).2 := by unfold wholeT wholeF eL eT; simp [h]
def WholeP (S : WS) (w : World) (e : Ending) (w' : World) : Prop := ∃ t pe pb pf ce cb cf fv v, t = wholeT S ∧ e = .returned (.tuple #[.agg (walkC t pe pb pf ce cb cf).toArray, v]) ∧ Below w.heap.size w w' ∧ WalkV w.heap.size t pe pb pf ce cb cf fv w' ∧ ErrV w' (eL S) (eT S) v
def rwalkC (t : WS) (pe pb pf : Option Addr) (n ce cb cf : Nat) : List Value := [.slice pe t.es.length ce, .slice pb t.bs.length cb, .int .i64 t.deep, .int .i64 (t.looked : Int), .slice pf n cf]
def RWholeP (S : WS) (w : World) (e : Ending) (w' : World) : Prop := ∃ t pe pb pf ce cb cf fv a c, t = wholeT S ∧ e = .returned (.tuple #[.agg (rwalkC t pe pb pf fv.length ce cb cf).toArray, .agg #[.slice a (wholeF S).1.length c, .int .i64 (wholeF S).2]]) ∧ Below w.heap.size w w' ∧ RWalkV w.heap.size t pe pb pf ce cb cf fv w' ∧ IntsAt w.heap.size w' a c (wholeF S).1
set_option maxRecDepth 100000 in
set_option maxHeartbeats 1000000 in
theorem walk_WholeP (Bi b : Nat) (pi : Option Addr) (ni ci : Nat) (l : List UInt8) (root tree fuel : Int) (w : World) (hfu : fuel ≤ 1000) (hI : ImgR Bi b pi ni ci l w) :
    Calls Tryz.prog 13 #[.pointer (some ⟨b, 0, none⟩), .int .i64 root, .int .i64 tree, .int .i64 fuel] w (WholeP (scanW l root tree fuel) w) := by
 refine zin 25 Tryz.func13 ?_
 refine xa 2 [.slice none 0 0, .slice none 0 0, .int .i64 0, .int .i64 0, .slice none 0 0] 29 fun b1 W1 n1 => ?_
 have hsz := n1.below.size
 refine xc 9 (args := #[.pointer (some ⟨b, 0, none⟩), .int .i64 root, .int .i64 tree, .int .i64 fuel]) (walk_Scan Bi b pi ni ci l root tree fuel _ hfu (hI.below n1.below)) ?_
 rintro _ W2 ⟨pe, pb, pf, ce, cb, cf, fv, rfl, hb2, hW0⟩
 have hW := hW0.mono hsz
 refine xa 0 [.slice none 0 0, .slice none 0 0, .int .i64 0, .int .i64 0, .slice none 0 0] 29 fun b3 W3 n3 => ?_
 have k1 := n1.blk.below hb2
 have d3_b1 := n3.ne k1
 have hB'1 := Bl.next n1.below hb2
 have g3 := n3.ge hB'1
 refine xsv 0 n3.blk [.slice pe ((scanW l root tree fuel).es.length) ce, .slice pb ((scanW l root tree fuel).bs.length) cb, .int .i64 ((scanW l root tree fuel).deep), .int .i64 (↑(scanW l root tree fuel).looked : Int), .slice pf ((scanW l root tree fuel).fs.length) cf] fun W4 u4 k4 => ?_
 refine xb 6 4 k4 ?_
 have hW'1 := (hW.below n3.below).only (Only.of_upd (T := [29]) u4 n3.blk (by decide)) (by decide)
 refine xc 0 (args := #[.slice pf ((scanW l root tree fuel).fs.length) cf]) (fault_FirstP pf _ cf (scanW l root tree fuel).fs fv _ rfl (own_sl hW'1.flts) hW'1.fltv) ?_
 rintro e W5 hq5
 rcases hq5 with ⟨hz, rfl, hb5⟩ | ⟨hz, ty, x, rfl, hb5, hv⟩
 · have hwo := whole_ok hz
   have k4'1 := k4.below hb5
   refine xlv 14 k4'1.rp ?_
   have k1'1 := (u4.blk (k1.below n3.below) (Ne.symm (Ne.symm d3_b1))).below hb5
   refine xsv 0 k1'1 [.slice pe ((scanW l root tree fuel).es.length) ce, .slice pb ((scanW l root tree fuel).bs.length) cb, .int .i64 ((scanW l root tree fuel).deep), .int .i64 (↑(scanW l root tree fuel).looked : Int), .slice pf ((scanW l root tree fuel).fs.length) cf] fun W6 u6 k6 => ?_
   have g1 := n1.ge (Below.refl w.heap.size _)
   have hB'2 := u6.below (Bl.next (u4.below (Bl.next hB'1 n3.below) g3) hb5) g1
   have hW'2 := (hW'1.below hb5).only (Only.of_upd (T := [29]) u6 k1'1 (by decide)) (by decide)
   exact xec 4 k6 (.tuple #[.agg #[.slice pe ((scanW l root tree fuel).es.length) ce, .slice pb ((scanW l root tree fuel).bs.length) cb, .int .i64 ((scanW l root tree fuel).deep), .int .i64 (↑(scanW l root tree fuel).looked : Int), .slice pf ((scanW l root tree fuel).fs.length) cf], .nilIface]) ⟨_, pe, pb, pf, ce, cb, cf, fv, _, rfl, by rw [hwo.1]; rfl, hB'2, by rw [hwo.1]; exact hW'2, by rw [hwo.2.2.1, hwo.2.2.2]; rfl⟩
 have hwo := whole_bad hz
 have k1'2 := (u4.blk (k1.below n3.below) (Ne.symm (Ne.symm d3_b1))).below hb5
 refine xsv 14 k1'2 [.slice none 0 0, .slice none 0 0, .int .i64 0, .int .i64 0, .slice none 0 0] fun W7 u7 k7 => ?_
 have g1 := n1.ge (Below.refl w.heap.size _)
 have hB'3 := u7.below (Bl.next (u4.below (Bl.next hB'1 n3.below) g3) hb5) g1
 have hv'1 := hv.upd u7 k1'2 (by decide)
 exact xec 5 k7 (.tuple #[.agg #[.slice none 0 0, .slice none 0 0, .int .i64 0, .int .i64 0, .slice none 0 0], .iface ty (x)]) ⟨_, none, none, none, 0, 0, 0, [], _, rfl, by rw [hwo.1]; rfl, hB'3, by rw [hwo.1]; exact WalkV.zero _ _, by rw [hwo.2.2.1, hwo.2.2.2]; exact hv'1⟩
theorem RScanP.s {S : WS} {w : World} {e : Ending} {w' : World} (h : RScanP S w e w') : ∃ (pe pb pf : Option Addr) (ce cb cf : Nat) (fv : List Ft), e = .returned (.agg (rwalkC S pe pb pf fv.length ce cb cf).toArray) ∧ Below w.heap.size w w' ∧ RWalkV w.heap.size S pe pb pf ce cb cf fv w' := by
  obtain ⟨pe, pb, pf, ce, cb, cf, fv, rfl, hb, h1, h2, h3, h4, h5⟩ := h
  exact ⟨pe, pb, pf, ce, cb, cf, fv, rfl, hb, h1, h2, h3, h4, fun f hf => (h5 (fltK f) (List.mem_map_of_mem hf)).1⟩
theorem RWalkS.first {t : WS} {pe pb pf : Option Addr} {ce cb cf : Nat} {fv : List Ft} {w : World} (h : RWalkS t pe pb pf ce cb cf fv w) (hi : 0 < fv.length) : wholeF t = ((fv.getD 0 ft0).bl, (fv.getD 0 ft0).c) ∧ t.fs ≠ [] := by
  have h1 := h.at_ hi
  have hz : t.fs ≠ [] := by intro q; have := h.len; rw [q, List.length_nil] at this; omega
  exact ⟨by rw [(whole_bad hz).2.1, h1], hz⟩
theorem RWalkS.none {t : WS} {pe pb pf : Option Addr} {ce cb cf : Nat} {fv : List Ft} {w : World} (h : RWalkS t pe pb pf ce cb cf fv w) (hi : ¬ 0 < fv.length) : t.fs = [] := by
  have := h.len; exact List.length_eq_zero_iff.1 (by omega)
set_option maxRecDepth 100000 in
set_option maxHeartbeats 1000000 in
theorem ref14_WholeP (B bm : Nat) (p : Option Addr) (k c : Nat) (l : List UInt8) (root tree fuel : Int) (w : World) (hfu : fuel ≤ 1000) (hI : RefI B bm p k c l w) :
    Calls Tryz.prog 14 #[.pointer (some ⟨bm, 0, none⟩), .int .i64 root, .int .i64 tree, .int .i64 fuel] w (RWholeP (scanW l root tree fuel) w) := by
 refine zin 27 Tryz.func14 ?_
 refine xa 2 [.slice none 0 0, .slice none 0 0, .int .i64 0, .int .i64 0, .slice none 0 0] 35 fun b1 W1 n1 => ?_
 refine xa 0 [.slice none 0 0, .int .i64 0] 45 fun b2 W2 n2 => ?_
 have hB := Bl.next n1.below n2.below
 have hsz := hB.size
 have hltF := n2.blk.lt
 refine xc 8 (args := #[.pointer (some ⟨bm, 0, none⟩), .int .i64 root, .int .i64 tree, .int .i64 fuel]) ((ref14_Scan B bm p k c l root tree fuel _ (hI.below hB) hfu).mono (fun _ _ h => RScanP.s h)) ?_
 rintro _ W3 ⟨pe, pb, pf, ce, cb, cf, fv, rfl, hb3, hQ0⟩
 have hsF : ∀ j, (Value.slice pf fv.length cf).ownBlock = some j → j ≠ b2 := fun j hj => by have q := (hQ0.flts.lt j hj).1; omega
 have hQ := hQ0.mono hsz
 refine xa 0 [.slice none 0 0, .slice none 0 0, .int .i64 0, .int .i64 0, .slice none 0 0] 35 fun b4 W4 n4 => ?_
 have k1 := (n1.blk.below n2.below).below hb3
 have d4_b1 := n4.ne k1
 have hB'1 := Bl.next hB hb3
 have g4 := n4.ge hB'1
 refine xsv 0 n4.blk [.slice pe ((scanW l root tree fuel).es.length) ce, .slice pb ((scanW l root tree fuel).bs.length) cb, .int .i64 ((scanW l root tree fuel).deep), .int .i64 (↑(scanW l root tree fuel).looked : Int), .slice pf fv.length cf] fun W5 u5 k5 => ?_
 refine xb 6 4 k5 ?_
 refine xid 4 ((↑fv.length : Int) > (0 : Int)) (fun hc6 => ?_) (fun hc6 => ?_)
 · refine xd 1 (.t w.heap.size [35, 45]) ?_
   refine xm2 (.b [0, 1]) 2 5 ?_ ?_
   · have k5'1 := k5.below (below_drew W5)
     refine xb 0 4 k5'1 ?_
     have hQ'1 := ((hQ.below n4.below).only (Only.of_upd (T := [35]) u5 n4.blk (by decide)) (by decide)).below (below_drew W5)
     refine xx (.e [] 3) _ fv.length 0 2 (Sts.cell (own_sl hQ'1.flts) fltC_len ft0 (k := 0) (i := 0) (by omega) rfl).1 ?_
     refine xm2 0 4 5 ?_ ?_
     · refine xlv 0 (Sts.rp (k := 0) (own_sl hQ'1.flts) fltC_len ft0 (by omega) (by decide)) ?_
       have k1'1 := (u5.blk (k1.below n4.below) (Ne.symm (Ne.symm d4_b1))).below (below_drew W5)
       have g1 := n1.ge (Below.refl w.heap.size _)
       refine ysv (.o [] 5) k1'1 [.slice none 0 0, .slice none 0 0, .int .i64 0, .int .i64 0, .slice none 0 0] (.t w.heap.size [35, 45]) fun W7 u7 k7 => ⟨(sft_upd u7 k1'1 g1 (by decide)), ?_⟩
       have k2'1 := u7.blkT ((u5.blkT ((n2.blk.below hb3).below n4.below) n4.blk (by decide)).below (below_drew W5)) k1'1 (by decide)
       have g2 := n2.ge n1.below
       refine ysv (.o [] 6) k2'1 [.slice ((fv.getD 0 ft0).fa) ((fv.getD 0 ft0).bl.length) ((fv.getD 0 ft0).fc), .int .i64 ((fv.getD 0 ft0).c)] (.t w.heap.size [35, 45]) fun W8 u8 k8 => ⟨(sft_upd u8 k2'1 g2 (by decide)), ?_⟩
       have hQ'2 := (hQ'1.only (Only.of_upd (T := [35]) u7 k1'1 (by decide)) (by decide)).updF u8 k2'1 hsF
       have hB'2 := u8.below (u7.below (Bl.next (u5.below (Bl.next hB'1 n4.below) g4) (below_drew W5)) g1) g2
       have k7'1 := u8.blkT k7 k2'1 (by decide)
       refine xecm 4 [(b1, [.slice none 0 0, .slice none 0 0, .int .i64 0, .int .i64 0, .slice none 0 0]), (b2, [.slice ((fv.getD 0 ft0).fa) ((fv.getD 0 ft0).bl.length) ((fv.getD 0 ft0).fc), .int .i64 ((fv.getD 0 ft0).c)])] ⟨⟨_, k7'1⟩, ⟨_, k8⟩, trivial⟩ (.tuple #[.agg #[.slice none 0 0, .slice none 0 0, .int .i64 0, .int .i64 0, .slice none 0 0], .agg #[.slice ((fv.getD 0 ft0).fa) ((fv.getD 0 ft0).bl.length) ((fv.getD 0 ft0).fc), .int .i64 ((fv.getD 0 ft0).c)]]) ?_
       obtain ⟨hf1, hz⟩ := hQ'2.s.first (by omega)
       refine ⟨_, none, none, none, 0, 0, 0, [], _, _, rfl, by rw [(whole_bad hz).1, hf1]; rfl, hB'2, by rw [(whole_bad hz).1]; exact RWalkV.zero _ _, ?_⟩
       rw [hf1]
       exact hQ'2.kept (fv.getD 0 ft0) (getD_in (by omega))
     have k1'2 := (u5.blk (k1.below n4.below) (Ne.symm (Ne.symm d4_b1))).below (below_drew W5)
     have g1 := n1.ge (Below.refl w.heap.size _)
     refine ysv 0 k1'2 [.slice none 0 0, .slice none 0 0, .int .i64 0, .int .i64 0, .slice none 0 0] (.t w.heap.size [35, 45]) fun W9 u9 k9 => ⟨(sft_upd u9 k1'2 g1 (by decide)), ?_⟩
     have hQ'3 := hQ'1.only (Only.of_upd (T := [35]) u9 k1'2 (by decide)) (by decide)
     refine xlv (.o [] 4) (Sts.rp (k := 0) (own_sl hQ'3.flts) fltC_len ft0 (by omega) (by decide)) ?_
     have k2'2 := u9.blkT ((u5.blkT ((n2.blk.below hb3).below n4.below) n4.blk (by decide)).below (below_drew W5)) k1'2 (by decide)
     have g2 := n2.ge n1.below
     refine ysv (.o [] 6) k2'2 [.slice ((fv.getD 0 ft0).fa) ((fv.getD 0 ft0).bl.length) ((fv.getD 0 ft0).fc), .int .i64 ((fv.getD 0 ft0).c)] (.t w.heap.size [35, 45]) fun W10 u10 k10 => ⟨(sft_upd u10 k2'2 g2 (by decide)), ?_⟩
     have hQ'4 := hQ'3.updF u10 k2'2 hsF
     have hB'3 := u10.below (u9.below (Bl.next (u5.below (Bl.next hB'1 n4.below) g4) (below_drew W5)) g1) g2
     have k9'1 := u10.blkT k9 k2'2 (by decide)
     refine xecm 4 [(b1, [.slice none 0 0, .slice none 0 0, .int .i64 0, .int .i64 0, .slice none 0 0]), (b2, [.slice ((fv.getD 0 ft0).fa) ((fv.getD 0 ft0).bl.length) ((fv.getD 0 ft0).fc), .int .i64 ((fv.getD 0 ft0).c)])] ⟨⟨_, k9'1⟩, ⟨_, k10⟩, trivial⟩ (.tuple #[.agg #[.slice none 0 0, .slice none 0 0, .int .i64 0, .int .i64 0, .slice none 0 0], .agg #[.slice ((fv.getD 0 ft0).fa) ((fv.getD 0 ft0).bl.length) ((fv.getD 0 ft0).fc), .int .i64 ((fv.getD 0 ft0).c)]]) ?_
     obtain ⟨hf1, hz⟩ := hQ'4.s.first (by omega)
     refine ⟨_, none, none, none, 0, 0, 0, [], _, _, rfl, by rw [(whole_bad hz).1, hf1]; rfl, hB'3, by rw [(whole_bad hz).1]; exact RWalkV.zero _ _, ?_⟩
     rw [hf1]
     exact hQ'4.kept (fv.getD 0 ft0) (getD_in (by omega))
   have k1'3 := (u5.blk (k1.below n4.below) (Ne.symm (Ne.symm d4_b1))).below (below_drew W5)
   have g1 := n1.ge (Below.refl w.heap.size _)
   refine ysv 0 k1'3 [.slice none 0 0, .slice none 0 0, .int .i64 0, .int .i64 0, .slice none 0 0] (.t w.heap.size [35, 45]) fun W11 u11 k11 => ⟨(sft_upd u11 k1'3 g1 (by decide)), ?_⟩
   have k5'2 := u11.blk (k5.below (below_drew W5)) (Ne.symm d4_b1)
   refine xb (.o [] 2) 4 k5'2 ?_
   have hQ'5 := (((hQ.below n4.below).only (Only.of_upd (T := [35]) u5 n4.blk (by decide)) (by decide)).below (below_drew W5)).only (Only.of_upd (T := [35]) u11 k1'3 (by decide)) (by decide)
   refine xx (.e [] 3) _ fv.length 0 2 (Sts.cell (own_sl hQ'5.flts) fltC_len ft0 (k := 0) (i := 0) (by omega) rfl).1 ?_
   refine xlv (.o [] 4) (Sts.rp (k := 0) (own_sl hQ'5.flts) fltC_len ft0 (by omega) (by decide)) ?_
   have k2'3 := u11.blkT ((u5.blkT ((n2.blk.below hb3).below n4.below) n4.blk (by decide)).below (below_drew W5)) k1'3 (by decide)
   have g2 := n2.ge n1.below
   refine ysv (.o [] 6) k2'3 [.slice ((fv.getD 0 ft0).fa) ((fv.getD 0 ft0).bl.length) ((fv.getD 0 ft0).fc), .int .i64 ((fv.getD 0 ft0).c)] (.t w.heap.size [35, 45]) fun W12 u12 k12 => ⟨(sft_upd u12 k2'3 g2 (by decide)), ?_⟩
   have hQ'6 := hQ'5.updF u12 k2'3 hsF
   have hB'4 := u12.below (u11.below (Bl.next (u5.below (Bl.next hB'1 n4.below) g4) (below_drew W5)) g1) g2
   have k11'1 := u12.blkT k11 k2'3 (by decide)
   refine xecm 4 [(b1, [.slice none 0 0, .slice none 0 0, .int .i64 0, .int .i64 0, .slice none 0 0]), (b2, [.slice ((fv.getD 0 ft0).fa) ((fv.getD 0 ft0).bl.length) ((fv.getD 0 ft0).fc), .int .i64 ((fv.getD 0 ft0).c)])] ⟨⟨_, k11'1⟩, ⟨_, k12⟩, trivial⟩ (.tuple #[.agg #[.slice none 0 0, .slice none 0 0, .int .i64 0, .int .i64 0, .slice none 0 0], .agg #[.slice ((fv.getD 0 ft0).fa) ((fv.getD 0 ft0).bl.length) ((fv.getD 0 ft0).fc), .int .i64 ((fv.getD 0 ft0).c)]]) ?_
   obtain ⟨hf1, hz⟩ := hQ'6.s.first (by omega)
   refine ⟨_, none, none, none, 0, 0, 0, [], _, _, rfl, by rw [(whole_bad hz).1, hf1]; rfl, hB'4, by rw [(whole_bad hz).1]; exact RWalkV.zero _ _, ?_⟩
   rw [hf1]
   exact hQ'6.kept (fv.getD 0 ft0) (getD_in (by omega))
 refine xlv 4 k5.rp ?_
 have k1'4 := u5.blk (k1.below n4.below) (Ne.symm (Ne.symm d4_b1))
 refine xsv 1 k1'4 [.slice pe ((scanW l root tree fuel).es.length) ce, .slice pb ((scanW l root tree fuel).bs.length) cb, .int .i64 ((scanW l root tree fuel).deep), .int .i64 (↑(scanW l root tree fuel).looked : Int), .slice pf fv.length cf] fun W13 u13 k13 => ?_
 have g1 := n1.ge (Below.refl w.heap.size _)
 have k2'4 := u13.blkT (u5.blkT ((n2.blk.below hb3).below n4.below) n4.blk (by decide)) k1'4 (by decide)
 refine xsv 0 k2'4 [.slice none 0 0, .int .i64 0] fun W14 u14 k14 => ?_
 have g2 := n2.ge n1.below
 have hQ'7 := (((hQ.below n4.below).only (Only.of_upd (T := [35]) u5 n4.blk (by decide)) (by decide)).only (Only.of_upd (T := [35]) u13 k1'4 (by decide)) (by decide)).updF u14 k2'4 hsF
 have hB'5 := u14.below (u13.below (u5.below (Bl.next hB'1 n4.below) g4) g1) g2
 have k13'1 := u14.blkT k13 k2'4 (by decide)
 refine xecm 3 [(b1, [.slice pe ((scanW l root tree fuel).es.length) ce, .slice pb ((scanW l root tree fuel).bs.length) cb, .int .i64 ((scanW l root tree fuel).deep), .int .i64 (↑(scanW l root tree fuel).looked : Int), .slice pf fv.length cf]), (b2, [.slice none 0 0, .int .i64 0])] ⟨⟨_, k13'1⟩, ⟨_, k14⟩, trivial⟩ (.tuple #[.agg #[.slice pe ((scanW l root tree fuel).es.length) ce, .slice pb ((scanW l root tree fuel).bs.length) cb, .int .i64 ((scanW l root tree fuel).deep), .int .i64 (↑(scanW l root tree fuel).looked : Int), .slice pf fv.length cf], .agg #[.slice none 0 0, .int .i64 0]]) ?_
 have hz := hQ'7.s.none (by omega)
 exact ⟨_, pe, pb, pf, ce, cb, cf, fv, none, 0, rfl, by rw [(whole_ok hz).1, (whole_ok hz).2.1]; rfl, hB'5, by rw [(whole_ok hz).1]; exact hQ'7, by rw [(whole_ok hz).2.1]; exact World.ownsRow_nil _ _ _ _⟩
theorem ref_OfM (a : Option Addr) (c n k : Nat) (l : List UInt8) (w : World) (hn : l.length = n) (hk : min (n / 256) 14400 = k) (h : Bys w (.slice a n c) l) (hl : n ≤ 100000000) :
    Calls Tryz.prog 12 #[.slice a n c] w (RetS (fun w' r => ∃ bm p c2, r = .pointer (some ⟨bm, 0, none⟩) ∧ w.heap.size ≤ bm ∧ RefI w.heap.size bm p k c2 (l.take (k * 256)) w') w) := by
  subst hn hk; exact ref_Of a c l w h hl
set_option maxRecDepth 100000 in
set_option maxHeartbeats 4000000 in
theorem walkScans_law (a : Option Addr) (c : Nat) (l : List UInt8) (root tree fuel : Int) (w : World) (h : Bys w (.slice a l.length c) l) (hg : ErrT w) :
    Calls Tryz.prog 3 #[.slice a l.length c, .int .i64 root, .int .i64 tree, .int .i64 fuel] w (Ret (.bool true) w) := by
 have hcap := h.cap rfl
 obtain ⟨f2, hf2, hf3⟩ : ∃ x, (if (300 : Int) < fuel then (300 : Int) else fuel) = x ∧ x ≤ 300 := ⟨_, rfl, by split <;> omega⟩
 refine zin 31 Tryz.func3 ?_
 refine xid 13 ((↑l.length : Int) > (12000 : Int)) (fun hc1 => ?_) (fun hc1 => ?_)
 · refine xr 2 (args := #[]) (lives14 _) fun W2 hb2 => ?_
   exact xe 5 (.bool true) ⟨rfl, hb2⟩
 refine xq 5 (congrArg (Value.int .i64) (show (if (300 : Int) < fuel then (300 : Int) else fuel : Int) = f2 from hf2)) ?_
 have hs8 : w.heap.size ≤ (w).heap.size := (Below.refl w.heap.size _).size
 refine xc 6 (args := #[.slice a l.length c]) (image_OfR a c l.length ((l.length / 256) * 256) l _ rfl (by omega) (h.below (Below.refl w.heap.size _)) (by omega) hcap) ?_
 rintro _ W3 ⟨_, rfl, hb3, bi, pi, ci, rfl, _, hI⟩
 refine xc 3 (args := #[.pointer (some ⟨bi, 0, none⟩), .int .i64 root, .int .i64 tree, .int .i64 f2]) (walk_Scan _ bi pi _ ci (l.take ((l.length / 256) * 256)) root tree f2 _ (by omega) hI) ?_
 rintro _ W4 ⟨pe, pb, pf, ce, cb, cf, fv, rfl, hb4, hW0⟩
 have hP := hW0
 have hB := Bl.next hb3 hb4
 refine xc 1 (args := #[.slice a l.length c]) (ref_OfM a c l.length (l.length / 256) l _ rfl (by omega) (h.below hB) (by omega)) ?_
 rintro _ W5 ⟨_, rfl, hb5, bj, pj, cj, rfl, _, hJ⟩
 refine xc 3 (args := #[.pointer (some ⟨bj, 0, none⟩), .int .i64 root, .int .i64 tree, .int .i64 f2]) ((ref14_Scan _ bj pj _ cj (l.take ((l.length / 256) * 256)) root tree f2 _ hJ (by omega)).mono (fun _ _ h => RScanP.s h)) ?_
 rintro _ W6 ⟨pe2, pb2, pf2, ce2, cb2, cf2, fv2, rfl, hb6, hQ⟩
 have hB'1 := Bl.next (Bl.next hB hb5) hb6
 have hP'1 := (hP.below hb5).below hb6
 refine xr 0 (args := #[.agg #[.slice pe ((scanW (l.take ((l.length / 256) * 256)) root tree f2).es.length) ce, .slice pb ((scanW (l.take ((l.length / 256) * 256)) root tree f2).bs.length) cb, .int .i64 ((scanW (l.take ((l.length / 256) * 256)) root tree f2).deep), .int .i64 (↑(scanW (l.take ((l.length / 256) * 256)) root tree f2).looked : Int), .slice pf ((scanW (l.take ((l.length / 256) * 256)) root tree f2).fs.length) cf], .agg #[.slice pe2 ((scanW (l.take ((l.length / 256) * 256)) root tree f2).es.length) ce2, .slice pb2 ((scanW (l.take ((l.length / 256) * 256)) root tree f2).bs.length) cb2, .int .i64 ((scanW (l.take ((l.length / 256) * 256)) root tree f2).deep), .int .i64 (↑(scanW (l.take ((l.length / 256) * 256)) root tree f2).looked : Int), .slice pf2 fv2.length cf2]]) (law14_same (scanW (l.take ((l.length / 256) * 256)) root tree f2) pe pb pf pe2 pb2 pf2 ce cb cf ce2 cb2 cf2 fv fv2 _ (hg.below hB'1) (fun f hf => Nat.le_trans (scanW_len _ _ _ _ f hf) (by decide)) hP'1.s hQ.s) fun W7 hb7 => ?_
 refine xr 1 (args := #[]) (lives14 _) fun W8 hb8 => ?_
 have hB'2 := Bl.next (Bl.next hB'1 hb7) hb8
 exact xe 5 (.bool true) ⟨rfl, hB'2⟩
theorem wholeT_len {l : List UInt8} {root tree fuel : Int} : ∀ f ∈ (wholeT (scanW l root tree fuel)).fs, f.1.length ≤ 1000000 := by
  unfold wholeT; split
  · exact fun f hf => Nat.le_trans (scanW_len _ _ _ _ f hf) (by decide)
  · intro f hf; cases hf
theorem eL_len {l : List UInt8} {root tree fuel : Int} : (eL (scanW l root tree fuel)).length ≤ 1000000 := by
  unfold eL; split
  · exact Nat.zero_le _
  · rename_i h
    rw [List.length_map]
    exact Nat.le_trans (scanW_len l root tree fuel _ (getD_in (List.length_pos_iff.2 h))) (by decide)
theorem told_eL (S : WS) (v : Value) (w : World) (hlen : (eL S).length ≤ 1000000) (hg : ErrT w) (hv : ErrV w (eL S) (eT S) v) :
    Calls Tryz.prog 16 #[v] w (fun e w' => ∃ a c, e = .returned (.agg #[.slice a (wholeF S).1.length c, .int .i64 (wholeF S).2]) ∧ Below w.heap.size w w' ∧ Ints w' (.slice a (wholeF S).1.length c) (wholeF S).1) := by
  refine (law05_Told (eT S) (eL S) v w hlen hg hv).mono ?_
  rw [code_eL, blocks_eL]
  rintro e W ⟨_, rfl, hb, s, rfl, hs⟩
  obtain ⟨a, c, rfl⟩ := hs.slice
  exact ⟨a, c, rfl, hb, hs⟩
set_option maxRecDepth 100000 in
set_option maxHeartbeats 4000000 in
theorem walkWhole_law (a : Option Addr) (c : Nat) (l : List UInt8) (root tree fuel : Int) (w : World) (h : Bys w (.slice a l.length c) l) (hg : ErrT w) :
    Calls Tryz.prog 4 #[.slice a l.length c, .int .i64 root, .int .i64 tree, .int .i64 fuel] w (Ret (.bool true) w) := by
 have hcap := h.cap rfl
 obtain ⟨f2, hf2, hf3⟩ : ∃ x, (if (300 : Int) < fuel then (300 : Int) else fuel) = x ∧ x ≤ 300 := ⟨_, rfl, by split <;> omega⟩
 refine zin 49 Tryz.func4 ?_
 refine xid 13 ((↑l.length : Int) > (12000 : Int)) (fun hc1 => ?_) (fun hc1 => ?_)
 · refine xr 2 (args := #[]) (lives14 _) fun W2 hb2 => ?_
   exact xe 5 (.bool true) ⟨rfl, hb2⟩
 refine xq 5 (congrArg (Value.int .i64) (show (if (300 : Int) < fuel then (300 : Int) else fuel : Int) = f2 from hf2)) ?_
 have hs8 : w.heap.size ≤ (w).heap.size := (Below.refl w.heap.size _).size
 refine xc 6 (args := #[.slice a l.length c]) (image_OfR a c l.length ((l.length / 256) * 256) l _ rfl (by omega) (h.below (Below.refl w.heap.size _)) (by omega) hcap) ?_
 rintro _ W3 ⟨_, rfl, hb3, bi, pi, ci, rfl, _, hI⟩
 refine xc 3 (args := #[.pointer (some ⟨bi, 0, none⟩), .int .i64 root, .int .i64 tree, .int .i64 f2]) (walk_WholeP _ bi pi _ ci (l.take ((l.length / 256) * 256)) root tree f2 _ (by omega) hI) ?_
 rintro _ W4 ⟨tw, pe, pb, pf, ce, cb, cf, fv, ve, htw, rfl, hb4, hP, hV⟩
 refine xa 3 [.slice none 0 0, .slice none 0 0, .int .i64 0, .int .i64 0, .slice none 0 0] 29 fun b5 W5 n5 => ?_
 refine xsv 0 n5.blk [.slice pe tw.es.length ce, .slice pb tw.bs.length cb, .int .i64 tw.deep, .int .i64 (↑tw.looked : Int), .slice pf tw.fs.length cf] fun W6 u6 k6 => ?_
 have g5 := n5.ge (Bl.next hb3 hb4)
 have hB := u6.below (Bl.next (Bl.next hb3 hb4) n5.below) g5
 refine xc 6 (args := #[.slice a l.length c]) (ref_OfM a c l.length (l.length / 256) l _ rfl (by omega) (h.below hB) (by omega)) ?_
 rintro _ W7 ⟨_, rfl, hb7, bj, pj, cj, rfl, _, hJ⟩
 refine xc 3 (args := #[.pointer (some ⟨bj, 0, none⟩), .int .i64 root, .int .i64 tree, .int .i64 f2]) (ref14_WholeP _ bj pj _ cj (l.take ((l.length / 256) * 256)) root tree f2 _ (by omega) hJ) ?_
 rintro _ W8 ⟨tw2, pe2, pb2, pf2, ce2, cb2, cf2, fv2, a7, c7, htw2, rfl, hb8, hQ0, hF⟩
 obtain rfl : tw = tw2 := htw.trans htw2.symm
 have hQ := hQ0
 refine xa 3 [.slice none 0 0, .slice none 0 0, .int .i64 0, .int .i64 0, .slice none 0 0] 35 fun b9 W9 n9 => ?_
 have hB'1 := Bl.next (Bl.next hB hb7) hb8
 have g9 := n9.ge hB'1
 refine xa 0 [.slice none 0 0, .int .i64 0] 45 fun b10 W10 n10 => ?_
 have hB'2 := Bl.next hB'1 n9.below
 have g10 := n10.ge hB'2
 have k9 := n9.blk.below n10.below
 refine xsv 0 k9 [.slice pe2 tw.es.length ce2, .slice pb2 tw.bs.length cb2, .int .i64 tw.deep, .int .i64 (↑tw.looked : Int), .slice pf2 fv2.length cf2] fun W11 u11 k11 => ?_
 have k10 := u11.blkT n10.blk k9 (by decide)
 refine xsv 0 k10 [.slice a7 ((wholeF (scanW (l.take ((l.length / 256) * 256)) root tree f2)).1.length) c7, .int .i64 ((wholeF (scanW (l.take ((l.length / 256) * 256)) root tree f2)).2)] fun W12 u12 k12 => ?_
 refine xd 3 .z ?_
 have k6'1 := (u12.blkT (u11.blkT ((((k6.below hb7).below hb8).below n9.below).below n10.below) k9 (by decide)) k10 (by decide)).below (below_drew W12)
 refine xlv (.e [] 0) k6'1.rp ?_
 have k11'1 := (u12.blkT k11 k10 (by decide)).below (below_drew W12)
 refine xlv (.e [] 1) k11'1.rp ?_
 have hB'3 := Bl.next (u12.below (u11.below (Bl.next hB'2 n10.below) g9) g10) (below_drew W12)
 have hP'1 := ((((((((hP.below n5.below).only (Only.of_upd (T := [29]) u6 n5.blk (by decide)) (by decide)).below hb7).below hb8).below n9.below).below n10.below).only (Only.of_upd (T := [35]) u11 k9 (by decide)) (by decide)).only (Only.of_upd (T := [45]) u12 k10 (by decide)) (by decide)).below (below_drew W12)
 have hQ'1 := ((((hQ.below n9.below).below n10.below).only (Only.of_upd (T := [35]) u11 k9 (by decide)) (by decide)).updF u12 k10 (fun j hj => by have q := (hQ0.flts.lt j hj).2; have r1 := n10.at_; have r2 := n9.size; omega)).below (below_drew W12)
 refine xr (.o [] 2) (args := #[.agg #[.slice pe tw.es.length ce, .slice pb tw.bs.length cb, .int .i64 tw.deep, .int .i64 (↑tw.looked : Int), .slice pf tw.fs.length cf], .agg #[.slice pe2 tw.es.length ce2, .slice pb2 tw.bs.length cb2, .int .i64 tw.deep, .int .i64 (↑tw.looked : Int), .slice pf2 fv2.length cf2]]) (law14_same tw pe pb pf pe2 pb2 pf2 ce cb cf ce2 cb2 cf2 fv fv2 _ (hg.below hB'3) (by rw [htw]; exact wholeT_len) hP'1.s hQ'1.s) fun W13 hb13 => ?_
 have k12'1 := (k12.below (below_drew W12)).below hb13
 refine xlv (.e [3, 4] 6) k12'1.rp ?_
 have hB'4 := Bl.next hB'3 hb13
 have hV'1 := (((((((((hV.below n5.below).upd u6 n5.blk (by decide)).below hb7).below hb8).below n9.below).below n10.below).upd u11 k9 (by decide)).upd u12 k10 (by decide)).below (below_drew W12)).below hb13
 refine yc (.o [] 5) (args := #[ve]) .z (told_eL (scanW (l.take ((l.length / 256) * 256)) root tree f2) ve _ eL_len (hg.below hB'4) hV'1) ?_
 rintro _ W14 ⟨at_, ct, rfl, hb14, hT⟩
 refine ⟨hb14, ?_⟩
 have hF'1 := ((((((hF.below n9.below).below n10.below).only (Only.of_upd (T := [35]) u11 k9 (by decide)) (by decide)).only (Only.of_upd (T := [45]) u12 k10 (by decide)) (by decide)).below (below_drew W12)).below hb13).below hb14
 refine xr (.o [] 7) (args := #[.agg #[.slice at_ ((wholeF (scanW (l.take ((l.length / 256) * 256)) root tree f2)).1.length) ct, .int .i64 ((wholeF (scanW (l.take ((l.length / 256) * 256)) root tree f2)).2)], .agg #[.slice a7 ((wholeF (scanW (l.take ((l.length / 256) * 256)) root tree f2)).1.length) c7, .int .i64 ((wholeF (scanW (l.take ((l.length / 256) * 256)) root tree f2)).2)]]) (ref05_Same (wholeF (scanW (l.take ((l.length / 256) * 256)) root tree f2)).1 (wholeF (scanW (l.take ((l.length / 256) * 256)) root tree f2)).2 _ _ _ ⟨_, rfl, hT⟩ ⟨_, rfl, hF'1.ints⟩) fun W15 hb15 => ?_
 refine xr (.o [8, 9] 10) (args := #[]) (lives14 _) fun W16 hb16 => ?_
 have hB'5 := Bl.next (Bl.next (Bl.next hB'4 hb14) hb15) hb16
 exact xe (.r [11, 12] 3) (.bool true) ⟨rfl, hB'5⟩
end Go.Proofs.YtinegkldgjhnpaaGreatDoor
namespace Go.Proofs.YtinegkldgjhnpaaGreatDoor
open Go.ChangeShapes Go.WideShapes Go.ChangeAt Go.RowKit Go.Joins
set_option linter.unusedVariables false
theorem bytes_open {H : Type} {enc : TypeId × Value → H} {P : Program} {W : World} {r : Reach} {b0 : Nat} {t e : TypeId} {v : Value} {d : DataW H} {p : List MemPlace} (ht : P.underlying t = some (.slice e)) (he : P.underlying e = some (.int .u8)) (hC : P.cellsOf e = 1)
    (hv : Value.okWide P W r b0 t v) (h : DataW.Trod enc P W 0 (fun _ => true) true t v d p) : ∃ l, Bys W v l := by
  obtain ⟨a, len, cap, rfl⟩ := okWide_slice ht hv
  obtain ⟨fuel, hf⟩ := h
  rcases open_ints ht he hC hf with ⟨hcs, _⟩ | ⟨x, l, c, zs, hcs, _, hl, hm, hz, _, hcell, hwz⟩
  · simp [Value.cells] at hcs
    obtain ⟨rfl, rfl, rfl⟩ := hcs
    exact ⟨[], .inl ⟨_, _, rfl, rfl, rfl⟩⟩
  · simp [Value.cells] at hcs
    obtain ⟨rfl, rfl, rfl⟩ := hcs
    have hz' : zs.length = cap := by simpa using hz
    by_cases h0 : len = 0
    · subst h0
      exact ⟨[], .inl ⟨_, _, rfl, rfl, rfl⟩⟩
    · obtain ⟨b, off, spot⟩ := x
      have hc := hcell 0 (by omega)
      have hspot : spot = none := by simpa [Addr.add] using World.cell?_spot hc
      subst hspot
      have hlen : ((zs.take len).map fun n => UInt8.ofNat n.toNat).length = len := by simp; omega
      refine ⟨(zs.take len).map fun n => UInt8.ofNat n.toNat, .inr ⟨b, off, cap, by rw [hlen], by omega, hm, fun j x hj => ?_⟩⟩
      have hjl : j < len := by have := (List.getElem?_eq_some_iff.1 hj).1; simp at this; omega
      have e1 : zs[j]? = some zs[j] := List.getElem?_eq_getElem (by omega)
      have hw := hwz zs[j] (List.getElem_mem _)
      have hcj := hcell j (by omega)
      have e2 : zs.getD j 0 = zs[j] := by simp [List.getD, e1]
      rw [e2] at hcj
      have hx : x = .int .u8 zs[j] := by
        rw [List.getElem?_map, List.getElem?_map, List.getElem?_take_of_lt hjl, e1] at hj
        simp only [Option.map_some, Option.some.injEq] at hj
        rw [← hj]
        have hb : 0 ≤ zs[j] ∧ zs[j] ≤ 255 := by simpa [Lit.wf, IntKind.min, IntKind.max, IntKind.signed, IntKind.bits] using hw
        have h3 : (zs[j].toNat % 256 : Nat) = zs[j].toNat := Nat.mod_eq_of_lt (by omega)
        simp only [bv, UInt8.toNat_ofNat']
        rw [show (2 ^ 8 : Nat) = 256 from rfl, h3, Int.toNat_of_nonneg hb.1]
      subst hx
      by_cases hj0 : j = 0
      · subst hj0; simpa [Addr.add] using hcj
      · simpa [Addr.add, hj0] using hcj
end Go.Proofs.YtinegkldgjhnpaaGreatDoor
