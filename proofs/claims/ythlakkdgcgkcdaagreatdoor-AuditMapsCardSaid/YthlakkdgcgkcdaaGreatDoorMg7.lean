/- The document's answer for layer 23: Data and Meta, whatever the bytes. audit.Of, and scantlingref28.Damage and Of, as contracts. scantlingref28.Same: two slices of damages are compared one by one. block.read and block.Super at an image of no bytes, audit.Super there, and the lives of law 28. Counts of package audit and of scantlingref28, and the law AuditCounts. audit.Data and audit.Meta, the document's, and the statement AuditMaps, walked. How a slice of bytes that came in reads: as a list of bytes. A super as a law's argument: eleven ints. -/
import Derived.Lib.SmallJoins
import Derived.Test.YthlakkdgcgkcdaaGreatDoorMg6
namespace Go.Proofs.YthlakkdgcgkcdaaGreatDoor
open Go.RowKit Go.Extern.Stop Go.Stop Go.Extern
set_option linter.unusedVariables false
attribute [local irreducible] wpList wpAnyH Code.wp Oper.wp Go

theorem plcE_at {es : List Ent} {i : Nat} (hi : i < es.length) : (es.map plcE).getD i plc0 = plcE (es.getD i entD) := by simp [List.getD, hi]
theorem plcS_at {sl : List (Nat × Nat × Nat)} {i : Nat} {at0 : Int} (hi : i < sl.length) : (sl.map (plcS at0)).getD i plc0 = plcS at0 (sl.getD i sl0) := by simp [List.getD, hi]
theorem ref23_oneI (B bm : Nat) (p : Option Addr) (k c : Nat) (l : List UInt8) (X : List Plc) (n : Int) (i : Nat) (x : Plc) (w : World) (hI : RefI B bm p k c l w) (hx : X.getD i plc0 = x) (h0 : x.2.2 = 0) (hw : 1 ≤ wantI n i) :
    Calls Tryz.prog 38 #[.pointer (some ⟨bm, 0, none⟩), .agg #[.int .i64 (x.1.1 : Int), .int .i64 (x.1.2.1 : Int), .int .i64 (x.1.2.2 : Int)], .int .i64 x.2.1, .int .i64 (wantI n i)] w (fun e w' =>
      ((oneI l X n i).2.1 ≠ 0 ∧ ∃ p c a c2, e = .returned (.tuple #[.slice p 0 c, .agg #[.slice a (oneI l X n i).1.length c2, .int .i64 (oneI l X n i).2.1]]) ∧ Below w.heap.size w w' ∧ w'.ownsRow w.heap.size 3 1 (.slice a (oneI l X n i).1.length c2) (oneI l X n i).1.length ((oneI l X n i).1.map (Value.int .i64))) ∨
      ((oneI l X n i).2.1 = 0 ∧ ∃ g c a c2, e = .returned (.tuple #[.slice (some ⟨g, 0, none⟩) (bitR l ((X.getD i plc0).1.1 : Int)).length c, .agg #[.slice a 0 c2, .int .i64 0]]) ∧ Below w.heap.size w w' ∧ w'.ownsRow w.heap.size 3 1 (.slice (some ⟨g, 0, none⟩) (bitR l ((X.getD i plc0).1.1 : Int)).length c) (bitR l ((X.getD i plc0).1.1 : Int)).length ((bitR l ((X.getD i plc0).1.1 : Int)).map (Value.int .i64)))) := by
  subst hx
  refine (ref23_one B bm p k c l (X.getD i plc0) _ (wantI n i) w hI rfl h0).mono ?_
  rintro e W q
  rcases q with ⟨h, p, c, a, c2, rfl, hb, ho⟩ | ⟨h, p, c, a, c2, rfl, hb, ho⟩
  · exact .inl ⟨h, p, c, a, c2, rfl, hb, ho⟩
  · obtain ⟨h1, h2⟩ := oneO_ok h
    rw [h1] at ho ⊢
    obtain ⟨g, rfl, _⟩ := own_someN ho (by show 0 < (bitR l ((X.getD i plc0).1.1 : Int)).length; omega)
    exact .inr ⟨h, g, c, a, c2, rfl, hb, ho⟩
theorem ref23_restN (m : Nat) (B bm : Nat) (p : Option Addr) (k c : Nat) (l : List UInt8) (B2 : Nat) (pl : Option Addr) (cl : Nat) (gs : List (Nat × Nat)) (L : List (List Int)) (over fuel : Int) (w : World) (hm : L.length = m) (hI : RefI B bm p k c l w) (hL : Lists w B2 (.slice pl L.length cl) gs L) (hF : FormOk L) (hl : L.length ≤ 1200000000) (hfu : fuel ≤ 1000) :
    Calls Tryz.prog 40 #[.pointer (some ⟨bm, 0, none⟩), .slice pl m cl, .int .i64 over, .int .i64 fuel] w (ROutP (restO l L over fuel) w) := by
  subst hm; exact ref23_rest B bm p k c l B2 pl cl gs L over fuel w hI hL hF hl hfu
theorem oneI_e {l : List UInt8} {X : List Plc} {n : Int} {i : Nat} {x : Plc} (hx : X.getD i plc0 = x) (h : x.2.2 ≠ 0) : oneI l X n i = ([x.2.1], x.2.2, []) := by unfold oneI oneO; rw [hx, if_pos h]
set_option maxRecDepth 100000 in
set_option maxHeartbeats 8000000 in
theorem ref23_Data (B bm : Nat) (p : Option Addr) (k c : Nat) (l : List UInt8) (index over n fuel : Int) (w : World) (hI : RefI B bm p k c l w) (hn : n ≤ 1099511627776) (hfu : fuel ≤ 1000) :
    Calls Tryz.prog 17 #[.pointer (some ⟨bm, 0, none⟩), .int .i64 index, .int .i64 over, .int .i64 n, .int .i64 fuel] w (ROutP (dataO l index over n fuel) w) := by
 refine zin 111 Tryz.func17 ?_
 refine xa 3 [.slice none 0 0, .int .i64 0] 43 fun b1 W1 n1 => ?_
 refine xc 7 (args := #[.pointer (some ⟨bm, 0, none⟩), .int .i64 index, .int .i64 4, .int .i64 fuel]) (ref14_WholeO B bm p k c l index 4 fuel _ hfu (hI.below n1.below)) ?_
 rintro e W2 hq2
 rcases hq2 with ⟨hfs, pe, ce, pb, cb, pf, nf, cf, a9, d9, rfl, hb2, hf9⟩ | ⟨hfs, pe, ce, pb, nb, cb, dp, lk, pf, nf, cf, a9, d9, rfl, hb2, hen⟩
 · refine xa 3 [.slice none 0 0, .slice none 0 0, .int .i64 0, .int .i64 0, .slice none 0 0] 87 fun b3 W3 n3 => ?_
   have hB'1 := Bl.next n1.below hb2
   have g3 := n3.ge hB'1
   refine xa 0 [.slice none 0 0, .int .i64 0] 43 fun b4 W4 n4 => ?_
   have k1 := (n1.blk.below hb2).below n3.below
   have d4_b1 := n4.ne k1
   have hB'2 := Bl.next hB'1 n3.below
   have g4 := n4.ge hB'2
   have k3 := n3.blk.below n4.below
   refine xsv 0 k3 [.slice pe 0 ce, .slice pb 0 cb, .int .i64 0, .int .i64 0, .slice pf nf cf] fun W5 u5 k5 => ?_
   have k4 := u5.blkT n4.blk k3 (by decide)
   refine xsv 0 k4 [.slice a9 ((wholeF (scanW l index 4 fuel)).1.length) d9, .int .i64 ((wholeF (scanW l index 4 fuel)).2)] fun W6 u6 k6 => ?_
   refine xb 6 1 k6 ?_
   refine xk 3 (show (((wholeF (scanW l index 4 fuel)).2 != (0 : Int)) : Bool) = true from bne_iff_ne.2 (wholeF_ne hfs)) ?_
   refine xd 1 (.t w.heap.size [43]) ?_
   have k6'1 := k6.below (below_drew W6)
   refine xlv (.o [1] 0) k6'1.rp ?_
   have k1'1 := (u6.blk (u5.blkT (k1.below n4.below) k3 (by decide)) (Ne.symm (Ne.symm d4_b1))).below (below_drew W6)
   have g1 := n1.ge (Below.refl w.heap.size _)
   refine ysv (.o [] 2) k1'1 [.slice a9 ((wholeF (scanW l index 4 fuel)).1.length) d9, .int .i64 ((wholeF (scanW l index 4 fuel)).2)] (.t w.heap.size [43]) fun W7 u7 k7 => ⟨(sft_upd u7 k1'1 g1 (by decide)), ?_⟩
   have hf9'1 := u7.own2 (own_below (u6.own2 (u5.own2 (own_below (own_below (own_mono hf9 n1.below.size) n3.below) n4.below) k3 (by decide)) k4 (by decide)) (below_drew W6)) k1'1 (by decide)
   have hB'3 := u7.below (Bl.next (u6.below (u5.below (Bl.next hB'2 n4.below) g3) g4) (below_drew W6)) g1
   exact xec 4 k7 (.tuple #[.slice none 0 0, .agg #[.slice a9 ((wholeF (scanW l index 4 fuel)).1.length) d9, .int .i64 ((wholeF (scanW l index 4 fuel)).2)]]) (rout_bad (dataO_flt hfs) (wholeF_ne hfs) rfl hB'3 hf9'1)
 refine xa 3 [.slice none 0 0, .slice none 0 0, .int .i64 0, .int .i64 0, .slice none 0 0] 87 fun b8 W8 n8 => ?_
 have hB'4 := Bl.next n1.below hb2
 have g8 := n8.ge hB'4
 refine xa 0 [.slice none 0 0, .int .i64 0] 43 fun b9 W9 n9 => ?_
 have k1 := (n1.blk.below hb2).below n8.below
 have d9_b1 := n9.ne k1
 have hB'5 := Bl.next hB'4 n8.below
 have g9 := n9.ge hB'5
 have k8 := n8.blk.below n9.below
 refine xsv 0 k8 [.slice pe ((scanW l index 4 fuel).es.length) ce, .slice pb nb cb, .int .i64 dp, .int .i64 lk, .slice pf nf cf] fun W10 u10 k10 => ?_
 have k9 := u10.blkT n9.blk k8 (by decide)
 refine xsv 0 k9 [.slice a9 0 d9, .int .i64 0] fun W11 u11 k11 => ?_
 refine xb 6 1 k11 ?_
 refine xd 8 .z ?_
 have k10'1 := (u11.blkT k10 k9 (by decide)).below (below_drew W11)
 refine xb (.e [0] 1) 0 k10'1 ?_
 refine xr (.o [2, 3] 4) (args := #[.int .i64 n]) (ref20_BitmapsL n _ hn) fun W12 hb12 => ?_
 refine xin (.r [5] 2) (↑((scanW l index 4 fuel).es.length) : Int) (↑(bmI n) : Int) (fun hc13 => ?_) (fun hc13 => ?_)
 · have hne : (scanW l index 4 fuel).es.length ≠ bmI n := by omega
   refine xc 3 (args := #[.int .i64 index, .int .i64 7]) (ref11_AtK index 7 _ (by decide)) ?_
   rintro _ W14 ⟨pa, ca, rfl, hb14, hva⟩
   have hs14 := (Bl.next (Bl.next (u11.below (u10.below (Bl.next hB'5 n9.below) g8) g9) (below_drew W11)) hb12).size
   have k1'2 := (((u11.blk (u10.blkT (k1.below n9.below) k8 (by decide)) (Ne.symm (Ne.symm d9_b1))).below (below_drew W11)).below hb12).below hb14
   refine xsv 1 k1'2 [.slice pa 1 ca, .int .i64 7] fun W15 u15 k15 => ?_
   have g1 := n1.ge (Below.refl w.heap.size _)
   have hva'1 := u15.own2 (own_mono hva hs14) k1'2 (by decide)
   have hB'6 := u15.below (Bl.next (Bl.next (Bl.next (u11.below (u10.below (Bl.next hB'5 n9.below) g8) g9) (below_drew W11)) hb12) hb14) g1
   exact xec 4 k15 (.tuple #[.slice none 0 0, .agg #[.slice pa 1 ca, .int .i64 7]]) (rout_bad (dataO_len hfs hne) (by decide) rfl hB'6 hva'1)
 have hlen : (scanW l index 4 fuel).es.length = bmI n := by omega
 have hxm := bmI_le hn
 have hen'1 := own_below (own_below (u11.own2 (u10.own2 (own_below (own_below (own_mono hen n1.below.size) n8.below) n9.below) k8 (by decide)) k9 (by decide)) (below_drew W11)) hb12
 have hB'7 := Bl.next (Bl.next (u11.below (u10.below (Bl.next hB'5 n9.below) g8) g9) (below_drew W11)) hb12
 have k1'3 := ((u11.blk (u10.blkT (k1.below n9.below) k8 (by decide)) (Ne.symm (Ne.symm d9_b1))).below (below_drew W11)).below hb12
 have k10'2 := k10'1.below hb12
 have k11'1 := (k11.below (below_drew W11)).below hb12
 refine zl 9 111 (fun zm zkv V => ∃ (i : Nat), zkv = [(0, .pointer (some ⟨bm, 0, none⟩)), (1, .int .i64 index), (2, .int .i64 over), (3, .int .i64 n), (4, .int .i64 fuel), (11, .pointer (some ⟨b1, 0, none⟩)), (12, .pointer (some ⟨b8, 0, none⟩)), (14, .int .i64 (↑i : Int))] ∧ zm = (scanW l index 4 fuel).es.length - ((↑i : Int)).toNat ∧ Below w.heap.size w V ∧ Blk V b1 ([.slice none 0 0, .int .i64 0]) 43 ∧ Blk V b8 ([.slice pe ((scanW l index 4 fuel).es.length) ce, .slice pb nb cb, .int .i64 dp, .int .i64 lk, .slice pf nf cf]) 87 ∧ Blk V b9 ([.slice a9 0 d9, .int .i64 0]) 43 ∧ V.ownsRow w.heap.size 77 3 (.slice pe (scanW l index 4 fuel).es.length ce) (scanW l index 4 fuel).es.length ((scanW l index 4 fuel).es.flatMap entC) ∧ i ≤ (scanW l index 4 fuel).es.length ∧ (∀ j, j < i → ((scanW l index 4 fuel).es.getD j entD).1 = (j : Int))) ⟨0, rfl, rfl, hB'7, k1'3, k10'2, k11'1, hen'1, Nat.zero_le _, ?_⟩ ?_
 · exact fun j hj => absurd hj (by omega)
 rintro _ _ W16 ⟨i, rfl, rfl, hB_16, k16_b1, k16_b8, k16_b9, hen, hi, hky⟩ J16 hJ16 r16
 refine xb 5 0 k16_b8 ?_
 refine xid 4 ((↑i : Int) < (↑((scanW l index 4 fuel).es.length) : Int)) (fun hc17 => ?_) (fun hc17 => ?_)
 · refine xb 7 0 k16_b8 ?_
   refine xx 1 _ ((scanW l index 4 fuel).es.length) i 3 (Sts.cell (f := entC) (own_sl hen) entC_len entD (k := i) (i := 0) (by omega) rfl).1 ?_
   refine xl 1 ((Sts.cell (f := entC) (own_sl hen) entC_len entD (k := i) (i := 0) (by omega) rfl).2) ?_
   refine xin 4 (((scanW l index 4 fuel).es.getD i entD).1) (↑i : Int) (fun hc18 => ?_) (fun hc18 => ?_)
   · refine xc 3 (args := #[.int .i64 index, .int .i64 7]) (ref11_AtK index 7 _ (by decide)) ?_
     rintro _ W19 ⟨pa, ca, rfl, hb19, hva⟩
     have k16_b1'1 := k16_b1.below hb19
     refine xsv 1 k16_b1'1 [.slice pa 1 ca, .int .i64 7] fun W20 u20 k20 => ?_
     have g1 := n1.ge (Below.refl w.heap.size _)
     have hva'2 := u20.own2 (own_mono hva hB_16.size) k16_b1'1 (by decide)
     have hB'8 := u20.below (Bl.next hB_16 hb19) g1
     exact xec 8 k20 (.tuple #[.slice none 0 0, .agg #[.slice pa 1 ca, .int .i64 7]]) (rout_bad (dataO_key hfs hlen (i := i) (by omega) (by assumption)) (by decide) rfl hB'8 hva'2)
   refine xwm 5 ((↑i : Int) + 1) (↑(i + 1) : Int) ?_
   exact ze 2 (hJ16 _ _ _ ⟨i + 1, rfl, rfl, hB_16, k16_b1, k16_b8, k16_b9, hen, by omega, fun j hj => (Nat.lt_or_ge j i).elim (hky j) (fun q => by obtain rfl : j = i := (by omega); omega)⟩ (by omega))
 have hkz : ∀ j, j < (scanW l index 4 fuel).es.length → ((scanW l index 4 fuel).es.getD j entD).1 = (j : Int) := fun j hj => hky j (by omega)
 have hXl : ((scanW l index 4 fuel).es.map plcE).length = (scanW l index 4 fuel).es.length := List.length_map _
 clear hky
 refine zl 17 111 (fun zm zkv V => ∃ (i : Nat) (gs : List (Nat × Nat)) (pq : Option Addr) (cq : Nat), zkv = [(0, .pointer (some ⟨bm, 0, none⟩)), (2, .int .i64 over), (3, .int .i64 n), (4, .int .i64 fuel), (11, .pointer (some ⟨b1, 0, none⟩)), (12, .pointer (some ⟨b8, 0, none⟩)), (15, .slice pq i cq), (16, .int .i64 (↑i : Int))] ∧ zm = (scanW l index 4 fuel).es.length - ((↑i : Int)).toNat ∧ Below w.heap.size w V ∧ Blk V b1 ([.slice none 0 0, .int .i64 0]) 43 ∧ Blk V b8 ([.slice pe ((scanW l index 4 fuel).es.length) ce, .slice pb nb cb, .int .i64 dp, .int .i64 lk, .slice pf nf cf]) 87 ∧ Blk V b9 ([.slice a9 0 d9, .int .i64 0]) 43 ∧ V.ownsRow w.heap.size 77 3 (.slice pe (scanW l index 4 fuel).es.length ce) (scanW l index 4 fuel).es.length ((scanW l index 4 fuel).es.flatMap entC) ∧ V.ownsRow w.heap.size 30 1 (.slice pq i cq) i ((List.range i).map (lstV gs (allL l ((scanW l index 4 fuel).es.map plcE) n i))) ∧ Each V w.heap.size gs (allL l ((scanW l index 4 fuel).es.map plcE) n i) ∧ i ≤ (scanW l index 4 fuel).es.length ∧ gs.length = i ∧ allK l ((scanW l index 4 fuel).es.map plcE) n i) ⟨0, [], none, 0, rfl, rfl, hB_16, k16_b1, k16_b8, k16_b9, hen, World.ownsRow_nil _ _ _ _, (fun j hj => absurd hj (by rw [allL_len]; omega)), Nat.zero_le _, rfl, (fun j hj => absurd hj (by omega))⟩ ?_
 rintro _ _ W21 ⟨i, gs, pq, cq, rfl, rfl, hB_21, k21_b1, k21_b8, k21_b9, hen_21, ho, hEa, hi_21, hgl, hok⟩ J21 hJ21 r21
 have hrm := fun (q : i < (scanW l index 4 fuel).es.length) => rem_in hlen q
 refine xb 5 0 k21_b8 ?_
 refine xid 4 ((↑i : Int) < (↑((scanW l index 4 fuel).es.length) : Int)) (fun hc22 => ?_) (fun hc22 => ?_)
 · refine xb 7 0 k21_b8 ?_
   refine xx 1 _ ((scanW l index 4 fuel).es.length) i 3 (Sts.cell (f := entC) (own_sl hen_21) entC_len entD (k := i) (i := 0) (by omega) rfl).1 ?_
   refine xl 1 ((Sts.cell (f := entC) (own_sl hen_21) entC_len entD (k := i) (i := 2) (by omega) rfl).2) ?_
   refine xb 6 0 k21_b8 ?_
   refine xx 1 _ ((scanW l index 4 fuel).es.length) i 3 (Sts.cell (f := entC) (own_sl hen_21) entC_len entD (k := i) (i := 0) (by omega) rfl).1 ?_
   refine xl 1 ((Sts.cell (f := entC) (own_sl hen_21) entC_len entD (k := i) (i := 1) (by omega) rfl).2) ?_
   refine xr 0 (args := #[.string ⟨(((scanW l index 4 fuel).es.getD i entD).2.1).toArray⟩]) (ref08_ReadSlot ((scanW l index 4 fuel).es.getD i entD).2.1 _ (scan_short _ _ _ _ i (by omega))) fun W23 hb23 => ?_
   refine xa 3 [.int .i64 0, .int .i64 0, .int .i64 0] 79 fun b24 W24 n24 => ?_
   have hB'9 := Bl.next hB_21 hb23
   have g24 := n24.ge hB'9
   refine xsv 0 n24.blk [.int .i64 (↑((readV slotP ((scanW l index 4 fuel).es.getD i entD).2.1).getD 0 0) : Int), .int .i64 (↑((readV slotP ((scanW l index 4 fuel).es.getD i entD).2.1).getD 1 0) : Int), .int .i64 (↑((readV slotP ((scanW l index 4 fuel).es.getD i entD).2.1).getD 2 0) : Int)] fun W25 u25 k25 => ?_
   refine xin 10 (readE slotP ((scanW l index 4 fuel).es.getD i entD).2.1) (0 : Int) (fun hc26 => ?_) (fun hc26 => ?_)
   · have hxi := plcE_at (es := (scanW l index 4 fuel).es) (i := i) (by omega)
     refine xc 4 (args := #[.int .i64 (((scanW l index 4 fuel).es.getD i entD).2.2), .int .i64 (readE slotP ((scanW l index 4 fuel).es.getD i entD).2.1)]) (ref11_AtK (((scanW l index 4 fuel).es.getD i entD).2.2) (readE slotP ((scanW l index 4 fuel).es.getD i entD).2.1) _ (by assumption)) ?_
     rintro _ W27 ⟨pa, ca, rfl, hb27, hva⟩
     have hs27 := (u25.below (Bl.next hB'9 n24.below) g24).size
     have k21_b1'1 := (u25.blkT ((k21_b1.below hb23).below n24.below) n24.blk (by decide)).below hb27
     refine xsv 1 k21_b1'1 [.slice pa 1 ca, .int .i64 (readE slotP ((scanW l index 4 fuel).es.getD i entD).2.1)] fun W28 u28 k28 => ?_
     have g1 := n1.ge (Below.refl w.heap.size _)
     have hva'3 := u28.own2 (own_mono hva hs27) k21_b1'1 (by decide)
     have hB'10 := u28.below (Bl.next (u25.below (Bl.next hB'9 n24.below) g24) hb27) g1
     exact xec 9 k28 (.tuple #[.slice none 0 0, .agg #[.slice pa 1 ca, .int .i64 (readE slotP ((scanW l index 4 fuel).es.getD i entD).2.1)]]) (rout_bad (by rw [dataO_all hfs hlen hkz, allO_bad (by omega) hok (by rw [oneI_e hxi (by assumption)]; assumption), oneI_e hxi (by assumption)]; rfl) (by assumption) rfl hB'10 hva'3)
   have hxi := plcE_at (es := (scanW l index 4 fuel).es) (i := i) (by omega)
   refine xd 3 (.t w.heap.size [43]) ?_
   have k25'1 := k25.below (below_drew W25)
   refine xlvt (.e [0] 1) (.t w.heap.size [43]) (fun V hV => (k25'1.only hV.2 (by decide)).rp) ?_
   refine xm2 (.b [2, 3, 4]) 5 10 ?_ ?_
   · refine xr 0 (args := #[.int .i64 n, .int .i64 (↑i : Int)]) (ref23_want n i _ (by omega) hn (by have := (hrm (by omega)).2.1; omega)) fun W29 hb29 => ?_
     refine xm2 0 6 10 ?_ ?_
     · have hB'11 := Bl.next (Bl.next (u25.below (Bl.next hB'9 n24.below) g24) (below_drew W25)) hb29
       refine yc 0 (args := #[.pointer (some ⟨bm, 0, none⟩), .agg #[.int .i64 (↑((readV slotP ((scanW l index 4 fuel).es.getD i entD).2.1).getD 0 0) : Int), .int .i64 (↑((readV slotP ((scanW l index 4 fuel).es.getD i entD).2.1).getD 1 0) : Int), .int .i64 (↑((readV slotP ((scanW l index 4 fuel).es.getD i entD).2.1).getD 2 0) : Int)], .int .i64 (((scanW l index 4 fuel).es.getD i entD).2.2), .int .i64 (wantI n i)]) (.t w.heap.size [43]) (ref23_oneI B bm p k c l ((scanW l index 4 fuel).es.map plcE) n i (plcE ((scanW l index 4 fuel).es.getD i entD)) _ (hI.below hB'11) hxi (show readE slotP ((scanW l index 4 fuel).es.getD i entD).2.1 = 0 by omega) (hrm (by omega)).2.2.2.1) ?_
       rintro e W30 hq30
       rcases hq30 with ⟨hbe, p9, c9, a9, d9, rfl, hb30, hf9⟩ | ⟨hbe, g9, c9, a9, d9, rfl, hb30, ho9⟩
       · have hs30 := (Bl.next (Bl.next (u25.below (Bl.next hB'9 n24.below) g24) (below_drew W25)) hb29).size
         refine ⟨(SF.of_below _ hb30), ?_⟩
         refine xa (.o [7, 8, 9] 10) [.slice none 0 0, .int .i64 0] 43 fun b31 W31 n31 => ?_
         have k21_b1'2 := (((u25.blkT ((k21_b1.below hb23).below n24.below) n24.blk (by decide)).below (below_drew W25)).below hb29).below hb30
         have d31_b1 := n31.ne k21_b1'2
         have k21_b9'1 := (((u25.blkT ((k21_b9.below hb23).below n24.below) n24.blk (by decide)).below (below_drew W25)).below hb29).below hb30
         have d31_b9 := n31.ne k21_b9'1
         have hB'12 := Bl.next hB'11 hb30
         have g31 := n31.ge hB'12
         refine ysv (.o [11] 12) n31.blk [.slice a9 ((oneI l ((scanW l index 4 fuel).es.map plcE) n i).1.length) d9, .int .i64 ((oneI l ((scanW l index 4 fuel).es.map plcE) n i).2.1)] (.t w.heap.size [43]) fun W32 u32 k32 => ⟨(sft_upd u32 n31.blk g31 (by decide)), ?_⟩
         refine xb 6 1 k32 ?_
         refine xk 3 (show (((oneI l ((scanW l index 4 fuel).es.map plcE) n i).2.1 != (0 : Int)) : Bool) = true from bne_iff_ne.2 hbe) ?_
         refine xd 1 (.t w.heap.size [43]) ?_
         have k32'1 := k32.below (below_drew W32)
         refine xlv (.o [1] 0) k32'1.rp ?_
         have k21_b1'3 := (u32.blk (k21_b1'2.below n31.below) (Ne.symm (Ne.symm d31_b1))).below (below_drew W32)
         have g1 := n1.ge (Below.refl w.heap.size _)
         refine ysv (.o [] 2) k21_b1'3 [.slice a9 ((oneI l ((scanW l index 4 fuel).es.map plcE) n i).1.length) d9, .int .i64 ((oneI l ((scanW l index 4 fuel).es.map plcE) n i).2.1)] (.t w.heap.size [43]) fun W33 u33 k33 => ⟨(sft_upd u33 k21_b1'3 g1 (by decide)), ?_⟩
         have hf9'2 := u33.own2 (own_below (u32.own2 (own_below (own_mono hf9 hs30) n31.below) n31.blk (by decide)) (below_drew W32)) k21_b1'3 (by decide)
         have hB'13 := u33.below (Bl.next (u32.below (Bl.next hB'12 n31.below) g31) (below_drew W32)) g1
         refine xec 9 k33 (.tuple #[.slice none 0 0, .agg #[.slice a9 ((oneI l ((scanW l index 4 fuel).es.map plcE) n i).1.length) d9, .int .i64 ((oneI l ((scanW l index 4 fuel).es.map plcE) n i).2.1)]]) ?_
         rw [dataO_all hfs hlen hkz, allO_bad (by omega) hok hbe]
         exact .inl ⟨hbe, none, 0, a9, d9, rfl, hB'13, hf9'2⟩
       have hs30 := (Bl.next (Bl.next (u25.below (Bl.next hB'9 n24.below) g24) (below_drew W25)) hb29).size
       refine ⟨(SF.of_below _ hb30), ?_⟩
       refine xa (.o [7, 8, 9] 10) [.slice none 0 0, .int .i64 0] 43 fun b34 W34 n34 => ?_
       have k21_b1'4 := (((u25.blkT ((k21_b1.below hb23).below n24.below) n24.blk (by decide)).below (below_drew W25)).below hb29).below hb30
       have d34_b1 := n34.ne k21_b1'4
       have k21_b9'2 := (((u25.blkT ((k21_b9.below hb23).below n24.below) n24.blk (by decide)).below (below_drew W25)).below hb29).below hb30
       have d34_b9 := n34.ne k21_b9'2
       have hB'14 := Bl.next hB'11 hb30
       have g34 := n34.ge hB'14
       refine ysv (.o [11] 12) n34.blk [.slice a9 0 d9, .int .i64 0] (.t w.heap.size [43]) fun W35 u35 k35 => ⟨(sft_upd u35 n34.blk g34 (by decide)), ?_⟩
       refine xb 6 1 k35 ?_
       refine xbs 9 1 [.slice (some ⟨g9, 0, none⟩) ((bitR l (↑(((scanW l index 4 fuel).es.map plcE).getD i plc0).1.1 : Int)).length) c9] 30 fun b36 W36 n36 => ?_
       have hB'15 := u35.below (Bl.next hB'14 n34.below) g34
       have g36 := n36.ge hB'15
       have ho'1 := u35.own2 (own_below (own_below (own_below (own_below (u25.own2 (own_below (own_below ho hb23) n24.below) n24.blk (by decide)) (below_drew W25)) hb29) hb30) n34.below) n34.blk (by decide)
       have r36_ho := own_ne ho'1 n36
       have ho'2 := own_below ho'1 n36.below
       have hB'16 := Bl.next hB'15 n36.below
       refine xbi 0 fun _ _ _ _ zJ zQ zo zx zy zK => op_app (m := 1) (news := [.slice (some ⟨g9, 0, none⟩) ((bitR l (↑(((scanW l index 4 fuel).es.map plcE).getD i plc0).1.1 : Int)).length) c9]) (.slice none 0 0) 1 24 (i + 1) (((List.range (i + 1)).map (lstV (gs ++ [(g9, c9)]) (allL l ((scanW l index 4 fuel).es.map plcE) n (i + 1))))) zo Tryz.underlying91 (by kernel_rfl) rfl (by decide) zx ho'2 zy (n36.blk.sl 1 1 (by decide) (by decide)) rfl (by simp [Value.oneCell']) (by unfold maxLen; omega) (by omega) hB'16.size (rfl) (by rw [← rows_snoc hgl]) fun px37 cx37 W37 o37 hg37 hb37 => ?_
       refine zK _ _ ?_
       refine xwm 6 ((↑i : Int) + 1) (↑(i + 1) : Int) ?_
       have hEa'1 := (((((((((hEa.below hb23).below n24.below).only (Only.of_upd (T := [79]) u25 n24.blk (by decide)) (by decide)).below (below_drew W25)).below hb29).below hb30).below n34.below).only (Only.of_upd (T := [43]) u35 n34.blk (by decide)) (by decide)).below n36.below).only (Only.of_grown (T := [30]) hg37 ho'2 (by decide)) (by decide)
       have ho9'1 := own_grown (own_below (u35.own2 (own_below (own_mono ho9 hs30) n34.below) n34.blk (by decide)) n36.below) hg37 ho'2 (by decide)
       have hB'17 := hB'16.trans hb37
       have k21_b1'5 := ((u35.blk (k21_b1'4.below n34.below) (Ne.symm (Ne.symm d34_b1))).below n36.below).grown hg37 ho'2 (by decide)
       have k21_b8'1 := ((u35.blkT (((((u25.blkT ((k21_b8.below hb23).below n24.below) n24.blk (by decide)).below (below_drew W25)).below hb29).below hb30).below n34.below) n34.blk (by decide)).below n36.below).grown hg37 ho'2 (by decide)
       have k21_b9'3 := ((u35.blk (k21_b9'2.below n34.below) (Ne.symm (Ne.symm d34_b9))).below n36.below).grown hg37 ho'2 (by decide)
       have hen'2 := own_grown (own_below (u35.own2 (own_below (own_below (own_below (own_below (u25.own2 (own_below (own_below hen_21 hb23) n24.below) n24.blk (by decide)) (below_drew W25)) hb29) hb30) n34.below) n34.blk (by decide)) n36.below) hg37 ho'2 (by decide)
       exact ze 2 (hJ21 _ _ _ ⟨i + 1, gs ++ [(g9, c9)], _, _, rfl, rfl, hB'17, k21_b1'5, k21_b8'1, k21_b9'3, hen'2, o37, (each_snoc hEa'1 hgl ho9'1), by omega, by rw [List.length_append, hgl]; rfl, allK_next hok hbe⟩ (by omega))
     refine xa 0 [.slice none 0 0, .int .i64 0] 43 fun b38 W38 n38 => ?_
     have k21_b1'6 := ((u25.blkT ((k21_b1.below hb23).below n24.below) n24.blk (by decide)).below (below_drew W25)).below hb29
     have d38_b1 := n38.ne k21_b1'6
     have k21_b9'4 := ((u25.blkT ((k21_b9.below hb23).below n24.below) n24.blk (by decide)).below (below_drew W25)).below hb29
     have d38_b9 := n38.ne k21_b9'4
     have hB'18 := Bl.next (Bl.next (u25.below (Bl.next hB'9 n24.below) g24) (below_drew W25)) hb29
     have g38 := n38.ge hB'18
     have hB'19 := Bl.next hB'18 n38.below
     refine yc (.o [] 6) (args := #[.pointer (some ⟨bm, 0, none⟩), .agg #[.int .i64 (↑((readV slotP ((scanW l index 4 fuel).es.getD i entD).2.1).getD 0 0) : Int), .int .i64 (↑((readV slotP ((scanW l index 4 fuel).es.getD i entD).2.1).getD 1 0) : Int), .int .i64 (↑((readV slotP ((scanW l index 4 fuel).es.getD i entD).2.1).getD 2 0) : Int)], .int .i64 (((scanW l index 4 fuel).es.getD i entD).2.2), .int .i64 (wantI n i)]) (.t w.heap.size [43]) (ref23_oneI B bm p k c l ((scanW l index 4 fuel).es.map plcE) n i (plcE ((scanW l index 4 fuel).es.getD i entD)) _ (hI.below hB'19) hxi (show readE slotP ((scanW l index 4 fuel).es.getD i entD).2.1 = 0 by omega) (hrm (by omega)).2.2.2.1) ?_
     rintro e W39 hq39
     rcases hq39 with ⟨hbe, p9, c9, a9, d9, rfl, hb39, hf9⟩ | ⟨hbe, g9, c9, a9, d9, rfl, hb39, ho9⟩
     · have hs39 := (Bl.next hB'18 n38.below).size
       refine ⟨(SF.of_below _ hb39), ?_⟩
       have k38 := n38.blk.below hb39
       refine ysv (.o [7, 8, 9, 11] 12) k38 [.slice a9 ((oneI l ((scanW l index 4 fuel).es.map plcE) n i).1.length) d9, .int .i64 ((oneI l ((scanW l index 4 fuel).es.map plcE) n i).2.1)] (.t w.heap.size [43]) fun W40 u40 k40 => ⟨(sft_upd u40 k38 g38 (by decide)), ?_⟩
       refine xb 6 1 k40 ?_
       refine xk 3 (show (((oneI l ((scanW l index 4 fuel).es.map plcE) n i).2.1 != (0 : Int)) : Bool) = true from bne_iff_ne.2 hbe) ?_
       refine xd 1 (.t w.heap.size [43]) ?_
       have k40'1 := k40.below (below_drew W40)
       refine xlv (.o [1] 0) k40'1.rp ?_
       have k21_b1'7 := (u40.blk ((k21_b1'6.below n38.below).below hb39) (Ne.symm (Ne.symm d38_b1))).below (below_drew W40)
       have g1 := n1.ge (Below.refl w.heap.size _)
       refine ysv (.o [] 2) k21_b1'7 [.slice a9 ((oneI l ((scanW l index 4 fuel).es.map plcE) n i).1.length) d9, .int .i64 ((oneI l ((scanW l index 4 fuel).es.map plcE) n i).2.1)] (.t w.heap.size [43]) fun W41 u41 k41 => ⟨(sft_upd u41 k21_b1'7 g1 (by decide)), ?_⟩
       have hf9'3 := u41.own2 (own_below (u40.own2 (own_mono hf9 hs39) k38 (by decide)) (below_drew W40)) k21_b1'7 (by decide)
       have hB'20 := u41.below (Bl.next (u40.below (Bl.next hB'19 hb39) g38) (below_drew W40)) g1
       refine xec 9 k41 (.tuple #[.slice none 0 0, .agg #[.slice a9 ((oneI l ((scanW l index 4 fuel).es.map plcE) n i).1.length) d9, .int .i64 ((oneI l ((scanW l index 4 fuel).es.map plcE) n i).2.1)]]) ?_
       rw [dataO_all hfs hlen hkz, allO_bad (by omega) hok hbe]
       exact .inl ⟨hbe, none, 0, a9, d9, rfl, hB'20, hf9'3⟩
     have hs39 := (Bl.next hB'18 n38.below).size
     refine ⟨(SF.of_below _ hb39), ?_⟩
     have k38 := n38.blk.below hb39
     refine ysv (.o [7, 8, 9, 11] 12) k38 [.slice a9 0 d9, .int .i64 0] (.t w.heap.size [43]) fun W42 u42 k42 => ⟨(sft_upd u42 k38 g38 (by decide)), ?_⟩
     refine xb 6 1 k42 ?_
     refine xbs 9 1 [.slice (some ⟨g9, 0, none⟩) ((bitR l (↑(((scanW l index 4 fuel).es.map plcE).getD i plc0).1.1 : Int)).length) c9] 30 fun b43 W43 n43 => ?_
     have hB'21 := u42.below (Bl.next hB'19 hb39) g38
     have g43 := n43.ge hB'21
     have ho'3 := u42.own2 (own_below (own_below (own_below (own_below (u25.own2 (own_below (own_below ho hb23) n24.below) n24.blk (by decide)) (below_drew W25)) hb29) n38.below) hb39) k38 (by decide)
     have r43_ho := own_ne ho'3 n43
     have ho'4 := own_below ho'3 n43.below
     have hB'22 := Bl.next hB'21 n43.below
     refine xbi 0 fun _ _ _ _ zJ zQ zo zx zy zK => op_app (m := 1) (news := [.slice (some ⟨g9, 0, none⟩) ((bitR l (↑(((scanW l index 4 fuel).es.map plcE).getD i plc0).1.1 : Int)).length) c9]) (.slice none 0 0) 1 24 (i + 1) (((List.range (i + 1)).map (lstV (gs ++ [(g9, c9)]) (allL l ((scanW l index 4 fuel).es.map plcE) n (i + 1))))) zo Tryz.underlying91 (by kernel_rfl) rfl (by decide) zx ho'4 zy (n43.blk.sl 1 1 (by decide) (by decide)) rfl (by simp [Value.oneCell']) (by unfold maxLen; omega) (by omega) hB'22.size (rfl) (by rw [← rows_snoc hgl]) fun px44 cx44 W44 o44 hg44 hb44 => ?_
     refine zK _ _ ?_
     refine xwm 6 ((↑i : Int) + 1) (↑(i + 1) : Int) ?_
     have hEa'2 := (((((((((hEa.below hb23).below n24.below).only (Only.of_upd (T := [79]) u25 n24.blk (by decide)) (by decide)).below (below_drew W25)).below hb29).below n38.below).below hb39).only (Only.of_upd (T := [43]) u42 k38 (by decide)) (by decide)).below n43.below).only (Only.of_grown (T := [30]) hg44 ho'4 (by decide)) (by decide)
     have ho9'2 := own_grown (own_below (u42.own2 (own_mono ho9 hs39) k38 (by decide)) n43.below) hg44 ho'4 (by decide)
     have hB'23 := hB'22.trans hb44
     have k21_b1'8 := ((u42.blk ((k21_b1'6.below n38.below).below hb39) (Ne.symm (Ne.symm d38_b1))).below n43.below).grown hg44 ho'4 (by decide)
     have k21_b8'2 := ((u42.blkT (((((u25.blkT ((k21_b8.below hb23).below n24.below) n24.blk (by decide)).below (below_drew W25)).below hb29).below n38.below).below hb39) k38 (by decide)).below n43.below).grown hg44 ho'4 (by decide)
     have k21_b9'5 := ((u42.blk ((k21_b9'4.below n38.below).below hb39) (Ne.symm (Ne.symm d38_b9))).below n43.below).grown hg44 ho'4 (by decide)
     have hen'3 := own_grown (own_below (u42.own2 (own_below (own_below (own_below (own_below (u25.own2 (own_below (own_below hen_21 hb23) n24.below) n24.blk (by decide)) (below_drew W25)) hb29) n38.below) hb39) k38 (by decide)) n43.below) hg44 ho'4 (by decide)
     exact ze 2 (hJ21 _ _ _ ⟨i + 1, gs ++ [(g9, c9)], _, _, rfl, rfl, hB'23, k21_b1'8, k21_b8'2, k21_b9'5, hen'3, o44, (each_snoc hEa'2 hgl ho9'2), by omega, by rw [List.length_append, hgl]; rfl, allK_next hok hbe⟩ (by omega))
   refine xa 0 [.slice none 0 0, .int .i64 0] 43 fun b45 W45 n45 => ?_
   have k21_b1'9 := (u25.blkT ((k21_b1.below hb23).below n24.below) n24.blk (by decide)).below (below_drew W25)
   have d45_b1 := n45.ne k21_b1'9
   have k21_b9'6 := (u25.blkT ((k21_b9.below hb23).below n24.below) n24.blk (by decide)).below (below_drew W25)
   have d45_b9 := n45.ne k21_b9'6
   have hB'24 := Bl.next (u25.below (Bl.next hB'9 n24.below) g24) (below_drew W25)
   have g45 := n45.ge hB'24
   refine xr (.o [] 5) (args := #[.int .i64 n, .int .i64 (↑i : Int)]) (ref23_want n i _ (by omega) hn (by have := (hrm (by omega)).2.1; omega)) fun W46 hb46 => ?_
   have hB'25 := Bl.next (Bl.next hB'24 n45.below) hb46
   refine yc (.o [] 6) (args := #[.pointer (some ⟨bm, 0, none⟩), .agg #[.int .i64 (↑((readV slotP ((scanW l index 4 fuel).es.getD i entD).2.1).getD 0 0) : Int), .int .i64 (↑((readV slotP ((scanW l index 4 fuel).es.getD i entD).2.1).getD 1 0) : Int), .int .i64 (↑((readV slotP ((scanW l index 4 fuel).es.getD i entD).2.1).getD 2 0) : Int)], .int .i64 (((scanW l index 4 fuel).es.getD i entD).2.2), .int .i64 (wantI n i)]) (.t w.heap.size [43]) (ref23_oneI B bm p k c l ((scanW l index 4 fuel).es.map plcE) n i (plcE ((scanW l index 4 fuel).es.getD i entD)) _ (hI.below hB'25) hxi (show readE slotP ((scanW l index 4 fuel).es.getD i entD).2.1 = 0 by omega) (hrm (by omega)).2.2.2.1) ?_
   rintro e W47 hq47
   rcases hq47 with ⟨hbe, p9, c9, a9, d9, rfl, hb47, hf9⟩ | ⟨hbe, g9, c9, a9, d9, rfl, hb47, ho9⟩
   · have hs47 := (Bl.next (Bl.next hB'24 n45.below) hb46).size
     refine ⟨(SF.of_below _ hb47), ?_⟩
     have k45 := (n45.blk.below hb46).below hb47
     refine ysv (.o [7, 8, 9, 11] 12) k45 [.slice a9 ((oneI l ((scanW l index 4 fuel).es.map plcE) n i).1.length) d9, .int .i64 ((oneI l ((scanW l index 4 fuel).es.map plcE) n i).2.1)] (.t w.heap.size [43]) fun W48 u48 k48 => ⟨(sft_upd u48 k45 g45 (by decide)), ?_⟩
     refine xb 6 1 k48 ?_
     refine xk 3 (show (((oneI l ((scanW l index 4 fuel).es.map plcE) n i).2.1 != (0 : Int)) : Bool) = true from bne_iff_ne.2 hbe) ?_
     refine xd 1 (.t w.heap.size [43]) ?_
     have k48'1 := k48.below (below_drew W48)
     refine xlv (.o [1] 0) k48'1.rp ?_
     have k21_b1'10 := (u48.blk (((k21_b1'9.below n45.below).below hb46).below hb47) (Ne.symm (Ne.symm d45_b1))).below (below_drew W48)
     have g1 := n1.ge (Below.refl w.heap.size _)
     refine ysv (.o [] 2) k21_b1'10 [.slice a9 ((oneI l ((scanW l index 4 fuel).es.map plcE) n i).1.length) d9, .int .i64 ((oneI l ((scanW l index 4 fuel).es.map plcE) n i).2.1)] (.t w.heap.size [43]) fun W49 u49 k49 => ⟨(sft_upd u49 k21_b1'10 g1 (by decide)), ?_⟩
     have hf9'4 := u49.own2 (own_below (u48.own2 (own_mono hf9 hs47) k45 (by decide)) (below_drew W48)) k21_b1'10 (by decide)
     have hB'26 := u49.below (Bl.next (u48.below (Bl.next hB'25 hb47) g45) (below_drew W48)) g1
     refine xec 9 k49 (.tuple #[.slice none 0 0, .agg #[.slice a9 ((oneI l ((scanW l index 4 fuel).es.map plcE) n i).1.length) d9, .int .i64 ((oneI l ((scanW l index 4 fuel).es.map plcE) n i).2.1)]]) ?_
     rw [dataO_all hfs hlen hkz, allO_bad (by omega) hok hbe]
     exact .inl ⟨hbe, none, 0, a9, d9, rfl, hB'26, hf9'4⟩
   have hs47 := (Bl.next (Bl.next hB'24 n45.below) hb46).size
   refine ⟨(SF.of_below _ hb47), ?_⟩
   have k45 := (n45.blk.below hb46).below hb47
   refine ysv (.o [7, 8, 9, 11] 12) k45 [.slice a9 0 d9, .int .i64 0] (.t w.heap.size [43]) fun W50 u50 k50 => ⟨(sft_upd u50 k45 g45 (by decide)), ?_⟩
   refine xb 6 1 k50 ?_
   refine xbs 9 1 [.slice (some ⟨g9, 0, none⟩) ((bitR l (↑(((scanW l index 4 fuel).es.map plcE).getD i plc0).1.1 : Int)).length) c9] 30 fun b51 W51 n51 => ?_
   have hB'27 := u50.below (Bl.next hB'25 hb47) g45
   have g51 := n51.ge hB'27
   have ho'5 := u50.own2 (own_below (own_below (own_below (own_below (u25.own2 (own_below (own_below ho hb23) n24.below) n24.blk (by decide)) (below_drew W25)) n45.below) hb46) hb47) k45 (by decide)
   have r51_ho := own_ne ho'5 n51
   have ho'6 := own_below ho'5 n51.below
   have hB'28 := Bl.next hB'27 n51.below
   refine xbi 0 fun _ _ _ _ zJ zQ zo zx zy zK => op_app (m := 1) (news := [.slice (some ⟨g9, 0, none⟩) ((bitR l (↑(((scanW l index 4 fuel).es.map plcE).getD i plc0).1.1 : Int)).length) c9]) (.slice none 0 0) 1 24 (i + 1) (((List.range (i + 1)).map (lstV (gs ++ [(g9, c9)]) (allL l ((scanW l index 4 fuel).es.map plcE) n (i + 1))))) zo Tryz.underlying91 (by kernel_rfl) rfl (by decide) zx ho'6 zy (n51.blk.sl 1 1 (by decide) (by decide)) rfl (by simp [Value.oneCell']) (by unfold maxLen; omega) (by omega) hB'28.size (rfl) (by rw [← rows_snoc hgl]) fun px52 cx52 W52 o52 hg52 hb52 => ?_
   refine zK _ _ ?_
   refine xwm 6 ((↑i : Int) + 1) (↑(i + 1) : Int) ?_
   have hEa'3 := (((((((((hEa.below hb23).below n24.below).only (Only.of_upd (T := [79]) u25 n24.blk (by decide)) (by decide)).below (below_drew W25)).below n45.below).below hb46).below hb47).only (Only.of_upd (T := [43]) u50 k45 (by decide)) (by decide)).below n51.below).only (Only.of_grown (T := [30]) hg52 ho'6 (by decide)) (by decide)
   have ho9'3 := own_grown (own_below (u50.own2 (own_mono ho9 hs47) k45 (by decide)) n51.below) hg52 ho'6 (by decide)
   have hB'29 := hB'28.trans hb52
   have k21_b1'11 := ((u50.blk (((k21_b1'9.below n45.below).below hb46).below hb47) (Ne.symm (Ne.symm d45_b1))).below n51.below).grown hg52 ho'6 (by decide)
   have k21_b8'3 := ((u50.blkT (((((u25.blkT ((k21_b8.below hb23).below n24.below) n24.blk (by decide)).below (below_drew W25)).below n45.below).below hb46).below hb47) k45 (by decide)).below n51.below).grown hg52 ho'6 (by decide)
   have k21_b9'7 := ((u50.blk (((k21_b9'6.below n45.below).below hb46).below hb47) (Ne.symm (Ne.symm d45_b9))).below n51.below).grown hg52 ho'6 (by decide)
   have hen'4 := own_grown (own_below (u50.own2 (own_below (own_below (own_below (own_below (u25.own2 (own_below (own_below hen_21 hb23) n24.below) n24.blk (by decide)) (below_drew W25)) n45.below) hb46) hb47) k45 (by decide)) n51.below) hg52 ho'6 (by decide)
   exact ze 2 (hJ21 _ _ _ ⟨i + 1, gs ++ [(g9, c9)], _, _, rfl, rfl, hB'29, k21_b1'11, k21_b8'3, k21_b9'7, hen'4, o52, (each_snoc hEa'3 hgl ho9'3), by omega, by rw [List.length_append, hgl]; rfl, allK_next hok hbe⟩ (by omega))
 have hiE : i = (scanW l index 4 fuel).es.length := by omega
 have hr9 := ho
 have he9 := hEa
 rw [hiE] at hr9 he9 hok
 have hfo := allL_form (l := l) (X := ((scanW l index 4 fuel).es.map plcE)) (n := n) (by rw [hXl]; exact hok) (by rw [hXl]; exact hlen)
 rw [hXl] at hfo
 refine xc 11 (args := #[.pointer (some ⟨bm, 0, none⟩), .slice pq i cq, .int .i64 over, .int .i64 fuel]) (ref23_restN i B bm p k c l w.heap.size pq cq gs (allL l ((scanW l index 4 fuel).es.map plcE) n (scanW l index 4 fuel).es.length) over fuel _ (by rw [allL_len]; exact hiE.symm) (hI.below hB_21) (lists_all hr9 he9) hfo (by rw [allL_len]; omega) hfu) ?_
 rintro e W53 hq53
 rcases hq53 with ⟨hbe, pr, cr, ar, dr, rfl, hb53, hf9⟩ | ⟨hbe, pr, cr, ar, dr, rfl, hb53, ho9⟩
 · have k21_b1'12 := k21_b1.below hb53
   refine xsv 3 k21_b1'12 [.slice ar ((restO l (allL l ((scanW l index 4 fuel).es.map plcE) n (scanW l index 4 fuel).es.length) over fuel).1.length) dr, .int .i64 ((restO l (allL l ((scanW l index 4 fuel).es.map plcE) n (scanW l index 4 fuel).es.length) over fuel).2.1)] fun W54 u54 k54 => ?_
   have g1 := n1.ge (Below.refl w.heap.size _)
   have hf9'5 := u54.own2 (own_mono hf9 hB_21.size) k21_b1'12 (by decide)
   have hB'30 := u54.below (Bl.next hB_21 hb53) g1
   refine xec 3 k54 (.tuple #[.slice pr 0 cr, .agg #[.slice ar ((restO l (allL l ((scanW l index 4 fuel).es.map plcE) n (scanW l index 4 fuel).es.length) over fuel).1.length) dr, .int .i64 ((restO l (allL l ((scanW l index 4 fuel).es.map plcE) n (scanW l index 4 fuel).es.length) over fuel).2.1)]]) ?_
   rw [dataO_all hfs hlen hkz, allO_ok (by rw [hXl]; exact hok), hXl]
   exact .inl ⟨hbe, pr, cr, ar, dr, rfl, hB'30, hf9'5⟩
 have k21_b1'13 := k21_b1.below hb53
 refine xsv 3 k21_b1'13 [.slice ar 0 dr, .int .i64 0] fun W55 u55 k55 => ?_
 have g1 := n1.ge (Below.refl w.heap.size _)
 have ho9'4 := u55.own2 (own_mono ho9 hB_21.size) k21_b1'13 (by decide)
 have hB'31 := u55.below (Bl.next hB_21 hb53) g1
 refine xec 3 k55 (.tuple #[.slice pr ((restO l (allL l ((scanW l index 4 fuel).es.map plcE) n (scanW l index 4 fuel).es.length) over fuel).2.2.length) cr, .agg #[.slice ar 0 dr, .int .i64 0]]) ?_
 rw [dataO_all hfs hlen hkz, allO_ok (by rw [hXl]; exact hok), hXl]
 exact .inr ⟨hbe, pr, cr, ar, dr, rfl, hB'31, ho9'4⟩
set_option maxRecDepth 100000 in
set_option maxHeartbeats 8000000 in
theorem ref23_Meta (B bm : Nat) (p : Option Addr) (k c : Nat) (l : List UInt8) (index over n fuel : Int) (w : World) (hI : RefI B bm p k c l w) (hn : n ≤ 1099511627776) (hfu : fuel ≤ 1000) :
    Calls Tryz.prog 21 #[.pointer (some ⟨bm, 0, none⟩), .int .i64 index, .int .i64 over, .int .i64 n, .int .i64 fuel] w (ROutP (metaO l index over n fuel) w) := by
 refine zin 69 Tryz.func21 ?_
 refine xa 3 [.slice none 0 0, .int .i64 0] 43 fun b1 W1 n1 => ?_
 refine xc 6 (args := #[.pointer (some ⟨bm, 0, none⟩), .int .i64 index]) (ref11_IndexO B bm p k c l index _ (hI.below n1.below)) ?_
 rintro e W2 hq2
 rcases hq2 with ⟨hie, ps, cs, a9, d9, rfl, hb2, hf9⟩ | ⟨hie, ps, cs, a9, d9, rfl, hb2, hsl⟩
 · refine xa 3 [.slice none 0 0, .int .i64 0] 43 fun b3 W3 n3 => ?_
   have k1 := n1.blk.below hb2
   have d3_b1 := n3.ne k1
   have hB'1 := Bl.next n1.below hb2
   have g3 := n3.ge hB'1
   refine xsv 1 n3.blk [.slice a9 1 d9, .int .i64 (idxErr l index)] fun W4 u4 k4 => ?_
   refine xb 6 1 k4 ?_
   refine xk 3 (show (((idxErr l index) != (0 : Int)) : Bool) = true from bne_iff_ne.2 hie) ?_
   refine xd 1 (.t w.heap.size [43]) ?_
   have k4'1 := k4.below (below_drew W4)
   refine xlv (.o [1] 0) k4'1.rp ?_
   have k1'1 := (u4.blk (k1.below n3.below) (Ne.symm (Ne.symm d3_b1))).below (below_drew W4)
   have g1 := n1.ge (Below.refl w.heap.size _)
   refine ysv (.o [] 2) k1'1 [.slice a9 1 d9, .int .i64 (idxErr l index)] (.t w.heap.size [43]) fun W5 u5 k5 => ⟨(sft_upd u5 k1'1 g1 (by decide)), ?_⟩
   have hf9'1 := u5.own2 (own_below (u4.own2 (own_below (own_mono hf9 n1.below.size) n3.below) n3.blk (by decide)) (below_drew W4)) k1'1 (by decide)
   have hB'2 := u5.below (Bl.next (u4.below (Bl.next hB'1 n3.below) g3) (below_drew W4)) g1
   exact xec 4 k5 (.tuple #[.slice none 0 0, .agg #[.slice a9 1 d9, .int .i64 (idxErr l index)]]) (rout_bad (metaO_err hie) hie rfl hB'2 hf9'1)
 refine xa 3 [.slice none 0 0, .int .i64 0] 43 fun b6 W6 n6 => ?_
 have k1 := n1.blk.below hb2
 have d6_b1 := n6.ne k1
 have hB'3 := Bl.next n1.below hb2
 have g6 := n6.ge hB'3
 refine xsv 1 n6.blk [.slice a9 0 d9, .int .i64 0] fun W7 u7 k7 => ?_
 refine xb 6 1 k7 ?_
 refine xr 12 (args := #[.int .i64 n]) (ref20_BitmapsL n _ hn) fun W8 hb8 => ?_
 refine xin 3 (↑((idxR l index).length) : Int) (↑(bmI n) : Int) (fun hc9 => ?_) (fun hc9 => ?_)
 · have hne : (idxR l index).length ≠ bmI n := by omega
   refine xc 3 (args := #[.int .i64 index, .int .i64 7]) (ref11_AtK index 7 _ (by decide)) ?_
   rintro _ W10 ⟨pa, ca, rfl, hb10, hva⟩
   have hs10 := (Bl.next (u7.below (Bl.next hB'3 n6.below) g6) hb8).size
   have k1'2 := ((u7.blk (k1.below n6.below) (Ne.symm (Ne.symm d6_b1))).below hb8).below hb10
   refine xsv 1 k1'2 [.slice pa 1 ca, .int .i64 7] fun W11 u11 k11 => ?_
   have g1 := n1.ge (Below.refl w.heap.size _)
   have hva'1 := u11.own2 (own_mono hva hs10) k1'2 (by decide)
   have hB'4 := u11.below (Bl.next (Bl.next (u7.below (Bl.next hB'3 n6.below) g6) hb8) hb10) g1
   exact xec 4 k11 (.tuple #[.slice none 0 0, .agg #[.slice pa 1 ca, .int .i64 7]]) (rout_bad (metaO_len hie hne) (by decide) rfl hB'4 hva'1)
 have hlen : (idxR l index).length = bmI n := by omega
 have hxm := bmI_le hn
 have hXl : ((idxR l index).map (plcS index)).length = (idxR l index).length := List.length_map _
 have hsl'1 := own_below (u7.own2 (own_below (own_mono hsl n1.below.size) n6.below) n6.blk (by decide)) hb8
 have hB'5 := Bl.next (u7.below (Bl.next hB'3 n6.below) g6) hb8
 have k1'3 := (u7.blk (k1.below n6.below) (Ne.symm (Ne.symm d6_b1))).below hb8
 have k7'1 := k7.below hb8
 refine zl 14 69 (fun zm zkv V => ∃ (i : Nat) (gs : List (Nat × Nat)) (pq : Option Addr) (cq : Nat), zkv = [(0, .pointer (some ⟨bm, 0, none⟩)), (1, .int .i64 index), (2, .int .i64 over), (3, .int .i64 n), (4, .int .i64 fuel), (11, .pointer (some ⟨b1, 0, none⟩)), (12, .slice ps ((idxR l index).length) cs), (14, .slice pq i cq), (15, .int .i64 (↑i : Int))] ∧ zm = (idxR l index).length - ((↑i : Int)).toNat ∧ Below w.heap.size w V ∧ Blk V b1 ([.slice none 0 0, .int .i64 0]) 43 ∧ Blk V b6 ([.slice a9 0 d9, .int .i64 0]) 43 ∧ V.ownsRow w.heap.size 79 3 (.slice ps (idxR l index).length cs) (idxR l index).length ((idxR l index).flatMap sltC) ∧ V.ownsRow w.heap.size 30 1 (.slice pq i cq) i ((List.range i).map (lstV gs (allL l ((idxR l index).map (plcS index)) n i))) ∧ Each V w.heap.size gs (allL l ((idxR l index).map (plcS index)) n i) ∧ i ≤ (idxR l index).length ∧ gs.length = i ∧ allK l ((idxR l index).map (plcS index)) n i) ⟨0, [], none, 0, rfl, rfl, hB'5, k1'3, k7'1, hsl'1, World.ownsRow_nil _ _ _ _, (fun j hj => absurd hj (by rw [allL_len]; omega)), Nat.zero_le _, rfl, (fun j hj => absurd hj (by omega))⟩ ?_
 rintro _ _ W12 ⟨i, gs, pq, cq, rfl, rfl, hB_12, k12_b1, k12_b6, hsl, ho, hEa, hi, hgl, hok⟩ J12 hJ12 r12
 have hrm := fun (q : i < (idxR l index).length) => rem_in hlen q
 refine xid 9 ((↑i : Int) < (↑((idxR l index).length) : Int)) (fun hc13 => ?_) (fun hc13 => ?_)
 · refine xd 5 (.t w.heap.size [43]) ?_
   have hsl'2 := own_below hsl (below_drew W12)
   refine xx (.e [0, 1, 2] 3) _ ((idxR l index).length) i 3 (Sts.cell (f := sltC) (own_sl hsl'2) sltC_len sl0 (k := i) (i := 0) (by omega) rfl).1 ?_
   refine xlvt (.e [] 4) (.t w.heap.size [43]) (fun V hV => (Sts.rp (k := i) (own_sl (own_only hsl'2 hV.2 (by decide))) sltC_len sl0 (by omega) (by decide))) ?_
   refine xm2 (.b [5, 6, 7]) 8 13 ?_ ?_
   · have hxi := plcS_at (sl := (idxR l index)) (at0 := index) (i := i) (by omega)
     refine xr 0 (args := #[.int .i64 n, .int .i64 (↑i : Int)]) (ref23_want n i _ (by omega) hn (by have := (hrm (by omega)).2.1; omega)) fun W14 hb14 => ?_
     refine xm2 0 9 13 ?_ ?_
     · have hB'6 := Bl.next (Bl.next hB_12 (below_drew W12)) hb14
       refine yc 0 (args := #[.pointer (some ⟨bm, 0, none⟩), .agg #[.int .i64 (↑((idxR l index).getD i sl0).1 : Int), .int .i64 (↑((idxR l index).getD i sl0).2.1 : Int), .int .i64 (↑((idxR l index).getD i sl0).2.2 : Int)], .int .i64 index, .int .i64 (wantI n i)]) (.t w.heap.size [43]) (ref23_oneI B bm p k c l ((idxR l index).map (plcS index)) n i (plcS index ((idxR l index).getD i sl0)) _ (hI.below hB'6) hxi rfl (hrm (by omega)).2.2.2.1) ?_
       rintro e W15 hq15
       rcases hq15 with ⟨hbe, p9, c9, a9, d9, rfl, hb15, hf9⟩ | ⟨hbe, g9, c9, a9, d9, rfl, hb15, ho9⟩
       · have hs15 := (Bl.next (Bl.next hB_12 (below_drew W12)) hb14).size
         refine ⟨(SF.of_below _ hb15), ?_⟩
         refine xa (.o [10, 11, 12] 13) [.slice none 0 0, .int .i64 0] 43 fun b16 W16 n16 => ?_
         have k12_b1'1 := ((k12_b1.below (below_drew W12)).below hb14).below hb15
         have d16_b1 := n16.ne k12_b1'1
         have k12_b6'1 := ((k12_b6.below (below_drew W12)).below hb14).below hb15
         have d16_b6 := n16.ne k12_b6'1
         have hB'7 := Bl.next hB'6 hb15
         have g16 := n16.ge hB'7
         refine ysv (.o [14] 15) n16.blk [.slice a9 ((oneI l ((idxR l index).map (plcS index)) n i).1.length) d9, .int .i64 ((oneI l ((idxR l index).map (plcS index)) n i).2.1)] (.t w.heap.size [43]) fun W17 u17 k17 => ⟨(sft_upd u17 n16.blk g16 (by decide)), ?_⟩
         refine xb 6 1 k17 ?_
         refine xk 3 (show (((oneI l ((idxR l index).map (plcS index)) n i).2.1 != (0 : Int)) : Bool) = true from bne_iff_ne.2 hbe) ?_
         refine xd 1 (.t w.heap.size [43]) ?_
         have k17'1 := k17.below (below_drew W17)
         refine xlv (.o [1] 0) k17'1.rp ?_
         have k12_b1'2 := (u17.blk (k12_b1'1.below n16.below) (Ne.symm (Ne.symm d16_b1))).below (below_drew W17)
         have g1 := n1.ge (Below.refl w.heap.size _)
         refine ysv (.o [] 2) k12_b1'2 [.slice a9 ((oneI l ((idxR l index).map (plcS index)) n i).1.length) d9, .int .i64 ((oneI l ((idxR l index).map (plcS index)) n i).2.1)] (.t w.heap.size [43]) fun W18 u18 k18 => ⟨(sft_upd u18 k12_b1'2 g1 (by decide)), ?_⟩
         have hf9'2 := u18.own2 (own_below (u17.own2 (own_below (own_mono hf9 hs15) n16.below) n16.blk (by decide)) (below_drew W17)) k12_b1'2 (by decide)
         have hB'8 := u18.below (Bl.next (u17.below (Bl.next hB'7 n16.below) g16) (below_drew W17)) g1
         refine xec 9 k18 (.tuple #[.slice none 0 0, .agg #[.slice a9 ((oneI l ((idxR l index).map (plcS index)) n i).1.length) d9, .int .i64 ((oneI l ((idxR l index).map (plcS index)) n i).2.1)]]) ?_
         rw [metaO_all hie hlen, allO_bad (by omega) hok hbe]
         exact .inl ⟨hbe, none, 0, a9, d9, rfl, hB'8, hf9'2⟩
       have hs15 := (Bl.next (Bl.next hB_12 (below_drew W12)) hb14).size
       refine ⟨(SF.of_below _ hb15), ?_⟩
       refine xa (.o [10, 11, 12] 13) [.slice none 0 0, .int .i64 0] 43 fun b19 W19 n19 => ?_
       have k12_b1'3 := ((k12_b1.below (below_drew W12)).below hb14).below hb15
       have d19_b1 := n19.ne k12_b1'3
       have k12_b6'2 := ((k12_b6.below (below_drew W12)).below hb14).below hb15
       have d19_b6 := n19.ne k12_b6'2
       have hB'9 := Bl.next hB'6 hb15
       have g19 := n19.ge hB'9
       refine ysv (.o [14] 15) n19.blk [.slice a9 0 d9, .int .i64 0] (.t w.heap.size [43]) fun W20 u20 k20 => ⟨(sft_upd u20 n19.blk g19 (by decide)), ?_⟩
       refine xb 6 1 k20 ?_
       refine xbs 9 1 [.slice (some ⟨g9, 0, none⟩) ((bitR l (↑(((idxR l index).map (plcS index)).getD i plc0).1.1 : Int)).length) c9] 30 fun b21 W21 n21 => ?_
       have hB'10 := u20.below (Bl.next hB'9 n19.below) g19
       have g21 := n21.ge hB'10
       have ho'1 := u20.own2 (own_below (own_below (own_below (own_below ho (below_drew W12)) hb14) hb15) n19.below) n19.blk (by decide)
       have r21_ho := own_ne ho'1 n21
       have ho'2 := own_below ho'1 n21.below
       have hB'11 := Bl.next hB'10 n21.below
       refine xbi 0 fun _ _ _ _ zJ zQ zo zx zy zK => op_app (m := 1) (news := [.slice (some ⟨g9, 0, none⟩) ((bitR l (↑(((idxR l index).map (plcS index)).getD i plc0).1.1 : Int)).length) c9]) (.slice none 0 0) 1 24 (i + 1) (((List.range (i + 1)).map (lstV (gs ++ [(g9, c9)]) (allL l ((idxR l index).map (plcS index)) n (i + 1))))) zo Tryz.underlying91 (by kernel_rfl) rfl (by decide) zx ho'2 zy (n21.blk.sl 1 1 (by decide) (by decide)) rfl (by simp [Value.oneCell']) (by unfold maxLen; omega) (by omega) hB'11.size (rfl) (by rw [← rows_snoc hgl]) fun px22 cx22 W22 o22 hg22 hb22 => ?_
       refine zK _ _ ?_
       refine xwm 6 ((↑i : Int) + 1) (↑(i + 1) : Int) ?_
       have hEa'1 := ((((((hEa.below (below_drew W12)).below hb14).below hb15).below n19.below).only (Only.of_upd (T := [43]) u20 n19.blk (by decide)) (by decide)).below n21.below).only (Only.of_grown (T := [30]) hg22 ho'2 (by decide)) (by decide)
       have ho9'1 := own_grown (own_below (u20.own2 (own_below (own_mono ho9 hs15) n19.below) n19.blk (by decide)) n21.below) hg22 ho'2 (by decide)
       have hB'12 := hB'11.trans hb22
       have k12_b1'4 := ((u20.blk (k12_b1'3.below n19.below) (Ne.symm (Ne.symm d19_b1))).below n21.below).grown hg22 ho'2 (by decide)
       have k12_b6'3 := ((u20.blk (k12_b6'2.below n19.below) (Ne.symm (Ne.symm d19_b6))).below n21.below).grown hg22 ho'2 (by decide)
       have hsl'3 := own_grown (own_below (u20.own2 (own_below (own_below (own_below hsl'2 hb14) hb15) n19.below) n19.blk (by decide)) n21.below) hg22 ho'2 (by decide)
       exact ze 2 (hJ12 _ _ _ ⟨i + 1, gs ++ [(g9, c9)], _, _, rfl, rfl, hB'12, k12_b1'4, k12_b6'3, hsl'3, o22, (each_snoc hEa'1 hgl ho9'1), by omega, by rw [List.length_append, hgl]; rfl, allK_next hok hbe⟩ (by omega))
     refine xa 0 [.slice none 0 0, .int .i64 0] 43 fun b23 W23 n23 => ?_
     have k12_b1'5 := (k12_b1.below (below_drew W12)).below hb14
     have d23_b1 := n23.ne k12_b1'5
     have k12_b6'4 := (k12_b6.below (below_drew W12)).below hb14
     have d23_b6 := n23.ne k12_b6'4
     have hB'13 := Bl.next (Bl.next hB_12 (below_drew W12)) hb14
     have g23 := n23.ge hB'13
     have hB'14 := Bl.next hB'13 n23.below
     refine yc (.o [] 9) (args := #[.pointer (some ⟨bm, 0, none⟩), .agg #[.int .i64 (↑((idxR l index).getD i sl0).1 : Int), .int .i64 (↑((idxR l index).getD i sl0).2.1 : Int), .int .i64 (↑((idxR l index).getD i sl0).2.2 : Int)], .int .i64 index, .int .i64 (wantI n i)]) (.t w.heap.size [43]) (ref23_oneI B bm p k c l ((idxR l index).map (plcS index)) n i (plcS index ((idxR l index).getD i sl0)) _ (hI.below hB'14) hxi rfl (hrm (by omega)).2.2.2.1) ?_
     rintro e W24 hq24
     rcases hq24 with ⟨hbe, p9, c9, a9, d9, rfl, hb24, hf9⟩ | ⟨hbe, g9, c9, a9, d9, rfl, hb24, ho9⟩
     · have hs24 := (Bl.next hB'13 n23.below).size
       refine ⟨(SF.of_below _ hb24), ?_⟩
       have k23 := n23.blk.below hb24
       refine ysv (.o [10, 11, 12, 14] 15) k23 [.slice a9 ((oneI l ((idxR l index).map (plcS index)) n i).1.length) d9, .int .i64 ((oneI l ((idxR l index).map (plcS index)) n i).2.1)] (.t w.heap.size [43]) fun W25 u25 k25 => ⟨(sft_upd u25 k23 g23 (by decide)), ?_⟩
       refine xb 6 1 k25 ?_
       refine xk 3 (show (((oneI l ((idxR l index).map (plcS index)) n i).2.1 != (0 : Int)) : Bool) = true from bne_iff_ne.2 hbe) ?_
       refine xd 1 (.t w.heap.size [43]) ?_
       have k25'1 := k25.below (below_drew W25)
       refine xlv (.o [1] 0) k25'1.rp ?_
       have k12_b1'6 := (u25.blk ((k12_b1'5.below n23.below).below hb24) (Ne.symm (Ne.symm d23_b1))).below (below_drew W25)
       have g1 := n1.ge (Below.refl w.heap.size _)
       refine ysv (.o [] 2) k12_b1'6 [.slice a9 ((oneI l ((idxR l index).map (plcS index)) n i).1.length) d9, .int .i64 ((oneI l ((idxR l index).map (plcS index)) n i).2.1)] (.t w.heap.size [43]) fun W26 u26 k26 => ⟨(sft_upd u26 k12_b1'6 g1 (by decide)), ?_⟩
       have hf9'3 := u26.own2 (own_below (u25.own2 (own_mono hf9 hs24) k23 (by decide)) (below_drew W25)) k12_b1'6 (by decide)
       have hB'15 := u26.below (Bl.next (u25.below (Bl.next hB'14 hb24) g23) (below_drew W25)) g1
       refine xec 9 k26 (.tuple #[.slice none 0 0, .agg #[.slice a9 ((oneI l ((idxR l index).map (plcS index)) n i).1.length) d9, .int .i64 ((oneI l ((idxR l index).map (plcS index)) n i).2.1)]]) ?_
       rw [metaO_all hie hlen, allO_bad (by omega) hok hbe]
       exact .inl ⟨hbe, none, 0, a9, d9, rfl, hB'15, hf9'3⟩
     have hs24 := (Bl.next hB'13 n23.below).size
     refine ⟨(SF.of_below _ hb24), ?_⟩
     have k23 := n23.blk.below hb24
     refine ysv (.o [10, 11, 12, 14] 15) k23 [.slice a9 0 d9, .int .i64 0] (.t w.heap.size [43]) fun W27 u27 k27 => ⟨(sft_upd u27 k23 g23 (by decide)), ?_⟩
     refine xb 6 1 k27 ?_
     refine xbs 9 1 [.slice (some ⟨g9, 0, none⟩) ((bitR l (↑(((idxR l index).map (plcS index)).getD i plc0).1.1 : Int)).length) c9] 30 fun b28 W28 n28 => ?_
     have hB'16 := u27.below (Bl.next hB'14 hb24) g23
     have g28 := n28.ge hB'16
     have ho'3 := u27.own2 (own_below (own_below (own_below (own_below ho (below_drew W12)) hb14) n23.below) hb24) k23 (by decide)
     have r28_ho := own_ne ho'3 n28
     have ho'4 := own_below ho'3 n28.below
     have hB'17 := Bl.next hB'16 n28.below
     refine xbi 0 fun _ _ _ _ zJ zQ zo zx zy zK => op_app (m := 1) (news := [.slice (some ⟨g9, 0, none⟩) ((bitR l (↑(((idxR l index).map (plcS index)).getD i plc0).1.1 : Int)).length) c9]) (.slice none 0 0) 1 24 (i + 1) (((List.range (i + 1)).map (lstV (gs ++ [(g9, c9)]) (allL l ((idxR l index).map (plcS index)) n (i + 1))))) zo Tryz.underlying91 (by kernel_rfl) rfl (by decide) zx ho'4 zy (n28.blk.sl 1 1 (by decide) (by decide)) rfl (by simp [Value.oneCell']) (by unfold maxLen; omega) (by omega) hB'17.size (rfl) (by rw [← rows_snoc hgl]) fun px29 cx29 W29 o29 hg29 hb29 => ?_
     refine zK _ _ ?_
     refine xwm 6 ((↑i : Int) + 1) (↑(i + 1) : Int) ?_
     have hEa'2 := ((((((hEa.below (below_drew W12)).below hb14).below n23.below).below hb24).only (Only.of_upd (T := [43]) u27 k23 (by decide)) (by decide)).below n28.below).only (Only.of_grown (T := [30]) hg29 ho'4 (by decide)) (by decide)
     have ho9'2 := own_grown (own_below (u27.own2 (own_mono ho9 hs24) k23 (by decide)) n28.below) hg29 ho'4 (by decide)
     have hB'18 := hB'17.trans hb29
     have k12_b1'7 := ((u27.blk ((k12_b1'5.below n23.below).below hb24) (Ne.symm (Ne.symm d23_b1))).below n28.below).grown hg29 ho'4 (by decide)
     have k12_b6'5 := ((u27.blk ((k12_b6'4.below n23.below).below hb24) (Ne.symm (Ne.symm d23_b6))).below n28.below).grown hg29 ho'4 (by decide)
     have hsl'4 := own_grown (own_below (u27.own2 (own_below (own_below (own_below hsl'2 hb14) n23.below) hb24) k23 (by decide)) n28.below) hg29 ho'4 (by decide)
     exact ze 2 (hJ12 _ _ _ ⟨i + 1, gs ++ [(g9, c9)], _, _, rfl, rfl, hB'18, k12_b1'7, k12_b6'5, hsl'4, o29, (each_snoc hEa'2 hgl ho9'2), by omega, by rw [List.length_append, hgl]; rfl, allK_next hok hbe⟩ (by omega))
   refine xa 0 [.slice none 0 0, .int .i64 0] 43 fun b30 W30 n30 => ?_
   have k12_b1'8 := k12_b1.below (below_drew W12)
   have d30_b1 := n30.ne k12_b1'8
   have k12_b6'6 := k12_b6.below (below_drew W12)
   have d30_b6 := n30.ne k12_b6'6
   have hB'19 := Bl.next hB_12 (below_drew W12)
   have g30 := n30.ge hB'19
   have hxi := plcS_at (sl := (idxR l index)) (at0 := index) (i := i) (by omega)
   refine xr (.o [] 8) (args := #[.int .i64 n, .int .i64 (↑i : Int)]) (ref23_want n i _ (by omega) hn (by have := (hrm (by omega)).2.1; omega)) fun W31 hb31 => ?_
   have hB'20 := Bl.next (Bl.next hB'19 n30.below) hb31
   refine yc (.o [] 9) (args := #[.pointer (some ⟨bm, 0, none⟩), .agg #[.int .i64 (↑((idxR l index).getD i sl0).1 : Int), .int .i64 (↑((idxR l index).getD i sl0).2.1 : Int), .int .i64 (↑((idxR l index).getD i sl0).2.2 : Int)], .int .i64 index, .int .i64 (wantI n i)]) (.t w.heap.size [43]) (ref23_oneI B bm p k c l ((idxR l index).map (plcS index)) n i (plcS index ((idxR l index).getD i sl0)) _ (hI.below hB'20) hxi rfl (hrm (by omega)).2.2.2.1) ?_
   rintro e W32 hq32
   rcases hq32 with ⟨hbe, p9, c9, a9, d9, rfl, hb32, hf9⟩ | ⟨hbe, g9, c9, a9, d9, rfl, hb32, ho9⟩
   · have hs32 := (Bl.next (Bl.next hB'19 n30.below) hb31).size
     refine ⟨(SF.of_below _ hb32), ?_⟩
     have k30 := (n30.blk.below hb31).below hb32
     refine ysv (.o [10, 11, 12, 14] 15) k30 [.slice a9 ((oneI l ((idxR l index).map (plcS index)) n i).1.length) d9, .int .i64 ((oneI l ((idxR l index).map (plcS index)) n i).2.1)] (.t w.heap.size [43]) fun W33 u33 k33 => ⟨(sft_upd u33 k30 g30 (by decide)), ?_⟩
     refine xb 6 1 k33 ?_
     refine xk 3 (show (((oneI l ((idxR l index).map (plcS index)) n i).2.1 != (0 : Int)) : Bool) = true from bne_iff_ne.2 hbe) ?_
     refine xd 1 (.t w.heap.size [43]) ?_
     have k33'1 := k33.below (below_drew W33)
     refine xlv (.o [1] 0) k33'1.rp ?_
     have k12_b1'9 := (u33.blk (((k12_b1'8.below n30.below).below hb31).below hb32) (Ne.symm (Ne.symm d30_b1))).below (below_drew W33)
     have g1 := n1.ge (Below.refl w.heap.size _)
     refine ysv (.o [] 2) k12_b1'9 [.slice a9 ((oneI l ((idxR l index).map (plcS index)) n i).1.length) d9, .int .i64 ((oneI l ((idxR l index).map (plcS index)) n i).2.1)] (.t w.heap.size [43]) fun W34 u34 k34 => ⟨(sft_upd u34 k12_b1'9 g1 (by decide)), ?_⟩
     have hf9'4 := u34.own2 (own_below (u33.own2 (own_mono hf9 hs32) k30 (by decide)) (below_drew W33)) k12_b1'9 (by decide)
     have hB'21 := u34.below (Bl.next (u33.below (Bl.next hB'20 hb32) g30) (below_drew W33)) g1
     refine xec 9 k34 (.tuple #[.slice none 0 0, .agg #[.slice a9 ((oneI l ((idxR l index).map (plcS index)) n i).1.length) d9, .int .i64 ((oneI l ((idxR l index).map (plcS index)) n i).2.1)]]) ?_
     rw [metaO_all hie hlen, allO_bad (by omega) hok hbe]
     exact .inl ⟨hbe, none, 0, a9, d9, rfl, hB'21, hf9'4⟩
   have hs32 := (Bl.next (Bl.next hB'19 n30.below) hb31).size
   refine ⟨(SF.of_below _ hb32), ?_⟩
   have k30 := (n30.blk.below hb31).below hb32
   refine ysv (.o [10, 11, 12, 14] 15) k30 [.slice a9 0 d9, .int .i64 0] (.t w.heap.size [43]) fun W35 u35 k35 => ⟨(sft_upd u35 k30 g30 (by decide)), ?_⟩
   refine xb 6 1 k35 ?_
   refine xbs 9 1 [.slice (some ⟨g9, 0, none⟩) ((bitR l (↑(((idxR l index).map (plcS index)).getD i plc0).1.1 : Int)).length) c9] 30 fun b36 W36 n36 => ?_
   have hB'22 := u35.below (Bl.next hB'20 hb32) g30
   have g36 := n36.ge hB'22
   have ho'5 := u35.own2 (own_below (own_below (own_below (own_below ho (below_drew W12)) n30.below) hb31) hb32) k30 (by decide)
   have r36_ho := own_ne ho'5 n36
   have ho'6 := own_below ho'5 n36.below
   have hB'23 := Bl.next hB'22 n36.below
   refine xbi 0 fun _ _ _ _ zJ zQ zo zx zy zK => op_app (m := 1) (news := [.slice (some ⟨g9, 0, none⟩) ((bitR l (↑(((idxR l index).map (plcS index)).getD i plc0).1.1 : Int)).length) c9]) (.slice none 0 0) 1 24 (i + 1) (((List.range (i + 1)).map (lstV (gs ++ [(g9, c9)]) (allL l ((idxR l index).map (plcS index)) n (i + 1))))) zo Tryz.underlying91 (by kernel_rfl) rfl (by decide) zx ho'6 zy (n36.blk.sl 1 1 (by decide) (by decide)) rfl (by simp [Value.oneCell']) (by unfold maxLen; omega) (by omega) hB'23.size (rfl) (by rw [← rows_snoc hgl]) fun px37 cx37 W37 o37 hg37 hb37 => ?_
   refine zK _ _ ?_
   refine xwm 6 ((↑i : Int) + 1) (↑(i + 1) : Int) ?_
   have hEa'3 := ((((((hEa.below (below_drew W12)).below n30.below).below hb31).below hb32).only (Only.of_upd (T := [43]) u35 k30 (by decide)) (by decide)).below n36.below).only (Only.of_grown (T := [30]) hg37 ho'6 (by decide)) (by decide)
   have ho9'3 := own_grown (own_below (u35.own2 (own_mono ho9 hs32) k30 (by decide)) n36.below) hg37 ho'6 (by decide)
   have hB'24 := hB'23.trans hb37
   have k12_b1'10 := ((u35.blk (((k12_b1'8.below n30.below).below hb31).below hb32) (Ne.symm (Ne.symm d30_b1))).below n36.below).grown hg37 ho'6 (by decide)
   have k12_b6'7 := ((u35.blk (((k12_b6'6.below n30.below).below hb31).below hb32) (Ne.symm (Ne.symm d30_b6))).below n36.below).grown hg37 ho'6 (by decide)
   have hsl'5 := own_grown (own_below (u35.own2 (own_below (own_below (own_below hsl'2 n30.below) hb31) hb32) k30 (by decide)) n36.below) hg37 ho'6 (by decide)
   exact ze 2 (hJ12 _ _ _ ⟨i + 1, gs ++ [(g9, c9)], _, _, rfl, rfl, hB'24, k12_b1'10, k12_b6'7, hsl'5, o37, (each_snoc hEa'3 hgl ho9'3), by omega, by rw [List.length_append, hgl]; rfl, allK_next hok hbe⟩ (by omega))
 have hiE : i = (idxR l index).length := by omega
 have hr9 := ho
 have he9 := hEa
 rw [hiE] at hr9 he9 hok
 have hfo := allL_form (l := l) (X := ((idxR l index).map (plcS index))) (n := n) (by rw [hXl]; exact hok) (by rw [hXl]; exact hlen)
 rw [hXl] at hfo
 refine xc 11 (args := #[.pointer (some ⟨bm, 0, none⟩), .slice pq i cq, .int .i64 over, .int .i64 fuel]) (ref23_restN i B bm p k c l w.heap.size pq cq gs (allL l ((idxR l index).map (plcS index)) n (idxR l index).length) over fuel _ (by rw [allL_len]; exact hiE.symm) (hI.below hB_12) (lists_all hr9 he9) hfo (by rw [allL_len]; omega) hfu) ?_
 rintro e W38 hq38
 rcases hq38 with ⟨hbe, pr, cr, ar, dr, rfl, hb38, hf9⟩ | ⟨hbe, pr, cr, ar, dr, rfl, hb38, ho9⟩
 · have k12_b1'11 := k12_b1.below hb38
   refine xsv 3 k12_b1'11 [.slice ar ((restO l (allL l ((idxR l index).map (plcS index)) n (idxR l index).length) over fuel).1.length) dr, .int .i64 ((restO l (allL l ((idxR l index).map (plcS index)) n (idxR l index).length) over fuel).2.1)] fun W39 u39 k39 => ?_
   have g1 := n1.ge (Below.refl w.heap.size _)
   have hf9'5 := u39.own2 (own_mono hf9 hB_12.size) k12_b1'11 (by decide)
   have hB'25 := u39.below (Bl.next hB_12 hb38) g1
   refine xec 3 k39 (.tuple #[.slice pr 0 cr, .agg #[.slice ar ((restO l (allL l ((idxR l index).map (plcS index)) n (idxR l index).length) over fuel).1.length) dr, .int .i64 ((restO l (allL l ((idxR l index).map (plcS index)) n (idxR l index).length) over fuel).2.1)]]) ?_
   rw [metaO_all hie hlen, allO_ok (by rw [hXl]; exact hok), hXl]
   exact .inl ⟨hbe, pr, cr, ar, dr, rfl, hB'25, hf9'5⟩
 have k12_b1'12 := k12_b1.below hb38
 refine xsv 3 k12_b1'12 [.slice ar 0 dr, .int .i64 0] fun W40 u40 k40 => ?_
 have g1 := n1.ge (Below.refl w.heap.size _)
 have ho9'4 := u40.own2 (own_mono ho9 hB_12.size) k12_b1'12 (by decide)
 have hB'26 := u40.below (Bl.next hB_12 hb38) g1
 refine xec 3 k40 (.tuple #[.slice pr ((restO l (allL l ((idxR l index).map (plcS index)) n (idxR l index).length) over fuel).2.2.length) cr, .agg #[.slice ar 0 dr, .int .i64 0]]) ?_
 rw [metaO_all hie hlen, allO_ok (by rw [hXl]; exact hok), hXl]
 exact .inr ⟨hbe, pr, cr, ar, dr, rfl, hB'26, ho9'4⟩
end Go.Proofs.YthlakkdgcgkcdaaGreatDoor
namespace Go.Proofs.YthlakkdgcgkcdaaGreatDoor
open Go.RowKit Go.Extern.Stop Go.Stop Go.Extern
set_option linter.unusedVariables false

def dmgV (kind at_ code : Int) : Value := .agg #[.int .i64 kind, .int .i64 at_, .int .i64 code]
theorem res_dmg {w : World} {B : Nat} {a b c : Int} {t : TypeId} (h : Blk w B [.int .i64 a, .int .i64 b, .int .i64 c] t) {fn : Func} {k : Nat} {tmps : Array Value} (hfn : fn.results = #[.cell k 53]) (e : tmps.getD k undef = .pointer (some ⟨B, 0, none⟩)) :
    (results fn tmps).run Tryz.prog w = .ok (dmgV a b c) w := by
  have c0 := h.cell (i := 0) rfl
  have c1 := h.cell (i := 1) rfl
  have c2 := h.cell (i := 2) rfl
  have e' : tmps[k]?.getD undef = .pointer (some ⟨B, 0, none⟩) := by simpa using e
  simp [results, hfn, go_sem, c0, c1, c2, e', dmgV]
theorem ref28_Damage (a b c : Int) (w : World) : Calls Tryz.prog 46 #[.int .i64 a, .int .i64 b, .int .i64 c] w (Ret (dmgV a b c) w) := by
  go_enter Tryz.func46, Tryz.ntmps46
  go_wp2_with fail
  exact bodyPost_ret (res_dmg (Blk.new w [.int .i64 a, .int .i64 b, .int .i64 c] 53) rfl rfl) rfl ⟨rfl, Bl.box _ _⟩
/-- the last block of an error, or -1 -/
def lastB (l : List Int) : Int := l.getLast?.getD (-1)
theorem lastB_nil {l : List Int} (h : l.length = 0) : lastB l = -1 := by rw [List.length_eq_zero_iff.1 h]; rfl
theorem lastB_get {l : List Int} (h : 0 < l.length) : lastB l = l[l.length - 1] := by
  rw [lastB, List.getLast?_eq_getElem?, List.getElem?_eq_getElem (by omega)]; rfl

set_option maxRecDepth 100000 in
set_option maxHeartbeats 2000000 in
theorem audit_Of (kind : Int) (t : Option Int) (l : List (Option Int)) (v : Value) (w : World) (hlen : l.length ≤ 1000000) (hg : ErrT w) (hv : ErrV w l t v) :
    Calls Tryz.prog 24 #[.int .i64 kind, v] w (Ret (dmgV kind (lastB (blocksOf l)) (codeOf l t)) w) := by
  have hB := Bl.box w (.cells #[.int .i64 0, .int .i64 0, .int .i64 0] 53)
  have k0 := Blk.new w [.int .i64 0, .int .i64 0, .int .i64 0] 53
  have hBk := fault_Blocks t l v _ hlen (hv.below hB)
  have hCd := fun (W : World) (hW : Below w.heap.size w W) => fault_Code t l v W (hg.below hW) (hv.below hW)
  clear hv hg hlen
  generalize codeOf l t = c at hCd ⊢
  generalize blocksOf l = L at hBk ⊢
  obtain ⟨q, hq⟩ : ∃ q, lastB L = q := ⟨_, rfl⟩
  rw [hq]
  have HQ := Lib.hid hq; clear hq
  go_enter Tryz.func24, Tryz.ntmps24
  go_wp2_with fail
  refine hBk.mono ?_
  rintro e w1 ⟨r, rfl, hb1, h1⟩
  have hB1 := Bl.next hB hb1
  have k1 := k0.below hb1
  have hs := own_sl h1
  obtain ⟨a, m, rfl⟩ := hs.slice
  have hC := hCd w1 hB1
  clear hb1 k0 h1 hB hCd hBk
  have hL := hs.len
  by_cases h0 : L.length = 0
  · have HQ2 := Lib.hid (lastB_nil h0)
    have h0' : ¬ ((0 : Int) < (L.length : Int)) := by omega
    go_wp2_with fail
    refine hC.mono ?_
    rintro e w2 ⟨rfl, hb2⟩
    have k2 := k1.below hb2
    have d0 := k2.cell (i := 0) rfl
    have d1 := k2.cell (i := 1) rfl
    have d2 := k2.cell (i := 2) rfl
    have f0 := k2.frozen 0
    have f1 := k2.frozen 1
    have f2 := k2.frozen 2
    go_wp2_with fail
    exact bodyPost_ret (res_dmg (((k2.set 0 _).set 1 _).set 2 _) rfl rfl) rfl ⟨by rw [← HQ.out, HQ2.out], (((Bl.next hB1 hb2).setCell (Nat.le_refl _) _).setCell (Nat.le_refl _) _).setCell (Nat.le_refl _) _⟩
  · have hp : 0 < L.length := by omega
    have HQ2 := Lib.hid (lastB_get hp)
    have h0' : (0 : Int) < (L.length : Int) := by omega
    rcases Sl.at hs with hn | ⟨b, off, rfl, hcell⟩
    · rw [List.map_eq_nil_iff] at hn; subst hn; exact absurd hp (by simp)
    have ck := hcell (L.length - 1) (.int .i64 L[L.length - 1]) (by simp [List.getElem?_eq_getElem (show L.length - 1 < L.length by omega)])
    have z1 : (L.length : Int) - 1 = ((L.length - 1 : Nat) : Int) := by omega
    have i1 : (0 : Int) ≤ ((L.length - 1 : Nat) : Int) := by omega
    have i2 : ((L.length - 1 : Nat) : Int) < (L.length : Int) := by omega
    clear hcell
    go_wp2_with fail
    refine hC.mono ?_
    rintro e w2 ⟨rfl, hb2⟩
    have k2 := k1.below hb2
    have d0 := k2.cell (i := 0) rfl
    have d1 := k2.cell (i := 1) rfl
    have d2 := k2.cell (i := 2) rfl
    have f0 := k2.frozen 0
    have f1 := k2.frozen 1
    have f2 := k2.frozen 2
    go_wp2_with fail
    exact bodyPost_ret (res_dmg (((k2.set 0 _).set 1 _).set 2 _) rfl rfl) rfl ⟨by rw [← HQ.out, HQ2.out], (((Bl.next hB1 hb2).setCell (Nat.le_refl _) _).setCell (Nat.le_refl _) _).setCell (Nat.le_refl _) _⟩

set_option maxRecDepth 100000 in
set_option maxHeartbeats 2000000 in
theorem ref28_Of (kind : Int) (L : List Int) (c : Int) (v : Value) (w : World) (hv : FltV w v L c) :
    Calls Tryz.prog 25 #[.int .i64 kind, v] w (Ret (dmgV kind (lastB L) c) w) := by
  obtain ⟨s, rfl, hs0⟩ := hv
  obtain ⟨a, m, rfl⟩ := hs0.slice
  have hL := hs0.len
  have hB : Below w.heap.size w ((w.alloc (.cells #[.slice a L.length m, .int .i64 c] 43)).alloc (.cells #[.int .i64 0, .int .i64 0, .int .i64 0] 53)) := Bl.next (Bl.box _ _) (Bl.box _ _)
  have k0 : Blk ((w.alloc (.cells #[.slice a L.length m, .int .i64 c] 43)).alloc (.cells #[.int .i64 0, .int .i64 0, .int .i64 0] 53)) w.heap.size [.slice a L.length m, .int .i64 c] 43 := (Blk.new _ _ _).alloc _
  have k1 := Blk.new (w.alloc (.cells #[.slice a L.length m, .int .i64 c] 43)) [.int .i64 0, .int .i64 0, .int .i64 0] 53
  simp only [World.size_alloc] at k1
  have hs := hs0.below hB
  obtain ⟨q, hq⟩ : ∃ q, lastB L = q := ⟨_, rfl⟩
  rw [hq]
  have HQ := Lib.hid hq; clear hq hs0
  by_cases h0 : L.length = 0
  · have HQ2 := Lib.hid (lastB_nil h0)
    obtain rfl := List.length_eq_zero_iff.1 h0
    simp only [List.length_nil] at hB k0 k1 hs ⊢
    go_enter Tryz.func25, Tryz.ntmps25
    go_wp2_with fail
    refine (ref28_Damage _ _ _ _).mono ?_
    rintro e w2 ⟨rfl, hb2⟩
    have k2 := k1.below hb2
    have d0 := k2.cell (i := 0) rfl
    have d1 := k2.cell (i := 1) rfl
    have d2 := k2.cell (i := 2) rfl
    have f0 := k2.frozen 0
    have f1 := k2.frozen 1
    have f2 := k2.frozen 2
    unfold dmgV
    go_wp2_with fail
    exact bodyPost_ret (res_dmg (((k2.set 0 _).set 1 _).set 2 _) rfl rfl) rfl ⟨by rw [← HQ.out, HQ2.out] <;> rfl, (((Bl.next hB hb2).setCell (by simp) _).setCell (by simp) _).setCell (by simp) _⟩
  · have hp : 0 < L.length := by omega
    have HQ2 := Lib.hid (lastB_get hp)
    have h0' : (0 : Int) < (L.length : Int) := by omega
    rcases Sl.at hs with hn | ⟨b, off, rfl, hcell⟩
    · rw [List.map_eq_nil_iff] at hn; subst hn; exact absurd hp (by simp)
    have ck := hcell (L.length - 1) (.int .i64 L[L.length - 1]) (by simp [List.getElem?_eq_getElem (show L.length - 1 < L.length by omega)])
    have z1 : (L.length : Int) - 1 = ((L.length - 1 : Nat) : Int) := by omega
    have i1 : (0 : Int) ≤ ((L.length - 1 : Nat) : Int) := by omega
    have i2 : ((L.length - 1 : Nat) : Int) < (L.length : Int) := by omega
    clear hcell
    go_enter Tryz.func25, Tryz.ntmps25
    have kk := k0.lt
    have c0 := k0.cell (i := 0) rfl
    have c1 := k0.cell (i := 1) rfl
    go_wp2_with fail
    refine (ref28_Damage _ _ _ _).mono ?_
    rintro e w2 ⟨rfl, hb2⟩
    have k2 := k1.below hb2
    have d0 := k2.cell (i := 0) rfl
    have d1 := k2.cell (i := 1) rfl
    have d2 := k2.cell (i := 2) rfl
    have f0 := k2.frozen 0
    have f1 := k2.frozen 1
    have f2 := k2.frozen 2
    unfold dmgV
    go_wp2_with fail
    exact bodyPost_ret (res_dmg (((k2.set 0 _).set 1 _).set 2 _) rfl rfl) rfl ⟨by rw [← HQ.out, HQ2.out] <;> rfl, (((Bl.next hB hb2).setCell (by simp) _).setCell (by simp) _).setCell (by simp) _⟩
end Go.Proofs.YthlakkdgcgkcdaaGreatDoor
namespace Go.Proofs.YthlakkdgcgkcdaaGreatDoor
open Go.RowKit Go.Extern.Stop Go.Stop Go.Extern
set_option linter.unusedVariables false
attribute [local irreducible] wpList wpAnyH Code.wp Oper.wp

def dmc (d : Int × Int × Int) : List Value := [.int .i64 d.1, .int .i64 d.2.1, .int .i64 d.2.2]
theorem dmc_len (d : Int × Int × Int) : (dmc d).length = 3 := rfl
theorem run_dneq {a : Act} {o : Oper} {p q : Operand} (x y : Int × Int × Int) (ho : o.op = .binOp .neq 53 p q 53) (hx : a.eval p = .agg (dmc x).toArray) (hy : a.eval q = .agg (dmc y).toArray) (V : World) :
    (execOp a.eval o).run Tryz.prog V = .ok (.value (.bool (decide (x ≠ y)))) V := by
  have h1 := Tryz.underlying53
  have h2 := Tryz.underlying3
  have h3 := Tryz.underlying51
  have h4 : Tryz.prog.stoodInHeld 53 = false := by kernel_rfl
  have hb : (binOp .neq 53 (.agg (dmc x).toArray) (.agg (dmc y).toArray)).run Tryz.prog V = .ok (.bool (decide (x ≠ y))) V := by
    obtain ⟨x0, x1, x2⟩ := x
    obtain ⟨y0, y1, y2⟩ := y
    by_cases e0 : x0 = y0
    · subst e0
      by_cases e1 : x1 = y1
      · subst e1
        by_cases e2 : x2 = y2
        · subst e2; simp [dmc, go_sem, Program.fieldsOf, h1, h2, h3, h4, Op.eqFields]
        · simp [dmc, go_sem, Program.fieldsOf, h1, h2, h3, h4, Op.eqFields, e2]
      · simp [dmc, go_sem, Program.fieldsOf, h1, h2, h3, h4, Op.eqFields, e1]
    · simp [dmc, go_sem, Program.fieldsOf, h1, h2, h3, h4, Op.eqFields, e0]
  have hg := run_eqGuard_agg (P := Tryz.prog) (w := V) .neq 53 p q (dmc x).toArray (dmc y).toArray (by kernel_rfl)
  simp only [execOp, ho, hx, hy, Sem.run_bind, hg, Result.andThen_ok, hb]
  rfl
theorem take_next {α : Type} {la lb : List α} (d : α) {k : Nat} (h : la.take k = lb.take k) (hk : k < la.length) (hk2 : k < lb.length) (he : la.getD k d = lb.getD k d) : la.take (k + 1) = lb.take (k + 1) := by
  rw [List.take_succ_eq_append_getElem hk, List.take_succ_eq_append_getElem hk2, h]
  have e : la[k] = lb[k] := by simpa [List.getD, List.getElem?_eq_getElem hk, List.getElem?_eq_getElem hk2] using he
  rw [e]
set_option maxRecDepth 100000 in
set_option maxHeartbeats 1000000 in
theorem ref28_Same (a b : Option Addr) (ca cb : Nat) (la lb : List (Int × Int × Int)) (w : World) (ha : Sts dmc w (.slice a la.length ca) la) (hb : Sts dmc w (.slice b lb.length cb) lb) :
    Calls Tryz.prog 14 #[.slice a la.length ca, .slice b lb.length cb] w (Ret (.bool (decide (la = lb))) w) := by
  have hLa := Sl.len ha
  refine calls_of_wp Tryz.func14 rfl ?_
  refine g_fr ⟨#[.slice a la.length ca, .slice b lb.length cb, undef, undef, undef, undef, undef, undef, undef, undef, undef, undef, undef, undef, undef, undef, undef, undef, undef, undef, undef, undef, undef, undef, undef, undef], []⟩ (by kernel_rfl) ?_
  refine wp_seq ?_
  refine wp_region_lit ?_
  refine g_pure 1 ⟨#[.slice a la.length ca, .slice b lb.length cb, undef, undef, .bool false, undef, undef, undef, undef, undef, undef, undef, undef, undef, undef, undef, undef, undef, undef, undef, undef, undef, undef, undef, undef, undef], []⟩ (by kernel_rfl) ?_
  refine wpList_nil ?_
  refine wp_seq ?_
  refine wp_seq ?_
  refine wp_region_lit ?_
  refine g_pure 5 ⟨#[.slice a la.length ca, .slice b lb.length cb, undef, undef, .bool false, undef, .slice a la.length ca, .int .i64 (↑la.length : Int), .slice b lb.length cb, .int .i64 (↑lb.length : Int), .bool ((↑la.length : Int) != (↑lb.length : Int)), undef, undef, undef, undef, undef, undef, undef, undef, undef, undef, undef, undef, undef, undef, undef], []⟩ (by kernel_rfl) ?_
  refine wpList_nil ?_
  refine wp_cond_split (t := ((↑la.length : Int) != (↑lb.length : Int))) rfl (fun hc1 => ?_) (fun hc1 => ?_)
  · have hc1 := ne_of_bne hc1
    refine wp_seq ?_
    refine wp_region_lit ?_
    refine g_pure 1 ⟨#[.slice a la.length ca, .slice b lb.length cb, undef, undef, .bool false, undef, .slice a la.length ca, .int .i64 (↑la.length : Int), .slice b lb.length cb, .int .i64 (↑lb.length : Int), .bool ((↑la.length : Int) != (↑lb.length : Int)), undef, undef, undef, undef, undef, undef, undef, undef, undef, undef, undef, undef, undef, undef, undef], []⟩ (by kernel_rfl) ?_
    refine wpList_nil ?_
    refine wp_ret ?_
    show bodyPost _ _ _ .ret _ _
    exact g_ret (.bool false) rfl (by kernel_rfl) ⟨by rw [show decide (la = lb) = false by simp; rintro rfl; simp at *], (Below.refl _ _)⟩
  · have hc1 := eq_of_bne_false hc1
    refine wp_skip ?_
    refine wp_seq ?_
    refine wp_seq ?_
    refine wp_region_lit ?_
    refine g_pure 1 ⟨#[.slice a la.length ca, .slice b lb.length cb, undef, undef, .bool false, .int .i64 0, .slice a la.length ca, .int .i64 (↑la.length : Int), .slice b lb.length cb, .int .i64 (↑lb.length : Int), .bool ((↑la.length : Int) != (↑lb.length : Int)), undef, undef, undef, undef, undef, undef, undef, undef, undef, undef, undef, undef, undef, undef, undef], []⟩ (by kernel_rfl) ?_
    refine wpList_nil ?_
    refine wp_block ?_
    refine g_fr ⟨#[.slice a la.length ca, .slice b lb.length cb, undef, undef, .bool false, .int .i64 0, .slice a la.length ca, .int .i64 (↑la.length : Int), .slice b lb.length cb, .int .i64 (↑lb.length : Int), .bool ((↑la.length : Int) != (↑lb.length : Int)), undef, undef, undef, undef, undef, undef, undef, undef, undef, undef, undef, undef, undef, undef, undef], []⟩ (by kernel_rfl) ?_
    have hB := Below.refl w.heap.size w
    refine wp_loop (fun act V => ∃ (k : Nat) (x2_4 x2_11 x2_12 x2_13 x2_14 x2_15 x2_16 x2_17 x2_18 x2_19 x2_20 x2_21 x2_22 x2_23 x2_24 x2_25 : Value), act = ⟨#[.slice a la.length ca, .slice b lb.length cb, undef, undef, x2_4, .int .i64 (↑k : Int), .slice a la.length ca, .int .i64 (↑la.length : Int), .slice b lb.length cb, .int .i64 (↑lb.length : Int), .bool ((↑la.length : Int) != (↑lb.length : Int)), x2_11, x2_12, x2_13, x2_14, x2_15, x2_16, x2_17, x2_18, x2_19, x2_20, x2_21, x2_22, x2_23, x2_24, x2_25], []⟩ ∧ Below w.heap.size w V ∧ k ≤ la.length ∧ la.length = lb.length ∧ la.take k = lb.take k) (fun act V => la.length - ((intOf (act.tmps.getD 5 undef))).toNat) ⟨0, _, _, _, _, _, _, _, _, _, _, _, _, _, _, _, _, rfl, hB, Nat.zero_le _, by omega, rfl⟩ ?_
    rintro _ W2 ⟨k, x2_4, x2_11, x2_12, x2_13, x2_14, x2_15, x2_16, x2_17, x2_18, x2_19, x2_20, x2_21, x2_22, x2_23, x2_24, x2_25, rfl, hB, hk, hl, ht⟩
    refine wp_seq ?_
    refine wp_seq ?_
    refine wp_region_lit ?_
    refine g_pure 4 ⟨#[.slice a la.length ca, .slice b lb.length cb, undef, undef, x2_4, .int .i64 (↑k : Int), .slice a la.length ca, .int .i64 (↑la.length : Int), .slice b lb.length cb, .int .i64 (↑lb.length : Int), .bool ((↑la.length : Int) != (↑lb.length : Int)), .int .i64 (↑k : Int), .slice a la.length ca, .int .i64 (↑la.length : Int), .bool (decide ((↑k : Int) < (↑la.length : Int))), x2_15, x2_16, x2_17, x2_18, x2_19, x2_20, x2_21, x2_22, x2_23, x2_24, x2_25], []⟩ (by kernel_rfl) ?_
    refine wpList_nil ?_
    refine wp_cond_split (t := decide ((↑k : Int) < (↑la.length : Int))) rfl (fun hc3 => ?_) (fun hc3 => ?_)
    · have hc3 := of_decide_eq_true hc3
      refine wp_skip ?_
      refine wp_seq ?_
      refine wp_block ?_
      refine wp_seq ?_
      replace hB := Bl.next hB (below_drew W2)
      refine h_reg (Below (W2.drew).heap.size (W2.drew)) 9 rfl #[false, false, false, false, false, false, false, false, false] rfl (by kernel_rfl) (Below.refl _ _) ?_
      intro hS4
      have hBd6 := hB
      refine h_pure [0, 1] 7 rfl #[true, true, false, false, false, false, false, false, false] ⟨#[.slice a la.length ca, .slice b lb.length cb, undef, undef, x2_4, .int .i64 (↑k : Int), .slice a la.length ca, .int .i64 (↑la.length : Int), .slice b lb.length cb, .int .i64 (↑lb.length : Int), .bool ((↑la.length : Int) != (↑lb.length : Int)), .int .i64 (↑k : Int), .slice a la.length ca, .int .i64 (↑la.length : Int), .bool (decide ((↑k : Int) < (↑la.length : Int))), x2_15, x2_16, .slice a la.length ca, .int .i64 (↑k : Int), x2_19, x2_20, x2_21, x2_22, x2_23, x2_24, x2_25], []⟩ (by kernel_rfl) (fun _ _ _ _ _ h => h) (by kernel_rfl) hS4 ?_
      refine h_val 2 6 rfl (.pointer (some (elemAddr a (k * 3)))) rfl (by kernel_rfl) (by kernel_rfl) (by kernel_rfl) (fun _ _ _ _ _ h => h) (by kernel_rfl) (fun V _ => run_indexA (k := k) rfl rfl rfl rfl (by omega) (Sts.cell ha dmc_len (0, 0, 0) (k := k) (i := 0) (by omega) rfl).1 Tryz.underlying31 (by kernel_rfl) V) hS4 ?_
      refine h_val 3 5 rfl (.agg #[.int .i64 ((la.getD k (0, 0, 0)).1), .int .i64 ((la.getD k (0, 0, 0)).2.1), .int .i64 ((la.getD k (0, 0, 0)).2.2)]) rfl (by kernel_rfl) (by kernel_rfl) (by kernel_rfl) (fun _ _ _ _ _ h => h) (by kernel_rfl) (fun V hV => run_loadSt (k := k) dmc_len (0, 0, 0) _ rfl rfl ((ha.below hBd6).below hV) (by omega) (by decide) Tryz.underlying53 rfl (by kernel_rfl)) hS4 ?_
      refine h_pure [4, 5] 3 rfl #[true, true, true, true, true, true, false, false, false] ⟨#[.slice a la.length ca, .slice b lb.length cb, undef, undef, x2_4, .int .i64 (↑k : Int), .slice a la.length ca, .int .i64 (↑la.length : Int), .slice b lb.length cb, .int .i64 (↑lb.length : Int), .bool ((↑la.length : Int) != (↑lb.length : Int)), .int .i64 (↑k : Int), .slice a la.length ca, .int .i64 (↑la.length : Int), .bool (decide ((↑k : Int) < (↑la.length : Int))), x2_15, x2_16, .slice a la.length ca, .int .i64 (↑k : Int), .pointer (some (elemAddr a (k * 3))), .agg #[.int .i64 ((la.getD k (0, 0, 0)).1), .int .i64 ((la.getD k (0, 0, 0)).2.1), .int .i64 ((la.getD k (0, 0, 0)).2.2)], .slice b lb.length cb, .int .i64 (↑k : Int), x2_23, x2_24, x2_25], []⟩ (by kernel_rfl) (fun _ _ _ _ _ h => h) (by kernel_rfl) hS4 ?_
      refine h_val 6 2 rfl (.pointer (some (elemAddr b (k * 3)))) rfl (by kernel_rfl) (by kernel_rfl) (by kernel_rfl) (fun _ _ _ _ _ h => h) (by kernel_rfl) (fun V _ => run_indexA (k := k) rfl rfl rfl rfl (by omega) (Sts.cell hb dmc_len (0, 0, 0) (k := k) (i := 0) (by omega) rfl).1 Tryz.underlying31 (by kernel_rfl) V) hS4 ?_
      refine h_val 7 1 rfl (.agg #[.int .i64 ((lb.getD k (0, 0, 0)).1), .int .i64 ((lb.getD k (0, 0, 0)).2.1), .int .i64 ((lb.getD k (0, 0, 0)).2.2)]) rfl (by kernel_rfl) (by kernel_rfl) (by kernel_rfl) (fun _ _ _ _ _ h => h) (by kernel_rfl) (fun V hV => run_loadSt (k := k) dmc_len (0, 0, 0) _ rfl rfl ((hb.below hBd6).below hV) (by omega) (by decide) Tryz.underlying53 rfl (by kernel_rfl)) hS4 ?_
      refine h_val 8 0 rfl (.bool (decide ((la.getD k (0, 0, 0)) ≠ (lb.getD k (0, 0, 0))))) rfl (by kernel_rfl) (by kernel_rfl) (by kernel_rfl) (fun _ _ _ _ _ h => h) (by kernel_rfl) (fun V _ => run_dneq (la.getD k (0, 0, 0)) (lb.getD k (0, 0, 0)) rfl rfl rfl V) hS4 ?_
      refine h_done _ (by kernel_rfl) ?_
      refine wp_cond_split (t := decide ((la.getD k (0, 0, 0)) ≠ (lb.getD k (0, 0, 0)))) rfl (fun hc7 => ?_) (fun hc7 => ?_)
      · have hc7 := of_decide_eq_true hc7
        refine wp_seq ?_
        refine wp_region_lit ?_
        refine g_pure 1 ⟨#[.slice a la.length ca, .slice b lb.length cb, undef, undef, .bool false, .int .i64 (↑k : Int), .slice a la.length ca, .int .i64 (↑la.length : Int), .slice b lb.length cb, .int .i64 (↑lb.length : Int), .bool ((↑la.length : Int) != (↑lb.length : Int)), .int .i64 (↑k : Int), .slice a la.length ca, .int .i64 (↑la.length : Int), .bool (decide ((↑k : Int) < (↑la.length : Int))), x2_15, x2_16, .slice a la.length ca, .int .i64 (↑k : Int), .pointer (some (elemAddr a (k * 3))), .agg #[.int .i64 ((la.getD k (0, 0, 0)).1), .int .i64 ((la.getD k (0, 0, 0)).2.1), .int .i64 ((la.getD k (0, 0, 0)).2.2)], .slice b lb.length cb, .int .i64 (↑k : Int), .pointer (some (elemAddr b (k * 3))), .agg #[.int .i64 ((lb.getD k (0, 0, 0)).1), .int .i64 ((lb.getD k (0, 0, 0)).2.1), .int .i64 ((lb.getD k (0, 0, 0)).2.2)], .bool (decide ((la.getD k (0, 0, 0)) ≠ (lb.getD k (0, 0, 0))))], []⟩ (by kernel_rfl) ?_
        refine wpList_nil ?_
        refine wp_ret ?_
        show bodyPost _ _ _ .ret _ _
        exact g_ret (.bool false) rfl (by kernel_rfl) ⟨by rw [show decide (la = lb) = false by simp; rintro rfl; simp at *], hB⟩
      · have hc7 := of_decide_eq_false hc7
        refine wp_skip ?_
        refine wp_region_lit ?_
        refine g_pure 1 ⟨#[.slice a la.length ca, .slice b lb.length cb, undef, undef, x2_4, .int .i64 (↑k : Int), .slice a la.length ca, .int .i64 (↑la.length : Int), .slice b lb.length cb, .int .i64 (↑lb.length : Int), .bool ((↑la.length : Int) != (↑lb.length : Int)), .int .i64 (↑k : Int), .slice a la.length ca, .int .i64 (↑la.length : Int), .bool (decide ((↑k : Int) < (↑la.length : Int))), .int .i64 (↑k : Int), x2_16, .slice a la.length ca, .int .i64 (↑k : Int), .pointer (some (elemAddr a (k * 3))), .agg #[.int .i64 ((la.getD k (0, 0, 0)).1), .int .i64 ((la.getD k (0, 0, 0)).2.1), .int .i64 ((la.getD k (0, 0, 0)).2.2)], .slice b lb.length cb, .int .i64 (↑k : Int), .pointer (some (elemAddr b (k * 3))), .agg #[.int .i64 ((lb.getD k (0, 0, 0)).1), .int .i64 ((lb.getD k (0, 0, 0)).2.1), .int .i64 ((lb.getD k (0, 0, 0)).2.2)], .bool (decide ((la.getD k (0, 0, 0)) ≠ (lb.getD k (0, 0, 0))))], []⟩ (by kernel_rfl) ?_
        refine g_op (by kernel_rfl) (op_val (run_wrap .i64 ((↑k : Int) + 1) ((↑k : Int) + 1) (by kernel_rfl) (by first | exact IntWalk.i64_in _ (by omega) | (simp only [IntKind.wrap]; omega)) _) ?_)
        refine g_pure 1 ⟨#[.slice a la.length ca, .slice b lb.length cb, undef, undef, x2_4, .int .i64 ((↑k : Int) + 1), .slice a la.length ca, .int .i64 (↑la.length : Int), .slice b lb.length cb, .int .i64 (↑lb.length : Int), .bool ((↑la.length : Int) != (↑lb.length : Int)), .int .i64 (↑k : Int), .slice a la.length ca, .int .i64 (↑la.length : Int), .bool (decide ((↑k : Int) < (↑la.length : Int))), .int .i64 (↑k : Int), .int .i64 ((↑k : Int) + 1), .slice a la.length ca, .int .i64 (↑k : Int), .pointer (some (elemAddr a (k * 3))), .agg #[.int .i64 ((la.getD k (0, 0, 0)).1), .int .i64 ((la.getD k (0, 0, 0)).2.1), .int .i64 ((la.getD k (0, 0, 0)).2.2)], .slice b lb.length cb, .int .i64 (↑k : Int), .pointer (some (elemAddr b (k * 3))), .agg #[.int .i64 ((lb.getD k (0, 0, 0)).1), .int .i64 ((lb.getD k (0, 0, 0)).2.1), .int .i64 ((lb.getD k (0, 0, 0)).2.2)], .bool (decide ((la.getD k (0, 0, 0)) ≠ (lb.getD k (0, 0, 0))))], []⟩ (by kernel_rfl) ?_
        refine wpList_nil ?_
        refine g_nfr ⟨#[.slice a la.length ca, .slice b lb.length cb, undef, undef, x2_4, .int .i64 ((↑k : Int) + 1), .slice a la.length ca, .int .i64 (↑la.length : Int), .slice b lb.length cb, .int .i64 (↑lb.length : Int), .bool ((↑la.length : Int) != (↑lb.length : Int)), .int .i64 (↑k : Int), .slice a la.length ca, .int .i64 (↑la.length : Int), .bool (decide ((↑k : Int) < (↑la.length : Int))), .int .i64 (↑k : Int), .int .i64 ((↑k : Int) + 1), .slice a la.length ca, .int .i64 (↑k : Int), .pointer (some (elemAddr a (k * 3))), .agg #[.int .i64 ((la.getD k (0, 0, 0)).1), .int .i64 ((la.getD k (0, 0, 0)).2.1), .int .i64 ((la.getD k (0, 0, 0)).2.2)], .slice b lb.length cb, .int .i64 (↑k : Int), .pointer (some (elemAddr b (k * 3))), .agg #[.int .i64 ((lb.getD k (0, 0, 0)).1), .int .i64 ((lb.getD k (0, 0, 0)).2.1), .int .i64 ((lb.getD k (0, 0, 0)).2.2)], .bool (decide ((la.getD k (0, 0, 0)) ≠ (lb.getD k (0, 0, 0))))], []⟩ (by kernel_rfl) ?_
        refine ⟨⟨k + 1, _, _, _, _, _, _, _, _, _, _, _, _, _, _, _, _, rfl, hB, by omega, hl, take_next (0, 0, 0) ht (by omega) (by omega) (Decidable.not_not.1 (by assumption))⟩, ?_⟩
        show la.length - (((↑k : Int) + 1)).toNat < la.length - ((↑k : Int)).toNat
        omega
    · have hc3 := of_decide_eq_false hc3
      refine wp_exit ?_
      refine then_exit ?_
      refine then_exit ?_
      refine inBlock_hit ?_
      refine wp_seq ?_
      refine wp_region_lit ?_
      refine g_pure 1 ⟨#[.slice a la.length ca, .slice b lb.length cb, undef, undef, .bool true, .int .i64 (↑k : Int), .slice a la.length ca, .int .i64 (↑la.length : Int), .slice b lb.length cb, .int .i64 (↑lb.length : Int), .bool ((↑la.length : Int) != (↑lb.length : Int)), .int .i64 (↑k : Int), .slice a la.length ca, .int .i64 (↑la.length : Int), .bool (decide ((↑k : Int) < (↑la.length : Int))), x2_15, x2_16, x2_17, x2_18, x2_19, x2_20, x2_21, x2_22, x2_23, x2_24, x2_25], []⟩ (by kernel_rfl) ?_
      refine wpList_nil ?_
      refine wp_ret ?_
      show bodyPost _ _ _ .ret _ _
      exact g_ret (.bool true) rfl (by kernel_rfl) ⟨by rw [show decide (la = lb) = true by simp; rwa [List.take_of_length_le (by omega), List.take_of_length_le (by omega)] at ht], hB⟩
end Go.Proofs.YthlakkdgcgkcdaaGreatDoor
namespace Go.Proofs.YthlakkdgcgkcdaaGreatDoor
open Go.RowKit Go.Extern.Stop Go.Stop Go.Extern
set_option linter.unusedVariables false
attribute [local irreducible] wpList wpAnyH Code.wp Oper.wp

def zSup : List Value := [.int .i64 0, .int .i64 0, .int .i64 0, .int .i64 0, .int .i64 0, .int .i64 0, .int .i64 0, .int .i64 0, .int .i64 0, .int .i64 0, .int .i64 0]
set_option maxRecDepth 100000 in
set_option maxHeartbeats 1000000 in
theorem block_read_nil (b : Nat) (F : Value) (w : World) (h : Blk w b [.slice none 0 0] 56) :
    Calls Tryz.prog 75 #[.pointer (some ⟨b, 0, none⟩), .int .i64 0, .int .i64 1, F] w (RetS (fun w' r => ∃ y, r = .tuple #[.agg zSup.toArray, y] ∧ ErrV w' [some 0] (some 3) y) w) := by
  refine calls_of_wp Tryz.func75 rfl ?_
  refine g_fr ⟨#[.pointer (some ⟨b, 0, none⟩), .int .i64 0, .int .i64 1, F, undef, undef, undef, undef, undef, undef, undef, undef, undef, undef, undef, undef, undef, undef, undef, undef, undef, undef, undef, undef, undef, undef, undef, undef, undef, undef, undef, undef, undef, undef, undef, undef, undef, undef, undef, undef, undef, undef, undef, undef, undef, undef, undef, undef, undef, undef, undef, undef, undef, undef, undef, undef], []⟩ (by kernel_rfl) ?_
  refine wp_seq ?_
  refine wp_region_lit ?_
  refine g_op (by kernel_rfl) (op_alloc [.int .i64 0, .int .i64 0, .int .i64 0, .int .i64 0, .int .i64 0, .int .i64 0, .int .i64 0, .int .i64 0, .int .i64 0, .int .i64 0, .int .i64 0] rfl (by kernel_rfl) ?_)
  intro b1 W1 n1
  have g1 := n1.ge (Below.refl _ _)
  have hB := n1.below
  have k1 := n1.blk
  refine g_pure 1 ⟨#[.pointer (some ⟨b, 0, none⟩), .int .i64 0, .int .i64 1, F, undef, undef, undef, undef, .pointer (some ⟨b1, 0, none⟩), .nilIface, undef, undef, undef, undef, undef, undef, undef, undef, undef, undef, undef, undef, undef, undef, undef, undef, undef, undef, undef, undef, undef, undef, undef, undef, undef, undef, undef, undef, undef, undef, undef, undef, undef, undef, undef, undef, undef, undef, undef, undef, undef, undef, undef, undef, undef, undef], []⟩ (by kernel_rfl) ?_
  refine wpList_nil ?_
  refine wp_seq ?_
  refine wp_region_lit ?_
  refine g_op (by kernel_rfl) (op_alloc [.int .i64 0, .int .i64 0, .int .i64 0, .int .i64 0, .int .i64 0, .int .i64 0, .int .i64 0, .int .i64 0, .int .i64 0, .int .i64 0, .int .i64 0] rfl (by kernel_rfl) ?_)
  intro b2 W2 n2
  have d2_b1 := n2.ne k1
  have g2 := n2.ge hB
  replace hB := Bl.next hB n2.below
  replace k1 := k1.below n2.below
  have k2 := n2.blk
  refine wpList_nil ?_
  refine wp_seq ?_
  refine wp_region_lit ?_
  refine g_pure 2 ⟨#[.pointer (some ⟨b, 0, none⟩), .int .i64 0, .int .i64 1, F, undef, undef, undef, undef, .pointer (some ⟨b1, 0, none⟩), .nilIface, .pointer (some ⟨b2, 0, none⟩), undef, undef, undef, undef, undef, .pointer (some ⟨b, 0, none⟩), .int .i64 0, undef, undef, undef, undef, undef, undef, undef, undef, undef, undef, undef, undef, undef, undef, undef, undef, undef, undef, undef, undef, undef, undef, undef, undef, undef, undef, undef, undef, undef, undef, undef, undef, undef, undef, undef, undef, undef, undef], []⟩ (by kernel_rfl) ?_
  refine g_op (by kernel_rfl) (op_call 112 #[.pointer (some ⟨b, 0, none⟩), .int .i64 0] rfl rfl (fun _ _ => by kernel_rfl) (by kernel_rfl) ((image_Read_nil b 0 _ (h.below hB) (by omega)).mono ?_))
  rintro e W3 ⟨rfl, hb3⟩
  refine ⟨_, rfl, ?_⟩
  replace hB := Bl.next hB hb3
  replace k1 := k1.below hb3
  replace k2 := k2.below hb3
  refine g_pure 5 ⟨#[.pointer (some ⟨b, 0, none⟩), .int .i64 0, .int .i64 1, F, undef, undef, undef, undef, .pointer (some ⟨b1, 0, none⟩), .nilIface, .pointer (some ⟨b2, 0, none⟩), .slice none 0 0, .int .i64 3, undef, undef, .tuple #[.slice none 0 0, .int .i64 3], .pointer (some ⟨b, 0, none⟩), .int .i64 0, .tuple #[.slice none 0 0, .int .i64 3], .slice none 0 0, .int .i64 3, undef, undef, undef, undef, undef, undef, undef, undef, undef, undef, undef, undef, undef, undef, undef, undef, undef, undef, undef, undef, undef, undef, undef, undef, undef, undef, undef, undef, undef, undef, undef, undef, undef, undef, undef], []⟩ (by kernel_rfl) ?_
  refine wpList_nil ?_
  refine wp_seq ?_
  refine wp_seq ?_
  refine wp_region_lit ?_
  refine g_pure 2 ⟨#[.pointer (some ⟨b, 0, none⟩), .int .i64 0, .int .i64 1, F, undef, undef, undef, undef, .pointer (some ⟨b1, 0, none⟩), .nilIface, .pointer (some ⟨b2, 0, none⟩), .slice none 0 0, .int .i64 3, undef, undef, .tuple #[.slice none 0 0, .int .i64 3], .pointer (some ⟨b, 0, none⟩), .int .i64 0, .tuple #[.slice none 0 0, .int .i64 3], .slice none 0 0, .int .i64 3, .int .i64 3, .bool true, undef, undef, undef, undef, undef, undef, undef, undef, undef, undef, undef, undef, undef, undef, undef, undef, undef, undef, undef, undef, undef, undef, undef, undef, undef, undef, undef, undef, undef, undef, undef, undef, undef], []⟩ (by kernel_rfl) ?_
  refine wpList_nil ?_
  refine wp_cond_true rfl ?_
  refine wp_seq ?_
  replace hB := Bl.next hB (below_drew W3)
  replace k1 := k1.below (below_drew W3)
  replace k2 := k2.below (below_drew W3)
  refine h_reg (BelowBut (W3.drew) b1) 7 rfl #[false, false, false, false, false, false, false] rfl (by kernel_rfl) ((Below.refl _ _).but _) ?_
  intro hS4
  have kd6_b1 := k1
  have kd6_b2 := k2
  have hBd6 := hB
  refine h_loadv 0 6 rfl [.int .i64 0, .int .i64 0, .int .i64 0, .int .i64 0, .int .i64 0, .int .i64 0, .int .i64 0, .int .i64 0, .int .i64 0, .int .i64 0, .int .i64 0] _ rfl (by kernel_rfl) (by kernel_rfl) (by kernel_rfl) (fun _ _ _ _ _ h => h) (by kernel_rfl) rfl rfl Tryz.underlying24 rfl (by kernel_rfl) (fun V hV => (hV.blk kd6_b2 (Ne.symm d2_b1)).range) hS4 ?_
  refine h_pure [1, 2, 3] 3 rfl #[true, true, true, true, false, false, false] ⟨#[.pointer (some ⟨b, 0, none⟩), .int .i64 0, .int .i64 1, F, undef, undef, undef, undef, .pointer (some ⟨b1, 0, none⟩), .nilIface, .pointer (some ⟨b2, 0, none⟩), .slice none 0 0, .int .i64 3, undef, undef, .tuple #[.slice none 0 0, .int .i64 3], .pointer (some ⟨b, 0, none⟩), .int .i64 0, .tuple #[.slice none 0 0, .int .i64 3], .slice none 0 0, .int .i64 3, .int .i64 3, .bool true, .agg #[.int .i64 0, .int .i64 0, .int .i64 0, .int .i64 0, .int .i64 0, .int .i64 0, .int .i64 0, .int .i64 0, .int .i64 0, .int .i64 0, .int .i64 0], .int .i64 0, .int .i64 3, .iface 51 (.int .i64 3), undef, undef, undef, undef, undef, undef, undef, undef, undef, undef, undef, undef, undef, undef, undef, undef, undef, undef, undef, undef, undef, undef, undef, undef, undef, undef, undef, undef, undef], []⟩ (by kernel_rfl) (fun _ _ _ _ _ h => h) (by kernel_rfl) hS4 ?_
  refine h_one 4 2 rfl (by kernel_rfl) rfl (by kernel_rfl) (op_call 113 #[.int .i64 0, .iface 51 (.int .i64 3)] rfl rfl (fun _ _ => by kernel_rfl) (by kernel_rfl) ((block_told 0 3 _).mono ?_))
  rintro e W7 ⟨r, rfl, hb7, hr⟩
  refine ⟨_, rfl, ?_⟩
  replace hB := Bl.next hB hb7
  replace k1 := k1.below hb7
  replace k2 := k2.below hb7
  have hS8 : BelowBut (W3.drew) b1 (W7) := hS4.next hb7
  refine ⟨hS8, ?_⟩
  refine h_one 5 1 rfl (by kernel_rfl) rfl (by kernel_rfl) (op_storev [.int .i64 0, .int .i64 0, .int .i64 0, .int .i64 0, .int .i64 0, .int .i64 0, .int .i64 0, .int .i64 0, .int .i64 0, .int .i64 0, .int .i64 0] rfl rfl rfl (by kernel_rfl) (by decide) k1 (by decide) ?_)
  intro W9 u9 k9
  change Blk _ _ [.int .i64 0, .int .i64 0, .int .i64 0, .int .i64 0, .int .i64 0, .int .i64 0, .int .i64 0, .int .i64 0, .int .i64 0, .int .i64 0, .int .i64 0] _ at k9
  replace hB := u9.below hB g1
  replace k2 := u9.blk k2 (Ne.symm d2_b1)
  replace hr := hr.upd u9 k1 (by decide)
  have hS10 : BelowBut (W3.drew) b1 (W9) := hS8.upd u9
  refine ⟨hS10, ?_⟩
  refine h_pure [6] 0 rfl #[true, true, true, true, true, true, true] ⟨#[.pointer (some ⟨b, 0, none⟩), .int .i64 0, .int .i64 1, F, undef, undef, undef, undef, .pointer (some ⟨b1, 0, none⟩), r, .pointer (some ⟨b2, 0, none⟩), .slice none 0 0, .int .i64 3, undef, undef, .tuple #[.slice none 0 0, .int .i64 3], .pointer (some ⟨b, 0, none⟩), .int .i64 0, .tuple #[.slice none 0 0, .int .i64 3], .slice none 0 0, .int .i64 3, .int .i64 3, .bool true, .agg #[.int .i64 0, .int .i64 0, .int .i64 0, .int .i64 0, .int .i64 0, .int .i64 0, .int .i64 0, .int .i64 0, .int .i64 0, .int .i64 0, .int .i64 0], .int .i64 0, .int .i64 3, .iface 51 (.int .i64 3), r, undef, undef, undef, undef, undef, undef, undef, undef, undef, undef, undef, undef, undef, undef, undef, undef, undef, undef, undef, undef, undef, undef, undef, undef, undef, undef, undef, undef], []⟩ (by kernel_rfl) (fun _ _ _ _ _ h => h) (by kernel_rfl) hS10 ?_
  refine h_done _ (by kernel_rfl) ?_
  refine wp_ret ?_
  show bodyPost _ _ _ .ret _ _
  exact g_ret (.tuple #[.agg #[.int .i64 0, .int .i64 0, .int .i64 0, .int .i64 0, .int .i64 0, .int .i64 0, .int .i64 0, .int .i64 0, .int .i64 0, .int .i64 0, .int .i64 0], r]) rfl (res_ct (d := _) (cs := [.int .i64 0, .int .i64 0, .int .i64 0, .int .i64 0, .int .i64 0, .int .i64 0, .int .i64 0, .int .i64 0, .int .i64 0, .int .i64 0, .int .i64 0]) rfl (by kernel_rfl) (by kernel_rfl) k9.range Tryz.underlying24 rfl (by kernel_rfl)) ⟨_, rfl, hB, _, rfl, hr⟩
set_option maxRecDepth 100000 in
set_option maxHeartbeats 1000000 in
theorem block_Super_nil (b : Nat) (w : World) (h : Blk w b [.slice none 0 0] 56) :
    Calls Tryz.prog 45 #[.pointer (some ⟨b, 0, none⟩)] w (RetS (fun w' r => ∃ y, r = .tuple #[.agg zSup.toArray, y] ∧ ErrV w' [some 0] (some 3) y) w) := by
  refine calls_of_wp Tryz.func45 rfl ?_
  refine g_fr ⟨#[.pointer (some ⟨b, 0, none⟩), undef, undef, undef, undef, undef, undef, undef, undef], []⟩ (by kernel_rfl) ?_
  refine wp_seq ?_
  refine wp_region_lit ?_
  refine g_op (by kernel_rfl) (op_box [.pointer (some ⟨b, 0, none⟩)] rfl (by kernel_rfl) ?_)
  intro b1 W1 n1
  have g1 := n1.ge (Below.refl _ _)
  have hB := n1.below
  have k1 := n1.blk
  refine g_op (by kernel_rfl) (op_alloc [.int .i64 0, .int .i64 0, .int .i64 0, .int .i64 0, .int .i64 0, .int .i64 0, .int .i64 0, .int .i64 0, .int .i64 0, .int .i64 0, .int .i64 0] rfl (by kernel_rfl) ?_)
  intro b2 W2 n2
  have d2_b1 := n2.ne k1
  have g2 := n2.ge hB
  replace hB := Bl.next hB n2.below
  replace k1 := k1.below n2.below
  have k2 := n2.blk
  refine g_pure 1 ⟨#[.pointer (some ⟨b, 0, none⟩), .pointer (some ⟨b1, 0, none⟩), .pointer (some ⟨b2, 0, none⟩), .nilIface, undef, undef, undef, undef, undef], []⟩ (by kernel_rfl) ?_
  refine wpList_nil ?_
  refine wp_seq ?_
  refine wp_region_lit ?_
  refine g_op (by kernel_rfl) (op_load _ (.pointer (some ⟨b, 0, none⟩)) rfl rfl (by kernel_rfl) (k1.cell (i := 0) rfl) ?_)
  refine g_pure 1 ⟨#[.pointer (some ⟨b, 0, none⟩), .pointer (some ⟨b1, 0, none⟩), .pointer (some ⟨b2, 0, none⟩), .nilIface, .pointer (some ⟨b, 0, none⟩), .func (.func 76) #[] #[.pointer (some ⟨b1, 0, none⟩)], undef, undef, undef], []⟩ (by kernel_rfl) ?_
  refine g_op (by kernel_rfl) (op_call 75 #[.pointer (some ⟨b, 0, none⟩), .int .i64 0, .int .i64 1, .func (.func 76) #[] #[.pointer (some ⟨b1, 0, none⟩)]] rfl rfl (fun _ _ => by kernel_rfl) (by kernel_rfl) ((block_read_nil b (.func (.func 76) #[] #[.pointer (some ⟨b1, 0, none⟩)]) _ (h.below hB)).mono ?_))
  rintro e W3 ⟨_, rfl, hb3, y, rfl, hr⟩
  refine ⟨_, rfl, ?_⟩
  replace hB := Bl.next hB hb3
  replace k1 := k1.below hb3
  replace k2 := k2.below hb3
  refine g_pure 2 ⟨#[.pointer (some ⟨b, 0, none⟩), .pointer (some ⟨b1, 0, none⟩), .pointer (some ⟨b2, 0, none⟩), .nilIface, .pointer (some ⟨b, 0, none⟩), .func (.func 76) #[] #[.pointer (some ⟨b1, 0, none⟩)], .tuple #[.agg zSup.toArray, y], .agg zSup.toArray, y], []⟩ (by kernel_rfl) ?_
  refine g_op (by kernel_rfl) (op_storev zSup rfl rfl rfl (by kernel_rfl) (by decide) k2 (by decide) ?_)
  intro W4 u4 k4
  change Blk _ _ zSup _ at k4
  replace hB := u4.below hB g2
  replace k1 := u4.blk k1 (Ne.symm (Ne.symm d2_b1))
  replace hr := hr.upd u4 k2 (by decide)
  refine g_pure 1 ⟨#[.pointer (some ⟨b, 0, none⟩), .pointer (some ⟨b1, 0, none⟩), .pointer (some ⟨b2, 0, none⟩), y, .pointer (some ⟨b, 0, none⟩), .func (.func 76) #[] #[.pointer (some ⟨b1, 0, none⟩)], .tuple #[.agg zSup.toArray, y], .agg zSup.toArray, y], []⟩ (by kernel_rfl) ?_
  refine wpList_nil ?_
  refine wp_ret ?_
  show bodyPost _ _ _ .ret _ _
  exact g_ret (.tuple #[.agg zSup.toArray, y]) rfl (res_ct (d := _) (cs := zSup) rfl (by kernel_rfl) (by kernel_rfl) k4.range Tryz.underlying24 rfl (by kernel_rfl)) ⟨_, rfl, hB, _, rfl, hr⟩
set_option maxRecDepth 100000 in
set_option maxHeartbeats 1000000 in
theorem audit_Super_nil (b : Nat) (w : World) (hg : ErrT w) (h : Blk w b [.slice none 0 0] 56) :
    Calls Tryz.prog 22 #[.pointer (some ⟨b, 0, none⟩)] w (RetS (fun w' r => ∃ g, r = .tuple #[.agg zSup.toArray, .slice (some ⟨g, 0, none⟩) 1 1] ∧ Blk w' g [.int .i64 1, .int .i64 0, .int .i64 3] 53) w) := by
  refine calls_of_wp Tryz.func22 rfl ?_
  refine g_fr ⟨#[.pointer (some ⟨b, 0, none⟩), undef, undef, undef, undef, undef, undef, undef, undef, undef, undef, undef, undef, undef, undef, undef, undef, undef], []⟩ (by kernel_rfl) ?_
  refine wp_seq ?_
  refine wp_region_lit ?_
  refine g_op (by kernel_rfl) (op_alloc [.int .i64 0, .int .i64 0, .int .i64 0, .int .i64 0, .int .i64 0, .int .i64 0, .int .i64 0, .int .i64 0, .int .i64 0, .int .i64 0, .int .i64 0] rfl (by kernel_rfl) ?_)
  intro b1 W1 n1
  have g1 := n1.ge (Below.refl _ _)
  have hB := n1.below
  have k1 := n1.blk
  refine g_pure 1 ⟨#[.pointer (some ⟨b, 0, none⟩), undef, .pointer (some ⟨b1, 0, none⟩), .slice none 0 0, undef, undef, undef, undef, undef, undef, undef, undef, undef, undef, undef, undef, undef, undef], []⟩ (by kernel_rfl) ?_
  refine wpList_nil ?_
  refine wp_seq ?_
  refine wp_region_lit ?_
  refine g_pure 1 ⟨#[.pointer (some ⟨b, 0, none⟩), undef, .pointer (some ⟨b1, 0, none⟩), .slice none 0 0, undef, undef, undef, .pointer (some ⟨b, 0, none⟩), undef, undef, undef, undef, undef, undef, undef, undef, undef, undef], []⟩ (by kernel_rfl) ?_
  refine g_op (by kernel_rfl) (op_call 45 #[.pointer (some ⟨b, 0, none⟩)] rfl rfl (fun _ _ => by kernel_rfl) (by kernel_rfl) ((block_Super_nil b _ (h.below hB)).mono ?_))
  rintro e W2 ⟨_, rfl, hb2, y, rfl, hr⟩
  refine ⟨_, rfl, ?_⟩
  replace hB := Bl.next hB hb2
  replace k1 := k1.below hb2
  obtain ⟨ty, x, rfl⟩ := (hr.nil_or.resolve_left (fun q => by cases q.1)).2
  refine g_pure 3 ⟨#[.pointer (some ⟨b, 0, none⟩), undef, .pointer (some ⟨b1, 0, none⟩), .slice none 0 0, undef, undef, .tuple #[.agg zSup.toArray, .iface ty (x)], .pointer (some ⟨b, 0, none⟩), .tuple #[.agg zSup.toArray, .iface ty (x)], .agg zSup.toArray, .iface ty (x), undef, undef, undef, undef, undef, undef, undef], []⟩ (by kernel_rfl) ?_
  refine g_op (by kernel_rfl) (op_alloc [.int .i64 0, .int .i64 0, .int .i64 0, .int .i64 0, .int .i64 0, .int .i64 0, .int .i64 0, .int .i64 0, .int .i64 0, .int .i64 0, .int .i64 0] rfl (by kernel_rfl) ?_)
  intro b3 W3 n3
  have d3_b1 := n3.ne k1
  have g3 := n3.ge hB
  replace hB := Bl.next hB n3.below
  replace k1 := k1.below n3.below
  replace hr := hr.below n3.below
  have k3 := n3.blk
  refine g_op (by kernel_rfl) (op_storev zSup rfl rfl rfl (by kernel_rfl) (by decide) k3 (by decide) ?_)
  intro W4 u4 k4
  change Blk _ _ zSup _ at k4
  replace hB := u4.below hB g3
  replace k1 := u4.blk k1 (Ne.symm (Ne.symm d3_b1))
  replace hr := hr.upd u4 k3 (by decide)
  refine g_pure 1 ⟨#[.pointer (some ⟨b, 0, none⟩), undef, .pointer (some ⟨b1, 0, none⟩), .slice none 0 0, .pointer (some ⟨b3, 0, none⟩), .iface ty (x), .tuple #[.agg zSup.toArray, .iface ty (x)], .pointer (some ⟨b, 0, none⟩), .tuple #[.agg zSup.toArray, .iface ty (x)], .agg zSup.toArray, .iface ty (x), undef, undef, undef, undef, undef, undef, undef], []⟩ (by kernel_rfl) ?_
  refine wpList_nil ?_
  refine wp_seq ?_
  refine wp_seq ?_
  refine wp_region_lit ?_
  refine g_pure 2 ⟨#[.pointer (some ⟨b, 0, none⟩), undef, .pointer (some ⟨b1, 0, none⟩), .slice none 0 0, .pointer (some ⟨b3, 0, none⟩), .iface ty (x), .tuple #[.agg zSup.toArray, .iface ty (x)], .pointer (some ⟨b, 0, none⟩), .tuple #[.agg zSup.toArray, .iface ty (x)], .agg zSup.toArray, .iface ty (x), .iface ty (x), .bool true, undef, undef, undef, undef, undef], []⟩ (by kernel_rfl) ?_
  refine wpList_nil ?_
  refine wp_cond_true rfl ?_
  refine wp_seq ?_
  refine wp_region_lit ?_
  refine g_pure 2 ⟨#[.pointer (some ⟨b, 0, none⟩), undef, .pointer (some ⟨b1, 0, none⟩), .slice none 0 0, .pointer (some ⟨b3, 0, none⟩), .iface ty (x), .tuple #[.agg zSup.toArray, .iface ty (x)], .pointer (some ⟨b, 0, none⟩), .tuple #[.agg zSup.toArray, .iface ty (x)], .agg zSup.toArray, .iface ty (x), .iface ty (x), .bool true, .agg #[.int .i64 0, .int .i64 0, .int .i64 0, .int .i64 0, .int .i64 0, .int .i64 0, .int .i64 0, .int .i64 0, .int .i64 0, .int .i64 0, .int .i64 0], .iface ty (x), undef, undef, undef], []⟩ (by kernel_rfl) ?_
  refine g_op (by kernel_rfl) (op_call 24 #[.int .i64 1, .iface ty (x)] rfl rfl (fun _ _ => by kernel_rfl) (by kernel_rfl) ((audit_Of 1 (some 3) [some 0] (.iface ty (x)) _ (by decide) (hg.below hB) hr).mono ?_))
  rintro e W5 ⟨rfl, hb5⟩
  refine ⟨_, rfl, ?_⟩
  replace hB := Bl.next hB hb5
  replace k1 := k1.below hb5
  replace k4 := k4.below hb5
  replace hr := hr.below hb5
  refine g_op (by kernel_rfl) (op_buildSlice 53 [.int .i64 1, .int .i64 0, .int .i64 3] rfl (by kernel_rfl) ?_)
  intro b6 W6 n6
  have d6_b1 := n6.ne k1
  have d6_b3 := n6.ne k4
  have g6 := n6.ge hB
  replace hB := Bl.next hB n6.below
  replace k1 := k1.below n6.below
  replace k4 := k4.below n6.below
  replace hr := hr.below n6.below
  have k6 := n6.blk
  refine g_op (by kernel_rfl) (op_storev [.int .i64 0, .int .i64 0, .int .i64 0, .int .i64 0, .int .i64 0, .int .i64 0, .int .i64 0, .int .i64 0, .int .i64 0, .int .i64 0, .int .i64 0] rfl rfl rfl (by kernel_rfl) (by decide) k1 (by decide) ?_)
  intro W7 u7 k7
  change Blk _ _ [.int .i64 0, .int .i64 0, .int .i64 0, .int .i64 0, .int .i64 0, .int .i64 0, .int .i64 0, .int .i64 0, .int .i64 0, .int .i64 0, .int .i64 0] _ at k7
  replace hB := u7.below hB g1
  replace k4 := u7.blk k4 (Ne.symm d3_b1)
  replace k6 := u7.blk k6 (Ne.symm d6_b1)
  replace hr := hr.upd u7 k1 (by decide)
  refine g_pure 1 ⟨#[.pointer (some ⟨b, 0, none⟩), undef, .pointer (some ⟨b1, 0, none⟩), .slice (some ⟨b6, 0, none⟩) 1 1, .pointer (some ⟨b3, 0, none⟩), .iface ty (x), .tuple #[.agg zSup.toArray, .iface ty (x)], .pointer (some ⟨b, 0, none⟩), .tuple #[.agg zSup.toArray, .iface ty (x)], .agg zSup.toArray, .iface ty (x), .iface ty (x), .bool true, .agg #[.int .i64 0, .int .i64 0, .int .i64 0, .int .i64 0, .int .i64 0, .int .i64 0, .int .i64 0, .int .i64 0, .int .i64 0, .int .i64 0, .int .i64 0], .iface ty (x), .agg #[.int .i64 1, .int .i64 0, .int .i64 3], .slice (some ⟨b6, 0, none⟩) 1 1, undef], []⟩ (by kernel_rfl) ?_
  refine wpList_nil ?_
  refine wp_ret ?_
  show bodyPost _ _ _ .ret _ _
  exact g_ret (.tuple #[.agg #[.int .i64 0, .int .i64 0, .int .i64 0, .int .i64 0, .int .i64 0, .int .i64 0, .int .i64 0, .int .i64 0, .int .i64 0, .int .i64 0, .int .i64 0], .slice (some ⟨b6, 0, none⟩) 1 1]) rfl (res_ct (d := _) (cs := [.int .i64 0, .int .i64 0, .int .i64 0, .int .i64 0, .int .i64 0, .int .i64 0, .int .i64 0, .int .i64 0, .int .i64 0, .int .i64 0, .int .i64 0]) rfl (by kernel_rfl) (by kernel_rfl) k7.range Tryz.underlying24 rfl (by kernel_rfl)) ⟨_, rfl, hB, _, rfl, k6⟩
set_option maxRecDepth 100000 in
set_option maxHeartbeats 1000000 in
theorem lives28 (w : World) (hg : ErrT w) :
    Calls Tryz.prog 6 #[] w (Ret (.bool true) w) := by
  refine calls_of_wp Tryz.func6 rfl ?_
  refine g_fr ⟨#[undef, undef, undef, undef, undef, undef, undef, undef, undef, undef, undef, undef, undef, undef, undef, undef, undef, undef], []⟩ (by kernel_rfl) ?_
  refine wp_seq ?_
  refine wp_region_lit ?_
  refine g_pure 1 ⟨#[.bool false, undef, undef, undef, undef, undef, undef, undef, undef, undef, undef, undef, undef, undef, undef, undef, undef, undef], []⟩ (by kernel_rfl) ?_
  refine wpList_nil ?_
  refine wp_seq ?_
  refine wp_region_lit ?_
  refine g_op (by kernel_rfl) (op_call 7 #[.slice none 0 0] rfl rfl (fun _ _ => by kernel_rfl) (by kernel_rfl) ((image_Of_nil _).mono ?_))
  rintro e W1 ⟨rfl, rfl⟩
  refine ⟨_, rfl, ?_⟩
  have kI := Blk.new w [.slice none 0 0] 56
  have hbx := Bl.box w (.cells #[.slice none 0 0] 56)
  have hB := hbx
  refine g_op (by kernel_rfl) (op_call 22 #[.pointer (some ⟨w.heap.size, 0, none⟩)] rfl rfl (fun _ _ => by kernel_rfl) (by kernel_rfl) ((audit_Super_nil w.heap.size _ (hg.below hB) kI).mono ?_))
  rintro e W3 ⟨_, rfl, hb3, g, rfl, kD⟩
  refine ⟨_, rfl, ?_⟩
  replace hB := Bl.next hB hb3
  refine g_pure 3 ⟨#[.bool false, undef, undef, .tuple #[.agg zSup.toArray, .slice (some ⟨g, 0, none⟩) 1 1], .pointer (some ⟨w.heap.size, 0, none⟩), .tuple #[.agg zSup.toArray, .slice (some ⟨g, 0, none⟩) 1 1], .agg zSup.toArray, .slice (some ⟨g, 0, none⟩) 1 1, undef, undef, undef, undef, undef, undef, undef, undef, undef, undef], []⟩ (by kernel_rfl) ?_
  refine g_op (by kernel_rfl) (op_alloc [.int .i64 0, .int .i64 0, .int .i64 0, .int .i64 0, .int .i64 0, .int .i64 0, .int .i64 0, .int .i64 0, .int .i64 0, .int .i64 0, .int .i64 0] rfl (by kernel_rfl) ?_)
  intro b4 W4 n4
  have d4_g := n4.ne kD
  have g4 := n4.ge hB
  replace hB := Bl.next hB n4.below
  replace kD := kD.below n4.below
  have k4 := n4.blk
  refine g_op (by kernel_rfl) (op_storev zSup rfl rfl rfl (by kernel_rfl) (by decide) k4 (by decide) ?_)
  intro W5 u5 k5
  change Blk _ _ zSup _ at k5
  replace hB := u5.below hB g4
  replace kD := u5.blk kD (Ne.symm (Ne.symm d4_g))
  refine g_pure 1 ⟨#[.bool false, .pointer (some ⟨b4, 0, none⟩), .slice (some ⟨g, 0, none⟩) 1 1, .tuple #[.agg zSup.toArray, .slice (some ⟨g, 0, none⟩) 1 1], .pointer (some ⟨w.heap.size, 0, none⟩), .tuple #[.agg zSup.toArray, .slice (some ⟨g, 0, none⟩) 1 1], .agg zSup.toArray, .slice (some ⟨g, 0, none⟩) 1 1, undef, undef, undef, undef, undef, undef, undef, undef, undef, undef], []⟩ (by kernel_rfl) ?_
  refine wpList_nil ?_
  refine wp_seq ?_
  refine wp_region_lit ?_
  refine g_pure 6 ⟨#[.bool false, .pointer (some ⟨b4, 0, none⟩), .slice (some ⟨g, 0, none⟩) 1 1, .tuple #[.agg zSup.toArray, .slice (some ⟨g, 0, none⟩) 1 1], .pointer (some ⟨w.heap.size, 0, none⟩), .tuple #[.agg zSup.toArray, .slice (some ⟨g, 0, none⟩) 1 1], .agg zSup.toArray, .slice (some ⟨g, 0, none⟩) 1 1, .slice (some ⟨g, 0, none⟩) 1 1, .int .i64 1, .bool true, .bool true, .slice (some ⟨g, 0, none⟩) 1 1, .pointer (some ⟨g, 0, none⟩), undef, undef, undef, undef], []⟩ (by kernel_rfl) ?_
  refine g_op (by kernel_rfl) (op_loadv [.int .i64 1, .int .i64 0, .int .i64 3] _ rfl rfl Tryz.underlying53 rfl (by kernel_rfl) kD.range ?_)
  refine g_pure 4 ⟨#[.bool true, .pointer (some ⟨b4, 0, none⟩), .slice (some ⟨g, 0, none⟩) 1 1, .tuple #[.agg zSup.toArray, .slice (some ⟨g, 0, none⟩) 1 1], .pointer (some ⟨w.heap.size, 0, none⟩), .tuple #[.agg zSup.toArray, .slice (some ⟨g, 0, none⟩) 1 1], .agg zSup.toArray, .slice (some ⟨g, 0, none⟩) 1 1, .slice (some ⟨g, 0, none⟩) 1 1, .int .i64 1, .bool true, .bool true, .slice (some ⟨g, 0, none⟩) 1 1, .pointer (some ⟨g, 0, none⟩), .agg #[.int .i64 1, .int .i64 0, .int .i64 3], .agg #[.int .i64 1, .int .i64 0, .int .i64 3], .bool true, .bool true], []⟩ (by kernel_rfl) ?_
  refine wpList_nil ?_
  refine wp_ret ?_
  show bodyPost _ _ _ .ret _ _
  exact g_ret (.bool true) rfl (by kernel_rfl) ⟨rfl, hB⟩
end Go.Proofs.YthlakkdgcgkcdaaGreatDoor
namespace Go.Proofs.YthlakkdgcgkcdaaGreatDoor
open Go.RowKit Go.Extern.Stop Go.Stop Go.Extern
set_option linter.unusedVariables false
attribute [local irreducible] wpList wpAnyH Code.wp Oper.wp

def dl (kind : Int) (l : List Int) : List (Int × Int × Int) := l.map fun i => (kind, i, 13)
theorem ref28_Same_same (a b : Option Addr) (ca cb : Nat) (l : List (Int × Int × Int)) (w : World) (ha : Sts dmc w (.slice a l.length ca) l) (hb : Sts dmc w (.slice b l.length cb) l) :
    Calls Tryz.prog 14 #[.slice a l.length ca, .slice b l.length cb] w (Ret (.bool true) w) :=
  (ref28_Same a b ca cb l l w ha hb).mono fun e w' ⟨h1, h2⟩ => ⟨by rw [h1]; simp, h2⟩
end Go.Proofs.YthlakkdgcgkcdaaGreatDoor
namespace Go.Proofs.YthlakkdgcgkcdaaGreatDoor
open Go.RowKit Go.Extern.Stop Go.Stop Go.Extern
set_option linter.unusedVariables false
attribute [local irreducible] wpList wpAnyH Code.wp Oper.wp Go

def okL (O : List Int × Int × List Int) : List Int := if O.2.1 = 0 then O.2.2 else []
def dmgO (kind : Int) (O : List Int × Int × List Int) : List (Int × Int × Int) := if O.2.1 = 0 then [] else [(kind, lastB O.1, O.2.1)]
def AudP (kind : Int) (O : List Int × Int × List Int) (w : World) (e : Ending) (w' : World) : Prop :=
  ∃ p c q d, e = .returned (.tuple #[.slice p (okL O).length c, .slice q (dmgO kind O).length d]) ∧ Below w.heap.size w w' ∧ w'.ownsRow w.heap.size 3 1 (.slice p (okL O).length c) (okL O).length ((okL O).map (Value.int .i64)) ∧ w'.ownsRow w.heap.size 53 3 (.slice q (dmgO kind O).length d) (dmgO kind O).length ((dmgO kind O).flatMap dmc)
theorem aud_bad {kind : Int} {O : List Int × Int × List Int} {w W : World} {q : Option Addr} {d : Nat} (h : O.2.1 ≠ 0) (hb : Below w.heap.size w W) (ho : W.ownsRow w.heap.size 53 3 (.slice q 1 d) 1 [.int .i64 kind, .int .i64 (lastB O.1), .int .i64 O.2.1]) : AudP kind O w (.returned (.tuple #[.slice none 0 0, .slice q 1 d])) W := by
  refine ⟨none, 0, q, d, ?_, hb, ?_, ?_⟩
  · unfold okL dmgO; rw [if_neg h, if_neg h]; rfl
  · unfold okL; rw [if_neg h]; exact World.ownsRow_nil _ _ _ _
  · unfold dmgO; rw [if_neg h]; exact ho
theorem aud_ok {kind : Int} {O : List Int × Int × List Int} {w W : World} {p : Option Addr} {c : Nat} (h : O.2.1 = 0) (hb : Below w.heap.size w W) (ho : W.ownsRow w.heap.size 3 1 (.slice p O.2.2.length c) O.2.2.length (O.2.2.map (Value.int .i64))) : AudP kind O w (.returned (.tuple #[.slice p O.2.2.length c, .slice none 0 0])) W := by
  refine ⟨p, c, none, 0, ?_, hb, ?_, ?_⟩
  · unfold okL dmgO; rw [if_pos h, if_pos h]; rfl
  · unfold okL; rw [if_pos h]; exact ho
  · unfold dmgO; rw [if_pos h]; exact World.ownsRow_nil _ _ _ _
theorem wholeF_len (l : List UInt8) (root tree fuel : Int) : (wholeF (scanW l root tree fuel)).1.length ≤ 40 := by
  by_cases h : (scanW l root tree fuel).fs = []
  · rw [(whole_ok h).2.1]; decide
  · rw [(whole_bad h).2.1]
    exact scanW_len l root tree fuel _ (getD_in (List.length_pos_iff.2 h))
theorem oneO_len (l : List UInt8) (x : Plc) (want : Int) : (oneO l x want).1.length ≤ 40 := by
  unfold oneO
  repeat' split
  all_goals simp
theorem restO_len (l : List UInt8) (L : List (List Int)) (over fuel : Int) : (restO l L over fuel).1.length ≤ 40 := by
  unfold restO
  split
  · exact wholeF_len _ _ _ _
  · split <;> simp
theorem allO_len (l : List UInt8) (X : List Plc) (over n fuel : Int) : (allO l X over n fuel).1.length ≤ 40 := by
  unfold allO
  split
  · exact oneO_len _ _ _
  · exact restO_len _ _ _ _
theorem dataO_l40 (l : List UInt8) (index over n fuel : Int) : (dataO l index over n fuel).1.length ≤ 40 := by
  unfold dataO
  split
  · exact wholeF_len _ _ _ _
  · split
    · simp
    · split
      · simp
      · exact allO_len _ _ _ _ _
theorem metaO_l40 (l : List UInt8) (index over n fuel : Int) : (metaO l index over n fuel).1.length ≤ 40 := by
  unfold metaO
  split
  · simp
  · split
    · simp
    · exact allO_len _ _ _ _ _
theorem audit_OfE (kind er : Int) (bl : List Int) (v : Value) (w : World) (hl : bl.length ≤ 40) (hg : ErrT w) (hv : ErrV w (bl.map some) (some er) v) : Calls Tryz.prog 24 #[.int .i64 kind, v] w (Ret (.agg #[.int .i64 kind, .int .i64 (lastB bl), .int .i64 er]) w) := by
  have h := audit_Of kind (some er) (bl.map some) v w (by rw [List.length_map]; omega) hg hv
  rwa [blocksOf_some, codeOf_some] at h
theorem ref28_OfE (kind er : Int) (bl : List Int) (a : Option Addr) (c : Nat) (w : World) (hv : Sl w (.slice a bl.length c) bl.length (bl.map (Value.int .i64))) : Calls Tryz.prog 25 #[.int .i64 kind, .agg #[.slice a bl.length c, .int .i64 er]] w (Ret (.agg #[.int .i64 kind, .int .i64 (lastB bl), .int .i64 er]) w) := ref28_Of kind bl er _ w ⟨_, rfl, hv⟩
set_option maxRecDepth 100000 in
set_option maxHeartbeats 2000000 in
theorem audit_Data (Bi b : Nat) (pi : Option Addr) (ni ci : Nat) (l : List UInt8) (s : Sup) (fuel : Int) (w : World) (hI : ImgR Bi b pi ni ci l w) (hs : s.data ≤ 1099511627776) (hfu : fuel ≤ 1000) (hg : ErrT w) :
    Calls Tryz.prog 9 #[.pointer (some ⟨b, 0, none⟩), .agg #[.int .i64 s.tx, .int .i64 s.time, .int .i64 s.unit, .int .i64 s.data, .int .i64 s.blocks, .int .i64 s.top, .int .i64 s.details, .int .i64 s.dslots, .int .i64 s.dover, .int .i64 s.mindex, .int .i64 s.mover], .int .i64 fuel] w (AudP 5 (dataO l s.dslots s.dover s.data fuel) w) := by
 refine zin 28 Tryz.func9 ?_
 refine xa 2 [.int .i64 s.tx, .int .i64 s.time, .int .i64 s.unit, .int .i64 s.data, .int .i64 s.blocks, .int .i64 s.top, .int .i64 s.details, .int .i64 s.dslots, .int .i64 s.dover, .int .i64 s.mindex, .int .i64 s.mover] 24 fun b1 W1 n1 => ?_
 refine xb 8 7 n1.blk ?_
 refine xb 1 8 n1.blk ?_
 refine xb 1 3 n1.blk ?_
 refine xc 1 (args := #[.pointer (some ⟨b, 0, none⟩), .int .i64 s.dslots, .int .i64 s.dover, .int .i64 s.data, .int .i64 fuel]) (chart_Data Bi b pi ni ci l s.dslots s.dover s.data fuel _ (hI.below n1.below) hs hfu) ?_
 rintro e W2 hq2
 rcases hq2 with ⟨hbe, tyd, vd, rfl, hb2, hv9⟩ | ⟨hbe, p9, c9, rfl, hb2, ho9⟩
 · have hB'1 := Bl.next n1.below hb2
   refine xr 18 (args := #[.int .i64 5, .iface tyd (vd)]) (audit_OfE 5 (dataO l s.dslots s.dover s.data fuel).2.1 (dataO l s.dslots s.dover s.data fuel).1 _ _ (dataO_l40 _ _ _ _ _) (hg.below hB'1) hv9) fun W3 hb3 => ?_
   refine xbs 0 1 [.int .i64 5, .int .i64 (lastB (dataO l s.dslots s.dover s.data fuel).1), .int .i64 ((dataO l s.dslots s.dover s.data fuel).2.1)] 53 fun b4 W4 n4 => ?_
   have hB'2 := Bl.next hB'1 hb3
   have g4 := n4.ge hB'2
   have hB'3 := Bl.next hB'2 n4.below
   exact xe 6 (.tuple #[.slice none 0 0, .slice (some ⟨b4, 0, none⟩) 1 1]) (aud_bad hbe hB'3 (own_of_blk (size := 3) (n := 1) n4.blk g4 rfl (by decide)))
 have hB'4 := Bl.next n1.below hb2
 have ho9'1 := own_mono ho9 n1.below.size
 exact xe 25 (.tuple #[.slice p9 ((dataO l s.dslots s.dover s.data fuel).2.2.length) c9, .slice none 0 0]) (aud_ok hbe hB'4 ho9'1)
set_option maxRecDepth 100000 in
set_option maxHeartbeats 2000000 in
theorem ref28_Data (B bm : Nat) (p : Option Addr) (k c : Nat) (l : List UInt8) (s : Sup) (fuel : Int) (w : World) (hI : RefI B bm p k c l w) (hs : s.data ≤ 1099511627776) (hfu : fuel ≤ 1000) :
    Calls Tryz.prog 10 #[.pointer (some ⟨bm, 0, none⟩), .agg #[.int .i64 s.tx, .int .i64 s.time, .int .i64 s.unit, .int .i64 s.data, .int .i64 s.blocks, .int .i64 s.top, .int .i64 s.details, .int .i64 s.dslots, .int .i64 s.dover, .int .i64 s.mindex, .int .i64 s.mover], .int .i64 fuel] w (AudP 5 (dataO l s.dslots s.dover s.data fuel) w) := by
 refine zin 29 Tryz.func10 ?_
 refine xa 2 [.int .i64 s.tx, .int .i64 s.time, .int .i64 s.unit, .int .i64 s.data, .int .i64 s.blocks, .int .i64 s.top, .int .i64 s.details, .int .i64 s.dslots, .int .i64 s.dover, .int .i64 s.mindex, .int .i64 s.mover] 24 fun b1 W1 n1 => ?_
 refine xb 8 7 n1.blk ?_
 refine xb 1 8 n1.blk ?_
 refine xb 1 3 n1.blk ?_
 refine xc 1 (args := #[.pointer (some ⟨bm, 0, none⟩), .int .i64 s.dslots, .int .i64 s.dover, .int .i64 s.data, .int .i64 fuel]) (ref23_Data B bm p k c l s.dslots s.dover s.data fuel _ (hI.below n1.below) hs hfu) ?_
 rintro e W2 hq2
 rcases hq2 with ⟨hbe, p9, c9, a9, d9, rfl, hb2, hf9⟩ | ⟨hbe, p9, c9, a9, d9, rfl, hb2, ho9⟩
 · refine xa 3 [.slice none 0 0, .int .i64 0] 43 fun b3 W3 n3 => ?_
   have hB'1 := Bl.next n1.below hb2
   have g3 := n3.ge hB'1
   refine xsv 1 n3.blk [.slice a9 ((dataO l s.dslots s.dover s.data fuel).1.length) d9, .int .i64 ((dataO l s.dslots s.dover s.data fuel).2.1)] fun W4 u4 k4 => ?_
   refine xb 6 1 k4 ?_
   refine xk 3 (show (((dataO l s.dslots s.dover s.data fuel).2.1 != (0 : Int)) : Bool) = true from bne_iff_ne.2 hbe) ?_
   refine xlv 2 k4.rp ?_
   have hf9'1 := u4.own2 (own_below (own_mono hf9 n1.below.size) n3.below) n3.blk (by decide)
   refine xr 0 (args := #[.int .i64 5, .agg #[.slice a9 ((dataO l s.dslots s.dover s.data fuel).1.length) d9, .int .i64 ((dataO l s.dslots s.dover s.data fuel).2.1)]]) (ref28_OfE 5 (dataO l s.dslots s.dover s.data fuel).2.1 (dataO l s.dslots s.dover s.data fuel).1 a9 d9 _ (own_sl hf9'1)) fun W5 hb5 => ?_
   refine xbs 0 1 [.int .i64 5, .int .i64 (lastB (dataO l s.dslots s.dover s.data fuel).1), .int .i64 ((dataO l s.dslots s.dover s.data fuel).2.1)] 53 fun b6 W6 n6 => ?_
   have hB'2 := Bl.next (u4.below (Bl.next hB'1 n3.below) g3) hb5
   have g6 := n6.ge hB'2
   have hB'3 := Bl.next hB'2 n6.below
   exact xe 6 (.tuple #[.slice none 0 0, .slice (some ⟨b6, 0, none⟩) 1 1]) (aud_bad hbe hB'3 (own_of_blk (size := 3) (n := 1) n6.blk g6 rfl (by decide)))
 refine xa 3 [.slice none 0 0, .int .i64 0] 43 fun b7 W7 n7 => ?_
 have hB'4 := Bl.next n1.below hb2
 have g7 := n7.ge hB'4
 refine xsv 1 n7.blk [.slice a9 0 d9, .int .i64 0] fun W8 u8 k8 => ?_
 refine xb 6 1 k8 ?_
 have hB'5 := u8.below (Bl.next hB'4 n7.below) g7
 have ho9'1 := u8.own2 (own_below (own_mono ho9 n1.below.size) n7.below) n7.blk (by decide)
 exact xe 14 (.tuple #[.slice p9 ((dataO l s.dslots s.dover s.data fuel).2.2.length) c9, .slice none 0 0]) (aud_ok hbe hB'5 ho9'1)
set_option maxRecDepth 100000 in
set_option maxHeartbeats 2000000 in
theorem audit_Meta (Bi b : Nat) (pi : Option Addr) (ni ci : Nat) (l : List UInt8) (s : Sup) (fuel : Int) (w : World) (hI : ImgR Bi b pi ni ci l w) (hs : s.blocks ≤ 1099511627776) (hfu : fuel ≤ 1000) (hg : ErrT w) :
    Calls Tryz.prog 11 #[.pointer (some ⟨b, 0, none⟩), .agg #[.int .i64 s.tx, .int .i64 s.time, .int .i64 s.unit, .int .i64 s.data, .int .i64 s.blocks, .int .i64 s.top, .int .i64 s.details, .int .i64 s.dslots, .int .i64 s.dover, .int .i64 s.mindex, .int .i64 s.mover], .int .i64 fuel] w (AudP 7 (metaO l s.mindex s.mover s.blocks fuel) w) := by
 refine zin 28 Tryz.func11 ?_
 refine xa 2 [.int .i64 s.tx, .int .i64 s.time, .int .i64 s.unit, .int .i64 s.data, .int .i64 s.blocks, .int .i64 s.top, .int .i64 s.details, .int .i64 s.dslots, .int .i64 s.dover, .int .i64 s.mindex, .int .i64 s.mover] 24 fun b1 W1 n1 => ?_
 refine xb 8 9 n1.blk ?_
 refine xb 1 10 n1.blk ?_
 refine xb 1 4 n1.blk ?_
 refine xc 1 (args := #[.pointer (some ⟨b, 0, none⟩), .int .i64 s.mindex, .int .i64 s.mover, .int .i64 s.blocks, .int .i64 fuel]) (chart_Meta Bi b pi ni ci l s.mindex s.mover s.blocks fuel _ (hI.below n1.below) hs hfu) ?_
 rintro e W2 hq2
 rcases hq2 with ⟨hbe, tyd, vd, rfl, hb2, hv9⟩ | ⟨hbe, p9, c9, rfl, hb2, ho9⟩
 · have hB'1 := Bl.next n1.below hb2
   refine xr 18 (args := #[.int .i64 7, .iface tyd (vd)]) (audit_OfE 7 (metaO l s.mindex s.mover s.blocks fuel).2.1 (metaO l s.mindex s.mover s.blocks fuel).1 _ _ (metaO_l40 _ _ _ _ _) (hg.below hB'1) hv9) fun W3 hb3 => ?_
   refine xbs 0 1 [.int .i64 7, .int .i64 (lastB (metaO l s.mindex s.mover s.blocks fuel).1), .int .i64 ((metaO l s.mindex s.mover s.blocks fuel).2.1)] 53 fun b4 W4 n4 => ?_
   have hB'2 := Bl.next hB'1 hb3
   have g4 := n4.ge hB'2
   have hB'3 := Bl.next hB'2 n4.below
   exact xe 6 (.tuple #[.slice none 0 0, .slice (some ⟨b4, 0, none⟩) 1 1]) (aud_bad hbe hB'3 (own_of_blk (size := 3) (n := 1) n4.blk g4 rfl (by decide)))
 have hB'4 := Bl.next n1.below hb2
 have ho9'1 := own_mono ho9 n1.below.size
 exact xe 25 (.tuple #[.slice p9 ((metaO l s.mindex s.mover s.blocks fuel).2.2.length) c9, .slice none 0 0]) (aud_ok hbe hB'4 ho9'1)
set_option maxRecDepth 100000 in
set_option maxHeartbeats 2000000 in
theorem ref28_Meta (B bm : Nat) (p : Option Addr) (k c : Nat) (l : List UInt8) (s : Sup) (fuel : Int) (w : World) (hI : RefI B bm p k c l w) (hs : s.blocks ≤ 1099511627776) (hfu : fuel ≤ 1000) :
    Calls Tryz.prog 12 #[.pointer (some ⟨bm, 0, none⟩), .agg #[.int .i64 s.tx, .int .i64 s.time, .int .i64 s.unit, .int .i64 s.data, .int .i64 s.blocks, .int .i64 s.top, .int .i64 s.details, .int .i64 s.dslots, .int .i64 s.dover, .int .i64 s.mindex, .int .i64 s.mover], .int .i64 fuel] w (AudP 7 (metaO l s.mindex s.mover s.blocks fuel) w) := by
 refine zin 29 Tryz.func12 ?_
 refine xa 2 [.int .i64 s.tx, .int .i64 s.time, .int .i64 s.unit, .int .i64 s.data, .int .i64 s.blocks, .int .i64 s.top, .int .i64 s.details, .int .i64 s.dslots, .int .i64 s.dover, .int .i64 s.mindex, .int .i64 s.mover] 24 fun b1 W1 n1 => ?_
 refine xb 8 9 n1.blk ?_
 refine xb 1 10 n1.blk ?_
 refine xb 1 4 n1.blk ?_
 refine xc 1 (args := #[.pointer (some ⟨bm, 0, none⟩), .int .i64 s.mindex, .int .i64 s.mover, .int .i64 s.blocks, .int .i64 fuel]) (ref23_Meta B bm p k c l s.mindex s.mover s.blocks fuel _ (hI.below n1.below) hs hfu) ?_
 rintro e W2 hq2
 rcases hq2 with ⟨hbe, p9, c9, a9, d9, rfl, hb2, hf9⟩ | ⟨hbe, p9, c9, a9, d9, rfl, hb2, ho9⟩
 · refine xa 3 [.slice none 0 0, .int .i64 0] 43 fun b3 W3 n3 => ?_
   have hB'1 := Bl.next n1.below hb2
   have g3 := n3.ge hB'1
   refine xsv 1 n3.blk [.slice a9 ((metaO l s.mindex s.mover s.blocks fuel).1.length) d9, .int .i64 ((metaO l s.mindex s.mover s.blocks fuel).2.1)] fun W4 u4 k4 => ?_
   refine xb 6 1 k4 ?_
   refine xk 3 (show (((metaO l s.mindex s.mover s.blocks fuel).2.1 != (0 : Int)) : Bool) = true from bne_iff_ne.2 hbe) ?_
   refine xlv 2 k4.rp ?_
   have hf9'1 := u4.own2 (own_below (own_mono hf9 n1.below.size) n3.below) n3.blk (by decide)
   refine xr 0 (args := #[.int .i64 7, .agg #[.slice a9 ((metaO l s.mindex s.mover s.blocks fuel).1.length) d9, .int .i64 ((metaO l s.mindex s.mover s.blocks fuel).2.1)]]) (ref28_OfE 7 (metaO l s.mindex s.mover s.blocks fuel).2.1 (metaO l s.mindex s.mover s.blocks fuel).1 a9 d9 _ (own_sl hf9'1)) fun W5 hb5 => ?_
   refine xbs 0 1 [.int .i64 7, .int .i64 (lastB (metaO l s.mindex s.mover s.blocks fuel).1), .int .i64 ((metaO l s.mindex s.mover s.blocks fuel).2.1)] 53 fun b6 W6 n6 => ?_
   have hB'2 := Bl.next (u4.below (Bl.next hB'1 n3.below) g3) hb5
   have g6 := n6.ge hB'2
   have hB'3 := Bl.next hB'2 n6.below
   exact xe 6 (.tuple #[.slice none 0 0, .slice (some ⟨b6, 0, none⟩) 1 1]) (aud_bad hbe hB'3 (own_of_blk (size := 3) (n := 1) n6.blk g6 rfl (by decide)))
 refine xa 3 [.slice none 0 0, .int .i64 0] 43 fun b7 W7 n7 => ?_
 have hB'4 := Bl.next n1.below hb2
 have g7 := n7.ge hB'4
 refine xsv 1 n7.blk [.slice a9 0 d9, .int .i64 0] fun W8 u8 k8 => ?_
 refine xb 6 1 k8 ?_
 have hB'5 := u8.below (Bl.next hB'4 n7.below) g7
 have ho9'1 := u8.own2 (own_below (own_mono ho9 n1.below.size) n7.below) n7.blk (by decide)
 exact xe 14 (.tuple #[.slice p9 ((metaO l s.mindex s.mover s.blocks fuel).2.2.length) c9, .slice none 0 0]) (aud_ok hbe hB'5 ho9'1)
set_option maxRecDepth 100000 in
set_option maxHeartbeats 8000000 in
theorem auditMaps_law (a : Option Addr) (c : Nat) (l : List UInt8) (s : Sup) (fuel : Int) (w : World) (h : Bys w (.slice a l.length c) l) (hg : ErrT w) :
    Calls Tryz.prog 3 #[.slice a l.length c, .agg #[.int .i64 s.tx, .int .i64 s.time, .int .i64 s.unit, .int .i64 s.data, .int .i64 s.blocks, .int .i64 s.top, .int .i64 s.details, .int .i64 s.dslots, .int .i64 s.dover, .int .i64 s.mindex, .int .i64 s.mover], .int .i64 fuel] w (Ret (.bool true) w) := by
 have hcap := h.cap rfl
 obtain ⟨f2, hf2, hf3⟩ : ∃ x, (if (200 : Int) < fuel then (200 : Int) else fuel) = x ∧ x ≤ 200 := ⟨_, rfl, by split <;> omega⟩
 refine zin 86 Tryz.func3 ?_
 refine xa 2 [.int .i64 s.tx, .int .i64 s.time, .int .i64 s.unit, .int .i64 s.data, .int .i64 s.blocks, .int .i64 s.top, .int .i64 s.details, .int .i64 s.dslots, .int .i64 s.dover, .int .i64 s.mindex, .int .i64 s.mover] 24 fun b1 W1 n1 => ?_
 refine xg 10 [19, 20] (decide ((↑l.length : Int) > (12000 : Int))) (fun hc2 => ?_) (fun hc2 => ?_)
 · have hc2 := of_decide_eq_true hc2
   refine xr 14 (args := #[]) (lives28 _ (hg.below n1.below)) fun W3 hb3 => ?_
   have hB'1 := Bl.next n1.below hb3
   exact xe 5 (.bool true) ⟨rfl, hB'1⟩
 have hc2 := of_decide_eq_false hc2
 refine xb 1 3 n1.blk ?_
 refine xg 3 [23, 24, 25] (decide (s.data > (1099511627776 : Int))) (fun hc4 => ?_) (fun hc4 => ?_)
 · have hc4 := of_decide_eq_true hc4
   refine xr 9 (args := #[]) (lives28 _ (hg.below n1.below)) fun W5 hb5 => ?_
   have hB'2 := Bl.next n1.below hb5
   exact xe 5 (.bool true) ⟨rfl, hB'2⟩
 have hc4 := of_decide_eq_false hc4
 refine xb 1 4 n1.blk ?_
 refine xid 4 (s.blocks > (1099511627776 : Int)) (fun hc6 => ?_) (fun hc6 => ?_)
 · refine xr 2 (args := #[]) (lives28 _ (hg.below n1.below)) fun W7 hb7 => ?_
   have hB'3 := Bl.next n1.below hb7
   exact xe 5 (.bool true) ⟨rfl, hB'3⟩
 refine xq 5 (congrArg (Value.int .i64) (show (if (200 : Int) < fuel then (200 : Int) else fuel : Int) = f2 from hf2)) ?_
 refine xc 6 (args := #[.slice a l.length c]) (image_OfR a c l.length ((l.length / 256) * 256) l _ rfl (by omega) (h.below n1.below) (by omega) hcap) ?_
 rintro _ W8 ⟨_, rfl, hb8, bi, pi, ci, rfl, _, hI⟩
 have hB'4 := Bl.next n1.below hb8
 refine xc 1 (args := #[.slice a l.length c]) (ref_OfM a c l.length (l.length / 256) l _ rfl (by omega) (h.below hB'4) (by omega)) ?_
 rintro _ W9 ⟨_, rfl, hb9, bj, pj, cj, rfl, _, hJ⟩
 have k1'1 := (n1.blk.below hb8).below hb9
 refine xlv 7 k1'1.rp ?_
 have hI'1 := hI.below hb9
 have hB'5 := Bl.next hB'4 hb9
 refine xc 1 (args := #[.pointer (some ⟨bi, 0, none⟩), .agg #[.int .i64 s.tx, .int .i64 s.time, .int .i64 s.unit, .int .i64 s.data, .int .i64 s.blocks, .int .i64 s.top, .int .i64 s.details, .int .i64 s.dslots, .int .i64 s.dover, .int .i64 s.mindex, .int .i64 s.mover], .int .i64 f2]) (audit_Data _ bi pi _ ci (l.take ((l.length / 256) * 256)) s f2 _ hI'1 (by omega) (by omega) (hg.below hB'5)) ?_
 rintro _ W10 ⟨p1, c1, q1, d1, rfl, hb10, ho1, hd1⟩
 have hs10 := (Bl.next hB'4 hb9).size
 have k1'2 := k1'1.below hb10
 refine xlv 10 k1'2.rp ?_
 have hJ'1 := hJ.below hb10
 refine xc 1 (args := #[.pointer (some ⟨bj, 0, none⟩), .agg #[.int .i64 s.tx, .int .i64 s.time, .int .i64 s.unit, .int .i64 s.data, .int .i64 s.blocks, .int .i64 s.top, .int .i64 s.details, .int .i64 s.dslots, .int .i64 s.dover, .int .i64 s.mindex, .int .i64 s.mover], .int .i64 f2]) (ref28_Data _ bj pj _ cj (l.take ((l.length / 256) * 256)) s f2 _ hJ'1 (by omega) (by omega)) ?_
 rintro _ W11 ⟨p2, c2, q2, d2, rfl, hb11, ho2, hd2⟩
 have hs11 := (Bl.next hB'5 hb10).size
 have k1'3 := k1'2.below hb11
 refine xlv 10 k1'3.rp ?_
 have hI'2 := (hI'1.below hb10).below hb11
 have hB'6 := Bl.next (Bl.next hB'5 hb10) hb11
 refine xc 1 (args := #[.pointer (some ⟨bi, 0, none⟩), .agg #[.int .i64 s.tx, .int .i64 s.time, .int .i64 s.unit, .int .i64 s.data, .int .i64 s.blocks, .int .i64 s.top, .int .i64 s.details, .int .i64 s.dslots, .int .i64 s.dover, .int .i64 s.mindex, .int .i64 s.mover], .int .i64 f2]) (audit_Meta _ bi pi _ ci (l.take ((l.length / 256) * 256)) s f2 _ hI'2 (by omega) (by omega) (hg.below hB'6)) ?_
 rintro _ W12 ⟨p3, c3, q3, d3, rfl, hb12, ho3, hd3⟩
 have hs12 := (Bl.next (Bl.next hB'5 hb10) hb11).size
 have k1'4 := k1'3.below hb12
 refine xlv 10 k1'4.rp ?_
 have hJ'2 := (hJ'1.below hb11).below hb12
 refine xc 1 (args := #[.pointer (some ⟨bj, 0, none⟩), .agg #[.int .i64 s.tx, .int .i64 s.time, .int .i64 s.unit, .int .i64 s.data, .int .i64 s.blocks, .int .i64 s.top, .int .i64 s.details, .int .i64 s.dslots, .int .i64 s.dover, .int .i64 s.mindex, .int .i64 s.mover], .int .i64 f2]) (ref28_Meta _ bj pj _ cj (l.take ((l.length / 256) * 256)) s f2 _ hJ'2 (by omega) (by omega)) ?_
 rintro _ W13 ⟨p4, c4, q4, d4, rfl, hb13, ho4, hd4⟩
 have hs13 := (Bl.next hB'6 hb12).size
 have ho1'1 := own_below (own_below (own_below (own_mono ho1 hs10) hb11) hb12) hb13
 have ho2'1 := own_below (own_below (own_mono ho2 hs11) hb12) hb13
 refine xr 11 (args := #[.slice p1 ((okL (dataO (l.take ((l.length / 256) * 256)) s.dslots s.dover s.data f2)).length) c1, .slice p2 ((okL (dataO (l.take ((l.length / 256) * 256)) s.dslots s.dover s.data f2)).length) c2]) (ref01_Same p1 p2 c1 c2 (okL (dataO (l.take ((l.length / 256) * 256)) s.dslots s.dover s.data f2)) _ (own_sl ho1'1) (own_sl ho2'1)) fun W14 hb14 => ?_
 have hd1'1 := own_below (own_below (own_below (own_below (own_mono hd1 hs10) hb11) hb12) hb13) hb14
 have hd2'1 := own_below (own_below (own_below (own_mono hd2 hs11) hb12) hb13) hb14
 refine xr 3 (args := #[.slice q1 ((dmgO 5 (dataO (l.take ((l.length / 256) * 256)) s.dslots s.dover s.data f2)).length) d1, .slice q2 ((dmgO 5 (dataO (l.take ((l.length / 256) * 256)) s.dslots s.dover s.data f2)).length) d2]) (ref28_Same_same q1 q2 d1 d2 (dmgO 5 (dataO (l.take ((l.length / 256) * 256)) s.dslots s.dover s.data f2)) _ (own_sl hd1'1) (own_sl hd2'1)) fun W15 hb15 => ?_
 have ho3'1 := own_below (own_below (own_below (own_mono ho3 hs12) hb13) hb14) hb15
 have ho4'1 := own_below (own_below (own_mono ho4 hs13) hb14) hb15
 refine xr 4 (args := #[.slice p3 ((okL (metaO (l.take ((l.length / 256) * 256)) s.mindex s.mover s.blocks f2)).length) c3, .slice p4 ((okL (metaO (l.take ((l.length / 256) * 256)) s.mindex s.mover s.blocks f2)).length) c4]) (ref01_Same p3 p4 c3 c4 (okL (metaO (l.take ((l.length / 256) * 256)) s.mindex s.mover s.blocks f2)) _ (own_sl ho3'1) (own_sl ho4'1)) fun W16 hb16 => ?_
 have hd3'1 := own_below (own_below (own_below (own_below (own_mono hd3 hs12) hb13) hb14) hb15) hb16
 have hd4'1 := own_below (own_below (own_below (own_mono hd4 hs13) hb14) hb15) hb16
 refine xr 4 (args := #[.slice q3 ((dmgO 7 (metaO (l.take ((l.length / 256) * 256)) s.mindex s.mover s.blocks f2)).length) d3, .slice q4 ((dmgO 7 (metaO (l.take ((l.length / 256) * 256)) s.mindex s.mover s.blocks f2)).length) d4]) (ref28_Same_same q3 q4 d3 d4 (dmgO 7 (metaO (l.take ((l.length / 256) * 256)) s.mindex s.mover s.blocks f2)) _ (own_sl hd3'1) (own_sl hd4'1)) fun W17 hb17 => ?_
 have hB'7 := Bl.next (Bl.next (Bl.next (Bl.next (Bl.next (Bl.next hB'6 hb12) hb13) hb14) hb15) hb16) hb17
 refine xr 2 (args := #[]) (lives28 _ (hg.below hB'7)) fun W18 hb18 => ?_
 have hB'8 := Bl.next hB'7 hb18
 exact xe 5 (.bool true) ⟨rfl, hB'8⟩
end Go.Proofs.YthlakkdgcgkcdaaGreatDoor
namespace Go.Proofs.YthlakkdgcgkcdaaGreatDoor
open Go.ChangeShapes Go.WideShapes Go.ChangeAt Go.RowKit Go.Joins
set_option linter.unusedVariables false
theorem bytes_open {H : Type} {enc : TypeId × Value → H} {P : Program} {W : World} {r : Reach} {b0 : Nat} {t e : TypeId} {v : Value} {d : DataW H} {p : List MemPlace} (ht : P.underlying t = some (.slice e)) (he : P.underlying e = some (.int .u8)) (hC : P.cellsOf e = 1)
    (hv : Value.okWide P W r b0 t v) (h : DataW.Trod enc P W 0 (fun _ => true) true t v d p) : ∃ l, Bys W v l := by
  obtain ⟨a, len, cap, rfl⟩ := okWide_slice ht hv
  obtain ⟨fuel, hf⟩ := h
  rcases open_ints ht he hC hf with ⟨hcs, _⟩ | ⟨x, l, c, zs, hcs, _, hl, hm, hz, _, hcell, hwz⟩
  · simp [Value.cells] at hcs
    obtain ⟨rfl, rfl, rfl⟩ := hcs
    exact ⟨[], .inl ⟨_, _, rfl, rfl, rfl⟩⟩
  · simp [Value.cells] at hcs
    obtain ⟨rfl, rfl, rfl⟩ := hcs
    have hz' : zs.length = cap := by simpa using hz
    by_cases h0 : len = 0
    · subst h0
      exact ⟨[], .inl ⟨_, _, rfl, rfl, rfl⟩⟩
    · obtain ⟨b, off, spot⟩ := x
      have hc := hcell 0 (by omega)
      have hspot : spot = none := by simpa [Addr.add] using World.cell?_spot hc
      subst hspot
      have hlen : ((zs.take len).map fun n => UInt8.ofNat n.toNat).length = len := by simp; omega
      refine ⟨(zs.take len).map fun n => UInt8.ofNat n.toNat, .inr ⟨b, off, cap, by rw [hlen], by omega, hm, fun j x hj => ?_⟩⟩
      have hjl : j < len := by have := (List.getElem?_eq_some_iff.1 hj).1; simp at this; omega
      have e1 : zs[j]? = some zs[j] := List.getElem?_eq_getElem (by omega)
      have hw := hwz zs[j] (List.getElem_mem _)
      have hcj := hcell j (by omega)
      have e2 : zs.getD j 0 = zs[j] := by simp [List.getD, e1]
      rw [e2] at hcj
      have hx : x = .int .u8 zs[j] := by
        rw [List.getElem?_map, List.getElem?_map, List.getElem?_take_of_lt hjl, e1] at hj
        simp only [Option.map_some, Option.some.injEq] at hj
        rw [← hj]
        have hb : 0 ≤ zs[j] ∧ zs[j] ≤ 255 := by simpa [Lit.wf, IntKind.min, IntKind.max, IntKind.signed, IntKind.bits] using hw
        have h3 : (zs[j].toNat % 256 : Nat) = zs[j].toNat := Nat.mod_eq_of_lt (by omega)
        simp only [bv, UInt8.toNat_ofNat']
        rw [show (2 ^ 8 : Nat) = 256 from rfl, h3, Int.toNat_of_nonneg hb.1]
      subst hx
      by_cases hj0 : j = 0
      · subst hj0; simpa [Addr.add] using hcj
      · simpa [Addr.add, hj0] using hcj
end Go.Proofs.YthlakkdgcgkcdaaGreatDoor
namespace Go.Proofs.YthlakkdgcgkcdaaGreatDoor
open Go.ChangeShapes Go.WideShapes Go.ChangeAt Go.RowKit Go.Joins Go.Deep
set_option linter.unusedVariables false

def intOf : Value → Int
  | .int _ z => z
  | _ => 0
theorem ints_struct {H : Type} {enc : TypeId × Value → H} {P : Program} {W : World} {r : Reach} {b0 : Nat} {t ti : TypeId} {fs : Array Field} {v : Value} {d : DataW H} {p : List MemPlace} (hs : P.underlying t = some (.struct fs)) (hone : oneCellFields P fs = true) (hC : P.cellsOf t = fs.size)
    (hf : fs.toList.all (fun f => f.type == ti) = true) (hti : P.underlying ti = some (.int .i64)) (hv : Value.okWide P W r b0 t v) (h : DataW.Trod enc P W 0 (fun _ => true) true t v d p) :
    ∃ N : List Int, N.length = fs.size ∧ v = .agg (N.map (Value.int .i64)).toArray := by
  obtain ⟨cs, rfl, hsz⟩ := okWide_struct hs hv
  obtain ⟨fuel, hx⟩ := h
  obtain ⟨xs, n, _, _, hl, hlen, hfd⟩ := DataW.trod_struct hs hx
  have hat : ∀ i, i < fs.size → ∃ z : Int, cs[i]? = some (.int .i64 z) := by
    intro i hi
    have hfi : fs[i]? = some fs[i] := by simp [hi]
    obtain ⟨o0, k0⟩ := hone_of hone i fs[i] hfi
    have hti' : fs[i].type = ti := by
      have := List.all_eq_true.1 hf fs[i] (by simp)
      simpa using this
    have hq := hfd i fs[i] hfi
    have hci : i < cs.size := by omega
    have e : ((Value.agg cs).cells.toList.drop fs[i].offset).take (P.cellsOf fs[i].type) = [cs[i]] := by
      rw [o0, k0]
      simp [Value.cells, List.drop_eq_getElem_cons, hci]
    rw [e, hti', List.getElem?_eq_getElem (show i < xs.length by omega)] at hq
    obtain ⟨z, hz, _⟩ := DataW.trod_int hti hq
    simp only [List.cons.injEq, and_true] at hz
    exact ⟨z, by simp [hci, hz]⟩
  refine ⟨cs.toList.map intOf, by simp; omega, ?_⟩
  congr 1
  apply Array.ext'
  rw [List.toList_toArray]
  apply List.ext_getElem?
  intro i
  by_cases hi : i < fs.size
  · obtain ⟨z, hz⟩ := hat i hi
    have hz' : cs.toList[i]? = some (.int .i64 z) := by simpa using hz
    rw [hz', List.getElem?_map, List.getElem?_map, hz']; rfl
  · rw [List.getElem?_eq_none (by simp; omega), List.getElem?_eq_none (by simp; omega)]
theorem sup_open {H : Type} {enc : TypeId × Value → H} {P : Program} {W : World} {r : Reach} {b0 : Nat} {t ti : TypeId} {fs : Array Field} {v : Value} {d : DataW H} {p : List MemPlace} (hs : P.underlying t = some (.struct fs)) (hone : oneCellFields P fs = true) (hC : P.cellsOf t = fs.size) (h11 : fs.size = 11)
    (hf : fs.toList.all (fun f => f.type == ti) = true) (hti : P.underlying ti = some (.int .i64)) (hv : Value.okWide P W r b0 t v) (h : DataW.Trod enc P W 0 (fun _ => true) true t v d p) :
    ∃ s : Sup, v = .agg (supC s).toArray := by
  obtain ⟨N, hN, rfl⟩ := ints_struct hs hone hC hf hti hv h
  rw [h11] at hN
  match N, hN with
  | [a, b, c, d, e, f, g, h, i, j, k], _ => exact ⟨⟨a, b, c, d, e, f, g, h, i, j, k⟩, rfl⟩
end Go.Proofs.YthlakkdgcgkcdaaGreatDoor
