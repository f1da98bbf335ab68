/- The document's answer for layer 22: Data. The document's answer for layer 22: Data with room. The document's answer for layer 16: From and New. The document's New at any first block; what Told says of a number. value.Count and value.Slot of numbers that may stand there. bits.Put and bits.Free of small counts, slices.Clone of counts. tally.Split of counts. plot.Data$1: a slot noted as an entry. plot.lay with the closure of plot.Data: blocks of counts laid, their slots noted. law17.made: an allocator of a new image. The example of law 17. size.Bitmaps, plot.Data with room and without. The law PlotRoom, walked. The statement PlotData, walked. How a slice of bytes that came in reads: as a list of bytes. A slice of structs, each a bool, an int and a slice of bytes: how a law's argument reads. -/
import Derived.Deep.Slices
import Derived.Deep.Fields
import Derived.Deep.Strs
import Derived.ChangeSame
import Derived.Test.YtcjpomibhbakdaaGreatDoorMg4
namespace Go.Proofs.YtcjpomibhbakdaaGreatDoor
open Go.RowKit Go.Extern.Stop Go.Stop Go.Extern
set_option linter.unusedVariables false
attribute [local irreducible] wpList wpAnyH Code.wp Oper.wp Go

theorem ref21_Split_ok (a : Option Addr) (c : Nat) (l : List Int) (w : World) (h : Sl w (.slice a l.length c) l.length (l.map (Value.int .i64))) (hl : l.length ≤ 65536) (hs : splitE l = 0) : Calls Tryz.prog 32 #[.slice a l.length c] w (fun e w' => ∃ pb cb gs po co, e = .returned (.tuple #[.slice pb (bmN l.length) cb, .slice po (overK l l.length).length co, .int .i64 0]) ∧ Below w.heap.size w w' ∧ Lists w' w.heap.size (.slice pb (bmN l.length) cb) gs (chunksI (smallL l) (bmN l.length)) ∧ w'.ownsRow w.heap.size 69 3 (.slice po (overK l l.length).length co) (overK l l.length).length ((overK l l.length).flatMap entC)) :=
  (ref21_Split a c l w h hl).mono fun e w' q => (q.resolve_left fun z => z.1 hs).2
theorem ref22_layN (n : Nat) (B bc bm : Nat) (pg : Option Addr) (N cg : Nat) (fa0 : Option Addr) (mf0 fc0 f k0 : Nat) (p : Option Addr) (K cI : Nat) (bs : List UInt8) (B2 : Nat) (pl : Option Addr) (cl : Nat) (gs : List (Nat × Nat)) (L : List (List Int)) (w : World) (hn : L.length = n) (hR : RAl B bc bm pg N cg fa0 mf0 fc0 k0 (rngJ f N) w) (hJ : RefI B bm p K cI bs w) (hL : Lists w B2 (.slice pl n cl) gs L) (hS : ∀ i, i < L.length → Small (L.getD i []) ∧ (L.getD i []).length ≤ 960) (hf : f + N ≤ K) (hk : k0 + n ≤ N) (hLn : n ≤ 1000000) (hBw : B ≤ w.heap.size) :
    Calls Tryz.prog 35 #[.pointer (some ⟨bc, 0, none⟩), .slice pl n cl] w (fun e w' => ∃ a c2 fa m fc, e = .returned (.slice a n c2) ∧ Below B w w' ∧ Only [46, 9] w w' ∧ RAl B bc bm pg N cg fa m fc (k0 + n) (rngJ f N) w' ∧ RefI B bm p K cI (cntsB L (f + k0) bs n) w' ∧ w'.ownsRow w.heap.size 66 3 (.slice a n c2) n (rsL L (f + k0) n)) := by
  subst hn; exact ref22_lay B bc bm pg N cg fa0 mf0 fc0 f k0 p K cI bs B2 pl cl gs L w hR hJ hL hS hf hk hLn hBw
theorem chunks_smallR {l : List Int} (h : ∀ k, k < l.length → cntOk (l.getD k 0)) (n : Nat) : ∀ i, i < (chunksI (smallL l) n).length → Small ((chunksI (smallL l) n).getD i []) ∧ ((chunksI (smallL l) n).getD i []).length ≤ 960 := fun i hi => by
  rw [chunksI_len] at hi
  rw [chunksI_get hi]
  exact ⟨chunk_small (small_ok h) i, by rw [chunkI_len]; omega⟩
/-- the slots as a list -/
def rsC (x : Nat × Nat × Nat) : List Value := [.int .i64 (x.1 : Int), .int .i64 (x.2.1 : Int), .int .i64 (x.2.2 : Int)]
theorem rsC_len (x : Nat × Nat × Nat) : (rsC x).length = 3 := rfl
def rsD : Nat × Nat × Nat := (0, 0, 0)
def Rs (L : List (List Int)) (q n : Nat) : List (Nat × Nat × Nat) := (List.range n).map fun i => (q + i, freeN (L.getD i []), firstN (L.getD i []))
theorem Rs_len (L : List (List Int)) (q n : Nat) : (Rs L q n).length = n := by simp [Rs]
theorem Rs_get {L : List (List Int)} {q n i : Nat} (h : i < n) : (Rs L q n).getD i rsD = (q + i, freeN (L.getD i []), firstN (L.getD i [])) := by simp [Rs, List.getD, List.getElem?_range h]
theorem rsL_Rs (L : List (List Int)) (q n : Nat) : rsL L q n = (Rs L q n).flatMap rsC := by simp [rsL, Rs, List.flatMap_map]; rfl
theorem ents_right {v : Nat} {l : List Ent} (E : EntsOk v l) : entsB v l = true := entsB_true fun i hi => ⟨E.last hi, (E.hk i hi).2, E.hw i hi⟩
theorem Rs_sts {L : List (List Int)} {q n c : Nat} {p : Option Addr} {w : World} (h : Sl w (.slice p n c) n (rsL L q n)) : Sts rsC w (.slice p (Rs L q n).length c) (Rs L q n) := by unfold Sts; rw [Rs_len, ← rsL_Rs]; exact h
theorem slot_row {L : List (List Int)} {q n i : Nat} (h : i < n) : (slotsE L q i).flatMap entC ++ [.int .i64 (i : Int), .string ⟨(leB ((((Rs L q n).getD i rsD).1 : Nat) : Int) 8 ++ leB ((((Rs L q n).getD i rsD).2.1 : Nat) : Int) 4 ++ leB ((((Rs L q n).getD i rsD).2.2 : Nat) : Int) 4).toArray⟩, .int .i64 0] = (slotsE L q (i + 1)).flatMap entC := by
  rw [slotsE_succ, List.flatMap_append, Rs_get h]; rfl
set_option maxRecDepth 100000 in
set_option maxHeartbeats 1000000 in
theorem ref22_Data_bad (B bc bm : Nat) (pg : Option Addr) (N cg : Nat) (fa : Option Addr) (mf fc f k0 : Nat) (p : Option Addr) (K cI : Nat) (bs : List UInt8) (a : Option Addr) (c : Nat) (l : List Int) (w : World) (hR : RAl B bc bm pg N cg fa mf fc k0 (rngJ f N) w) (h : Sl w (.slice a l.length c) l.length (l.map (Value.int .i64))) (hl : l.length ≤ 3000) (hs : splitE l ≠ 0) :
    Calls Tryz.prog 11 #[.pointer (some ⟨bc, 0, none⟩), .slice a l.length c] w (Ret (.tuple #[.int .i64 0, .int .i64 0, .agg #[.slice none 0 0, .int .i64 2]]) w) := by
 refine zin 78 Tryz.func11 ?_
 refine xa 4 [.slice none 0 0, .int .i64 0] 31 fun b1 W1 n1 => ?_
 refine xr 5 (args := #[.slice a l.length c]) ((ref21_Split a c l _ (h.below n1.below) (by omega)).mono (fun _ _ q => (q.resolve_right (fun z => hs z.1)).2)) fun W2 hb2 => ?_
 refine xr 20 (args := #[.int .i64 2]) (ref22_bad 2 _) fun W3 hb3 => ?_
 have k1 := (n1.blk.below hb2).below hb3
 refine xsv 2 k1 [.slice none 0 0, .int .i64 2] fun W4 u4 k4 => ?_
 have g1 := n1.ge (Below.refl w.heap.size _)
 have hB'1 := u4.below (Bl.next (Bl.next n1.below hb2) hb3) g1
 exact xec 4 k4 (.tuple #[.int .i64 0, .int .i64 0, .agg #[.slice none 0 0, .int .i64 2]]) ⟨rfl, hB'1⟩
set_option maxRecDepth 100000 in
set_option maxHeartbeats 1000000 in
theorem ref22_Data_none (B bc bm : Nat) (pg : Option Addr) (N cg : Nat) (fa : Option Addr) (mf fc f k0 : Nat) (p : Option Addr) (K cI : Nat) (bs : List UInt8) (a : Option Addr) (c : Nat) (l : List Int) (w : World) (hR : RAl B bc bm pg N cg fa mf fc k0 (rngJ f N) w) (h : Sl w (.slice a l.length c) l.length (l.map (Value.int .i64))) (hl : l.length ≤ 3000) (hs : splitE l = 0) (hk : N < k0 + plotN l) :
    Calls Tryz.prog 11 #[.pointer (some ⟨bc, 0, none⟩), .slice a l.length c] w (Ret (.tuple #[.int .i64 0, .int .i64 0, .agg #[.slice none 0 0, .int .i64 14]]) w) := by
 have hbd := plotN_bd hl
 have hsp := splitE_ok hs
 have hol := overK_len l l.length
 have hpn : plotN l = (bmN l.length) + nodN 4 (bmN l.length) + nodN 5 (overK l l.length).length := rfl
 have hn4 := nodN_le 4 (bmN l.length)
 have hn5 := nodN_le 5 (overK l l.length).length
 have hRm := hR.hm
 refine zin 78 Tryz.func11 ?_
 refine xa 4 [.slice none 0 0, .int .i64 0] 31 fun b1 W1 n1 => ?_
 refine xc 5 (args := #[.slice a l.length c]) (ref21_Split_ok a c l _ (h.below n1.below) (by omega) hs) ?_
 rintro _ W2 ⟨pb, cb, gs, po, co, rfl, hb2, hL, hov⟩
 refine xd 21 .z ?_
 have hR'1 := ((hR.below n1.below).below hb2).below (below_drew W2)
 refine xl (.e [0, 1, 2] 3) (hR'1.blk.cell (i := 1) rfl) ?_
 refine xr (.o [4, 5, 6, 7, 8, 11, 12] 9) (args := #[.int .i64 4, .int .i64 (↑(bmN l.length) : Int)]) (ref15_Nodes 4 (bmN l.length) _ (by decide) (by decide) (by omega)) fun W3 hb3 => ?_
 refine xwm (.e [] 10) ((↑(bmN l.length) : Int) + (↑(nodN 4 (bmN l.length)) : Int)) (↑((bmN l.length) + (nodN 4 (bmN l.length))) : Int) ?_
 refine xr (.o [] 13) (args := #[.int .i64 5, .int .i64 (↑((overK l l.length).length) : Int)]) (ref15_Nodes 5 (overK l l.length).length _ (by decide) (by decide) (by omega)) fun W4 hb4 => ?_
 refine xwm (.e [] 14) ((↑((bmN l.length) + (nodN 4 (bmN l.length))) : Int) + (↑(nodN 5 (overK l l.length).length) : Int)) (↑(((bmN l.length) + (nodN 4 (bmN l.length))) + (nodN 5 (overK l l.length).length)) : Int) ?_
 refine xk (.r [15] 2) (show (decide ((↑mf : Int) < (↑(((bmN l.length) + (nodN 4 (bmN l.length))) + (nodN 5 (overK l l.length).length)) : Int)) : Bool) = true from decide_eq_true (by omega)) ?_
 refine xr 2 (args := #[.int .i64 14]) (ref22_bad 14 _) fun W5 hb5 => ?_
 have k1 := ((((n1.blk.below hb2).below (below_drew W2)).below hb3).below hb4).below hb5
 refine xsv 2 k1 [.slice none 0 0, .int .i64 14] fun W6 u6 k6 => ?_
 have g1 := n1.ge (Below.refl w.heap.size _)
 have hB'1 := u6.below (Bl.next (Bl.next (Bl.next (Bl.next (Bl.next n1.below hb2) (below_drew W2)) hb3) hb4) hb5) g1
 exact xec 4 k6 (.tuple #[.int .i64 0, .int .i64 0, .agg #[.slice none 0 0, .int .i64 14]]) ⟨rfl, hB'1⟩
end Go.Proofs.YtcjpomibhbakdaaGreatDoor
namespace Go.Proofs.YtcjpomibhbakdaaGreatDoor
open Go.RowKit Go.Extern.Stop Go.Stop Go.Extern
set_option linter.unusedVariables false
attribute [local irreducible] wpList wpAnyH Code.wp Oper.wp Go

def RDataP (B bc bm : Nat) (pg : Option Addr) (N cg f k0 : Nat) (p : Option Addr) (K c : Nat) (bs : List UInt8) (l : List Int) (w : World) (e : Ending) (w' : World) : Prop :=
  ∃ fa m fc, e = .returned (.tuple #[.int .i64 (plotB l (f + k0) bs).1, .int .i64 (plotB l (f + k0) bs).2.1, .agg #[.slice none 0 0, .int .i64 0]]) ∧ Below B w w' ∧ Only [46, 9] w w' ∧ RAl B bc bm pg N cg fa m fc (k0 + plotN l) (rngJ f N) w' ∧ RefI B bm p K c (plotB l (f + k0) bs).2.2 w'
theorem ref17_TreeN (B bc bm : Nat) (pg : Option Addr) (N cg : Nat) (fa : Option Addr) (mf fc f k0 : Nat) (p : Option Addr) (K cI : Nat) (bs : List UInt8) (t : Int) (a : Option Addr) (c n : Nat) (l : List Ent) (w : World) (hln : l.length = n) (hR : RAl B bc bm pg N cg fa mf fc k0 (rngJ f N) w) (hn : l.length ≤ 32768) (h1 : 1 ≤ t) (h2 : t ≤ 5) (hE : EntsOk (widN t true) l) (hs : k0 + nodN t l.length ≤ N) (hf : f + N ≤ K) (hJ : RefI B bm p K cI bs w) (hin : ∀ W, Below B w W → Only [46, 9] w W → Sl W (.slice a l.length c) l.length (l.flatMap entC)) (hBw : B ≤ w.heap.size) :
    Calls Tryz.prog 37 #[.pointer (some ⟨bc, 0, none⟩), .int .i64 t, .slice a n c] w (RTreeP B bc bm pg N cg f k0 p K cI bs t l w) := by
  subst hln
  exact ref17_Tree_y B bc bm pg N cg fa mf fc f k0 p K cI bs t a c l w hR hn ⟨h1, h2, ents_right hE⟩ hs hf hJ hin hBw
set_option maxRecDepth 100000 in
set_option maxHeartbeats 8000000 in
theorem ref22_Data (B bc bm : Nat) (pg : Option Addr) (N cg : Nat) (fa : Option Addr) (mf fc f k0 : Nat) (p : Option Addr) (K cI : Nat) (bs : List UInt8) (a : Option Addr) (c : Nat) (l : List Int) (w : World) (hR : RAl B bc bm pg N cg fa mf fc k0 (rngJ f N) w) (h : Sl w (.slice a l.length c) l.length (l.map (Value.int .i64))) (hl : l.length ≤ 3000) (hs : splitE l = 0) (hk : k0 + plotN l ≤ N) (hf : f + N ≤ K) (hf1 : 1 ≤ f) (hK : K ≤ 14400) (hJ : RefI B bm p K cI bs w) (hBw : B ≤ w.heap.size) :
    Calls Tryz.prog 11 #[.pointer (some ⟨bc, 0, none⟩), .slice a l.length c] w (RDataP B bc bm pg N cg f k0 p K cI bs l w) := by
 have hbd := plotN_bd hl
 have hsp := splitE_ok hs
 have hol := overK_len l l.length
 have hpn : plotN l = (bmN l.length) + nodN 4 (bmN l.length) + nodN 5 (overK l l.length).length := rfl
 have hn4 := nodN_le 4 (bmN l.length)
 have hn5 := nodN_le 5 (overK l l.length).length
 have hRm := hR.hm
 refine zin 78 Tryz.func11 ?_
 refine xa 4 [.slice none 0 0, .int .i64 0] 31 fun b1 W1 n1 => ?_
 refine xc 5 (args := #[.slice a l.length c]) (ref21_Split_ok a c l _ (h.below n1.below) (by omega) hs) ?_
 rintro _ W2 ⟨pb, cb, gs, po, co, rfl, hb2, hL, hov⟩
 have hs2 := (Bl.nextB (Below.refl B w) hBw n1.below).size
 refine xd 21 .z ?_
 have hR'1 := ((hR.below n1.below).below hb2).below (below_drew W2)
 refine xl (.e [0, 1, 2] 3) (hR'1.blk.cell (i := 1) rfl) ?_
 refine xr (.o [4, 5, 6, 7, 8, 11, 12] 9) (args := #[.int .i64 4, .int .i64 (↑(bmN l.length) : Int)]) (ref15_Nodes 4 (bmN l.length) _ (by decide) (by decide) (by omega)) fun W3 hb3 => ?_
 refine xwm (.e [] 10) ((↑(bmN l.length) : Int) + (↑(nodN 4 (bmN l.length)) : Int)) (↑((bmN l.length) + (nodN 4 (bmN l.length))) : Int) ?_
 refine xr (.o [] 13) (args := #[.int .i64 5, .int .i64 (↑((overK l l.length).length) : Int)]) (ref15_Nodes 5 (overK l l.length).length _ (by decide) (by decide) (by omega)) fun W4 hb4 => ?_
 refine xwm (.e [] 14) ((↑((bmN l.length) + (nodN 4 (bmN l.length))) : Int) + (↑(nodN 5 (overK l l.length).length) : Int)) (↑(((bmN l.length) + (nodN 4 (bmN l.length))) + (nodN 5 (overK l l.length).length)) : Int) ?_
 refine xk (.r [15] 2) (show (decide ((↑mf : Int) < (↑(((bmN l.length) + (nodN 4 (bmN l.length))) + (nodN 5 (overK l l.length).length)) : Int)) : Bool) = false from decide_eq_false (by omega)) ?_
 have hR'2 := (hR'1.below hb3).below hb4
 have hJ'1 := ((((hJ.below n1.below).below hb2).below (below_drew W2)).below hb3).below hb4
 have hL'1 := ((hL.below (below_drew W2)).below hb3).below hb4
 have hB := Bl.nextB (Bl.nextB (Bl.nextB (Bl.nextB (Bl.nextB (Below.refl B w) hBw n1.below) hBw hb2) hBw (below_drew W2)) hBw hb3) hBw hb4
 refine xc 6 (args := #[.pointer (some ⟨bc, 0, none⟩), .slice pb (bmN l.length) cb]) (ref22_layN (bmN l.length) B bc bm pg N cg fa mf fc f k0 p K cI bs _ pb cb gs (chunksI (smallL l) (bmN l.length)) _ (chunksI_len _ _) hR'2 hJ'1 hL'1 (chunks_smallR hsp.2 _) hf (by omega) (by omega) (Nat.le_trans hBw hB.size)) ?_
 rintro _ W5 ⟨a8, c8, fa2, mf2, fc2, rfl, hb5, hO5, hR, hJ, hsl⟩
 have hs5 := (Bl.nextB (Bl.nextB (Bl.nextB (Bl.nextB (Bl.nextB (Below.refl B w) hBw n1.below) hBw hb2) hBw (below_drew W2)) hBw hb3) hBw hb4).size
 have hov'1 := own_only (own_below (own_below (own_below (own_mono hov hs2) (below_drew W2)) hb3) hb4) hO5 (by decide)
 have hsl'1 := own_mono hsl hs5
 have hB'1 := hB.trans hb5
 have hO := (((((show Only [46, 9] w _ from (Only.of_below n1.below)).trans (Only.of_below hb2)).trans (Only.of_below (below_drew W2))).trans (Only.of_below hb3)).trans (Only.of_below hb4)).trans hO5
 have k1 := ((((n1.blk.below hb2).below (below_drew W2)).below hb3).below hb4).only hO5 (by decide)
 refine zl 15 78 (fun zm zkv V => ∃ (i : Nat) (p2 : Option Addr) (c2 : Nat), zkv = [(0, .pointer (some ⟨bc, 0, none⟩)), (4, .int .i64 0), (5, .int .i64 0), (6, .pointer (some ⟨b1, 0, none⟩)), (8, .slice po ((overK l l.length).length) co), (10, .slice a8 (bmN l.length) c8), (11, .slice p2 i c2), (12, .int .i64 (↑i : Int))] ∧ zm = (bmN l.length) - ((↑i : Int)).toNat ∧ Below B w V ∧ Only [46, 9] w V ∧ Blk V b1 ([.slice none 0 0, .int .i64 0]) 31 ∧ V.ownsRow w.heap.size 69 3 (.slice p2 i c2) i ((slotsE (chunksI (smallL l) (bmN l.length)) (f + k0) i).flatMap entC) ∧ V.ownsRow w.heap.size 69 3 (.slice po ((overK l l.length).length) co) ((overK l l.length).length) ((overK l l.length).flatMap entC) ∧ V.ownsRow w.heap.size 66 3 (.slice a8 (bmN l.length) c8) (bmN l.length) ((rsL (chunksI (smallL l) (bmN l.length)) (f + k0) (bmN l.length))) ∧ RAl B bc bm pg N cg fa2 mf2 fc2 (k0 + (bmN l.length)) (rngJ f N) V ∧ RefI B bm p K cI (cntsB (chunksI (smallL l) (bmN l.length)) (f + k0) bs (bmN l.length)) V ∧ i ≤ (bmN l.length) ∧ Apart (.slice p2 i c2) (.slice po (overK l l.length).length co)) ⟨0, none, 0, rfl, rfl, hB'1, hO, k1, World.ownsRow_nil _ _ _ _, hov'1, hsl'1, hR, hJ, Nat.zero_le _, Apart.nil _⟩ ?_
 rintro _ _ W6 ⟨i, p2, c2, rfl, rfl, hB_6, hO_6, k6_b1, hup, hov, hsl, hR, hJ, hi, hAp⟩ J6 hJ6 r6
 refine xid 9 ((↑i : Int) < (↑(bmN l.length) : Int)) (fun hc7 => ?_) (fun hc7 => ?_)
 · refine xx 9 _ (bmN l.length) i 3 (Sts.cell (Rs_sts (own_sl hsl)) rsC_len rsD (k := i) (i := 0) (by rw [Rs_len]; omega) rfl).1 ?_
   refine xlv 0 (Sts.rp (k := i) (Rs_sts (own_sl hsl)) rsC_len rsD (by rw [Rs_len]; omega) (by decide)) ?_
   have hrs : ((Rs (chunksI (smallL l) (bmN l.length)) (f + k0) (bmN l.length)).getD i rsD) = ((f + k0) + i, freeN ((chunksI (smallL l) (bmN l.length)).getD i []), firstN ((chunksI (smallL l) (bmN l.length)).getD i [])) := Rs_get (by omega)
   have hcs := chunks_smallR hsp.2 (bmN l.length) i (by rw [chunksI_len]; omega)
   have hf9 : freeN ((chunksI (smallL l) (bmN l.length)).getD i []) ≤ 960 := Nat.le_trans (freeK_le _ _) hcs.2
   have hg9 : firstN ((chunksI (smallL l) (bmN l.length)).getD i []) ≤ 960 := Nat.le_trans (firstN_le _) hcs.2
   refine xr 0 (args := #[.agg #[.int .i64 (↑((Rs (chunksI (smallL l) (bmN l.length)) (f + k0) (bmN l.length)).getD i rsD).1 : Int), .int .i64 (↑((Rs (chunksI (smallL l) (bmN l.length)) (f + k0) (bmN l.length)).getD i rsD).2.1 : Int), .int .i64 (↑((Rs (chunksI (smallL l) (bmN l.length)) (f + k0) (bmN l.length)).getD i rsD).2.2 : Int)]]) (ref08_SlotT (↑((Rs (chunksI (smallL l) (bmN l.length)) (f + k0) (bmN l.length)).getD i rsD).1 : Int) (↑((Rs (chunksI (smallL l) (bmN l.length)) (f + k0) (bmN l.length)).getD i rsD).2.1 : Int) (↑((Rs (chunksI (smallL l) (bmN l.length)) (f + k0) (bmN l.length)).getD i rsD).2.2 : Int) _ (by rw [hrs]; show 1 ≤ ((f + k0 + i : Nat) : Int) ∧ ((f + k0 + i : Nat) : Int) ≤ 14399; omega) (by rw [hrs]; show 0 ≤ ((freeN _ : Nat) : Int) ∧ ((freeN _ : Nat) : Int) ≤ 960; omega) (by rw [hrs]; show 0 ≤ ((firstN _ : Nat) : Int) ∧ ((firstN _ : Nat) : Int) ≤ 960; omega)) fun W8 hb8 => ?_
   refine xbs 1 1 [.int .i64 (↑i : Int), .string ⟨(leB (↑((Rs (chunksI (smallL l) (bmN l.length)) (f + k0) (bmN l.length)).getD i rsD).1 : Int) 8 ++ leB (↑((Rs (chunksI (smallL l) (bmN l.length)) (f + k0) (bmN l.length)).getD i rsD).2.1 : Int) 4 ++ leB (↑((Rs (chunksI (smallL l) (bmN l.length)) (f + k0) (bmN l.length)).getD i rsD).2.2 : Int) 4).toArray⟩, .int .i64 0] 69 fun b9 W9 n9 => ?_
   have hB'2 := Bl.nextB hB_6 hBw hb8
   have g9 := n9.ge0 hB'2
   have hov'2 := own_below hov hb8
   have r9_hov := own_ne hov'2 n9
   have hup'1 := own_below hup hb8
   have r9_hup := own_ne hup'1 n9
   have hup'2 := own_below hup'1 n9.below
   have hB'3 := Bl.nextB hB'2 hBw n9.below
   refine xbi 0 fun _ _ _ _ zJ zQ zo zx zy zK => op_app_at (b := b9) (c := 1) (m := 1) (news := [.int .i64 (↑i : Int), .string ⟨(leB (↑((Rs (chunksI (smallL l) (bmN l.length)) (f + k0) (bmN l.length)).getD i rsD).1 : Int) 8 ++ leB (↑((Rs (chunksI (smallL l) (bmN l.length)) (f + k0) (bmN l.length)).getD i rsD).2.1 : Int) 4 ++ leB (↑((Rs (chunksI (smallL l) (bmN l.length)) (f + k0) (bmN l.length)).getD i rsD).2.2 : Int) 4).toArray⟩, .int .i64 0]) (.agg #[.int .i64 0, .string ⟨#[]⟩, .int .i64 0]) 3 32 (i + 1) (((slotsE (chunksI (smallL l) (bmN l.length)) (f + k0) (i + 1)).flatMap entC)) zo Tryz.underlying60 (by kernel_rfl) rfl (by decide) zx hup'2 zy n9.blk rfl (by simp [Value.oneCell']) (by unfold maxLen; omega) (by omega) hB'3.size (by rfl) (slot_row (by omega)) fun px10 cx10 W10 o10 hg10 hb10 ha10 => ?_
   have hov'3 := own_below hov'2 n9.below
   have q10_hov := hAp.row hov'3 hg10
   replace hAp := (hAp.grow hov'3 ha10)
   have hovq10 := q10_hov
   refine zK _ _ ?_
   refine xwm 6 ((↑i : Int) + 1) (↑(i + 1) : Int) ?_
   have hB'4 := hB'3.trans (hb10.mono hBw)
   have hO'1 := (Only.grown_new ((hO_6.trans (Only.of_below hb8)).trans (Only.of_below n9.below)) hg10 hup'2)
   have k6_b1'1 := ((k6_b1.below hb8).below n9.below).grown hg10 hup'2 (by decide)
   have hsl'2 := own_grown (own_below (own_below hsl hb8) n9.below) hg10 hup'2 (by decide)
   have hR'3 := ((hR.below hb8).below n9.below).only (Only.of_grown (T := [69]) hg10 hup'2 (by decide)) (by decide)
   have hJ'2 := ((hJ.below hb8).below n9.below).only (Only.of_grown (T := [69]) hg10 hup'2 (by decide)) (by decide)
   exact ze 2 (hJ6 _ _ _ ⟨i + 1, _, _, rfl, rfl, hB'4, hO'1, k6_b1'1, o10, hovq10, hsl'2, hR'3, hJ'2, by omega, hAp⟩ (by omega))
 have hiN : i = (bmN l.length) := by omega
 refine xc 9 (args := #[.pointer (some ⟨bc, 0, none⟩), .int .i64 4, .slice p2 i c2]) (ref17_TreeN B bc bm pg N cg _ _ _ f (k0 + (bmN l.length)) p K cI (cntsB (chunksI (smallL l) (bmN l.length)) (f + k0) bs (bmN l.length)) 4 p2 c2 i (slotsE (chunksI (smallL l) (bmN l.length)) (f + k0) (bmN l.length)) _ (by rw [slotsE_len]; exact hiN.symm) hR (by rw [slotsE_len]; omega) (by decide) (by decide) (slots_ents _ _ _ (by omega)) (by rw [slotsE_len]; omega) hf hJ (fun W _ h2 => by have hh := own_sl (own_only hup h2 (by decide)); rw [hiN] at hh; rw [slotsE_len]; exact hh) (Nat.le_trans hBw hB_6.size)) ?_
 rintro _ W11 ⟨fa4, mf4, fc4, rfl, hb11, hO11, hR, hJ⟩
 rw [slotsE_len] at hR
 refine xa 3 [.slice none 0 0, .int .i64 0] 31 fun b12 W12 n12 => ?_
 have k6_b1'2 := k6_b1.only hO11 (by decide)
 have d12_b1 := n12.ne k6_b1'2
 have hB'5 := hB_6.trans hb11
 have g12 := n12.ge0 hB'5
 refine xsv 1 n12.blk [.slice none 0 0, .int .i64 0] fun W13 u13 k13 => ?_
 have hR'4 := (hR.below n12.below).only (Only.of_upd (T := [31]) u13 n12.blk (by decide)) (by decide)
 have hJ'3 := (hJ.below n12.below).only (Only.of_upd (T := [31]) u13 n12.blk (by decide)) (by decide)
 have hov'4 := u13.own2 (own_below (own_only hov hO11 (by decide)) n12.below) n12.blk (by decide)
 have hB'6 := u13.below (Bl.nextB hB'5 hBw n12.below) (Nat.le_trans hBw g12)
 refine xc 6 (args := #[.pointer (some ⟨bc, 0, none⟩), .int .i64 5, .slice po ((overK l l.length).length) co]) (ref17_TreeN B bc bm pg N cg _ _ _ f (k0 + (bmN l.length) + nodN 4 (bmN l.length)) p K cI (treeB 4 (slotsE (chunksI (smallL l) (bmN l.length)) (f + k0) (bmN l.length)) (f + (k0 + (bmN l.length))) (cntsB (chunksI (smallL l) (bmN l.length)) (f + k0) bs (bmN l.length))).2 5 po co (overK l l.length).length (overK l l.length) _ rfl hR'4 (by omega) (by decide) (by decide) (over_ents _ _ (by omega)) (by omega) hf hJ'3 (fun W _ h2 => own_sl (own_only hov'4 h2 (by decide))) (Nat.le_trans hBw hB'6.size)) ?_
 rintro _ W14 ⟨fa5, mf5, fc5, rfl, hb14, hO14, hR, hJ⟩
 refine xa 3 [.slice none 0 0, .int .i64 0] 31 fun b15 W15 n15 => ?_
 have k6_b1'3 := (u13.blk (k6_b1'2.below n12.below) (Ne.symm (Ne.symm d12_b1))).only hO14 (by decide)
 have d15_b1 := n15.ne k6_b1'3
 have k13'1 := k13.only hO14 (by decide)
 have d15_b12 := n15.ne k13'1
 have hB'7 := hB'6.trans hb14
 have g15 := n15.ge0 hB'7
 refine xsv 1 n15.blk [.slice none 0 0, .int .i64 0] fun W16 u16 k16 => ?_
 have k6_b1'4 := u16.blk (k6_b1'3.below n15.below) (Ne.symm (Ne.symm d15_b1))
 refine xsv 9 k6_b1'4 [.slice none 0 0, .int .i64 0] fun W17 u17 k17 => ?_
 have g1 := n1.ge0 (Below.refl B _)
 have hJ'4 := ((hJ.below n15.below).only (Only.of_upd (T := [31]) u16 n15.blk (by decide)) (by decide)).only (Only.of_upd (T := [31]) u17 k6_b1'4 (by decide)) (by decide)
 have hR'5 := ((hR.below n15.below).only (Only.of_upd (T := [31]) u16 n15.blk (by decide)) (by decide)).only (Only.of_upd (T := [31]) u17 k6_b1'4 (by decide)) (by decide)
 have hB'8 := u17.below (u16.below (Bl.nextB hB'7 hBw n15.below) (Nat.le_trans hBw g15)) (Nat.le_trans hBw g1)
 have hO'2 := (Only.upd_new (Only.upd_new (((Only.upd_new ((hO_6.trans hO11).trans (Only.of_below n12.below)) u13 g12).trans hO14).trans (Only.of_below n15.below)) u16 g15) u17 g1)
 refine xec 3 k17 (.tuple #[.int .i64 ((treeB 4 (slotsE (chunksI (smallL l) (bmN l.length)) (f + k0) (bmN l.length)) (f + (k0 + (bmN l.length))) (cntsB (chunksI (smallL l) (bmN l.length)) (f + k0) bs (bmN l.length))).1), .int .i64 ((treeB 5 (overK l l.length) (f + (k0 + (bmN l.length) + nodN 4 (bmN l.length))) (treeB 4 (slotsE (chunksI (smallL l) (bmN l.length)) (f + k0) (bmN l.length)) (f + (k0 + (bmN l.length))) (cntsB (chunksI (smallL l) (bmN l.length)) (f + k0) bs (bmN l.length))).2).1), .agg #[.slice none 0 0, .int .i64 0]]) ?_
 have e1 : f + (k0 + (bmN l.length)) = f + k0 + (bmN l.length) := by omega
 have e2 : f + (k0 + (bmN l.length) + nodN 4 (bmN l.length)) = f + k0 + (bmN l.length) + nodN 4 (bmN l.length) := by omega
 rw [e2, e1] at hJ'4 ⊢
 have e3 : k0 + (bmN l.length) + nodN 4 (bmN l.length) + nodN 5 (overK l l.length).length = k0 + plotN l := by omega
 rw [e3] at hR'5
 exact ⟨_, _, _, rfl, hB'8, hO'2, hR'5, hJ'4⟩
end Go.Proofs.YtcjpomibhbakdaaGreatDoor
namespace Go.Proofs.YtcjpomibhbakdaaGreatDoor
open Go.RowKit Go.Extern.Stop Go.Stop Go.Extern
set_option linter.unusedVariables false
attribute [local irreducible] wpList wpAnyH Code.wp Oper.wp Go

def RFromP (bm K : Nat) (L : List Int) (w : World) (e : Ending) (w' : World) : Prop :=
  (fromE K L ≠ 0 ∧ e = .returned (.tuple #[.pointer none, .agg #[.slice none 0 0, .int .i64 (fromE K L)]]) ∧ Below w.heap.size w w') ∨
  (fromE K L = 0 ∧ ∃ bc pg cg, e = .returned (.tuple #[.pointer (some ⟨bc, 0, none⟩), .agg #[.slice none 0 0, .int .i64 0]]) ∧ Below w.heap.size w w' ∧ RAl w.heap.size bc bm pg L.length cg pg L.length cg 0 L w')
set_option maxRecDepth 100000 in
set_option maxHeartbeats 4000000 in
theorem ref_From (bm : Nat) (p : Option Addr) (K c : Nat) (aL : Option Addr) (cL : Nat) (L : List Int) (w : World) (hk : Blk w bm [.slice p K c] 57) (hK : K ≤ 14400) (h : Sl w (.slice aL L.length cL) L.length (L.map (Value.int .i64))) (hLn : L.length ≤ 1000000) :
    Calls Tryz.prog 24 #[.pointer (some ⟨bm, 0, none⟩), .slice aL L.length cL] w (RFromP bm K L w) := by
 refine zin 56 Tryz.func24 ?_
 refine xa 3 [.slice none 0 0, .int .i64 0] 31 fun b1 W1 n1 => ?_
 have hk'1 := hk.below n1.below
 refine zl 9 56 (fun zm zkv V => ∃ (i : Nat), zkv = [(0, .pointer (some ⟨bm, 0, none⟩)), (1, .slice aL L.length cL), (5, .pointer (some ⟨b1, 0, none⟩)), (6, .int .i64 (↑i : Int))] ∧ zm = L.length - ((↑i : Int)).toNat ∧ Below w.heap.size w V ∧ Blk V bm ([.slice p K c]) 57 ∧ Blk V b1 ([.slice none 0 0, .int .i64 0]) 31 ∧ i ≤ L.length ∧ (∀ x, x < i → 1 ≤ L.getD x 0 ∧ L.getD x 0 < (K : Int))) ⟨0, rfl, rfl, n1.below, hk'1, n1.blk, Nat.zero_le _, ?_⟩ ?_
 · exact fun x hx => absurd hx (by omega)
 rintro _ _ W2 ⟨i, rfl, rfl, hB_2, k2_bm, k2_b1, hi, hz⟩ J2 hJ2 r2
 refine xid 9 ((↑i : Int) < (↑L.length : Int)) (fun hc3 => ?_) (fun hc3 => ?_)
 · refine xd 5 .z ?_
   refine xx (.e [0, 1] 2) _ L.length i 1 (Ints.elem h (k := i) (by omega)).1 ?_
   have hB'1 := Bl.next hB_2 (below_drew W2)
   refine xl (.e [] 3) ((Ints.elem (h.below hB'1) (k := i) (by omega)).2) ?_
   refine xg (.b [4, 5]) [18, 19] (decide ((L.getD i 0) < (1 : Int))) (fun hc4 => ?_) (fun hc4 => ?_)
   · have hc4 := of_decide_eq_true hc4
     have k2_b1'1 := k2_b1.below (below_drew W2)
     refine xsv (.r [6, 7, 8, 9, 10, 11, 12, 13, 14, 15, 16] 7) k2_b1'1 [.slice none 0 0, .int .i64 1] fun W5 u5 k5 => ?_
     have g1 := n1.ge (Below.refl w.heap.size _)
     have hB'2 := u5.below hB'1 g1
     refine xec 8 k5 (.tuple #[.pointer none, .agg #[.slice none 0 0, .int .i64 1]]) ?_
     have he : fromE K L = 1 := by unfold fromE; rw [goodB_false (j := i) (by omega) (by omega)]; rfl
     exact .inl ⟨by rw [he]; decide, by rw [he], hB'2⟩
   have hc4 := of_decide_eq_false hc4
   refine xx (.e [6, 7] 8) _ L.length i 1 (Ints.elem h (k := i) (by omega)).1 ?_
   refine xl (.e [] 9) ((Ints.elem (h.below hB'1) (k := i) (by omega)).2) ?_
   have k2_bm'1 := k2_bm.below (below_drew W2)
   refine xb (.e [10, 11, 12] 13) 0 k2_bm'1 ?_
   refine xid (.r [14, 15, 16] 2) ((L.getD i 0) ≥ (↑K : Int)) (fun hc6 => ?_) (fun hc6 => ?_)
   · have k2_b1'2 := k2_b1.below (below_drew W2)
     refine xsv 4 k2_b1'2 [.slice none 0 0, .int .i64 1] fun W7 u7 k7 => ?_
     have g1 := n1.ge (Below.refl w.heap.size _)
     have hB'3 := u7.below hB'1 g1
     refine xec 8 k7 (.tuple #[.pointer none, .agg #[.slice none 0 0, .int .i64 1]]) ?_
     have he : fromE K L = 1 := by unfold fromE; rw [goodB_false (j := i) (by omega) (by omega)]; rfl
     exact .inl ⟨by rw [he]; decide, by rw [he], hB'3⟩
   refine xwm 5 ((↑i : Int) + 1) (↑(i + 1) : Int) ?_
   have k2_b1'3 := k2_b1.below (below_drew W2)
   exact ze 2 (hJ2 _ _ _ ⟨i + 1, rfl, rfl, hB'1, k2_bm'1, k2_b1'3, by omega, fun x hx => (Nat.lt_or_ge x i).elim (hz x) (fun q => by obtain rfl : x = i := (by omega); omega)⟩ (by omega))
 refine zl 12 56 (fun zm zkv V => ∃ (j : Nat), zkv = [(0, .pointer (some ⟨bm, 0, none⟩)), (1, .slice aL L.length cL), (5, .pointer (some ⟨b1, 0, none⟩)), (7, .int .i64 (↑j : Int))] ∧ zm = L.length - ((↑j : Int)).toNat ∧ Below w.heap.size w V ∧ Blk V bm ([.slice p K c]) 57 ∧ Blk V b1 ([.slice none 0 0, .int .i64 0]) 31 ∧ 1 ≤ j ∧ j ≤ max 1 L.length ∧ (∀ x, x + 1 < j → L.getD x 0 < L.getD (x + 1) 0)) ⟨1, rfl, rfl, hB_2, k2_bm, k2_b1, Nat.le_refl _, by omega, ?_⟩ ?_
 · exact fun x hx => absurd hx (by omega)
 rintro _ _ W8 ⟨j, rfl, rfl, hB_8, k8_bm, k8_b1, hj0, hj, hz2⟩ J8 hJ8 r8
 refine xid 9 ((↑j : Int) < (↑L.length : Int)) (fun hc9 => ?_) (fun hc9 => ?_)
 · refine xd 5 .z ?_
   refine xx (.e [0, 1] 2) _ L.length j 1 (Ints.elem h (k := j) (by omega)).1 ?_
   have hB'4 := Bl.next hB_8 (below_drew W8)
   refine xl (.e [] 3) ((Ints.elem (h.below hB'4) (k := j) (by omega)).2) ?_
   refine xwm (.e [4, 5] 6) ((↑j : Int) - 1) (↑(j - 1) : Int) ?_
   refine xx (.e [] 7) _ L.length (j - 1) 1 (Ints.elem h (k := (j - 1)) (by omega)).1 ?_
   refine xl (.e [] 8) ((Ints.elem (h.below hB'4) (k := (j - 1)) (by omega)).2) ?_
   refine xid (.r [9] 2) ((L.getD j 0) ≤ (L.getD (j - 1) 0)) (fun hc10 => ?_) (fun hc10 => ?_)
   · have k8_b1'1 := k8_b1.below (below_drew W8)
     refine xsv 4 k8_b1'1 [.slice none 0 0, .int .i64 8] fun W11 u11 k11 => ?_
     have g1 := n1.ge (Below.refl w.heap.size _)
     have hB'5 := u11.below hB'4 g1
     refine xec 8 k11 (.tuple #[.pointer none, .agg #[.slice none 0 0, .int .i64 8]]) ?_
     have hgd : goodB K L = true := goodB_true fun x hx => hz x (by omega)
     have he : fromE K L = 8 := by unfold fromE; rw [if_pos hgd, riseB_false (j := j - 1) (by omega) (by rw [show j - 1 + 1 = j by omega]; omega)]; rfl
     exact .inl ⟨by rw [he]; decide, by rw [he], hB'5⟩
   refine xwm 5 ((↑j : Int) + 1) (↑(j + 1) : Int) ?_
   have k8_bm'1 := k8_bm.below (below_drew W8)
   have k8_b1'2 := k8_b1.below (below_drew W8)
   exact ze 2 (hJ8 _ _ _ ⟨j + 1, rfl, rfl, hB'4, k8_bm'1, k8_b1'2, by omega, by omega, fun x hx => (Nat.lt_or_ge (x + 1) j).elim (hz2 x) (fun q => by obtain rfl : j = x + 1 := (by omega); rw [Nat.add_sub_cancel] at *; omega)⟩ (by omega))
 refine xb0 8 3 fun b12 W12 n12 => ?_
 have o12 := own_of_blk (size := 1) (n := 0) n12.blk (n12.ge hB_8) rfl (by decide)
 have hB'6 := Bl.next hB_8 n12.below
 refine xbi 1 fun _ _ _ _ zJ zQ zo zx zy zK => op_app (m := L.length) (news := L.map (Value.int .i64)) (.int .i64 0) 1 8 (L.length) (L.map (Value.int .i64)) zo Tryz.underlying22 (by kernel_rfl) rfl (by decide) zx o12 zy (h.below hB'6) (by simp) (ints_one L) (by unfold maxLen; omega) (by omega) hB'6.size (by omega) (by rfl) fun p13 c13 W13 o13 hg13 hb13 => ?_
 refine zK _ _ ?_
 refine xa 1 [.pointer (some ⟨bm, 0, none⟩), .slice p13 L.length c13, .int .i64 0] 46 fun b14 W14 n14 => ?_
 have k8_b1'3 := ((k8_b1.below n12.below).grown hg13 o12 (by decide)).below n14.below
 refine xsv 2 k8_b1'3 [.slice none 0 0, .int .i64 0] fun W15 u15 k15 => ?_
 have g1 := n1.ge (Below.refl w.heap.size _)
 have hB'7 := u15.below (Bl.next (hB'6.trans hb13) n14.below) g1
 have k14 := u15.blkT n14.blk k8_b1'3 (by decide)
 have o13'1 := u15.own2 (own_below o13 n14.below) k8_b1'3 (by decide)
 have g14 := n14.ge (hB'6.trans hb13)
 refine xec 3 k15 (.tuple #[.pointer (some ⟨b14, 0, none⟩), .agg #[.slice none 0 0, .int .i64 0]]) ?_
 have hgd : goodB K L = true := goodB_true fun x hx => hz x (by omega)
 exact .inr ⟨by unfold fromE; rw [if_pos hgd, if_pos (riseB_true fun x hx => hz2 x (by omega))], _, _, _, rfl, hB'7, k14, o13'1, fun hp => by obtain ⟨g, rfl, _⟩ := own_someN o13'1 hp; exact ⟨(cutA_zero g _).symm, rfl⟩, rfl, rfl, g14, hLn⟩
set_option maxRecDepth 100000 in
set_option maxHeartbeats 1000000 in
theorem ref_New_bad (bm : Nat) (p : Option Addr) (K c : Nat) (f : Int) (w : World) (hk : Blk w bm [.slice p K c] 57) (hf : ¬ (1 ≤ f ∧ f ≤ (K : Int))) :
    Calls Tryz.prog 8 #[.pointer (some ⟨bm, 0, none⟩), .int .i64 f] w (Ret (.tuple #[.pointer none, .agg #[.slice none 0 0, .int .i64 1]]) w) := by
 refine zin 39 Tryz.func8 ?_
 refine xa 3 [.slice none 0 0, .int .i64 0] 31 fun b1 W1 n1 => ?_
 refine xg 8 [9, 10] (decide (f < (1 : Int))) (fun hc2 => ?_) (fun hc2 => ?_)
 · have hc2 := of_decide_eq_true hc2
   refine xsv 15 n1.blk [.slice none 0 0, .int .i64 1] fun W3 u3 k3 => ?_
   have g1 := n1.ge (Below.refl w.heap.size _)
   have hB := u3.below n1.below g1
   exact xec 4 k3 (.tuple #[.pointer none, .agg #[.slice none 0 0, .int .i64 1]]) ⟨rfl, hB⟩
 have hc2 := of_decide_eq_false hc2
 have hk'1 := hk.below n1.below
 refine xb 4 0 hk'1 ?_
 refine xk 5 (show (decide (f > (↑K : Int)) : Bool) = true from decide_eq_true (by omega)) ?_
 refine xsv 4 n1.blk [.slice none 0 0, .int .i64 1] fun W4 u4 k4 => ?_
 have g1 := n1.ge (Below.refl w.heap.size _)
 have hB := u4.below n1.below g1
 exact xec 4 k4 (.tuple #[.pointer none, .agg #[.slice none 0 0, .int .i64 1]]) ⟨rfl, hB⟩
theorem rng_good {f K : Nat} (h1 : 1 ≤ f) (h2 : f ≤ K) : goodB K (rngJ f (K - f)) = true := goodB_true fun j hj => by rw [rngJ_len] at hj; rw [rngJ_get hj]; omega
theorem rng_rise (f N : Nat) : riseB (rngJ f N) = true := riseB_true fun j hj => by rw [rngJ_len] at hj; rw [rngJ_get (by omega), rngJ_get hj]; omega
theorem rng_from {f K : Nat} (h1 : 1 ≤ f) (h2 : f ≤ K) : fromE K (rngJ f (K - f)) = 0 := by unfold fromE; rw [if_pos (rng_good h1 h2), if_pos (rng_rise f _)]
def RNewP (bm f K : Nat) (w : World) (e : Ending) (w' : World) : Prop :=
  ∃ bc pg cg, e = .returned (.tuple #[.pointer (some ⟨bc, 0, none⟩), .agg #[.slice none 0 0, .int .i64 0]]) ∧ Below w.heap.size w w' ∧ RAl w.heap.size bc bm pg (K - f) cg pg (K - f) cg 0 (rngJ f (K - f)) w'
theorem ref_From_rng (bm : Nat) (p : Option Addr) (f K c N : Nat) (aL : Option Addr) (cL : Nat) (w : World) (hk : Blk w bm [.slice p K c] 57) (hK : K ≤ 14400) (h1 : 1 ≤ f) (h2 : f ≤ K) (hN : K - f = N) (h : Sl w (.slice aL N cL) N ((rngJ f N).map (Value.int .i64))) :
    Calls Tryz.prog 24 #[.pointer (some ⟨bm, 0, none⟩), .slice aL N cL] w (RNewP bm f K w) := by
  subst hN
  have e := rngJ_len f (K - f)
  have h' : Sl w (.slice aL (rngJ f (K - f)).length cL) (rngJ f (K - f)).length ((rngJ f (K - f)).map (Value.int .i64)) := by rw [e]; exact h
  have hc := ref_From bm p K c aL cL (rngJ f (K - f)) w hk hK h' (by rw [e]; omega)
  rw [e] at hc
  refine hc.mono ?_
  rintro q W (⟨h0, _⟩ | ⟨_, bc, pg, cg, rfl, hb, hA⟩)
  · exact absurd (rng_from h1 h2) h0
  · rw [e] at hA
    exact ⟨bc, pg, cg, rfl, hb, hA⟩
set_option maxRecDepth 100000 in
set_option maxHeartbeats 2000000 in
theorem ref_New (bm : Nat) (p : Option Addr) (f K c : Nat) (w : World) (hk : Blk w bm [.slice p K c] 57) (hK : K ≤ 14400) (h1 : 1 ≤ f) (h2 : f ≤ K) :
    Calls Tryz.prog 8 #[.pointer (some ⟨bm, 0, none⟩), .int .i64 (↑f : Int)] w (RNewP bm f K w) := by
 refine zin 39 Tryz.func8 ?_
 refine xa 3 [.slice none 0 0, .int .i64 0] 31 fun b1 W1 n1 => ?_
 refine xgk 8 [9, 10] (show (decide ((↑f : Int) < (1 : Int)) : Bool) = false from decide_eq_false (by omega)) ?_
 have hk'1 := hk.below n1.below
 refine xb 4 0 hk'1 ?_
 refine xk 5 (show (decide ((↑f : Int) > (↑K : Int)) : Bool) = false from decide_eq_false (by omega)) ?_
 refine zl 15 39 (fun zm zkv V => ∃ (j : Nat) (pl : Option Addr) (cl : Nat), zkv = [(0, .pointer (some ⟨bm, 0, none⟩)), (4, .pointer none), (5, .pointer (some ⟨b1, 0, none⟩)), (6, .slice pl j cl), (7, .int .i64 (↑(f + j) : Int))] ∧ zm = K - ((↑(f + j) : Int)).toNat ∧ Below w.heap.size w V ∧ Blk V bm ([.slice p K c]) 57 ∧ Blk V b1 ([.slice none 0 0, .int .i64 0]) 31 ∧ V.ownsRow w.heap.size 3 1 (.slice pl j cl) j ((rngJ f j).map (Value.int .i64)) ∧ f + j ≤ K) ⟨0, _, _, rfl, rfl, n1.below, hk'1, n1.blk, World.ownsRow_nil _ _ _ _, by omega⟩ ?_
 rintro _ _ W3 ⟨j, pl, cl, rfl, rfl, hB_3, k3_bm, k3_b1, ho, hj⟩ J3 hJ3 r3
 refine xb 7 0 k3_bm ?_
 refine xid 4 ((↑(f + j) : Int) < (↑K : Int)) (fun hc4 => ?_) (fun hc4 => ?_)
 · refine xbs 7 1 [.int .i64 (↑(f + j) : Int)] 3 fun b5 W5 n5 => ?_
   have r5_ho := own_ne ho n5
   have ho'1 := own_below ho n5.below
   have hB'1 := Bl.next hB_3 n5.below
   refine xbi 0 fun _ _ _ _ zJ zQ zo zx zy zK => op_app (m := 1) (news := [.int .i64 (↑(f + j) : Int)]) (.int .i64 0) 1 8 (j + 1) ((rngJ f (j + 1)).map (Value.int .i64)) zo Tryz.underlying22 (by kernel_rfl) rfl (by decide) zx ho'1 zy (n5.blk.sl 1 1 (by decide) (by decide)) rfl (by simp [Value.oneCell']) (by unfold maxLen; omega) (by omega) hB'1.size (by rfl) (by rw [rngJ_succ]; simp) fun p6 c6 W6 o6 hg6 hb6 => ?_
   refine zK _ _ ?_
   refine xwm 6 ((↑(f + j) : Int) + 1) (↑((f + j) + 1) : Int) ?_
   have hB'2 := hB'1.trans hb6
   have k3_bm'1 := (k3_bm.below n5.below).grown hg6 ho'1 (by decide)
   have k3_b1'1 := (k3_b1.below n5.below).grown hg6 ho'1 (by decide)
   exact ze 2 (hJ3 _ _ _ ⟨j + 1, _, _, rfl, rfl, hB'2, k3_bm'1, k3_b1'1, o6, by omega⟩ (by omega))
 have hjN : K - f = j := by omega
 have hz9 : w.heap.size ≤ (W3).heap.size := hB_3.size
 refine xc 9 (args := #[.pointer (some ⟨bm, 0, none⟩), .slice pl j cl]) (ref_From_rng bm p f K c j pl cl _ k3_bm hK h1 h2 hjN (own_sl ho)) ?_
 rintro _ W7 ⟨bc, pg, cg, rfl, hb7, hA⟩
 replace hA := hA.mono hz9
 have k3_b1'2 := k3_b1.below hb7
 refine xsv 3 k3_b1'2 [.slice none 0 0, .int .i64 0] fun W8 u8 k8 => ?_
 have g1 := n1.ge (Below.refl w.heap.size _)
 have hB'3 := u8.below (Bl.next hB_3 hb7) g1
 have hA'1 := hA.only (Only.of_upd (T := [31]) u8 k3_b1'2 (by decide)) (by decide)
 exact xec 3 k8 (.tuple #[.pointer (some ⟨bc, 0, none⟩), .agg #[.slice none 0 0, .int .i64 0]]) ⟨_, _, _, rfl, hB'3, hA'1⟩
end Go.Proofs.YtcjpomibhbakdaaGreatDoor
namespace Go.Proofs.YtcjpomibhbakdaaGreatDoor
open Go.RowKit Go.Extern.Stop Go.Stop Go.Extern
set_option linter.unusedVariables false
attribute [local irreducible] wpList wpAnyH Code.wp Oper.wp Go

theorem ints_nil0 (w : World) : Ints w (.slice none 0 0) [] := .inl ⟨none, 0, rfl, rfl, rfl⟩
theorem ref_New_badN (bm : Nat) (p : Option Addr) (K c : Nat) (l : List UInt8) (B : Nat) (f : Int) (w : World) (hJ : RefI B bm p K c l w) (hf : ¬ (1 ≤ f ∧ f ≤ (K : Int))) :
    Calls Tryz.prog 8 #[.pointer (some ⟨bm, 0, none⟩), .int .i64 f] w (Ret (.tuple #[.pointer none, .agg #[.slice none 0 0, .int .i64 1]]) w) := ref_New_bad bm p K c f w hJ.blk hf
theorem ref_NewN (bm : Nat) (p : Option Addr) (K c : Nat) (l : List UInt8) (B : Nat) (f : Int) (w : World) (hJ : RefI B bm p K c l w) (hf : 1 ≤ f ∧ f ≤ (K : Int)) :
    Calls Tryz.prog 8 #[.pointer (some ⟨bm, 0, none⟩), .int .i64 f] w (RNewP bm f.toNat K w) := by
  have h := ref_New bm p f.toNat K c w hJ.blk hJ.hk (by omega) (by omega)
  rwa [show ((f.toNat : Nat) : Int) = f by omega] at h
theorem told_z (er : Int) (v : Value) (w : World) (hg : ErrT w) (hv : ErrV w [] (erT er) v) : Calls Tryz.prog 13 #[v] w (RetS (fun w' r => FltV w' r [] er) w) := by
  have := law05_Told (erT er) [] v w (by decide) hg hv
  rwa [show codeOf [] (erT er) = er from (by unfold erT; split <;> simp_all [codeOf, noErr]), show blocksOf ([] : List (Option Int)) = [] from rfl] at this
end Go.Proofs.YtcjpomibhbakdaaGreatDoor
namespace Go.Proofs.YtcjpomibhbakdaaGreatDoor
open Go.RowKit Go.Extern.Stop Go.Stop Go.Extern
set_option linter.unusedVariables false
attribute [local irreducible] wpList wpAnyH Code.wp Oper.wp Go

set_option maxRecDepth 100000 in
set_option maxHeartbeats 1000000 in
theorem value_count (w : World) :
    Calls Tryz.prog 84 #[] w (RetS (fun w' r => ∃ b, r = .slice (some ⟨b, 0, none⟩) 1 1 ∧ w.heap.size ≤ b ∧ Blk w' b [.int .i64 4, .int .i64 3, .int .i64 2147483647] 152) w) := by
 refine zin 3 Tryz.func84 ?_
 refine xbs 8 1 [.int .i64 4, .int .i64 3, .int .i64 2147483647] 152 fun b1 W1 n1 => ?_
 have g1 := n1.ge (Below.refl w.heap.size _)
 exact xe 4 (.slice (some ⟨b1, 0, none⟩) 1 1) ⟨_, rfl, n1.below, _, rfl, g1, n1.blk⟩
set_option maxRecDepth 100000 in
set_option maxHeartbeats 1000000 in
theorem value_put_count (gl gn : Nat) (n : Int) (h1 : 3 ≤ n) (h2 : n ≤ 2147483647) (w : World) (hl : Blk w gl [.int .i64 4, .int .i64 3, .int .i64 2147483647] 152) (hn : Blk w gn [.int .i64 n] 3) :
    Calls Tryz.prog 58 #[.slice (some ⟨gl, 0, none⟩) 1 1, .slice (some ⟨gn, 0, none⟩) 1 1] w (Ret (.string ⟨(leB n 4).toArray⟩) w) := by
 refine zin 51 Tryz.func58 ?_
 refine xu 19 2 ?_
 refine xlv 15 hl.rp ?_
 refine xa 0 [.int .i64 0, .int .i64 0, .int .i64 0] 152 fun b1 W1 n1 => ?_
 have d1_gl := n1.ne hl
 refine xsv 1 n1.blk [.int .i64 4, .int .i64 3, .int .i64 2147483647] fun W2 u2 k2 => ?_
 have g1 := n1.ge (Below.refl w.heap.size _)
 refine xd 4 .z ?_
 have hn'1 := (u2.blkT (hn.below n1.below) n1.blk (by decide)).below (below_drew W2)
 refine xb (.e [0, 1, 2] 3) 0 hn'1 ?_
 have k2'1 := k2.below (below_drew W2)
 refine xb (.e [4] 5) 1 k2'1 ?_
 refine xgk (.b [6, 7]) [23, 24] (show (decide (n < (3 : Int)) : Bool) = false from decide_eq_false (by omega)) ?_
 refine xb (.e [8, 9, 10] 11) 0 hn'1 ?_
 refine xb (.e [12] 13) 2 k2'1 ?_
 refine xk (.r [14, 15] 2) (show (decide (n > (2147483647 : Int)) : Bool) = false from decide_eq_false (by omega)) ?_
 refine xd 3 .z ?_
 have k2'2 := k2'1.below (below_drew W2.drew)
 refine xb (.e [0] 1) 0 k2'2 ?_
 have hn'2 := hn'1.below (below_drew W2.drew)
 refine xb (.e [2, 3, 4] 5) 0 hn'2 ?_
 refine xbs (.o [6] 7) 1 [.int .i64 4, .int .i64 n] 143 fun b4 W4 n4 => ?_
 refine yc (.o [] 8) (args := #[.slice (some ⟨b4, 0, none⟩) 1 1]) .z (Pack_4 b4 n (by omega) (by omega) _ n4.blk) ?_
 rintro _ W5 ⟨_, rfl, hb5, p2_0, c2_0, rfl, h2_0⟩
 have hs5 := (Bl.next (Bl.next (Bl.next (u2.below n1.below g1) (below_drew W2)) (below_drew W2.drew)) n4.below).size
 refine ⟨hb5, ?_⟩
 have o6 := World.ownsRow_nil W5 w.heap.size 5 1
 have h2_0'1 := own_mono h2_0 hs5
 have hB := Bl.next (Bl.next (Bl.next (Bl.next (u2.below n1.below g1) (below_drew W2)) (below_drew W2.drew)) n4.below) hb5
 refine xbi (.r [9, 10, 11, 12, 13] 5) fun _ _ _ _ zJ zQ zo zx zy zK => op_app (m := 4) (news := (leB n 4).map bv) (.int .u8 0) 1 1 (4) ((leB n 4).map bv) zo Tryz.underlying28 (by kernel_rfl) rfl (by decide) zx o6 zy (own_sl h2_0'1) (by simp [leB_len]) (bv_one _) (by unfold maxLen; omega) (by omega) hB.size (by rfl) (by simp) fun px7 cx7 W7 o7 hg7 hb7 => ?_
 refine zK _ _ ?_
 refine xcv0 24 (fun _ _ _ zo zx => run_bstr zo zx (bys_of (own_sl o7) (by simp [leB_len])) (by simp [leB_len]) Tryz.underlying28 Tryz.underlying5 Tryz.underlying9) ?_
 have hB'1 := hB.trans hb7
 exact xe 4 (.string ⟨(leB n 4).toArray⟩) ⟨rfl, hB'1⟩
set_option maxRecDepth 100000 in
set_option maxHeartbeats 1000000 in
theorem value_Count (n : Int) (h1 : 3 ≤ n) (h2 : n ≤ 2147483647) (w : World) :
    Calls Tryz.prog 53 #[.int .i64 n] w (Ret (.string ⟨(leB n 4).toArray⟩) w) := by
 refine zin 7 Tryz.func53 ?_
 refine xc 7 (args := #[]) (value_count _) ?_
 rintro _ W1 ⟨_, rfl, hb1, gl, rfl, gg, kl⟩
 refine xbs 1 1 [.int .i64 n] 3 fun b2 W2 n2 => ?_
 have kl'1 := kl.below n2.below
 refine xr 0 (args := #[.slice (some ⟨gl, 0, none⟩) 1 1, .slice (some ⟨b2, 0, none⟩) 1 1]) (value_put_count gl b2 n h1 h2 _ kl'1 n2.blk) fun W3 hb3 => ?_
 have hB := Bl.next (Bl.next hb1 n2.below) hb3
 exact xe 4 (.string ⟨(leB n 4).toArray⟩) ⟨rfl, hB⟩
set_option maxRecDepth 100000 in
set_option maxHeartbeats 1000000 in
theorem value_slot (w : World) :
    Calls Tryz.prog 59 #[] w (RetS (fun w' r => ∃ b, r = .slice (some ⟨b, 0, none⟩) 3 3 ∧ w.heap.size ≤ b ∧ Blk w' b [.int .i64 8, .int .i64 1, .int .i64 14399, .int .i64 4, .int .i64 0, .int .i64 960, .int .i64 4, .int .i64 0, .int .i64 960] 152) w) := by
 refine zin 5 Tryz.func59 ?_
 refine xbs 10 3 [.int .i64 8, .int .i64 1, .int .i64 14399, .int .i64 4, .int .i64 0, .int .i64 960, .int .i64 4, .int .i64 0, .int .i64 960] 152 fun b1 W1 n1 => ?_
 have g1 := n1.ge (Below.refl w.heap.size _)
 exact xe 4 (.slice (some ⟨b1, 0, none⟩) 3 3) ⟨_, rfl, n1.below, _, rfl, g1, n1.blk⟩
set_option maxRecDepth 100000 in
set_option maxHeartbeats 1000000 in
theorem value_put_slot (gl gn : Nat) (n f g : Int) (h1 : 1 ≤ n) (h2 : n ≤ 14399) (h3 : 0 ≤ f) (h4 : f ≤ 960) (h5 : 0 ≤ g) (h6 : g ≤ 960) (w : World) (hl : Blk w gl [.int .i64 8, .int .i64 1, .int .i64 14399, .int .i64 4, .int .i64 0, .int .i64 960, .int .i64 4, .int .i64 0, .int .i64 960] 152) (hn : Blk w gn [.int .i64 n, .int .i64 f, .int .i64 g] 3) :
    Calls Tryz.prog 58 #[.slice (some ⟨gl, 0, none⟩) 3 3, .slice (some ⟨gn, 0, none⟩) 3 3] w (Ret (.string ⟨(leB n 8 ++ leB f 4 ++ leB g 4).toArray⟩) w) := by
 refine zin 51 Tryz.func58 ?_
 refine xu 19 4 ?_
 refine xlv 15 (hl.rpp 0 3) ?_
 refine xa 0 [.int .i64 0, .int .i64 0, .int .i64 0] 152 fun b1 W1 n1 => ?_
 have d1_gl := n1.ne hl
 refine xsv 1 n1.blk [.int .i64 8, .int .i64 1, .int .i64 14399] fun W2 u2 k2 => ?_
 have g1 := n1.ge (Below.refl w.heap.size _)
 refine xd 4 .z ?_
 have hn'1 := (u2.blkT (hn.below n1.below) n1.blk (by decide)).below (below_drew W2)
 refine xb (.e [0, 1, 2] 3) 0 hn'1 ?_
 have k2'1 := k2.below (below_drew W2)
 refine xb (.e [4] 5) 1 k2'1 ?_
 refine xgk (.b [6, 7]) [23, 24] (show (decide (n < (1 : Int)) : Bool) = false from decide_eq_false (by omega)) ?_
 refine xb (.e [8, 9, 10] 11) 0 hn'1 ?_
 refine xb (.e [12] 13) 2 k2'1 ?_
 refine xk (.r [14, 15] 2) (show (decide (n > (14399 : Int)) : Bool) = false from decide_eq_false (by omega)) ?_
 refine xd 3 .z ?_
 have k2'2 := k2'1.below (below_drew W2.drew)
 refine xb (.e [0] 1) 0 k2'2 ?_
 have hn'2 := hn'1.below (below_drew W2.drew)
 refine xb (.e [2, 3, 4] 5) 0 hn'2 ?_
 refine xbs (.o [6] 7) 1 [.int .i64 8, .int .i64 n] 143 fun b4 W4 n4 => ?_
 refine yc (.o [] 8) (args := #[.slice (some ⟨b4, 0, none⟩) 1 1]) .z (Pack_8 b4 n (by omega) _ n4.blk) ?_
 rintro _ W5 ⟨_, rfl, hb5, p2_0, c2_0, rfl, h2_0⟩
 have hs5 := (Bl.next (Bl.next (Bl.next (u2.below n1.below g1) (below_drew W2)) (below_drew W2.drew)) n4.below).size
 refine ⟨hb5, ?_⟩
 have o6 := World.ownsRow_nil W5 w.heap.size 5 1
 have h2_0'1 := own_mono h2_0 hs5
 have hB := Bl.next (Bl.next (Bl.next (Bl.next (u2.below n1.below g1) (below_drew W2)) (below_drew W2.drew)) n4.below) hb5
 refine xbi (.r [9, 10, 11, 12, 13] 5) fun _ _ _ _ zJ zQ zo zx zy zK => op_app (m := 8) (news := (leB n 8).map bv) (.int .u8 0) 1 1 (8) ((leB n 8).map bv) zo Tryz.underlying28 (by kernel_rfl) rfl (by decide) zx o6 zy (own_sl h2_0'1) (by simp [leB_len]) (bv_one _) (by unfold maxLen; omega) (by omega) hB.size (by rfl) (by simp) fun px7 cx7 W7 o7 hg7 hb7 => ?_
 refine zK _ _ ?_
 have hl'1 := (((((u2.blk (hl.below n1.below) (Ne.symm (Ne.symm d1_gl))).below (below_drew W2)).below (below_drew W2.drew)).below n4.below).below hb5).grown hg7 o6 (by decide)
 refine xlv 24 (hl'1.rpp 3 3) ?_
 refine xa 0 [.int .i64 0, .int .i64 0, .int .i64 0] 152 fun b8 W8 n8 => ?_
 have d8_gl := n8.ne hl'1
 have k2'3 := ((k2'2.below n4.below).below hb5).grown hg7 o6 (by decide)
 have d8_b1 := n8.ne k2'3
 have hB'1 := hB.trans hb7
 have g8 := n8.ge hB'1
 refine xsv 1 n8.blk [.int .i64 4, .int .i64 0, .int .i64 960] fun W9 u9 k9 => ?_
 refine xd 4 .z ?_
 have hn'3 := (u9.blkT ((((hn'2.below n4.below).below hb5).grown hg7 o6 (by decide)).below n8.below) n8.blk (by decide)).below (below_drew W9)
 refine xb (.e [0, 1, 2] 3) 1 hn'3 ?_
 have k9'1 := k9.below (below_drew W9)
 refine xb (.e [4] 5) 1 k9'1 ?_
 refine xgk (.b [6, 7]) [23, 24] (show (decide (f < (0 : Int)) : Bool) = false from decide_eq_false (by omega)) ?_
 refine xb (.e [8, 9, 10] 11) 1 hn'3 ?_
 refine xb (.e [12] 13) 2 k9'1 ?_
 refine xk (.r [14, 15] 2) (show (decide (f > (960 : Int)) : Bool) = false from decide_eq_false (by omega)) ?_
 refine xd 3 .z ?_
 have k9'2 := k9'1.below (below_drew W9.drew)
 refine xb (.e [0] 1) 0 k9'2 ?_
 have hn'4 := hn'3.below (below_drew W9.drew)
 refine xb (.e [2, 3, 4] 5) 1 hn'4 ?_
 refine xbs (.o [6] 7) 1 [.int .i64 4, .int .i64 f] 143 fun b11 W11 n11 => ?_
 have k4'1 := ((u9.blkT (((n4.blk.below hb5).grown hg7 o6 (by decide)).below n8.below) n8.blk (by decide)).below (below_drew W9)).below (below_drew W9.drew)
 have d11_b4 := n11.ne k4'1
 have hB'2 := Bl.next (Bl.next (u9.below (Bl.next hB'1 n8.below) g8) (below_drew W9)) (below_drew W9.drew)
 have g11 := n11.ge hB'2
 refine yc (.o [] 8) (args := #[.slice (some ⟨b11, 0, none⟩) 1 1]) .z (Pack_4 b11 f (by omega) (by omega) _ n11.blk) ?_
 rintro _ W12 ⟨_, rfl, hb12, p2_1, c2_1, rfl, h2_1⟩
 have hs12 := (Bl.next hB'2 n11.below).size
 refine ⟨hb12, ?_⟩
 have o7'1 := own_below (own_below (own_below (own_below (u9.own2 (own_below o7 n8.below) n8.blk (by decide)) (below_drew W9)) (below_drew W9.drew)) n11.below) hb12
 have h2_1'1 := own_mono h2_1 hs12
 have hB'3 := Bl.next (Bl.next hB'2 n11.below) hb12
 refine xbi (.r [9, 10, 11, 12, 13] 5) fun _ _ _ _ zJ zQ zo zx zy zK => op_app (m := 4) (news := (leB f 4).map bv) (.int .u8 0) 1 1 (12) ((leB n 8 ++ leB f 4).map bv) zo Tryz.underlying28 (by kernel_rfl) rfl (by decide) zx o7'1 zy (own_sl h2_1'1) (by simp [leB_len]) (bv_one _) (by unfold maxLen; omega) (by omega) hB'3.size (by rfl) (by simp) fun px13 cx13 W13 o13 hg13 hb13 => ?_
 refine zK _ _ ?_
 have hl'2 := (((((u9.blk (hl'1.below n8.below) (Ne.symm (Ne.symm d8_gl))).below (below_drew W9)).below (below_drew W9.drew)).below n11.below).below hb12).grown hg13 o7'1 (by decide)
 refine xlv 24 (hl'2.rpp 6 3) ?_
 refine xa 0 [.int .i64 0, .int .i64 0, .int .i64 0] 152 fun b14 W14 n14 => ?_
 have d14_gl := n14.ne hl'2
 have k2'4 := (((((u9.blk (k2'3.below n8.below) (Ne.symm (Ne.symm d8_b1))).below (below_drew W9)).below (below_drew W9.drew)).below n11.below).below hb12).grown hg13 o7'1 (by decide)
 have d14_b1 := n14.ne k2'4
 have k9'3 := ((k9'2.below n11.below).below hb12).grown hg13 o7'1 (by decide)
 have d14_b8 := n14.ne k9'3
 have hB'4 := hB'3.trans hb13
 have g14 := n14.ge hB'4
 refine xsv 1 n14.blk [.int .i64 4, .int .i64 0, .int .i64 960] fun W15 u15 k15 => ?_
 refine xd 4 .z ?_
 have hn'5 := (u15.blkT ((((hn'4.below n11.below).below hb12).grown hg13 o7'1 (by decide)).below n14.below) n14.blk (by decide)).below (below_drew W15)
 refine xb (.e [0, 1, 2] 3) 2 hn'5 ?_
 have k15'1 := k15.below (below_drew W15)
 refine xb (.e [4] 5) 1 k15'1 ?_
 refine xgk (.b [6, 7]) [23, 24] (show (decide (g < (0 : Int)) : Bool) = false from decide_eq_false (by omega)) ?_
 refine xb (.e [8, 9, 10] 11) 2 hn'5 ?_
 refine xb (.e [12] 13) 2 k15'1 ?_
 refine xk (.r [14, 15] 2) (show (decide (g > (960 : Int)) : Bool) = false from decide_eq_false (by omega)) ?_
 refine xd 3 .z ?_
 have k15'2 := k15'1.below (below_drew W15.drew)
 refine xb (.e [0] 1) 0 k15'2 ?_
 have hn'6 := hn'5.below (below_drew W15.drew)
 refine xb (.e [2, 3, 4] 5) 2 hn'6 ?_
 refine xbs (.o [6] 7) 1 [.int .i64 4, .int .i64 g] 143 fun b17 W17 n17 => ?_
 have k4'2 := ((u15.blkT ((((k4'1.below n11.below).below hb12).grown hg13 o7'1 (by decide)).below n14.below) n14.blk (by decide)).below (below_drew W15)).below (below_drew W15.drew)
 have d17_b4 := n17.ne k4'2
 have k11'1 := ((u15.blkT (((n11.blk.below hb12).grown hg13 o7'1 (by decide)).below n14.below) n14.blk (by decide)).below (below_drew W15)).below (below_drew W15.drew)
 have d17_b11 := n17.ne k11'1
 have hB'5 := Bl.next (Bl.next (u15.below (Bl.next hB'4 n14.below) g14) (below_drew W15)) (below_drew W15.drew)
 have g17 := n17.ge hB'5
 refine yc (.o [] 8) (args := #[.slice (some ⟨b17, 0, none⟩) 1 1]) .z (Pack_4 b17 g (by omega) (by omega) _ n17.blk) ?_
 rintro _ W18 ⟨_, rfl, hb18, p2_2, c2_2, rfl, h2_2⟩
 have hs18 := (Bl.next hB'5 n17.below).size
 refine ⟨hb18, ?_⟩
 have o13'1 := own_below (own_below (own_below (own_below (u15.own2 (own_below o13 n14.below) n14.blk (by decide)) (below_drew W15)) (below_drew W15.drew)) n17.below) hb18
 have h2_2'1 := own_mono h2_2 hs18
 have hB'6 := Bl.next (Bl.next hB'5 n17.below) hb18
 refine xbi (.r [9, 10, 11, 12, 13] 5) fun _ _ _ _ zJ zQ zo zx zy zK => op_app (m := 4) (news := (leB g 4).map bv) (.int .u8 0) 1 1 (16) ((leB n 8 ++ leB f 4 ++ leB g 4).map bv) zo Tryz.underlying28 (by kernel_rfl) rfl (by decide) zx o13'1 zy (own_sl h2_2'1) (by simp [leB_len]) (bv_one _) (by unfold maxLen; omega) (by omega) hB'6.size (by rfl) (by simp) fun px19 cx19 W19 o19 hg19 hb19 => ?_
 refine zK _ _ ?_
 refine xcv0 24 (fun _ _ _ zo zx => run_bstr zo zx (bys_of (own_sl o19) (by simp [leB_len])) (by simp [leB_len]) Tryz.underlying28 Tryz.underlying5 Tryz.underlying9) ?_
 have hB'7 := hB'6.trans hb19
 exact xe 4 (.string ⟨(leB n 8 ++ leB f 4 ++ leB g 4).toArray⟩) ⟨rfl, hB'7⟩
set_option maxRecDepth 100000 in
set_option maxHeartbeats 1000000 in
theorem value_Slot (n f g : Int) (h1 : 1 ≤ n) (h2 : n ≤ 14399) (h3 : 0 ≤ f) (h4 : f ≤ 960) (h5 : 0 ≤ g) (h6 : g ≤ 960) (w : World) :
    Calls Tryz.prog 29 #[.agg #[.int .i64 n, .int .i64 f, .int .i64 g]] w (Ret (.string ⟨(leB n 8 ++ leB f 4 ++ leB g 4).toArray⟩) w) := by
 refine zin 12 Tryz.func29 ?_
 refine xa 2 [.int .i64 n, .int .i64 f, .int .i64 g] 66 fun b1 W1 n1 => ?_
 refine xd 4 .z ?_
 have k1 := n1.blk.below (below_drew W1)
 refine xb (.e [1] 2) 0 k1 ?_
 refine xb (.e [3] 4) 1 k1 ?_
 refine xb (.e [5] 6) 2 k1 ?_
 refine xm2 0 0 7 ?_ ?_
 · refine yc 0 (args := #[]) .z (value_slot _) ?_
   rintro _ W2 ⟨_, rfl, hb2, gl, rfl, gg, kl⟩
   refine ⟨hb2, ?_⟩
   refine xbs (.o [] 7) 3 [.int .i64 n, .int .i64 f, .int .i64 g] 3 fun b3 W3 n3 => ?_
   have kl'1 := kl.below n3.below
   refine xr (.o [] 8) (args := #[.slice (some ⟨gl, 0, none⟩) 3 3, .slice (some ⟨b3, 0, none⟩) 3 3]) (value_put_slot gl b3 n f g h1 h2 h3 h4 h5 h6 _ kl'1 n3.blk) fun W4 hb4 => ?_
   have hB := Bl.next (Bl.next (Bl.next (Bl.next n1.below (below_drew W1)) hb2) n3.below) hb4
   exact xe (.r [9] 3) (.string ⟨(leB n 8 ++ leB f 4 ++ leB g 4).toArray⟩) ⟨rfl, hB⟩
 refine xbs 0 3 [.int .i64 n, .int .i64 f, .int .i64 g] 3 fun b5 W5 n5 => ?_
 refine yc (.o [] 0) (args := #[]) .z (value_slot _) ?_
 rintro _ W6 ⟨_, rfl, hb6, gl, rfl, gg, kl⟩
 refine ⟨hb6, ?_⟩
 have k5 := n5.blk.below hb6
 refine xr (.o [] 8) (args := #[.slice (some ⟨gl, 0, none⟩) 3 3, .slice (some ⟨b5, 0, none⟩) 3 3]) (value_put_slot gl b5 n f g h1 h2 h3 h4 h5 h6 _ kl k5) fun W7 hb7 => ?_
 have hB := Bl.next (Bl.next (Bl.next (Bl.next n1.below (below_drew W1)) n5.below) hb6) hb7
 exact xe (.r [9] 3) (.string ⟨(leB n 8 ++ leB f 4 ++ leB g 4).toArray⟩) ⟨rfl, hB⟩
end Go.Proofs.YtcjpomibhbakdaaGreatDoor
namespace Go.Proofs.YtcjpomibhbakdaaGreatDoor
open Go.RowKit Go.Extern.Stop Go.Stop Go.Extern
set_option linter.unusedVariables false
attribute [local irreducible] wpList wpAnyH Code.wp Oper.wp Go

section
variable {P : Program} {a : Act}
theorem shl_bd {n : Int} (h : 0 ≤ n ∧ n ≤ 3) {s : Nat} (hs : s ≤ 6) : 0 ≤ n * 2 ^ s ∧ n * 2 ^ s ≤ 192 := by
  obtain rfl | rfl | rfl | rfl : n = 0 ∨ n = 1 ∨ n = 2 ∨ n = 3 := by omega
  all_goals obtain rfl | rfl | rfl | rfl | rfl | rfl | rfl : s = 0 ∨ s = 1 ∨ s = 2 ∨ s = 3 ∨ s = 4 ∨ s = 5 ∨ s = 6 := by omega
  all_goals decide
theorem run_shlS {o : Oper} {t t2 : TypeId} {x y : Operand} {n : Int} {s : Nat} {j : Int} {kj : IntKind} (ho : o.op = .binOp .shl t x y t2) (hx : a.eval x = .int .i64 n) (hy : a.eval y = .int kj j) (hj : j = (s : Int)) (hn : 0 ≤ n ∧ n ≤ 3) (hs : s ≤ 6) (w : World) : (execOp a.eval o).run P w = .ok (.value (.int .i64 (n * 2 ^ s))) w := by
  subst hj
  have e := shift_shl .i64 kj n (s : Int) (Int.natCast_nonneg s) (by show (s : Int) ≤ 64; omega)
  rw [show ((s : Int)).toNat = s from by omega] at e
  have hb := shl_bd hn hs
  rw [IntWalk.i64_in _ (by omega)] at e
  simp only [execOp, ho, hx, hy, eqGuard_shl, binOp_shl, e]
  simp
end
section
variable {P : Program} {fn : Func} {R : Ending → World → Prop} {w : World} {s : Zs}
theorem xbot (q : Zq) {b : BinOp} {t t2 : TypeId} {u1 u2 v : Value} (hv : ∀ (a : Act) (o : Oper) (x y : Operand), o.op = .binOp b t x y t2 → a.eval x = u1 → a.eval y = u2 → ∀ V, True → (execOp a.eval o).run P V = .ok (.value v) V) (g : Go P fn R (znx (zq P q s) v) w) (h : zk (zq P q s) = some (.bn b t t2 u1 u2) := by kernel_rfl) : Go P fn R s w := by
  refine zq_sound q s ?_
  obtain ⟨o, ho, h⟩ := zop_of h
  exact zgov ho (fun V _ => by
    obtain ⟨x, y, h1, h2, h3⟩ := zkf_ok h
    exact hv _ o x y h1 h2 h3 V trivial) g
end
theorem u8_shl {n : Int} (h : 0 ≤ n ∧ n ≤ 3) {s : Nat} (hs : s ≤ 6) : IntKind.u8.wrap (n * 2 ^ s) = n * 2 ^ s := by
  have hb := shl_bd h hs
  generalize n * 2 ^ s = m at *
  simp [IntKind.wrap, IntKind.bits, IntKind.signed]; omega
theorem bitsT_at (l : List Int) (i : Nat) {k : Nat} (hk : k < 240) : (bitsT l i).getD (4 + k) 0 = g4B l i k := by
  unfold bitsT
  rw [List.getD, List.getElem?_append_right (by rw [leB_len]; omega), leB_len, Nat.add_sub_cancel_left]
  simp [hk]
theorem bits_or {l : List Int} (h : Small l) {i : Nat} (hi : i < 960) : IntKind.u8.wrap (↑(BitVec.ofInt 8 (↑((bitsT l i).getD (4 + (i / 4)) 0).toNat : Int) ||| BitVec.ofInt 8 (l.getD i 0 * 2 ^ ((i % 4) * 2))).toNat : Int) = ((g4B l (i + 1) (i / 4)).toNat : Int) := by
  rw [bitsT_at l i (by omega)]
  obtain ⟨h1, h2⟩ := g4B_at h (i := i)
  rw [h1]
  obtain ⟨n, hn⟩ : ∃ n : Nat, l.getD i 0 = n := ⟨(l.getD i 0).toNat, by have := (getI_bd h i).1; omega⟩
  have hb := getI_bd h i
  rw [hn] at hb ⊢
  generalize (g4B l i (i / 4)).toNat = o at *
  have hr : i % 4 < 4 := by omega
  generalize i % 4 = r at *
  have ho : o < 64 := Nat.lt_of_lt_of_le h2 (by obtain rfl | rfl | rfl | rfl : r = 0 ∨ r = 1 ∨ r = 2 ∨ r = 3 := by omega
                                                all_goals decide)
  have hs := or_step ⟨r, hr⟩ ⟨n, by omega⟩ ⟨o, ho⟩ h2
  simp only at hs
  have e4 : (4 : Nat) ^ r = 2 ^ (r * 2) := by rw [Nat.mul_comm, Nat.pow_mul]
  have e : ((n : Int) * 2 ^ (r * 2)) = ((n * 4 ^ r : Nat) : Int) := by rw [e4]; simp
  have e' : ((n : Int) * 4 ^ r) = ((n * 4 ^ r : Nat) : Int) := by simp
  have hm : n * 4 ^ r ≤ 192 := by
    have h3 : 4 ^ r ≤ 64 := by obtain rfl | rfl | rfl | rfl : r = 0 ∨ r = 1 ∨ r = 2 ∨ r = 3 := by omega
                               all_goals decide
    calc n * 4 ^ r ≤ 3 * 64 := Nat.mul_le_mul (by omega) h3
      _ = 192 := rfl
  rw [e, e', BitVec.ofInt_natCast, BitVec.ofInt_natCast, BitVec.toNat_or, BitVec.toNat_ofNat, BitVec.toNat_ofNat, Nat.mod_eq_of_lt (by omega), Nat.mod_eq_of_lt (by omega), hs]
  generalize n * 4 ^ r = m at *
  simp [IntKind.wrap, IntKind.bits, IntKind.signed]; omega
theorem bits_set {l : List Int} {i : Nat} (hi : i < 960) : ((bitsT l i).map bv).set (4 + (i / 4)) (.int .u8 ((g4B l (i + 1) (i / 4)).toNat : Int)) = (bitsT l (i + 1)).map bv := by
  rw [show Value.int .u8 ((g4B l (i + 1) (i / 4)).toNat : Int) = bv (g4B l (i + 1) (i / 4)) from rfl, ← List.map_set]
  congr 1
  unfold bitsT
  rw [List.set_append_right _ _ (by rw [leB_len]; omega), leB_len, Nat.add_sub_cancel_left]
  congr 1
  apply List.ext_getElem
  · simp
  · intro k h1 h2
    rw [List.getElem_set]
    split
    · rename_i e; subst e; simp
    · rename_i e; simp only [List.getElem_map, List.getElem_range]; unfold g4B; rw [g4_ne (by omega)]
set_option maxRecDepth 100000 in
theorem bits0 (l : List Int) : ((List.replicate 244 (0 : UInt8)).map bv).take 0 ++ (leB (↑l.length : Int) 4).map bv ++ ((List.replicate 244 (0 : UInt8)).map bv).drop (0 + 4) = (bitsT l 0).map bv := by
  unfold bitsT
  rw [List.map_append, List.take_zero, List.nil_append]
  congr 1
theorem BysN.elem {w : World} {b : Option Addr} {n c : Nat} {l : List UInt8} (h : Sl w (.slice b n c) n (l.map bv)) (hl : l.length = n) {k : Nat} (hk : k < n) : b.isSome = true ∧ w.cell? (elemAddr b (k * 1)) = some (.int .u8 ((l.getD k 0).toNat : Int)) := by
  subst hl; exact Bys.elem (bys_of h rfl) hk
set_option maxRecDepth 100000 in
set_option maxHeartbeats 1000000 in
theorem bits_put1 (n : Int) (w : World) (h0 : 0 ≤ n) (h3 : n ≤ 3) :
    Calls Tryz.prog 89 #[.int .i64 n] w (Ret (.bool false) w) := by
 refine zin 9 Tryz.func89 ?_
 refine xgk 10 [4, 5] (show (decide (n < (0 : Int)) : Bool) = false from decide_eq_false (by omega)) ?_
 refine xe 7 (.bool (decide (n > (3 : Int)))) ?_
 rw [show decide (n > (3 : Int)) = false from decide_eq_false (by omega)]; exact ⟨rfl, (Below.refl w.heap.size _)⟩
set_option maxRecDepth 100000 in
set_option maxHeartbeats 1000000 in
theorem indexSmall (a : Option Addr) (c : Nat) (l : List Int) (w : World) (hS : Small l) (hl : l.length ≤ 960) (h : Sl w (.slice a l.length c) l.length (l.map (Value.int .i64))) :
    Calls Tryz.prog 110 #[.slice a l.length c, .func (.func 89) #[] #[]] w (Ret (.int .i64 (-1)) w) := by
 refine zin 19 Tryz.func110 ?_
 have hB := Below.refl w.heap.size w
 refine zl 14 19 (fun zm zkv V => ∃ (i : Nat), zkv = [(0, .slice a l.length c), (1, .func (.func 89) #[] #[]), (7, .int .i64 (↑l.length : Int)), (8, .int .i64 (↑i : Int))] ∧ zm = l.length - ((↑i : Int)).toNat ∧ Below w.heap.size w V ∧ i ≤ l.length) ⟨0, rfl, rfl, hB, Nat.zero_le _⟩ ?_
 rintro _ _ W1 ⟨i, rfl, rfl, hB_1, hi⟩ J1 hJ1 r1
 refine xid 6 ((↑i : Int) < (↑l.length : Int)) (fun hc2 => ?_) (fun hc2 => ?_)
 · refine xx 15 _ l.length i 1 (Ints.elem h (k := i) (by omega)).1 ?_
   refine xl 0 ((Ints.elem (h.below hB_1) (k := i) (by omega)).2) ?_
   refine xr 0 (args := #[.int .i64 (l.getD i 0)]) (bits_put1 (l.getD i 0) _ (getI_bd hS i).1 (getI_bd hS i).2) fun W3 hb3 => ?_
   refine xwm 7 ((↑i : Int) + 1) (↑(i + 1) : Int) ?_
   have hB'1 := Bl.next hB_1 hb3
   exact ze 2 (hJ1 _ _ _ ⟨i + 1, rfl, rfl, hB'1, by omega⟩ (by omega))
 exact xe 11 (.int .i64 (-1)) ⟨rfl, hB_1⟩
set_option maxRecDepth 100000 in
set_option maxHeartbeats 1000000 in
theorem containsSmall (a : Option Addr) (c : Nat) (l : List Int) (w : World) (hS : Small l) (hl : l.length ≤ 960) (h : Sl w (.slice a l.length c) l.length (l.map (Value.int .i64))) :
    Calls Tryz.prog 88 #[.slice a l.length c, .func (.func 89) #[] #[]] w (Ret (.bool false) w) := by
 refine zin 9 Tryz.func88 ?_
 refine xr 9 (args := #[.slice a l.length c, .func (.func 89) #[] #[]]) (indexSmall a c l _ hS hl (h.below (Below.refl w.heap.size _))) fun W1 hb1 => ?_
 exact xe 5 (.bool false) ⟨rfl, hb1⟩
set_option maxRecDepth 100000 in
set_option maxHeartbeats 2000000 in
theorem bits_Free (a : Option Addr) (c : Nat) (l : List Int) (w : World) (hl : l.length ≤ 960) (h : Sl w (.slice a l.length c) l.length (l.map (Value.int .i64))) :
    Calls Tryz.prog 57 #[.slice a l.length c] w (Ret (.tuple #[.int .i64 (↑(freeN l) : Int), .int .i64 (↑(firstN l) : Int)]) w) := by
 refine zin 27 Tryz.func57 ?_
 have hB := Below.refl w.heap.size w
 refine zl 23 27 (fun zm zkv V => ∃ (i f g : Nat), zkv = [(2, .int .i64 0), (3, .int .i64 0), (4, .int .i64 (↑f : Int)), (5, .int .i64 (↑g : Int)), (10, .slice a l.length c), (11, .int .i64 (↑l.length : Int)), (12, .int .i64 (↑i : Int))] ∧ zm = l.length - ((↑i : Int)).toNat ∧ Below w.heap.size w V ∧ i ≤ l.length ∧ f = freeK l i ∧ ((f = 0 ∧ g = l.length ∧ ∀ j, j < i → l.getD j 0 ≠ 0) ∨ (0 < f ∧ g = firstN l))) ⟨0, 0, l.length, rfl, rfl, hB, Nat.zero_le _, rfl, ?_⟩ ?_
 · exact .inl ⟨rfl, rfl, fun j hj => absurd hj (by omega)⟩
 rintro _ _ W1 ⟨i, f, g, rfl, rfl, hB_1, hi, hf, hg⟩ J1 hJ1 r1
 have hfs := fun (q : i < l.length) => freeK_succ q
 have hfb := freeK_le l i
 refine xid 6 ((↑i : Int) < (↑l.length : Int)) (fun hc2 => ?_) (fun hc2 => ?_)
 · refine xx 7 _ l.length i 1 (Ints.elem h (k := i) (by omega)).1 ?_
   refine xl 0 ((Ints.elem (h.below hB_1) (k := i) (by omega)).2) ?_
   refine xin 11 (l.getD i 0) (0 : Int) (fun hc3 => ?_) (fun hc3 => ?_)
   · refine xwm 5 ((↑i : Int) + 1) (↑(i + 1) : Int) ?_
     exact ze 2 (hJ1 _ _ _ ⟨i + 1, f, g, rfl, rfl, hB_1, by omega, by rw [hfs (by omega), if_neg (by assumption)]; exact hf, hg.elim (fun ⟨h1, h2, h3⟩ => .inl ⟨h1, h2, fun j hj => (Nat.lt_or_ge j i).elim (fun q => h3 j q) (fun q => by obtain rfl : j = i := (by omega); assumption)⟩) .inr⟩ (by omega))
   refine xie 9 (↑f : Int) (0 : Int) (fun hc4 => ?_) (fun hc4 => ?_)
   · refine xwm 7 ((↑f : Int) + 1) (↑(f + 1) : Int) ?_
     refine xwm 5 ((↑i : Int) + 1) (↑(i + 1) : Int) ?_
     exact ze 2 (hJ1 _ _ _ ⟨i + 1, f + 1, i, rfl, rfl, hB_1, by omega, by rw [hfs (by omega), if_pos (by assumption), hf], .inr ⟨by omega, hg.elim (fun ⟨_, _, h3⟩ => (firstN_at (by omega) (by assumption) h3).symm) (fun q => absurd q.1 (by omega))⟩⟩ (by omega))
   refine xwm 4 ((↑f : Int) + 1) (↑(f + 1) : Int) ?_
   refine xwm 5 ((↑i : Int) + 1) (↑(i + 1) : Int) ?_
   exact ze 2 (hJ1 _ _ _ ⟨i + 1, f + 1, g, rfl, rfl, hB_1, by omega, by rw [hfs (by omega), if_pos (by assumption), hf], .inr ⟨by omega, hg.elim (fun ⟨h1, _, _⟩ => absurd h1 (by omega)) (fun q => q.2)⟩⟩ (by omega))
 refine xe 14 (.tuple #[.int .i64 (↑f : Int), .int .i64 (↑g : Int)]) ?_
 obtain rfl : i = l.length := by omega
 have hfin : f = freeN l := hf
 rcases hg with ⟨h1, h2, h3⟩ | ⟨h1, h2⟩
 · exact ⟨by rw [hfin, h2, firstN_none h3], hB_1⟩
 · exact ⟨by rw [hfin, h2], hB_1⟩
set_option maxRecDepth 100000 in
set_option maxHeartbeats 4000000 in
theorem bits_Put (a : Option Addr) (c : Nat) (l : List Int) (w : World) (hS : Small l) (hl : l.length ≤ 960) (h : Sl w (.slice a l.length c) l.length (l.map (Value.int .i64))) :
    Calls Tryz.prog 56 #[.slice a l.length c] w (RetS (fun w' r => ∃ g, r = .tuple #[.slice (some ⟨g, 0, none⟩) 244 244, .int .i64 0] ∧ w'.ownsRow w.heap.size 5 1 (.slice (some ⟨g, 0, none⟩) 244 244) 244 ((bitsB l).map bv)) w) := by
 refine zin 51 Tryz.func56 ?_
 refine xgk 13 [11, 12] (show (decide ((↑l.length : Int) > (960 : Int)) : Bool) = false from decide_eq_false (by omega)) ?_
 refine xr 1 (args := #[.slice a l.length c, .func (.func 89) #[] #[]]) (containsSmall a c l _ hS hl (h.below (Below.refl w.heap.size _))) fun W2 hb2 => ?_
 refine xbs 11 1 [.int .i64 4, .int .i64 (↑l.length : Int)] 143 fun b3 W3 n3 => ?_
 refine xc 0 (args := #[.slice (some ⟨b3, 0, none⟩) 1 1]) (Pack_4 b3 (↑l.length : Int) (by omega) (by omega) _ n3.blk) ?_
 rintro _ W4 ⟨_, rfl, hb4, p2, c2, rfl, h2⟩
 have hs4 := (Bl.next hb2 n3.below).size
 refine xmk 9 fun _ _ _ _ zJ zQ zo zx zy zK => op_make 244 (.int .u8 0) 1 1 ((List.replicate 244 (0 : UInt8)).map bv) zo zx zy Tryz.underlying28 (by kernel_rfl) rfl (by omega) (by omega) (zerosB 244) fun b5 W5 n5 => ?_
 have h2'1 := own_mono h2 hs4
 have r5_h2 := own_ne h2'1 n5
 refine zK _ _ ?_
 have o5 := own_of_blk (size := 1) (n := 244) n5.blk (n5.ge (Bl.next (Bl.next hb2 n3.below) hb4)) (by rw [List.length_map, List.length_replicate]) (by unfold maxLen; omega)
 have h2'2 := own_below h2'1 n5.below
 have hB := Bl.next (Bl.next (Bl.next hb2 n3.below) hb4) n5.below
 refine xbi 7 (t2 := 28) fun _ _ _ _ zJ zQ zo zx zy zK => op_copy (dLen := 244) (dCap := 244) (off := 0) 4 ((leB (↑l.length : Int) 4).map bv) ((bitsT l 0).map bv) zo Tryz.underlying28 (by kernel_rfl) zx zy (own_sl h2'2) o5 (by simp [leB_len]) (by omega) (by omega) (bv_one _) hB.size (bits0 l) fun W6 o6 hg6 hb6 => ?_
 refine zK _ _ ?_
 have hB'1 := hB.trans hb6
 have k3'1 := ((n3.blk.below hb4).below n5.below).grown hg6 o5 (by decide)
 refine zl 11 51 (fun zm zkv V => ∃ (i : Nat), zkv = [(2, .slice none 0 0), (3, .int .i64 0), (6, .slice (some ⟨b5, 0, none⟩) 244 244), (28, .slice a l.length c), (29, .int .i64 (↑l.length : Int)), (30, .int .i64 (↑i : Int))] ∧ zm = l.length - ((↑i : Int)).toNat ∧ Below w.heap.size w V ∧ Blk V b3 ([.int .i64 4, .int .i64 (↑l.length : Int)]) 143 ∧ V.ownsRow w.heap.size 5 1 (.slice (some ⟨b5, 0, none⟩) 244 244) 244 ((bitsT l i).map bv) ∧ i ≤ l.length) ⟨0, rfl, rfl, hB'1, k3'1, o6, Nat.zero_le _⟩ ?_
 rintro _ _ W7 ⟨i, rfl, rfl, hB_7, k7_b3, ho, hi⟩ J7 hJ7 r7
 refine xid 6 ((↑i : Int) < (↑l.length : Int)) (fun hc8 => ?_) (fun hc8 => ?_)
 · refine xx 7 _ l.length i 1 (Ints.elem h (k := i) (by omega)).1 ?_
   refine xl 0 ((Ints.elem (h.below hB_7) (k := i) (by omega)).2) ?_
   refine xd 4 (.t w.heap.size [5]) ?_
   refine xq (.e [0, 1] 2) (congrArg (Value.int .i64) (show (IntKind.i64.wrap (Int.tdiv (↑i : Int) 4) : Int) = (↑(i / 4) : Int) from quo_natB i 4 (by omega) (by decide))) ?_
   refine xwm (.e [] 3) (4 + (↑(i / 4) : Int)) (↑(4 + (i / 4)) : Int) ?_
   refine xx (.e [] 4) _ 244 (4 + (i / 4)) 1 (show (some (⟨b5, 0, none⟩ : Addr)).isSome = true from rfl) ?_
   refine xq (.e [6, 7] 8) (congrArg (Value.int .i64) (show (Int.tmod (↑i : Int) 4 : Int) = (↑(i % 4) : Int) from tmod_natB i 4)) ?_
   refine xwm (.e [] 9) ((↑(i % 4) : Int) * 2) (↑((i % 4) * 2) : Int) ?_
   refine xbot (.e [] 10) (t := 3) (t2 := 3) (fun _ _ _ _ zo zx zy V hV => run_shlS (n := (l.getD i 0)) (s := ((i % 4) * 2)) (kj := .i64) (j := (↑((i % 4) * 2) : Int)) zo zx zy rfl (getI_bd hS i) (by omega) V) ?_
   refine xq (.e [] 11) (congrArg (Value.int .u8) (show (IntKind.u8.wrap (l.getD i 0 * 2 ^ ((i % 4) * 2)) : Int) = l.getD i 0 * 2 ^ ((i % 4) * 2) from u8_shl (getI_bd hS i) (by omega))) ?_
   have ho'1 := own_below ho (below_drew W7)
   refine xl (.o [] 5) ((BysN.elem (own_sl ho'1) (bitsT_len l i) (k := (4 + (i / 4))) (by omega)).2) ?_
   refine xq (.e [] 12) (congrArg (Value.int .u8) (show (IntKind.u8.wrap (↑(BitVec.ofInt 8 (↑((bitsT l i).getD (4 + (i / 4)) 0).toNat : Int) ||| BitVec.ofInt 8 (l.getD i 0 * 2 ^ ((i % 4) * 2))).toNat : Int) : Int) = (↑(g4B l (i + 1) (i / 4)).toNat : Int) from bits_or hS (by omega))) ?_
   refine xx (.e [] 13) _ 244 (4 + (i / 4)) 1 (show (some (⟨b5, 0, none⟩ : Addr)).isSome = true from rfl) ?_
   refine yst (.o [] 14) (.t w.heap.size [5]) fun _ _ _ _ zJ zQ zo zx zy zK => op_storeRow (t := 5) (k := (4 + (i / 4))) (v := .int .u8 (↑(g4B l (i + 1) (i / 4)).toNat : Int)) zo zx zy (by kernel_rfl) rfl ho'1 (by omega) fun W9 u9 o9 => ?_
   rw [bits_set (l := l) (i := i) (by omega)] at o9
   have k7_b3'1 := k7_b3.below (below_drew W7)
   refine zK _ _ (sft_only (T := [5]) (u9.below (Below.refl _ _) (own_ge ho'1)) (Only.of_updRow u9 ho'1 (by decide))) ?_
   refine xwm 4 ((↑i : Int) + 1) (↑(i + 1) : Int) ?_
   have hB'2 := u9.below (Bl.next hB_7 (below_drew W7)) (own_ge ho'1)
   have k7_b3'2 := u9.blk k7_b3'1 (own_blk_ne k7_b3'1 ho'1 (by decide))
   exact ze 2 (hJ7 _ _ _ ⟨i + 1, rfl, rfl, hB'2, k7_b3'2, o9, by omega⟩ (by omega))
 refine xe 13 (.tuple #[.slice (some ⟨b5, 0, none⟩) 244 244, .int .i64 0]) ?_
 obtain rfl : i = l.length := by omega
 exact ⟨_, rfl, hB_7, _, rfl, ho⟩
set_option maxRecDepth 100000 in
set_option maxHeartbeats 1000000 in
theorem clone_cnt (p : Addr) (N c : Nat) (xs : List Value) (w : World) (h : Sl w (.slice (some p) N c) N xs) (hl : xs.length = N) (h1 : ∀ u ∈ xs, u.oneCell' = true) (hn : N ≤ 1000000) :
    Calls Tryz.prog 44 #[.slice (some p) N c] w (RetS (fun w' r => ∃ q c2, r = .slice q N c2 ∧ w'.ownsRow w.heap.size 3 1 (.slice q N c2) N xs) w) := by
 refine zin 8 Tryz.func44 ?_
 refine xb0 17 3 fun b1 W1 n1 => ?_
 have o1 := own_of_blk (size := 1) (n := 0) n1.blk (n1.ge (Below.refl w.heap.size _)) rfl (by decide)
 refine xbi 1 fun _ _ _ _ zJ zQ zo zx zy zK => op_app (m := N) (news := xs) (.int .i64 0) 1 8 (N) (xs) zo Tryz.underlying22 (by kernel_rfl) rfl (by decide) zx o1 zy (h.below n1.below) (by rw [hl, Nat.mul_one]) h1 (by unfold maxLen; omega) (by omega) n1.below.size (by omega) (by rfl) fun px2 cx2 W2 o2 hg2 hb2 => ?_
 refine zK _ _ ?_
 have hB'1 := n1.below.trans hb2
 exact xe 4 (.slice px2 N cx2) ⟨_, rfl, hB'1, _, _, rfl, o2⟩
end Go.Proofs.YtcjpomibhbakdaaGreatDoor
namespace Go.Proofs.YtcjpomibhbakdaaGreatDoor
open Go.RowKit Go.Extern.Stop Go.Stop Go.Extern
set_option linter.unusedVariables false
attribute [local irreducible] wpList wpAnyH Code.wp Oper.wp Go

def SplitP (l : List Int) (w : World) (e : Ending) (w' : World) : Prop :=
  (splitE l ≠ 0 ∧ e = .returned (.tuple #[.slice none 0 0, .slice none 0 0, .int .i64 2]) ∧ Below w.heap.size w w') ∨
  (splitE l = 0 ∧ ∃ pb cb gs po co, e = .returned (.tuple #[.slice pb (bmN l.length) cb, .slice po (overK l l.length).length co, .int .i64 0]) ∧ Below w.heap.size w w' ∧ Lists w' w.heap.size (.slice pb (bmN l.length) cb) gs (chunksI (smallL l) (bmN l.length)) ∧ w'.ownsRow w.heap.size 69 3 (.slice po (overK l l.length).length co) (overK l l.length).length ((overK l l.length).flatMap entC))
theorem splitE_bad {l : List Int} {i : Nat} (hl : l.length ≤ 65536) (hi : i < l.length) (h : ¬ cntOk (l.getD i 0)) : splitE l ≠ 0 := fun q => h ((splitE_ok q).2 i hi)
theorem splitE_good {l : List Int} (hl : l.length ≤ 65536) (h : ∀ k, k < l.length → cntOk (l.getD k 0)) : splitE l = 0 := by
  unfold splitE; rw [if_neg (by omega), if_pos h]
attribute [local go_sem] Oper.semAt_some
theorem g_retM {P : Program} {fn : Func} {R : Ending → World → Prop} {a : Act} {w : World} (v : Value) (hd : a.defers = []) (hr : (results fn a.tmps).run P w = .ok v w) (h : R (.returned v) w) : bodyPostM Fence.wide 4 P fn R .ret a w := by
  show LeavesInM _ _ _ _ a.tmps R a.defers .returning w
  rw [hd]
  exact ⟨v, hr, h⟩
theorem Lists.put {W U : World} {D base : Nat} {v : Value} {gs : List (Nat × Nat)} {L : List (List Int)} (h : Lists W base v gs L) (u : Upd W D U) (hK : Dfr D W) : Lists U base v gs L := ⟨u.own3 h.row (hK.row h.row), fun i hi => u.own3 (h.each i hi) (hK.row (h.each i hi))⟩
theorem mn3_if (n : Int) : (if 3 < n then 3 else n) = mn3 n := by unfold mn3; split <;> split <;> omega
/-- the chunks of a prefix of the places -/
def preC (s : List Int) {n : Nat} (pre : List (Fin n)) : List (List Int) := pre.map fun j => chunkI s j.val
theorem preC_snoc (s : List Int) {n : Nat} (pre : List (Fin n)) (x : Fin n) : preC s (pre ++ [x]) = preC s pre ++ [chunkI s x.val] := by simp [preC]
theorem preC_all (s : List Int) (n : Nat) : preC s (List.finRange n) = chunksI s n := by
  unfold preC chunksI
  apply List.ext_getElem
  · simp
  · intro i h1 h2; simp
set_option maxRecDepth 100000 in
set_option maxHeartbeats 4000000 in
theorem tally_Split (a : Option Addr) (c : Nat) (l : List Int) (w : World) (h : Sl w (.slice a l.length c) l.length (l.map (Value.int .i64))) (hl : l.length ≤ 65536) :
    Calls Tryz.prog 25 #[.slice a l.length c] w (SplitP l w) := by
  refine calls_of_marks Tryz.func25 rfl ?_
  refine g_fr ⟨#[.slice a l.length c, undef, undef, undef, undef, undef, undef, undef, undef, undef, undef, undef, undef, undef, undef, undef, undef, undef, undef, undef, undef, undef, undef, undef, undef, undef, undef, undef, undef, undef, undef, undef, undef, undef, undef, undef, undef, undef, undef, undef, undef, undef, undef, undef, undef, undef, undef, undef, undef, undef, undef, undef], []⟩ (by kernel_rfl) ?_
  refine wp_seq ?_
  refine wp_region_lit ?_
  refine g_pv 3 [(2, .slice none 0 0), (3, .slice none 0 0), (4, .int .i64 0)] (by kernel_rfl) ?_
  refine wpList_nil ?_
  refine wp_seq ?_
  refine wp_seq ?_
  refine wp_region_lit ?_
  refine g_pv 3 [(11, .slice a l.length c), (12, .int .i64 (↑l.length : Int)), (13, .bool (decide ((↑l.length : Int) > (65536 : Int))))] (by kernel_rfl) ?_
  refine wpList_nil ?_
  refine wp_cond_split (t := decide ((↑l.length : Int) > (65536 : Int))) (by kernel_rfl) (fun hh => absurd (hh.symm.trans (show (decide ((↑l.length : Int) > (65536 : Int)) : Bool) = false from decide_eq_false (by omega))) (by decide)) (fun _ => ?_)
  refine wp_skip ?_
  refine wp_seq ?_
  refine wp_region_lit ?_
  refine g_pv 1 [(5, .slice none 0 0)] (by kernel_rfl) ?_
  refine wpList_nil ?_
  refine wp_seq ?_
  refine wp_region_lit ?_
  refine g_pv 1 [(6, .slice none 0 0)] (by kernel_rfl) ?_
  refine wpList_nil ?_
  refine wp_seq ?_
  refine wp_seq ?_
  refine wp_region_lit ?_
  refine g_pv 3 [(14, .slice a l.length c), (15, .int .i64 (↑l.length : Int)), (16, .int .i64 0)] (by kernel_rfl) ?_
  refine wpList_nil ?_
  refine wp_block ?_
  refine g_fr ⟨#[.slice a l.length c, undef, .slice none 0 0, .slice none 0 0, .int .i64 0, .slice none 0 0, .slice none 0 0, undef, undef, undef, undef, .slice a l.length c, .int .i64 (↑l.length : Int), .bool (decide ((↑l.length : Int) > (65536 : Int))), .slice a l.length c, .int .i64 (↑l.length : Int), .int .i64 0, undef, undef, undef, undef, undef, undef, undef, undef, undef, undef, undef, undef, undef, undef, undef, undef, undef, undef, undef, undef, undef, undef, undef, undef, undef, undef, undef, undef, undef, undef, undef, undef, undef, undef, undef], []⟩ (by kernel_rfl) ?_
  have hB := Below.refl w.heap.size w
  refine wp_loop (fun act V => ∃ (i : Nat) (ps : Option Addr) (cs : Nat) (po : Option Addr) (co : Nat) (x2 : Nat → Value), act = ⟨#[.slice a l.length c, undef, (x2 0), (x2 1), (x2 2), .slice ps i cs, .slice po ((overK l i).length) co, (x2 3), (x2 4), undef, undef, .slice a l.length c, .int .i64 (↑l.length : Int), .bool (decide ((↑l.length : Int) > (65536 : Int))), .slice a l.length c, .int .i64 (↑l.length : Int), .int .i64 (↑i : Int), (x2 5), (x2 6), (x2 7), (x2 8), (x2 9), (x2 10), (x2 11), (x2 12), (x2 13), (x2 14), (x2 15), (x2 16), (x2 17), (x2 18), (x2 19), (x2 20), (x2 21), (x2 22), (x2 23), (x2 24), (x2 25), (x2 26), (x2 27), (x2 28), (x2 29), undef, undef, undef, undef, undef, undef, undef, undef, undef, undef], []⟩ ∧ Below w.heap.size w V ∧ V.ownsRow w.heap.size 3 1 (.slice ps i cs) i ((smallL (l.take i)).map (Value.int .i64)) ∧ V.ownsRow w.heap.size 69 3 (.slice po (overK l i).length co) (overK l i).length ((overK l i).flatMap entC) ∧ i ≤ l.length ∧ ((∀ j, j < i → cntOk (l.getD j 0)))) (fun act V => l.length - ((intOf (act.tmps.getD 16 undef))).toNat) ⟨0, none, 0, none, 0, (pk [.slice none 0 0, .slice none 0 0, .int .i64 0, undef, undef, undef, undef, undef, undef, undef, undef, undef, undef, undef, undef, undef, undef, undef, undef, undef, undef, undef, undef, undef, undef, undef, undef, undef, undef, undef]), rfl, hB, World.ownsRow_nil _ _ _ _, World.ownsRow_nil _ _ _ _, Nat.zero_le _, ?_⟩ ?_
  · exact fun j hj => absurd hj (by omega)
  rintro _ W2 ⟨i, ps, cs, po, co, x2, rfl, hB, hs, ho, hi, hz⟩
  refine wp_seq ?_
  refine wp_region_lit ?_
  refine g_pv 1 [(17, .bool (decide ((↑i : Int) < (↑l.length : Int))))] (by kernel_rfl) ?_
  refine wpList_nil ?_
  refine wp_seq ?_
  refine wp_cond_split (t := decide ((↑i : Int) < (↑l.length : Int))) (by kernel_rfl) (fun hc3 => ?_) (fun hc3 => ?_)
  · have hc3 := of_decide_eq_true hc3
    refine wp_skip ?_
    refine wp_seq ?_
    refine wp_block ?_
    refine wp_seq ?_
    refine wp_region_lit ?_
    refine g_pv 1 [(18, .int .i64 (↑i : Int))] (by kernel_rfl) ?_
    refine g_op (by kernel_rfl) (op_val (run_indexA (size := 1) (k := i) (b := a) (n := l.length) (c := c) (i := (↑i : Int)) (ki := .i64) rfl (by kernel_rfl) (by kernel_rfl) rfl (by omega) (Ints.elem h (k := i) (by omega)).1 Tryz.underlying22 (by kernel_rfl) W2) ?_)
    refine g_op (by kernel_rfl) (op_load (elemAddr a (i * 1)) (.int .i64 (l.getD i 0)) rfl (by kernel_rfl) (by kernel_rfl) (Ints.elem (h.below hB) (k := i) (by omega)).2 ?_)
    refine g_pv 2 [(7, .int .i64 (↑i : Int)), (8, .int .i64 (l.getD i 0))] (by kernel_rfl) ?_
    refine wpList_nil ?_
    refine wp_seq ?_
    refine wp_seq ?_
    refine wp_region_lit ?_
    refine g_pv 3 [(21, .int .i64 (l.getD i 0)), (22, .bool (decide ((l.getD i 0) < (0 : Int)))), (23, .bool (decide ((l.getD i 0) < (0 : Int))))] (by kernel_rfl) ?_
    rcases Bool.eq_false_or_eq_true (decide ((l.getD i 0) < (0 : Int))) with hc4 | hc4
    · refine g_b [22, 23] _ _ hc4 (by kernel_rfl) ?_
      have hc4 := of_decide_eq_true hc4
      refine g_pv 3 [(24, undef), (25, undef), (26, .bool true)] (by kernel_rfl) ?_
      refine wpList_nil ?_
      refine wp_cond_true (by kernel_rfl) ?_
      refine wp_seq ?_
      refine wp_region_lit ?_
      refine g_pv 3 [(2, .slice none 0 0), (3, .slice none 0 0), (4, .int .i64 2)] (by kernel_rfl) ?_
      refine wpList_nil ?_
      refine wp_ret (then_ret (inBlock_ret (then_ret (then_ret (inBlock_ret (then_ret ?_))))))
      exact g_retM (.tuple #[.slice none 0 0, .slice none 0 0, .int .i64 2]) (by kernel_rfl) (by kernel_rfl) (.inl ⟨splitE_bad (i := i) hl (by omega) (fun q => by unfold cntOk at q; omega), rfl, hB⟩)
    · refine g_b [22, 23] _ _ hc4 (by kernel_rfl) ?_
      have hc4 := of_decide_eq_false hc4
      refine g_pv 3 [(24, .int .i64 (l.getD i 0)), (25, .bool (decide ((l.getD i 0) > (2147483647 : Int)))), (26, .bool (decide ((l.getD i 0) > (2147483647 : Int))))] (by kernel_rfl) ?_
      refine wpList_nil ?_
      refine wp_cond_split (t := decide ((l.getD i 0) > (2147483647 : Int))) (by kernel_rfl) (fun hc5 => ?_) (fun hc5 => ?_)
      · have hc5 := of_decide_eq_true hc5
        refine wp_seq ?_
        refine wp_region_lit ?_
        refine g_pv 3 [(2, .slice none 0 0), (3, .slice none 0 0), (4, .int .i64 2)] (by kernel_rfl) ?_
        refine wpList_nil ?_
        refine wp_ret (then_ret (inBlock_ret (then_ret (then_ret (inBlock_ret (then_ret ?_))))))
        exact g_retM (.tuple #[.slice none 0 0, .slice none 0 0, .int .i64 2]) (by kernel_rfl) (by kernel_rfl) (.inl ⟨splitE_bad (i := i) hl (by omega) (fun q => by unfold cntOk at q; omega), rfl, hB⟩)
      · have hc5 := of_decide_eq_false hc5
        refine wp_skip ?_
        refine wp_seq ?_
        refine wp_region_lit ?_
        refine g_pv 3 [(27, .slice ps i cs), (28, .int .i64 (l.getD i 0)), (29, .int .i64 (if (3 : Int) < (l.getD i 0) then (3 : Int) else (l.getD i 0)))] (by kernel_rfl) ?_
        refine g_op (by kernel_rfl) (op_buildSlice 3 [.int .i64 (if (3 : Int) < (l.getD i 0) then (3 : Int) else (l.getD i 0))] rfl (by kernel_rfl) ?_)
        intro b6 W6 n6
        have g6 := n6.ge hB
        have r6_hs := own_ne hs n6
        replace hB := Bl.next hB n6.below
        replace hs := own_below hs n6.below
        replace ho := own_below ho n6.below
        have k6 := n6.blk
        refine g_op (by kernel_rfl) (op_app (e := 3) (n := i) (xs := (smallL (l.take i)).map (Value.int .i64)) (m := 1) (news := [.int .i64 (if (3 : Int) < (l.getD i 0) then (3 : Int) else (l.getD i 0))]) (.int .i64 0) 1 8 (i + 1) ((smallL (l.take (i + 1))).map (Value.int .i64)) rfl Tryz.underlying22 (by kernel_rfl) rfl (by decide) (by kernel_rfl) hs (by kernel_rfl) (k6.sl 1 1 (by decide) (by decide)) rfl (by simp [Value.oneCell']) (by unfold maxLen; omega) (by omega) hB.size (by rfl) (by rw [mn3_if, small_snoc (by omega), List.map_append]; rfl) ?_)
        intro p7 c7 W7 o7 hg7 hb7
        replace ho := own_grown ho hg7 hs (by decide)
        replace hB := hB.trans hb7
        refine g_pv 1 [(5, .slice p7 (i + 1) c7)] (by kernel_rfl) ?_
        refine wpList_nil ?_
        refine wp_seq ?_
        refine wp_region_lit ?_
        refine g_pv 2 [(32, .int .i64 (l.getD i 0)), (33, .bool (decide ((l.getD i 0) ≥ (3 : Int))))] (by kernel_rfl) ?_
        refine wpList_nil ?_
        refine wp_cond_split (t := decide ((l.getD i 0) ≥ (3 : Int))) (by kernel_rfl) (fun hc8 => ?_) (fun hc8 => ?_)
        · have hc8 := of_decide_eq_true hc8
          refine wp_region_lit ?_
          refine g_pv 3 [(34, .slice po ((overK l i).length) co), (35, .int .i64 (↑i : Int)), (36, .int .i64 (l.getD i 0))] (by kernel_rfl) ?_
          refine g_op (by kernel_rfl) (op_call (lb := #[]) 53 #[.int .i64 (l.getD i 0)] rfl (by kernel_rfl) (fun _ _ => by kernel_rfl) (by kernel_rfl) ((value_Count (l.getD i 0) (by omega) (by omega) _).mono ?_))
          rintro e W9 ⟨rfl, hb9⟩
          refine ⟨_, rfl, ?_⟩
          replace hB := Bl.next hB hb9
          replace ho := own_below ho hb9
          replace o7 := own_below o7 hb9
          refine g_pv 1 [(38, .agg #[.int .i64 (↑i : Int), .string ⟨(leB (l.getD i 0) 4).toArray⟩, .int .i64 0])] (by kernel_rfl) ?_
          refine g_op (by kernel_rfl) (op_buildSlice 69 [.int .i64 (↑i : Int), .string ⟨(leB (l.getD i 0) 4).toArray⟩, .int .i64 0] rfl (by kernel_rfl) ?_)
          intro b10 W10 n10
          have g10 := n10.ge hB
          have r10_ho := own_ne ho n10
          replace hB := Bl.next hB n10.below
          replace ho := own_below ho n10.below
          replace o7 := own_below o7 n10.below
          have k10 := n10.blk
          refine g_op (by kernel_rfl) (op_app (e := 69) (n := (overK l i).length) (xs := (overK l i).flatMap entC) (m := 1) (news := [.int .i64 (↑i : Int), .string ⟨(leB (l.getD i 0) 4).toArray⟩, .int .i64 0]) (.agg #[.int .i64 0, .string ⟨#[]⟩, .int .i64 0]) 3 32 ((overK l (i + 1)).length) ((overK l (i + 1)).flatMap entC) rfl Tryz.underlying60 (by kernel_rfl) rfl (by decide) (by kernel_rfl) ho (by kernel_rfl) (k10.sl 1 1 (by decide) (by decide)) rfl (by simp [Value.oneCell']) (by have := overK_len l i; unfold maxLen; omega) (by have := overK_len l i; omega) hB.size (by rw [overK_yes (by omega)]; simp) (by rw [overK_yes (by omega)]; simp [entC]) ?_)
          intro p11 c11 W11 o11 hg11 hb11
          replace o7 := own_grown o7 hg11 ho (by decide)
          replace hB := hB.trans hb11
          refine g_pv 1 [(6, .slice p11 ((overK l (i + 1)).length) c11)] (by kernel_rfl) ?_
          refine wpList_nil ?_
          refine wp_region_lit ?_
          refine g_op (by kernel_rfl) (op_wrap .i64 ((↑i : Int) + 1) (↑(i + 1) : Int) (by kernel_rfl) ((show IntKind.i64.wrap ((↑i : Int) + 1) = ((↑i : Int) + 1) from by first | exact IntWalk.i64_in _ (by omega) | (simp only [IntKind.wrap]; omega)).trans (by omega)) ?_)
          refine g_pv 1 [(16, .int .i64 (↑(i + 1) : Int))] (by kernel_rfl) ?_
          refine wpList_nil ?_
          refine g_nfr ⟨#[.slice a l.length c, undef, (x2 0), (x2 1), (x2 2), .slice p7 (i + 1) c7, .slice p11 ((overK l (i + 1)).length) c11, .int .i64 (↑i : Int), .int .i64 (l.getD i 0), undef, undef, .slice a l.length c, .int .i64 (↑l.length : Int), .bool (decide ((↑l.length : Int) > (65536 : Int))), .slice a l.length c, .int .i64 (↑l.length : Int), .int .i64 (↑(i + 1) : Int), .bool (decide ((↑i : Int) < (↑l.length : Int))), .int .i64 (↑i : Int), .pointer (some (elemAddr a (i * 1))), .int .i64 (l.getD i 0), .int .i64 (l.getD i 0), .bool false, .bool false, .int .i64 (l.getD i 0), .bool (decide ((l.getD i 0) > (2147483647 : Int))), .bool (decide ((l.getD i 0) > (2147483647 : Int))), .slice ps i cs, .int .i64 (l.getD i 0), .int .i64 (if (3 : Int) < (l.getD i 0) then (3 : Int) else (l.getD i 0)), .slice (some ⟨b6, 0, none⟩) 1 1, .slice p7 (i + 1) c7, .int .i64 (l.getD i 0), .bool (decide ((l.getD i 0) ≥ (3 : Int))), .slice po ((overK l i).length) co, .int .i64 (↑i : Int), .int .i64 (l.getD i 0), .string ⟨(leB (l.getD i 0) 4).toArray⟩, .agg #[.int .i64 (↑i : Int), .string ⟨(leB (l.getD i 0) 4).toArray⟩, .int .i64 0], .slice (some ⟨b10, 0, none⟩) 1 1, .slice p11 ((overK l (i + 1)).length) c11, .int .i64 (↑(i + 1) : Int), undef, undef, undef, undef, undef, undef, undef, undef, undef, undef], []⟩ (by kernel_rfl) ?_
          refine ⟨⟨i + 1, _, _, _, _, (pk [(x2 0), (x2 1), (x2 2), .int .i64 (↑i : Int), .int .i64 (l.getD i 0), .bool (decide ((↑i : Int) < (↑l.length : Int))), .int .i64 (↑i : Int), .pointer (some (elemAddr a (i * 1))), .int .i64 (l.getD i 0), .int .i64 (l.getD i 0), .bool false, .bool false, .int .i64 (l.getD i 0), .bool (decide ((l.getD i 0) > (2147483647 : Int))), .bool (decide ((l.getD i 0) > (2147483647 : Int))), .slice ps i cs, .int .i64 (l.getD i 0), .int .i64 (if (3 : Int) < (l.getD i 0) then (3 : Int) else (l.getD i 0)), .slice (some ⟨b6, 0, none⟩) 1 1, .slice p7 (i + 1) c7, .int .i64 (l.getD i 0), .bool (decide ((l.getD i 0) ≥ (3 : Int))), .slice po ((overK l i).length) co, .int .i64 (↑i : Int), .int .i64 (l.getD i 0), .string ⟨(leB (l.getD i 0) 4).toArray⟩, .agg #[.int .i64 (↑i : Int), .string ⟨(leB (l.getD i 0) 4).toArray⟩, .int .i64 0], .slice (some ⟨b10, 0, none⟩) 1 1, .slice p11 ((overK l (i + 1)).length) c11, .int .i64 (↑(i + 1) : Int)]), rfl, hB, o7, o11, by omega, fun j hj => (Nat.lt_or_ge j i).elim (hz j) (fun q => by obtain rfl : j = i := (by omega); exact ⟨by omega, by omega⟩)⟩, ?_⟩
          show l.length - ((↑(i + 1) : Int)).toNat < l.length - ((↑i : Int)).toNat
          omega
        · have hc8 := of_decide_eq_false hc8
          refine wp_skip ?_
          refine wp_region_lit ?_
          refine g_op (by kernel_rfl) (op_wrap .i64 ((↑i : Int) + 1) (↑(i + 1) : Int) (by kernel_rfl) ((show IntKind.i64.wrap ((↑i : Int) + 1) = ((↑i : Int) + 1) from by first | exact IntWalk.i64_in _ (by omega) | (simp only [IntKind.wrap]; omega)).trans (by omega)) ?_)
          refine g_pv 1 [(16, .int .i64 (↑(i + 1) : Int))] (by kernel_rfl) ?_
          refine wpList_nil ?_
          refine g_nfr ⟨#[.slice a l.length c, undef, (x2 0), (x2 1), (x2 2), .slice p7 (i + 1) c7, .slice po ((overK l i).length) co, .int .i64 (↑i : Int), .int .i64 (l.getD i 0), undef, undef, .slice a l.length c, .int .i64 (↑l.length : Int), .bool (decide ((↑l.length : Int) > (65536 : Int))), .slice a l.length c, .int .i64 (↑l.length : Int), .int .i64 (↑(i + 1) : Int), .bool (decide ((↑i : Int) < (↑l.length : Int))), .int .i64 (↑i : Int), .pointer (some (elemAddr a (i * 1))), .int .i64 (l.getD i 0), .int .i64 (l.getD i 0), .bool false, .bool false, .int .i64 (l.getD i 0), .bool (decide ((l.getD i 0) > (2147483647 : Int))), .bool (decide ((l.getD i 0) > (2147483647 : Int))), .slice ps i cs, .int .i64 (l.getD i 0), .int .i64 (if (3 : Int) < (l.getD i 0) then (3 : Int) else (l.getD i 0)), .slice (some ⟨b6, 0, none⟩) 1 1, .slice p7 (i + 1) c7, .int .i64 (l.getD i 0), .bool (decide ((l.getD i 0) ≥ (3 : Int))), (x2 22), (x2 23), (x2 24), (x2 25), (x2 26), (x2 27), (x2 28), .int .i64 (↑(i + 1) : Int), undef, undef, undef, undef, undef, undef, undef, undef, undef, undef], []⟩ (by kernel_rfl) ?_
          refine g_nfr ⟨#[.slice a l.length c, undef, (x2 0), (x2 1), (x2 2), .slice p7 (i + 1) c7, .slice po ((overK l (i + 1)).length) co, .int .i64 (↑i : Int), .int .i64 (l.getD i 0), undef, undef, .slice a l.length c, .int .i64 (↑l.length : Int), .bool (decide ((↑l.length : Int) > (65536 : Int))), .slice a l.length c, .int .i64 (↑l.length : Int), .int .i64 (↑(i + 1) : Int), .bool (decide ((↑i : Int) < (↑l.length : Int))), .int .i64 (↑i : Int), .pointer (some (elemAddr a (i * 1))), .int .i64 (l.getD i 0), .int .i64 (l.getD i 0), .bool false, .bool false, .int .i64 (l.getD i 0), .bool (decide ((l.getD i 0) > (2147483647 : Int))), .bool (decide ((l.getD i 0) > (2147483647 : Int))), .slice ps i cs, .int .i64 (l.getD i 0), .int .i64 (if (3 : Int) < (l.getD i 0) then (3 : Int) else (l.getD i 0)), .slice (some ⟨b6, 0, none⟩) 1 1, .slice p7 (i + 1) c7, .int .i64 (l.getD i 0), .bool (decide ((l.getD i 0) ≥ (3 : Int))), (x2 22), (x2 23), (x2 24), (x2 25), (x2 26), (x2 27), (x2 28), .int .i64 (↑(i + 1) : Int), undef, undef, undef, undef, undef, undef, undef, undef, undef, undef], []⟩ (by rw [overK_no (by omega)]) ?_
          refine ⟨⟨i + 1, _, _, _, _, (pk [(x2 0), (x2 1), (x2 2), .int .i64 (↑i : Int), .int .i64 (l.getD i 0), .bool (decide ((↑i : Int) < (↑l.length : Int))), .int .i64 (↑i : Int), .pointer (some (elemAddr a (i * 1))), .int .i64 (l.getD i 0), .int .i64 (l.getD i 0), .bool false, .bool false, .int .i64 (l.getD i 0), .bool (decide ((l.getD i 0) > (2147483647 : Int))), .bool (decide ((l.getD i 0) > (2147483647 : Int))), .slice ps i cs, .int .i64 (l.getD i 0), .int .i64 (if (3 : Int) < (l.getD i 0) then (3 : Int) else (l.getD i 0)), .slice (some ⟨b6, 0, none⟩) 1 1, .slice p7 (i + 1) c7, .int .i64 (l.getD i 0), .bool (decide ((l.getD i 0) ≥ (3 : Int))), (x2 22), (x2 23), (x2 24), (x2 25), (x2 26), (x2 27), (x2 28), .int .i64 (↑(i + 1) : Int)]), rfl, hB, o7, (by rw [overK_no (by omega)]; exact ho), by omega, fun j hj => (Nat.lt_or_ge j i).elim (hz j) (fun q => by obtain rfl : j = i := (by omega); exact ⟨by omega, by omega⟩)⟩, ?_⟩
          show l.length - ((↑(i + 1) : Int)).toNat < l.length - ((↑i : Int)).toNat
          omega
  · have hc3 := of_decide_eq_false hc3
    refine wp_exit ?_
    refine then_exit ?_
    refine then_exit ?_
    refine inBlock_hit ?_
    refine wp_seq ?_
    refine wp_region_lit ?_
    refine g_op (by kernel_rfl) (op_alloc [.slice none 0 0] rfl (by kernel_rfl) ?_)
    intro b12 W12 n12
    have g12 := n12.ge hB
    replace hB := Bl.next hB n12.below
    replace hs := own_below hs n12.below
    replace ho := own_below ho n12.below
    have k12 := n12.blk
    refine wpList_nil ?_
    refine wp_seq ?_
    refine wp_seq ?_
    refine wp_region_lit ?_
    refine g_pv 1 [(42, .slice ps i cs)] (by kernel_rfl) ?_
    refine g_op (by kernel_rfl) (op_call (lb := #[]) 54 #[.slice ps i cs, .int .i64 960] rfl (by kernel_rfl) (fun _ _ => by kernel_rfl) (by kernel_rfl) ((slices_Chunk ps i cs _).mono ?_))
    rintro e W13 ⟨b1, b2, rfl, hb13, ga1, ga2, gn12, kkb1, kkb2⟩
    refine ⟨_, rfl, ?_⟩
    replace hB := Bl.next hB hb13
    replace k12 := k12.below hb13
    replace hs := own_below hs hb13
    replace ho := own_below ho hb13
    refine wpList_nil ?_
    refine wp_block ?_
    have hin : i = l.length := by omega
    obtain ⟨g, hv⟩ := row_or hs
    have hst := chunk_stops b1 b2 (fun b => b < W13.heap.size ∧ b ≠ b12) g 0 i cs (.slice ps i cs) W13 (fun b h => h.1) ⟨kkb1.lt, (by rintro rfl; exact absurd (kkb1.ty k12) (by decide))⟩ ⟨kkb2.lt, (by rintro rfl; exact absurd (kkb2.ty k12) (by decide))⟩ (by omega) hv (kkb1.cell (i := 0) rfl) (kkb2.cell (i := 0) rfl)
    refine g_fr ⟨#[.slice a l.length c, undef, (x2 0), (x2 1), (x2 2), .slice ps i cs, .slice po ((overK l i).length) co, (x2 3), (x2 4), .pointer (some ⟨b12, 0, none⟩), undef, .slice a l.length c, .int .i64 (↑l.length : Int), .bool (decide ((↑l.length : Int) > (65536 : Int))), .slice a l.length c, .int .i64 (↑l.length : Int), .int .i64 (↑i : Int), .bool (decide ((↑i : Int) < (↑l.length : Int))), (x2 6), (x2 7), (x2 8), (x2 9), (x2 10), (x2 11), (x2 12), (x2 13), (x2 14), (x2 15), (x2 16), (x2 17), (x2 18), (x2 19), (x2 20), (x2 21), (x2 22), (x2 23), (x2 24), (x2 25), (x2 26), (x2 27), (x2 28), (x2 29), .slice ps i cs, .func (.func 85) #[] #[.pointer (some ⟨b1, 0, none⟩), .pointer (some ⟨b2, 0, none⟩)], undef, undef, undef, undef, undef, undef, undef, undef], []⟩ (by kernel_rfl) ?_
    refine wp_range (g := .tmp 43) (gf := 85) (lb := #[.pointer (some ⟨b1, 0, none⟩), .pointer (some ⟨b2, 0, none⟩)]) rfl (enters_of Tryz.func85 (by kernel_rfl) rfl) _ (fun b h => h.1) hst (fun _ => rfl)
      (fun pre W => (∃ pb cb gs, gs.length = pre.length ∧ Blk W b12 [.slice pb (preC (smallL (l.take i)) pre).length cb] 59 ∧ Lists W W13.heap.size (.slice pb (preC (smallL (l.take i)) pre).length cb) gs (preC (smallL (l.take i)) pre)) ∧ BelowBut W13 b12 W)
      (fun _ _ _ => False) ?own (fun _ _ _ _ _ h _ _ => h) ⟨⟨none, 0, [], rfl, k12, ⟨World.ownsRow_nil _ _ _ _, fun i hi => absurd hi (Nat.not_lt_zero _)⟩⟩, (Below.refl _ _).but _⟩
      (fun x a' _ => a' = { tmps := #[.slice a l.length c, undef, (x2 0), (x2 1), (x2 2), .slice ps i cs, .slice po ((overK l i).length) co, (x2 3), (x2 4), .pointer (some ⟨b12, 0, none⟩), .slice (some ⟨g, 0 + x.val * 960, none⟩) (min 960 (i - x.val * 960)) (min 960 (i - x.val * 960)), .slice a l.length c, .int .i64 (↑l.length : Int), .bool (decide ((↑l.length : Int) > (65536 : Int))), .slice a l.length c, .int .i64 (↑l.length : Int), .int .i64 (↑i : Int), .bool (decide ((↑i : Int) < (↑l.length : Int))), (x2 6), (x2 7), (x2 8), (x2 9), (x2 10), (x2 11), (x2 12), (x2 13), (x2 14), (x2 15), (x2 16), (x2 17), (x2 18), (x2 19), (x2 20), (x2 21), (x2 22), (x2 23), (x2 24), (x2 25), (x2 26), (x2 27), (x2 28), (x2 29), .slice ps i cs, .func (.func 85) #[] #[.pointer (some ⟨b1, 0, none⟩), .pointer (some ⟨b2, 0, none⟩)], .slice (some ⟨g, 0 + x.val * 960, none⟩) (min 960 (i - x.val * 960)) (min 960 (i - x.val * 960)), undef, undef, undef, undef, undef, undef, undef], defers := [] }) (fun _ _ _ _ _ _ h _ _ => h) ?assign ?body ?done (fun _ _ _ _ _ _ h _ => h.elim)
    case own => exact OwnFrom.and (Own.from (fun s A B row hs hg hr => by obtain ⟨pb, cb, gs, h0, h1, h2⟩ := hs; exact ⟨pb, cb, gs, h0, h1.turn hg hr, h2.turn hg hr⟩) _) (ownFrom_but (Nat.le_refl _))
    case assign =>
      rintro lr pre x W K hI hK
      unfold encK
      gi_wp2
      refine hK _ _ (KeepsFrom.refl _ _) (Keeps.refl _ _) hI ?_
      simp only [hin, Nat.zero_add, decide_eq_false (show ¬ ((l.length : Int) > 65536) by omega), Int.lt_irrefl, decide_false]
    case body =>
      rintro lr pre x a' W hlr ⟨⟨pb, cb, gs, hgl, m9, hL⟩, hbb⟩ rfl hlt
      have hx := bmN_lt x.isLt
      have hvs := hv.resolve_left (fun q => by omega)
      have hsW := hbb.own2 hs k12 (by decide)
      rw [hvs.1] at hsW
      obtain ⟨m, hm⟩ : ∃ m, min 960 (i - x.val * 960) = m := ⟨_, rfl⟩
      rw [hm]
      have hm0 : 0 < m := by omega
      have hmk : x.val * 960 + m ≤ i := by omega
      have hsl : (smallL (l.take i)).length = i := by simp [smallL]; omega
      have hcl : (chunkI (smallL (l.take i)) x.val).length = m := by rw [chunkI_len, hsl]; exact hm
      have hpt : (((smallL (l.take i)).map (Value.int .i64)).drop (x.val * 960)).take m = (chunkI (smallL (l.take i)) x.val).map (Value.int .i64) := by rw [← List.map_drop, ← List.map_take]; unfold chunkI; rw [show ((smallL (l.take i)).drop (x.val * 960)).take m = ((smallL (l.take i)).drop (x.val * 960)).take 960 from by rw [List.take_eq_take_iff, List.length_drop, hsl]; omega]
      have hpl : (preC (smallL (l.take i)) pre).length = pre.length := by simp [preC]
      have hbl : pre.length ≤ 69 := by have : bmN i ≤ 69 := (by unfold bmN; omega); omega
      have hrw := hL.row
      have hE : Each W W13.heap.size gs (preC (smallL (l.take i)) pre) := hL.each
      have hZ : RdZ W13 b12 W W := RdZ.refl hbb
      have hW1 : W13.heap.size ≤ W.heap.size := hbb.size
      have hBW : w.heap.size ≤ W13.heap.size := hB.size
      have hb9 := g12
      refine wpIn_block ?_
      have hB := Bl.nextB (Below.refl w.heap.size W) (Nat.le_trans hBW hW1) (below_drew W)
      replace m9 := m9.below (below_drew W)
      replace hsW := own_below hsW (below_drew W)
      replace hrw := own_below hrw (below_drew W)
      replace hE := hE.below (below_drew W)
      replace hZ := hZ.below (below_drew W)
      refine h_regIn (fun V => Below w.heap.size (W.drew) V ∧ Only [59, 22] (W.drew) V) 6 rfl #[false, false, false, false, false, false] rfl (by kernel_rfl) (fun ⟨_, _, q⟩ => q) (by simp) ⟨Below.refl _ _, Only.refl _ _⟩ ?_
      intro hS14
      have hBd16 := hB
      have kd16_b12 := m9
      have fd_hrw := hrw
      refine h_pv [1] 5 rfl #[false, true, false, false, false, false] [(46, .slice (some ⟨g, 0 + x.val * 960, none⟩) m m)] (by kernel_rfl) (fun _ _ _ _ _ h => h) (by kernel_rfl) hS14 ?_
      refine h_two 0 2 4 rfl (by kernel_rfl) rfl rfl (by kernel_rfl) (by kernel_rfl) ?_ ?_
      · refine op_load ⟨b12, 0, none⟩ (.slice pb ((preC (smallL (l.take i)) pre).length) cb) rfl (by kernel_rfl) (by kernel_rfl) (m9.cell (i := 0) rfl) ?_
        have hS17 : Below w.heap.size (W.drew) (W.drew) ∧ Only [59, 22] (W.drew) (W.drew) := hS14
        refine ⟨hS17, ?_⟩
        have hs18 : W.heap.size ≤ (W.drew).heap.size := hB.size
        refine h_one 2 3 rfl (by kernel_rfl) rfl (by kernel_rfl) (op_call (lb := #[]) 44 #[.slice (some ⟨g, 0 + x.val * 960, none⟩) m m] rfl (by kernel_rfl) (fun _ _ => by kernel_rfl) (by kernel_rfl) ((clone_cnt ⟨g, 0 + x.val * 960, none⟩ m m ((chunkI (smallL (l.take i)) x.val).map (Value.int .i64)) _ (hpt ▸ Sl.midI (own_sl hsW) (by rw [List.length_map]; exact hsl) (x.val * 960) m hm0 hmk) (by rw [List.length_map]; exact hcl) (fun u hu => by obtain ⟨y, _, rfl⟩ := List.mem_map.1 hu; rfl) (by omega)).mono ?_))
        rintro e W18 ⟨_, rfl, hb18, q, c2, rfl, hq⟩
        refine ⟨_, rfl, ?_⟩
        replace hB := Bl.nextB hB (Nat.le_trans hBW hW1) hb18
        replace m9 := m9.below hb18
        replace hsW := own_below hsW hb18
        replace hrw := own_below hrw hb18
        replace hE := hE.below hb18
        replace hZ := hZ.below hb18
        replace hq := own_mono hq hs18
        have hS19 : Below w.heap.size (W.drew) (W18) ∧ Only [59, 22] (W.drew) (W18) := ⟨Bl.nextB hS17.1 (Nat.le_trans (Nat.le_trans hBW hW1) hBd16.size) hb18, hS17.2.trans (Only.of_below hb18)⟩
        refine ⟨hS19, ?_⟩
        refine h_one 3 2 rfl (by kernel_rfl) rfl (by kernel_rfl) (op_buildSlice 22 [.slice q m c2] rfl (by kernel_rfl) ?_)
        intro b20 W20 n20
        have d20_b12 := n20.ne m9
        have g20 := n20.ge0 hB
        have r20_hrw := own_ne hrw n20
        have gd_b20 : (W.drew).heap.size ≤ b20 := by have := hS19.1.size; have := n20.at_; omega
        replace hB := Bl.nextB hB (Nat.le_trans hBW hW1) n20.below
        replace m9 := m9.below n20.below
        replace hsW := own_below hsW n20.below
        replace hrw := own_below hrw n20.below
        replace hE := hE.below n20.below
        replace hZ := hZ.below n20.below
        replace hq := own_below hq n20.below
        have k20 := n20.blk
        have hS21 : Below w.heap.size (W.drew) (W20) ∧ Only [59, 22] (W.drew) (W20) := ⟨Bl.nextB hS19.1 (Nat.le_trans (Nat.le_trans hBW hW1) hBd16.size) n20.below, hS19.2.trans (Only.of_below n20.below)⟩
        refine ⟨hS21, ?_⟩
        refine h_one 4 1 rfl (by kernel_rfl) rfl (by kernel_rfl) (op_app (e := 22) (n := (preC (smallL (l.take i)) pre).length) (xs := (List.range (preC (smallL (l.take i)) pre).length).map (lstV gs (preC (smallL (l.take i)) pre))) (m := 1) (news := [.slice q m c2]) (.slice none 0 0) 1 24 ((preC (smallL (l.take i)) pre).length + 1) ((List.range (preC (smallL (l.take i)) pre).length).map (lstV gs (preC (smallL (l.take i)) pre)) ++ [.slice q m c2]) rfl Tryz.underlying59 (by kernel_rfl) rfl (by decide) (by kernel_rfl) hrw (by kernel_rfl) (k20.sl 1 1 (by decide) (by decide)) rfl (by simp [Value.oneCell']) (by unfold maxLen; omega) (by omega) (Nat.le_trans hW1 hZ.le) (by simp) (by simp) ?_)
        intro p22 c22 W22 o22 hg22 hb22
        replace m9 := m9.grown hg22 hrw (by decide)
        replace hsW := own_grown hsW hg22 hrw (by decide)
        replace hE := hE.only (Only.of_grown (T := [22]) hg22 hrw (by decide)) (by decide)
        replace hZ := hZ.grown hg22 hrw
        replace hq := own_grown hq hg22 hrw (by decide)
        replace hB := hB.trans (hb22.mono hBW)
        have hS23 : Below w.heap.size (W.drew) (W22) ∧ Only [59, 22] (W.drew) (W22) := ⟨hS21.1.trans (hb22.mono hBW), hS21.2.trans (Only.of_grown hg22 hrw (by decide))⟩
        refine ⟨hS23, ?_⟩
        refine h_one 5 0 rfl (by kernel_rfl) rfl (by kernel_rfl) (op_store (v := .slice p22 ((preC (smallL (l.take i)) pre).length + 1) c22) (b := b12) (off := 0) rfl (by kernel_rfl) (by kernel_rfl) (by kernel_rfl) rfl m9 (by first | decide | simp) ?_)
        intro W24 u24 k24
        change Blk _ _ [.slice p22 ((preC (smallL (l.take i)) pre).length + 1) c22] _ at k24
        replace hB := u24.below hB hb9
        replace hsW := u24.own2 hsW m9 (by decide)
        replace hE := hE.only (Only.of_upd (T := [59]) u24 m9 (by decide)) (by decide)
        replace hZ := hZ.upd u24 m9
        replace hq := u24.own2 hq m9 (by decide)
        replace o22 := u24.own2 o22 m9 (by decide)
        have hS25 : Below w.heap.size (W.drew) (W24) ∧ Only [59, 22] (W.drew) (W24) := ⟨u24.below hS23.1 hb9, hS23.2.trans (Only.of_upd u24 m9 (by decide))⟩
        refine ⟨hS25, ?_⟩
        refine h_done _ (by kernel_rfl) ?_
        obtain ⟨g2, rfl, hc2⟩ := own_someN hq hm0
        rw [← hcl] at hq
        have hrw2 := o22
        rw [← hcl] at hrw2
        have hS := Lists.snoc (n := (preC (smallL (l.take i)) pre).length + 1) rfl hrw2 hE (own_mono hq hW1) (by rw [hgl, hpl])
        exact ⟨hZ.ko.from _, ⟨hZ.le, fun b hb => hZ.fr b hb.1 hb.2⟩, ⟨_, _, gs ++ [(g2, _)], by simp [hgl], by rw [preC_snoc, List.length_append]; exact k24, by rw [preC_snoc, List.length_append]; exact hS⟩, hZ.bb⟩
      · have hs26 : W.heap.size ≤ (W.drew).heap.size := hB.size
        refine op_call (lb := #[]) 44 #[.slice (some ⟨g, 0 + x.val * 960, none⟩) m m] rfl (by kernel_rfl) (fun _ _ => by kernel_rfl) (by kernel_rfl) ((clone_cnt ⟨g, 0 + x.val * 960, none⟩ m m ((chunkI (smallL (l.take i)) x.val).map (Value.int .i64)) _ (hpt ▸ Sl.midI (own_sl hsW) (by rw [List.length_map]; exact hsl) (x.val * 960) m hm0 hmk) (by rw [List.length_map]; exact hcl) (fun u hu => by obtain ⟨y, _, rfl⟩ := List.mem_map.1 hu; rfl) (by omega)).mono ?_)
        rintro e W26 ⟨_, rfl, hb26, q, c2, rfl, hq⟩
        refine ⟨_, rfl, ?_⟩
        replace hB := Bl.nextB hB (Nat.le_trans hBW hW1) hb26
        replace m9 := m9.below hb26
        replace hsW := own_below hsW hb26
        replace hrw := own_below hrw hb26
        replace hE := hE.below hb26
        replace hZ := hZ.below hb26
        replace hq := own_mono hq hs26
        have hS27 : Below w.heap.size (W.drew) (W26) ∧ Only [59, 22] (W.drew) (W26) := ⟨Bl.nextB hS14.1 (Nat.le_trans (Nat.le_trans hBW hW1) hBd16.size) hb26, hS14.2.trans (Only.of_below hb26)⟩
        refine ⟨hS27, ?_⟩
        refine h_two 0 3 3 rfl (by kernel_rfl) rfl rfl (by kernel_rfl) (by kernel_rfl) ?_ ?_
        · refine op_load ⟨b12, 0, none⟩ (.slice pb ((preC (smallL (l.take i)) pre).length) cb) rfl (by kernel_rfl) (by kernel_rfl) (m9.cell (i := 0) rfl) ?_
          have hS28 : Below w.heap.size (W.drew) (W26) ∧ Only [59, 22] (W.drew) (W26) := hS27
          refine ⟨hS28, ?_⟩
          refine h_one 3 2 rfl (by kernel_rfl) rfl (by kernel_rfl) (op_buildSlice 22 [.slice q m c2] rfl (by kernel_rfl) ?_)
          intro b29 W29 n29
          have d29_b12 := n29.ne m9
          have g29 := n29.ge0 hB
          have r29_hrw := own_ne hrw n29
          have gd_b29 : (W.drew).heap.size ≤ b29 := by have := hS28.1.size; have := n29.at_; omega
          replace hB := Bl.nextB hB (Nat.le_trans hBW hW1) n29.below
          replace m9 := m9.below n29.below
          replace hsW := own_below hsW n29.below
          replace hrw := own_below hrw n29.below
          replace hE := hE.below n29.below
          replace hZ := hZ.below n29.below
          replace hq := own_below hq n29.below
          have k29 := n29.blk
          have hS30 : Below w.heap.size (W.drew) (W29) ∧ Only [59, 22] (W.drew) (W29) := ⟨Bl.nextB hS28.1 (Nat.le_trans (Nat.le_trans hBW hW1) hBd16.size) n29.below, hS28.2.trans (Only.of_below n29.below)⟩
          refine ⟨hS30, ?_⟩
          refine h_one 4 1 rfl (by kernel_rfl) rfl (by kernel_rfl) (op_app (e := 22) (n := (preC (smallL (l.take i)) pre).length) (xs := (List.range (preC (smallL (l.take i)) pre).length).map (lstV gs (preC (smallL (l.take i)) pre))) (m := 1) (news := [.slice q m c2]) (.slice none 0 0) 1 24 ((preC (smallL (l.take i)) pre).length + 1) ((List.range (preC (smallL (l.take i)) pre).length).map (lstV gs (preC (smallL (l.take i)) pre)) ++ [.slice q m c2]) rfl Tryz.underlying59 (by kernel_rfl) rfl (by decide) (by kernel_rfl) hrw (by kernel_rfl) (k29.sl 1 1 (by decide) (by decide)) rfl (by simp [Value.oneCell']) (by unfold maxLen; omega) (by omega) (Nat.le_trans hW1 hZ.le) (by simp) (by simp) ?_)
          intro p31 c31 W31 o31 hg31 hb31
          replace m9 := m9.grown hg31 hrw (by decide)
          replace hsW := own_grown hsW hg31 hrw (by decide)
          replace hE := hE.only (Only.of_grown (T := [22]) hg31 hrw (by decide)) (by decide)
          replace hZ := hZ.grown hg31 hrw
          replace hq := own_grown hq hg31 hrw (by decide)
          replace hB := hB.trans (hb31.mono hBW)
          have hS32 : Below w.heap.size (W.drew) (W31) ∧ Only [59, 22] (W.drew) (W31) := ⟨hS30.1.trans (hb31.mono hBW), hS30.2.trans (Only.of_grown hg31 hrw (by decide))⟩
          refine ⟨hS32, ?_⟩
          refine h_one 5 0 rfl (by kernel_rfl) rfl (by kernel_rfl) (op_store (v := .slice p31 ((preC (smallL (l.take i)) pre).length + 1) c31) (b := b12) (off := 0) rfl (by kernel_rfl) (by kernel_rfl) (by kernel_rfl) rfl m9 (by first | decide | simp) ?_)
          intro W33 u33 k33
          change Blk _ _ [.slice p31 ((preC (smallL (l.take i)) pre).length + 1) c31] _ at k33
          replace hB := u33.below hB hb9
          replace hsW := u33.own2 hsW m9 (by decide)
          replace hE := hE.only (Only.of_upd (T := [59]) u33 m9 (by decide)) (by decide)
          replace hZ := hZ.upd u33 m9
          replace hq := u33.own2 hq m9 (by decide)
          replace o31 := u33.own2 o31 m9 (by decide)
          have hS34 : Below w.heap.size (W.drew) (W33) ∧ Only [59, 22] (W.drew) (W33) := ⟨u33.below hS32.1 hb9, hS32.2.trans (Only.of_upd u33 m9 (by decide))⟩
          refine ⟨hS34, ?_⟩
          refine h_done _ (by kernel_rfl) ?_
          obtain ⟨g2, rfl, hc2⟩ := own_someN hq hm0
          rw [← hcl] at hq
          have hrw2 := o31
          rw [← hcl] at hrw2
          have hS := Lists.snoc (n := (preC (smallL (l.take i)) pre).length + 1) rfl hrw2 hE (own_mono hq hW1) (by rw [hgl, hpl])
          exact ⟨hZ.ko.from _, ⟨hZ.le, fun b hb => hZ.fr b hb.1 hb.2⟩, ⟨_, _, gs ++ [(g2, _)], by simp [hgl], by rw [preC_snoc, List.length_append]; exact k33, by rw [preC_snoc, List.length_append]; exact hS⟩, hZ.bb⟩
        · refine op_buildSlice 22 [.slice q m c2] rfl (by kernel_rfl) ?_
          intro b35 W35 n35
          have d35_b12 := n35.ne m9
          have g35 := n35.ge0 hB
          have r35_hrw := own_ne hrw n35
          have gd_b35 : (W.drew).heap.size ≤ b35 := by have := hS27.1.size; have := n35.at_; omega
          replace hB := Bl.nextB hB (Nat.le_trans hBW hW1) n35.below
          replace m9 := m9.below n35.below
          replace hsW := own_below hsW n35.below
          replace hrw := own_below hrw n35.below
          replace hE := hE.below n35.below
          replace hZ := hZ.below n35.below
          replace hq := own_below hq n35.below
          have k35 := n35.blk
          have hS36 : Below w.heap.size (W.drew) (W35) ∧ Only [59, 22] (W.drew) (W35) := ⟨Bl.nextB hS27.1 (Nat.le_trans (Nat.le_trans hBW hW1) hBd16.size) n35.below, hS27.2.trans (Only.of_below n35.below)⟩
          refine ⟨hS36, ?_⟩
          refine h_one 0 2 rfl (by kernel_rfl) rfl (by kernel_rfl) (op_load ⟨b12, 0, none⟩ (.slice pb ((preC (smallL (l.take i)) pre).length) cb) rfl (by kernel_rfl) (by kernel_rfl) (m9.cell (i := 0) rfl) ?_)
          have hS37 : Below w.heap.size (W.drew) (W35) ∧ Only [59, 22] (W.drew) (W35) := hS36
          refine ⟨hS37, ?_⟩
          refine h_one 4 1 rfl (by kernel_rfl) rfl (by kernel_rfl) (op_app (e := 22) (n := (preC (smallL (l.take i)) pre).length) (xs := (List.range (preC (smallL (l.take i)) pre).length).map (lstV gs (preC (smallL (l.take i)) pre))) (m := 1) (news := [.slice q m c2]) (.slice none 0 0) 1 24 ((preC (smallL (l.take i)) pre).length + 1) ((List.range (preC (smallL (l.take i)) pre).length).map (lstV gs (preC (smallL (l.take i)) pre)) ++ [.slice q m c2]) rfl Tryz.underlying59 (by kernel_rfl) rfl (by decide) (by kernel_rfl) hrw (by kernel_rfl) (k35.sl 1 1 (by decide) (by decide)) rfl (by simp [Value.oneCell']) (by unfold maxLen; omega) (by omega) (Nat.le_trans hW1 hZ.le) (by simp) (by simp) ?_)
          intro p38 c38 W38 o38 hg38 hb38
          replace m9 := m9.grown hg38 hrw (by decide)
          replace hsW := own_grown hsW hg38 hrw (by decide)
          replace hE := hE.only (Only.of_grown (T := [22]) hg38 hrw (by decide)) (by decide)
          replace hZ := hZ.grown hg38 hrw
          replace hq := own_grown hq hg38 hrw (by decide)
          replace hB := hB.trans (hb38.mono hBW)
          have hS39 : Below w.heap.size (W.drew) (W38) ∧ Only [59, 22] (W.drew) (W38) := ⟨hS37.1.trans (hb38.mono hBW), hS37.2.trans (Only.of_grown hg38 hrw (by decide))⟩
          refine ⟨hS39, ?_⟩
          refine h_one 5 0 rfl (by kernel_rfl) rfl (by kernel_rfl) (op_store (v := .slice p38 ((preC (smallL (l.take i)) pre).length + 1) c38) (b := b12) (off := 0) rfl (by kernel_rfl) (by kernel_rfl) (by kernel_rfl) rfl m9 (by first | decide | simp) ?_)
          intro W40 u40 k40
          change Blk _ _ [.slice p38 ((preC (smallL (l.take i)) pre).length + 1) c38] _ at k40
          replace hB := u40.below hB hb9
          replace hsW := u40.own2 hsW m9 (by decide)
          replace hE := hE.only (Only.of_upd (T := [59]) u40 m9 (by decide)) (by decide)
          replace hZ := hZ.upd u40 m9
          replace hq := u40.own2 hq m9 (by decide)
          replace o38 := u40.own2 o38 m9 (by decide)
          have hS41 : Below w.heap.size (W.drew) (W40) ∧ Only [59, 22] (W.drew) (W40) := ⟨u40.below hS39.1 hb9, hS39.2.trans (Only.of_upd u40 m9 (by decide))⟩
          refine ⟨hS41, ?_⟩
          refine h_done _ (by kernel_rfl) ?_
          obtain ⟨g2, rfl, hc2⟩ := own_someN hq hm0
          rw [← hcl] at hq
          have hrw2 := o38
          rw [← hcl] at hrw2
          have hS := Lists.snoc (n := (preC (smallL (l.take i)) pre).length + 1) rfl hrw2 hE (own_mono hq hW1) (by rw [hgl, hpl])
          exact ⟨hZ.ko.from _, ⟨hZ.le, fun b hb => hZ.fr b hb.1 hb.2⟩, ⟨_, _, gs ++ [(g2, _)], by simp [hgl], by rw [preC_snoc, List.length_append]; exact k40, by rw [preC_snoc, List.length_append]; exact hS⟩, hZ.bb⟩
    case done =>
      rintro D xs W hD rfl ⟨⟨pb, cb, gs, hgl, m9, hL⟩, hbb⟩ hK0
      rw [preC_all] at m9 hL
      have hK : Dfr D W := hK0; clear hK0
      subst hin
      rw [List.take_length] at m9 hL
      rw [chunksI_len] at m9 hL
      refine g_nopan ?_
      have hB1 := hB
      replace hB := hbb.below hB g12 hB.size
      have ho2 := hbb.own2 ho k12 (by decide)
      have hBW := hB1.size
      replace k12 := m9
      refine wp_seq ?_
      refine wp_region_lit ?_
      refine g_op (by kernel_rfl) (op_load ⟨b12, 0, none⟩ (.slice pb (bmN l.length) cb) rfl (by kernel_rfl) (by kernel_rfl) (k12.cell (i := 0) rfl) ?_)
      refine g_pv 4 [(51, .slice po ((overK l l.length).length) co), (2, .slice pb (bmN l.length) cb), (3, .slice po ((overK l l.length).length) co), (4, .int .i64 0)] (by kernel_rfl) ?_
      refine wpList_nil ?_
      refine wp_ret ?_
      exact g_endM hK (.tuple #[.slice pb (bmN l.length) cb, .slice po ((overK l l.length).length) co, .int .i64 0]) (by kernel_rfl) (by kernel_rfl) (.inr ⟨splitE_good hl (fun k hk => hz k (by omega)), _, _, gs, _, _, rfl, (Upd.of_put _ _ _).below hB (Nat.le_trans hBW hD), (hL.mono hBW).put (Upd.of_put _ _ _) hK, (Upd.of_put _ _ _).own3 ho2 (hK.row ho2)⟩)
end Go.Proofs.YtcjpomibhbakdaaGreatDoor
namespace Go.Proofs.YtcjpomibhbakdaaGreatDoor
open Go.RowKit Go.Extern.Stop Go.Stop Go.Extern
set_option linter.unusedVariables false
attribute [local irreducible] wpList wpAnyH Code.wp Oper.wp Go

def ClosP (B Bx bl : Nat) (L : List (List Int)) (q i : Nat) (w : World) (e : Ending) (w' : World) : Prop :=
  ∃ u p c, e = .returned u ∧ Below B w w' ∧ Only [60, 69] w w' ∧ Blk w' bl [.slice p (i + 1) c] 60 ∧ w'.ownsRow Bx 69 3 (.slice p (i + 1) c) (i + 1) ((slotsE L q (i + 1)).flatMap entC) ∧ FrB Bx [bl] w w'
theorem slots_row (L : List (List Int)) (q i : Nat) : (slotsE L q i).flatMap entC ++ [.int .i64 (i : Int), .string ⟨(leB ((q + i : Nat) : Int) 8 ++ leB (freeN (L.getD i []) : Int) 4 ++ leB (firstN (L.getD i []) : Int) 4).toArray⟩, .int .i64 0] = (slotsE L q (i + 1)).flatMap entC := by
  rw [slotsE_succ]; simp [entC, slotX, slotB]
structure FrZ (Bx : Nat) (S : List Nat) (a w : World) : Prop where
  fr : FrB Bx S a w
  le : Bx ≤ a.heap.size
theorem FrZ.refl {Bx : Nat} {S : List Nat} {w : World} (h : Bx ≤ w.heap.size) : FrZ Bx S w w := ⟨⟨Nat.le_refl _, fun _ _ _ => rfl⟩, h⟩
theorem FrZ.below {Bx : Nat} {S : List Nat} {a w W : World} (h : FrZ Bx S a w) (hb : Below w.heap.size w W) : FrZ Bx S a W := ⟨⟨Nat.le_trans h.fr.1 hb.size, fun k hk hn => (hb.block k (by have := h.fr.1; have := h.le; omega)).trans (h.fr.2 k hk hn)⟩, h.le⟩
theorem FrZ.upd {Bx b : Nat} {S : List Nat} {a w W : World} (h : FrZ Bx S a w) (u : Upd w b W) (hb : b ∈ S) : FrZ Bx S a W := ⟨⟨Nat.le_trans h.fr.1 (Nat.le_of_eq u.size.symm), fun k hk hn => (u.block k fun e => hn (e ▸ hb)).trans (h.fr.2 k hk hn)⟩, h.le⟩
theorem FrZ.grown {Bx : Nat} {S : List Nat} {a w W : World} {size n : Nat} {e : TypeId} {v : Value} {xs : List Value} (h : FrZ Bx S a w) (hg : w.grownBy W v.ownBlock) (hown : w.ownsRow Bx e size v n xs) : FrZ Bx S a W := ⟨⟨Nat.le_trans h.fr.1 hg.size, fun k hk hn => (hg.block k (by have := h.fr.1; have := h.le; omega) (fun e => by have := (hown.lt k e.symm).1; omega)).trans (h.fr.2 k hk hn)⟩, h.le⟩
set_option maxRecDepth 100000 in
set_option maxHeartbeats 4000000 in
theorem plot_data1 (B Bx bl : Nat) (p : Option Addr) (c : Nat) (L : List (List Int)) (q i : Nat) (w : World) (hBm : B ≤ Bx) (hBx : Bx ≤ w.heap.size) (hBw : B ≤ w.heap.size) (hBl : B ≤ bl) (kl : Blk w bl [.slice p i c] 60) (hup : w.ownsRow Bx 69 3 (.slice p i c) i ((slotsE L q i).flatMap entC)) (hq : 1 ≤ q + i) (hq2 : q + i ≤ 14399) (hi : i ≤ 100000) (hf : freeN (L.getD i []) ≤ 960) (hg : firstN (L.getD i []) ≤ 960) :
    Calls Tryz.prog 28 #[.agg #[.int .i64 (↑(q + i) : Int), .int .i64 (↑(freeN (L.getD i [])) : Int), .int .i64 (↑(firstN (L.getD i [])) : Int)], .pointer (some ⟨bl, 0, none⟩)] w (ClosP B Bx bl L q i w) := by
 have hZ : FrZ Bx [bl] w w := FrZ.refl hBx
 refine zin 11 Tryz.func28 ?_
 refine xa 2 [.int .i64 (↑(q + i) : Int), .int .i64 (↑(freeN (L.getD i [])) : Int), .int .i64 (↑(firstN (L.getD i [])) : Int)] 66 fun b1 W1 n1 => ?_
 refine xd 2 (.t B [60, 69]) ?_
 have k1 := n1.blk.below (below_drew W1)
 refine xlvt (.e [] 3) (.t B [60, 69]) (fun V hV => (k1.only hV.2 (by decide)).rp) ?_
 refine xm3 0 0 1 4 ?_ ?_ ?_
 · have kl'1 := (kl.below n1.below).below (below_drew W1)
   refine xb 0 0 kl'1 ?_
   refine xm2 0 1 4 ?_ ?_
   · refine xb 0 0 kl'1 ?_
     refine xr (.o [2] 4) (args := #[.agg #[.int .i64 (↑(q + i) : Int), .int .i64 (↑(freeN (L.getD i [])) : Int), .int .i64 (↑(firstN (L.getD i [])) : Int)]]) (value_Slot (↑(q + i) : Int) (↑(freeN (L.getD i [])) : Int) (↑(firstN (L.getD i [])) : Int) (by omega) (by omega) (by omega) (by omega) (by omega) (by omega) _) fun W2 hb2 => ?_
     refine xbs (.o [5] 6) 1 [.int .i64 (↑i : Int), .string ⟨(leB (↑(q + i) : Int) 8 ++ leB (↑(freeN (L.getD i [])) : Int) 4 ++ leB (↑(firstN (L.getD i [])) : Int) 4).toArray⟩, .int .i64 0] 69 fun b3 W3 n3 => ?_
     have hup'1 := own_below (own_below (own_below hup n1.below) (below_drew W1)) hb2
     have r3_hup := own_ne hup'1 n3
     have hup'2 := own_below hup'1 n3.below
     have hB := Bl.nextB (Bl.nextB (Bl.nextB (Bl.nextB (Below.refl B w) hBw n1.below) hBw (below_drew W1)) hBw hb2) hBw n3.below
     refine ybi (.o [] 7) (.t B [60, 69]) fun _ _ _ _ zJ zQ zo zx zy zK => op_app (m := 1) (news := [.int .i64 (↑i : Int), .string ⟨(leB (↑(q + i) : Int) 8 ++ leB (↑(freeN (L.getD i [])) : Int) 4 ++ leB (↑(firstN (L.getD i [])) : Int) 4).toArray⟩, .int .i64 0]) (.agg #[.int .i64 0, .string ⟨#[]⟩, .int .i64 0]) 3 32 (i + 1) ((slotsE L q (i + 1)).flatMap entC) zo Tryz.underlying60 (by kernel_rfl) rfl (by decide) zx hup'2 zy (n3.blk.sl 1 1 (by decide) (by decide)) rfl (by simp [Value.oneCell']) (by unfold maxLen; omega) (by omega) (Nat.le_trans hBx hB.size) (by rfl) (slots_row L q i) fun px4 cx4 W4 o4 hg4 hb4 => ?_
     refine zK _ _ (sft_grown (hb4.mono hBm) hg4 hup'2 (by decide)) ?_
     have kl'2 := ((kl'1.below hb2).below n3.below).grown hg4 hup'2 (by decide)
     refine ys (.o [] 8) kl'2 [.slice px4 (i + 1) cx4] (.t B [60, 69]) fun W5 u5 k5 => ⟨(sft_upd u5 kl'2 hBl (by decide)), ?_⟩
     have hB'1 := u5.below (hB.trans (hb4.mono hBm)) hBl
     have hO := (((((show Only [60, 69] w _ from (Only.of_below n1.below)).trans (Only.of_below (below_drew W1))).trans (Only.of_below hb2)).trans (Only.of_below n3.below)).trans (Only.of_grown hg4 hup'2 (by decide))).trans (Only.of_upd u5 kl'2 (by decide))
     have o4'1 := u5.own2 o4 kl'2 (by decide)
     have hZ'1 := (((((hZ.below n1.below).below (below_drew W1)).below hb2).below n3.below).grown hg4 hup'2).upd u5 (by simp)
     exact xe 1 (.tuple #[]) ⟨_, _, _, rfl, hB'1, hO, k5, o4'1, hZ'1.fr⟩
   refine xr 0 (args := #[.agg #[.int .i64 (↑(q + i) : Int), .int .i64 (↑(freeN (L.getD i [])) : Int), .int .i64 (↑(firstN (L.getD i [])) : Int)]]) (value_Slot (↑(q + i) : Int) (↑(freeN (L.getD i [])) : Int) (↑(firstN (L.getD i [])) : Int) (by omega) (by omega) (by omega) (by omega) (by omega) (by omega) _) fun W6 hb6 => ?_
   have kl'3 := kl'1.below hb6
   refine xb (.o [] 1) 0 kl'3 ?_
   refine xbs (.o [2, 5] 6) 1 [.int .i64 (↑i : Int), .string ⟨(leB (↑(q + i) : Int) 8 ++ leB (↑(freeN (L.getD i [])) : Int) 4 ++ leB (↑(firstN (L.getD i [])) : Int) 4).toArray⟩, .int .i64 0] 69 fun b7 W7 n7 => ?_
   have hup'3 := own_below (own_below (own_below hup n1.below) (below_drew W1)) hb6
   have r7_hup := own_ne hup'3 n7
   have hup'4 := own_below hup'3 n7.below
   have hB := Bl.nextB (Bl.nextB (Bl.nextB (Bl.nextB (Below.refl B w) hBw n1.below) hBw (below_drew W1)) hBw hb6) hBw n7.below
   refine ybi (.o [] 7) (.t B [60, 69]) fun _ _ _ _ zJ zQ zo zx zy zK => op_app (m := 1) (news := [.int .i64 (↑i : Int), .string ⟨(leB (↑(q + i) : Int) 8 ++ leB (↑(freeN (L.getD i [])) : Int) 4 ++ leB (↑(firstN (L.getD i [])) : Int) 4).toArray⟩, .int .i64 0]) (.agg #[.int .i64 0, .string ⟨#[]⟩, .int .i64 0]) 3 32 (i + 1) ((slotsE L q (i + 1)).flatMap entC) zo Tryz.underlying60 (by kernel_rfl) rfl (by decide) zx hup'4 zy (n7.blk.sl 1 1 (by decide) (by decide)) rfl (by simp [Value.oneCell']) (by unfold maxLen; omega) (by omega) (Nat.le_trans hBx hB.size) (by rfl) (slots_row L q i) fun px8 cx8 W8 o8 hg8 hb8 => ?_
   refine zK _ _ (sft_grown (hb8.mono hBm) hg8 hup'4 (by decide)) ?_
   have kl'4 := (kl'3.below n7.below).grown hg8 hup'4 (by decide)
   refine ys (.o [] 8) kl'4 [.slice px8 (i + 1) cx8] (.t B [60, 69]) fun W9 u9 k9 => ⟨(sft_upd u9 kl'4 hBl (by decide)), ?_⟩
   have hB'2 := u9.below (hB.trans (hb8.mono hBm)) hBl
   have hO := (((((show Only [60, 69] w _ from (Only.of_below n1.below)).trans (Only.of_below (below_drew W1))).trans (Only.of_below hb6)).trans (Only.of_below n7.below)).trans (Only.of_grown hg8 hup'4 (by decide))).trans (Only.of_upd u9 kl'4 (by decide))
   have o8'1 := u9.own2 o8 kl'4 (by decide)
   have hZ'2 := (((((hZ.below n1.below).below (below_drew W1)).below hb6).below n7.below).grown hg8 hup'4).upd u9 (by simp)
   exact xe 1 (.tuple #[]) ⟨_, _, _, rfl, hB'2, hO, k9, o8'1, hZ'2.fr⟩
 · have kl'5 := (kl.below n1.below).below (below_drew W1)
   refine xb 0 0 kl'5 ?_
   refine xm2 (.b [2]) 0 4 ?_ ?_
   · refine xb 0 0 kl'5 ?_
     refine xr (.o [] 4) (args := #[.agg #[.int .i64 (↑(q + i) : Int), .int .i64 (↑(freeN (L.getD i [])) : Int), .int .i64 (↑(firstN (L.getD i [])) : Int)]]) (value_Slot (↑(q + i) : Int) (↑(freeN (L.getD i [])) : Int) (↑(firstN (L.getD i [])) : Int) (by omega) (by omega) (by omega) (by omega) (by omega) (by omega) _) fun W10 hb10 => ?_
     refine xbs (.o [5] 6) 1 [.int .i64 (↑i : Int), .string ⟨(leB (↑(q + i) : Int) 8 ++ leB (↑(freeN (L.getD i [])) : Int) 4 ++ leB (↑(firstN (L.getD i [])) : Int) 4).toArray⟩, .int .i64 0] 69 fun b11 W11 n11 => ?_
     have hup'5 := own_below (own_below (own_below hup n1.below) (below_drew W1)) hb10
     have r11_hup := own_ne hup'5 n11
     have hup'6 := own_below hup'5 n11.below
     have hB := Bl.nextB (Bl.nextB (Bl.nextB (Bl.nextB (Below.refl B w) hBw n1.below) hBw (below_drew W1)) hBw hb10) hBw n11.below
     refine ybi (.o [] 7) (.t B [60, 69]) fun _ _ _ _ zJ zQ zo zx zy zK => op_app (m := 1) (news := [.int .i64 (↑i : Int), .string ⟨(leB (↑(q + i) : Int) 8 ++ leB (↑(freeN (L.getD i [])) : Int) 4 ++ leB (↑(firstN (L.getD i [])) : Int) 4).toArray⟩, .int .i64 0]) (.agg #[.int .i64 0, .string ⟨#[]⟩, .int .i64 0]) 3 32 (i + 1) ((slotsE L q (i + 1)).flatMap entC) zo Tryz.underlying60 (by kernel_rfl) rfl (by decide) zx hup'6 zy (n11.blk.sl 1 1 (by decide) (by decide)) rfl (by simp [Value.oneCell']) (by unfold maxLen; omega) (by omega) (Nat.le_trans hBx hB.size) (by rfl) (slots_row L q i) fun px12 cx12 W12 o12 hg12 hb12 => ?_
     refine zK _ _ (sft_grown (hb12.mono hBm) hg12 hup'6 (by decide)) ?_
     have kl'6 := ((kl'5.below hb10).below n11.below).grown hg12 hup'6 (by decide)
     refine ys (.o [] 8) kl'6 [.slice px12 (i + 1) cx12] (.t B [60, 69]) fun W13 u13 k13 => ⟨(sft_upd u13 kl'6 hBl (by decide)), ?_⟩
     have hB'3 := u13.below (hB.trans (hb12.mono hBm)) hBl
     have hO := (((((show Only [60, 69] w _ from (Only.of_below n1.below)).trans (Only.of_below (below_drew W1))).trans (Only.of_below hb10)).trans (Only.of_below n11.below)).trans (Only.of_grown hg12 hup'6 (by decide))).trans (Only.of_upd u13 kl'6 (by decide))
     have o12'1 := u13.own2 o12 kl'6 (by decide)
     have hZ'3 := (((((hZ.below n1.below).below (below_drew W1)).below hb10).below n11.below).grown hg12 hup'6).upd u13 (by simp)
     exact xe 1 (.tuple #[]) ⟨_, _, _, rfl, hB'3, hO, k13, o12'1, hZ'3.fr⟩
   refine xr 0 (args := #[.agg #[.int .i64 (↑(q + i) : Int), .int .i64 (↑(freeN (L.getD i [])) : Int), .int .i64 (↑(firstN (L.getD i [])) : Int)]]) (value_Slot (↑(q + i) : Int) (↑(freeN (L.getD i [])) : Int) (↑(firstN (L.getD i [])) : Int) (by omega) (by omega) (by omega) (by omega) (by omega) (by omega) _) fun W14 hb14 => ?_
   refine xm2 (.b [5]) 0 6 ?_ ?_
   · have kl'7 := kl'5.below hb14
     refine xb 0 0 kl'7 ?_
     refine xbs (.o [] 6) 1 [.int .i64 (↑i : Int), .string ⟨(leB (↑(q + i) : Int) 8 ++ leB (↑(freeN (L.getD i [])) : Int) 4 ++ leB (↑(firstN (L.getD i [])) : Int) 4).toArray⟩, .int .i64 0] 69 fun b15 W15 n15 => ?_
     have hup'7 := own_below (own_below (own_below hup n1.below) (below_drew W1)) hb14
     have r15_hup := own_ne hup'7 n15
     have hup'8 := own_below hup'7 n15.below
     have hB := Bl.nextB (Bl.nextB (Bl.nextB (Bl.nextB (Below.refl B w) hBw n1.below) hBw (below_drew W1)) hBw hb14) hBw n15.below
     refine ybi (.o [] 7) (.t B [60, 69]) fun _ _ _ _ zJ zQ zo zx zy zK => op_app (m := 1) (news := [.int .i64 (↑i : Int), .string ⟨(leB (↑(q + i) : Int) 8 ++ leB (↑(freeN (L.getD i [])) : Int) 4 ++ leB (↑(firstN (L.getD i [])) : Int) 4).toArray⟩, .int .i64 0]) (.agg #[.int .i64 0, .string ⟨#[]⟩, .int .i64 0]) 3 32 (i + 1) ((slotsE L q (i + 1)).flatMap entC) zo Tryz.underlying60 (by kernel_rfl) rfl (by decide) zx hup'8 zy (n15.blk.sl 1 1 (by decide) (by decide)) rfl (by simp [Value.oneCell']) (by unfold maxLen; omega) (by omega) (Nat.le_trans hBx hB.size) (by rfl) (slots_row L q i) fun px16 cx16 W16 o16 hg16 hb16 => ?_
     refine zK _ _ (sft_grown (hb16.mono hBm) hg16 hup'8 (by decide)) ?_
     have kl'8 := (kl'7.below n15.below).grown hg16 hup'8 (by decide)
     refine ys (.o [] 8) kl'8 [.slice px16 (i + 1) cx16] (.t B [60, 69]) fun W17 u17 k17 => ⟨(sft_upd u17 kl'8 hBl (by decide)), ?_⟩
     have hB'4 := u17.below (hB.trans (hb16.mono hBm)) hBl
     have hO := (((((show Only [60, 69] w _ from (Only.of_below n1.below)).trans (Only.of_below (below_drew W1))).trans (Only.of_below hb14)).trans (Only.of_below n15.below)).trans (Only.of_grown hg16 hup'8 (by decide))).trans (Only.of_upd u17 kl'8 (by decide))
     have o16'1 := u17.own2 o16 kl'8 (by decide)
     have hZ'4 := (((((hZ.below n1.below).below (below_drew W1)).below hb14).below n15.below).grown hg16 hup'8).upd u17 (by simp)
     exact xe 1 (.tuple #[]) ⟨_, _, _, rfl, hB'4, hO, k17, o16'1, hZ'4.fr⟩
   refine xbs 0 1 [.int .i64 (↑i : Int), .string ⟨(leB (↑(q + i) : Int) 8 ++ leB (↑(freeN (L.getD i [])) : Int) 4 ++ leB (↑(firstN (L.getD i [])) : Int) 4).toArray⟩, .int .i64 0] 69 fun b18 W18 n18 => ?_
   have hup'9 := own_below (own_below (own_below hup n1.below) (below_drew W1)) hb14
   have r18_hup := own_ne hup'9 n18
   have kl'9 := (kl'5.below hb14).below n18.below
   refine xb (.o [] 0) 0 kl'9 ?_
   have hup'10 := own_below hup'9 n18.below
   have hB := Bl.nextB (Bl.nextB (Bl.nextB (Bl.nextB (Below.refl B w) hBw n1.below) hBw (below_drew W1)) hBw hb14) hBw n18.below
   refine ybi (.o [] 7) (.t B [60, 69]) fun _ _ _ _ zJ zQ zo zx zy zK => op_app (m := 1) (news := [.int .i64 (↑i : Int), .string ⟨(leB (↑(q + i) : Int) 8 ++ leB (↑(freeN (L.getD i [])) : Int) 4 ++ leB (↑(firstN (L.getD i [])) : Int) 4).toArray⟩, .int .i64 0]) (.agg #[.int .i64 0, .string ⟨#[]⟩, .int .i64 0]) 3 32 (i + 1) ((slotsE L q (i + 1)).flatMap entC) zo Tryz.underlying60 (by kernel_rfl) rfl (by decide) zx hup'10 zy (n18.blk.sl 1 1 (by decide) (by decide)) rfl (by simp [Value.oneCell']) (by unfold maxLen; omega) (by omega) (Nat.le_trans hBx hB.size) (by rfl) (slots_row L q i) fun px19 cx19 W19 o19 hg19 hb19 => ?_
   refine zK _ _ (sft_grown (hb19.mono hBm) hg19 hup'10 (by decide)) ?_
   have kl'10 := kl'9.grown hg19 hup'10 (by decide)
   refine ys (.o [] 8) kl'10 [.slice px19 (i + 1) cx19] (.t B [60, 69]) fun W20 u20 k20 => ⟨(sft_upd u20 kl'10 hBl (by decide)), ?_⟩
   have hB'5 := u20.below (hB.trans (hb19.mono hBm)) hBl
   have hO := (((((show Only [60, 69] w _ from (Only.of_below n1.below)).trans (Only.of_below (below_drew W1))).trans (Only.of_below hb14)).trans (Only.of_below n18.below)).trans (Only.of_grown hg19 hup'10 (by decide))).trans (Only.of_upd u20 kl'10 (by decide))
   have o19'1 := u20.own2 o19 kl'10 (by decide)
   have hZ'5 := (((((hZ.below n1.below).below (below_drew W1)).below hb14).below n18.below).grown hg19 hup'10).upd u20 (by simp)
   exact xe 1 (.tuple #[]) ⟨_, _, _, rfl, hB'5, hO, k20, o19'1, hZ'5.fr⟩
 refine xr 0 (args := #[.agg #[.int .i64 (↑(q + i) : Int), .int .i64 (↑(freeN (L.getD i [])) : Int), .int .i64 (↑(firstN (L.getD i [])) : Int)]]) (value_Slot (↑(q + i) : Int) (↑(freeN (L.getD i [])) : Int) (↑(firstN (L.getD i [])) : Int) (by omega) (by omega) (by omega) (by omega) (by omega) (by omega) _) fun W21 hb21 => ?_
 refine xm2 0 0 1 ?_ ?_
 · have kl'11 := ((kl.below n1.below).below (below_drew W1)).below hb21
   refine xb 0 0 kl'11 ?_
   refine xb (.o [] 1) 0 kl'11 ?_
   refine xbs (.o [2, 5] 6) 1 [.int .i64 (↑i : Int), .string ⟨(leB (↑(q + i) : Int) 8 ++ leB (↑(freeN (L.getD i [])) : Int) 4 ++ leB (↑(firstN (L.getD i [])) : Int) 4).toArray⟩, .int .i64 0] 69 fun b22 W22 n22 => ?_
   have hup'11 := own_below (own_below (own_below hup n1.below) (below_drew W1)) hb21
   have r22_hup := own_ne hup'11 n22
   have hup'12 := own_below hup'11 n22.below
   have hB := Bl.nextB (Bl.nextB (Bl.nextB (Bl.nextB (Below.refl B w) hBw n1.below) hBw (below_drew W1)) hBw hb21) hBw n22.below
   refine ybi (.o [] 7) (.t B [60, 69]) fun _ _ _ _ zJ zQ zo zx zy zK => op_app (m := 1) (news := [.int .i64 (↑i : Int), .string ⟨(leB (↑(q + i) : Int) 8 ++ leB (↑(freeN (L.getD i [])) : Int) 4 ++ leB (↑(firstN (L.getD i [])) : Int) 4).toArray⟩, .int .i64 0]) (.agg #[.int .i64 0, .string ⟨#[]⟩, .int .i64 0]) 3 32 (i + 1) ((slotsE L q (i + 1)).flatMap entC) zo Tryz.underlying60 (by kernel_rfl) rfl (by decide) zx hup'12 zy (n22.blk.sl 1 1 (by decide) (by decide)) rfl (by simp [Value.oneCell']) (by unfold maxLen; omega) (by omega) (Nat.le_trans hBx hB.size) (by rfl) (slots_row L q i) fun px23 cx23 W23 o23 hg23 hb23 => ?_
   refine zK _ _ (sft_grown (hb23.mono hBm) hg23 hup'12 (by decide)) ?_
   have kl'12 := (kl'11.below n22.below).grown hg23 hup'12 (by decide)
   refine ys (.o [] 8) kl'12 [.slice px23 (i + 1) cx23] (.t B [60, 69]) fun W24 u24 k24 => ⟨(sft_upd u24 kl'12 hBl (by decide)), ?_⟩
   have hB'6 := u24.below (hB.trans (hb23.mono hBm)) hBl
   have hO := (((((show Only [60, 69] w _ from (Only.of_below n1.below)).trans (Only.of_below (below_drew W1))).trans (Only.of_below hb21)).trans (Only.of_below n22.below)).trans (Only.of_grown hg23 hup'12 (by decide))).trans (Only.of_upd u24 kl'12 (by decide))
   have o23'1 := u24.own2 o23 kl'12 (by decide)
   have hZ'6 := (((((hZ.below n1.below).below (below_drew W1)).below hb21).below n22.below).grown hg23 hup'12).upd u24 (by simp)
   exact xe 1 (.tuple #[]) ⟨_, _, _, rfl, hB'6, hO, k24, o23'1, hZ'6.fr⟩
 have kl'13 := ((kl.below n1.below).below (below_drew W1)).below hb21
 refine xb 0 0 kl'13 ?_
 refine xm2 (.b [2, 5]) 0 6 ?_ ?_
 · refine xb 0 0 kl'13 ?_
   refine xbs (.o [] 6) 1 [.int .i64 (↑i : Int), .string ⟨(leB (↑(q + i) : Int) 8 ++ leB (↑(freeN (L.getD i [])) : Int) 4 ++ leB (↑(firstN (L.getD i [])) : Int) 4).toArray⟩, .int .i64 0] 69 fun b25 W25 n25 => ?_
   have hup'13 := own_below (own_below (own_below hup n1.below) (below_drew W1)) hb21
   have r25_hup := own_ne hup'13 n25
   have hup'14 := own_below hup'13 n25.below
   have hB := Bl.nextB (Bl.nextB (Bl.nextB (Bl.nextB (Below.refl B w) hBw n1.below) hBw (below_drew W1)) hBw hb21) hBw n25.below
   refine ybi (.o [] 7) (.t B [60, 69]) fun _ _ _ _ zJ zQ zo zx zy zK => op_app (m := 1) (news := [.int .i64 (↑i : Int), .string ⟨(leB (↑(q + i) : Int) 8 ++ leB (↑(freeN (L.getD i [])) : Int) 4 ++ leB (↑(firstN (L.getD i [])) : Int) 4).toArray⟩, .int .i64 0]) (.agg #[.int .i64 0, .string ⟨#[]⟩, .int .i64 0]) 3 32 (i + 1) ((slotsE L q (i + 1)).flatMap entC) zo Tryz.underlying60 (by kernel_rfl) rfl (by decide) zx hup'14 zy (n25.blk.sl 1 1 (by decide) (by decide)) rfl (by simp [Value.oneCell']) (by unfold maxLen; omega) (by omega) (Nat.le_trans hBx hB.size) (by rfl) (slots_row L q i) fun px26 cx26 W26 o26 hg26 hb26 => ?_
   refine zK _ _ (sft_grown (hb26.mono hBm) hg26 hup'14 (by decide)) ?_
   have kl'14 := (kl'13.below n25.below).grown hg26 hup'14 (by decide)
   refine ys (.o [] 8) kl'14 [.slice px26 (i + 1) cx26] (.t B [60, 69]) fun W27 u27 k27 => ⟨(sft_upd u27 kl'14 hBl (by decide)), ?_⟩
   have hB'7 := u27.below (hB.trans (hb26.mono hBm)) hBl
   have hO := (((((show Only [60, 69] w _ from (Only.of_below n1.below)).trans (Only.of_below (below_drew W1))).trans (Only.of_below hb21)).trans (Only.of_below n25.below)).trans (Only.of_grown hg26 hup'14 (by decide))).trans (Only.of_upd u27 kl'14 (by decide))
   have o26'1 := u27.own2 o26 kl'14 (by decide)
   have hZ'7 := (((((hZ.below n1.below).below (below_drew W1)).below hb21).below n25.below).grown hg26 hup'14).upd u27 (by simp)
   exact xe 1 (.tuple #[]) ⟨_, _, _, rfl, hB'7, hO, k27, o26'1, hZ'7.fr⟩
 refine xbs 0 1 [.int .i64 (↑i : Int), .string ⟨(leB (↑(q + i) : Int) 8 ++ leB (↑(freeN (L.getD i [])) : Int) 4 ++ leB (↑(firstN (L.getD i [])) : Int) 4).toArray⟩, .int .i64 0] 69 fun b28 W28 n28 => ?_
 have hup'15 := own_below (own_below (own_below hup n1.below) (below_drew W1)) hb21
 have r28_hup := own_ne hup'15 n28
 have kl'15 := kl'13.below n28.below
 refine xb (.o [] 0) 0 kl'15 ?_
 have hup'16 := own_below hup'15 n28.below
 have hB := Bl.nextB (Bl.nextB (Bl.nextB (Bl.nextB (Below.refl B w) hBw n1.below) hBw (below_drew W1)) hBw hb21) hBw n28.below
 refine ybi (.o [] 7) (.t B [60, 69]) fun _ _ _ _ zJ zQ zo zx zy zK => op_app (m := 1) (news := [.int .i64 (↑i : Int), .string ⟨(leB (↑(q + i) : Int) 8 ++ leB (↑(freeN (L.getD i [])) : Int) 4 ++ leB (↑(firstN (L.getD i [])) : Int) 4).toArray⟩, .int .i64 0]) (.agg #[.int .i64 0, .string ⟨#[]⟩, .int .i64 0]) 3 32 (i + 1) ((slotsE L q (i + 1)).flatMap entC) zo Tryz.underlying60 (by kernel_rfl) rfl (by decide) zx hup'16 zy (n28.blk.sl 1 1 (by decide) (by decide)) rfl (by simp [Value.oneCell']) (by unfold maxLen; omega) (by omega) (Nat.le_trans hBx hB.size) (by rfl) (slots_row L q i) fun px29 cx29 W29 o29 hg29 hb29 => ?_
 refine zK _ _ (sft_grown (hb29.mono hBm) hg29 hup'16 (by decide)) ?_
 have kl'16 := kl'15.grown hg29 hup'16 (by decide)
 refine ys (.o [] 8) kl'16 [.slice px29 (i + 1) cx29] (.t B [60, 69]) fun W30 u30 k30 => ⟨(sft_upd u30 kl'16 hBl (by decide)), ?_⟩
 have hB'8 := u30.below (hB.trans (hb29.mono hBm)) hBl
 have hO := (((((show Only [60, 69] w _ from (Only.of_below n1.below)).trans (Only.of_below (below_drew W1))).trans (Only.of_below hb21)).trans (Only.of_below n28.below)).trans (Only.of_grown hg29 hup'16 (by decide))).trans (Only.of_upd u30 kl'16 (by decide))
 have o29'1 := u30.own2 o29 kl'16 (by decide)
 have hZ'8 := (((((hZ.below n1.below).below (below_drew W1)).below hb21).below n28.below).grown hg29 hup'16).upd u30 (by simp)
 exact xe 1 (.tuple #[]) ⟨_, _, _, rfl, hB'8, hO, k30, o29'1, hZ'8.fr⟩
end Go.Proofs.YtcjpomibhbakdaaGreatDoor
namespace Go.Proofs.YtcjpomibhbakdaaGreatDoor
open Go.RowKit Go.Extern.Stop Go.Stop Go.Extern
set_option linter.unusedVariables false
attribute [local irreducible] wpList wpAnyH Code.wp Oper.wp Go

def LayPost (B ba b g nn cc : Nat) (pa : Option Addr) (ca f N k0 : Nat) (bs : List UInt8) (bl : Nat) (L : List (List Int)) (w : World) (e : Ending) (w' : World) : Prop :=
  ∃ p c, e = .returned .nilIface ∧ Below B w w' ∧ Only [87, 5, 60, 69] w w' ∧ Fr [ba, g, bl] w w' ∧ Al B ba b g nn cc pa ca f N (k0 + L.length) (cntsB L (f + k0) bs L.length) w' ∧ Blk w' bl [.slice p L.length c] 60 ∧ w'.ownsRow w.heap.size 69 3 (.slice p L.length c) L.length ((slotsE L (f + k0) L.length).flatMap entC)
set_option maxRecDepth 100000 in
set_option maxHeartbeats 8000000 in
theorem plot_layD (B ba b g nn cc : Nat) (pa : Option Addr) (ca f N k0 : Nat) (bs : List UInt8) (bl B2 : Nat) (pl : Option Addr) (cl : Nat) (gs : List (Nat × Nat)) (L : List (List Int)) (w : World) (hC : AlC B ba nn cc ca f N) (hA : Al B ba b g nn cc pa ca f N k0 bs w) (hL : Lists w B2 (.slice pl L.length cl) gs L) (hS : ∀ i, i < L.length → Small (L.getD i []) ∧ (L.getD i []).length ≤ 960) (hf1 : 1 ≤ f) (hk : k0 + L.length ≤ N) (kl : Blk w bl [.slice none 0 0] 60) (hBl : B ≤ bl) (hBw : B ≤ w.heap.size) :
    Calls Tryz.prog 27 #[.pointer (some ⟨ba, 0, none⟩), .slice pl L.length cl, .func (.func 28) #[] #[.pointer (some ⟨bl, 0, none⟩)]] w (LayPost B ba b g nn cc pa ca f N k0 bs bl L w) := by
 have hcf := hC.hf
 have hcn := hC.hn
 refine zin 51 Tryz.func27 ?_
 have hB := Below.refl B w
 refine zl 14 51 (fun zm zkv V => ∃ (i : Nat) (p : Option Addr) (c : Nat), zkv = [(0, .pointer (some ⟨ba, 0, none⟩)), (2, .func (.func 28) #[] #[.pointer (some ⟨bl, 0, none⟩)]), (15, .slice pl L.length cl), (16, .int .i64 (↑L.length : Int)), (17, .int .i64 (↑i : Int))] ∧ zm = L.length - ((↑i : Int)).toNat ∧ Below B w V ∧ Fr [ba, g, bl] w V ∧ Only [87, 5, 60, 69] w V ∧ Blk V bl ([.slice p i c]) 60 ∧ Al B ba b g nn cc pa ca f N (k0 + i) (cntsB L (f + k0) bs i) V ∧ Lists V B2 (.slice pl L.length cl) gs L ∧ V.ownsRow w.heap.size 69 3 (.slice p i c) i ((slotsE L (f + k0) i).flatMap entC) ∧ i ≤ L.length) ⟨0, none, 0, rfl, rfl, hB, (Fr.refl _ _), (Only.refl _ _), kl, hA, hL, World.ownsRow_nil _ _ _ _, Nat.zero_le _⟩ ?_
 rintro _ _ W1 ⟨i, p, c, rfl, rfl, hB_1, hX_1, hO_1, k1_bl, hA, hL, hup, hi⟩ J1 hJ1 r1
 refine xid 6 ((↑i : Int) < (↑L.length : Int)) (fun hc2 => ?_) (fun hc2 => ?_)
 · refine xx 6 _ L.length i 1 (Lists.elem hL rfl (k := i) (by omega)).1 ?_
   refine xl 0 ((Lists.elem hL rfl (k := i) (by omega)).2) ?_
   refine xc 6 (args := #[.slice (some ⟨(gs.getD i (0, 0)).1, 0, none⟩) ((L.getD i []).length) ((gs.getD i (0, 0)).2)]) (bits_Put _ _ (L.getD i []) _ (hS i (by omega)).1 (hS i (by omega)).2 (own_sl (hL.each i (by omega)))) ?_
   rintro _ W3 ⟨_, rfl, hb3, g6, rfl, h6⟩
   have hA'1 := hA.below hb3
   have hO'1 := hO_1.trans (Only.of_below hb3)
   have h6'1 := own_mono h6 hB_1.size
   have hB'1 := Bl.nextB hB_1 hBw hb3
   refine xc 21 (args := #[.pointer (some ⟨ba, 0, none⟩), .int .i64 3, .slice (some ⟨g6, 0, none⟩) 244 244]) (alloc_LayQ B ba b g nn cc pa ca f N (k0 + i) (cntsB L (f + k0) bs i) 3 (some ⟨g6, 0, none⟩) 244 (bitsB (L.getD i [])) (f + k0 + i) 244 _ (Nat.add_assoc _ _ _).symm (bitsT_len _ _) hC hA'1 (by omega) (by decide) (by decide) (fun W _ hO'1 => bys_of (own_sl (own_only h6'1 hO'1 (by decide))) (bitsT_len _ _)) (by decide) (Nat.le_trans hBw hB'1.size)) ?_
   rintro _ W4 ⟨rfl, hb4, hO4, hX4, hA⟩
   have hL'1 := (hL.below hb3).only hO4 (by decide)
   refine xr 20 (args := #[.slice (some ⟨(gs.getD i (0, 0)).1, 0, none⟩) ((L.getD i []).length) ((gs.getD i (0, 0)).2)]) (bits_Free _ _ (L.getD i []) _ (hS i (by omega)).2 (own_sl (hL'1.each i (by omega)))) fun W5 hb5 => ?_
   have hf9 : freeN (L.getD i []) ≤ 960 := Nat.le_trans (freeK_le _ _) (hS i (by omega)).2
   have hg9 : firstN (L.getD i []) ≤ 960 := Nat.le_trans (firstN_le _) (hS i (by omega)).2
   have hB'2 := Bl.nextB (hB'1.trans hb4) hBw hb5
   have k1_bl'1 := ((k1_bl.below hb3).only hO4 (by decide)).below hb5
   have hup'1 := own_below (own_only (own_below hup hb3) hO4 (by decide)) hb5
   refine xc 13 (args := #[.agg #[.int .i64 (↑(f + k0 + i) : Int), .int .i64 (↑(freeN (L.getD i [])) : Int), .int .i64 (↑(firstN (L.getD i [])) : Int)], .pointer (some ⟨bl, 0, none⟩)]) (plot_data1 B w.heap.size bl p c L (f + k0) i _ hBw hB'2.size (Nat.le_trans hBw hB'2.size) hBl k1_bl'1 hup'1 (by omega) (by omega) (by omega) hf9 hg9) ?_
   rintro _ W6 ⟨_, p9, c9, rfl, hb6, hO6, kln, hup, hX6⟩
   refine xwm 4 ((↑i : Int) + 1) (↑(i + 1) : Int) ?_
   have hA'2 := (hA.below hb5).only hO6 (by decide)
   have hL'2 := (hL'1.below hb5).only hO6 (by decide)
   have hB'3 := hB'2.trans hb6
   have hX'1 := (Fr.trans_B (((hX_1.trans (Fr.of_below hb3)).trans (hX4.mono (by simp))).trans (Fr.of_below hb5)) hX6 (by simp))
   have hO'2 := ((hO'1.trans (hO4.wide)).trans (Only.of_below hb5)).trans (hO6.wide)
   exact ze 2 (hJ1 _ _ _ ⟨i + 1, _, _, rfl, rfl, hB'3, hX'1, hO'2, kln, hA'2, hL'2, hup, by omega⟩ (by omega))
 refine xe 11 .nilIface ?_
 obtain rfl : i = L.length := by omega
 exact ⟨_, _, rfl, hB_1, hO_1, hX_1, hA, k1_bl, hup⟩
end Go.Proofs.YtcjpomibhbakdaaGreatDoor
namespace Go.Proofs.YtcjpomibhbakdaaGreatDoor
open Go.RowKit Go.Extern.Stop Go.Stop Go.Extern
set_option linter.unusedVariables false
attribute [local irreducible] wpList wpAnyH Code.wp Oper.wp Go

/-- the law's entries: keys 0, 3, 6 .., values of v zero bytes -/
def someE (v N : Nat) : List Ent := (List.range N).map fun i => (((3 * i : Nat) : Int), List.replicate v 0, 0)
theorem someE_len (v N : Nat) : (someE v N).length = N := by simp [someE]
theorem someE_get {v N i : Nat} (h : i < N) : (someE v N).getD i entD = (((3 * i : Nat) : Int), List.replicate v 0, 0) := by simp [someE, List.getD, List.getElem?_range h]
theorem someE_succ (v j : Nat) : (someE v (j + 1)).flatMap entC = (someE v j).flatMap entC ++ [.int .i64 ((3 * j : Nat) : Int), .string ⟨(List.replicate v (0 : UInt8)).toArray⟩, .int .i64 0] := by
  simp [someE, List.range_succ, entC]
theorem someE_ok {v N : Nat} (h : N ≤ 100000) : EntsOk v (someE v N) where
  hk i hi := by rw [someE_len] at hi; rw [someE_get hi]; constructor <;> (simp only; omega)
  hs j hj := by rw [someE_len] at hj; rw [someE_get (by omega), someE_get hj]; simp only; omega
  hw i hi := by rw [someE_len] at hi; rw [someE_get hi]; simp
end Go.Proofs.YtcjpomibhbakdaaGreatDoor
namespace Go.Proofs.YtcjpomibhbakdaaGreatDoor
open Go.RowKit Go.Extern.Stop Go.Stop Go.Extern
set_option linter.unusedVariables false
attribute [local irreducible] wpList wpAnyH Code.wp Oper.wp Go

theorem Al.mono {B B' ba b g n c : Nat} {pa : Option Addr} {ca f N k : Nat} {l : List UInt8} {w : World} (h : Al B' ba b g n c pa ca f N k l w) (hB : B ≤ B') : Al B ba b g n c pa ca f N k l w := ⟨h.blkA, h.blkI, own_mono h.data hB, own_mono h.nums hB⟩
theorem AlC.mono {B B' ba n c ca f N : Nat} (h : AlC B' ba n c ca f N) (hB : B ≤ B') : AlC B ba n c ca f N := ⟨h.hn, h.hc, h.hca, h.hf, Nat.le_trans hB h.hB⟩
theorem row_at {w : World} {base g n c size : Nat} {e : TypeId} {xs : List Value} (h : w.ownsRow base e size (.slice (some ⟨g, 0, none⟩) n c) n xs) : ∃ cur, w.heap[g]? = some (.cells cur e (0, 0)) := by
  rcases h.2 with ⟨hv, _⟩ | ⟨g2, cap, cur, hv, _, hh, _⟩
  · cases hv
  · simp only [Value.slice.injEq, Option.some.injEq, Addr.mk.injEq] at hv
    obtain ⟨⟨rfl, _, _⟩, _⟩ := hv
    exact ⟨cur, hh⟩
theorem row_lt {w : World} {base g n c size : Nat} {e : TypeId} {xs : List Value} (h : w.ownsRow base e size (.slice (some ⟨g, 0, none⟩) n c) n xs) : g < w.heap.size := by
  obtain ⟨cur, hh⟩ := row_at h
  exact (Array.getElem?_eq_some_iff.1 hh).1
/-- the image of one allocator is no block that another one writes -/
theorem Al.ne {B ba b g n c : Nat} {pa : Option Addr} {ca f N k : Nat} {l : List UInt8} {B2 ba2 b2 g2 n2 c2 : Nat} {pa2 : Option Addr} {ca2 f2 N2 k2 : Nat} {l2 : List UInt8} {w : World} (h : Al B ba b g n c pa ca f N k l w) (h2 : Al B2 ba2 b2 g2 n2 c2 pa2 ca2 f2 N2 k2 l2 w) : b2 ≠ ba ∧ b2 ≠ g := by
  constructor
  · rintro rfl
    exact absurd (h.blkA.ty h2.blkI) (by decide)
  · rintro rfl
    obtain ⟨cur, hh⟩ := row_at h.data
    have h3 : w.heap[b2]? = some (.cells [.slice (some ⟨g2, 0, none⟩) n2 c2].toArray 90 (0, 0)) := h2.blkI
    rw [hh] at h3
    simp only [Option.some.injEq, Obj.cells.injEq] at h3
    exact absurd h3.2.1 (by decide)
theorem Al.apart {B2 ba2 b2 g2 n2 c2 : Nat} {pa2 : Option Addr} {ca2 f2 N2 k2 : Nat} {l2 : List UInt8} {w W : World} {ba g : Nat} (h : Al B2 ba2 b2 g2 n2 c2 pa2 ca2 f2 N2 k2 l2 w) (hC : AlC B2 ba2 n2 c2 ca2 f2 N2) (h1 : ba < B2) (h2 : g < B2) (hne : b2 ≠ ba ∧ b2 ≠ g) (hX : Fr [ba, g] w W) : Al B2 ba2 b2 g2 n2 c2 pa2 ca2 f2 N2 k2 l2 W := by
  have hB := hC.hB
  refine ⟨h.blkA.fr hX (by simp; omega), h.blkI.fr hX (by simp; exact hne), own_fr h.data hX fun k hk => ?_, own_fr h.nums hX fun k hk => ?_⟩
  · have := (h.data.lt k hk).1; simp; omega
  · have := (h.nums.lt k hk).1; simp; omega
theorem build_TreeN (B ba b g nn cc : Nat) (pa : Option Addr) (ca f N k0 : Nat) (bs : List UInt8) (t : Int) (a : Option Addr) (c : Nat) (l : List Ent) (n : Nat) (w : World) (hl : l.length = n) (hC : AlC B ba nn cc ca f N) (hA : Al B ba b g nn cc pa ca f N k0 bs w) (ht1 : 1 ≤ t) (ht2 : t ≤ 5) (E : EntsOk (widN t true) l) (hn : n ≤ 32768) (hf1 : 1 ≤ f) (hkN : k0 ≤ N) (hk : k0 + nodN t n ≤ N) (hin : ∀ W, Below B w W → Only [87, 5, 35] w W → Sts entC W (.slice a l.length c) l) (hBw : B ≤ w.heap.size) :
    Calls Tryz.prog 30 #[.pointer (some ⟨ba, 0, none⟩), .int .i64 t, .slice a n c] w (TreePost B ba b g nn cc pa ca f N k0 bs t l w) := by
  subst hl; exact build_Tree B ba b g nn cc pa ca f N k0 bs t a c l w hC hA ht1 ht2 E hn hf1 hkN hk hin hBw
theorem build_Tree_noneN (B ba b g nn cc : Nat) (pa : Option Addr) (ca f N k0 : Nat) (bs : List UInt8) (t : Int) (a : Option Addr) (c : Nat) (l : List Ent) (n : Nat) (w : World) (hl : l.length = n) (hA : Al B ba b g nn cc pa ca f N k0 bs w) (ht1 : 1 ≤ t) (ht2 : t ≤ 5) (E : EntsOk (widN t true) l) (hn : n ≤ 32768) (hkN : k0 ≤ N) (hk : N < k0 + nodN t n) (h : Sts entC w (.slice a l.length c) l) :
    Calls Tryz.prog 30 #[.pointer (some ⟨ba, 0, none⟩), .int .i64 t, .slice a n c] w (Ret (.tuple #[.int .i64 0, .iface 38 (.int .i64 14)]) w) := by
  subst hl; exact build_Tree_none B ba b g nn cc pa ca f N k0 bs t a c l w hA ht1 ht2 E hn hkN hk h
theorem treeB_root {t : Int} {l : List Ent} {q : Nat} {bs : List UInt8} (hq : 1 ≤ q) : (treeB t l q bs).1 = ((q + nodN t l.length - 1 : Nat) : Int) := by
  have hp := ovN_pos l.length (maxN t true)
  have hg := levs_ge (ovN l.length (maxN t true))
  unfold treeB
  rw [treeUp_root (by rw [upE_len]; exact hp) (by rw [upE_len, upE_get (by omega)]; simp only [upX]; congr 1; omega) (by omega), upE_len]
  unfold nodN levL
  congr 1; omega
theorem ovN_6 {n m : Nat} (hm : 6 ≤ m) (hn : n ≤ 511) : ovN n m ≤ 86 := by
  unfold ovN
  have : (n + m - 1) / m ≤ 86 := by
    rw [Nat.div_le_iff_le_mul_add_pred (by omega)]
    have : 6 * 86 ≤ m * 86 := Nat.mul_le_mul_right 86 hm
    omega
  omega
theorem nodN_511 {t : Int} {n : Nat} (hn : n ≤ 511) : nodN t n ≤ 200 := by
  have hm : 6 ≤ maxN t true := by unfold maxN; repeat' split
                                  all_goals first | decide | simp_all
  have h1 := ovN_6 (m := maxN t true) hm hn
  have h2 := levs_sum (ovN_pos n (maxN t true))
  unfold nodN levL; omega
theorem and511 (x : Int) : ∃ n : Nat, IntKind.i64.wrap (↑(BitVec.ofInt 64 x &&& BitVec.ofInt 64 (511 : Int)).toNat : Int) = (n : Int) ∧ n ≤ 511 := by
  refine ⟨(BitVec.ofInt 64 x &&& BitVec.ofInt 64 (511 : Int)).toNat, ?_, ?_⟩
  · have h : (BitVec.ofInt 64 x &&& BitVec.ofInt 64 (511 : Int)).toNat ≤ 511 := by rw [BitVec.toNat_and]; exact Nat.and_le_right
    exact i64_nat (by omega)
  · rw [BitVec.toNat_and]; exact Nat.and_le_right
theorem nodN_2_13 : nodN 2 13 = 3 := by
  unfold nodN levL
  rw [show ovN 13 (maxN 2 true) = 2 from rfl, levs_more (by decide), show ovN 2 18 = 1 from rfl, levs_one (by decide)]; rfl
end Go.Proofs.YtcjpomibhbakdaaGreatDoor
namespace Go.Proofs.YtcjpomibhbakdaaGreatDoor
open Go.RowKit Go.Extern.Stop Go.Stop Go.Extern
set_option linter.unusedVariables false
attribute [local irreducible] wpList wpAnyH Code.wp Oper.wp Go

theorem tally_Split_ok (a : Option Addr) (c : Nat) (l : List Int) (w : World) (h : Sl w (.slice a l.length c) l.length (l.map (Value.int .i64))) (hl : l.length ≤ 65536) (hs : splitE l = 0) : Calls Tryz.prog 25 #[.slice a l.length c] w (fun e w' => ∃ pb cb gs po co, e = .returned (.tuple #[.slice pb (bmN l.length) cb, .slice po (overK l l.length).length co, .int .i64 0]) ∧ Below w.heap.size w w' ∧ Lists w' w.heap.size (.slice pb (bmN l.length) cb) gs (chunksI (smallL l) (bmN l.length)) ∧ w'.ownsRow w.heap.size 69 3 (.slice po (overK l l.length).length co) (overK l l.length).length ((overK l l.length).flatMap entC)) :=
  (tally_Split a c l w h hl).mono fun e w' q => (q.resolve_left fun z => z.1 hs).2
theorem plot_layDN (B ba b g nn cc : Nat) (pa : Option Addr) (ca f N k0 : Nat) (bs : List UInt8) (bl B2 : Nat) (pl : Option Addr) (cl : Nat) (gs : List (Nat × Nat)) (L : List (List Int)) (n : Nat) (hn : L.length = n) (w : World) (hC : AlC B ba nn cc ca f N) (hA : Al B ba b g nn cc pa ca f N k0 bs w) (hL : Lists w B2 (.slice pl n cl) gs L) (hS : ∀ i, i < L.length → Small (L.getD i []) ∧ (L.getD i []).length ≤ 960) (hf1 : 1 ≤ f) (hk : k0 + n ≤ N) (kl : Blk w bl [.slice none 0 0] 60) (hBl : B ≤ bl) (hBw : B ≤ w.heap.size) :
    Calls Tryz.prog 27 #[.pointer (some ⟨ba, 0, none⟩), .slice pl n cl, .func (.func 28) #[] #[.pointer (some ⟨bl, 0, none⟩)]] w (fun e w' => ∃ p c, e = .returned .nilIface ∧ Below B w w' ∧ Only [87, 5, 60, 69] w w' ∧ Fr ([ba, g] ++ [bl]) w w' ∧ Al B ba b g nn cc pa ca f N (k0 + n) (cntsB L (f + k0) bs n) w' ∧ Blk w' bl [.slice p n c] 60 ∧ w'.ownsRow w.heap.size 69 3 (.slice p n c) n ((slotsE L (f + k0) n).flatMap entC)) := by
  subst hn; exact plot_layD B ba b g nn cc pa ca f N k0 bs bl B2 pl cl gs L w hC hA hL hS hf1 hk kl hBl hBw
theorem chunks_small {l : List Int} (h : ∀ k, k < l.length → cntOk (l.getD k 0)) (n : Nat) : ∀ i, i < (chunksI (smallL l) n).length → Small ((chunksI (smallL l) n).getD i []) ∧ ((chunksI (smallL l) n).getD i []).length ≤ 960 := fun i hi => by
  rw [chunksI_len] at hi
  rw [chunksI_get hi]
  exact ⟨chunk_small (small_ok h) i, by rw [chunkI_len]; omega⟩
theorem own_keep {w W : World} {B ba b g nn cc : Nat} {pa : Option Addr} {ca f N k0 bl : Nat} {bs : List UInt8} {cs : List Value} {base n : Nat} {v : Value} {xs : List Value} (k : w.ownsRow base 69 3 v n xs) (hA : Al B ba b g nn cc pa ca f N k0 bs w) (kl : Blk w bl cs 60) (hX : Fr ([ba, g] ++ [bl]) w W) : W.ownsRow base 69 3 v n xs := own_fr k hX fun j hj hm => by
  obtain ⟨cs', kb⟩ := own_blk hA.data
  simp only [List.cons_append, List.nil_append, List.mem_cons, List.not_mem_nil, or_false] at hm
  rcases hm with h | h | h
  · exact own_ty_ne k hA.blkA (by decide) _ hj h
  · exact own_ty_ne k kb (by decide) _ hj h
  · exact own_ty_ne k kl (by decide) _ hj h
def DataP (B ba b g nn cc : Nat) (pa : Option Addr) (ca f N k0 : Nat) (bs : List UInt8) (l : List Int) (w : World) (e : Ending) (w' : World) : Prop :=
  e = .returned (.tuple #[.int .i64 (plotB l (f + k0) bs).1, .int .i64 (plotB l (f + k0) bs).2.1, .nilIface]) ∧ Below B w w' ∧ Only [87, 5, 60, 69, 35] w w' ∧ Fr [ba, g] w w' ∧ Al B ba b g nn cc pa ca f N (k0 + plotN l) (plotB l (f + k0) bs).2.2 w'
set_option maxRecDepth 100000 in
set_option maxHeartbeats 1000000 in
theorem size_Bitmaps (n : Nat) (w : World) (hn : n ≤ 65536) :
    Calls Tryz.prog 43 #[.int .i64 (↑n : Int)] w (Ret (.int .i64 (↑(bmN n) : Int)) w) := by
 refine zin 9 Tryz.func43 ?_
 refine xid 12 ((↑n : Int) < (1 : Int)) (fun hc1 => ?_) (fun hc1 => ?_)
 · exact xe 7 (.int .i64 0) ⟨by rw [show bmN n = 0 from by unfold bmN; omega]; rfl, (Below.refl w.heap.size _)⟩
 refine xwm 5 ((↑n : Int) - 1) (↑(n - 1) : Int) ?_
 refine xq 0 (congrArg (Value.int .i64) (show (IntKind.i64.wrap (Int.tdiv (↑(n - 1) : Int) 960) : Int) = (↑((n - 1) / 960) : Int) from quo_natB (n - 1) 960 (by omega) (by decide))) ?_
 refine xw 0 ((↑((n - 1) / 960) : Int) + 1) ?_
 exact xe 4 (.int .i64 ((↑((n - 1) / 960) : Int) + 1)) ⟨by rw [show bmN n = (n - 1) / 960 + 1 from by unfold bmN; omega, Int.natCast_add]; rfl, (Below.refl w.heap.size _)⟩
set_option maxRecDepth 100000 in
set_option maxHeartbeats 8000000 in
theorem plot_Data (B ba b g nn cc : Nat) (pa : Option Addr) (ca f N k0 : Nat) (bs : List UInt8) (a : Option Addr) (c : Nat) (l : List Int) (w : World) (hC : AlC B ba nn cc ca f N) (hA : Al B ba b g nn cc pa ca f N k0 bs w) (h : Sl w (.slice a l.length c) l.length (l.map (Value.int .i64))) (hl : l.length ≤ 3000) (hs : splitE l = 0) (hf1 : 1 ≤ f) (hkN : k0 ≤ N) (hk : k0 + plotN l ≤ N) (hBw : B ≤ w.heap.size) :
    Calls Tryz.prog 9 #[.pointer (some ⟨ba, 0, none⟩), .slice a l.length c] w (DataP B ba b g nn cc pa ca f N k0 bs l w) := by
 have hcf := hC.hf
 have hcn := hC.hn
 have hbd := plotN_bd hl
 have hsp := splitE_ok hs
 have hol := overK_len l l.length
 have hpn : plotN l = (bmN l.length) + nodN 4 (bmN l.length) + nodN 5 (overK l l.length).length := rfl
 have hn4 := nodN_le 4 (bmN l.length)
 have hn5 := nodN_le 5 (overK l l.length).length
 refine zin 70 Tryz.func9 ?_
 refine xr 11 (args := #[.pointer (some ⟨ba, 0, none⟩)]) (alloc_Image ba b _ _ _ hA.blkA) fun W1 hb1 => ?_
 refine xc 9 (args := #[.slice a l.length c]) (tally_Split_ok a c l _ (h.below hb1) (by omega) hs) ?_
 rintro _ W2 ⟨pb, cb, gs, po, co, rfl, hb2, hL, hov⟩
 have hs2 := (Bl.nextB (Below.refl B w) hBw hb1).size
 have hA'1 := (hA.below hb1).below hb2
 refine xr 23 (args := #[.pointer (some ⟨ba, 0, none⟩)]) (alloc_Left ba b pa N ca k0 _ hA'1.blkA hkN) fun W3 hb3 => ?_
 refine xr 4 (args := #[.int .i64 4, .int .i64 (↑(bmN l.length) : Int)]) (tall_Nodes 4 (bmN l.length) _ (by decide) (by decide) (by omega)) fun W4 hb4 => ?_
 refine xwm 0 ((↑(bmN l.length) : Int) + (↑(nodN 4 (bmN l.length)) : Int)) (↑((bmN l.length) + (nodN 4 (bmN l.length))) : Int) ?_
 refine xr 2 (args := #[.int .i64 5, .int .i64 (↑((overK l l.length).length) : Int)]) (tall_Nodes 5 (overK l l.length).length _ (by decide) (by decide) (by omega)) fun W5 hb5 => ?_
 refine xwm 0 ((↑((bmN l.length) + (nodN 4 (bmN l.length))) : Int) + (↑(nodN 5 (overK l l.length).length) : Int)) (↑(((bmN l.length) + (nodN 4 (bmN l.length))) + (nodN 5 (overK l l.length).length)) : Int) ?_
 refine xk 3 (show (decide ((↑(N - k0) : Int) < (↑(((bmN l.length) + (nodN 4 (bmN l.length))) + (nodN 5 (overK l l.length).length)) : Int)) : Bool) = false from decide_eq_false (by omega)) ?_
 refine xa 4 [.slice none 0 0] 60 fun b6 W6 n6 => ?_
 have hX := (((((show Fr [ba, g] w _ from (Fr.of_below hb1)).trans (Fr.of_below hb2)).trans (Fr.of_below hb3)).trans (Fr.of_below hb4)).trans (Fr.of_below hb5)).trans (Fr.of_below n6.below)
 have hov'1 := own_below (own_below (own_below (own_below (own_mono hov hs2) hb3) hb4) hb5) n6.below
 have hA'2 := (((hA'1.below hb3).below hb4).below hb5).below n6.below
 have hovk := fun (W : World) (hX : Fr ([ba, g] ++ [b6]) _ W) => own_keep hov'1 hA'2 n6.blk hX
 have hL'1 := (((hL.below hb3).below hb4).below hb5).below n6.below
 have g6 := n6.ge0 (Bl.nextB (Bl.nextB (Bl.nextB (Bl.nextB (Bl.nextB (Below.refl B w) hBw hb1) hBw hb2) hBw hb3) hBw hb4) hBw hb5)
 have hB := Bl.nextB (Bl.nextB (Bl.nextB (Bl.nextB (Bl.nextB (Bl.nextB (Below.refl B w) hBw hb1) hBw hb2) hBw hb3) hBw hb4) hBw hb5) hBw n6.below
 refine xc 8 (args := #[.pointer (some ⟨ba, 0, none⟩), .slice pb (bmN l.length) cb, .func (.func 28) #[] #[.pointer (some ⟨b6, 0, none⟩)]]) (plot_layDN B ba b g nn cc pa ca f N k0 bs b6 _ pb cb gs (chunksI (smallL l) (bmN l.length)) (bmN l.length) (chunksI_len _ _) _ hC hA'2 hL'1 (chunks_small hsp.2 _) hf1 (by omega) n6.blk (Nat.le_trans hBw g6) (Nat.le_trans hBw hB.size)) ?_
 rintro _ W7 ⟨p8, c8, rfl, hb7, hO7, hX7, hA, kln, hup⟩
 have hs7 := (Bl.nextB (Bl.nextB (Bl.nextB (Bl.nextB (Bl.nextB (Bl.nextB (Below.refl B w) hBw hb1) hBw hb2) hBw hb3) hBw hb4) hBw hb5) hBw n6.below).size
 replace hov := hovk _ hX7
 refine xb 15 0 kln ?_
 have hup'1 := own_mono hup hs7
 have hB'1 := hB.trans hb7
 refine xc 0 (args := #[.pointer (some ⟨ba, 0, none⟩), .int .i64 4, .slice p8 (bmN l.length) c8]) (build_TreeN B ba b g nn cc pa ca f N (k0 + (bmN l.length)) (cntsB (chunksI (smallL l) (bmN l.length)) (f + k0) bs (bmN l.length)) 4 p8 c8 (slotsE (chunksI (smallL l) (bmN l.length)) (f + k0) (bmN l.length)) (bmN l.length) _ (slotsE_len _ _ _) hC hA (by decide) (by decide) (slots_ents _ _ _ (by omega)) (by omega) hf1 (by omega) (by omega) (fun W _ h2 => by unfold Sts; rw [slotsE_len]; exact own_sl (own_only hup'1 h2 (by decide))) (Nat.le_trans hBw hB'1.size)) ?_
 rintro _ W8 ⟨rfl, hb8, hO8, hX8, hA⟩
 rw [slotsE_len] at hA
 have hov'2 := own_only hov hO8 (by decide)
 have hB'2 := hB'1.trans hb8
 refine xc 21 (args := #[.pointer (some ⟨ba, 0, none⟩), .int .i64 5, .slice po ((overK l l.length).length) co]) (build_TreeN B ba b g nn cc pa ca f N (k0 + (bmN l.length) + nodN 4 (bmN l.length)) (treeB 4 (slotsE (chunksI (smallL l) (bmN l.length)) (f + k0) (bmN l.length)) (f + (k0 + (bmN l.length))) (cntsB (chunksI (smallL l) (bmN l.length)) (f + k0) bs (bmN l.length))).2 5 po co (overK l l.length) (overK l l.length).length _ rfl hC hA (by decide) (by decide) (over_ents _ _ (by omega)) (by omega) hf1 (by omega) (by omega) (fun W _ h2 => own_sl (own_only hov'2 h2 (by decide))) (Nat.le_trans hBw hB'2.size)) ?_
 rintro _ W9 ⟨rfl, hb9, hO9, hX9, hA⟩
 have hB'3 := hB'2.trans hb9
 have hO := ((((((((show Only [87, 5, 60, 69, 35] w _ from (Only.of_below hb1)).trans (Only.of_below hb2)).trans (Only.of_below hb3)).trans (Only.of_below hb4)).trans (Only.of_below hb5)).trans (Only.of_below n6.below)).trans (hO7.wide)).trans (hO8.wide)).trans (hO9.wide)
 have hX'1 := ((Fr.trans_new hX hX7 g6).trans (hX8.mono (by simp))).trans (hX9.mono (by simp))
 refine xe 27 (.tuple #[.int .i64 ((treeB 4 (slotsE (chunksI (smallL l) (bmN l.length)) (f + k0) (bmN l.length)) (f + (k0 + (bmN l.length))) (cntsB (chunksI (smallL l) (bmN l.length)) (f + k0) bs (bmN l.length))).1), .int .i64 ((treeB 5 (overK l l.length) (f + (k0 + (bmN l.length) + nodN 4 (bmN l.length))) (treeB 4 (slotsE (chunksI (smallL l) (bmN l.length)) (f + k0) (bmN l.length)) (f + (k0 + (bmN l.length))) (cntsB (chunksI (smallL l) (bmN l.length)) (f + k0) bs (bmN l.length))).2).1), .nilIface]) ?_
 have e1 : f + (k0 + (bmN l.length)) = f + k0 + (bmN l.length) := by omega
 have e2 : f + (k0 + (bmN l.length) + nodN 4 (bmN l.length)) = f + k0 + (bmN l.length) + nodN 4 (bmN l.length) := by omega
 rw [e2, e1] at hA ⊢
 have e3 : k0 + (bmN l.length) + nodN 4 (bmN l.length) + nodN 5 (overK l l.length).length = k0 + plotN l := by omega
 rw [e3] at hA
 exact ⟨rfl, hB'3, hO, hX'1, hA⟩
set_option maxRecDepth 100000 in
set_option maxHeartbeats 8000000 in
theorem plot_Data_none (B ba b g nn cc : Nat) (pa : Option Addr) (ca f N k0 : Nat) (bs : List UInt8) (a : Option Addr) (c : Nat) (l : List Int) (w : World) (hC : AlC B ba nn cc ca f N) (hA : Al B ba b g nn cc pa ca f N k0 bs w) (h : Sl w (.slice a l.length c) l.length (l.map (Value.int .i64))) (hl : l.length ≤ 3000) (hs : splitE l = 0) (hf1 : 1 ≤ f) (hkN : k0 ≤ N) (hk : N < k0 + plotN l) (hBw : B ≤ w.heap.size) :
    Calls Tryz.prog 9 #[.pointer (some ⟨ba, 0, none⟩), .slice a l.length c] w (Ret (.tuple #[.int .i64 0, .int .i64 0, .iface 38 (.int .i64 14)]) w) := by
 have hcf := hC.hf
 have hcn := hC.hn
 have hbd := plotN_bd hl
 have hsp := splitE_ok hs
 have hol := overK_len l l.length
 have hpn : plotN l = (bmN l.length) + nodN 4 (bmN l.length) + nodN 5 (overK l l.length).length := rfl
 have hn4 := nodN_le 4 (bmN l.length)
 have hn5 := nodN_le 5 (overK l l.length).length
 refine zin 70 Tryz.func9 ?_
 refine xr 11 (args := #[.pointer (some ⟨ba, 0, none⟩)]) (alloc_Image ba b _ _ _ hA.blkA) fun W1 hb1 => ?_
 refine xc 9 (args := #[.slice a l.length c]) (tally_Split_ok a c l _ (h.below hb1) (by omega) hs) ?_
 rintro _ W2 ⟨pb, cb, gs, po, co, rfl, hb2, hL, hov⟩
 have hA'1 := (hA.below hb1).below hb2
 refine xr 23 (args := #[.pointer (some ⟨ba, 0, none⟩)]) (alloc_Left ba b pa N ca k0 _ hA'1.blkA hkN) fun W3 hb3 => ?_
 refine xr 4 (args := #[.int .i64 4, .int .i64 (↑(bmN l.length) : Int)]) (tall_Nodes 4 (bmN l.length) _ (by decide) (by decide) (by omega)) fun W4 hb4 => ?_
 refine xwm 0 ((↑(bmN l.length) : Int) + (↑(nodN 4 (bmN l.length)) : Int)) (↑((bmN l.length) + (nodN 4 (bmN l.length))) : Int) ?_
 refine xr 2 (args := #[.int .i64 5, .int .i64 (↑((overK l l.length).length) : Int)]) (tall_Nodes 5 (overK l l.length).length _ (by decide) (by decide) (by omega)) fun W5 hb5 => ?_
 refine xwm 0 ((↑((bmN l.length) + (nodN 4 (bmN l.length))) : Int) + (↑(nodN 5 (overK l l.length).length) : Int)) (↑(((bmN l.length) + (nodN 4 (bmN l.length))) + (nodN 5 (overK l l.length).length)) : Int) ?_
 refine xk 3 (show (decide ((↑(N - k0) : Int) < (↑(((bmN l.length) + (nodN 4 (bmN l.length))) + (nodN 5 (overK l l.length).length)) : Int)) : Bool) = true from decide_eq_true (by omega)) ?_
 have hB := Bl.next (Bl.next (Bl.next (Bl.next hb1 hb2) hb3) hb4) hb5
 exact xe 10 (.tuple #[.int .i64 0, .int .i64 0, .iface 38 (.int .i64 14)]) ⟨rfl, hB⟩
end Go.Proofs.YtcjpomibhbakdaaGreatDoor
namespace Go.Proofs.YtcjpomibhbakdaaGreatDoor
open Go.RowKit Go.Extern.Stop Go.Stop Go.Extern
set_option linter.unusedVariables false
attribute [local irreducible] wpList wpAnyH Code.wp Oper.wp Go

set_option maxRecDepth 100000 in
set_option maxHeartbeats 1000000 in
theorem law22_made (N f : Nat) (w : World) (hN : N ≤ 14400) (h1 : 1 ≤ f) (h2 : f ≤ N) :
    Calls Tryz.prog 6 #[.int .i64 (↑N : Int), .int .i64 (↑f : Int)] w (RetS (fun w' r => ∃ ba b g c pa ca, r = .pointer (some ⟨ba, 0, none⟩) ∧ AlC w.heap.size ba (256 * N) c ca f (N - f) ∧ Al w.heap.size ba b g (256 * N) c pa ca f (N - f) 0 (List.replicate (256 * N) (0 : UInt8)) w') w) := by
 refine zin 17 Tryz.func6 ?_
 refine xwm 8 (256 * (↑N : Int)) (↑(256 * N) : Int) ?_
 refine xmk 0 fun _ _ _ _ zJ zQ zo zx zy zK => op_make (256 * N) (.int .u8 0) 1 1 ((List.replicate (256 * N) (0 : UInt8)).map bv) zo zx zy Tryz.underlying28 (by kernel_rfl) rfl (by omega) (by omega) (zerosB (256 * N)) fun b1 W1 n1 => ?_
 refine zK _ _ ?_
 have o1 := own_of_blk (size := 1) (n := (256 * N)) n1.blk (n1.ge (Below.refl w.heap.size _)) (by rw [List.length_map, List.length_replicate, Nat.mul_one]) (by unfold maxLen; omega)
 refine xc 0 (args := #[.slice (some ⟨b1, 0, none⟩) (256 * N) (256 * N)]) (image_OfN (some ⟨b1, 0, none⟩) (256 * N) (256 * N) (256 * N) (List.replicate (256 * N) (0 : UInt8)) _ List.length_replicate (by omega) (bys_of (own_sl o1) List.length_replicate) (by omega) (Nat.le_refl _)) ?_
 rintro _ W2 ⟨_, rfl, hb2, bi, pi, ci, rfl, gi, ki, hd⟩
 have hd'1 := own_mono hd n1.below.size
 rw [List.take_of_length_le (by rw [List.length_replicate]; omega)] at hd'1
 obtain ⟨g, rfl, hci⟩ := own_someN hd'1 (by omega)
 have hB := Bl.next n1.below hb2
 have hs9 := hB.size
 refine xc 1 (args := #[.pointer (some ⟨bi, 0, none⟩), .int .i64 (↑f : Int)]) (alloc_NewN bi (some ⟨g, 0, none⟩) (256 * N) ci f (N - f) (f : Int) rfl (by omega) _ ki (by omega) h1 (by omega)) ?_
 rintro _ W3 ⟨_, rfl, hb3, ba, pa, ca, rfl, ga, ka, ho⟩
 replace ga := Nat.le_trans hs9 ga
 have ki'1 := ki.below hb3
 have hd'2 := own_below hd'1 hb3
 have ho'1 := own_mono ho hB.size
 have hA : Al w.heap.size ba bi g (256 * N) ci pa ca f (N - f) 0 (List.replicate (256 * N) (0 : UInt8)) _ := ⟨ka, ki'1, hd'2, ho'1⟩
 have hca : N - f ≤ ca := by
   rcases Nat.eq_zero_or_pos (N - f) with q | q
   · omega
   · exact own_cap ho'1 q
 have hC : AlC w.heap.size ba (256 * N) ci ca f (N - f) := ⟨by omega, hci, hca, by omega, ga⟩
 have hB'1 := Bl.next hB hb3
 exact xe 14 (.pointer (some ⟨ba, 0, none⟩)) ⟨_, rfl, hB'1, _, _, _, _, _, _, rfl, hC, hA⟩
theorem madeN22 (N f : Nat) (Ni fi : Int) (hNi : Ni = (N : Int)) (hfi : fi = (f : Int)) (w : World) (hN : N ≤ 14400) (h1 : 1 ≤ f) (h2 : f ≤ N) :
    Calls Tryz.prog 6 #[.int .i64 Ni, .int .i64 fi] w (RetS (fun w' r => ∃ ba b g c pa ca, r = .pointer (some ⟨ba, 0, none⟩) ∧ AlC w.heap.size ba (256 * N) c ca f (N - f) ∧ Al w.heap.size ba b g (256 * N) c pa ca f (N - f) 0 (List.replicate (256 * N) (0 : UInt8)) w') w) := by
  subst hNi hfi; exact law22_made N f w hN h1 h2
theorem nodN_0 (t : Int) (h : 1 ≤ maxN t true) : nodN t 0 = 1 := by
  unfold nodN levL
  rw [show ovN 0 (maxN t true) = 1 from by unfold ovN; rw [Nat.div_eq_of_lt (by omega)]; rfl, levs_one (by decide)]; rfl
theorem plotB_root {l : List Int} {q : Nat} {bs : List UInt8} (hq : 1 ≤ q) : (plotB l q bs).2.1 = ((q + plotN l - 1 : Nat) : Int) := by
  unfold plotB
  simp only
  rw [treeB_root (by omega)]
  unfold plotN
  congr 1; omega
theorem plotB_index {l : List Int} {q : Nat} {bs : List UInt8} (hq : 1 ≤ q) : (plotB l q bs).1 = ((q + bmN l.length + nodN 4 (bmN l.length) - 1 : Nat) : Int) := by
  unfold plotB
  simp only
  rw [treeB_root (by omega), slotsE_len]
theorem bmN_0 : bmN 0 = 0 := rfl
theorem plotN_nil : plotN [] = 2 := by
  unfold plotN
  rw [show bmN ([] : List Int).length = 0 from rfl, nodN_0 4 (by decide), show (overK [] ([] : List Int).length).length = 0 from rfl, nodN_0 5 (by decide)]
set_option maxRecDepth 100000 in
set_option maxHeartbeats 4000000 in
theorem lives22 (w : World) :
    Calls Tryz.prog 5 #[] w (Ret (.bool true) w) := by
 refine zin 29 Tryz.func5 ?_
 have hs1 : w.heap.size ≤ (w).heap.size := (Below.refl w.heap.size _).size
 refine xc 7 (args := #[.int .i64 9, .int .i64 5]) (madeN22 9 5 (9) (5) (by simp) rfl _ (by decide) (by decide) (by decide)) ?_
 rintro _ W1 ⟨_, rfl, hb1, ba, b, g, c, pa, ca, rfl, hC, hA⟩
 have hs1 := Nat.le_refl w.heap.size
 replace hC := hC.mono hs1
 replace hA := hA.mono hs1
 refine xc 16 (args := #[.pointer (some ⟨ba, 0, none⟩), .slice none 0 0]) (plot_Data w.heap.size ba b g _ c pa ca 5 _ 0 (List.replicate (256 * 9) (0 : UInt8)) none 0 [] _ hC hA (.inl ⟨_, _, rfl, rfl, rfl⟩) (by decide) (splitE_good (by decide) fun k hk => absurd hk (by simp)) (by decide) (Nat.zero_le _) (by rw [plotN_nil]; decide) hb1.size) ?_
 rintro _ W2 ⟨rfl, hb2, hO2, hX2, hA⟩
 refine xgk 14 [15, 16] (show (((plotB [] (5 + 0) (List.replicate (256 * 9) (0 : UInt8))).1 == (5 : Int)) : Bool) = true from by rw [plotB_index (by decide), show bmN ([] : List Int).length = 0 from rfl, nodN_0 4 (by decide)]; rfl) ?_
 refine xgk 4 [18, 19, 20] (show (((plotB [] (5 + 0) (List.replicate (256 * 9) (0 : UInt8))).2.1 == (6 : Int)) : Bool) = true from by rw [plotB_root (by decide), plotN_nil]; rfl) ?_
 refine xr 5 (args := #[.pointer (some ⟨ba, 0, none⟩)]) (alloc_Used ba b _ (0 + plotN []) _ hA.blkA) fun W5 hb5 => ?_
 have hB'1 := Bl.next (hb1.trans hb2) hb5
 exact xe 6 (.bool ((↑(0 + plotN []) : Int) == (2 : Int))) ⟨by rw [plotN_nil]; rfl, hB'1⟩
end Go.Proofs.YtcjpomibhbakdaaGreatDoor
namespace Go.Proofs.YtcjpomibhbakdaaGreatDoor
open Go.RowKit Go.Extern.Stop Go.Stop Go.Extern
set_option linter.unusedVariables false
attribute [local irreducible] wpList wpAnyH Code.wp Oper.wp Go

set_option maxRecDepth 100000 in
set_option maxHeartbeats 1000000 in
theorem plot_Data_bad (B ba b g nn cc : Nat) (pa : Option Addr) (ca f N k0 : Nat) (bs : List UInt8) (a : Option Addr) (c : Nat) (l : List Int) (w : World) (hC : AlC B ba nn cc ca f N) (hA : Al B ba b g nn cc pa ca f N k0 bs w) (h : Sl w (.slice a l.length c) l.length (l.map (Value.int .i64))) (hl : l.length ≤ 3000) (hs : splitE l ≠ 0) :
    Calls Tryz.prog 9 #[.pointer (some ⟨ba, 0, none⟩), .slice a l.length c] w (Ret (.tuple #[.int .i64 0, .int .i64 0, .iface 38 (.int .i64 2)]) w) := by
 refine zin 70 Tryz.func9 ?_
 refine xr 11 (args := #[.pointer (some ⟨ba, 0, none⟩)]) (alloc_Image ba b _ _ _ hA.blkA) fun W1 hb1 => ?_
 refine xr 9 (args := #[.slice a l.length c]) ((tally_Split a c l _ (h.below hb1) (by omega)).mono (fun _ _ q => (q.resolve_right (fun z => hs z.1)).2)) fun W2 hb2 => ?_
 have hB'1 := Bl.next hb1 hb2
 exact xe 28 (.tuple #[.int .i64 0, .int .i64 0, .iface 38 (.int .i64 2)]) ⟨rfl, hB'1⟩
set_option maxRecDepth 100000 in
set_option maxHeartbeats 1000000 in
theorem plot_Data_nil (x : Value) (w : World) :
    Calls Tryz.prog 9 #[.pointer none, x] w (Ret (.tuple #[.int .i64 0, .int .i64 0, .iface 38 (.int .i64 18)]) w) := by
 refine zin 70 Tryz.func9 ?_
 refine xr 11 (args := #[.pointer none]) (alloc_Image_nil _) fun W1 hb1 => ?_
 exact xe 14 (.tuple #[.int .i64 0, .int .i64 0, .iface 38 (.int .i64 18)]) ⟨rfl, hb1⟩
def dataE (l : List Int) (left : Nat) : Int := if splitE l ≠ 0 then 2 else if left < plotN l then 14 else 0
theorem plot_DataG (B ba b g nn cc : Nat) (pa : Option Addr) (ca f N k0 : Nat) (bs : List UInt8) (a : Option Addr) (c : Nat) (l : List Int) (w : World) (hC : AlC B ba nn cc ca f N) (hA : Al B ba b g nn cc pa ca f N k0 bs w) (h : Sl w (.slice a l.length c) l.length (l.map (Value.int .i64))) (hl : l.length ≤ 3000) (hf1 : 1 ≤ f) (hkN : k0 ≤ N) (hBw : B ≤ w.heap.size) : Calls Tryz.prog 9 #[.pointer (some ⟨ba, 0, none⟩), .slice a l.length c] w (fun e w' =>
    (dataE l (N - k0) ≠ 0 ∧ e = .returned (.tuple #[.int .i64 0, .int .i64 0, .iface 38 (.int .i64 (dataE l (N - k0)))]) ∧ Below w.heap.size w w') ∨ (dataE l (N - k0) = 0 ∧ DataP B ba b g nn cc pa ca f N k0 bs l w e w')) := by
  by_cases hs : splitE l = 0
  · by_cases hk : N - k0 < plotN l
    · have e : dataE l (N - k0) = 14 := by unfold dataE; rw [if_neg (by rw [hs]; decide), if_pos hk]
      refine (plot_Data_none B ba b g nn cc pa ca f N k0 bs a c l w hC hA h hl hs hf1 hkN (by omega) hBw).mono ?_
      rintro _ W ⟨rfl, hb⟩
      exact .inl ⟨by rw [e]; decide, by rw [e], hb⟩
    · have e : dataE l (N - k0) = 0 := by unfold dataE; rw [if_neg (by rw [hs]; decide), if_neg hk]
      exact (plot_Data B ba b g nn cc pa ca f N k0 bs a c l w hC hA h hl hs hf1 hkN (by omega) hBw).mono fun _ _ q => .inr ⟨e, q⟩
  · have e : dataE l (N - k0) = 2 := by unfold dataE; rw [if_pos hs]
    refine (plot_Data_bad B ba b g nn cc pa ca f N k0 bs a c l w hC hA h hl hs).mono ?_
    rintro _ W ⟨rfl, hb⟩
    exact .inl ⟨by rw [e]; decide, by rw [e], hb⟩
theorem ref22_DataE (B bc bm : Nat) (pg : Option Addr) (N cg : Nat) (fa : Option Addr) (mf fc f k0 : Nat) (p : Option Addr) (K cI : Nat) (bs : List UInt8) (a : Option Addr) (c : Nat) (l : List Int) (w : World) (hR : RAl B bc bm pg N cg fa mf fc k0 (rngJ f N) w) (h : Sl w (.slice a l.length c) l.length (l.map (Value.int .i64))) (hl : l.length ≤ 3000) (he : dataE l (N - k0) ≠ 0) :
    Calls Tryz.prog 11 #[.pointer (some ⟨bc, 0, none⟩), .slice a l.length c] w (Ret (.tuple #[.int .i64 0, .int .i64 0, .agg #[.slice none 0 0, .int .i64 (dataE l (N - k0))]]) w) := by
  by_cases hs : splitE l = 0
  · by_cases hk : N - k0 < plotN l
    · have e : dataE l (N - k0) = 14 := by unfold dataE; rw [if_neg (by rw [hs]; decide), if_pos hk]
      rw [e]
      exact ref22_Data_none B bc bm pg N cg fa mf fc f k0 p K cI bs a c l w hR h hl hs (by have := hR.hm; omega)
    · exact absurd (by unfold dataE; rw [if_neg (by rw [hs]; decide), if_neg hk]) he
  · have e : dataE l (N - k0) = 2 := by unfold dataE; rw [if_pos hs]
    rw [e]
    exact ref22_Data_bad B bc bm pg N cg fa mf fc f k0 p K cI bs a c l w hR h hl hs
theorem dataE_ok {l : List Int} {left : Nat} (h : dataE l left = 0) : splitE l = 0 ∧ plotN l ≤ left := by
  unfold dataE at h
  by_cases hs : splitE l = 0
  · rw [if_neg (by rw [hs]; decide)] at h
    by_cases hk : left < plotN l
    · rw [if_pos hk] at h; cases h
    · exact ⟨hs, by omega⟩
  · rw [if_pos hs] at h; cases h
theorem and63 (x : Int) : ∃ n : Nat, IntKind.i64.wrap (↑(BitVec.ofInt 64 x &&& BitVec.ofInt 64 (63 : Int)).toNat : Int) = (n : Int) ∧ n ≤ 63 := by
  refine ⟨(BitVec.ofInt 64 x &&& BitVec.ofInt 64 (63 : Int)).toNat, ?_, ?_⟩
  · have h : (BitVec.ofInt 64 x &&& BitVec.ofInt 64 (63 : Int)).toNat ≤ 63 := by rw [BitVec.toNat_and]; exact Nat.and_le_right
    exact i64_nat (by omega)
  · rw [BitVec.toNat_and]; exact Nat.and_le_right
set_option maxRecDepth 100000 in
set_option maxHeartbeats 1000000 in
theorem law22_made_bad (N : Nat) (f : Int) (w : World) (hN : N ≤ 14400) (hf : ¬ (1 ≤ f ∧ f ≤ (N : Int))) :
    Calls Tryz.prog 6 #[.int .i64 (↑N : Int), .int .i64 f] w (Ret (.pointer none) w) := by
 refine zin 17 Tryz.func6 ?_
 refine xwm 8 (256 * (↑N : Int)) (↑(256 * N) : Int) ?_
 refine xmk 0 fun _ _ _ _ zJ zQ zo zx zy zK => op_make (256 * N) (.int .u8 0) 1 1 ((List.replicate (256 * N) (0 : UInt8)).map bv) zo zx zy Tryz.underlying28 (by kernel_rfl) rfl (by omega) (by omega) (zerosB (256 * N)) fun b1 W1 n1 => ?_
 refine zK _ _ ?_
 have o1 := own_of_blk (size := 1) (n := (256 * N)) n1.blk (n1.ge (Below.refl w.heap.size _)) (by rw [List.length_map, List.length_replicate, Nat.mul_one]) (by unfold maxLen; omega)
 refine xc 0 (args := #[.slice (some ⟨b1, 0, none⟩) (256 * N) (256 * N)]) (image_OfN (some ⟨b1, 0, none⟩) (256 * N) (256 * N) (256 * N) (List.replicate (256 * N) (0 : UInt8)) _ List.length_replicate (by omega) (bys_of (own_sl o1) List.length_replicate) (by omega) (Nat.le_refl _)) ?_
 rintro _ W2 ⟨_, rfl, hb2, bi, pi, ci, rfl, gi, ki, hd⟩
 refine xr 1 (args := #[.pointer (some ⟨bi, 0, none⟩), .int .i64 f]) (alloc_New_bad bi pi (256 * N) ci f _ ki (by omega) (by omega)) fun W3 hb3 => ?_
 have hB := Bl.next (Bl.next n1.below hb2) hb3
 exact xe 14 (.pointer none) ⟨rfl, hB⟩
/-- law22.made, whatever the first block -/
def Made22P (N : Nat) (f : Int) (w : World) (e : Ending) (w' : World) : Prop :=
  (¬ (1 ≤ f ∧ f ≤ (N : Int)) ∧ e = .returned (.pointer none) ∧ Below w.heap.size w w') ∨
  ((1 ≤ f ∧ f ≤ (N : Int)) ∧ ∃ ba b g c pa ca, e = .returned (.pointer (some ⟨ba, 0, none⟩)) ∧ Below w.heap.size w w' ∧ AlC w.heap.size ba (256 * N) c ca f.toNat (N - f.toNat) ∧ Al w.heap.size ba b g (256 * N) c pa ca f.toNat (N - f.toNat) 0 (List.replicate (256 * N) (0 : UInt8)) w')
theorem law22_madeG (N : Nat) (f : Int) (w : World) (hN : N ≤ 14400) : Calls Tryz.prog 6 #[.int .i64 (N : Int), .int .i64 f] w (Made22P N f w) := by
  by_cases hf : 1 ≤ f ∧ f ≤ (N : Int)
  · refine (madeN22 N f.toNat (N : Int) f rfl (by omega) w hN (by omega) (by omega)).mono ?_
    rintro e W ⟨_, rfl, hb, ba, b, g, c, pa, ca, rfl, hC, hA⟩
    exact .inr ⟨hf, ba, b, g, c, pa, ca, rfl, hb, hC, hA⟩
  · refine (law22_made_bad N f w hN hf).mono ?_
    rintro e W ⟨rfl, hb⟩
    exact .inl ⟨hf, rfl, hb⟩
set_option maxRecDepth 100000 in
set_option maxHeartbeats 8000000 in
theorem plotData_law (n0 f : Int) (a : Option Addr) (c : Nat) (l : List Int) (w : World) (hg : ErrT w) (h : Sl w (.slice a l.length c) l.length (l.map (Value.int .i64))) :
    Calls Tryz.prog 3 #[.int .i64 n0, .int .i64 f, .slice a l.length c] w (Ret (.bool true) w) := by
 obtain ⟨N, hN, hN7⟩ := and63 n0
 refine zin 109 Tryz.func3 ?_
 refine xid 13 ((↑l.length : Int) > (3000 : Int)) (fun hc1 => ?_) (fun hc1 => ?_)
 · refine xr 2 (args := #[]) (lives22 _) fun W2 hb2 => ?_
   exact xe 5 (.bool true) ⟨rfl, hb2⟩
 refine xq 5 (congrArg (Value.int .i64) (show (IntKind.i64.wrap (↑(BitVec.ofInt 64 n0 &&& BitVec.ofInt 64 (63 : Int)).toNat : Int) : Int) = (↑N : Int) from hN)) ?_
 have hw9 : w.heap.size ≤ (w).heap.size := (Below.refl w.heap.size _).size
 refine xc 7 (args := #[.int .i64 (↑N : Int), .int .i64 f]) (law22_madeG N f _ (by omega)) ?_
 rintro e W3 hq3
 rcases hq3 with ⟨hf, rfl, hb3⟩ | ⟨hf, ba, b, g, c5, pa, ca, rfl, hb3, hC, hA⟩
 · refine xwm 6 (256 * (↑N : Int)) (↑(256 * N) : Int) ?_
   refine xmk 0 fun _ _ _ _ zJ zQ zo zx zy zK => op_make (256 * N) (.int .u8 0) 1 1 ((List.replicate (256 * N) (0 : UInt8)).map bv) zo zx zy Tryz.underlying28 (by kernel_rfl) rfl (by omega) (by omega) (zerosB (256 * N)) fun b4 W4 n4 => ?_
   refine zK _ _ ?_
   have hB := Bl.next hb3 n4.below
   have hw7 : w.heap.size ≤ (W4).heap.size := hB.size
   have o4 := own_of_blk (size := 1) (n := (256 * N)) n4.blk (n4.ge hb3) (by rw [List.length_map, List.length_replicate, Nat.mul_one]) (by unfold maxLen; omega)
   refine xc 0 (args := #[.slice (some ⟨b4, 0, none⟩) (256 * N) (256 * N)]) (ref_OfN (some ⟨b4, 0, none⟩) (256 * N) (256 * N) N (List.replicate (256 * N) (0 : UInt8)) _ List.length_replicate (by omega) (bys_of (own_sl o4) List.length_replicate) (by omega)) ?_
   rintro _ W5 ⟨_, rfl, hb5, bj, pj, cj, rfl, _, hJ⟩
   replace hJ := hJ.mono hw7
   rw [List.take_of_length_le (by rw [List.length_replicate]; omega)] at hJ
   refine xr 7 (args := #[.pointer (some ⟨bj, 0, none⟩), .int .i64 f]) (ref_New_badN bj pj N cj (List.replicate (256 * N) (0 : UInt8)) w.heap.size f _ hJ hf) fun W6 hb6 => ?_
   refine xa 3 [.slice none 0 0, .int .i64 0] 31 fun b7 W7 n7 => ?_
   have hB'1 := Bl.next (Bl.next hB hb5) hb6
   have g7 := n7.ge hB'1
   refine xsv 1 n7.blk [.slice none 0 0, .int .i64 1] fun W8 u8 k8 => ?_
   refine xr 26 (args := #[.pointer none, .slice a l.length c]) (plot_Data_nil _ _) fun W9 hb9 => ?_
   have hB'2 := Bl.next (u8.below (Bl.next hB'1 n7.below) g7) hb9
   refine xr 12 (args := #[.iface 38 (.int .i64 18)]) (fault_Code (some 18) [] _ _ (hg.below hB'2) rfl) fun W10 hb10 => ?_
   refine xr 2 (args := #[]) (lives22 _) fun W11 hb11 => ?_
   have hB'3 := Bl.next (Bl.next hB'2 hb10) hb11
   exact xe 6 (.bool true) ⟨rfl, hB'3⟩
 replace hC := hC.mono hw9
 replace hA := hA.mono hw9
 refine xwm 6 (256 * (↑N : Int)) (↑(256 * N) : Int) ?_
 refine xmk 0 fun _ _ _ _ zJ zQ zo zx zy zK => op_make (256 * N) (.int .u8 0) 1 1 ((List.replicate (256 * N) (0 : UInt8)).map bv) zo zx zy Tryz.underlying28 (by kernel_rfl) rfl (by omega) (by omega) (zerosB (256 * N)) fun b12 W12 n12 => ?_
 refine zK _ _ ?_
 have hB := Bl.next hb3 n12.below
 have hw7 : w.heap.size ≤ (W12).heap.size := hB.size
 have o12 := own_of_blk (size := 1) (n := (256 * N)) n12.blk (n12.ge hb3) (by rw [List.length_map, List.length_replicate, Nat.mul_one]) (by unfold maxLen; omega)
 refine xc 0 (args := #[.slice (some ⟨b12, 0, none⟩) (256 * N) (256 * N)]) (ref_OfN (some ⟨b12, 0, none⟩) (256 * N) (256 * N) N (List.replicate (256 * N) (0 : UInt8)) _ List.length_replicate (by omega) (bys_of (own_sl o12) List.length_replicate) (by omega)) ?_
 rintro _ W13 ⟨_, rfl, hb13, bj, pj, cj, rfl, _, hJ⟩
 replace hJ := hJ.mono hw7
 rw [List.take_of_length_le (by rw [List.length_replicate]; omega)] at hJ
 have hB'4 := Bl.next hB hb13
 have hw6 : w.heap.size ≤ (W13).heap.size := hB'4.size
 refine xc 7 (args := #[.pointer (some ⟨bj, 0, none⟩), .int .i64 f]) (ref_NewN bj pj N cj (List.replicate (256 * N) (0 : UInt8)) w.heap.size f _ hJ hf) ?_
 rintro _ W14 ⟨bc, pg, cg, rfl, hb14, hR⟩
 replace hR := hR.mono hw6
 refine xa 3 [.slice none 0 0, .int .i64 0] 31 fun b15 W15 n15 => ?_
 have hB'5 := Bl.next hB'4 hb14
 have g15 := n15.ge hB'5
 refine xsv 1 n15.blk [.slice none 0 0, .int .i64 0] fun W16 u16 k16 => ?_
 have hA'1 := ((((hA.below n12.below).below hb13).below hb14).below n15.below).only (Only.of_upd (T := [31]) u16 n15.blk (by decide)) (by decide)
 have hB'6 := u16.below (Bl.next hB'5 n15.below) g15
 refine xc 29 (args := #[.pointer (some ⟨ba, 0, none⟩), .slice a l.length c]) (plot_DataG w.heap.size ba b g (256 * N) c5 pa ca f.toNat (N - f.toNat) 0 (List.replicate (256 * N) (0 : UInt8)) a c l _ hC hA'1 (h.below hB'6) (by omega) (by omega) (Nat.zero_le _) hB'6.size) ?_
 rintro e W17 hq17
 rcases hq17 with ⟨he, rfl, hb17⟩ | ⟨he, rfl, hb17, hO17, hX17, hA⟩
 · have hR'1 := ((hR.below n15.below).only (Only.of_upd (T := [31]) u16 n15.blk (by decide)) (by decide)).below hb17
   have hB'7 := Bl.next hB'6 hb17
   refine xr 13 (args := #[.pointer (some ⟨bc, 0, none⟩), .slice a l.length c]) (ref22_DataE w.heap.size bc bj pg (N - f.toNat) cg pg (N - f.toNat) cg f.toNat 0 pj N cj (List.replicate (256 * N) (0 : UInt8)) a c l _ hR'1 (h.below hB'7) (by omega) he) fun W18 hb18 => ?_
   refine xa 4 [.slice none 0 0, .int .i64 0] 31 fun b19 W19 n19 => ?_
   have k16'1 := (k16.below hb17).below hb18
   have d19_b15 := n19.ne k16'1
   have hB'8 := Bl.next hB'7 hb18
   have g19 := n19.ge hB'8
   refine xsv 2 n19.blk [.slice none 0 0, .int .i64 (dataE l (N - f.toNat - 0))] fun W20 u20 k20 => ?_
   refine xd 3 .z ?_
   have k20'1 := k20.below (below_drew W20)
   refine xlv (.e [0, 1, 2, 3, 4, 5, 6, 7, 8, 9] 11) k20'1.rp ?_
   have hB'9 := Bl.next (u20.below (Bl.next hB'8 n19.below) g19) (below_drew W20)
   refine yc (.o [] 10) (args := #[.iface 38 (.int .i64 (dataE l (N - f.toNat - 0)))]) .z (told_z (dataE l (N - f.toNat - 0)) _ _ (hg.below hB'9) (by rw [erT, if_neg he]; exact rfl)) ?_
   rintro _ W21 ⟨vt21, rfl, hb21, hq⟩
   refine ⟨hb21, ?_⟩
   refine xr (.o [] 12) (args := #[vt21, .agg #[.slice none 0 0, .int .i64 (dataE l (N - f.toNat - 0))]]) (ref05_Same [] (dataE l (N - f.toNat - 0)) vt21 _ _ hq ⟨_, rfl, ints_nil0 _⟩) fun W22 hb22 => ?_
   have hR'2 := (((((hR'1.below hb18).below n19.below).only (Only.of_upd (T := [31]) u20 n19.blk (by decide)) (by decide)).below (below_drew W20)).below hb21).below hb22
   refine xl (.e [13, 14, 15, 17, 18, 19] 20) (hR'2.blk.cell (i := 1) rfl) ?_
   have hA'2 := ((((((hA'1.below hb17).below hb18).below n19.below).only (Only.of_upd (T := [31]) u20 n19.blk (by decide)) (by decide)).below (below_drew W20)).below hb21).below hb22
   refine xr (.o [21] 16) (args := #[.pointer (some ⟨ba, 0, none⟩)]) (alloc_Left ba b pa (N - f.toNat) ca 0 _ hA'2.blkA (by omega)) fun W23 hb23 => ?_
   refine xgk (.b [22, 23, 24]) [94, 95, 96] (show (((↑(N - f.toNat - 0) : Int) == (↑(N - f.toNat) : Int)) : Bool) = true from by simp) ?_
   have hA'3 := hA'2.below hb23
   refine xr (.o [25, 29] 26) (args := #[.pointer (some ⟨ba, 0, none⟩)]) (alloc_Image ba b _ _ _ hA'3.blkA) fun W25 hb25 => ?_
   have hA'4 := hA'3.below hb25
   have hlb : (List.replicate (256 * N) (0 : UInt8)).length = 256 * N := by have h9 := hA'4.data.1; rw [List.length_map] at h9; omega
   refine yc (.o [] 27) (args := #[.pointer (some ⟨b, 0, none⟩)]) .z (image_Bytes b _ (256 * N) c5 (List.replicate (256 * N) (0 : UInt8)) _ hA'4.blkI (bys_of (own_sl hA'4.data) hlb) hlb (by omega)) ?_
   rintro _ W26 ⟨_, rfl, hb26, z1_⟩
   have hs26 := (Bl.next (Bl.next (Bl.next (Bl.next hB'9 hb21) hb22) hb23) hb25).size
   refine ⟨hb26, ?_⟩
   have z1_'1 := own_mono z1_ hs26
   unfold OwnB at z1_'1
   rw [hlb] at z1_'1
   obtain ⟨q1_, d1_, rfl⟩ := (own_sl z1_'1).slice
   refine xcv (.e [] 28) (fun _ _ _ zo zx V hV => run_bstr zo zx (bys_of (own_sl (own_below z1_'1 hV)) hlb) hlb Tryz.underlying28 Tryz.underlying5 Tryz.underlying9) ?_
   have hJ'1 := ((((((((((((hJ.below hb14).below n15.below).only (Only.of_upd (T := [31]) u16 n15.blk (by decide)) (by decide)).below hb17).below hb18).below n19.below).only (Only.of_upd (T := [31]) u20 n19.blk (by decide)) (by decide)).below (below_drew W20)).below hb21).below hb22).below hb23).below hb25).below hb26
   refine yc (.o [] 30) (args := #[.pointer (some ⟨bj, 0, none⟩)]) .z (ref_ImgBytes w.heap.size bj pj N cj (List.replicate (256 * N) (0 : UInt8)) _ hJ'1) ?_
   rintro _ W27 ⟨_, rfl, hb27, q2_, d2_, rfl, z2_⟩
   have hs27 := (Bl.next (Bl.next (Bl.next (Bl.next (Bl.next hB'9 hb21) hb22) hb23) hb25) hb26).size
   refine ⟨hb27, ?_⟩
   have z2_'1 := own_mono z2_ hs27
   have hJ'2 := hJ'1.below hb27
   refine xcv (.e [] 31) (fun _ _ _ zo zx V hV => run_bstr zo zx (bys_of (own_sl (own_below z2_'1 hV)) hJ'2.hl) hJ'2.hl Tryz.underlying28 Tryz.underlying5 Tryz.underlying9) ?_
   refine xgk (.b [32, 33, 34]) [104, 105, 106] (show (((⟨(List.replicate (256 * N) (0 : UInt8)).toArray⟩ : ByteArray).toList == (⟨(List.replicate (256 * N) (0 : UInt8)).toArray⟩ : ByteArray).toList) : Bool) = true from by simp) ?_
   refine xr (.o [] 35) (args := #[]) (lives22 _) fun W29 hb29 => ?_
   have hB'10 := Bl.next (Bl.next (Bl.next (Bl.next (Bl.next (Bl.next (Bl.next hB'9 hb21) hb22) hb23) hb25) hb26) hb27) hb29
   exact xe (.r [36, 37] 3) (.bool true) ⟨rfl, hB'10⟩
 have hdo := dataE_ok he
 have hR'3 := ((hR.below n15.below).only (Only.of_upd (T := [31]) u16 n15.blk (by decide)) (by decide)).only hO17 (by decide)
 have hB'11 := hB'6.trans hb17
 have hJ'3 := (((hJ.below hb14).below n15.below).only (Only.of_upd (T := [31]) u16 n15.blk (by decide)) (by decide)).only hO17 (by decide)
 refine xc 13 (args := #[.pointer (some ⟨bc, 0, none⟩), .slice a l.length c]) (ref22_Data w.heap.size bc bj pg (N - f.toNat) cg pg (N - f.toNat) cg f.toNat 0 pj N cj (List.replicate (256 * N) (0 : UInt8)) a c l _ hR'3 (h.below hB'11) (by omega) hdo.1 (by have := hdo.2; omega) (by omega) (by omega) (by omega) hJ'3 hB'11.size) ?_
 rintro _ W30 ⟨fa, mf, fc, rfl, hb30, hO30, hR, hJ⟩
 have hRm := hR.hm
 refine xa 4 [.slice none 0 0, .int .i64 0] 31 fun b31 W31 n31 => ?_
 have k16'2 := (k16.only hO17 (by decide)).only hO30 (by decide)
 have d31_b15 := n31.ne k16'2
 have hB'12 := hB'11.trans hb30
 have g31 := n31.ge hB'12
 refine xsv 2 n31.blk [.slice none 0 0, .int .i64 0] fun W32 u32 k32 => ?_
 refine xd 3 .z ?_
 refine xgk (.b [0, 1, 2, 3]) [74, 75] (show (((plotB l (f.toNat + 0) (List.replicate (256 * N) (0 : UInt8))).1 == (plotB l (f.toNat + 0) (List.replicate (256 * N) (0 : UInt8))).1) : Bool) = true from by simp) ?_
 refine xgk (.b [4, 5, 6, 7, 8]) [78, 79, 80] (show (((plotB l (f.toNat + 0) (List.replicate (256 * N) (0 : UInt8))).2.1 == (plotB l (f.toNat + 0) (List.replicate (256 * N) (0 : UInt8))).2.1) : Bool) = true from by simp) ?_
 have k32'1 := k32.below (below_drew W32)
 refine xlv (.e [9] 11) k32'1.rp ?_
 have hB'13 := Bl.next (u32.below (Bl.next hB'12 n31.below) g31) (below_drew W32)
 refine yc (.o [] 10) (args := #[.nilIface]) .z (told_z 0 .nilIface _ (hg.below hB'13) rfl) ?_
 rintro _ W35 ⟨vt35, rfl, hb35, hq⟩
 refine ⟨hb35, ?_⟩
 refine xr (.o [] 12) (args := #[vt35, .agg #[.slice none 0 0, .int .i64 0]]) (ref05_Same [] 0 vt35 _ _ hq ⟨_, rfl, ints_nil0 _⟩) fun W36 hb36 => ?_
 have hR'4 := ((((hR.below n31.below).only (Only.of_upd (T := [31]) u32 n31.blk (by decide)) (by decide)).below (below_drew W32)).below hb35).below hb36
 refine xl (.e [13, 14, 15, 17, 18, 19] 20) (hR'4.blk.cell (i := 1) rfl) ?_
 have hA'5 := (((((hA.only hO30 (by decide)).below n31.below).only (Only.of_upd (T := [31]) u32 n31.blk (by decide)) (by decide)).below (below_drew W32)).below hb35).below hb36
 refine xr (.o [21] 16) (args := #[.pointer (some ⟨ba, 0, none⟩)]) (alloc_Left ba b pa (N - f.toNat) ca (0 + plotN l) _ hA'5.blkA (by have := hdo.2; omega)) fun W37 hb37 => ?_
 refine xgk (.b [22, 23, 24]) [94, 95, 96] (show (((↑(N - f.toNat - (0 + plotN l)) : Int) == (↑mf : Int)) : Bool) = true from by rw [show N - f.toNat - (0 + plotN l) = mf by omega]; simp) ?_
 have hA'6 := hA'5.below hb37
 refine xr (.o [25, 29] 26) (args := #[.pointer (some ⟨ba, 0, none⟩)]) (alloc_Image ba b _ _ _ hA'6.blkA) fun W39 hb39 => ?_
 have hA'7 := hA'6.below hb39
 have hlb : (plotB l (f.toNat + 0) (List.replicate (256 * N) (0 : UInt8))).2.2.length = 256 * N := by have h9 := hA'7.data.1; rw [List.length_map] at h9; omega
 refine yc (.o [] 27) (args := #[.pointer (some ⟨b, 0, none⟩)]) .z (image_Bytes b _ (256 * N) c5 (plotB l (f.toNat + 0) (List.replicate (256 * N) (0 : UInt8))).2.2 _ hA'7.blkI (bys_of (own_sl hA'7.data) hlb) hlb (by omega)) ?_
 rintro _ W40 ⟨_, rfl, hb40, z1_⟩
 have hs40 := (Bl.next (Bl.next (Bl.next (Bl.next hB'13 hb35) hb36) hb37) hb39).size
 refine ⟨hb40, ?_⟩
 have z1_'2 := own_mono z1_ hs40
 unfold OwnB at z1_'2
 rw [hlb] at z1_'2
 obtain ⟨q1_, d1_, rfl⟩ := (own_sl z1_'2).slice
 refine xcv (.e [] 28) (fun _ _ _ zo zx V hV => run_bstr zo zx (bys_of (own_sl (own_below z1_'2 hV)) hlb) hlb Tryz.underlying28 Tryz.underlying5 Tryz.underlying9) ?_
 have hJ'4 := (((((((hJ.below n31.below).only (Only.of_upd (T := [31]) u32 n31.blk (by decide)) (by decide)).below (below_drew W32)).below hb35).below hb36).below hb37).below hb39).below hb40
 refine yc (.o [] 30) (args := #[.pointer (some ⟨bj, 0, none⟩)]) .z (ref_ImgBytes w.heap.size bj pj N cj (plotB l (f.toNat + 0) (List.replicate (256 * N) (0 : UInt8))).2.2 _ hJ'4) ?_
 rintro _ W41 ⟨_, rfl, hb41, q2_, d2_, rfl, z2_⟩
 have hs41 := (Bl.next (Bl.next (Bl.next (Bl.next (Bl.next hB'13 hb35) hb36) hb37) hb39) hb40).size
 refine ⟨hb41, ?_⟩
 have z2_'2 := own_mono z2_ hs41
 have hJ'5 := hJ'4.below hb41
 refine xcv (.e [] 31) (fun _ _ _ zo zx V hV => run_bstr zo zx (bys_of (own_sl (own_below z2_'2 hV)) hJ'5.hl) hJ'5.hl Tryz.underlying28 Tryz.underlying5 Tryz.underlying9) ?_
 refine xgk (.b [32, 33, 34]) [104, 105, 106] (show (((⟨((plotB l (f.toNat + 0) (List.replicate (256 * N) (0 : UInt8))).2.2).toArray⟩ : ByteArray).toList == (⟨((plotB l (f.toNat + 0) (List.replicate (256 * N) (0 : UInt8))).2.2).toArray⟩ : ByteArray).toList) : Bool) = true from by simp) ?_
 refine xr (.o [] 35) (args := #[]) (lives22 _) fun W43 hb43 => ?_
 have hB'14 := Bl.next (Bl.next (Bl.next (Bl.next (Bl.next (Bl.next (Bl.next hB'13 hb35) hb36) hb37) hb39) hb40) hb41) hb43
 exact xe (.r [36, 37] 3) (.bool true) ⟨rfl, hB'14⟩
end Go.Proofs.YtcjpomibhbakdaaGreatDoor
namespace Go.Proofs.YtcjpomibhbakdaaGreatDoor
open Go.ChangeShapes Go.WideShapes Go.ChangeAt Go.RowKit Go.Joins
set_option linter.unusedVariables false
theorem bytes_open {H : Type} {enc : TypeId × Value → H} {P : Program} {W : World} {r : Reach} {b0 : Nat} {t e : TypeId} {v : Value} {d : DataW H} {p : List MemPlace} (ht : P.underlying t = some (.slice e)) (he : P.underlying e = some (.int .u8)) (hC : P.cellsOf e = 1)
    (hv : Value.okWide P W r b0 t v) (h : DataW.Trod enc P W 0 (fun _ => true) true t v d p) : ∃ l, Bys W v l := by
  obtain ⟨a, len, cap, rfl⟩ := okWide_slice ht hv
  obtain ⟨fuel, hf⟩ := h
  rcases open_ints ht he hC hf with ⟨hcs, _⟩ | ⟨x, l, c, zs, hcs, _, hl, hm, hz, _, hcell, hwz⟩
  · simp [Value.cells] at hcs
    obtain ⟨rfl, rfl, rfl⟩ := hcs
    exact ⟨[], .inl ⟨_, _, rfl, rfl, rfl⟩⟩
  · simp [Value.cells] at hcs
    obtain ⟨rfl, rfl, rfl⟩ := hcs
    have hz' : zs.length = cap := by simpa using hz
    by_cases h0 : len = 0
    · subst h0
      exact ⟨[], .inl ⟨_, _, rfl, rfl, rfl⟩⟩
    · obtain ⟨b, off, spot⟩ := x
      have hc := hcell 0 (by omega)
      have hspot : spot = none := by simpa [Addr.add] using World.cell?_spot hc
      subst hspot
      have hlen : ((zs.take len).map fun n => UInt8.ofNat n.toNat).length = len := by simp; omega
      refine ⟨(zs.take len).map fun n => UInt8.ofNat n.toNat, .inr ⟨b, off, cap, by rw [hlen], by omega, hm, fun j x hj => ?_⟩⟩
      have hjl : j < len := by have := (List.getElem?_eq_some_iff.1 hj).1; simp at this; omega
      have e1 : zs[j]? = some zs[j] := List.getElem?_eq_getElem (by omega)
      have hw := hwz zs[j] (List.getElem_mem _)
      have hcj := hcell j (by omega)
      have e2 : zs.getD j 0 = zs[j] := by simp [List.getD, e1]
      rw [e2] at hcj
      have hx : x = .int .u8 zs[j] := by
        rw [List.getElem?_map, List.getElem?_map, List.getElem?_take_of_lt hjl, e1] at hj
        simp only [Option.map_some, Option.some.injEq] at hj
        rw [← hj]
        have hb : 0 ≤ zs[j] ∧ zs[j] ≤ 255 := by simpa [Lit.wf, IntKind.min, IntKind.max, IntKind.signed, IntKind.bits] using hw
        have h3 : (zs[j].toNat % 256 : Nat) = zs[j].toNat := Nat.mod_eq_of_lt (by omega)
        simp only [bv, UInt8.toNat_ofNat']
        rw [show (2 ^ 8 : Nat) = 256 from rfl, h3, Int.toNat_of_nonneg hb.1]
      subst hx
      by_cases hj0 : j = 0
      · subst hj0; simpa [Addr.add] using hcj
      · simpa [Addr.add, hj0] using hcj
end Go.Proofs.YtcjpomibhbakdaaGreatDoor
namespace Go.Proofs.YtcjpomibhbakdaaGreatDoor
open Go.ChangeShapes Go.WideShapes Go.ChangeAt Go.RowKit Go.Joins Go.Deep
set_option linter.unusedVariables false

theorem bytes_trod {H : Type} {enc : TypeId × Value → H} {P : Program} {W : World} {t e : TypeId} {v : Value} {y : DataW H × List MemPlace} {fuel : Nat} (ht : P.underlying t = some (.slice e)) (he : P.underlying e = some (.int .u8)) (hC : P.cellsOf e = 1)
    (hf : DataW.trod enc P W 0 (fun _ => true) true fuel t [v] = some y) : ∃ l, Bys W v l := by
  rcases open_ints ht he hC hf with ⟨hcs, _⟩ | ⟨x, len, cap, zs, hcs, _, hl, hm, hz, _, hcell, hwz⟩
  · simp at hcs
    subst hcs
    exact ⟨[], .inl ⟨_, _, rfl, rfl, rfl⟩⟩
  · simp at hcs
    subst hcs
    have hz' : zs.length = cap := by simpa using hz
    by_cases h0 : len = 0
    · subst h0
      exact ⟨[], .inl ⟨_, _, rfl, rfl, rfl⟩⟩
    · obtain ⟨b, off, spot⟩ := x
      have hc := hcell 0 (by omega)
      have hspot : spot = none := by simpa [Addr.add] using World.cell?_spot hc
      subst hspot
      have hlen : ((zs.take len).map fun n => UInt8.ofNat n.toNat).length = len := by simp; omega
      refine ⟨(zs.take len).map fun n => UInt8.ofNat n.toNat, .inr ⟨b, off, cap, by rw [hlen], by omega, hm, fun j x hj => ?_⟩⟩
      have hjl : j < len := by have := (List.getElem?_eq_some_iff.1 hj).1; simp at this; omega
      have e1 : zs[j]? = some zs[j] := List.getElem?_eq_getElem (by omega)
      have hw := hwz zs[j] (List.getElem_mem _)
      have hcj := hcell j (by omega)
      have e2 : zs.getD j 0 = zs[j] := by simp [List.getD, e1]
      rw [e2] at hcj
      have hx : x = .int .u8 zs[j] := by
        rw [List.getElem?_map, List.getElem?_map, List.getElem?_take_of_lt hjl, e1] at hj
        simp only [Option.map_some, Option.some.injEq] at hj
        rw [← hj]
        have hb : 0 ≤ zs[j] ∧ zs[j] ≤ 255 := by simpa [Lit.wf, IntKind.min, IntKind.max, IntKind.signed, IntKind.bits] using hw
        have h3 : (zs[j].toNat % 256 : Nat) = zs[j].toNat := Nat.mod_eq_of_lt (by omega)
        simp only [bv, UInt8.toNat_ofNat']
        rw [show (2 ^ 8 : Nat) = 256 from rfl, h3, Int.toNat_of_nonneg hb.1]
      subst hx
      by_cases hj0 : j = 0
      · subst hj0; simpa [Addr.add] using hcj
      · simpa [Addr.add, hj0] using hcj
theorem ints_nilcap {H : Type} {enc : TypeId × Value → H} {P : Program} {W : World} {r : Reach} {b0 : Nat} {t e : TypeId} {v : Value} {d : DataW H} {p : List MemPlace} (ht : P.underlying t = some (.slice e)) (he : P.underlying e = some (.int .i64)) (hC : P.cellsOf e = 1)
    (hv : Value.okWide P W r b0 t v) (h : DataW.Trod enc P W 0 (fun _ => true) true t v d p) : ∀ n c, v = .slice none n c → c = 0 := by
  obtain ⟨a, len, cap, rfl⟩ := okWide_slice ht hv
  obtain ⟨fuel, hf⟩ := h
  rcases open_ints ht he hC hf with ⟨hcs, _⟩ | ⟨x, l, c, zs, hcs, _, hl, hm, hz, _, hcell, hwz⟩
  · simp [Value.cells] at hcs
    obtain ⟨rfl, rfl, rfl⟩ := hcs
    intro n c e
    cases e; rfl
  · simp [Value.cells] at hcs
    obtain ⟨rfl, rfl, rfl⟩ := hcs
    intro n c e
    cases e
/-- a step: Next, or Lay of bytes as a kind -/
def Steps (w : World) (v : Value) (L : List (Bool × Int × List UInt8)) : Prop :=
  ∃ a c, v = .slice a L.length c ∧ L.length ≤ c ∧ c ≤ maxLen ∧ ∀ i (h : i < L.length), ∃ b off s, a = some ⟨b, off, none⟩ ∧ w.cell? ⟨b, off + i * 3, none⟩ = some (.bool L[i].1) ∧ w.cell? ⟨b, off + i * 3 + 1, none⟩ = some (.int .i64 L[i].2.1) ∧ w.cell? ⟨b, off + i * 3 + 2, none⟩ = some s ∧ Bys w s L[i].2.2
theorem steps_open {H : Type} {enc : TypeId × Value → H} {P : Program} {W : World} {r : Reach} {b0 : Nat} {t e u : TypeId} {f0 f1 f2 : Field} {v : Value} {d : DataW H} {p : List MemPlace} (ht : P.underlying t = some (.slice e)) (he : P.underlying e = some (.struct #[f0, f1, f2]))
    (hone : oneCellFields P #[f0, f1, f2] = true) (hC : P.cellsOf e = 3) (h0 : P.underlying f0.type = some .bool) (h1 : P.underlying f1.type = some (.int .i64)) (h2 : P.underlying f2.type = some (.slice u)) (hu : P.underlying u = some (.int .u8)) (hCu : P.cellsOf u = 1)
    (hv : Value.okWide P W r b0 t v) (h : DataW.Trod enc P W 0 (fun _ => true) true t v d p) : ∃ L, Steps W v L := by
  obtain ⟨a, len, cap, rfl⟩ := okWide_slice ht hv
  obtain ⟨fuel, hf⟩ := h
  rcases open_slice ht hf with ⟨hcs, _⟩ | ⟨x, l, c, m, n, D, Pl, hcs, _, hl, hm, hmm, _, hi⟩
  · simp [Value.cells] at hcs
    obtain ⟨rfl, rfl, rfl⟩ := hcs
    exact ⟨[], _, _, rfl, by simp, by unfold maxLen; omega, fun i hi => absurd hi (by simp)⟩
  · simp [Value.cells] at hcs
    obtain ⟨rfl, rfl, rfl⟩ := hcs
    obtain ⟨b, off, spot⟩ := x
    have hml : len ≤ m := by rw [hmm]; simp; omega
    by_cases hlen : len = 0
    · subst hlen
      exact ⟨[], _, _, rfl, by simp, hm, fun i hi => absurd hi (by simp)⟩
    have hspot : spot = none := by
      obtain ⟨cs, hc, htr⟩ := hi 0 (by omega)
      rw [hC] at hc
      obtain ⟨_, hcl, hat⟩ := World.cells?_some hc
      have a0 := hat 0 (by omega)
      rw [List.getElem?_eq_getElem (by omega)] at a0
      simpa [Addr.add] using World.cell?_spot a0
    subst hspot
    have eA : ∀ o n, (⟨b, o, none⟩ : Addr).add n = ⟨b, o + n, none⟩ := by intro o n; unfold Addr.add; split <;> simp_all
    have each : ∀ i : Fin len, ∃ q : Bool × Int × List UInt8, ∃ s, W.cell? ⟨b, off + i.val * 3, none⟩ = some (.bool q.1) ∧ W.cell? ⟨b, off + i.val * 3 + 1, none⟩ = some (.int .i64 q.2.1) ∧ W.cell? ⟨b, off + i.val * 3 + 2, none⟩ = some s ∧ Bys W s q.2.2 := by
      intro i
      obtain ⟨cs, hc, htr⟩ := hi i.val (by have := i.2; omega)
      rw [hC] at hc
      obtain ⟨_, hcl, hat⟩ := World.cells?_some hc
      obtain ⟨y0, y1, y2, n', _, _, t0, t1, t2⟩ := trod_struct3 he htr
      obtain ⟨o0, k0⟩ := hone_of hone 0 f0 rfl
      obtain ⟨o1, k1⟩ := hone_of hone 1 f1 rfl
      obtain ⟨o2, k2⟩ := hone_of hone 2 f2 rfl
      match cs, hcl with
      | [c0, c1, c2], _ =>
        have a0 := hat 0 (by omega)
        have a1 := hat 1 (by omega)
        have a2 := hat 2 (by omega)
        rw [o0, k0] at t0
        rw [o1, k1] at t1
        rw [o2, k2] at t2
        obtain ⟨bq, hbq, _⟩ := DataW.trod_bool (cs := [c0]) h0 (by simpa using t0)
        obtain ⟨z, hz, _, _⟩ := DataW.trod_int (cs := [c1]) h1 (by simpa using t1)
        obtain ⟨q2, hq2⟩ := bytes_trod (v := c2) h2 hu hCu (by simpa using t2)
        simp only [List.cons.injEq, and_true] at hbq hz
        subst hbq hz
        refine ⟨(bq, z, q2), c2, ?_, ?_, ?_, hq2⟩
        · rw [eA, eA] at a0; exact a0
        · rw [eA, eA] at a1; exact a1
        · rw [eA, eA] at a2; exact a2
    refine ⟨List.ofFn fun i => Classical.choose (each i), _, _, by rw [List.length_ofFn], by rw [List.length_ofFn]; exact hl, hm, fun i hi' => ?_⟩
    have hi2 : i < len := by simpa using hi'
    obtain ⟨s, k1, k2, k3, k4⟩ := Classical.choose_spec (each ⟨i, hi2⟩)
    refine ⟨b, off, s, rfl, ?_, ?_, k3, ?_⟩
    · rw [List.getElem_ofFn]; exact k1
    · rw [List.getElem_ofFn]; exact k2
    · rw [List.getElem_ofFn]; exact k4
/-- a step with the slice that holds its bytes -/
abbrev StT := Bool × Int × Option Addr × Nat × List UInt8
def stC (x : StT) : List Value := [.bool x.1, .int .i64 x.2.1, .slice x.2.2.1 x.2.2.2.2.length x.2.2.2.1]
def stD : StT := (false, 0, none, 0, [])
theorem stC_len (x : StT) : (stC x).length = 3 := rfl
theorem flat3 {α : Type} {f : α → List Value} (hf : ∀ x, (f x).length = 3) : ∀ (T : List α) (j : Nat) (x : Value), (T.flatMap f)[j]? = some x → ∃ i, ∃ h : i < T.length, ∃ r, r < 3 ∧ j = i * 3 + r ∧ (f T[i])[r]? = some x
  | [], j, x, h => by simp at h
  | y :: T, j, x, h => by
    rw [List.flatMap_cons, List.getElem?_append] at h
    by_cases hj : j < 3
    · rw [if_pos (by rw [hf]; exact hj)] at h
      exact ⟨0, by simp, j, hj, by omega, by simpa using h⟩
    · rw [if_neg (by rw [hf]; exact hj), hf] at h
      obtain ⟨i, hi, r, hr, e, hx⟩ := flat3 hf T (j - 3) x h
      exact ⟨i + 1, by simpa using hi, r, hr, by omega, by simpa using hx⟩
theorem flat3_len {α : Type} {f : α → List Value} (hf : ∀ x, (f x).length = 3) (T : List α) : (T.flatMap f).length = T.length * 3 := by
  induction T with
  | nil => rfl
  | cons y T ih => rw [List.flatMap_cons, List.length_append, hf, ih, List.length_cons]; omega
theorem steps_sts {w : World} {v : Value} {L : List (Bool × Int × List UInt8)} (h : Steps w v L) : ∃ T : List StT, ∃ a c, v = .slice a T.length c ∧ Sl w v T.length (T.flatMap stC) ∧ ∀ i, i < T.length → Bys w (.slice (T.getD i stD).2.2.1 (T.getD i stD).2.2.2.2.length (T.getD i stD).2.2.2.1) (T.getD i stD).2.2.2.2 := by
  obtain ⟨a, c, rfl, h1, h2, h3⟩ := h
  have each : ∀ i : Fin L.length, ∃ t : StT, ∃ b off, a = some ⟨b, off, none⟩ ∧ (∀ r x, (stC t)[r]? = some x → w.cell? ⟨b, off + (i.val * 3 + r), none⟩ = some x) ∧ Bys w (.slice t.2.2.1 t.2.2.2.2.length t.2.2.2.1) t.2.2.2.2 := by
    intro i
    obtain ⟨b, off, s, ha, c0, c1, c2, hb⟩ := h3 i.val i.2
    obtain ⟨sa, sc, hs⟩ := Sl.slice hb
    subst hs
    refine ⟨(L[i].1, L[i].2.1, sa, sc, L[i].2.2), b, off, ha, fun r x hr => ?_, hb⟩
    match r, hr with
    | 0, hr => simp only [stC, List.getElem?_cons_zero, Option.some.injEq] at hr; rw [← hr]; exact c0
    | 1, hr => simp only [stC, List.getElem?_cons_succ, List.getElem?_cons_zero, Option.some.injEq] at hr; rw [← hr, ← Nat.add_assoc]; exact c1
    | 2, hr => simp only [stC, List.getElem?_cons_succ, List.getElem?_cons_zero, Option.some.injEq] at hr; rw [← hr, ← Nat.add_assoc]; exact c2
    | r + 3, hr => simp [stC] at hr
  refine ⟨List.ofFn fun i => Classical.choose (each i), a, c, by rw [List.length_ofFn], ?_, fun i hi => ?_⟩
  · rw [List.length_ofFn]
    by_cases hz : L.length = 0
    · refine .inl ⟨a, c, by rw [hz], hz, List.eq_nil_of_length_eq_zero ?_⟩
      rw [flat3_len stC_len, List.length_ofFn, hz]
    · obtain ⟨b, off, ha, _⟩ := Classical.choose_spec (each ⟨0, by omega⟩)
      subst ha
      refine .inr ⟨b, off, c, rfl, h1, h2, fun j x hj => ?_⟩
      obtain ⟨i, hi, r, hr, e, hx⟩ := flat3 stC_len _ j x hj
      have hi2 : i < L.length := by simpa using hi
      obtain ⟨b', off', ha', hc, _⟩ := Classical.choose_spec (each ⟨i, hi2⟩)
      simp only [Option.some.injEq, Addr.mk.injEq] at ha'
      obtain ⟨rfl, rfl, _⟩ := ha'
      rw [List.getElem_ofFn] at hx
      rw [e]
      exact hc r x hx
  · have hi2 : i < L.length := by simpa using hi
    obtain ⟨_, _, _, _, hb⟩ := Classical.choose_spec (each ⟨i, hi2⟩)
    have e : (List.ofFn fun i => Classical.choose (each i)).getD i stD = Classical.choose (each ⟨i, hi2⟩) := by
      simp [List.getD, hi2]
    rw [e]; exact hb
end Go.Proofs.YtcjpomibhbakdaaGreatDoor
