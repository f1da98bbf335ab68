/- size.Bitmaps, plot.Data with room and without. plot.Meta's errors. The document's answer for layer 22: Meta with room, walked. Parts for plot.Meta with room. What Meta wrote is read back: the bits, the slots, the blocks. plot.Meta with room. The law PlotRoom, walked. The statement PlotSelf, walked. How a slice of bytes that came in reads: as a list of bytes. -/
import Derived.Test.YtbhjgcokpmiopaaGreatMg4
namespace Go.Proofs.YtbhjgcokpmiopaaGreat
open Go.RowKit Go.Extern.Stop Go.Stop Go.Extern
set_option linter.unusedVariables false
attribute [local irreducible] wpList wpAnyH Code.wp Oper.wp Go

theorem tally_Split_ok (a : Option Addr) (c : Nat) (l : List Int) (w : World) (h : Sl w (.slice a l.length c) l.length (l.map (Value.int .i64))) (hl : l.length ≤ 65536) (hs : splitE l = 0) : Calls Tryz.prog 15 #[.slice a l.length c] w (fun e w' => ∃ pb cb gs po co, e = .returned (.tuple #[.slice pb (bmN l.length) cb, .slice po (overK l l.length).length co, .int .i64 0]) ∧ Below w.heap.size w w' ∧ Lists w' w.heap.size (.slice pb (bmN l.length) cb) gs (chunksI (smallL l) (bmN l.length)) ∧ w'.ownsRow w.heap.size 74 3 (.slice po (overK l l.length).length co) (overK l l.length).length ((overK l l.length).flatMap entC)) :=
  (tally_Split a c l w h hl).mono fun e w' q => (q.resolve_left fun z => z.1 hs).2
theorem plot_layDN (B ba b g nn cc : Nat) (pa : Option Addr) (ca f N k0 : Nat) (bs : List UInt8) (bl B2 : Nat) (pl : Option Addr) (cl : Nat) (gs : List (Nat × Nat)) (L : List (List Int)) (n : Nat) (hn : L.length = n) (w : World) (hC : AlC B ba nn cc ca f N) (hA : Al B ba b g nn cc pa ca f N k0 bs w) (hL : Lists w B2 (.slice pl n cl) gs L) (hS : ∀ i, i < L.length → Small (L.getD i []) ∧ (L.getD i []).length ≤ 960) (hf1 : 1 ≤ f) (hk : k0 + n ≤ N) (kl : Blk w bl [.slice none 0 0] 48) (hBl : B ≤ bl) (hBw : B ≤ w.heap.size) :
    Calls Tryz.prog 21 #[.pointer (some ⟨ba, 0, none⟩), .slice pl n cl, .func (.func 53) #[] #[.pointer (some ⟨bl, 0, none⟩)]] w (fun e w' => ∃ p c, e = .returned .nilIface ∧ Below B w w' ∧ Only [64, 5, 48, 74] w w' ∧ Fr ([ba, g] ++ [bl]) w w' ∧ Al B ba b g nn cc pa ca f N (k0 + n) (cntsB L (f + k0) bs n) w' ∧ Blk w' bl [.slice p n c] 48 ∧ w'.ownsRow w.heap.size 74 3 (.slice p n c) n ((slotsE L (f + k0) n).flatMap entC)) := by
  subst hn; exact plot_layD B ba b g nn cc pa ca f N k0 bs bl B2 pl cl gs L w hC hA hL hS hf1 hk kl hBl hBw
theorem chunks_small {l : List Int} (h : ∀ k, k < l.length → cntOk (l.getD k 0)) (n : Nat) : ∀ i, i < (chunksI (smallL l) n).length → Small ((chunksI (smallL l) n).getD i []) ∧ ((chunksI (smallL l) n).getD i []).length ≤ 960 := fun i hi => by
  rw [chunksI_len] at hi
  rw [chunksI_get hi]
  exact ⟨chunk_small (small_ok h) i, by rw [chunkI_len]; omega⟩
theorem own_keep {w W : World} {B ba b g nn cc : Nat} {pa : Option Addr} {ca f N k0 bl : Nat} {bs : List UInt8} {cs : List Value} {base n : Nat} {v : Value} {xs : List Value} (k : w.ownsRow base 74 3 v n xs) (hA : Al B ba b g nn cc pa ca f N k0 bs w) (kl : Blk w bl cs 48) (hX : Fr ([ba, g] ++ [bl]) w W) : W.ownsRow base 74 3 v n xs := own_fr k hX fun j hj hm => by
  obtain ⟨cs', kb⟩ := own_blk hA.data
  simp only [List.cons_append, List.nil_append, List.mem_cons, List.not_mem_nil, or_false] at hm
  rcases hm with h | h | h
  · exact own_ty_ne k hA.blkA (by decide) _ hj h
  · exact own_ty_ne k kb (by decide) _ hj h
  · exact own_ty_ne k kl (by decide) _ hj h
def DataP (B ba b g nn cc : Nat) (pa : Option Addr) (ca f N k0 : Nat) (bs : List UInt8) (l : List Int) (w : World) (e : Ending) (w' : World) : Prop :=
  e = .returned (.tuple #[.int .i64 (plotB l (f + k0) bs).1, .int .i64 (plotB l (f + k0) bs).2.1, .nilIface]) ∧ Below B w w' ∧ Only [64, 5, 48, 74, 26] w w' ∧ Fr [ba, g] w w' ∧ Al B ba b g nn cc pa ca f N (k0 + plotN l) (plotB l (f + k0) bs).2.2 w'
set_option maxRecDepth 100000 in
set_option maxHeartbeats 1000000 in
theorem size_Bitmaps (n : Nat) (w : World) (hn : n ≤ 65536) :
    Calls Tryz.prog 6 #[.int .i64 (↑n : Int)] w (Ret (.int .i64 (↑(bmN n) : Int)) w) := by
 refine zin 9 Tryz.func6 ?_
 refine xid 12 ((↑n : Int) < (1 : Int)) (fun hc1 => ?_) (fun hc1 => ?_)
 · exact xe 7 (.int .i64 0) ⟨by rw [show bmN n = 0 from by unfold bmN; omega]; rfl, (Below.refl w.heap.size _)⟩
 refine xwm 5 ((↑n : Int) - 1) (↑(n - 1) : Int) ?_
 refine xq 0 (congrArg (Value.int .i64) (show (IntKind.i64.wrap (Int.tdiv (↑(n - 1) : Int) 960) : Int) = (↑((n - 1) / 960) : Int) from quo_natB (n - 1) 960 (by omega) (by decide))) ?_
 refine xw 0 ((↑((n - 1) / 960) : Int) + 1) ?_
 exact xe 4 (.int .i64 ((↑((n - 1) / 960) : Int) + 1)) ⟨by rw [show bmN n = (n - 1) / 960 + 1 from by unfold bmN; omega, Int.natCast_add]; rfl, (Below.refl w.heap.size _)⟩
set_option maxRecDepth 100000 in
set_option maxHeartbeats 8000000 in
theorem plot_Data (B ba b g nn cc : Nat) (pa : Option Addr) (ca f N k0 : Nat) (bs : List UInt8) (a : Option Addr) (c : Nat) (l : List Int) (w : World) (hC : AlC B ba nn cc ca f N) (hA : Al B ba b g nn cc pa ca f N k0 bs w) (h : Sl w (.slice a l.length c) l.length (l.map (Value.int .i64))) (hl : l.length ≤ 3000) (hs : splitE l = 0) (hf1 : 1 ≤ f) (hkN : k0 ≤ N) (hk : k0 + plotN l ≤ N) (hBw : B ≤ w.heap.size) :
    Calls Tryz.prog 30 #[.pointer (some ⟨ba, 0, none⟩), .slice a l.length c] w (DataP B ba b g nn cc pa ca f N k0 bs l w) := by
 have hcf := hC.hf
 have hcn := hC.hn
 have hbd := plotN_bd hl
 have hsp := splitE_ok hs
 have hol := overK_len l l.length
 have hpn : plotN l = (bmN l.length) + nodN 4 (bmN l.length) + nodN 5 (overK l l.length).length := rfl
 have hn4 := nodN_le 4 (bmN l.length)
 have hn5 := nodN_le 5 (overK l l.length).length
 refine zin 70 Tryz.func30 ?_
 refine xr 11 (args := #[.pointer (some ⟨ba, 0, none⟩)]) (alloc_Image ba b _ _ _ hA.blkA) fun W1 hb1 => ?_
 refine xc 9 (args := #[.slice a l.length c]) (tally_Split_ok a c l _ (h.below hb1) (by omega) hs) ?_
 rintro _ W2 ⟨pb, cb, gs, po, co, rfl, hb2, hL, hov⟩
 have hs2 := (Bl.nextB (Below.refl B w) hBw hb1).size
 have hA'1 := (hA.below hb1).below hb2
 refine xr 23 (args := #[.pointer (some ⟨ba, 0, none⟩)]) (alloc_Left ba b pa N ca k0 _ hA'1.blkA hkN) fun W3 hb3 => ?_
 refine xr 4 (args := #[.int .i64 4, .int .i64 (↑(bmN l.length) : Int)]) (tall_Nodes 4 (bmN l.length) _ (by decide) (by decide) (by omega)) fun W4 hb4 => ?_
 refine xwm 0 ((↑(bmN l.length) : Int) + (↑(nodN 4 (bmN l.length)) : Int)) (↑((bmN l.length) + (nodN 4 (bmN l.length))) : Int) ?_
 refine xr 2 (args := #[.int .i64 5, .int .i64 (↑((overK l l.length).length) : Int)]) (tall_Nodes 5 (overK l l.length).length _ (by decide) (by decide) (by omega)) fun W5 hb5 => ?_
 refine xwm 0 ((↑((bmN l.length) + (nodN 4 (bmN l.length))) : Int) + (↑(nodN 5 (overK l l.length).length) : Int)) (↑(((bmN l.length) + (nodN 4 (bmN l.length))) + (nodN 5 (overK l l.length).length)) : Int) ?_
 refine xk 3 (show (decide ((↑(N - k0) : Int) < (↑(((bmN l.length) + (nodN 4 (bmN l.length))) + (nodN 5 (overK l l.length).length)) : Int)) : Bool) = false from decide_eq_false (by omega)) ?_
 refine xa 4 [.slice none 0 0] 48 fun b6 W6 n6 => ?_
 have hX := (((((show Fr [ba, g] w _ from (Fr.of_below hb1)).trans (Fr.of_below hb2)).trans (Fr.of_below hb3)).trans (Fr.of_below hb4)).trans (Fr.of_below hb5)).trans (Fr.of_below n6.below)
 have hov'1 := own_below (own_below (own_below (own_below (own_mono hov hs2) hb3) hb4) hb5) n6.below
 have hA'2 := (((hA'1.below hb3).below hb4).below hb5).below n6.below
 have hovk := fun (W : World) (hX : Fr ([ba, g] ++ [b6]) _ W) => own_keep hov'1 hA'2 n6.blk hX
 have hL'1 := (((hL.below hb3).below hb4).below hb5).below n6.below
 have g6 := n6.ge0 (Bl.nextB (Bl.nextB (Bl.nextB (Bl.nextB (Bl.nextB (Below.refl B w) hBw hb1) hBw hb2) hBw hb3) hBw hb4) hBw hb5)
 have hB := Bl.nextB (Bl.nextB (Bl.nextB (Bl.nextB (Bl.nextB (Bl.nextB (Below.refl B w) hBw hb1) hBw hb2) hBw hb3) hBw hb4) hBw hb5) hBw n6.below
 refine xc 8 (args := #[.pointer (some ⟨ba, 0, none⟩), .slice pb (bmN l.length) cb, .func (.func 53) #[] #[.pointer (some ⟨b6, 0, none⟩)]]) (plot_layDN B ba b g nn cc pa ca f N k0 bs b6 _ pb cb gs (chunksI (smallL l) (bmN l.length)) (bmN l.length) (chunksI_len _ _) _ hC hA'2 hL'1 (chunks_small hsp.2 _) hf1 (by omega) n6.blk (Nat.le_trans hBw g6) (Nat.le_trans hBw hB.size)) ?_
 rintro _ W7 ⟨p8, c8, rfl, hb7, hO7, hX7, hA, kln, hup⟩
 have hs7 := (Bl.nextB (Bl.nextB (Bl.nextB (Bl.nextB (Bl.nextB (Bl.nextB (Below.refl B w) hBw hb1) hBw hb2) hBw hb3) hBw hb4) hBw hb5) hBw n6.below).size
 replace hov := hovk _ hX7
 refine xb 15 0 kln ?_
 have hup'1 := own_mono hup hs7
 have hB'1 := hB.trans hb7
 refine xc 0 (args := #[.pointer (some ⟨ba, 0, none⟩), .int .i64 4, .slice p8 (bmN l.length) c8]) (build_TreeN B ba b g nn cc pa ca f N (k0 + (bmN l.length)) (cntsB (chunksI (smallL l) (bmN l.length)) (f + k0) bs (bmN l.length)) 4 p8 c8 (slotsE (chunksI (smallL l) (bmN l.length)) (f + k0) (bmN l.length)) (bmN l.length) _ (slotsE_len _ _ _) hC hA (by decide) (by decide) (slots_ents _ _ _ (by omega)) (by omega) hf1 (by omega) (by omega) (fun W _ h2 => by unfold Sts; rw [slotsE_len]; exact own_sl (own_only hup'1 h2 (by decide))) (Nat.le_trans hBw hB'1.size)) ?_
 rintro _ W8 ⟨rfl, hb8, hO8, hX8, hA⟩
 rw [slotsE_len] at hA
 have hov'2 := own_only hov hO8 (by decide)
 have hB'2 := hB'1.trans hb8
 refine xc 21 (args := #[.pointer (some ⟨ba, 0, none⟩), .int .i64 5, .slice po ((overK l l.length).length) co]) (build_TreeN B ba b g nn cc pa ca f N (k0 + (bmN l.length) + nodN 4 (bmN l.length)) (treeB 4 (slotsE (chunksI (smallL l) (bmN l.length)) (f + k0) (bmN l.length)) (f + (k0 + (bmN l.length))) (cntsB (chunksI (smallL l) (bmN l.length)) (f + k0) bs (bmN l.length))).2 5 po co (overK l l.length) (overK l l.length).length _ rfl hC hA (by decide) (by decide) (over_ents _ _ (by omega)) (by omega) hf1 (by omega) (by omega) (fun W _ h2 => own_sl (own_only hov'2 h2 (by decide))) (Nat.le_trans hBw hB'2.size)) ?_
 rintro _ W9 ⟨rfl, hb9, hO9, hX9, hA⟩
 have hB'3 := hB'2.trans hb9
 have hO := ((((((((show Only [64, 5, 48, 74, 26] w _ from (Only.of_below hb1)).trans (Only.of_below hb2)).trans (Only.of_below hb3)).trans (Only.of_below hb4)).trans (Only.of_below hb5)).trans (Only.of_below n6.below)).trans (hO7.wide)).trans (hO8.wide)).trans (hO9.wide)
 have hX'1 := ((Fr.trans_new hX hX7 g6).trans (hX8.mono (by simp))).trans (hX9.mono (by simp))
 refine xe 27 (.tuple #[.int .i64 ((treeB 4 (slotsE (chunksI (smallL l) (bmN l.length)) (f + k0) (bmN l.length)) (f + (k0 + (bmN l.length))) (cntsB (chunksI (smallL l) (bmN l.length)) (f + k0) bs (bmN l.length))).1), .int .i64 ((treeB 5 (overK l l.length) (f + (k0 + (bmN l.length) + nodN 4 (bmN l.length))) (treeB 4 (slotsE (chunksI (smallL l) (bmN l.length)) (f + k0) (bmN l.length)) (f + (k0 + (bmN l.length))) (cntsB (chunksI (smallL l) (bmN l.length)) (f + k0) bs (bmN l.length))).2).1), .nilIface]) ?_
 have e1 : f + (k0 + (bmN l.length)) = f + k0 + (bmN l.length) := by omega
 have e2 : f + (k0 + (bmN l.length) + nodN 4 (bmN l.length)) = f + k0 + (bmN l.length) + nodN 4 (bmN l.length) := by omega
 rw [e2, e1] at hA ⊢
 have e3 : k0 + (bmN l.length) + nodN 4 (bmN l.length) + nodN 5 (overK l l.length).length = k0 + plotN l := by omega
 rw [e3] at hA
 exact ⟨rfl, hB'3, hO, hX'1, hA⟩
set_option maxRecDepth 100000 in
set_option maxHeartbeats 8000000 in
theorem plot_Data_none (B ba b g nn cc : Nat) (pa : Option Addr) (ca f N k0 : Nat) (bs : List UInt8) (a : Option Addr) (c : Nat) (l : List Int) (w : World) (hC : AlC B ba nn cc ca f N) (hA : Al B ba b g nn cc pa ca f N k0 bs w) (h : Sl w (.slice a l.length c) l.length (l.map (Value.int .i64))) (hl : l.length ≤ 3000) (hs : splitE l = 0) (hf1 : 1 ≤ f) (hkN : k0 ≤ N) (hk : N < k0 + plotN l) (hBw : B ≤ w.heap.size) :
    Calls Tryz.prog 30 #[.pointer (some ⟨ba, 0, none⟩), .slice a l.length c] w (Ret (.tuple #[.int .i64 0, .int .i64 0, .iface 46 (.int .i64 14)]) w) := by
 have hcf := hC.hf
 have hcn := hC.hn
 have hbd := plotN_bd hl
 have hsp := splitE_ok hs
 have hol := overK_len l l.length
 have hpn : plotN l = (bmN l.length) + nodN 4 (bmN l.length) + nodN 5 (overK l l.length).length := rfl
 have hn4 := nodN_le 4 (bmN l.length)
 have hn5 := nodN_le 5 (overK l l.length).length
 refine zin 70 Tryz.func30 ?_
 refine xr 11 (args := #[.pointer (some ⟨ba, 0, none⟩)]) (alloc_Image ba b _ _ _ hA.blkA) fun W1 hb1 => ?_
 refine xc 9 (args := #[.slice a l.length c]) (tally_Split_ok a c l _ (h.below hb1) (by omega) hs) ?_
 rintro _ W2 ⟨pb, cb, gs, po, co, rfl, hb2, hL, hov⟩
 have hA'1 := (hA.below hb1).below hb2
 refine xr 23 (args := #[.pointer (some ⟨ba, 0, none⟩)]) (alloc_Left ba b pa N ca k0 _ hA'1.blkA hkN) fun W3 hb3 => ?_
 refine xr 4 (args := #[.int .i64 4, .int .i64 (↑(bmN l.length) : Int)]) (tall_Nodes 4 (bmN l.length) _ (by decide) (by decide) (by omega)) fun W4 hb4 => ?_
 refine xwm 0 ((↑(bmN l.length) : Int) + (↑(nodN 4 (bmN l.length)) : Int)) (↑((bmN l.length) + (nodN 4 (bmN l.length))) : Int) ?_
 refine xr 2 (args := #[.int .i64 5, .int .i64 (↑((overK l l.length).length) : Int)]) (tall_Nodes 5 (overK l l.length).length _ (by decide) (by decide) (by omega)) fun W5 hb5 => ?_
 refine xwm 0 ((↑((bmN l.length) + (nodN 4 (bmN l.length))) : Int) + (↑(nodN 5 (overK l l.length).length) : Int)) (↑(((bmN l.length) + (nodN 4 (bmN l.length))) + (nodN 5 (overK l l.length).length)) : Int) ?_
 refine xk 3 (show (decide ((↑(N - k0) : Int) < (↑(((bmN l.length) + (nodN 4 (bmN l.length))) + (nodN 5 (overK l l.length).length)) : Int)) : Bool) = true from decide_eq_true (by omega)) ?_
 have hB := Bl.next (Bl.next (Bl.next (Bl.next hb1 hb2) hb3) hb4) hb5
 exact xe 10 (.tuple #[.int .i64 0, .int .i64 0, .iface 46 (.int .i64 14)]) ⟨rfl, hB⟩
end Go.Proofs.YtbhjgcokpmiopaaGreat
namespace Go.Proofs.YtbhjgcokpmiopaaGreat
open Go.RowKit Go.Extern.Stop Go.Stop Go.Extern
set_option linter.unusedVariables false
attribute [local irreducible] wpList wpAnyH Code.wp Oper.wp Go

set_option maxRecDepth 100000 in
set_option maxHeartbeats 1000000 in
theorem plot_Meta_nil (x : Value) (w : World) :
    Calls Tryz.prog 5 #[.pointer none, x] w (Ret (.tuple #[.int .i64 0, .int .i64 0, .iface 46 (.int .i64 18)]) w) := by
 refine zin 120 Tryz.func5 ?_
 refine xr 10 (args := #[.pointer none]) (alloc_Image_nil _) fun W1 hb1 => ?_
 exact xe 21 (.tuple #[.int .i64 0, .int .i64 0, .iface 46 (.int .i64 18)]) ⟨rfl, hb1⟩
set_option maxRecDepth 100000 in
set_option maxHeartbeats 1000000 in
theorem plot_Meta_len (B ba b g nn cc : Nat) (pa : Option Addr) (ca f N k0 : Nat) (bs : List UInt8) (a : Option Addr) (c : Nat) (l : List Int) (w : World) (hC : AlC B ba nn cc ca f N) (hA : Al B ba b g nn cc pa ca f N k0 bs w) (h : Sl w (.slice a l.length c) l.length (l.map (Value.int .i64))) (hl : l.length ≤ 3000) (hlen : l.length ≠ nn / 256) :
    Calls Tryz.prog 5 #[.pointer (some ⟨ba, 0, none⟩), .slice a l.length c] w (Ret (.tuple #[.int .i64 0, .int .i64 0, .iface 46 (.int .i64 1)]) w) := by
 refine zin 120 Tryz.func5 ?_
 refine xr 10 (args := #[.pointer (some ⟨ba, 0, none⟩)]) (alloc_Image ba b _ _ _ hA.blkA) fun W1 hb1 => ?_
 have hA'1 := hA.below hb1
 refine xr 19 (args := #[.pointer (some ⟨b, 0, none⟩)]) (image_Blocks b _ nn cc _ hA'1.blkI (by have := hC.hn; omega)) fun W2 hb2 => ?_
 refine xk 3 (show (((↑l.length : Int) != (↑(nn / 256) : Int)) : Bool) = true from by simp; omega) ?_
 have hB := Bl.next hb1 hb2
 exact xe 10 (.tuple #[.int .i64 0, .int .i64 0, .iface 46 (.int .i64 1)]) ⟨rfl, hB⟩
set_option maxRecDepth 100000 in
set_option maxHeartbeats 1000000 in
theorem plot_Meta_bad (B ba b g nn cc : Nat) (pa : Option Addr) (ca f N k0 : Nat) (bs : List UInt8) (a : Option Addr) (c : Nat) (l : List Int) (w : World) (hC : AlC B ba nn cc ca f N) (hA : Al B ba b g nn cc pa ca f N k0 bs w) (h : Sl w (.slice a l.length c) l.length (l.map (Value.int .i64))) (hl : l.length ≤ 3000) (hlen : l.length = nn / 256) (hs : splitE l ≠ 0) :
    Calls Tryz.prog 5 #[.pointer (some ⟨ba, 0, none⟩), .slice a l.length c] w (Ret (.tuple #[.int .i64 0, .int .i64 0, .iface 46 (.int .i64 2)]) w) := by
 refine zin 120 Tryz.func5 ?_
 refine xr 10 (args := #[.pointer (some ⟨ba, 0, none⟩)]) (alloc_Image ba b _ _ _ hA.blkA) fun W1 hb1 => ?_
 have hA'1 := hA.below hb1
 refine xr 19 (args := #[.pointer (some ⟨b, 0, none⟩)]) (image_Blocks b _ nn cc _ hA'1.blkI (by have := hC.hn; omega)) fun W2 hb2 => ?_
 refine xk 3 (show (((↑l.length : Int) != (↑(nn / 256) : Int)) : Bool) = false from by rw [hlen]; simp) ?_
 have hB := Bl.next hb1 hb2
 refine xr 5 (args := #[.slice a l.length c]) ((tally_Split a c l _ (h.below hB) (by omega)).mono (fun _ _ q => (q.resolve_right (fun z => hs z.1)).2)) fun W3 hb3 => ?_
 have hB'1 := Bl.next hB hb3
 exact xe 28 (.tuple #[.int .i64 0, .int .i64 0, .iface 46 (.int .i64 2)]) ⟨rfl, hB'1⟩
set_option maxRecDepth 100000 in
set_option maxHeartbeats 1000000 in
theorem plot_Meta_none (B ba b g nn cc : Nat) (pa : Option Addr) (ca f N k0 : Nat) (bs : List UInt8) (a : Option Addr) (c : Nat) (l : List Int) (w : World) (hC : AlC B ba nn cc ca f N) (hA : Al B ba b g nn cc pa ca f N k0 bs w) (h : Sl w (.slice a l.length c) l.length (l.map (Value.int .i64))) (hl : l.length ≤ 3000) (hlen : l.length = nn / 256) (hs : splitE l = 0) (hkN : k0 ≤ N) (hk : N < k0 + needM l) :
    Calls Tryz.prog 5 #[.pointer (some ⟨ba, 0, none⟩), .slice a l.length c] w (Ret (.tuple #[.int .i64 0, .int .i64 0, .iface 46 (.int .i64 14)]) w) := by
 have hol := overK_len l l.length
 have hpn : needM l = (nodN 5 (overK l l.length).length) + (bmN l.length) + 1 := rfl
 have hn5 := nodN_le 5 (overK l l.length).length
 have hnb : bmN l.length ≤ 4 := by unfold bmN; omega
 refine zin 120 Tryz.func5 ?_
 refine xr 10 (args := #[.pointer (some ⟨ba, 0, none⟩)]) (alloc_Image ba b _ _ _ hA.blkA) fun W1 hb1 => ?_
 have hA'1 := hA.below hb1
 refine xr 19 (args := #[.pointer (some ⟨b, 0, none⟩)]) (image_Blocks b _ nn cc _ hA'1.blkI (by have := hC.hn; omega)) fun W2 hb2 => ?_
 refine xk 3 (show (((↑l.length : Int) != (↑(nn / 256) : Int)) : Bool) = false from by rw [hlen]; simp) ?_
 have hB := Bl.next hb1 hb2
 refine xc 5 (args := #[.slice a l.length c]) (tally_Split_ok a c l _ (h.below hB) (by omega) hs) ?_
 rintro _ W3 ⟨pb, cb, gs, po, co, rfl, hb3, _, _⟩
 refine xr 23 (args := #[.int .i64 5, .int .i64 (↑((overK l l.length).length) : Int)]) (tall_Nodes 5 (overK l l.length).length _ (by decide) (by decide) (by omega)) fun W4 hb4 => ?_
 refine xr 2 (args := #[.int .i64 (↑l.length : Int)]) (size_Bitmaps l.length _ (by omega)) fun W5 hb5 => ?_
 refine xwm 0 ((↑(nodN 5 (overK l l.length).length) : Int) + (↑(bmN l.length) : Int)) (↑((nodN 5 (overK l l.length).length) + (bmN l.length)) : Int) ?_
 refine xwm 0 ((↑((nodN 5 (overK l l.length).length) + (bmN l.length)) : Int) + 1) (↑(((nodN 5 (overK l l.length).length) + (bmN l.length)) + 1) : Int) ?_
 have hA'2 := (((hA'1.below hb2).below hb3).below hb4).below hb5
 refine xr 7 (args := #[.pointer (some ⟨ba, 0, none⟩)]) (alloc_Left ba b pa N ca k0 _ hA'2.blkA hkN) fun W6 hb6 => ?_
 refine xk 4 (show (decide ((↑(N - k0) : Int) < (↑(((nodN 5 (overK l l.length).length) + (bmN l.length)) + 1) : Int)) : Bool) = true from decide_eq_true (by omega)) ?_
 have hB'1 := Bl.next (Bl.next (Bl.next (Bl.next hB hb3) hb4) hb5) hb6
 exact xe 10 (.tuple #[.int .i64 0, .int .i64 0, .iface 46 (.int .i64 14)]) ⟨rfl, hB'1⟩
end Go.Proofs.YtbhjgcokpmiopaaGreat
namespace Go.Proofs.YtbhjgcokpmiopaaGreat
open Go.RowKit Go.Extern.Stop Go.Stop Go.Extern
set_option linter.unusedVariables false
attribute [local irreducible] wpList wpAnyH Code.wp Oper.wp Go

structure Sin (w W : World) : Prop where
  b : Below w.heap.size w W
theorem Sin.below {w W V : World} (h : Sin w W) (hb : Below W.heap.size W V) : Sin w V := ⟨Bl.next h.b hb⟩
theorem Sin.trans {w W V : World} (h : Sin w W) (hb : Below w.heap.size W V) : Sin w V := ⟨h.b.trans hb⟩
theorem Sin.upd {w W V : World} {b : Nat} (h : Sin w W) (u : Upd W b V) (hb : w.heap.size ≤ b) : Sin w V := ⟨u.below h.b hb⟩
theorem rs_ok {L : List (List Int)} {q n : Nat} (hS : ∀ i, i < L.length → Small (L.getD i []) ∧ (L.getD i []).length ≤ 960) (hn : L.length = n) (h1 : 1 ≤ q) (h2 : q + n ≤ 14400) (h3 : n ≤ 14) : SlotsOk (Rs L q n) := by
  refine ⟨by rw [Rs_len]; exact h3, fun i hi => ?_⟩
  rw [Rs_len] at hi
  rw [Rs_get hi]
  have hc := (hS i (by omega)).2
  exact ⟨by show 1 ≤ q + i; omega, by show q + i ≤ 14399; omega, Nat.le_trans (freeK_le _ _) hc, Nat.le_trans (firstN_le _) hc⟩
end Go.Proofs.YtbhjgcokpmiopaaGreat
namespace Go.Proofs.YtbhjgcokpmiopaaGreat
open Go.RowKit Go.Extern.Stop Go.Stop Go.Extern
set_option linter.unusedVariables false
attribute [local irreducible] wpList wpAnyH Code.wp Oper.wp Go

theorem alloc_AheadN (j : Nat) (B ba b g nn cc : Nat) (pa : Option Addr) (ca f N k0 : Nat) (bs : List UInt8) (w : World) (hC : AlC B ba nn cc ca f N) (hA : Al B ba b g nn cc pa ca f N k0 bs w) (hk : k0 ≤ N) (hN : N ≤ 1000000) (hj : j ≤ 1000000) (hjn : j ≤ N - k0) :
    Calls Tryz.prog 19 #[.pointer (some ⟨ba, 0, none⟩), .int .i64 (↑j : Int)] w (RetS (fun w' r => ∃ q c2, r = .slice q j c2 ∧ w'.ownsRow w.heap.size 3 1 (.slice q j c2) j ((((rngJ f N).drop k0).take j).map (Value.int .i64))) w) := by
  have h := alloc_Ahead B ba b pa N ca k0 j (rngJ f N) w ⟨hA.blkA, hA.nums, rngJ_len _ _, hC.hB, hN, hk⟩ hj
  rwa [Nat.min_eq_left hjn] at h
theorem tally_SplitN (n : Nat) (a : Option Addr) (c : Nat) (l : List Int) (w : World) (hn : l.length = n) (h : Sl w (.slice a n c) n (l.map (Value.int .i64))) (hl : n ≤ 65536) (hs : splitE l = 0) : Calls Tryz.prog 15 #[.slice a n c] w (fun e w' => ∃ pb cb gs po co, e = .returned (.tuple #[.slice pb (bmN n) cb, .slice po (overK l n).length co, .int .i64 0]) ∧ Below w.heap.size w w' ∧ Lists w' w.heap.size (.slice pb (bmN n) cb) gs (chunksI (smallL l) (bmN n)) ∧ w'.ownsRow w.heap.size 74 3 (.slice po (overK l n).length co) (overK l n).length ((overK l n).flatMap entC)) := by
  subst hn; exact tally_Split_ok a c l w h hl hs
theorem slots_PutN (n : Nat) (a : Option Addr) (c : Nat) (S : List (Nat × Nat × Nat)) (w : World) (hn : S.length = n) (hS : SlotsOk S) (h : Sts rsC w (.slice a S.length c) S) : Calls Tryz.prog 23 #[.slice a n c] w (RetS (fun w' r => ∃ p c, r = .tuple #[.slice p 244 c, .int .i64 0] ∧ w'.ownsRow w.heap.size 5 1 (.slice p 244 c) 244 ((idxB S).map bv)) w) := by
  subst hn; exact slots_Put a c S w hS h
end Go.Proofs.YtbhjgcokpmiopaaGreat
namespace Go.Proofs.YtbhjgcokpmiopaaGreat
open Go.RowKit Go.Extern.Stop Go.Stop Go.Extern
set_option linter.unusedVariables false
attribute [local irreducible] wpList wpAnyH Code.wp Oper.wp Go

theorem leB_get {n w i : Nat} (h : i < w) : (leB (n : Int) w).getD i 0 = UInt8.ofNat (n / 256 ^ i) := by simp [leB, byteAt, List.getD, List.getElem?_range h]
theorem rawN_leB {a b : List UInt8} {m w : Nat} (hm : m < 256 ^ w) : rawN (a ++ (leB (m : Int) w ++ b)) a.length w = m := by
  rw [rawN_bytes w a.length m (fun i hi => ?_), Nat.mod_eq_of_lt hm]
  rw [List.getD, List.getElem?_append_right (by omega), List.getElem?_append_left (by rw [leB_len]; omega), show a.length + i - a.length = i by omega]
  exact leB_get hi
/-- a slot's bytes, read -/
theorem slB_raws {x : Nat × Nat × Nat} (h1 : x.1 ≤ 14399) (h2 : x.2.1 ≤ 960) (h3 : x.2.2 ≤ 960) : rawsL slotP (slB x) = [x.1, x.2.1, x.2.2] := by
  have e0 : rawN (slB x) 0 8 = x.1 := by
    have h := rawN_leB (a := []) (b := leB (x.2.1 : Int) 4 ++ leB (x.2.2 : Int) 4) (m := x.1) (w := 8) (by omega)
    simpa [slB, List.append_assoc] using h
  have e1 : rawN (slB x) 8 4 = x.2.1 := by
    have h := rawN_leB (a := leB (x.1 : Int) 8) (b := leB (x.2.2 : Int) 4) (m := x.2.1) (w := 4) (by omega)
    rw [leB_len] at h
    simpa [slB, List.append_assoc] using h
  have e2 : rawN (slB x) 12 4 = x.2.2 := by
    have h := rawN_leB (a := leB (x.1 : Int) 8 ++ leB (x.2.1 : Int) 4) (b := []) (m := x.2.2) (w := 4) (by omega)
    rw [List.length_append, leB_len, leB_len] at h
    simpa [slB, List.append_assoc] using h
  show unpL (slB x) 0 [8, 4, 4] = _
  simp only [unpL]
  rw [e0, e1, e2]
theorem slB_ok {x : Nat × Nat × Nat} (h0 : 1 ≤ x.1) (h1 : x.1 ≤ 14399) (h2 : x.2.1 ≤ 960) (h3 : x.2.2 ≤ 960) : readE slotP (slB x) = 0 := by
  have hr : readOk slotP (slB x) = true := by
    unfold readOk
    rw [slB_raws h1 h2 h3, show slotP.length = 3 from rfl]
    unfold allIn
    rw [show List.range 3 = [0, 1, 2] from rfl]
    simp [inP, slotP]
    omega
  unfold readE
  rw [if_pos (by rw [slB_len]; rfl), if_pos hr]
theorem slB_val {x : Nat × Nat × Nat} (h0 : 1 ≤ x.1) (h1 : x.1 ≤ 14399) (h2 : x.2.1 ≤ 960) (h3 : x.2.2 ≤ 960) : readV slotP (slB x) = [x.1, x.2.1, x.2.2] := by
  unfold readV
  rw [if_pos (slB_ok h0 h1 h2 h3), slB_raws h1 h2 h3]
theorem idxP_pre (S : List (Nat × Nat × Nat)) (i : Nat) : ∀ k, ∃ t, idxP S (i + k) = idxP S i ++ t
  | 0 => ⟨[], by simp⟩
  | k + 1 => by
    obtain ⟨t, h⟩ := idxP_pre S i k
    exact ⟨t ++ slB (S.getD (i + k) rsD), by rw [← Nat.add_assoc, idxP_succ, h, List.append_assoc]⟩
theorem idxB_slot {S : List (Nat × Nat × Nat)} {i : Nat} (hi : i < S.length) : slotS (idxB S) i = slB (S.getD i rsD) := by
  obtain ⟨t, h⟩ := idxP_pre S (i + 1) (S.length - (i + 1))
  rw [show i + 1 + (S.length - (i + 1)) = S.length by omega, idxP_succ] at h
  unfold slotS idxB
  rw [h, List.append_assoc, List.append_assoc, List.drop_left' (idxP_len S i), List.take_left' (slB_len _)]
theorem idxB_cnt {S : List (Nat × Nat × Nat)} (h : S.length ≤ 15) : rawN (idxB S) 0 4 = S.length := by
  obtain ⟨t, ht⟩ := idxP_pre S 0 S.length
  rw [Nat.zero_add] at ht
  have h2 := rawN_leB (a := []) (b := t ++ List.replicate (244 - (4 + S.length * 16)) 0) (m := S.length) (w := 4) (by omega)
  unfold idxB
  rw [ht, show idxP S 0 = leB (S.length : Int) 4 from by simp [idxP], List.append_assoc]
  simpa using h2
theorem idxB_read {S : List (Nat × Nat × Nat)} (h : SlotsOk S) : idxE (idxB S) = 0 ∧ sltsL (idxB S) S.length = S := by
  have h15 := h.1
  have hv : ∀ i, i < S.length → readE slotP (slotS (idxB S) i) = 0 ∧ sltX (idxB S) i = S.getD i rsD := fun i hi => by
    obtain ⟨h0, h1, h2, h3⟩ := h.2 i hi
    constructor
    · rw [idxB_slot hi]; exact slB_ok h0 h1 h2 h3
    · unfold sltX slotK
      rw [idxB_slot hi, slB_val h0 h1 h2 h3]
      rfl
  have hz : zeroB ((idxB S).drop (4 + S.length * 16)) = true := by
    unfold idxB
    rw [List.drop_left' (idxP_len _ _)]
    exact zeroB_true fun j _ => zeros_get _ j
  have hs : ∀ n, n ≤ S.length → sltsE (idxB S) n = 0 := by
    intro n
    induction n with
    | zero => intro _; rfl
    | succ n ih => intro hn; exact sltsE_next (ih (by omega)) (hv n (by omega)).1
  constructor
  · unfold idxE idxOk
    rw [idxB_cnt (by omega), hz, decide_eq_true (by omega)]
    exact hs _ (Nat.le_refl _)
  · apply List.ext_getElem (by rw [sltsL_len])
    intro i h1 h2
    have := (hv i h2).2
    rw [show S.getD i rsD = S[i] from by simp [List.getD, h2]] at this
    simp [sltsL, this]
/-- a block of counts, read -/
theorem bitsB_cnt {l : List Int} (h : l.length ≤ 960) : rawN (bitsB l) 0 4 = l.length := by
  have h2 := rawN_leB (a := []) (b := (List.range 240).map (g4B l l.length)) (m := l.length) (w := 4) (by omega)
  simpa [bitsB, bitsT] using h2
theorem atI_all (l : List Int) (j : Nat) : atI l l.length j = l.getD j 0 := by
  unfold atI
  split
  · rfl
  · simp [List.getD, Nat.le_of_not_lt (by assumption)]
theorem bitsB_at {l : List Int} (h : Small l) {i : Nat} (hi : i < 960) : (bitN (bitsB l) i : Int) = l.getD i 0 := by
  unfold bitN
  rw [show (bitsB l).getD (4 + i / 4) 0 = g4B l l.length (i / 4) from bitsT_at l l.length (by omega)]
  have b0 := getI_bd h (4 * (i / 4))
  have b1 := getI_bd h (4 * (i / 4) + 1)
  have b2 := getI_bd h (4 * (i / 4) + 2)
  have b3 := getI_bd h (4 * (i / 4) + 3)
  unfold g4B g4
  rw [atI_all, atI_all, atI_all, atI_all, UInt8.toNat_ofNat']
  obtain e | e | e | e : i % 4 = 0 ∨ i % 4 = 1 ∨ i % 4 = 2 ∨ i % 4 = 3 := by omega
  · rw [show l.getD i 0 = l.getD (4 * (i / 4)) 0 by rw [show 4 * (i / 4) = i by omega], e, show 2 ^ (0 * 2) = 1 from rfl]; omega
  · rw [show l.getD i 0 = l.getD (4 * (i / 4) + 1) 0 by rw [show 4 * (i / 4) + 1 = i by omega], e, show 2 ^ (1 * 2) = 4 from rfl]; omega
  · rw [show l.getD i 0 = l.getD (4 * (i / 4) + 2) 0 by rw [show 4 * (i / 4) + 2 = i by omega], e, show 2 ^ (2 * 2) = 16 from rfl]; omega
  · rw [show l.getD i 0 = l.getD (4 * (i / 4) + 3) 0 by rw [show 4 * (i / 4) + 3 = i by omega], e, show 2 ^ (3 * 2) = 64 from rfl]; omega
theorem bitsB_ok {l : List Int} (h : Small l) (hl : l.length ≤ 960) : bitsOkB (bitsB l) = true := by
  rw [bitsOkB_iff]
  refine ⟨bitsT_len _ _, by rw [bitsB_cnt hl]; exact hl, fun i hi hc => ?_⟩
  rw [bitsB_cnt hl] at hc
  have := bitsB_at h hi
  rw [show l.getD i 0 = 0 from by simp [List.getD, hc]] at this
  omega
theorem putB_ge (l x : List UInt8) (k : Nat) : l.length ≤ (putB l k x).length := by simp [putB]; omega
theorem cntsB_ge (L : List (List Int)) (q : Nat) (bs : List UInt8) : ∀ i, bs.length ≤ (cntsB L q bs i).length
  | 0 => Nat.le_refl _
  | i + 1 => Nat.le_trans (cntsB_ge L q bs i) (putB_ge _ _ _)
theorem levB_ge (t : Int) (leaf : Bool) (m v : Nat) (l : List Ent) (q : Nat) (bs : List UInt8) : ∀ i, bs.length ≤ (levB t leaf m v l q bs i).length
  | 0 => Nat.le_refl _
  | i + 1 => Nat.le_trans (levB_ge t leaf m v l q bs i) (putB_ge _ _ _)
theorem treeUp_ge {t : Int} {u : List Ent} {q : Nat} {bs : List UInt8} : bs.length ≤ (treeUp t u q bs).2.length := by
  induction hx : u.length using Nat.strongRecOn generalizing u q bs with
  | _ x ih =>
    subst hx
    by_cases h : u.length ≤ 1
    · rw [treeUp_one h]; exact Nat.le_refl _
    · have h18 := ov18 (x := u.length) (by omega)
      rw [treeUp_more h]
      exact Nat.le_trans (levB_ge _ _ _ _ _ _ _ _) (ih (ovN u.length 18) (by omega) (upE_len _ _ _ _))
theorem treeB_ge (t : Int) (l : List Ent) (q : Nat) (bs : List UInt8) : bs.length ≤ (treeB t l q bs).2.length := Nat.le_trans (levB_ge _ _ _ _ _ _ _ _) treeUp_ge
/-- a block of counts laid is there -/
theorem cntsB_blk {L : List (List Int)} {q m : Nat} {bs : List UInt8} : ∀ {n i : Nat}, (cntsB L q bs n).length / 256 = m → bs.length / 256 = m → q + n ≤ m → i < n → blkB (cntsB L q bs n) (q + i) = sealB 3 ((q + i : Nat) : Int) (bitsB (L.getD i []))
  | 0, i, _, _, _, hi => absurd hi (by omega)
  | n + 1, i, h, hb, hm, hi => by
    have h1 := cntsB_ge L q bs n
    have h2 := putB_ge (cntsB L q bs n) (sealB 3 ((q + n : Nat) : Int) (bitsB (L.getD n []))) ((q + n) * 256)
    have h0 : (cntsB L q bs n).length / 256 = m := by
      have h3 : (putB (cntsB L q bs n) ((q + n) * 256) (sealB 3 ((q + n : Nat) : Int) (bitsB (L.getD n [])))).length / 256 = m := h
      have h4 := Nat.div_le_div_right (c := 256) h1
      have h5 := Nat.div_le_div_right (c := 256) h2
      omega
    have hx : (sealB 3 ((q + n : Nat) : Int) (bitsB (L.getD n []))).length = 256 := sealB_len (by unfold bitsB; rw [bitsT_len]; decide)
    show blkB (putB (cntsB L q bs n) ((q + n) * 256) (sealB 3 ((q + n : Nat) : Int) (bitsB (L.getD n [])))) (q + i) = _
    by_cases e : i = n
    · subst e; exact blkB_put hx (by omega)
    · rw [blkB_put_other hx (by omega) (by omega) (by omega)]
      exact cntsB_blk h0 hb (by omega) (by omega)
theorem seal_in {l : List UInt8} {kind : Int} {k : Nat} {li : List UInt8} (h1 : 1 ≤ kind) (h2 : kind ≤ 4) (hk : k < l.length / 256) (h4 : k < 14400) (hli : li.length = 244) (hb : blkB l k = sealB kind (k : Int) li) : inE l kind (k : Int) = 0 ∧ inB l (k : Int) = li := by
  constructor
  · rw [inE_in rfl rfl hk, hb]; exact open_seal h1 h2 (by omega) (by omega) (by omega)
  · rw [inB_in rfl, hb, in_seal (by omega)]; unfold inSeal; rw [hli, Nat.sub_self]; simp
/-- counts of which the first are 1 -/
def selfL (u n : Nat) : List Int := (List.range n).map fun i => if i < u then 1 else 0
theorem selfL_len (u n : Nat) : (selfL u n).length = n := by simp [selfL]
theorem selfL_get {u n i : Nat} (h : i < n) : (selfL u n).getD i 0 = if i < u then 1 else 0 := by simp [selfL, List.getD, List.getElem?_range h]
theorem selfL_bd (u n i : Nat) : 0 ≤ (selfL u n).getD i 0 ∧ (selfL u n).getD i 0 ≤ 1 := by
  by_cases h : i < n
  · rw [selfL_get h]; split <;> omega
  · rw [show (selfL u n).getD i 0 = 0 from by simp [selfL, List.getD, Nat.le_of_not_lt h]]; omega
theorem selfL_over (u n k : Nat) : overK (selfL u n) k = [] := by
  induction k with
  | zero => rfl
  | succ k ih => rw [overK_no (by have := selfL_bd u n k; omega), ih]
theorem selfL_split {u n : Nat} (h : n ≤ 65536) : splitE (selfL u n) = 0 := by
  unfold splitE
  rw [if_neg (by rw [selfL_len]; omega), if_pos fun k _ => by have := selfL_bd u n k; unfold cntOk; omega]
theorem selfL_free {u n : Nat} : FreeOk (selfL u n) (u : Int) := fun i hi => by
  rw [selfL_len] at hi
  rw [selfL_get hi]
  constructor
  · intro h; rw [if_neg (by omega)]
  · split <;> omega
theorem selfL_bump (u n m : Nat) : bumpL (selfL u n) u m = selfL (u + m) n := by
  apply List.ext_getElem (by rw [bumpL_len, selfL_len, selfL_len])
  intro i h1 h2
  have hi : i < n := by rw [selfL_len] at h2; exact h2
  have e := bumpL_get (l := selfL u n) (f := u) (n := m) (i := i) (by rw [selfL_len]; exact hi)
  rw [show (bumpL (selfL u n) u m).getD i 0 = (bumpL (selfL u n) u m)[i] from by simp [List.getD, h1]] at e
  rw [e, selfL_get hi]
  have e2 := selfL_get (u := u + m) hi
  rw [show (selfL (u + m) n).getD i 0 = (selfL (u + m) n)[i] from by simp [List.getD, h2]] at e2
  rw [e2]
  by_cases q1 : i < u
  · rw [if_pos q1, if_neg (by omega), if_pos (by omega)]; rfl
  · by_cases q2 : i < u + m
    · rw [if_neg q1, if_pos (by omega), if_pos (by omega)]; rfl
    · rw [if_neg q1, if_neg (by omega), if_neg (by omega)]; rfl
theorem selfL_small (u n : Nat) : smallL (selfL u n) = selfL u n := by
  unfold smallL
  rw [List.map_congr_left (g := id) (fun x hx => ?_), List.map_id]
  obtain ⟨i, hi, rfl⟩ := List.mem_map.1 hx
  unfold mn3
  by_cases h : i < u
  · rw [if_pos h]; rfl
  · rw [if_neg h]; rfl
theorem selfL_Small (u n : Nat) : Small (selfL u n) := fun x hx => by
  obtain ⟨i, hi, rfl⟩ := List.mem_map.1 hx
  split <;> omega
theorem selfL_chunk {u n i k : Nat} (h : k < (chunkI (selfL u n) i).length) : (chunkI (selfL u n) i).getD k 0 = if i * 960 + k < u then 1 else 0 := by
  rw [chunkI_len, selfL_len] at h
  have e : (chunkI (selfL u n) i).getD k 0 = (selfL u n).getD (i * 960 + k) 0 := by
    unfold chunkI
    simp only [List.getD]
    rw [List.getElem?_take, if_pos (by omega), List.getElem?_drop]
  rw [e, selfL_get (by omega)]
theorem nodN5_0 : nodN 5 0 = 1 := by
  unfold nodN levL
  rw [show ovN 0 (maxN 5 true) = 1 from by decide, levs_one (by decide)]
  rfl
end Go.Proofs.YtbhjgcokpmiopaaGreat
namespace Go.Proofs.YtbhjgcokpmiopaaGreat
open Go.RowKit Go.Extern.Stop Go.Stop Go.Extern
set_option linter.unusedVariables false
attribute [local irreducible] wpList wpAnyH Code.wp Oper.wp Go

theorem plot_layMN (B ba b g nn cc : Nat) (pa : Option Addr) (ca f N k0 : Nat) (bs : List UInt8) (bl B2 : Nat) (pl : Option Addr) (cl : Nat) (gs : List (Nat × Nat)) (L : List (List Int)) (n : Nat) (hn : L.length = n) (w : World) (hC : AlC B ba nn cc ca f N) (hA : Al B ba b g nn cc pa ca f N k0 bs w) (hL : Lists w B2 (.slice pl n cl) gs L) (hS : ∀ i, i < L.length → Small (L.getD i []) ∧ (L.getD i []).length ≤ 960) (hf1 : 1 ≤ f) (hk : k0 + n ≤ N) (kl : Blk w bl [.slice none 0 0] 31) (hBl : B ≤ bl) (hBw : B ≤ w.heap.size) :
    Calls Tryz.prog 21 #[.pointer (some ⟨ba, 0, none⟩), .slice pl n cl, .func (.func 22) #[] #[.pointer (some ⟨bl, 0, none⟩)]] w (fun e w' => ∃ p c, e = .returned .nilIface ∧ Below B w w' ∧ Only [64, 5, 31, 39] w w' ∧ Fr ([ba, g] ++ [bl]) w w' ∧ Al B ba b g nn cc pa ca f N (k0 + n) (cntsB L (f + k0) bs n) w' ∧ Blk w' bl [.slice p n c] 31 ∧ w'.ownsRow w.heap.size 39 3 (.slice p n c) n (rsL L (f + k0) n)) := by
  subst hn; exact plot_layM B ba b g nn cc pa ca f N k0 bs bl B2 pl cl gs L w hC hA hL hS hf1 hk kl hBl hBw
def MetaP (B ba b g nn cc : Nat) (pa : Option Addr) (ca f N k0 : Nat) (bs : List UInt8) (l : List Int) (w : World) (e : Ending) (w' : World) : Prop :=
  e = .returned (.tuple #[.int .i64 (metaB l f k0 bs).1, .int .i64 (metaB l f k0 bs).2.1, .nilIface]) ∧ Below B w w' ∧ Only [64, 5, 31, 39, 26] w w' ∧ Fr [ba, g] w w' ∧ Al B ba b g nn cc pa ca f N (k0 + needM l) (metaB l f k0 bs).2.2 w'
set_option maxRecDepth 100000 in
set_option maxHeartbeats 8000000 in
theorem plot_Meta (B ba b g nn cc : Nat) (pa : Option Addr) (ca f N k0 : Nat) (bs : List UInt8) (a : Addr) (c : Nat) (l : List Int) (w : World) (hC : AlC B ba nn cc ca f N) (hA : Al B ba b g nn cc pa ca f N k0 bs w) (h : Sl w (.slice (some a) l.length c) l.length (l.map (Value.int .i64))) (hl : l.length ≤ 3000) (hlen : l.length = nn / 256) (hs : splitE l = 0) (hkN : k0 ≤ N) (hk : k0 + needM l ≤ N) (hf1 : 1 ≤ f) (hfree : FreeOk l (f : Int)) (hfree2 : FreeOk l ((f + k0 : Nat) : Int)) (hBw : B ≤ w.heap.size) :
    Calls Tryz.prog 5 #[.pointer (some ⟨ba, 0, none⟩), .slice (some a) l.length c] w (MetaP B ba b g nn cc pa ca f N k0 bs l w) := by
 have hW : Sin w w := ⟨Below.refl _ _⟩
 have hcf := hC.hf
 have hcn := hC.hn
 have hsp := splitE_ok hs
 have hol := overK_len l l.length
 have hpn : needM l = (nodN 5 (overK l l.length).length) + (bmN l.length) + 1 := rfl
 have hn5 := nodN_le 5 (overK l l.length).length
 have hnb : bmN l.length ≤ 4 := by unfold bmN; omega
 have hsB : splitE (bumpL l (f + k0) (needM l)) = 0 := by unfold splitE; rw [if_neg (by rw [bumpL_len]; omega), if_pos (bumpL_ok hfree2 hsp.2)]
 have hcs := chunks_small (bumpL_ok (n := needM l) hfree2 hsp.2) (bmN l.length)
 refine zin 120 Tryz.func5 ?_
 refine xr 10 (args := #[.pointer (some ⟨ba, 0, none⟩)]) (alloc_Image ba b _ _ _ (hA.below hW.b).blkA) fun W1 hb1 => ?_
 have hW'1 := hW.below hb1
 refine xr 19 (args := #[.pointer (some ⟨b, 0, none⟩)]) (image_Blocks b _ nn cc _ (hA.below hW'1.b).blkI (by omega)) fun W2 hb2 => ?_
 refine xk 3 (show (((↑l.length : Int) != (↑(nn / 256) : Int)) : Bool) = false from by rw [hlen]; simp) ?_
 have hW'2 := hW'1.below hb2
 refine xc 5 (args := #[.slice (some a) l.length c]) (tally_SplitN l.length (some a) c l _ rfl (Sl.below h hW'2.b) (by omega) hs) ?_
 rintro _ W3 ⟨pb0, cb0, gs0, po, co, rfl, hb3, hL0, hov⟩
 have hs3 := (Bl.nextB (Bl.nextB (Below.refl B w) hBw hb1) hBw hb2).size
 refine xr 23 (args := #[.int .i64 5, .int .i64 (↑((overK l l.length).length) : Int)]) (tall_Nodes 5 (overK l l.length).length _ (by decide) (by decide) (by omega)) fun W4 hb4 => ?_
 refine xr 2 (args := #[.int .i64 (↑l.length : Int)]) (size_Bitmaps l.length _ (by omega)) fun W5 hb5 => ?_
 refine xwm 0 ((↑(nodN 5 (overK l l.length).length) : Int) + (↑(bmN l.length) : Int)) (↑((nodN 5 (overK l l.length).length) + (bmN l.length)) : Int) ?_
 refine xwm 0 ((↑((nodN 5 (overK l l.length).length) + (bmN l.length)) : Int) + 1) (↑(((nodN 5 (overK l l.length).length) + (bmN l.length)) + 1) : Int) ?_
 have hW'3 := ((hW'2.below hb3).below hb4).below hb5
 refine xr 7 (args := #[.pointer (some ⟨ba, 0, none⟩)]) (alloc_Left ba b pa N ca k0 _ (hA.below hW'3.b).blkA hkN) fun W6 hb6 => ?_
 refine xk 4 (show (decide ((↑(N - k0) : Int) < (↑(((nodN 5 (overK l l.length).length) + (bmN l.length)) + 1) : Int)) : Bool) = false from decide_eq_false (by omega)) ?_
 have hW'4 := hW'3.below hb6
 have hsc := hW'4.b.size
 refine xc 5 (args := #[.slice (some a) l.length c]) (clone_cnt a l.length c (l.map (Value.int .i64)) _ (Sl.below h hW'4.b) (by simp) (ints_one _) (by omega)) ?_
 rintro _ W7 ⟨_, rfl, hb7, qb, cq, rfl, hbm0⟩
 have hs7 := (Bl.nextB (Bl.nextB (Bl.nextB (Bl.nextB (Bl.nextB (Bl.nextB (Below.refl B w) hBw hb1) hBw hb2) hBw hb3) hBw hb4) hBw hb5) hBw hb6).size
 have hbm := own_mono hbm0 hsc
 have hW'5 := hW'4.below hb7
 have hsw := hW'5.b.size
 have hbm1 := hbm
 refine xc 8 (args := #[.pointer (some ⟨ba, 0, none⟩), .int .i64 (↑(((nodN 5 (overK l l.length).length) + (bmN l.length)) + 1) : Int)]) (alloc_AheadN (needM l) B ba b g nn cc pa ca f N k0 bs _ hC (hA.below hW'5.b) hkN (by omega) (by omega) (by omega)) ?_
 rintro _ W8 ⟨_, rfl, hb8, qa, ca2, rfl, hah0⟩
 have hs8 := (Bl.nextB (Bl.nextB (Bl.nextB (Bl.nextB (Bl.nextB (Bl.nextB (Bl.nextB (Below.refl B w) hBw hb1) hBw hb2) hBw hb3) hBw hb4) hBw hb5) hBw hb6) hBw hb7).size
 have hAp := Apart.of_lt hbm1 hah0 (Nat.le_refl _)
 have hah := own_mono hah0 hsw
 have hbm'1 := own_below hbm hb8
 obtain ⟨gb, rfl, hgc⟩ := own_someN hbm'1 (by omega)
 have hov'1 := own_below (own_below (own_below (own_below (own_below (own_mono hov hs3) hb4) hb5) hb6) hb7) hb8
 have hW'6 := hW'5.below hb8
 have hB := Bl.nextB (Bl.nextB (Bl.nextB (Bl.nextB (Bl.nextB (Bl.nextB (Bl.nextB (Bl.nextB (Below.refl B w) hBw hb1) hBw hb2) hBw hb3) hBw hb4) hBw hb5) hBw hb6) hBw hb7) hBw hb8
 have hX := (((((((show Fr [ba, g] w _ from (Fr.of_below hb1)).trans (Fr.of_below hb2)).trans (Fr.of_below hb3)).trans (Fr.of_below hb4)).trans (Fr.of_below hb5)).trans (Fr.of_below hb6)).trans (Fr.of_below hb7)).trans (Fr.of_below hb8)
 have hO := (((((((show Only [64, 5, 31, 39, 26] w _ from (Only.of_below hb1)).trans (Only.of_below hb2)).trans (Only.of_below hb3)).trans (Only.of_below hb4)).trans (Only.of_below hb5)).trans (Only.of_below hb6)).trans (Only.of_below hb7)).trans (Only.of_below hb8)
 refine zl 5 120 (fun zm zkv V => ∃ (i : Nat), zkv = [(0, .pointer (some ⟨ba, 0, none⟩)), (4, .int .i64 0), (5, .int .i64 0), (6, .nilIface), (9, .slice po ((overK l l.length).length) co), (10, .int .i64 0), (12, .slice (some ⟨gb, 0, none⟩) l.length cq), (61, .slice qa (needM l) ca2), (62, .int .i64 (↑(needM l) : Int)), (63, .int .i64 (↑i : Int))] ∧ zm = needM l - ((↑i : Int)).toNat ∧ Below B w V ∧ Fr [ba, g] w V ∧ Only [64, 5, 31, 39, 26] w V ∧ V.ownsRow w.heap.size 3 1 (.slice (some ⟨gb, 0, none⟩) l.length cq) l.length ((bumpL l (f + k0) i).map (Value.int .i64)) ∧ V.ownsRow w.heap.size 3 1 (.slice qa (needM l) ca2) (needM l) ((((rngJ f N).drop k0).take (needM l)).map (Value.int .i64)) ∧ V.ownsRow w.heap.size 74 3 (.slice po ((overK l l.length).length) co) ((overK l l.length).length) ((overK l l.length).flatMap entC) ∧ Sin w V ∧ i ≤ needM l) ⟨0, rfl, rfl, hB, hX, hO, (by rw [bumpL_zero]; exact hbm'1), hah, hov'1, hW'6, Nat.zero_le _⟩ ?_
 rintro _ _ W9 ⟨i, rfl, rfl, hB_9, hX_9, hO_9, hbm, hah, hov, hW, hi⟩ J9 hJ9 r9
 have hz0 : i < needM l → l.getD (f + k0 + i) 0 = 0 := fun q => (hfree (f + k0 + i) (by omega)).1 (by omega)
 refine xid 6 ((↑i : Int) < (↑(needM l) : Int)) (fun hc10 => ?_) (fun hc10 => ?_)
 · refine xx 6 _ (needM l) i 1 (ahead_elem (own_sl hah) (by omega) (i := i) (by omega)).1 ?_
   refine xl 0 ((ahead_elem (own_sl hah) (by omega) (i := i) (by omega)).2) ?_
   refine xx 6 _ l.length (f + k0 + i) 1 (bump_elem (own_sl hbm) rfl (q := f + k0) (i := i) (by omega)).1 ?_
   refine xl 0 ((bump_elem (own_sl hbm) rfl (q := f + k0) (i := i) (by omega)).2) ?_
   refine xw 0 ((l.getD (f + k0 + i) 0) + 1) ?_
   refine xx 0 _ l.length (f + k0 + i) 1 (bump_elem (own_sl hbm) rfl (q := f + k0) (i := i) (by omega)).1 ?_
   refine xst 0 fun _ _ _ _ zJ zQ zo zx zy zK => op_storeRow (t := 3) (k := (f + k0 + i)) (v := .int .i64 ((l.getD (f + k0 + i) 0) + 1)) zo zx zy (by kernel_rfl) rfl hbm (by omega) fun W11 u11 o11 => ?_
   rw [bumpL_set (l := l) (f := f + k0) (j := i) (by omega)] at o11
   refine zK _ _ ?_
   refine xwm 4 ((↑i : Int) + 1) (↑(i + 1) : Int) ?_
   have hB'1 := u11.below hB_9 (Nat.le_trans hBw (own_ge hbm))
   have hX'1 := (Fr.upd_new hX_9 u11 (own_ge hbm))
   have hO'1 := (Only.upd_new hO_9 u11 (own_ge hbm))
   have hah'1 := u11.own3 hah (fun j hj e => hAp _ rfl (e ▸ hj))
   have hov'2 := u11.ownRow hov hbm (by decide)
   have hW'7 := hW.upd u11 (own_ge hbm)
   exact ze 2 (hJ9 _ _ _ ⟨i + 1, rfl, rfl, hB'1, hX'1, hO'1, o11, hah'1, hov'2, hW'7, by omega⟩ (by omega))
 refine xc 9 (args := #[.pointer (some ⟨ba, 0, none⟩), .int .i64 5, .slice po ((overK l l.length).length) co]) (build_TreeN B ba b g nn cc pa ca f N k0 bs 5 po co (overK l l.length) (overK l l.length).length _ rfl hC (hA.below hW.b) (by decide) (by decide) (over_ents _ _ (by omega)) (by omega) hf1 (by omega) (by omega) (fun W _ h2 => own_sl (own_only hov h2 (by decide))) (Nat.le_trans hBw hB_9.size)) ?_
 rintro _ W12 ⟨rfl, hb12, hO12, hX12, hA2⟩
 have hbm'2 := own_only hbm hO12 (by decide)
 refine xc 20 (args := #[.slice (some ⟨gb, 0, none⟩) l.length cq]) (tally_SplitN l.length (some ⟨gb, 0, none⟩) cq (bumpL l (f + k0) (needM l)) _ (bumpL_len _ _ _) (by have hh := own_sl hbm'2; rw [show i = needM l by omega] at hh; exact hh) (by omega) hsB) ?_
 rintro _ W13 ⟨pb, cb, gs, po3, co3, rfl, hb13, hL, hov3⟩
 refine xa 21 [.slice none 0 0] 31 fun b14 W14 n14 => ?_
 have hB'2 := Bl.nextB (hB_9.trans hb12) hBw hb13
 have g14 := n14.ge0 hB'2
 have hA2'1 := (hA2.below hb13).below n14.below
 have hL'1 := hL.below n14.below
 have hB'3 := Bl.nextB hB'2 hBw n14.below
 refine xc 8 (args := #[.pointer (some ⟨ba, 0, none⟩), .slice pb (bmN l.length) cb, .func (.func 22) #[] #[.pointer (some ⟨b14, 0, none⟩)]]) (plot_layMN B ba b g nn cc pa ca f N (k0 + (nodN 5 (overK l l.length).length)) (treeB 5 (overK l l.length) (f + k0) bs).2 b14 _ pb cb gs (chunksI (smallL (bumpL l (f + k0) (needM l))) (bmN l.length)) (bmN l.length) (chunksI_len _ _) _ hC hA2'1 hL'1 hcs hf1 (by omega) n14.blk (Nat.le_trans hBw g14) (Nat.le_trans hBw hB'3.size)) ?_
 rintro _ W15 ⟨p8, c8, rfl, hb15, hO15, hX15, hA2, kln, hsl⟩
 have hs15 := (Bl.nextB hB'2 hBw n14.below).size
 refine xb 14 0 kln ?_
 have hsl'1 := own_mono hsl hs15
 refine xc 0 (args := #[.slice p8 (bmN l.length) c8]) (slots_PutN (bmN l.length) p8 c8 (Rs (chunksI (smallL (bumpL l (f + k0) (needM l))) (bmN l.length)) (f + (k0 + (nodN 5 (overK l l.length).length))) (bmN l.length)) _ (Rs_len _ _ _) (rs_ok hcs (chunksI_len _ _) (by omega) (by omega) (by omega)) (Rs_sts (own_sl hsl'1))) ?_
 rintro _ W16 ⟨_, rfl, hb16, pz, cz, rfl, hkb⟩
 have hs16 := (hB'3.trans hb15).size
 have hA2'2 := hA2.below hb16
 have hO'2 := ((((hO_9.trans (hO12.wide)).trans (Only.of_below hb13)).trans (Only.of_below n14.below)).trans (hO15.wide)).trans (Only.of_below hb16)
 have hkb'1 := own_mono hkb hs16
 have hB'4 := Bl.nextB (hB'3.trans hb15) hBw hb16
 refine xc 21 (args := #[.pointer (some ⟨ba, 0, none⟩), .int .i64 4, .slice pz 244 cz]) (alloc_LayQ B ba b g nn cc pa ca f N (k0 + (nodN 5 (overK l l.length).length) + (bmN l.length)) (cntsB (chunksI (smallL (bumpL l (f + k0) (needM l))) (bmN l.length)) (f + (k0 + (nodN 5 (overK l l.length).length))) (treeB 5 (overK l l.length) (f + k0) bs).2 (bmN l.length)) 4 pz cz (idxB (Rs (chunksI (smallL (bumpL l (f + k0) (needM l))) (bmN l.length)) (f + (k0 + (nodN 5 (overK l l.length).length))) (bmN l.length))) (f + (k0 + (nodN 5 (overK l l.length).length) + (bmN l.length))) 244 _ rfl (idxB_len (by rw [Rs_len]; omega)) hC hA2'2 (by omega) (by decide) (by decide) (fun W _ hO'2 => bys_of (own_sl (own_only hkb'1 hO'2 (by decide))) (idxB_len (by rw [Rs_len]; omega))) (by decide) (Nat.le_trans hBw hB'4.size)) ?_
 rintro _ W17 ⟨rfl, hb17, hO17, hX17, hA2⟩
 have hB'5 := hB'4.trans hb17
 have hO'3 := hO'2.trans (hO17.wide)
 have hX'2 := ((Fr.trans_new (((hX_9.trans (hX12.mono (by simp))).trans (Fr.of_below hb13)).trans (Fr.of_below n14.below)) hX15 g14).trans (Fr.of_below hb16)).trans (hX17.mono (by simp))
 refine xe 27 (.tuple #[.int .i64 (↑(f + (k0 + (nodN 5 (overK l l.length).length) + (bmN l.length))) : Int), .int .i64 ((treeB 5 (overK l l.length) (f + k0) bs).1), .nilIface]) ?_
 have e1 : f + (k0 + (nodN 5 (overK l l.length).length) + (bmN l.length)) = f + k0 + (nodN 5 (overK l l.length).length) + (bmN l.length) := by omega
 have e2 : f + (k0 + (nodN 5 (overK l l.length).length)) = f + k0 + (nodN 5 (overK l l.length).length) := by omega
 rw [e1, e2] at hA2
 rw [e1]
 have e3 : k0 + (nodN 5 (overK l l.length).length) + (bmN l.length) + 1 = k0 + needM l := by omega
 rw [e3] at hA2
 refine ⟨?_, hB'5, hO'3, hX'2, ?_⟩
 · unfold metaB; rw [needM_nb]
 · unfold metaB; rw [needM_nb]; exact hA2
end Go.Proofs.YtbhjgcokpmiopaaGreat
namespace Go.Proofs.YtbhjgcokpmiopaaGreat
open Go.RowKit Go.Extern.Stop Go.Stop Go.Extern
set_option linter.unusedVariables false
attribute [local irreducible] wpList wpAnyH Code.wp Oper.wp Go

set_option maxRecDepth 100000 in
set_option maxHeartbeats 1000000 in
theorem law22_made (N f : Nat) (w : World) (hN : N ≤ 14400) (h1 : 1 ≤ f) (h2 : f ≤ N) :
    Calls Tryz.prog 4 #[.int .i64 (↑N : Int), .int .i64 (↑f : Int)] w (RetS (fun w' r => ∃ ba b g c pa ca, r = .pointer (some ⟨ba, 0, none⟩) ∧ AlC w.heap.size ba (256 * N) c ca f (N - f) ∧ Al w.heap.size ba b g (256 * N) c pa ca f (N - f) 0 (List.replicate (256 * N) (0 : UInt8)) w') w) := by
 refine zin 17 Tryz.func4 ?_
 refine xwm 8 (256 * (↑N : Int)) (↑(256 * N) : Int) ?_
 refine xmk 0 fun _ _ _ _ zJ zQ zo zx zy zK => op_make (256 * N) (.int .u8 0) 1 1 ((List.replicate (256 * N) (0 : UInt8)).map bv) zo zx zy Tryz.underlying45 (by kernel_rfl) rfl (by omega) (by omega) (zerosB (256 * N)) fun b1 W1 n1 => ?_
 refine zK _ _ ?_
 have o1 := own_of_blk (size := 1) (n := (256 * N)) n1.blk (n1.ge (Below.refl w.heap.size _)) (by rw [List.length_map, List.length_replicate, Nat.mul_one]) (by unfold maxLen; omega)
 refine xc 0 (args := #[.slice (some ⟨b1, 0, none⟩) (256 * N) (256 * N)]) (image_OfN (some ⟨b1, 0, none⟩) (256 * N) (256 * N) (256 * N) (List.replicate (256 * N) (0 : UInt8)) _ List.length_replicate (by omega) (bys_of (own_sl o1) List.length_replicate) (by omega) (Nat.le_refl _)) ?_
 rintro _ W2 ⟨_, rfl, hb2, bi, pi, ci, rfl, gi, ki, hd⟩
 have hd'1 := own_mono hd n1.below.size
 rw [List.take_of_length_le (by rw [List.length_replicate]; omega)] at hd'1
 obtain ⟨g, rfl, hci⟩ := own_someN hd'1 (by omega)
 have hB := Bl.next n1.below hb2
 have hs9 := hB.size
 refine xc 1 (args := #[.pointer (some ⟨bi, 0, none⟩), .int .i64 (↑f : Int)]) (alloc_NewN bi (some ⟨g, 0, none⟩) (256 * N) ci f (N - f) (f : Int) rfl (by omega) _ ki (by omega) h1 (by omega)) ?_
 rintro _ W3 ⟨_, rfl, hb3, ba, pa, ca, rfl, ga, ka, ho⟩
 replace ga := Nat.le_trans hs9 ga
 have ki'1 := ki.below hb3
 have hd'2 := own_below hd'1 hb3
 have ho'1 := own_mono ho hB.size
 have hA : Al w.heap.size ba bi g (256 * N) ci pa ca f (N - f) 0 (List.replicate (256 * N) (0 : UInt8)) _ := ⟨ka, ki'1, hd'2, ho'1⟩
 have hca : N - f ≤ ca := by
   rcases Nat.eq_zero_or_pos (N - f) with q | q
   · omega
   · exact own_cap ho'1 q
 have hC : AlC w.heap.size ba (256 * N) ci ca f (N - f) := ⟨by omega, hci, hca, by omega, ga⟩
 have hB'1 := Bl.next hB hb3
 exact xe 14 (.pointer (some ⟨ba, 0, none⟩)) ⟨_, rfl, hB'1, _, _, _, _, _, _, rfl, hC, hA⟩
theorem madeN22 (N f : Nat) (Ni fi : Int) (hNi : Ni = (N : Int)) (hfi : fi = (f : Int)) (w : World) (hN : N ≤ 14400) (h1 : 1 ≤ f) (h2 : f ≤ N) :
    Calls Tryz.prog 4 #[.int .i64 Ni, .int .i64 fi] w (RetS (fun w' r => ∃ ba b g c pa ca, r = .pointer (some ⟨ba, 0, none⟩) ∧ AlC w.heap.size ba (256 * N) c ca f (N - f) ∧ Al w.heap.size ba b g (256 * N) c pa ca f (N - f) 0 (List.replicate (256 * N) (0 : UInt8)) w') w) := by
  subst hNi hfi; exact law22_made N f w hN h1 h2
theorem nodN_0 (t : Int) (h : 1 ≤ maxN t true) : nodN t 0 = 1 := by
  unfold nodN levL
  rw [show ovN 0 (maxN t true) = 1 from by unfold ovN; rw [Nat.div_eq_of_lt (by omega)]; rfl, levs_one (by decide)]; rfl
theorem plotB_root {l : List Int} {q : Nat} {bs : List UInt8} (hq : 1 ≤ q) : (plotB l q bs).2.1 = ((q + plotN l - 1 : Nat) : Int) := by
  unfold plotB
  simp only
  rw [treeB_root (by omega)]
  unfold plotN
  congr 1; omega
theorem plotB_index {l : List Int} {q : Nat} {bs : List UInt8} (hq : 1 ≤ q) : (plotB l q bs).1 = ((q + bmN l.length + nodN 4 (bmN l.length) - 1 : Nat) : Int) := by
  unfold plotB
  simp only
  rw [treeB_root (by omega), slotsE_len]
theorem bmN_0 : bmN 0 = 0 := rfl
theorem plotN_nil : plotN [] = 2 := by
  unfold plotN
  rw [show bmN ([] : List Int).length = 0 from rfl, nodN_0 4 (by decide), show (overK [] ([] : List Int).length).length = 0 from rfl, nodN_0 5 (by decide)]
set_option maxRecDepth 100000 in
set_option maxHeartbeats 4000000 in
theorem lives22 (w : World) :
    Calls Tryz.prog 11 #[] w (Ret (.bool true) w) := by
 refine zin 29 Tryz.func11 ?_
 have hs1 : w.heap.size ≤ (w).heap.size := (Below.refl w.heap.size _).size
 refine xc 7 (args := #[.int .i64 9, .int .i64 5]) (madeN22 9 5 (9) (5) (by simp) rfl _ (by decide) (by decide) (by decide)) ?_
 rintro _ W1 ⟨_, rfl, hb1, ba, b, g, c, pa, ca, rfl, hC, hA⟩
 have hs1 := Nat.le_refl w.heap.size
 replace hC := hC.mono hs1
 replace hA := hA.mono hs1
 refine xc 16 (args := #[.pointer (some ⟨ba, 0, none⟩), .slice none 0 0]) (plot_Data w.heap.size ba b g _ c pa ca 5 _ 0 (List.replicate (256 * 9) (0 : UInt8)) none 0 [] _ hC hA (.inl ⟨_, _, rfl, rfl, rfl⟩) (by decide) (splitE_good (by decide) fun k hk => absurd hk (by simp)) (by decide) (Nat.zero_le _) (by rw [plotN_nil]; decide) hb1.size) ?_
 rintro _ W2 ⟨rfl, hb2, hO2, hX2, hA⟩
 refine xgk 14 [15, 16] (show (((plotB [] (5 + 0) (List.replicate (256 * 9) (0 : UInt8))).1 == (5 : Int)) : Bool) = true from by rw [plotB_index (by decide), show bmN ([] : List Int).length = 0 from rfl, nodN_0 4 (by decide)]; rfl) ?_
 refine xgk 4 [18, 19, 20] (show (((plotB [] (5 + 0) (List.replicate (256 * 9) (0 : UInt8))).2.1 == (6 : Int)) : Bool) = true from by rw [plotB_root (by decide), plotN_nil]; rfl) ?_
 refine xr 5 (args := #[.pointer (some ⟨ba, 0, none⟩)]) (alloc_Used ba b _ (0 + plotN []) _ hA.blkA) fun W5 hb5 => ?_
 have hB'1 := Bl.next (hb1.trans hb2) hb5
 exact xe 6 (.bool ((↑(0 + plotN []) : Int) == (2 : Int))) ⟨by rw [plotN_nil]; rfl, hB'1⟩
end Go.Proofs.YtbhjgcokpmiopaaGreat
namespace Go.Proofs.YtbhjgcokpmiopaaGreat
open Go.RowKit Go.Extern.Stop Go.Stop Go.Extern
set_option linter.unusedVariables false
attribute [local irreducible] wpList wpAnyH Code.wp Oper.wp Go

theorem and2047s (x : Int) : ∃ n : Nat, IntKind.i64.wrap (↑(BitVec.ofInt 64 x &&& BitVec.ofInt 64 (2047 : Int)).toNat : Int) = (n : Int) ∧ n ≤ 2047 := by
  refine ⟨(BitVec.ofInt 64 x &&& BitVec.ofInt 64 (2047 : Int)).toNat, ?_, ?_⟩
  · have h : (BitVec.ofInt 64 x &&& BitVec.ofInt 64 (2047 : Int)).toNat ≤ 2047 := by rw [BitVec.toNat_and]; exact Nat.and_le_right
    exact i64_nat (by omega)
  · rw [BitVec.toNat_and]; exact Nat.and_le_right
theorem needM_self (u n : Nat) : needM (selfL u n) = 2 + bmN n := by
  unfold needM
  rw [selfL_over, List.length_nil, nodN5_0, selfL_len]; omega
theorem metaB_self {u n : Nat} {bs : List UInt8} (hu : 1 ≤ u) : metaB (selfL u n) u 0 bs = (((u + 1 + bmN n : Nat) : Int), (u : Int), putB (cntsB (chunksI (selfL (u + (2 + bmN n)) n) (bmN n)) (u + 1) (treeB 5 [] u bs).2 (bmN n)) ((u + 1 + bmN n) * 256) (sealB 4 ((u + 1 + bmN n : Nat) : Int) (idxB (Rs (chunksI (selfL (u + (2 + bmN n)) n) (bmN n)) (u + 1) (bmN n))))) := by
  have hr := treeB_root (t := 5) (l := []) (q := u) (bs := bs) hu
  rw [List.length_nil, nodN5_0, Nat.add_sub_cancel] at hr
  unfold metaB
  simp only [Nat.add_zero]
  rw [selfL_over, List.length_nil, nodN5_0, needM_self, selfL_bump, selfL_small, selfL_len, hr]
def SelfB (u n : Nat) (bs : List UInt8) : Prop :=
  (inE bs 4 ((u + 1 + bmN n : Nat) : Int) = 0 ∧ inB bs ((u + 1 + bmN n : Nat) : Int) = idxB (Rs (chunksI (selfL (u + (2 + bmN n)) n) (bmN n)) (u + 1) (bmN n))) ∧ ∀ i, i < bmN n → inE bs 3 ((u + 1 + i : Nat) : Int) = 0 ∧ inB bs ((u + 1 + i : Nat) : Int) = bitsB (chunkI (selfL (u + (2 + bmN n)) n) i)
theorem self_back {u n : Nat} {bs : List UInt8} (hu : 1 ≤ u) (hl : bs.length = 256 * n) (hF : (metaB (selfL u n) u 0 bs).2.2.length = 256 * n) (hk : u + 2 + bmN n ≤ n) (hn : n ≤ 3000) : SelfB u n (metaB (selfL u n) u 0 bs).2.2 := by
  have hb : bmN n ≤ 4 := by unfold bmN; omega
  rw [metaB_self hu] at hF ⊢
  have hT := treeB_ge 5 [] u bs
  have hc := cntsB_ge (chunksI (selfL (u + (2 + bmN n)) n) (bmN n)) (u + 1) (treeB 5 [] u bs).2 (bmN n)
  have hp := putB_ge (cntsB (chunksI (selfL (u + (2 + bmN n)) n) (bmN n)) (u + 1) (treeB 5 [] u bs).2 (bmN n)) (sealB 4 ((u + 1 + bmN n : Nat) : Int) (idxB (Rs (chunksI (selfL (u + (2 + bmN n)) n) (bmN n)) (u + 1) (bmN n)))) ((u + 1 + bmN n) * 256)
  dsimp only at hF ⊢
  have hil : (idxB (Rs (chunksI (selfL (u + (2 + bmN n)) n) (bmN n)) (u + 1) (bmN n))).length = 244 := idxB_len (by rw [Rs_len]; omega)
  have hsl : (sealB 4 ((u + 1 + bmN n : Nat) : Int) (idxB (Rs (chunksI (selfL (u + (2 + bmN n)) n) (bmN n)) (u + 1) (bmN n)))).length = 256 := sealB_len (by omega)
  constructor
  · exact seal_in (by decide) (by decide) (by omega) (by omega) hil (blkB_put hsl (by omega))
  · intro i hi
    refine seal_in (by decide) (by decide) (by omega) (by omega) (by unfold bitsB; rw [bitsT_len]) ?_
    have hC1 : (cntsB (chunksI (selfL (u + (2 + bmN n)) n) (bmN n)) (u + 1) (treeB 5 [] u bs).2 (bmN n)).length / 256 = n := by omega
    have hT1 : (treeB 5 [] u bs).2.length / 256 = n := by omega
    rw [blkB_put_other (k := u + 1 + bmN n) hsl (by rw [hC1]; omega) (by omega) (by rw [hC1]; omega), cntsB_blk hC1 hT1 (by omega) hi, chunksI_get hi]
theorem plot_MetaS (B ba b g cc : Nat) (pa : Option Addr) (ca u n : Nat) (a : Addr) (c : Nat) (w : World) (hC : AlC B ba (256 * n) cc ca u (n - u)) (hA : Al B ba b g (256 * n) cc pa ca u (n - u) 0 (List.replicate (256 * n) (0 : UInt8)) w) (h : Sl w (.slice (some a) n c) n ((selfL u n).map (Value.int .i64))) (hn : n ≤ 3000) (h1 : 1 ≤ u) (hk : u + 2 + bmN n ≤ n) (hBw : B ≤ w.heap.size) :
    Calls Tryz.prog 5 #[.pointer (some ⟨ba, 0, none⟩), .slice (some a) n c] w (fun e w' => ∃ bs, e = .returned (.tuple #[.int .i64 ((u + 1 + bmN n : Nat) : Int), .int .i64 (u : Int), .nilIface]) ∧ Below B w w' ∧ Only [64, 5, 31, 39, 26] w w' ∧ Fr [ba, g] w w' ∧ Al B ba b g (256 * n) cc pa ca u (n - u) (2 + bmN n) bs w' ∧ SelfB u n bs) := by
  have hp := plot_Meta B ba b g (256 * n) cc pa ca u (n - u) 0 (List.replicate (256 * n) (0 : UInt8)) a c (selfL u n) w hC hA (by rw [selfL_len]; exact h) (by rw [selfL_len]; exact hn) (by rw [selfL_len]; omega) (selfL_split (by omega)) (Nat.zero_le _) (by rw [needM_self]; omega) h1 selfL_free selfL_free hBw
  rw [selfL_len] at hp
  refine hp.mono ?_
  rintro e W ⟨he, hb, hO, hX, hA2⟩
  have hl := hA2.data.1
  rw [List.length_map, Nat.mul_one] at hl
  refine ⟨_, ?_, hb, hO, hX, ?_, self_back h1 List.length_replicate hl hk hn⟩
  · rw [he, metaB_self h1]
  · rw [needM_self, Nat.zero_add] at hA2; exact hA2
theorem self_chunks (u n : Nat) : ∀ i, i < (chunksI (selfL (u + (2 + bmN n)) n) (bmN n)).length → Small ((chunksI (selfL (u + (2 + bmN n)) n) (bmN n)).getD i []) ∧ ((chunksI (selfL (u + (2 + bmN n)) n) (bmN n)).getD i []).length ≤ 960 := fun i hi => by
  rw [chunksI_len] at hi
  rw [chunksI_get hi]
  exact ⟨chunk_small (selfL_Small _ _) i, by rw [chunkI_len]; omega⟩
theorem self_slots {u n : Nat} (hu : 1 ≤ u) (hn : u + 1 + bmN n ≤ 14400) (hb : bmN n ≤ 14) : SlotsOk (Rs (chunksI (selfL (u + (2 + bmN n)) n) (bmN n)) (u + 1) (bmN n)) := rs_ok (self_chunks u n) (chunksI_len _ _) (by omega) (by omega) (by omega)
theorem block_IndexS (B b : Nat) (p : Option Addr) (nn c : Nat) (bs : List UInt8) (u n : Nat) (w : World) (hI : ImgR B b p nn c bs w) (hS : SelfB u n bs) (hu : 1 ≤ u) (hn : u + 1 + bmN n ≤ 14400) (hb : bmN n ≤ 14) :
    Calls Tryz.prog 8 #[.pointer (some ⟨b, 0, none⟩), .int .i64 ((u + 1 + bmN n : Nat) : Int)] w (RetS (fun w' r => ∃ p c, r = .tuple #[.slice p (bmN n) c, .nilIface] ∧ w'.ownsRow w.heap.size 39 3 (.slice p (bmN n) c) (bmN n) ((Rs (chunksI (selfL (u + (2 + bmN n)) n) (bmN n)) (u + 1) (bmN n)).flatMap sltC)) w) := by
  have hr := idxB_read (self_slots hu hn hb)
  have hc := idxB_cnt (S := (Rs (chunksI (selfL (u + (2 + bmN n)) n) (bmN n)) (u + 1) (bmN n))) (by rw [Rs_len]; omega)
  rw [Rs_len] at hr hc
  refine (block_Index B b p nn c bs _ w hI).mono ?_
  rintro e W q
  rcases q with ⟨h, _⟩ | ⟨h, p, c, rfl, hb, ho⟩
  · exact absurd (by unfold idxErr; rw [if_pos hS.1.1, hS.1.2]; exact hr.1) h
  · rw [hS.1.2, hc, hr.2] at ho
    rw [hS.1.2, hc]
    exact ⟨_, rfl, hb, p, c, rfl, ho⟩
theorem bitsB_list {l : List Int} (h : Small l) (hl : l.length ≤ 960) : (bitsL (bitsB l) l.length).map nv = l.map (Value.int .i64) := by
  apply List.ext_getElem (by simp [bitsL])
  intro i h1 h2
  have hi : i < l.length := by simpa using h2
  have e := bitsB_at h (i := i) (by omega)
  rw [show l.getD i 0 = l[i] from by simp [List.getD, hi]] at e
  simp [bitsL, nv, e]
theorem block_BitsS (B b : Nat) (p : Option Addr) (nn c : Nat) (bs : List UInt8) (u n i m : Nat) (w : World) (hI : ImgR B b p nn c bs w) (hS : SelfB u n bs) (hi : i < bmN n) (hm : (chunkI (selfL (u + (2 + bmN n)) n) i).length = m) :
    Calls Tryz.prog 10 #[.pointer (some ⟨b, 0, none⟩), .int .i64 ((u + 1 + i : Nat) : Int)] w (RetS (fun w' r => ∃ p c, r = .tuple #[.slice p m c, .nilIface] ∧ w'.ownsRow w.heap.size 3 1 (.slice p m c) m ((chunkI (selfL (u + (2 + bmN n)) n) i).map (Value.int .i64))) w) := by
  have hs := self_chunks u n i (by rw [chunksI_len]; exact hi)
  rw [chunksI_get hi] at hs
  have hb := bitsB_ok hs.1 hs.2
  have hc := bitsB_cnt hs.2
  have hl := bitsB_list hs.1 hs.2
  have h3 := hS.2 i hi
  subst hm
  refine (block_Bits B b p nn c bs _ w hI).mono ?_
  rintro e W q
  rcases q with ⟨h, _⟩ | ⟨h, p, c, rfl, hb, ho⟩
  · exact absurd (by unfold bitsErr; rw [if_pos h3.1, h3.2, hb]; rfl) h
  · rw [h3.2, hc, hl] at ho
    rw [h3.2, hc]
    exact ⟨_, rfl, hb, p, c, rfl, ho⟩
theorem self_make (n : Nat) : zeros (Value.int .i64 0).cells.toList n = (selfL 0 n).map (Value.int .i64) := by
  rw [show zeros (Value.int .i64 0).cells.toList n = List.replicate n (.int .i64 0) from by
    rw [show (Value.int .i64 0).cells.toList = [Value.int .i64 0] from rfl, zeros]
    induction n with
    | zero => rfl
    | succ n ih => rw [List.replicate_succ, List.flatten_cons, ih]; rfl]
  apply List.ext_getElem (by simp [selfL])
  intro i h1 h2
  simp [selfL]
theorem self_set {i n : Nat} (h : i < n) : ((selfL i n).map (Value.int .i64)).set i (.int .i64 1) = (selfL (i + 1) n).map (Value.int .i64) := by
  apply List.ext_getElem?
  intro j
  by_cases hj : j < n
  · by_cases e : i = j
    · subst e
      rw [List.getElem?_set_self (by simp [selfL]; exact h)]
      simp [selfL, List.getElem?_range h]
    · rw [List.getElem?_set_ne e]
      simp only [selfL, List.getElem?_map, List.getElem?_range hj, Option.map_some]
      by_cases q : j < i
      · rw [if_pos q, if_pos (by omega)]
      · rw [if_neg q, if_neg (by omega)]
  · rw [List.getElem?_eq_none (by simp [selfL]; omega), List.getElem?_eq_none (by simp [selfL]; omega)]
theorem slot_cell {w : World} {p : Option Addr} {c u n k o : Nat} {v : Value} (h : Sl w (.slice p (bmN n) c) (bmN n) ((Rs (chunksI (selfL (u + (2 + bmN n)) n) (bmN n)) (u + 1) (bmN n)).flatMap sltC)) (hk : k < bmN n) (ho : (sltC (u + 1 + k, freeN (chunkI (selfL (u + (2 + bmN n)) n) k), firstN (chunkI (selfL (u + (2 + bmN n)) n) k)))[o]? = some v) : p.isSome = true ∧ w.cell? ((elemAddr p (k * 3)).add o) = some v := by
  have hl : (Rs (chunksI (selfL (u + (2 + bmN n)) n) (bmN n)) (u + 1) (bmN n)).length = bmN n := Rs_len _ _ _
  refine Sts.cell (f := sltC) (l := (Rs (chunksI (selfL (u + (2 + bmN n)) n) (bmN n)) (u + 1) (bmN n))) (by unfold Sts; rw [hl]; exact h) sltC_len rsD (k := k) (i := o) (by omega) ?_
  rw [Rs_get hk, chunksI_get hk]
  exact ho
theorem self_cond {u n i k : Nat} (hk : k < (chunkI (selfL u n) i).length) : ((chunkI (selfL u n) i).getD k 0 = 1 ↔ i * 960 + k < u) ∧ 0 ≤ (chunkI (selfL u n) i).getD k 0 ∧ (chunkI (selfL u n) i).getD k 0 ≤ 1 := by
  rw [selfL_chunk hk]
  by_cases h : i * 960 + k < u
  · rw [if_pos h]; exact ⟨⟨fun _ => h, fun _ => rfl⟩, by omega, by omega⟩
  · rw [if_neg h]; exact ⟨⟨fun q => by omega, fun q => absurd q h⟩, by omega, by omega⟩
theorem free_step {u n i k : Nat} (hk : k < (chunkI (selfL u n) i).length) : (freeK (chunkI (selfL u n) i) k : Int) + (1 - (chunkI (selfL u n) i).getD k 0) = (freeK (chunkI (selfL u n) i) (k + 1) : Int) := by
  have h := freeK_succ hk
  have hc := self_cond hk
  by_cases e : (chunkI (selfL u n) i).getD k 0 = 0
  · rw [if_pos e] at h; omega
  · rw [if_neg e] at h; omega
theorem self_eq {x : Int} {p : Prop} [Decidable p] {y z : Int} (h : x = 1 ↔ p) (hy : p ↔ y ≤ z) : ((x == (1 : Int)) != decide (y ≤ z)) = false := by
  by_cases q : p
  · rw [h.2 q, decide_eq_true (hy.1 q)]; rfl
  · rw [decide_eq_false (fun r => q (hy.2 r)), beq_false_of_ne (fun r => q (h.1 r))]; rfl
set_option maxRecDepth 100000 in
set_option maxHeartbeats 8000000 in
theorem plotSelf_law (n0 f0 : Int) (w : World) :
    Calls Tryz.prog 3 #[.int .i64 n0, .int .i64 f0] w (Ret (.bool true) w) := by
 obtain ⟨N, hN, hN7⟩ := and2047s n0
 obtain ⟨n, hn⟩ : ∃ n : Nat, ((20 + N : Nat) : Int) = (n : Int) := ⟨20 + N, rfl⟩
 obtain ⟨r1, hr1⟩ : ∃ r, Int.tmod f0 10 = r := ⟨_, rfl⟩
 obtain ⟨r2, hr2⟩ : ∃ r, Int.tmod (r1 + 10) 10 = r := ⟨_, rfl⟩
 have b1 := tmod_bd f0 (m := 10) (by decide)
 rw [show ((10 : Nat) : Int) = 10 from rfl, hr1] at b1
 have b2 := tmod_bd (r1 + 10) (m := 10) (by decide)
 have b3 := tmod_nn (x := r1 + 10) (by omega) 10
 rw [show ((10 : Nat) : Int) = 10 from rfl, hr2] at b2 b3
 obtain ⟨u, hu⟩ : ∃ u : Nat, 1 + r2 = (u : Int) := ⟨(1 + r2).toNat, by omega⟩
 have hnb : bmN n ≤ 3 := by unfold bmN; omega
 refine zin 156 Tryz.func3 ?_
 refine xq 8 (congrArg (Value.int .i64) (show (IntKind.i64.wrap (↑(BitVec.ofInt 64 n0 &&& BitVec.ofInt 64 (2047 : Int)).toNat : Int) : Int) = (↑N : Int) from hN)) ?_
 refine xwm 0 (20 + (↑N : Int)) (↑n : Int) ?_
 refine xq 6 (congrArg (Value.int .i64) (show (Int.tmod f0 10 : Int) = r1 from hr1)) ?_
 refine xw 0 (r1 + 10) ?_
 refine xq 0 (congrArg (Value.int .i64) (show (Int.tmod (r1 + 10) 10 : Int) = r2 from hr2)) ?_
 refine xq 0 (congrArg (Value.int .i64) (show IntKind.i64.wrap (1 + r2) = (↑u : Int) from (show IntKind.i64.wrap (1 + r2) = (1 + r2) from by first | exact IntWalk.i64_in _ (by omega) | (simp only [IntKind.wrap]; omega)).trans (hu))) ?_
 have hw9 : w.heap.size ≤ (w).heap.size := (Below.refl w.heap.size _).size
 refine xc 7 (args := #[.int .i64 (↑n : Int), .int .i64 (↑u : Int)]) (law22_made n u _ (by omega) (by omega) (by omega)) ?_
 rintro _ W1 ⟨_, rfl, hb1, ba, b, g, c5, pa, ca, rfl, hC, hA0⟩
 replace hC := hC.mono hw9
 replace hA0 := hA0.mono hw9
 refine xmk 6 fun _ _ _ _ zJ zQ zo zx zy zK => op_make n (.int .i64 0) 1 8 ((selfL 0 n).map (Value.int .i64)) zo zx zy Tryz.underlying24 (by kernel_rfl) rfl (by omega) (by omega) (self_make n) fun b2 W2 n2 => ?_
 refine zK _ _ ?_
 have hs1 : w.heap.size ≤ W1.heap.size := hb1.size
 have hB := Bl.next hb1 n2.below
 refine zl 10 156 (fun zm zkv V => ∃ (i : Nat), zkv = [(0, .int .i64 (↑n : Int)), (1, .int .i64 (↑u : Int)), (4, .bool false), (5, .pointer (some ⟨ba, 0, none⟩)), (6, .slice (some ⟨b2, 0, none⟩) n n), (7, .int .i64 (↑i : Int))] ∧ zm = u - ((↑i : Int)).toNat ∧ Below w.heap.size w V ∧ V.ownsRow W1.heap.size 3 1 (.slice (some ⟨b2, 0, none⟩) n n) n ((selfL i n).map (Value.int .i64)) ∧ Sin W1 V ∧ i ≤ u) ⟨0, rfl, rfl, hB, (own_of_blk (size := 1) (n := n) n2.blk (n2.ge (Below.refl W1.heap.size W1)) (by rw [List.length_map, selfL_len, Nat.mul_one]) (by unfold maxLen; omega)), ⟨n2.below⟩, Nat.zero_le _⟩ ?_
 rintro _ _ W3 ⟨i, rfl, rfl, hB_3, ho, hW, hi⟩ J3 hJ3 r3
 refine xid 8 ((↑i : Int) < (↑u : Int)) (fun hc4 => ?_) (fun hc4 => ?_)
 · refine xx 7 _ n i 1 (show (some (⟨b2, 0, none⟩ : Addr)).isSome = true from rfl) ?_
   refine xst 0 fun _ _ _ _ zJ zQ zo zx zy zK => op_storeRow (t := 3) (k := i) (v := .int .i64 1) zo zx zy (by kernel_rfl) rfl ho (by omega) fun W5 u5 o5 => ?_
   rw [self_set (i := i) (n := n) (by omega)] at o5
   refine zK _ _ ?_
   refine xwm 5 ((↑i : Int) + 1) (↑(i + 1) : Int) ?_
   have hB'1 := u5.below hB_3 (Nat.le_trans hs1 (own_ge ho))
   have hW'1 := hW.upd u5 (own_ge ho)
   exact ze 2 (hJ3 _ _ _ ⟨i + 1, rfl, rfl, hB'1, o5, hW'1, by omega⟩ (by omega))
 have hiu : i = u := by omega
 rw [hiu] at ho
 refine xc 19 (args := #[.pointer (some ⟨ba, 0, none⟩), .slice (some ⟨b2, 0, none⟩) n n]) (plot_MetaS w.heap.size ba b g c5 pa ca u n (⟨b2, 0, none⟩) n _ hC (hA0.below hW.b) (own_sl ho) (by omega) (by omega) (by omega) hB_3.size) ?_
 rintro _ W6 ⟨bs, rfl, hb6, hO6, hX6, hA2, hS⟩
 refine xgk 20 [54, 55, 56] (show (((↑u : Int) != (↑u : Int)) : Bool) = false from by simp) ?_
 refine xwm 2 ((↑u : Int) + 1) (↑(u + 1) : Int) ?_
 refine xr 1 (args := #[.int .i64 (↑n : Int)]) (size_Bitmaps n _ (by omega)) fun W8 hb8 => ?_
 refine xwm 0 ((↑(u + 1) : Int) + (↑(bmN n) : Int)) (↑((u + 1) + (bmN n)) : Int) ?_
 refine xgk 3 [63, 64, 65] (show (((↑(u + 1 + bmN n) : Int) != (↑((u + 1) + (bmN n)) : Int)) : Bool) = false from by simp) ?_
 have hA2'1 := hA2.below hb8
 refine xr 1 (args := #[.pointer (some ⟨ba, 0, none⟩)]) (alloc_Used ba b _ (2 + bmN n) _ hA2'1.blkA) fun W10 hb10 => ?_
 refine xr 1 (args := #[.int .i64 (↑n : Int)]) (size_Bitmaps n _ (by omega)) fun W11 hb11 => ?_
 refine xwm 0 (2 + (↑(bmN n) : Int)) (↑(2 + (bmN n)) : Int) ?_
 refine xk 4 (show (((↑(2 + bmN n) : Int) != (↑(2 + (bmN n)) : Int)) : Bool) = false from by simp) ?_
 have hA2'2 := (hA2'1.below hb10).below hb11
 refine xr 5 (args := #[.pointer (some ⟨ba, 0, none⟩)]) (alloc_Image ba b _ _ _ hA2'2.blkA) fun W12 hb12 => ?_
 have hA2'3 := hA2'2.below hb12
 refine xc 1 (args := #[.pointer (some ⟨b, 0, none⟩), .int .i64 (↑(u + 1 + bmN n) : Int)]) (block_IndexS w.heap.size b (some ⟨g, 0, none⟩) (256 * n) c5 bs u n _ ⟨hA2'3.blkI, hA2'3.data, by omega⟩ hS (by omega) (by omega) (by omega)) ?_
 rintro _ W13 ⟨_, rfl, hb13, px, cx, rfl, hx⟩
 have hs13 := (Bl.next (Bl.next (Bl.next (Bl.next (hB_3.trans hb6) hb8) hb10) hb11) hb12).size
 refine xr 16 (args := #[.int .i64 (↑n : Int)]) (size_Bitmaps n _ (by omega)) fun W14 hb14 => ?_
 refine xk 4 (show (((↑(bmN n) : Int) != (↑(bmN n) : Int)) : Bool) = false from by simp) ?_
 have hA2'4 := (hA2'3.below hb13).below hb14
 have hx'1 := own_below (own_mono hx hs13) hb14
 have hB'2 := Bl.next (Bl.next (Bl.next (Bl.next (Bl.next (Bl.next (hB_3.trans hb6) hb8) hb10) hb11) hb12) hb13) hb14
 refine zl 15 156 (fun zm zkv V => ∃ (i t : Nat), zkv = [(0, .int .i64 (↑n : Int)), (5, .pointer (some ⟨ba, 0, none⟩)), (8, .int .i64 (↑(u + 1 + bmN n) : Int)), (11, .slice px (bmN n) cx), (13, .int .i64 (↑t : Int)), (14, .int .i64 0), (15, .int .i64 (↑i : Int))] ∧ zm = bmN n - ((↑i : Int)).toNat ∧ Below w.heap.size w V ∧ Al w.heap.size ba b g (256 * n) c5 pa ca u (n - u) (2 + bmN n) bs V ∧ V.ownsRow w.heap.size 39 3 (.slice px (bmN n) cx) (bmN n) ((Rs (chunksI (selfL (u + (2 + bmN n)) n) (bmN n)) (u + 1) (bmN n)).flatMap sltC) ∧ i ≤ bmN n ∧ t = min (i * 960) n) ⟨0, 0, rfl, rfl, hB'2, hA2'4, hx'1, Nat.zero_le _, by omega⟩ ?_
 rintro _ _ W15 ⟨i, t, rfl, rfl, hB_15, hA2, hx, hi_15, ht⟩ J15 hJ15 r15
 refine xid 9 ((↑i : Int) < (↑(bmN n) : Int)) (fun hc16 => ?_) (fun hc16 => ?_)
 · refine xd 5 .z ?_
   have hx'2 := own_below hx (below_drew W15)
   refine xx (.e [0, 2, 3] 4) _ (bmN n) i 3 (slot_cell (u := u) (n := n) (k := i) (o := 0) (own_sl hx'2) (by omega) rfl).1 ?_
   refine xl (.e [5] 6) ((slot_cell (u := u) (n := n) (k := i) (o := 0) (own_sl hx'2) (by omega) rfl).2) ?_
   have hA2'5 := hA2.below (below_drew W15)
   refine xr (.o [] 1) (args := #[.pointer (some ⟨ba, 0, none⟩)]) (alloc_Image ba b _ _ _ hA2'5.blkA) fun W17 hb17 => ?_
   obtain ⟨m, hm⟩ : ∃ m, (chunkI (selfL (u + (2 + bmN n)) n) i).length = m := ⟨_, rfl⟩
   have hm2 := hm
   rw [chunkI_len, selfL_len] at hm2
   have hA2'6 := hA2'5.below hb17
   refine yc (.o [] 7) (args := #[.pointer (some ⟨b, 0, none⟩), .int .i64 (↑(u + 1 + i) : Int)]) .z (block_BitsS w.heap.size b (some ⟨g, 0, none⟩) (256 * n) c5 bs u n i m _ ⟨hA2'6.blkI, hA2'6.data, by omega⟩ hS (by omega) hm) ?_
   rintro _ W18 ⟨_, rfl, hb18, pc, cc, rfl, hc⟩
   have hs18 := (Bl.next (Bl.next hB_15 (below_drew W15)) hb17).size
   refine ⟨hb18, ?_⟩
   have hA2'7 := hA2'6.below hb18
   have hx'3 := own_below (own_below hx'2 hb17) hb18
   have hc'1 := own_mono hc hs18
   have hB'3 := Bl.next (Bl.next (Bl.next hB_15 (below_drew W15)) hb17) hb18
   refine zl (.r [8, 9, 10, 11, 12] 19) 156 (fun zm zkv V => ∃ (k : Nat), zkv = [(0, .int .i64 (↑n : Int)), (5, .pointer (some ⟨ba, 0, none⟩)), (8, .int .i64 (↑(u + 1 + bmN n) : Int)), (11, .slice px (bmN n) cx), (13, .int .i64 (↑(t + k) : Int)), (14, .int .i64 (↑(freeK (chunkI (selfL (u + (2 + bmN n)) n) i) k) : Int)), (15, .int .i64 (↑i : Int)), (16, .slice pc m cc), (18, .int .i64 (↑k : Int))] ∧ zm = m - ((↑k : Int)).toNat ∧ Below w.heap.size w V ∧ Al w.heap.size ba b g (256 * n) c5 pa ca u (n - u) (2 + bmN n) bs V ∧ V.ownsRow w.heap.size 39 3 (.slice px (bmN n) cx) (bmN n) ((Rs (chunksI (selfL (u + (2 + bmN n)) n) (bmN n)) (u + 1) (bmN n)).flatMap sltC) ∧ V.ownsRow w.heap.size 3 1 (.slice pc m cc) m ((chunkI (selfL (u + (2 + bmN n)) n) i).map (Value.int .i64)) ∧ k ≤ m) ⟨0, rfl, rfl, hB'3, hA2'7, hx'3, hc'1, Nat.zero_le _⟩ ?_
   rintro _ _ W19 ⟨k, rfl, rfl, hB_19, hA2, hx, hc, hk⟩ J19 hJ19 r19
   have hcd := fun (q : k < m) => self_cond (u := u + (2 + bmN n)) (n := n) (i := i) (k := k) (by omega)
   have hbi := fun (q : k < m) => hm2
   refine xid 9 ((↑k : Int) < (↑m : Int)) (fun hc20 => ?_) (fun hc20 => ?_)
   · have hcd3 := (hcd (by omega)).2
     have hfk3 := freeK_le (chunkI (selfL (u + (2 + bmN n)) n) i) k
     refine xx 9 _ m k 1 (IntsN.elem (own_sl hc) hm (k := k) (by omega)).1 ?_
     refine xl 0 ((IntsN.elem (own_sl hc) hm (k := k) (by omega)).2) ?_
     refine xgk 6 [122, 123] (show (((((chunkI (selfL (u + (2 + bmN n)) n) i).getD k 0) == (1 : Int)) != (decide ((↑(t + k) : Int) ≤ (↑(u + 1 + bmN n) : Int)))) : Bool) = false from self_eq (hcd (by omega)).1 (by omega)) ?_
     refine xx 2 _ m k 1 (IntsN.elem (own_sl hc) hm (k := k) (by omega)).1 ?_
     refine xl 0 ((IntsN.elem (own_sl hc) hm (k := k) (by omega)).2) ?_
     refine xk 4 (show (decide (((chunkI (selfL (u + (2 + bmN n)) n) i).getD k 0) > (1 : Int)) : Bool) = false from decide_eq_false (by have := (hcd (by omega)).2; omega)) ?_
     refine xwm 5 ((↑(t + k) : Int) + 1) (↑((t + k) + 1) : Int) ?_
     refine xx 7 _ m k 1 (IntsN.elem (own_sl hc) hm (k := k) (by omega)).1 ?_
     refine xl 0 ((IntsN.elem (own_sl hc) hm (k := k) (by omega)).2) ?_
     refine xw 0 (1 - ((chunkI (selfL (u + (2 + bmN n)) n) i).getD k 0)) ?_
     refine xq 0 (congrArg (Value.int .i64) (show IntKind.i64.wrap ((↑(freeK (chunkI (selfL (u + (2 + bmN n)) n) i) k) : Int) + (1 - ((chunkI (selfL (u + (2 + bmN n)) n) i).getD k 0))) = (↑(freeK (chunkI (selfL (u + (2 + bmN n)) n) i) (k + 1)) : Int) from (show IntKind.i64.wrap ((↑(freeK (chunkI (selfL (u + (2 + bmN n)) n) i) k) : Int) + (1 - ((chunkI (selfL (u + (2 + bmN n)) n) i).getD k 0))) = ((↑(freeK (chunkI (selfL (u + (2 + bmN n)) n) i) k) : Int) + (1 - ((chunkI (selfL (u + (2 + bmN n)) n) i).getD k 0))) from by first | exact IntWalk.i64_in _ (by omega) | (simp only [IntKind.wrap]; omega)).trans (free_step (by omega)))) ?_
     refine xwm 6 ((↑k : Int) + 1) (↑(k + 1) : Int) ?_
     exact ze 2 (hJ19 _ _ _ ⟨k + 1, rfl, rfl, hB_19, hA2, hx, hc, by omega⟩ (by omega))
   have hfn : freeK (chunkI (selfL (u + (2 + bmN n)) n) i) k = freeN (chunkI (selfL (u + (2 + bmN n)) n) i) := by unfold freeN; rw [show k = (chunkI (selfL (u + (2 + bmN n)) n) i).length by omega]
   refine xx 9 _ (bmN n) i 3 (slot_cell (u := u) (n := n) (k := i) (o := 0) (own_sl hx) (by omega) rfl).1 ?_
   refine xl 1 ((slot_cell (u := u) (n := n) (k := i) (o := 1) (own_sl hx) (by omega) rfl).2) ?_
   refine xwm 0 ((↑(freeK (chunkI (selfL (u + (2 + bmN n)) n) i) k) : Int) - (↑(freeN (chunkI (selfL (u + (2 + bmN n)) n) i)) : Int)) 0 ?_
   refine xwm 6 ((↑i : Int) + 1) (↑(i + 1) : Int) ?_
   exact ze 2 (hJ15 _ _ _ ⟨i + 1, t + k, rfl, rfl, hB_19, hA2, hx, by omega, by omega⟩ (by omega))
 have hbd := bmN_done (n := n) (i := i) (by omega)
 refine xgk 11 [148, 149] (show (((↑t : Int) == (↑n : Int)) : Bool) = true from by rw [show t = n by omega]; simp) ?_
 refine xr 4 (args := #[]) (lives22 _) fun W23 hb23 => ?_
 have hB'4 := Bl.next hB_15 hb23
 exact xe 5 (.bool true) ⟨rfl, hB'4⟩
end Go.Proofs.YtbhjgcokpmiopaaGreat
namespace Go.Proofs.YtbhjgcokpmiopaaGreat
open Go.ChangeShapes Go.WideShapes Go.ChangeAt Go.RowKit Go.Joins
set_option linter.unusedVariables false
theorem bytes_open {H : Type} {enc : TypeId × Value → H} {P : Program} {W : World} {r : Reach} {b0 : Nat} {t e : TypeId} {v : Value} {d : DataW H} {p : List MemPlace} (ht : P.underlying t = some (.slice e)) (he : P.underlying e = some (.int .u8)) (hC : P.cellsOf e = 1)
    (hv : Value.okWide P W r b0 t v) (h : DataW.Trod enc P W 0 (fun _ => true) true t v d p) : ∃ l, Bys W v l := by
  obtain ⟨a, len, cap, rfl⟩ := okWide_slice ht hv
  obtain ⟨fuel, hf⟩ := h
  rcases open_ints ht he hC hf with ⟨hcs, _⟩ | ⟨x, l, c, zs, hcs, _, hl, hm, hz, _, hcell, hwz⟩
  · simp [Value.cells] at hcs
    obtain ⟨rfl, rfl, rfl⟩ := hcs
    exact ⟨[], .inl ⟨_, _, rfl, rfl, rfl⟩⟩
  · simp [Value.cells] at hcs
    obtain ⟨rfl, rfl, rfl⟩ := hcs
    have hz' : zs.length = cap := by simpa using hz
    by_cases h0 : len = 0
    · subst h0
      exact ⟨[], .inl ⟨_, _, rfl, rfl, rfl⟩⟩
    · obtain ⟨b, off, spot⟩ := x
      have hc := hcell 0 (by omega)
      have hspot : spot = none := by simpa [Addr.add] using World.cell?_spot hc
      subst hspot
      have hlen : ((zs.take len).map fun n => UInt8.ofNat n.toNat).length = len := by simp; omega
      refine ⟨(zs.take len).map fun n => UInt8.ofNat n.toNat, .inr ⟨b, off, cap, by rw [hlen], by omega, hm, fun j x hj => ?_⟩⟩
      have hjl : j < len := by have := (List.getElem?_eq_some_iff.1 hj).1; simp at this; omega
      have e1 : zs[j]? = some zs[j] := List.getElem?_eq_getElem (by omega)
      have hw := hwz zs[j] (List.getElem_mem _)
      have hcj := hcell j (by omega)
      have e2 : zs.getD j 0 = zs[j] := by simp [List.getD, e1]
      rw [e2] at hcj
      have hx : x = .int .u8 zs[j] := by
        rw [List.getElem?_map, List.getElem?_map, List.getElem?_take_of_lt hjl, e1] at hj
        simp only [Option.map_some, Option.some.injEq] at hj
        rw [← hj]
        have hb : 0 ≤ zs[j] ∧ zs[j] ≤ 255 := by simpa [Lit.wf, IntKind.min, IntKind.max, IntKind.signed, IntKind.bits] using hw
        have h3 : (zs[j].toNat % 256 : Nat) = zs[j].toNat := Nat.mod_eq_of_lt (by omega)
        simp only [bv, UInt8.toNat_ofNat']
        rw [show (2 ^ 8 : Nat) = 256 from rfl, h3, Int.toNat_of_nonneg hb.1]
      subst hx
      by_cases hj0 : j = 0
      · subst hj0; simpa [Addr.add] using hcj
      · simpa [Addr.add, hj0] using hcj
end Go.Proofs.YtbhjgcokpmiopaaGreat
