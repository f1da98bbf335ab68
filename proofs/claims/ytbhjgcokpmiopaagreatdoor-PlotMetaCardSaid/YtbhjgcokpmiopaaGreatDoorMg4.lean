/- build.Tree at entries that are right: with room, and without. build.right at any entries; build.Tree at any entries and with any room. The document's answer for layer 7: Width, Max, Right and Put at a node that is right. The document's answer for layer 15: how many sizes there are, Levels, Nodes. image.Of and block.Write at an image in a row of its own. block.Write of anything, and the statement BlockWrites, walked. Package alloc at any numbers: New and From with their errors, Next, Lay, Left, Used, Ahead. Package alloc at any numbers: Next, Lay, Ahead. The document's answer for layer 16: From, New, Take, Lay, Ahead; Same of two lists. The document's answer for layer 17: Right and Tree. The document's answer for layers 9 and 22: Free, bad, lay. -/
import Derived.Test.YtbhjgcokpmiopaaGreatDoorMg3
namespace Go.Proofs.YtbhjgcokpmiopaaGreatDoor
open Go.RowKit Go.Extern.Stop Go.Stop Go.Extern
set_option linter.unusedVariables false
attribute [local irreducible] wpList wpAnyH Code.wp Oper.wp Go

theorem only_a3 {w w' : World} (h : Only [93, 5] w w') : Only [93, 5, 35] w w' := h.mono fun t ht => by simp at ht ⊢; exact ⟨ht.1, ht.2.1⟩
def Tree1Post (B ba b g nn cc : Nat) (pa : Option Addr) (ca f N k0 : Nat) (bs : List UInt8) (t : Int) (leaf : Bool) (m v : Nat) (l : List Ent) (b8 : Nat) (w : World) (e : Ending) (w' : World) : Prop :=
  ∃ p c, e = .returned (.slice p (ovN l.length m) c) ∧ Below B w w' ∧ Only [93, 5, 35] w w' ∧ Fr [ba, g, b8] w w' ∧ Blk w' b8 [.nilIface] 35 ∧ Al B ba b g nn cc pa ca f N (k0 + ovN l.length m) (levB t leaf m v l (f + k0) bs (ovN l.length m)) w' ∧ w'.ownsRow w.heap.size 99 3 (.slice p (ovN l.length m) c) (ovN l.length m) ((upE l m (f + k0) (ovN l.length m)).flatMap entC)
set_option maxRecDepth 100000 in
set_option maxHeartbeats 4000000 in
theorem build_Tree1 (B ba b g nn cc : Nat) (pa : Option Addr) (ca f N k0 : Nat) (bs : List UInt8) (t : Int) (leaf : Bool) (m v : Nat) (a : Option Addr) (c : Nat) (l : List Ent) (b3 b4 b8 : Nat) (w : World) (k3 : Blk w b3 [.pointer (some ⟨ba, 0, none⟩)] 24) (k4 : Blk w b4 [.int .i64 t] 3) (k8 : Blk w b8 [.nilIface] 35) (h38 : b3 ≠ b8) (h48 : b4 ≠ b8) (hB8 : B ≤ b8) (hC : AlC B ba nn cc ca f N) (hA : Al B ba b g nn cc pa ca f N k0 bs w) (ht1 : 1 ≤ t) (ht2 : t ≤ 5) (hm : maxN t leaf = m) (hv : widN t leaf = v) (E : EntsOk v l) (hl : leaf = false → 1 ≤ l.length) (hn : l.length ≤ 32768) (hf1 : 1 ≤ f) (hk : k0 + ovN l.length m ≤ N) (hin : ∀ W, Below B w W → Only [93, 5, 35] w W → Sts entC W (.slice a l.length c) l) (hBw : B ≤ w.heap.size) :
    Calls Tryz.prog 54 #[.bool leaf, .slice a l.length c, .pointer (some ⟨b3, 0, none⟩), .pointer (some ⟨b4, 0, none⟩), .pointer (some ⟨b8, 0, none⟩)] w (Tree1Post B ba b g nn cc pa ca f N k0 bs t leaf m v l b8 w) := by
 refine zin 20 Tryz.func54 ?_
 refine xb 7 0 k3 ?_
 refine xb 0 0 k4 ?_
 refine xc 2 (args := #[.pointer (some ⟨ba, 0, none⟩), .int .i64 t, .bool leaf, .slice a l.length c]) (build_level B ba b g nn cc pa ca f N k0 bs t leaf m v a c l _ hC hA ht1 ht2 hm hv E hl hn hf1 hk (fun W h1 h2 => hin W ((Below.refl B _).trans h1) ((Only.refl _ _).trans (only_a3 h2))) (Nat.le_trans hBw (Below.refl B _).size)) ?_
 rintro _ W1 ⟨p4, c4, rfl, hb1, hO1, hX1, hA, hup⟩
 have hs1 := Nat.le_refl w.heap.size
 have k8'1 := k8.only hO1 (by decide)
 refine xs 10 k8'1 [.nilIface] fun W2 u2 k2 => ?_
 have hB := u2.below hb1 hB8
 have hO := (show Only [93, 5, 35] w _ from (only_a3 hO1)).trans (Only.of_upd u2 k8'1 (by decide))
 have hX := (show Fr [ba, g, b8] w _ from (hX1.mono (by simp))).trans (Fr.of_upd u2 (by simp))
 have hA'1 := hA.only (Only.of_upd (T := [35]) u2 k8'1 (by decide)) (by decide)
 have hup'1 := u2.own2 (own_mono hup hs1) k8'1 (by decide)
 exact xe 9 (.slice p4 (ovN l.length m) c4) ⟨_, _, rfl, hB, hO, hX, k2, hA'1, hup'1⟩
def TreePost (B ba b g nn cc : Nat) (pa : Option Addr) (ca f N k0 : Nat) (bs : List UInt8) (t : Int) (l : List Ent) (w : World) (e : Ending) (w' : World) : Prop :=
  e = .returned (.tuple #[.int .i64 (treeB t l (f + k0) bs).1, .nilIface]) ∧ Below B w w' ∧ Only [93, 5, 35] w w' ∧ Fr [ba, g] w w' ∧ Al B ba b g nn cc pa ca f N (k0 + nodN t l.length) (treeB t l (f + k0) bs).2 w'
set_option maxRecDepth 100000 in
set_option maxHeartbeats 8000000 in
theorem build_Tree (B ba b g nn cc : Nat) (pa : Option Addr) (ca f N k0 : Nat) (bs : List UInt8) (t : Int) (a : Option Addr) (c : Nat) (l : List Ent) (w : World) (hC : AlC B ba nn cc ca f N) (hA : Al B ba b g nn cc pa ca f N k0 bs w) (ht1 : 1 ≤ t) (ht2 : t ≤ 5) (E : EntsOk (widN t true) l) (hn : l.length ≤ 32768) (hf1 : 1 ≤ f) (hkN : k0 ≤ N) (hk : k0 + nodN t l.length ≤ N) (hin : ∀ W, Below B w W → Only [93, 5, 35] w W → Sts entC W (.slice a l.length c) l) (hBw : B ≤ w.heap.size) :
    Calls Tryz.prog 29 #[.pointer (some ⟨ba, 0, none⟩), .int .i64 t, .slice a l.length c] w (TreePost B ba b g nn cc pa ca f N k0 bs t l w) := by
 have hnp := nodN_pos t l.length
 have hog : (ovN l.length (maxN t true)) ≤ nodN t l.length := levs_ge _
 have hov := ovN_le l.length (maxN t true) (maxN_pos t true).1
 have hop := ovN_pos l.length (maxN t true)
 have hcf := hC.hf
 have hcn := hC.hn
 refine zin 52 Tryz.func29 ?_
 refine xa 2 [.pointer (some ⟨ba, 0, none⟩)] 24 fun b1 W1 n1 => ?_
 refine xa 0 [.int .i64 t] 3 fun b2 W2 n2 => ?_
 have k1 := n1.blk.below n2.below
 refine xb 8 0 k1 ?_
 have hA'1 := (hA.below n1.below).below n2.below
 refine xr 0 (args := #[.pointer (some ⟨ba, 0, none⟩)]) (alloc_Image ba b _ _ _ hA'1.blkA) fun W3 hb3 => ?_
 have k2 := n2.blk.below hb3
 refine xb 7 0 k2 ?_
 have hB := Bl.nextB (Bl.nextB (Bl.nextB (Below.refl B w) hBw n1.below) hBw n2.below) hBw hb3
 have hO := ((show Only [93, 5, 35] w _ from (Only.of_below n1.below)).trans (Only.of_below n2.below)).trans (Only.of_below hb3)
 refine xr 1 (args := #[.int .i64 t, .slice a l.length c]) (build_right t (widN t true) a c l _ ht1 ht2 rfl E (hin _ hB hO) hn) fun W4 hb4 => ?_
 refine xd 6 .z ?_
 have k1'1 := ((k1.below hb3).below hb4).below (below_drew W4)
 refine xb (.e [] 0) 0 k1'1 ?_
 have k2'1 := (k2.below hb4).below (below_drew W4)
 refine xb (.e [] 2) 0 k2'1 ?_
 have hA'2 := ((hA'1.below hb3).below hb4).below (below_drew W4)
 refine xr (.o [3, 4] 1) (args := #[.pointer (some ⟨ba, 0, none⟩)]) (alloc_Left ba b pa N ca k0 _ hA'2.blkA hkN) fun W5 hb5 => ?_
 refine xr (.o [] 5) (args := #[.int .i64 t, .int .i64 (↑l.length : Int)]) (tall_Nodes t l.length _ ht1 ht2 hn) fun W6 hb6 => ?_
 refine xk (.r [6, 7] 2) (show (decide ((↑(N - k0) : Int) < (↑(nodN t l.length) : Int)) : Bool) = false from decide_eq_false (by omega)) ?_
 refine xa 5 [.nilIface] 35 fun b7 W7 n7 => ?_
 have hB'1 := Bl.nextB (Bl.nextB (Bl.nextB (Bl.nextB hB hBw hb4) hBw (below_drew W4)) hBw hb5) hBw hb6
 have g7 := n7.ge0 hB'1
 have k1'2 := ((k1'1.below hb5).below hb6).below n7.below
 have k2'2 := ((k2'1.below hb5).below hb6).below n7.below
 have hA'3 := ((hA'2.below hb5).below hb6).below n7.below
 have hB'2 := Bl.nextB hB'1 hBw n7.below
 have hO'1 := ((((hO.trans (Only.of_below hb4)).trans (Only.of_below (below_drew W4))).trans (Only.of_below hb5)).trans (Only.of_below hb6)).trans (Only.of_below n7.below)
 refine xc 12 (args := #[.bool true, .slice a l.length c, .pointer (some ⟨b1, 0, none⟩), .pointer (some ⟨b2, 0, none⟩), .pointer (some ⟨b7, 0, none⟩)]) (build_Tree1 B ba b g nn cc pa ca f N k0 bs t true (maxN t true) (widN t true) a c l b1 b2 b7 _ k1'2 k2'2 n7.blk (Blk.tne k1'2 n7.blk (by decide)) (Blk.tne k2'2 n7.blk (by decide)) (Nat.le_trans hBw g7) hC hA'3 ht1 ht2 rfl rfl E (by simp) hn hf1 (by omega) (fun W h1 h2 => hin W (hB'2.trans h1) (hO'1.trans h2)) (Nat.le_trans hBw hB'2.size)) ?_
 rintro _ W8 ⟨p41, c41, rfl, hb8, hO8, hX8, k8n, hA, hup⟩
 have hs8 := (Bl.nextB hB'1 hBw n7.below).size
 refine xv1 5 10 (show (.slice p41 (ovN l.length (maxN t true)) c41 : Value) = .slice p41 ((upE l (maxN t true) (f + k0) (ovN l.length (maxN t true))).length) c41 from by rw [upE_len]) ?_
 have hup'1 := own_mono hup hs8
 have hB'3 := hB'2.trans hb8
 have hX := (Fr.trans_new ((((((((show Fr [ba, g] w _ from (Fr.of_below n1.below)).trans (Fr.of_below n2.below)).trans (Fr.of_below hb3)).trans (Fr.of_below hb4)).trans (Fr.of_below (below_drew W4))).trans (Fr.of_below hb5)).trans (Fr.of_below hb6)).trans (Fr.of_below n7.below)) hX8 g7)
 have hO'2 := hO'1.trans hO8
 have k1'3 := k1'2.only hO8 (by decide)
 have k2'3 := k2'2.only hO8 (by decide)
 refine zl 0 52 (fun zm zkv V => ∃ (u : List Ent) (K : Nat) (bs2 : List UInt8) (p : Option Addr) (c2 : Nat), zkv = [(6, .int .i64 0), (7, .nilIface), (8, .pointer (some ⟨b7, 0, none⟩)), (9, .func (.func 54) #[] #[.pointer (some ⟨b1, 0, none⟩), .pointer (some ⟨b2, 0, none⟩), .pointer (some ⟨b7, 0, none⟩)]), (10, .slice p u.length c2)] ∧ zm = u.length ∧ Below B w V ∧ Fr [ba, g] w V ∧ Only [93, 5, 35] w V ∧ Blk V b1 ([.pointer (some ⟨ba, 0, none⟩)]) 24 ∧ Blk V b2 ([.int .i64 t]) 3 ∧ Blk V b7 ([.nilIface]) 35 ∧ V.ownsRow w.heap.size 99 3 (.slice p u.length c2) u.length (u.flatMap entC) ∧ Al B ba b g nn cc pa ca f N K bs2 V ∧ K + (levs u.length).sum = k0 + nodN t l.length + u.length ∧ 1 ≤ u.length ∧ u.length ≤ 32768 ∧ EntsOk 4 u ∧ treeUp t u (f + K) bs2 = treeB t l (f + k0) bs) ⟨(upE l (maxN t true) (f + k0) (ovN l.length (maxN t true))), (k0 + (ovN l.length (maxN t true))), (levB t true (maxN t true) (widN t true) l (f + k0) bs (ovN l.length (maxN t true))), p41, c41, rfl, rfl, hB'3, hX, hO'2, k1'3, k2'3, k8n, (by rw [upE_len]; exact hup'1), hA, (by rw [upE_len]; unfold nodN levL; omega), (by rw [upE_len]; exact hop), (by rw [upE_len]; omega), up_ok E (maxN_pos t true).1, (by rw [← Nat.add_assoc]; rfl)⟩ ?_
 rintro _ _ W9 ⟨u, K, bs2, p, c2, rfl, rfl, hB_9, hX_9, hO_9, k9_b1, k9_b2, k9_b7, hup, hA, hK, hu1, hun, hE, htr⟩ J9 hJ9 r9
 have hlm : ¬ u.length ≤ 1 → (levs u.length).sum = u.length + (levs (ovN u.length 18)).sum := fun h => by rw [levs_more h]; rfl
 have hlg := levs_ge (ovN u.length 18)
 have h18 : 2 ≤ u.length → ovN u.length 18 ≤ u.length / 2 := ov18
 have h18p := ovN_pos u.length 18
 refine xb 3 0 k9_b7 ?_
 refine xid 8 ((↑u.length : Int) > (1 : Int)) (fun hc10 => ?_) (fun hc10 => ?_)
 · refine xc 6 (args := #[.bool false, .slice p u.length c2, .pointer (some ⟨b1, 0, none⟩), .pointer (some ⟨b2, 0, none⟩), .pointer (some ⟨b7, 0, none⟩)]) (build_Tree1 B ba b g nn cc pa ca f N K bs2 t false 18 4 p c2 u b1 b2 b7 _ k9_b1 k9_b2 k9_b7 (Blk.tne k9_b1 k9_b7 (by decide)) (Blk.tne k9_b2 k9_b7 (by decide)) (Nat.le_trans hBw g7) hC hA ht1 ht2 rfl rfl hE (fun _ => hu1) (by omega) hf1 (by omega) (fun W _ h2 => own_sl (own_only hup h2 (by decide))) (Nat.le_trans hBw hB_9.size)) ?_
   rintro _ W11 ⟨p42, c42, rfl, hb11, hO11, hX11, k8n, hA, hup⟩
   refine xv1 3 10 (show (.slice p42 (ovN u.length 18) c42 : Value) = .slice p42 ((upE u 18 (f + K) (ovN u.length 18)).length) c42 from by rw [upE_len]) ?_
   have hup'2 := own_mono hup hB_9.size
   have hB'4 := hB_9.trans hb11
   have hX'1 := (Fr.trans_new hX_9 hX11 g7)
   have hO'3 := hO_9.trans hO11
   have k9_b1'1 := k9_b1.only hO11 (by decide)
   have k9_b2'1 := k9_b2.only hO11 (by decide)
   refine ze 0 (hJ9 _ _ _ ⟨(upE u 18 (f + K) (ovN u.length 18)), (K + ovN u.length 18), _, _, _, rfl, rfl, hB'4, hX'1, hO'3, k9_b1'1, k9_b2'1, k8n, (by rw [upE_len]; exact hup'2), hA, (by rw [upE_len]; omega), (by rw [upE_len]; exact h18p), (by rw [upE_len]; omega), up_ok hE (by decide), (by rw [← htr, ← Nat.add_assoc]; exact (treeUp_more (by omega)).symm)⟩ ?_)
   show ((upE u 18 (f + K) (ovN u.length 18)).length) < u.length
   rw [upE_len]; omega
 refine xb 8 0 k9_b7 ?_
 refine xx 9 _ u.length 0 3 (Sts.cell (own_sl hup) entC_len entD (k := 0) (i := 0) (by omega) rfl).1 ?_
 refine xl 1 ((Sts.cell (own_sl hup) entC_len entD (k := 0) (i := 2) (by omega) rfl).2) ?_
 refine xe 5 (.tuple #[.int .i64 ((u.getD 0 entD).2.2), .nilIface]) ?_
 have h1 : u.length ≤ 1 := by omega
 rw [treeUp_one h1] at htr
 rw [levs_one h1] at hK
 simp only [List.sum_cons, List.sum_nil] at hK
 obtain rfl : K = k0 + nodN t l.length := by omega
 refine ⟨by rw [← htr], hB_9, hO_9, hX_9, by rw [← htr]; exact hA⟩
set_option maxRecDepth 100000 in
set_option maxHeartbeats 8000000 in
theorem build_Tree_none (B ba b g nn cc : Nat) (pa : Option Addr) (ca f N k0 : Nat) (bs : List UInt8) (t : Int) (a : Option Addr) (c : Nat) (l : List Ent) (w : World) (hA : Al B ba b g nn cc pa ca f N k0 bs w) (ht1 : 1 ≤ t) (ht2 : t ≤ 5) (E : EntsOk (widN t true) l) (hn : l.length ≤ 32768) (hkN : k0 ≤ N) (hk : N < k0 + nodN t l.length) (h : Sts entC w (.slice a l.length c) l) :
    Calls Tryz.prog 29 #[.pointer (some ⟨ba, 0, none⟩), .int .i64 t, .slice a l.length c] w (Ret (.tuple #[.int .i64 0, .iface 38 (.int .i64 14)]) w) := by
 refine zin 52 Tryz.func29 ?_
 refine xa 2 [.pointer (some ⟨ba, 0, none⟩)] 24 fun b1 W1 n1 => ?_
 refine xa 0 [.int .i64 t] 3 fun b2 W2 n2 => ?_
 have k1 := n1.blk.below n2.below
 refine xb 8 0 k1 ?_
 have hA'1 := (hA.below n1.below).below n2.below
 refine xr 0 (args := #[.pointer (some ⟨ba, 0, none⟩)]) (alloc_Image ba b _ _ _ hA'1.blkA) fun W3 hb3 => ?_
 have k2 := n2.blk.below hb3
 refine xb 7 0 k2 ?_
 have hB := Bl.next (Bl.next n1.below n2.below) hb3
 refine xr 1 (args := #[.int .i64 t, .slice a l.length c]) (build_right t (widN t true) a c l _ ht1 ht2 rfl E (h.below hB) hn) fun W4 hb4 => ?_
 refine xd 6 .z ?_
 have k1'1 := ((k1.below hb3).below hb4).below (below_drew W4)
 refine xb (.e [] 0) 0 k1'1 ?_
 have k2'1 := (k2.below hb4).below (below_drew W4)
 refine xb (.e [] 2) 0 k2'1 ?_
 have hA'2 := ((hA'1.below hb3).below hb4).below (below_drew W4)
 refine xr (.o [3, 4] 1) (args := #[.pointer (some ⟨ba, 0, none⟩)]) (alloc_Left ba b pa N ca k0 _ hA'2.blkA hkN) fun W5 hb5 => ?_
 refine xr (.o [] 5) (args := #[.int .i64 t, .int .i64 (↑l.length : Int)]) (tall_Nodes t l.length _ ht1 ht2 hn) fun W6 hb6 => ?_
 refine xk (.r [6, 7] 2) (show (decide ((↑(N - k0) : Int) < (↑(nodN t l.length) : Int)) : Bool) = true from decide_eq_true (by omega)) ?_
 have hB'1 := Bl.next (Bl.next (Bl.next (Bl.next hB hb4) (below_drew W4)) hb5) hb6
 exact xe 10 (.tuple #[.int .i64 0, .iface 38 (.int .i64 14)]) ⟨rfl, hB'1⟩
end Go.Proofs.YtbhjgcokpmiopaaGreatDoor
namespace Go.Proofs.YtbhjgcokpmiopaaGreatDoor
open Go.RowKit Go.Extern.Stop Go.Stop Go.Extern
set_option linter.unusedVariables false
attribute [local irreducible] wpList wpAnyH Code.wp Oper.wp Go

def entE (v : Nat) (l : List Ent) (i : Nat) : Prop := lastK l i < (l.getD i entD).1 ∧ (l.getD i entD).1 ≤ 281474976710655 ∧ (l.getD i entD).2.1.length = v
instance (v : Nat) (l : List Ent) (i : Nat) : Decidable (entE v l i) := by unfold entE; infer_instance
/-- may entries be a tree's? -/
def entsB (v : Nat) (l : List Ent) : Bool := (List.range l.length).all fun i => decide (entE v l i)
theorem entsB_true {v : Nat} {l : List Ent} (h : ∀ i, i < l.length → entE v l i) : entsB v l = true := by
  unfold entsB; rw [List.all_eq_true]
  intro i hi
  exact decide_eq_true (h i (List.mem_range.1 hi))
theorem entsB_get {v : Nat} {l : List Ent} (h : entsB v l = true) {i : Nat} (hi : i < l.length) : entE v l i := by
  unfold entsB at h; rw [List.all_eq_true] at h
  exact of_decide_eq_true (h i (List.mem_range.2 hi))
theorem entsB_false {v : Nat} {l : List Ent} {i : Nat} (hi : i < l.length) (h : ¬ entE v l i) : entsB v l = false := by
  cases hr : entsB v l with
  | false => rfl
  | true => exact absurd (entsB_get hr hi) h
theorem lastK_pos {l : List Ent} {i : Nat} (h : 0 < i) : lastK l i = (l.getD (i - 1) entD).1 := by
  cases i with
  | zero => omega
  | succ i => rfl
theorem lastK_zero {l : List Ent} {i : Nat} (h : i = 0) : lastK l i = -1 := by subst h; rfl
theorem lastK_ge {v : Nat} {l : List Ent} : ∀ {i : Nat}, (∀ j, j < i → entE v l j) → -1 ≤ lastK l i
  | 0, _ => by simp [lastK]
  | i + 1, h => by
    have h1 := lastK_ge (i := i) fun j hj => h j (by omega)
    have h2 := (h i (by omega)).1
    simp only [lastK]; omega
theorem entsB_ok {v : Nat} {l : List Ent} (h : entsB v l = true) : EntsOk v l where
  hk i hi := by
    have h1 := entsB_get h hi
    have h2 := lastK_ge (v := v) (l := l) (i := i) fun j hj => entsB_get h (by omega)
    exact ⟨by have := h1.1; omega, h1.2.1⟩
  hs j hj := (entsB_get h hj).1
  hw i hi := (entsB_get h hi).2.2
/-- the number of a tree's error, with so many blocks left -/
def treeE (t : Int) (l : List Ent) (left : Nat) : Int := if 1 ≤ t ∧ t ≤ 5 ∧ entsB (widN t true) l = true then (if left < nodN t l.length then 14 else 0) else 1
theorem treeE_ok {t : Int} {l : List Ent} {left : Nat} (h : treeE t l left = 0) : 1 ≤ t ∧ t ≤ 5 ∧ EntsOk (widN t true) l ∧ nodN t l.length ≤ left := by
  unfold treeE at h
  split at h
  · rename_i h1
    split at h
    · cases h
    · exact ⟨h1.1, h1.2.1, entsB_ok h1.2.2, by omega⟩
  · cases h
set_option maxRecDepth 100000 in
set_option maxHeartbeats 1000000 in
theorem node_Width_o (t : Int) (leaf : Bool) (w : World) (h : ¬ (1 ≤ t ∧ t ≤ 5)) :
    Calls Tryz.prog 84 #[.int .i64 t, .bool leaf] w (Ret (.int .i64 0) w) := by
 refine zin 31 Tryz.func84 ?_
 refine xg 17 [8, 9] (decide (t < (1 : Int))) (fun hc1 => ?_) (fun hc1 => ?_)
 · have hc1 := of_decide_eq_true hc1
   exact xe 15 (.int .i64 0) ⟨rfl, (Below.refl w.heap.size _)⟩
 have hc1 := of_decide_eq_false hc1
 refine xk 6 (show (decide (t > (5 : Int)) : Bool) = true from decide_eq_true (by omega)) ?_
 exact xe 8 (.int .i64 0) ⟨rfl, (Below.refl w.heap.size _)⟩
set_option maxRecDepth 100000 in
set_option maxHeartbeats 1000000 in
theorem build_right_o (t : Int) (x : Value) (w : World) (h : ¬ (1 ≤ t ∧ t ≤ 5)) :
    Calls Tryz.prog 53 #[.int .i64 t, x] w (Ret (.bool false) w) := by
 refine zin 45 Tryz.func53 ?_
 refine xr 8 (args := #[.int .i64 t, .bool true]) (node_Width_o t true _ h) fun W1 hb1 => ?_
 exact xe 25 (.bool false) ⟨rfl, hb1⟩
set_option maxRecDepth 100000 in
set_option maxHeartbeats 4000000 in
theorem build_rightG (t : Int) (v : Nat) (a : Option Addr) (c : Nat) (l : List Ent) (w : World) (ht1 : 1 ≤ t) (ht2 : t ≤ 5) (hv : widN t true = v) (h : Sts entC w (.slice a l.length c) l) (hn : l.length ≤ 32768) :
    Calls Tryz.prog 53 #[.int .i64 t, .slice a l.length c] w (Ret (.bool (entsB v l)) w) := by
 have hwb := widN_bd t true
 rw [hv] at hwb
 have hnp := nodN_pos t l.length
 refine zin 45 Tryz.func53 ?_
 refine xr 8 (args := #[.int .i64 t, .bool true]) (node_WidthN t true v hv ht1 ht2 _) fun W1 hb1 => ?_
 refine xgk 9 [12, 13] (show (((↑v : Int) == (0 : Int)) : Bool) = false from by simp; omega) ?_
 refine xr 3 (args := #[.int .i64 t, .int .i64 (↑l.length : Int)]) (tall_Nodes t l.length _ ht1 ht2 hn) fun W3 hb3 => ?_
 refine xk 4 (show (((↑(nodN t l.length) : Int) == (0 : Int)) : Bool) = false from by simp; omega) ?_
 have hB := Bl.next hb1 hb3
 refine zl 16 45 (fun zm zkv V => ∃ (i : Nat), zkv = [(5, .int .i64 (↑v : Int)), (6, .int .i64 (lastK l i)), (20, .slice a l.length c), (21, .int .i64 (↑l.length : Int)), (22, .int .i64 (↑i : Int))] ∧ zm = l.length - ((↑i : Int)).toNat ∧ Below w.heap.size w V ∧ i ≤ l.length ∧ (∀ j, j < i → entE v l j)) ⟨0, rfl, rfl, hB, Nat.zero_le _, ?_⟩ ?_
 · exact fun j hj => absurd hj (by omega)
 rintro _ _ W4 ⟨i, rfl, rfl, hB_4, hi, hz⟩ J4 hJ4 r4
 refine xid 6 ((↑i : Int) < (↑l.length : Int)) (fun hc5 => ?_) (fun hc5 => ?_)
 · refine xx 6 _ l.length i 3 (Sts.cell h entC_len entD (k := i) (i := 0) (by omega) rfl).1 ?_
   refine xlv 0 (Sts.rp (k := i) (h.below hB_4) entC_len entD (by omega) (by decide)) ?_
   refine xa 0 [.int .i64 0, .string ⟨#[]⟩, .int .i64 0] 99 fun b6 W6 n6 => ?_
   refine xsv 0 n6.blk [.int .i64 ((l.getD i entD).1), .string ⟨((l.getD i entD).2.1).toArray⟩, .int .i64 ((l.getD i entD).2.2)] fun W7 u7 k7 => ?_
   have g6 := n6.ge hB_4
   refine xb 6 0 k7 ?_
   refine xg 3 [29, 30] (decide ((l.getD i entD).1 ≤ (lastK l i))) (fun hc8 => ?_) (fun hc8 => ?_)
   · have hc8 := of_decide_eq_true hc8
     have hB'1 := u7.below (Bl.next hB_4 n6.below) g6
     exact xe 26 (.bool false) ⟨by rw [entsB_false (i := i) (by omega) (fun hz9 => by unfold entE at hz9; omega)], hB'1⟩
   have hc8 := of_decide_eq_false hc8
   refine xb 1 0 k7 ?_
   refine xg 3 [33, 34, 35] (decide ((l.getD i entD).1 > (281474976710655 : Int))) (fun hc9 => ?_) (fun hc9 => ?_)
   · have hc9 := of_decide_eq_true hc9
     have hB'2 := u7.below (Bl.next hB_4 n6.below) g6
     exact xe 21 (.bool false) ⟨by rw [entsB_false (i := i) (by omega) (fun hz9 => by unfold entE at hz9; omega)], hB'2⟩
   have hc9 := of_decide_eq_false hc9
   refine xb 1 1 k7 ?_
   refine xin 6 (↑((l.getD i entD).2.1).length : Int) (↑v : Int) (fun hc10 => ?_) (fun hc10 => ?_)
   · have hB'3 := u7.below (Bl.next hB_4 n6.below) g6
     exact xe 12 (.bool false) ⟨by rw [entsB_false (i := i) (by omega) (fun hz9 => by unfold entE at hz9; omega)], hB'3⟩
   refine xb 4 0 k7 ?_
   refine xw 5 ((↑i : Int) + 1) ?_
   have hB'4 := u7.below (Bl.next hB_4 n6.below) g6
   exact ze 2 (hJ4 _ _ _ ⟨i + 1, rfl, rfl, hB'4, by omega, fun j hj => (Nat.lt_or_ge j i).elim (hz j) (fun q => by obtain rfl : j = i := (by omega); unfold entE; omega)⟩ (by omega))
 exact xe 11 (.bool true) ⟨by rw [entsB_true (fun j hj => hz j (by omega))], hB_4⟩
set_option maxRecDepth 100000 in
set_option maxHeartbeats 1000000 in
theorem build_Tree_o (B ba b g nn cc : Nat) (pa : Option Addr) (ca f N k0 : Nat) (bs : List UInt8) (t : Int) (a : Option Addr) (c : Nat) (l : List Ent) (w : World) (hA : Al B ba b g nn cc pa ca f N k0 bs w) (ht : ¬ (1 ≤ t ∧ t ≤ 5)) :
    Calls Tryz.prog 29 #[.pointer (some ⟨ba, 0, none⟩), .int .i64 t, .slice a l.length c] w (Ret (.tuple #[.int .i64 0, .iface 38 (.int .i64 1)]) w) := by
 refine zin 52 Tryz.func29 ?_
 refine xa 2 [.pointer (some ⟨ba, 0, none⟩)] 24 fun b1 W1 n1 => ?_
 refine xa 0 [.int .i64 t] 3 fun b2 W2 n2 => ?_
 have k1 := n1.blk.below n2.below
 refine xb 8 0 k1 ?_
 have hA'1 := (hA.below n1.below).below n2.below
 refine xr 0 (args := #[.pointer (some ⟨ba, 0, none⟩)]) (alloc_Image ba b _ _ _ hA'1.blkA) fun W3 hb3 => ?_
 have k2 := n2.blk.below hb3
 refine xb 7 0 k2 ?_
 refine xr 1 (args := #[.int .i64 t, .slice a l.length c]) (build_right_o t _ _ ht) fun W4 hb4 => ?_
 have hB := Bl.next (Bl.next (Bl.next n1.below n2.below) hb3) hb4
 exact xe 15 (.tuple #[.int .i64 0, .iface 38 (.int .i64 1)]) ⟨rfl, hB⟩
set_option maxRecDepth 100000 in
set_option maxHeartbeats 1000000 in
theorem build_Tree_w (B ba b g nn cc : Nat) (pa : Option Addr) (ca f N k0 : Nat) (bs : List UInt8) (t : Int) (a : Option Addr) (c : Nat) (l : List Ent) (w : World) (hA : Al B ba b g nn cc pa ca f N k0 bs w) (ht1 : 1 ≤ t) (ht2 : t ≤ 5) (hr : entsB (widN t true) l = false) (hn : l.length ≤ 32768) (h : Sts entC w (.slice a l.length c) l) :
    Calls Tryz.prog 29 #[.pointer (some ⟨ba, 0, none⟩), .int .i64 t, .slice a l.length c] w (Ret (.tuple #[.int .i64 0, .iface 38 (.int .i64 1)]) w) := by
 refine zin 52 Tryz.func29 ?_
 refine xa 2 [.pointer (some ⟨ba, 0, none⟩)] 24 fun b1 W1 n1 => ?_
 refine xa 0 [.int .i64 t] 3 fun b2 W2 n2 => ?_
 have k1 := n1.blk.below n2.below
 refine xb 8 0 k1 ?_
 have hA'1 := (hA.below n1.below).below n2.below
 refine xr 0 (args := #[.pointer (some ⟨ba, 0, none⟩)]) (alloc_Image ba b _ _ _ hA'1.blkA) fun W3 hb3 => ?_
 have k2 := n2.blk.below hb3
 refine xb 7 0 k2 ?_
 have hB := Bl.next (Bl.next n1.below n2.below) hb3
 refine xr 1 (args := #[.int .i64 t, .slice a l.length c]) (build_rightG t (widN t true) a c l _ ht1 ht2 rfl (h.below hB) hn) fun W4 hb4 => ?_
 refine xk 4 (show (!(entsB (widN t true) l) : Bool) = true from by rw [hr]; rfl) ?_
 have hB'1 := Bl.next hB hb4
 exact xe 10 (.tuple #[.int .i64 0, .iface 38 (.int .i64 1)]) ⟨rfl, hB'1⟩
set_option maxRecDepth 100000 in
set_option maxHeartbeats 1000000 in
theorem alloc_nobody_nil (w : World) :
    Calls Tryz.prog 45 #[.pointer none] w (Ret (.bool true) w) := by
 refine zin 12 Tryz.func45 ?_
 exact xe 20 (.bool true) ⟨rfl, (Below.refl w.heap.size _)⟩
set_option maxRecDepth 100000 in
set_option maxHeartbeats 1000000 in
theorem alloc_Image_nil (w : World) :
    Calls Tryz.prog 15 #[.pointer none] w (Ret (.pointer none) w) := by
 refine zin 9 Tryz.func15 ?_
 refine xr 9 (args := #[.pointer none]) (alloc_nobody_nil _) fun W1 hb1 => ?_
 exact xe 10 (.pointer none) ⟨rfl, hb1⟩
set_option maxRecDepth 100000 in
set_option maxHeartbeats 1000000 in
theorem build_Tree_nil (t : Int) (x : Value) (w : World) :
    Calls Tryz.prog 29 #[.pointer none, .int .i64 t, x] w (Ret (.tuple #[.int .i64 0, .iface 38 (.int .i64 18)]) w) := by
 refine zin 52 Tryz.func29 ?_
 refine xa 2 [.pointer none] 24 fun b1 W1 n1 => ?_
 refine xa 0 [.int .i64 t] 3 fun b2 W2 n2 => ?_
 have k1 := n1.blk.below n2.below
 refine xb 8 0 k1 ?_
 refine xr 0 (args := #[.pointer none]) (alloc_Image_nil _) fun W3 hb3 => ?_
 have hB := Bl.next (Bl.next n1.below n2.below) hb3
 exact xe 15 (.tuple #[.int .i64 0, .iface 38 (.int .i64 18)]) ⟨rfl, hB⟩
/-- build.Tree, whatever the entries and the room -/
def TreeG (B ba b g nn cc : Nat) (pa : Option Addr) (ca f N k0 : Nat) (bs : List UInt8) (t : Int) (l : List Ent) (w : World) (e : Ending) (w' : World) : Prop :=
  (treeE t l (N - k0) ≠ 0 ∧ e = .returned (.tuple #[.int .i64 0, .iface 38 (.int .i64 (treeE t l (N - k0)))]) ∧ Below w.heap.size w w') ∨
  (treeE t l (N - k0) = 0 ∧ TreePost B ba b g nn cc pa ca f N k0 bs t l w e w')
theorem build_TreeG (B ba b g nn cc : Nat) (pa : Option Addr) (ca f N k0 : Nat) (bs : List UInt8) (t : Int) (a : Option Addr) (c : Nat) (l : List Ent) (w : World) (hC : AlC B ba nn cc ca f N) (hA : Al B ba b g nn cc pa ca f N k0 bs w) (hn : l.length ≤ 32768) (hf1 : 1 ≤ f) (hkN : k0 ≤ N) (hin : ∀ W, Below B w W → Only [93, 5, 35] w W → Sts entC W (.slice a l.length c) l) (hBw : B ≤ w.heap.size) :
    Calls Tryz.prog 29 #[.pointer (some ⟨ba, 0, none⟩), .int .i64 t, .slice a l.length c] w (TreeG B ba b g nn cc pa ca f N k0 bs t l w) := by
  have h := hin w (Below.refl _ _) (Only.refl _ _)
  by_cases ht : 1 ≤ t ∧ t ≤ 5
  · cases hr : entsB (widN t true) l with
    | false =>
      have e1 : treeE t l (N - k0) = 1 := if_neg (by rw [hr]; simp)
      refine (build_Tree_w B ba b g nn cc pa ca f N k0 bs t a c l w hA ht.1 ht.2 hr hn h).mono ?_
      rintro e W ⟨rfl, hb⟩
      exact .inl ⟨by rw [e1]; decide, by rw [e1], hb⟩
    | true =>
      have e0 : treeE t l (N - k0) = if N - k0 < nodN t l.length then 14 else 0 := if_pos ⟨ht.1, ht.2, hr⟩
      by_cases hs : N - k0 < nodN t l.length
      · rw [if_pos hs] at e0
        refine (build_Tree_none B ba b g nn cc pa ca f N k0 bs t a c l w hA ht.1 ht.2 (entsB_ok hr) hn hkN (by omega) h).mono ?_
        rintro e W ⟨rfl, hb⟩
        exact .inl ⟨by rw [e0]; decide, by rw [e0], hb⟩
      · rw [if_neg hs] at e0
        refine (build_Tree B ba b g nn cc pa ca f N k0 bs t a c l w hC hA ht.1 ht.2 (entsB_ok hr) hn hf1 hkN (by omega) hin hBw).mono ?_
        exact fun e W h => .inr ⟨e0, h⟩
  · have e1 : treeE t l (N - k0) = 1 := if_neg fun h => ht ⟨h.1, h.2.1⟩
    refine (build_Tree_o B ba b g nn cc pa ca f N k0 bs t a c l w hA ht).mono ?_
    rintro e W ⟨rfl, hb⟩
    exact .inl ⟨by rw [e1]; decide, by rw [e1], hb⟩
end Go.Proofs.YtbhjgcokpmiopaaGreatDoor
namespace Go.Proofs.YtbhjgcokpmiopaaGreatDoor
open Go.RowKit Go.Extern.Stop Go.Stop Go.Extern
set_option linter.unusedVariables false
attribute [local irreducible] wpList wpAnyH Code.wp Oper.wp Go

set_option maxRecDepth 100000 in
set_option maxHeartbeats 1000000 in
theorem ref07_Width1 (w : World) :
    Calls Tryz.prog 103 #[.int .i64 1, .bool true] w (Ret (.int .i64 4) w) := by
 refine zin 19 Tryz.func103 ?_
 refine xbs 7 6 [.int .i64 0, .int .i64 4, .int .i64 8, .int .i64 24, .int .i64 16, .int .i64 4] 3 fun b1 W1 n1 => ?_
 refine xb 32 1 n1.blk ?_
 exact xe 4 (.int .i64 4) ⟨rfl, n1.below⟩
set_option maxRecDepth 100000 in
set_option maxHeartbeats 1000000 in
theorem ref07_Max1 (w : World) :
    Calls Tryz.prog 69 #[.int .i64 1, .bool true] w (Ret (.int .i64 18) w) := by
 refine zin 16 Tryz.func69 ?_
 refine xr 10 (args := #[.int .i64 1, .bool true]) (ref07_Width1 _) fun W1 hb1 => ?_
 exact xe 18 (.int .i64 18) ⟨rfl, hb1⟩
set_option maxRecDepth 100000 in
set_option maxHeartbeats 1000000 in
theorem ref07_Width2 (w : World) :
    Calls Tryz.prog 103 #[.int .i64 2, .bool true] w (Ret (.int .i64 8) w) := by
 refine zin 19 Tryz.func103 ?_
 refine xbs 7 6 [.int .i64 0, .int .i64 4, .int .i64 8, .int .i64 24, .int .i64 16, .int .i64 4] 3 fun b1 W1 n1 => ?_
 refine xb 32 2 n1.blk ?_
 exact xe 4 (.int .i64 8) ⟨rfl, n1.below⟩
set_option maxRecDepth 100000 in
set_option maxHeartbeats 1000000 in
theorem ref07_Max2 (w : World) :
    Calls Tryz.prog 69 #[.int .i64 2, .bool true] w (Ret (.int .i64 12) w) := by
 refine zin 16 Tryz.func69 ?_
 refine xr 10 (args := #[.int .i64 2, .bool true]) (ref07_Width2 _) fun W1 hb1 => ?_
 exact xe 25 (.int .i64 12) ⟨rfl, hb1⟩
set_option maxRecDepth 100000 in
set_option maxHeartbeats 1000000 in
theorem ref07_Width3 (w : World) :
    Calls Tryz.prog 103 #[.int .i64 3, .bool true] w (Ret (.int .i64 24) w) := by
 refine zin 19 Tryz.func103 ?_
 refine xbs 7 6 [.int .i64 0, .int .i64 4, .int .i64 8, .int .i64 24, .int .i64 16, .int .i64 4] 3 fun b1 W1 n1 => ?_
 refine xb 32 3 n1.blk ?_
 exact xe 4 (.int .i64 24) ⟨rfl, n1.below⟩
set_option maxRecDepth 100000 in
set_option maxHeartbeats 1000000 in
theorem ref07_Max3 (w : World) :
    Calls Tryz.prog 69 #[.int .i64 3, .bool true] w (Ret (.int .i64 6) w) := by
 refine zin 16 Tryz.func69 ?_
 refine xr 10 (args := #[.int .i64 3, .bool true]) (ref07_Width3 _) fun W1 hb1 => ?_
 exact xe 39 (.int .i64 6) ⟨rfl, hb1⟩
set_option maxRecDepth 100000 in
set_option maxHeartbeats 1000000 in
theorem ref07_Width4 (w : World) :
    Calls Tryz.prog 103 #[.int .i64 4, .bool true] w (Ret (.int .i64 16) w) := by
 refine zin 19 Tryz.func103 ?_
 refine xbs 7 6 [.int .i64 0, .int .i64 4, .int .i64 8, .int .i64 24, .int .i64 16, .int .i64 4] 3 fun b1 W1 n1 => ?_
 refine xb 32 4 n1.blk ?_
 exact xe 4 (.int .i64 16) ⟨rfl, n1.below⟩
set_option maxRecDepth 100000 in
set_option maxHeartbeats 1000000 in
theorem ref07_Max4 (w : World) :
    Calls Tryz.prog 69 #[.int .i64 4, .bool true] w (Ret (.int .i64 9) w) := by
 refine zin 16 Tryz.func69 ?_
 refine xr 10 (args := #[.int .i64 4, .bool true]) (ref07_Width4 _) fun W1 hb1 => ?_
 exact xe 32 (.int .i64 9) ⟨rfl, hb1⟩
set_option maxRecDepth 100000 in
set_option maxHeartbeats 1000000 in
theorem ref07_Width5 (w : World) :
    Calls Tryz.prog 103 #[.int .i64 5, .bool true] w (Ret (.int .i64 4) w) := by
 refine zin 19 Tryz.func103 ?_
 refine xbs 7 6 [.int .i64 0, .int .i64 4, .int .i64 8, .int .i64 24, .int .i64 16, .int .i64 4] 3 fun b1 W1 n1 => ?_
 refine xb 32 5 n1.blk ?_
 exact xe 4 (.int .i64 4) ⟨rfl, n1.below⟩
set_option maxRecDepth 100000 in
set_option maxHeartbeats 1000000 in
theorem ref07_Max5 (w : World) :
    Calls Tryz.prog 69 #[.int .i64 5, .bool true] w (Ret (.int .i64 18) w) := by
 refine zin 16 Tryz.func69 ?_
 refine xr 10 (args := #[.int .i64 5, .bool true]) (ref07_Width5 _) fun W1 hb1 => ?_
 exact xe 18 (.int .i64 18) ⟨rfl, hb1⟩
set_option maxRecDepth 100000 in
set_option maxHeartbeats 1000000 in
theorem ref07_Width_i (t : Int) (w : World) (h1 : 1 ≤ t) (h2 : t ≤ 5) :
    Calls Tryz.prog 103 #[.int .i64 t, .bool false] w (Ret (.int .i64 4) w) := by
 refine zin 19 Tryz.func103 ?_
 refine xbs 7 6 [.int .i64 0, .int .i64 4, .int .i64 8, .int .i64 24, .int .i64 16, .int .i64 4] 3 fun b1 W1 n1 => ?_
 refine xgk 9 [8, 9] (show (decide (t < (1 : Int)) : Bool) = false from decide_eq_false (by omega)) ?_
 refine xk 5 (show (decide (t > (5 : Int)) : Bool) = false from decide_eq_false (by omega)) ?_
 exact xe 17 (.int .i64 4) ⟨rfl, n1.below⟩
set_option maxRecDepth 100000 in
set_option maxHeartbeats 1000000 in
theorem ref07_Max_i (t : Int) (w : World) (h1 : 1 ≤ t) (h2 : t ≤ 5) :
    Calls Tryz.prog 69 #[.int .i64 t, .bool false] w (Ret (.int .i64 18) w) := by
 refine zin 16 Tryz.func69 ?_
 refine xr 10 (args := #[.int .i64 t, .bool false]) (ref07_Width_i t _ h1 h2) fun W1 hb1 => ?_
 exact xe 18 (.int .i64 18) ⟨rfl, hb1⟩
set_option maxRecDepth 100000 in
set_option maxHeartbeats 1000000 in
theorem ref07_Width_o (t : Int) (leaf : Bool) (w : World) (h : ¬ (1 ≤ t ∧ t ≤ 5)) :
    Calls Tryz.prog 103 #[.int .i64 t, .bool leaf] w (Ret (.int .i64 0) w) := by
 refine zin 19 Tryz.func103 ?_
 refine xbs 7 6 [.int .i64 0, .int .i64 4, .int .i64 8, .int .i64 24, .int .i64 16, .int .i64 4] 3 fun b1 W1 n1 => ?_
 refine xg 9 [8, 9] (decide (t < (1 : Int))) (fun hc2 => ?_) (fun hc2 => ?_)
 · have hc2 := of_decide_eq_true hc2
   exact xe 13 (.int .i64 0) ⟨rfl, n1.below⟩
 have hc2 := of_decide_eq_false hc2
 refine xk 5 (show (decide (t > (5 : Int)) : Bool) = true from decide_eq_true (by omega)) ?_
 exact xe 7 (.int .i64 0) ⟨rfl, n1.below⟩
set_option maxRecDepth 100000 in
set_option maxHeartbeats 1000000 in
theorem ref07_Max_o (t : Int) (leaf : Bool) (w : World) (h : ¬ (1 ≤ t ∧ t ≤ 5)) :
    Calls Tryz.prog 69 #[.int .i64 t, .bool leaf] w (Ret (.int .i64 0) w) := by
 refine zin 16 Tryz.func69 ?_
 refine xr 10 (args := #[.int .i64 t, .bool leaf]) (ref07_Width_o t leaf _ h) fun W1 hb1 => ?_
 exact xe 40 (.int .i64 0) ⟨rfl, hb1⟩
theorem ref07_Width (t : Int) (leaf : Bool) (v : Nat) (hv : widN t leaf = v) (h1 : 1 ≤ t) (h2 : t ≤ 5) (w : World) : Calls Tryz.prog 103 #[.int .i64 t, .bool leaf] w (Ret (.int .i64 (v : Int)) w) := by
  subst hv
  cases leaf
  · exact ref07_Width_i t w h1 h2
  obtain rfl | rfl | rfl | rfl | rfl : t = 1 ∨ t = 2 ∨ t = 3 ∨ t = 4 ∨ t = 5 := by omega
  · exact ref07_Width1 w
  · exact ref07_Width2 w
  · exact ref07_Width3 w
  · exact ref07_Width4 w
  · exact ref07_Width5 w
theorem ref07_Max (t : Int) (leaf : Bool) (m : Nat) (hm : maxN t leaf = m) (h1 : 1 ≤ t) (h2 : t ≤ 5) (w : World) : Calls Tryz.prog 69 #[.int .i64 t, .bool leaf] w (Ret (.int .i64 (m : Int)) w) := by
  subst hm
  cases leaf
  · exact ref07_Max_i t w h1 h2
  obtain rfl | rfl | rfl | rfl | rfl : t = 1 ∨ t = 2 ∨ t = 3 ∨ t = 4 ∨ t = 5 := by omega
  · exact ref07_Max1 w
  · exact ref07_Max2 w
  · exact ref07_Max3 w
  · exact ref07_Max4 w
  · exact ref07_Max5 w
set_option maxRecDepth 100000 in
set_option maxHeartbeats 4000000 in
theorem ref07_Right (t : Int) (leaf : Bool) (n m v : Nat) (K : List Int) (Vs : List (List UInt8)) (ak av : Option Addr) (ck cv : Nat) (w : World) (N : NodeOk t leaf n m v K Vs) (hKs : Sl w (.slice ak n ck) n (K.map (Value.int .i64))) (hVs : Sl w (.slice av n cv) n (Vs.map sv)) :
    Calls Tryz.prog 104 #[.agg #[.int .i64 t, .bool leaf, .slice ak n ck, .slice av n cv]] w (Ret (.bool true) w) := by
 have ht1 := N.ht1
 have ht2 := N.ht2
 have hnm := N.hn
 have hwb := widN_bd t leaf
 rw [N.hv] at hwb
 have hmb := maxN_pos t leaf
 rw [N.hm] at hmb
 have hfit := fitN t leaf
 rw [N.hm, N.hv] at hfit
 have hcap := Sl.cap hKs
 refine zin 91 Tryz.func104 ?_
 refine xa 2 [.int .i64 t, .bool leaf, .slice ak n ck, .slice av n cv] 131 fun b1 W1 n1 => ?_
 refine xd 5 .z ?_
 have k1 := n1.blk.below (below_drew W1)
 refine xb (.e [0] 1) 0 k1 ?_
 refine xb (.e [2] 3) 1 k1 ?_
 refine xr (.o [] 4) (args := #[.int .i64 t, .bool leaf]) (ref07_Width t leaf v N.hv ht1 ht2 _) fun W2 hb2 => ?_
 refine xgk (.b [5, 6]) [9, 10] (show (((↑v : Int) == (0 : Int)) : Bool) = false from by simp; omega) ?_
 have k1'1 := k1.below hb2
 refine xb (.e [7] 8) 2 k1'1 ?_
 refine xb (.e [9, 10] 11) 0 k1'1 ?_
 refine xb (.e [12] 13) 1 k1'1 ?_
 refine xr (.o [] 14) (args := #[.int .i64 t, .bool leaf]) (ref07_Max t leaf m N.hm ht1 ht2 _) fun W4 hb4 => ?_
 refine xgk (.b [15, 16, 17]) [19, 20, 21] (show (decide ((↑n : Int) > (↑m : Int)) : Bool) = false from decide_eq_false (by omega)) ?_
 have k1'2 := k1'1.below hb4
 refine xb (.e [18] 19) 3 k1'2 ?_
 refine xb (.e [20, 21] 22) 2 k1'2 ?_
 refine xk (.r [23, 24, 25] 2) (show (((↑n : Int) != (↑n : Int)) : Bool) = false from by simp) ?_
 have hB := Bl.next (Bl.next (Bl.next n1.below (below_drew W1)) hb2) hb4
 refine zl 9 91 (fun zm zkv V => ∃ (i : Nat), zkv = [(1, .pointer (some ⟨b1, 0, none⟩)), (3, .int .i64 (↑i : Int))] ∧ zm = n - ((↑i : Int)).toNat ∧ Below w.heap.size w V ∧ Blk V b1 ([.int .i64 t, .bool leaf, .slice ak n ck, .slice av n cv]) 131 ∧ i ≤ n) ⟨0, rfl, rfl, hB, k1'2, Nat.zero_le _⟩ ?_
 rintro _ _ W6 ⟨i, rfl, rfl, hB_6, k6_b1, hi⟩ J6 hJ6 r6
 refine xb 5 2 k6_b1 ?_
 refine xid 4 ((↑i : Int) < (↑n : Int)) (fun hc7 => ?_) (fun hc7 => ?_)
 · refine xd 5 .z ?_
   have k6_b1'1 := k6_b1.below (below_drew W6)
   refine xb (.e [0] 1) 2 k6_b1'1 ?_
   refine xx (.e [2] 3) _ n i 1 (IntsN.elem hKs N.hK (k := i) (by omega)).1 ?_
   have hB'1 := Bl.next hB_6 (below_drew W6)
   refine xl (.e [] 4) ((IntsN.elem (hKs.below hB'1) N.hK (k := i) (by omega)).2) ?_
   refine xgk (.b [5, 6]) [42, 43] (show (decide ((K.getD i 0) < (0 : Int)) : Bool) = false from decide_eq_false (by have := N.hk0 i (by omega); omega)) ?_
   refine xb (.e [7] 8) 2 k6_b1'1 ?_
   refine xx (.e [9] 10) _ n i 1 (IntsN.elem hKs N.hK (k := i) (by omega)).1 ?_
   refine xl (.e [] 11) ((IntsN.elem (hKs.below hB'1) N.hK (k := i) (by omega)).2) ?_
   refine xgk (.b [12, 13, 14]) [49, 50, 51] (show (decide ((K.getD i 0) > (281474976710655 : Int)) : Bool) = false from decide_eq_false (by have := N.hk0 i (by omega); omega)) ?_
   refine xb (.e [15] 16) 3 k6_b1'1 ?_
   refine xx (.e [17] 18) _ n i 1 (Strs.elem hVs N.hV (k := i) (by omega)).1 ?_
   refine xl (.e [] 19) ((Strs.elem (hVs.below hB'1) N.hV (k := i) (by omega)).2) ?_
   refine xb (.e [20, 21] 22) 0 k6_b1'1 ?_
   refine xb (.e [23] 24) 1 k6_b1'1 ?_
   refine xr (.o [] 25) (args := #[.int .i64 t, .bool leaf]) (ref07_Width t leaf v N.hv ht1 ht2 _) fun W10 hb10 => ?_
   refine xgk (.b [26, 27, 28]) [63, 64, 65] (show (((↑(Vs.getD i []).length : Int) != (↑v : Int)) : Bool) = false from by rw [N.hw i (by omega)]; simp) ?_
   refine xg (.b [29, 30, 31]) [67, 68] (decide ((↑i : Int) > (0 : Int))) (fun hc12 => ?_) (fun hc12 => ?_)
   · have hc12 := of_decide_eq_true hc12
     have k6_b1'2 := k6_b1'1.below hb10
     refine xb (.e [32] 33) 2 k6_b1'2 ?_
     refine xx (.e [34] 35) _ n i 1 (IntsN.elem hKs N.hK (k := i) (by omega)).1 ?_
     have hB'2 := Bl.next hB'1 hb10
     refine xl (.e [] 36) ((IntsN.elem (hKs.below hB'2) N.hK (k := i) (by omega)).2) ?_
     refine xb (.e [37] 38) 2 k6_b1'2 ?_
     refine xwm (.e [39] 40) ((↑i : Int) - 1) (↑(i - 1) : Int) ?_
     refine xx (.e [] 41) _ n (i - 1) 1 (IntsN.elem hKs N.hK (k := (i - 1)) (by omega)).1 ?_
     refine xl (.e [] 42) ((IntsN.elem (hKs.below hB'2) N.hK (k := (i - 1)) (by omega)).2) ?_
     refine xk (.r [43, 44, 45] 2) (show (decide ((K.getD i 0) ≤ (K.getD (i - 1) 0)) : Bool) = false from decide_eq_false (by have h9 := N.hk1 (i - 1) (by omega); rw [show i - 1 + 1 = i by omega] at h9; omega)) ?_
     refine xwm 5 ((↑i : Int) + 1) (↑(i + 1) : Int) ?_
     exact ze 2 (hJ6 _ _ _ ⟨i + 1, rfl, rfl, hB'2, k6_b1'2, by omega⟩ (by omega))
   have hc12 := of_decide_eq_false hc12
   refine xwm (.r [32, 33, 34, 35, 36, 37, 38, 39, 40, 41, 42, 43, 44, 45] 8) ((↑i : Int) + 1) (↑(i + 1) : Int) ?_
   have hB'3 := Bl.next hB'1 hb10
   have k6_b1'3 := k6_b1'1.below hb10
   exact ze 2 (hJ6 _ _ _ ⟨i + 1, rfl, rfl, hB'3, k6_b1'3, by omega⟩ (by omega))
 refine xb 8 1 k6_b1 ?_
 refine xg 1 [84, 85] leaf (fun hc13 => ?_) (fun hc13 => ?_)
 · exact xe 9 (.bool true) ⟨rfl, hB_6⟩
 refine xb 1 2 k6_b1 ?_
 exact xe 7 (.bool (decide ((↑n : Int) > (0 : Int)))) ⟨by rw [show decide ((↑n : Int) > (0 : Int)) = true from decide_eq_true (by have := N.hl (by assumption); omega)], hB_6⟩
/-- the keys of a node, i places of them, when n keys are there -/
def keyPad (K : List Int) (n : Nat) (i : Nat) : List UInt8 := (List.range i).flatMap fun j => if j < n then leB (K.getD j 0) 8 else List.replicate 8 0
theorem keyPad_succ (K : List Int) (n i : Nat) : keyPad K n (i + 1) = keyPad K n i ++ (if i < n then leB (K.getD i 0) 8 else List.replicate 8 0) := by
  unfold keyPad; rw [List.range_succ, List.flatMap_append]; simp
theorem keyPad_len (K : List Int) (n i : Nat) : (keyPad K n i).length = i * 8 := by
  induction i with
  | zero => rfl
  | succ i ih => rw [keyPad_succ, List.length_append, ih]; split <;> simp [leB_len] <;> omega
/-- the values of a node, i of them -/
def valPad (Vs : List (List UInt8)) (i : Nat) : List UInt8 := (List.range i).flatMap fun j => Vs.getD j []
theorem valPad_succ (Vs : List (List UInt8)) (i : Nat) : valPad Vs (i + 1) = valPad Vs i ++ Vs.getD i [] := by
  unfold valPad; rw [List.range_succ, List.flatMap_append]; simp
theorem valPad_len {Vs : List (List UInt8)} {v : Nat} : ∀ {i : Nat}, (∀ j, j < i → (Vs.getD j []).length = v) → (valPad Vs i).length = i * v
  | 0, _ => by simp [valPad]
  | i + 1, h => by rw [valPad_succ, List.length_append, valPad_len fun j hj => h j (by omega), h i (by omega), Nat.add_mul, Nat.one_mul]
theorem putB_mid {P z Q x : List UInt8} {k : Nat} (hk : P.length = k) (hz : z.length = x.length) : putB (P ++ z ++ Q) k x = P ++ x ++ Q := by
  unfold putB
  subst hk
  rw [List.append_assoc P z Q, List.take_left' rfl, ← hz]
  have e : P ++ (z ++ Q) = (P ++ z) ++ Q := (List.append_assoc _ _ _).symm
  rw [e, List.drop_left' (by simp)]
theorem keyPad_zero (K : List Int) (i : Nat) : ∀ d, keyPad K i (i + d) = keyPad K i i ++ List.replicate (d * 8) 0
  | 0 => by simp
  | d + 1 => by
    rw [← Nat.add_assoc, keyPad_succ, keyPad_zero K i d, if_neg (by omega), List.append_assoc, List.replicate_append_replicate, Nat.add_mul, Nat.one_mul]
theorem keyPad_own (K : List Int) (n : Nat) : ∀ i, i ≤ n → keyPad K n i = keyPad K i i
  | 0, _ => rfl
  | i + 1, h => by
    rw [keyPad_succ, keyPad_succ, if_pos (by omega), if_pos (by omega), keyPad_own K n i (by omega), keyPad_own K (i + 1) i (by omega)]
theorem rep_add (a b : Nat) : List.replicate (a + b) (0 : UInt8) = List.replicate a 0 ++ List.replicate b 0 := List.replicate_append_replicate.symm
/-- a node's bytes, part by part -/
theorem nodeP_form {m v : Nat} {H : List UInt8} {K : List Int} {Vs : List (List UInt8)} (hH : H.length = 12) (hf : 12 + m * 8 + m * v ≤ 244) : ∀ {i : Nat}, i ≤ m → (∀ j, j < i → (Vs.getD j []).length = v) →
    nodeP m v H K Vs i = H ++ keyPad K i m ++ valPad Vs i ++ List.replicate (232 - m * 8 - i * v) 0
  | 0, _, _ => by
    have e1 := keyPad_zero K 0 m
    rw [Nat.zero_add] at e1
    rw [nodeP, e1]
    have h1 : (232 - m * 8 - 0 * v) = 232 - m * 8 := by omega
    rw [h1, show (244 : Nat) = 12 + (m * 8 + (232 - m * 8)) by omega, rep_add, rep_add]
    have := putB_mid (P := []) (z := List.replicate 12 (0 : UInt8)) (Q := List.replicate (m * 8) 0 ++ List.replicate (232 - m * 8) 0) (x := H) (k := 0) rfl (by simp [hH])
    rw [List.nil_append, List.nil_append] at this
    rw [this]
    simp [keyPad, valPad]
  | i + 1, hi, hV => by
    have ih := nodeP_form (K := K) hH hf (i := i) (by omega) (fun j hj => hV j (by omega))
    have hvi := hV i (by omega)
    have h2 : (i + 1) * v ≤ m * v := Nat.mul_le_mul_right v hi
    rw [Nat.add_mul, Nat.one_mul] at h2
    obtain ⟨d, hd⟩ : ∃ d, m = i + (d + 1) := ⟨m - i - 1, by omega⟩
    have ek : keyPad K i m = keyPad K i i ++ List.replicate 8 0 ++ List.replicate (d * 8) 0 := by
      rw [hd, keyPad_zero, show (d + 1) * 8 = 8 + d * 8 by omega, rep_add, List.append_assoc]
    have ek2 : keyPad K (i + 1) m = keyPad K i i ++ leB (K.getD i 0) 8 ++ List.replicate (d * 8) 0 := by
      rw [show m = (i + 1) + d by omega, keyPad_zero, keyPad_succ, if_pos (by omega), keyPad_own K (i + 1) i (by omega)]
    have er : List.replicate (232 - m * 8 - i * v) (0 : UInt8) = List.replicate v 0 ++ List.replicate (232 - m * 8 - (i * v + v)) 0 := by
      rw [← rep_add]; congr 1; omega
    have hvp : (valPad Vs i).length = i * v := valPad_len fun j hj => hV j (by omega)
    rw [nodeP, ih, ek, er]
    have s1 := putB_mid (P := H ++ keyPad K i i) (z := List.replicate 8 (0 : UInt8)) (Q := List.replicate (d * 8) 0 ++ (valPad Vs i ++ (List.replicate v 0 ++ List.replicate (232 - m * 8 - (i * v + v)) 0))) (x := leB (K.getD i 0) 8) (k := 12 + i * 8) (by rw [List.length_append, hH, keyPad_len]) (by simp [leB_len])
    have a1 : H ++ (keyPad K i i ++ List.replicate 8 0 ++ List.replicate (d * 8) 0) ++ valPad Vs i ++ (List.replicate v 0 ++ List.replicate (232 - m * 8 - (i * v + v)) 0) = H ++ keyPad K i i ++ List.replicate 8 0 ++ (List.replicate (d * 8) 0 ++ (valPad Vs i ++ (List.replicate v 0 ++ List.replicate (232 - m * 8 - (i * v + v)) 0))) := by simp only [List.append_assoc]
    rw [a1, s1]
    have s2 := putB_mid (P := H ++ keyPad K (i + 1) m ++ valPad Vs i) (z := List.replicate v (0 : UInt8)) (Q := List.replicate (232 - m * 8 - (i * v + v)) 0) (x := Vs.getD i []) (k := 12 + m * 8 + i * v) (by rw [List.length_append, List.length_append, hH, keyPad_len, hvp]) (by rw [List.length_replicate, hvi])
    have a2 : H ++ keyPad K i i ++ leB (K.getD i 0) 8 ++ (List.replicate (d * 8) 0 ++ (valPad Vs i ++ (List.replicate v 0 ++ List.replicate (232 - m * 8 - (i * v + v)) 0))) = H ++ keyPad K (i + 1) m ++ valPad Vs i ++ List.replicate v 0 ++ List.replicate (232 - m * 8 - (i * v + v)) 0 := by rw [ek2]; simp only [List.append_assoc]
    rw [a2, s2, valPad_succ, Nat.add_mul, Nat.one_mul]
    simp only [List.append_assoc]
theorem leB_1 (n : Int) : leB n 1 = [byteAt n 0] := rfl
theorem leB_2 (n : Int) : leB n 2 = [byteAt n 0, byteAt n 1] := rfl
theorem byte1_zero {n : Int} (h : n < 256) : byteAt n 1 = 0 := by
  unfold byteAt
  rw [show n.toNat / 256 ^ 1 = 0 from Nat.div_eq_of_lt (by omega)]; rfl
theorem headB_cells {t : Int} {leaf : Bool} {n m v : Nat} (h1 : 0 ≤ t) (hn : n ≤ 18) (hm : m ≤ 18) (hv : v ≤ 24) : (headB t leaf n m v).map bv =
    [.int .u8 (flagN leaf), .int .u8 (byteAt t 0).toNat, .int .u8 (byteAt (n : Int) 0).toNat, .int .u8 0, .int .u8 (byteAt (v : Int) 0).toNat, .int .u8 0, .int .u8 (byteAt (m : Int) 0).toNat, .int .u8 0, .int .u8 0, .int .u8 0, .int .u8 0, .int .u8 0] := by
  unfold headB
  rw [leB_1, leB_1, leB_2, leB_2, leB_2, byte1_zero (n := (n : Int)) (by omega), byte1_zero (n := (v : Int)) (by omega), byte1_zero (n := (m : Int)) (by omega)]
  cases leaf <;> rfl
set_option maxRecDepth 100000 in
set_option maxHeartbeats 8000000 in
theorem ref07_Put (t : Int) (leaf : Bool) (n m v : Nat) (K : List Int) (Vs : List (List UInt8)) (ak av : Option Addr) (ck cv : Nat) (w : World) (N : NodeOk t leaf n m v K Vs) (hKs : Sl w (.slice ak n ck) n (K.map (Value.int .i64))) (hVs : Sl w (.slice av n cv) n (Vs.map sv)) :
    Calls Tryz.prog 70 #[.agg #[.int .i64 t, .bool leaf, .slice ak n ck, .slice av n cv]] w (RetS (fun w' r => ∃ p c, r = .tuple #[.slice p 244 c, .int .i64 0] ∧ w'.ownsRow w.heap.size 5 1 (.slice p 244 c) 244 ((nodeP m v (headB t leaf n m v) K Vs n).map bv)) w) := by
 have ht1 := N.ht1
 have ht2 := N.ht2
 have hnm := N.hn
 have hwb := widN_bd t leaf
 rw [N.hv] at hwb
 have hmb := maxN_pos t leaf
 rw [N.hm] at hmb
 have hfit := fitN t leaf
 rw [N.hm, N.hv] at hfit
 have hcap := Sl.cap hKs
 refine zin 79 Tryz.func70 ?_
 refine xa 2 [.int .i64 t, .bool leaf, .slice ak n ck, .slice av n cv] 131 fun b1 W1 n1 => ?_
 refine xlv 7 n1.blk.rp ?_
 refine xr 0 (args := #[.agg #[.int .i64 t, .bool leaf, .slice ak n ck, .slice av n cv]]) (ref07_Right t leaf n m v K Vs ak av ck cv _ N (hKs.below n1.below) (hVs.below n1.below)) fun W2 hb2 => ?_
 have k1'1 := n1.blk.below hb2
 refine xb 9 0 k1'1 ?_
 refine xb 1 1 k1'1 ?_
 refine xr 0 (args := #[.int .i64 t, .bool leaf]) (ref07_Width t leaf v N.hv ht1 ht2 _) fun W3 hb3 => ?_
 have k1'2 := k1'1.below hb3
 refine xb 6 0 k1'2 ?_
 refine xb 1 1 k1'2 ?_
 refine xr 0 (args := #[.int .i64 t, .bool leaf]) (ref07_Max t leaf m N.hm ht1 ht2 _) fun W4 hb4 => ?_
 have k1'3 := k1'2.below hb4
 refine xb 6 0 k1'3 ?_
 refine xq 0 (congrArg (Value.int .u8) (show (IntKind.u8.wrap t : Int) = (↑(byteAt t 0).toNat : Int) from byte_0 (by omega))) ?_
 refine xb 1 2 k1'3 ?_
 refine xq 1 (congrArg (Value.int .u8) (show (IntKind.u8.wrap (↑n : Int) : Int) = (↑(byteAt (↑n : Int) 0).toNat : Int) from byte_0 (by omega))) ?_
 refine xq 1 (congrArg (Value.int .u8) (show (IntKind.u8.wrap (↑v : Int) : Int) = (↑(byteAt (↑v : Int) 0).toNat : Int) from byte_0 (by omega))) ?_
 refine xq 1 (congrArg (Value.int .u8) (show (IntKind.u8.wrap (↑m : Int) : Int) = (↑(byteAt (↑m : Int) 0).toNat : Int) from byte_0 (by omega))) ?_
 refine xbs 0 12 [.int .u8 0, .int .u8 (↑(byteAt t 0).toNat : Int), .int .u8 (↑(byteAt (↑n : Int) 0).toNat : Int), .int .u8 0, .int .u8 (↑(byteAt (↑v : Int) 0).toNat : Int), .int .u8 0, .int .u8 (↑(byteAt (↑m : Int) 0).toNat : Int), .int .u8 0, .int .u8 0, .int .u8 0, .int .u8 0, .int .u8 0] 5 fun b5 W5 n5 => ?_
 have k1'4 := k1'3.below n5.below
 refine xb 7 1 k1'4 ?_
 refine xi 2 leaf (fun hc6 => ?_) (fun hc6 => ?_)
 · refine xs 3 n5.blk [.int .u8 1, .int .u8 (↑(byteAt t 0).toNat : Int), .int .u8 (↑(byteAt (↑n : Int) 0).toNat : Int), .int .u8 0, .int .u8 (↑(byteAt (↑v : Int) 0).toNat : Int), .int .u8 0, .int .u8 (↑(byteAt (↑m : Int) 0).toNat : Int), .int .u8 0, .int .u8 0, .int .u8 0, .int .u8 0, .int .u8 0] fun W7 u7 k7 => ?_
   have g5 := n5.ge (Bl.next (Bl.next (Bl.next n1.below hb2) hb3) hb4)
   have hlf : leaf = true := by assumption
   have hC0 := headB_cells (t := t) (leaf := leaf) (n := n) (m := m) (v := v) (by omega) (by omega) (by omega) (by omega)
   have ho0 : World.ownsRow W7 w.heap.size 5 1 (.slice (some ⟨b5, 0, none⟩) 12 12) 12 (((headB t leaf n m v) ++ keyPad K n 0).map bv) := by
     rw [show keyPad K n 0 = [] from rfl, List.append_nil, hC0, show flagN leaf = 1 by rw [hlf]; rfl]
     exact own_of_blk (size := 1) (n := 12) k7 g5 rfl (by decide)
   have hB'1 := u7.below (Bl.next (Bl.next (Bl.next (Bl.next n1.below hb2) hb3) hb4) n5.below) g5
   have k1'5 := u7.blkT k1'4 n5.blk (by decide)
   refine zl 9 79 (fun zm zkv V => ∃ (i q : Nat) (p : Option Addr) (c : Nat), zkv = [(1, .pointer (some ⟨b1, 0, none⟩)), (2, .slice none 0 0), (3, .int .i64 0), (5, .int .i64 (↑m : Int)), (6, .slice p q c), (7, .int .i64 (↑i : Int))] ∧ zm = m - ((↑i : Int)).toNat ∧ Below w.heap.size w V ∧ Blk V b1 ([.int .i64 t, .bool leaf, .slice ak n ck, .slice av n cv]) 131 ∧ V.ownsRow w.heap.size 5 1 (.slice p q c) q (((headB t leaf n m v) ++ keyPad K n i).map bv) ∧ i ≤ m ∧ q = 12 + i * 8) ⟨0, 12, (some ⟨b5, 0, none⟩), 12, rfl, rfl, hB'1, k1'5, ho0, Nat.zero_le _, rfl⟩ ?_
   rintro _ _ W8 ⟨i, q, p, c, rfl, rfl, hB_8, k8_b1, ho, hi, hq⟩ J8 hJ8 r8
   refine xid 8 ((↑i : Int) < (↑m : Int)) (fun hc9 => ?_) (fun hc9 => ?_)
   · refine xb 8 2 k8_b1 ?_
     refine xid 4 ((↑i : Int) < (↑n : Int)) (fun hc10 => ?_) (fun hc10 => ?_)
     · refine xb 3 2 k8_b1 ?_
       refine xx 1 _ n i 1 (IntsN.elem hKs N.hK (k := i) (by omega)).1 ?_
       refine xl 0 ((IntsN.elem (hKs.below hB_8) N.hK (k := i) (by omega)).2) ?_
       refine xc 0 (args := #[.int .i64 (K.getD i 0), .int .i64 8]) (ref_BytesN (K.getD i 0) 8 8 _ (N.hk0 i (by omega)).1 (by have := (N.hk0 i (by omega)).2; omega) rfl (by decide)) ?_
       rintro _ W11 ⟨_, rfl, hb11, pk, ck, rfl, hk8⟩
       have ho'1 := own_below ho hb11
       have hk8'1 := own_mono hk8 hB_8.size
       have hB'2 := Bl.next hB_8 hb11
       refine xbi 0 fun _ _ _ _ zJ zQ zo zx zy zK => op_app (m := 8) (news := (leB (K.getD i 0) 8).map bv) (.int .u8 0) 1 1 (q + 8) (((headB t leaf n m v) ++ keyPad K n (i + 1)).map bv) zo Tryz.underlying28 (by kernel_rfl) rfl (by decide) zx ho'1 zy (own_sl hk8'1) (by simp [leB_len]) (bv_one _) (by unfold maxLen; omega) (by omega) hB'2.size (by rfl) (by rw [keyPad_succ, if_pos (by omega)]; simp) fun p12 c12 W12 o12 hg12 hb12 => ?_
       refine zK _ _ ?_
       refine xwm 6 ((↑i : Int) + 1) (↑(i + 1) : Int) ?_
       have hB'3 := hB'2.trans hb12
       have k8_b1'1 := (k8_b1.below hb11).grown hg12 ho'1 (by decide)
       exact ze 2 (hJ8 _ _ _ ⟨i + 1, _, _, _, rfl, rfl, hB'3, k8_b1'1, o12, by omega, by omega⟩ (by omega))
     refine xbi 2 (t2 := 3) fun _ _ _ _ zJ zQ zo zx zy zK => op_appZo (kq := .i64) 8 (q + 8) (((headB t leaf n m v) ++ keyPad K n (i + 1)).map bv) zo Tryz.underlying28 Tryz.underlying3 (by kernel_rfl) zx ho zy (by omega) (by omega) hB_8.size (by rfl) (by rw [keyPad_succ, if_neg (by omega)]; simp [bv]) fun p13 c13 W13 o13 hg13 hb13 => ?_
     refine zK _ _ ?_
     refine xwm 6 ((↑i : Int) + 1) (↑(i + 1) : Int) ?_
     have hB'4 := hB_8.trans hb13
     have k8_b1'2 := k8_b1.grown hg13 ho (by decide)
     exact ze 2 (hJ8 _ _ _ ⟨i + 1, _, _, _, rfl, rfl, hB'4, k8_b1'2, o13, by omega, by omega⟩ (by omega))
   have him : i = m := by omega
   have ho1 : World.ownsRow W8 w.heap.size 5 1 (.slice p q c) q (((headB t leaf n m v) ++ keyPad K n m ++ valPad Vs 0).map bv) := by
     have e9 : keyPad K n m = keyPad K n i := by rw [him]
     rw [e9, show valPad Vs 0 = [] from rfl, List.append_nil]; exact ho
   refine zl 12 79 (fun zm zkv V => ∃ (j q : Nat) (p : Option Addr) (c : Nat), zkv = [(1, .pointer (some ⟨b1, 0, none⟩)), (2, .slice none 0 0), (3, .int .i64 0), (6, .slice p q c), (8, .int .i64 (↑j : Int))] ∧ zm = n - ((↑j : Int)).toNat ∧ Below w.heap.size w V ∧ Blk V b1 ([.int .i64 t, .bool leaf, .slice ak n ck, .slice av n cv]) 131 ∧ V.ownsRow w.heap.size 5 1 (.slice p q c) q (((headB t leaf n m v) ++ keyPad K n m ++ valPad Vs j).map bv) ∧ j ≤ n ∧ q = 12 + m * 8 + j * v) ⟨0, q, p, c, rfl, rfl, hB_8, k8_b1, ho1, Nat.zero_le _, by omega⟩ ?_
   rintro _ _ W14 ⟨j, q, p, c, rfl, rfl, hB_14, k14_b1, ho_14, hj, hq_14⟩ J14 hJ14 r14
   have hvb : j < n → j * v + v ≤ m * v := fun h => by have h9 : (j + 1) * v ≤ m * v := Nat.mul_le_mul_right v (by omega); rw [Nat.add_mul, Nat.one_mul] at h9; exact h9
   refine xb 5 3 k14_b1 ?_
   refine xid 4 ((↑j : Int) < (↑n : Int)) (fun hc15 => ?_) (fun hc15 => ?_)
   · refine xb 7 3 k14_b1 ?_
     refine xx 1 _ n j 1 (Strs.elem hVs N.hV (k := j) (by omega)).1 ?_
     refine xl 0 ((Strs.elem (hVs.below hB_14) N.hV (k := j) (by omega)).2) ?_
     refine xbi 0 (t2 := 9) fun _ _ _ _ zJ zQ zo zx zy zK => op_appS (Vs.getD j []) (q + v) (((headB t leaf n m v) ++ keyPad K n m ++ valPad Vs (j + 1)).map bv) zo Tryz.underlying28 Tryz.underlying9 (by kernel_rfl) zx ho_14 zy (by rw [N.hw j (by omega)]; omega) hB_14.size (by rw [N.hw j (by omega)]) (by rw [valPad_succ]; simp) fun p16 c16 W16 o16 hg16 hb16 => ?_
     refine zK _ _ ?_
     refine xwm 6 ((↑j : Int) + 1) (↑(j + 1) : Int) ?_
     have hB'5 := hB_14.trans hb16
     have k14_b1'1 := k14_b1.grown hg16 ho_14 (by decide)
     exact ze 2 (hJ14 _ _ _ ⟨j + 1, _, _, _, rfl, rfl, hB'5, k14_b1'1, o16, by omega, by rw [Nat.add_mul, Nat.one_mul]; omega⟩ (by omega))
   have hjn : j = n := by omega
   have ho2 : World.ownsRow W14 w.heap.size 5 1 (.slice p q c) q (((headB t leaf n m v) ++ keyPad K n m ++ valPad Vs n ++ List.replicate 0 0).map bv) := by
     have e9 : valPad Vs n = valPad Vs j := by rw [hjn]
     rw [List.replicate_zero, List.append_nil, e9]; exact ho_14
   refine zl 7 79 (fun zm zkv V => ∃ (z q : Nat) (p : Option Addr) (c : Nat), zkv = [(2, .slice none 0 0), (3, .int .i64 0), (6, .slice p q c)] ∧ zm = 244 - q ∧ Below w.heap.size w V ∧ Blk V b1 ([.int .i64 t, .bool leaf, .slice ak n ck, .slice av n cv]) 131 ∧ V.ownsRow w.heap.size 5 1 (.slice p q c) q (((headB t leaf n m v) ++ keyPad K n m ++ valPad Vs n ++ List.replicate z 0).map bv) ∧ q = 12 + m * 8 + n * v + z ∧ q ≤ 244) ⟨0, q, p, c, rfl, rfl, hB_14, k14_b1, ho2, by rw [← hjn]; omega, by have h9 : n * v ≤ m * v := Nat.mul_le_mul_right v (by omega); have h8 : j * v = n * v := congrArg (fun x => x * v) hjn; omega⟩ ?_
   rintro _ _ W17 ⟨z, q, p, c, rfl, rfl, hB_17, k17_b1, ho, hz, hq2⟩ J17 hJ17 r17
   refine xid 8 ((↑q : Int) < (244 : Int)) (fun hc18 => ?_) (fun hc18 => ?_)
   · refine xbs 5 1 [.int .u8 0] 5 fun b19 W19 n19 => ?_
     have r19_ho := own_ne ho n19
     have ho'2 := own_below ho n19.below
     have hB'6 := Bl.next hB_17 n19.below
     refine xbi 0 fun _ _ _ _ zJ zQ zo zx zy zK => op_app (m := 1) (news := [.int .u8 0]) (.int .u8 0) 1 1 (q + 1) (((headB t leaf n m v) ++ keyPad K n m ++ valPad Vs n ++ List.replicate (z + 1) 0).map bv) zo Tryz.underlying28 (by kernel_rfl) rfl (by decide) zx ho'2 zy (n19.blk.sl 1 1 (by decide) (by decide)) rfl (by simp [Value.oneCell']) (by unfold maxLen; omega) (by omega) hB'6.size (by rfl) (by rw [List.replicate_succ']; simp [bv]) fun p20 c20 W20 o20 hg20 hb20 => ?_
     refine zK _ _ ?_
     have hB'7 := hB'6.trans hb20
     have k17_b1'1 := (k17_b1.below n19.below).grown hg20 ho'2 (by decide)
     exact ze 3 (hJ17 _ _ _ ⟨z + 1, _, _, _, rfl, rfl, hB'7, k17_b1'1, o20, by omega, by omega⟩ (by omega))
   refine xe 13 (.tuple #[.slice p q c, .int .i64 0]) ?_
   obtain rfl : q = 244 := by omega
   rw [nodeP_form (headB_len _ _ _ _ _) hfit hnm (fun j hj => N.hw j hj)]
   exact ⟨_, rfl, hB_17, _, _, rfl, by rw [show 232 - m * 8 - n * v = z by omega]; exact ho⟩
 have hlf : leaf = false := by assumption
 have g5 := n5.ge (Bl.next (Bl.next (Bl.next n1.below hb2) hb3) hb4)
 have hC0 := headB_cells (t := t) (leaf := leaf) (n := n) (m := m) (v := v) (by omega) (by omega) (by omega) (by omega)
 have ho0 : World.ownsRow W5 w.heap.size 5 1 (.slice (some ⟨b5, 0, none⟩) 12 12) 12 (((headB t leaf n m v) ++ keyPad K n 0).map bv) := by
   rw [show keyPad K n 0 = [] from rfl, List.append_nil, hC0, show flagN leaf = 0 by rw [hlf]; rfl]
   exact own_of_blk (size := 1) (n := 12) n5.blk g5 rfl (by decide)
 have hB'8 := Bl.next (Bl.next (Bl.next (Bl.next n1.below hb2) hb3) hb4) n5.below
 refine zl 9 79 (fun zm zkv V => ∃ (i q : Nat) (p : Option Addr) (c : Nat), zkv = [(1, .pointer (some ⟨b1, 0, none⟩)), (2, .slice none 0 0), (3, .int .i64 0), (5, .int .i64 (↑m : Int)), (6, .slice p q c), (7, .int .i64 (↑i : Int))] ∧ zm = m - ((↑i : Int)).toNat ∧ Below w.heap.size w V ∧ Blk V b1 ([.int .i64 t, .bool leaf, .slice ak n ck, .slice av n cv]) 131 ∧ V.ownsRow w.heap.size 5 1 (.slice p q c) q (((headB t leaf n m v) ++ keyPad K n i).map bv) ∧ i ≤ m ∧ q = 12 + i * 8) ⟨0, 12, (some ⟨b5, 0, none⟩), 12, rfl, rfl, hB'8, k1'4, ho0, Nat.zero_le _, rfl⟩ ?_
 rintro _ _ W21 ⟨i, q, p, c, rfl, rfl, hB_21, k21_b1, ho, hi, hq⟩ J21 hJ21 r21
 refine xid 8 ((↑i : Int) < (↑m : Int)) (fun hc22 => ?_) (fun hc22 => ?_)
 · refine xb 8 2 k21_b1 ?_
   refine xid 4 ((↑i : Int) < (↑n : Int)) (fun hc23 => ?_) (fun hc23 => ?_)
   · refine xb 3 2 k21_b1 ?_
     refine xx 1 _ n i 1 (IntsN.elem hKs N.hK (k := i) (by omega)).1 ?_
     refine xl 0 ((IntsN.elem (hKs.below hB_21) N.hK (k := i) (by omega)).2) ?_
     refine xc 0 (args := #[.int .i64 (K.getD i 0), .int .i64 8]) (ref_BytesN (K.getD i 0) 8 8 _ (N.hk0 i (by omega)).1 (by have := (N.hk0 i (by omega)).2; omega) rfl (by decide)) ?_
     rintro _ W24 ⟨_, rfl, hb24, pk, ck, rfl, hk8⟩
     have ho'3 := own_below ho hb24
     have hk8'2 := own_mono hk8 hB_21.size
     have hB'9 := Bl.next hB_21 hb24
     refine xbi 0 fun _ _ _ _ zJ zQ zo zx zy zK => op_app (m := 8) (news := (leB (K.getD i 0) 8).map bv) (.int .u8 0) 1 1 (q + 8) (((headB t leaf n m v) ++ keyPad K n (i + 1)).map bv) zo Tryz.underlying28 (by kernel_rfl) rfl (by decide) zx ho'3 zy (own_sl hk8'2) (by simp [leB_len]) (bv_one _) (by unfold maxLen; omega) (by omega) hB'9.size (by rfl) (by rw [keyPad_succ, if_pos (by omega)]; simp) fun p25 c25 W25 o25 hg25 hb25 => ?_
     refine zK _ _ ?_
     refine xwm 6 ((↑i : Int) + 1) (↑(i + 1) : Int) ?_
     have hB'10 := hB'9.trans hb25
     have k21_b1'1 := (k21_b1.below hb24).grown hg25 ho'3 (by decide)
     exact ze 2 (hJ21 _ _ _ ⟨i + 1, _, _, _, rfl, rfl, hB'10, k21_b1'1, o25, by omega, by omega⟩ (by omega))
   refine xbi 2 (t2 := 3) fun _ _ _ _ zJ zQ zo zx zy zK => op_appZo (kq := .i64) 8 (q + 8) (((headB t leaf n m v) ++ keyPad K n (i + 1)).map bv) zo Tryz.underlying28 Tryz.underlying3 (by kernel_rfl) zx ho zy (by omega) (by omega) hB_21.size (by rfl) (by rw [keyPad_succ, if_neg (by omega)]; simp [bv]) fun p26 c26 W26 o26 hg26 hb26 => ?_
   refine zK _ _ ?_
   refine xwm 6 ((↑i : Int) + 1) (↑(i + 1) : Int) ?_
   have hB'11 := hB_21.trans hb26
   have k21_b1'2 := k21_b1.grown hg26 ho (by decide)
   exact ze 2 (hJ21 _ _ _ ⟨i + 1, _, _, _, rfl, rfl, hB'11, k21_b1'2, o26, by omega, by omega⟩ (by omega))
 have him : i = m := by omega
 have ho1 : World.ownsRow W21 w.heap.size 5 1 (.slice p q c) q (((headB t leaf n m v) ++ keyPad K n m ++ valPad Vs 0).map bv) := by
   have e9 : keyPad K n m = keyPad K n i := by rw [him]
   rw [e9, show valPad Vs 0 = [] from rfl, List.append_nil]; exact ho
 refine zl 12 79 (fun zm zkv V => ∃ (j q : Nat) (p : Option Addr) (c : Nat), zkv = [(1, .pointer (some ⟨b1, 0, none⟩)), (2, .slice none 0 0), (3, .int .i64 0), (6, .slice p q c), (8, .int .i64 (↑j : Int))] ∧ zm = n - ((↑j : Int)).toNat ∧ Below w.heap.size w V ∧ Blk V b1 ([.int .i64 t, .bool leaf, .slice ak n ck, .slice av n cv]) 131 ∧ V.ownsRow w.heap.size 5 1 (.slice p q c) q (((headB t leaf n m v) ++ keyPad K n m ++ valPad Vs j).map bv) ∧ j ≤ n ∧ q = 12 + m * 8 + j * v) ⟨0, q, p, c, rfl, rfl, hB_21, k21_b1, ho1, Nat.zero_le _, by omega⟩ ?_
 rintro _ _ W27 ⟨j, q, p, c, rfl, rfl, hB_27, k27_b1, ho_27, hj, hq_27⟩ J27 hJ27 r27
 have hvb : j < n → j * v + v ≤ m * v := fun h => by have h9 : (j + 1) * v ≤ m * v := Nat.mul_le_mul_right v (by omega); rw [Nat.add_mul, Nat.one_mul] at h9; exact h9
 refine xb 5 3 k27_b1 ?_
 refine xid 4 ((↑j : Int) < (↑n : Int)) (fun hc28 => ?_) (fun hc28 => ?_)
 · refine xb 7 3 k27_b1 ?_
   refine xx 1 _ n j 1 (Strs.elem hVs N.hV (k := j) (by omega)).1 ?_
   refine xl 0 ((Strs.elem (hVs.below hB_27) N.hV (k := j) (by omega)).2) ?_
   refine xbi 0 (t2 := 9) fun _ _ _ _ zJ zQ zo zx zy zK => op_appS (Vs.getD j []) (q + v) (((headB t leaf n m v) ++ keyPad K n m ++ valPad Vs (j + 1)).map bv) zo Tryz.underlying28 Tryz.underlying9 (by kernel_rfl) zx ho_27 zy (by rw [N.hw j (by omega)]; omega) hB_27.size (by rw [N.hw j (by omega)]) (by rw [valPad_succ]; simp) fun p29 c29 W29 o29 hg29 hb29 => ?_
   refine zK _ _ ?_
   refine xwm 6 ((↑j : Int) + 1) (↑(j + 1) : Int) ?_
   have hB'12 := hB_27.trans hb29
   have k27_b1'1 := k27_b1.grown hg29 ho_27 (by decide)
   exact ze 2 (hJ27 _ _ _ ⟨j + 1, _, _, _, rfl, rfl, hB'12, k27_b1'1, o29, by omega, by rw [Nat.add_mul, Nat.one_mul]; omega⟩ (by omega))
 have hjn : j = n := by omega
 have ho2 : World.ownsRow W27 w.heap.size 5 1 (.slice p q c) q (((headB t leaf n m v) ++ keyPad K n m ++ valPad Vs n ++ List.replicate 0 0).map bv) := by
   have e9 : valPad Vs n = valPad Vs j := by rw [hjn]
   rw [List.replicate_zero, List.append_nil, e9]; exact ho_27
 refine zl 7 79 (fun zm zkv V => ∃ (z q : Nat) (p : Option Addr) (c : Nat), zkv = [(2, .slice none 0 0), (3, .int .i64 0), (6, .slice p q c)] ∧ zm = 244 - q ∧ Below w.heap.size w V ∧ Blk V b1 ([.int .i64 t, .bool leaf, .slice ak n ck, .slice av n cv]) 131 ∧ V.ownsRow w.heap.size 5 1 (.slice p q c) q (((headB t leaf n m v) ++ keyPad K n m ++ valPad Vs n ++ List.replicate z 0).map bv) ∧ q = 12 + m * 8 + n * v + z ∧ q ≤ 244) ⟨0, q, p, c, rfl, rfl, hB_27, k27_b1, ho2, by rw [← hjn]; omega, by have h9 : n * v ≤ m * v := Nat.mul_le_mul_right v (by omega); have h8 : j * v = n * v := congrArg (fun x => x * v) hjn; omega⟩ ?_
 rintro _ _ W30 ⟨z, q, p, c, rfl, rfl, hB_30, k30_b1, ho, hz, hq2⟩ J30 hJ30 r30
 refine xid 8 ((↑q : Int) < (244 : Int)) (fun hc31 => ?_) (fun hc31 => ?_)
 · refine xbs 5 1 [.int .u8 0] 5 fun b32 W32 n32 => ?_
   have r32_ho := own_ne ho n32
   have ho'4 := own_below ho n32.below
   have hB'13 := Bl.next hB_30 n32.below
   refine xbi 0 fun _ _ _ _ zJ zQ zo zx zy zK => op_app (m := 1) (news := [.int .u8 0]) (.int .u8 0) 1 1 (q + 1) (((headB t leaf n m v) ++ keyPad K n m ++ valPad Vs n ++ List.replicate (z + 1) 0).map bv) zo Tryz.underlying28 (by kernel_rfl) rfl (by decide) zx ho'4 zy (n32.blk.sl 1 1 (by decide) (by decide)) rfl (by simp [Value.oneCell']) (by unfold maxLen; omega) (by omega) hB'13.size (by rfl) (by rw [List.replicate_succ']; simp [bv]) fun p33 c33 W33 o33 hg33 hb33 => ?_
   refine zK _ _ ?_
   have hB'14 := hB'13.trans hb33
   have k30_b1'1 := (k30_b1.below n32.below).grown hg33 ho'4 (by decide)
   exact ze 3 (hJ30 _ _ _ ⟨z + 1, _, _, _, rfl, rfl, hB'14, k30_b1'1, o33, by omega, by omega⟩ (by omega))
 refine xe 13 (.tuple #[.slice p q c, .int .i64 0]) ?_
 obtain rfl : q = 244 := by omega
 rw [nodeP_form (headB_len _ _ _ _ _) hfit hnm (fun j hj => N.hw j hj)]
 exact ⟨_, rfl, hB_30, _, _, rfl, by rw [show 232 - m * 8 - n * v = z by omega]; exact ho⟩
end Go.Proofs.YtbhjgcokpmiopaaGreatDoor
namespace Go.Proofs.YtbhjgcokpmiopaaGreatDoor
open Go.RowKit Go.Extern.Stop Go.Stop Go.Extern
set_option linter.unusedVariables false
attribute [local irreducible] wpList wpAnyH Code.wp Oper.wp Go

theorem ovN_small {n m : Nat} (hm : 1 ≤ m) (h : n ≤ m) : ovN n m = 1 := by
  unfold ovN
  have : (n + m - 1) / m ≤ 1 := by
    rw [Nat.div_le_iff_le_mul_add_pred (by omega)]; omega
  omega
theorem ovN_step {n m : Nat} (hm : 1 ≤ m) (h : m < n) : ovN n m = ovN (n - m) m + 1 := by
  unfold ovN
  have e : n + m - 1 = (n - m + m - 1) + m := by omega
  rw [e, Nat.add_div_right _ (by omega)]
  have : 1 ≤ (n - m + m - 1) / m := by
    rw [Nat.le_div_iff_mul_le (by omega)]; omega
  omega
theorem ovN_32768 {n : Nat} {t : Int} (hn : n ≤ 32768) (h1 : 1 ≤ t) (h2 : t ≤ 5) : ovN n (maxN t true) ≤ 32768 := by
  have h6 : 6 ≤ maxN t true := by unfold maxN; repeat' split
                                  all_goals first | decide | simp_all
  unfold ovN
  have : (n + maxN t true - 1) / maxN t true ≤ 32768 := by
    rw [Nat.div_le_iff_le_mul_add_pred (by omega)]
    have := Nat.mul_le_mul_right 32768 h6
    omega
  omega
set_option maxRecDepth 100000 in
set_option maxHeartbeats 1000000 in
theorem ref15_Sizes (n m : Nat) (w : World) (hn : n ≤ 32768) (hm : 1 ≤ m) (hm2 : m ≤ 32768) :
    Calls Tryz.prog 102 #[.int .i64 (↑n : Int), .int .i64 (↑m : Int)] w (RetS (fun w' r => ∃ p c, r = .slice p (ovN n m) c) w) := by
 refine zin 30 Tryz.func102 ?_
 refine xgk 11 [7, 8] (show (decide ((↑n : Int) < (0 : Int)) : Bool) = false from decide_eq_false (by omega)) ?_
 refine xgk 4 [10, 11, 12] (show (decide ((↑n : Int) > (32768 : Int)) : Bool) = false from decide_eq_false (by omega)) ?_
 refine xk 5 (show (decide ((↑m : Int) < (1 : Int)) : Bool) = false from decide_eq_false (by omega)) ?_
 have hB := Below.refl w.heap.size w
 refine zl 9 30 (fun zm zkv V => ∃ (j k : Nat) (p : Option Addr) (c : Nat) (xs : List Value), zkv = [(0, .int .i64 (↑k : Int)), (1, .int .i64 (↑m : Int)), (4, .slice none 0 0), (5, .slice p j c)] ∧ zm = ((↑k : Int)).toNat + 1 ∧ Below w.heap.size w V ∧ V.ownsRow w.heap.size 3 1 (.slice p j c) j xs ∧ j + ovN k m = ovN n m ∧ k ≤ n ∧ j + k ≤ n) ⟨0, n, none, 0, [], rfl, rfl, hB, World.ownsRow_nil _ _ _ _, Nat.zero_add _, Nat.le_refl _, by omega⟩ ?_
 rintro _ _ W3 ⟨j, k, p, c, xs, rfl, rfl, hB_3, ho, hj, hk, hjn⟩ J3 hJ3 r3
 refine xid 8 ((↑k : Int) > (↑m : Int)) (fun hc4 => ?_) (fun hc4 => ?_)
 · refine xbs 7 1 [.int .i64 (↑m : Int)] 3 fun b5 W5 n5 => ?_
   have r5_ho := own_ne ho n5
   have ho'1 := own_below ho n5.below
   have hB'1 := Bl.next hB_3 n5.below
   refine xbi 0 fun _ _ _ _ zJ zQ zo zx zy zK => op_app (m := 1) (news := [.int .i64 (↑m : Int)]) (.int .i64 0) 1 8 (j + 1) (xs ++ [.int .i64 (↑m : Int)]) zo Tryz.underlying22 (by kernel_rfl) rfl (by decide) zx ho'1 zy (n5.blk.sl 1 1 (by decide) (by decide)) rfl (by simp [Value.oneCell']) (by unfold maxLen; omega) (by omega) hB'1.size (by rfl) (by rfl) fun p6 c6 W6 o6 hg6 hb6 => ?_
   refine zK _ _ ?_
   refine xwm 6 ((↑k : Int) - (↑m : Int)) (↑(k - m) : Int) ?_
   have hB'2 := hB'1.trans hb6
   exact ze 3 (hJ3 _ _ _ ⟨j + 1, (k - m), _, _, _, rfl, rfl, hB'2, o6, by have := ovN_step hm (n := k) (by omega); omega, by omega, by omega⟩ (by omega))
 refine xbs 9 1 [.int .i64 (↑k : Int)] 3 fun b7 W7 n7 => ?_
 have r7_ho := own_ne ho n7
 have ho'2 := own_below ho n7.below
 have hB'3 := Bl.next hB_3 n7.below
 refine xbi 0 fun _ _ _ _ zJ zQ zo zx zy zK => op_app (m := 1) (news := [.int .i64 (↑k : Int)]) (.int .i64 0) 1 8 (j + 1) (xs ++ [.int .i64 (↑k : Int)]) zo Tryz.underlying22 (by kernel_rfl) rfl (by decide) zx ho'2 zy (n7.blk.sl 1 1 (by decide) (by decide)) rfl (by simp [Value.oneCell']) (by unfold maxLen; omega) (by omega) hB'3.size (by rfl) (by rfl) fun p8 c8 W8 o8 hg8 hb8 => ?_
 refine zK _ _ ?_
 have hB'4 := hB'3.trans hb8
 refine xe 4 (.slice p8 (j + 1) c8) ?_
 have e := ovN_small hm (n := k) (by omega)
 exact ⟨_, rfl, hB'4, _, _, by rw [show ovN n m = j + 1 by omega]⟩
set_option maxRecDepth 100000 in
set_option maxHeartbeats 4000000 in
theorem ref15_Levels (t : Int) (n : Nat) (w : World) (h1 : 1 ≤ t) (h2 : t ≤ 5) (hn : n ≤ 32768) :
    Calls Tryz.prog 67 #[.int .i64 t, .int .i64 (↑n : Int)] w (RetS (fun w' r => ∃ p c, r = .slice p (levL t n).length c ∧ w'.ownsRow w.heap.size 3 1 (.slice p (levL t n).length c) (levL t n).length ((levL t n).map nv)) w) := by
 have hm1 := (maxN_pos t true).1
 have hm2 := (maxN_pos t true).2
 have hov := ovN_le n (maxN t true) hm1
 have hop := ovN_pos n (maxN t true)
 refine zin 37 Tryz.func67 ?_
 refine xr 9 (args := #[.int .i64 t, .bool true]) (ref07_Max t true _ rfl h1 h2 _) fun W1 hb1 => ?_
 refine xgk 2 [9, 10] (show (((↑(maxN t true) : Int) == (0 : Int)) : Bool) = false from by simp; omega) ?_
 refine xgk 4 [12, 13, 14] (show (decide ((↑n : Int) < (0 : Int)) : Bool) = false from decide_eq_false (by omega)) ?_
 refine xk 5 (show (decide ((↑n : Int) > (32768 : Int)) : Bool) = false from decide_eq_false (by omega)) ?_
 refine xr 6 (args := #[.int .i64 t, .bool true]) (ref07_Max t true _ rfl h1 h2 _) fun W4 hb4 => ?_
 refine xc 0 (args := #[.int .i64 (↑n : Int), .int .i64 (↑(maxN t true) : Int)]) (ref15_Sizes n (maxN t true) _ hn hm1 (by omega)) ?_
 rintro _ W5 ⟨_, rfl, hb5, p1, c1, rfl⟩
 refine xbs 7 1 [.int .i64 (↑(ovN n (maxN t true)) : Int)] 3 fun b6 W6 n6 => ?_
 have g6 := n6.ge (Bl.next (Bl.next hb1 hb4) hb5)
 have hB := Bl.next (Bl.next (Bl.next hb1 hb4) hb5) n6.below
 refine zl 5 37 (fun zm zkv V => ∃ (j x : Nat) (xs : List Nat) (p : Option Addr) (c : Nat), zkv = [(0, .int .i64 t), (4, .slice none 0 0), (5, .int .i64 (↑x : Int)), (6, .slice p (j + 1) c)] ∧ zm = 40000 - (j + 1) ∧ Below w.heap.size w V ∧ V.ownsRow w.heap.size 3 1 (.slice p (j + 1) c) (j + 1) ((xs ++ [x]).map nv) ∧ xs.length = j ∧ 1 ≤ x ∧ x ≤ 32768 ∧ xs ++ levs x = levL t n ∧ j + x ≤ 40000) ⟨0, (ovN n (maxN t true)), [], (some ⟨b6, 0, none⟩), 1, rfl, rfl, hB, own_of_blk (size := 1) (n := 1) n6.blk g6 rfl (by unfold maxLen; decide), rfl, hop, ovN_32768 hn h1 h2, rfl, by omega⟩ ?_
 rintro _ _ W7 ⟨j, x, xs, p, c, rfl, rfl, hB_7, ho, hxl, hx1, hx2, hxs, hj⟩ J7 hJ7 r7
 refine xid 7 ((↑x : Int) > (1 : Int)) (fun hc8 => ?_) (fun hc8 => ?_)
 · refine xr 7 (args := #[.int .i64 t, .bool false]) (ref07_Max t false 18 rfl h1 h2 _) fun W9 hb9 => ?_
   refine xc 0 (args := #[.int .i64 (↑x : Int), .int .i64 18]) (ref15_Sizes x 18 _ hx2 (by decide) (by decide)) ?_
   rintro _ W10 ⟨_, rfl, hb10, p2, c2, rfl⟩
   refine xbs 7 1 [.int .i64 (↑(ovN x 18) : Int)] 3 fun b11 W11 n11 => ?_
   have ho'1 := own_below (own_below ho hb9) hb10
   have r11_ho := own_ne ho'1 n11
   have ho'2 := own_below ho'1 n11.below
   have hB'1 := Bl.next (Bl.next (Bl.next hB_7 hb9) hb10) n11.below
   refine xbi 0 fun _ _ _ _ zJ zQ zo zx zy zK => op_app (m := 1) (news := [.int .i64 (↑(ovN x 18) : Int)]) (.int .i64 0) 1 8 (j + 1 + 1) (((xs ++ [x]) ++ [ovN x 18]).map nv) zo Tryz.underlying22 (by kernel_rfl) rfl (by decide) zx ho'2 zy (n11.blk.sl 1 1 (by decide) (by decide)) rfl (by simp [Value.oneCell']) (by unfold maxLen; omega) (by omega) hB'1.size (by rfl) (by simp [nv]) fun p12 c12 W12 o12 hg12 hb12 => ?_
   refine zK _ _ ?_
   have h18 := ov18 (x := x) (by omega)
   have hB'2 := hB'1.trans hb12
   exact ze 3 (hJ7 _ _ _ ⟨j + 1, (ovN x 18), xs ++ [x], _, _, rfl, rfl, hB'2, o12, by simp [hxl], ovN_pos _ _, by omega, by rw [← hxs, levs_more (x := x) (by omega)]; simp, by omega⟩ (by omega))
 refine xe 12 (.slice p (j + 1) c) ?_
 have e : levL t n = xs ++ [x] := by rw [← hxs, levs_one (x := x) (by omega)]
 have el : (levL t n).length = j + 1 := by rw [e]; simp [hxl]
 exact ⟨_, rfl, hB_7, p, c, by rw [el], by rw [el, e]; exact ho⟩
set_option maxRecDepth 100000 in
set_option maxHeartbeats 4000000 in
theorem ref15_Nodes (t : Int) (n : Nat) (w : World) (h1 : 1 ≤ t) (h2 : t ≤ 5) (hn : n ≤ 32768) :
    Calls Tryz.prog 37 #[.int .i64 t, .int .i64 (↑n : Int)] w (Ret (.int .i64 (nodN t n : Int)) w) := by
 refine zin 24 Tryz.func37 ?_
 refine xc 9 (args := #[.int .i64 t, .int .i64 (↑n : Int)]) (ref15_Levels t n _ h1 h2 hn) ?_
 rintro _ W1 ⟨_, rfl, hb1, p, c, rfl, ho⟩
 have hs1 := Nat.le_refl w.heap.size
 have ho'1 := own_mono ho hs1
 refine zl 15 24 (fun zm zkv V => ∃ (k : Nat), zkv = [(4, .int .i64 0), (5, .slice p ((levL t n).length) c), (6, .int .i64 (↑((levL t n).take k).sum : Int)), (7, .int .i64 (↑k : Int))] ∧ zm = (levL t n).length - ((↑k : Int)).toNat ∧ Below w.heap.size w V ∧ V.ownsRow w.heap.size 3 1 (.slice p (levL t n).length c) (levL t n).length ((levL t n).map nv) ∧ k ≤ (levL t n).length) ⟨0, rfl, rfl, hb1, ho'1, Nat.zero_le _⟩ ?_
 rintro _ _ W2 ⟨k, rfl, rfl, hB_2, ho, hk⟩ J2 hJ2 r2
 have hl1 := levL_len t n
 have hs1 := nodN_le t n
 unfold nodN at hs1
 have hs2 := take_le (L := levL t n) (k + 1)
 have hs3 : k < (levL t n).length → ((levL t n).take (k + 1)).sum = ((levL t n).take k).sum + (levL t n).getD k 0 := take_sum
 refine xid 9 ((↑k : Int) < (↑((levL t n).length) : Int)) (fun hc3 => ?_) (fun hc3 => ?_)
 · refine xx 8 _ ((levL t n).length) k 1 (nv_elem (own_sl ho) rfl (k := k) (by omega)).1 ?_
   refine xl 0 ((nv_elem (own_sl ho) rfl (k := k) (by omega)).2) ?_
   refine xwm 0 ((↑((levL t n).take k).sum : Int) + (↑((levL t n).getD k 0) : Int)) (↑(((levL t n).take k).sum + ((levL t n).getD k 0)) : Int) ?_
   refine xwm 6 ((↑k : Int) + 1) (↑(k + 1) : Int) ?_
   refine xv1 2 6 (show (.int .i64 (↑(((levL t n).take k).sum + ((levL t n).getD k 0)) : Int) : Value) = .int .i64 (↑((levL t n).take (k + 1)).sum : Int) from by rw [take_sum (by omega)]) ?_
   exact ze 0 (hJ2 _ _ _ ⟨k + 1, rfl, rfl, hB_2, ho, by omega⟩ (by omega))
 refine xe 12 (.int .i64 (↑((levL t n).take k).sum : Int)) ?_
 have e : k = (levL t n).length := by omega
 subst e
 rw [List.take_length]
 exact ⟨rfl, hB_2⟩
end Go.Proofs.YtbhjgcokpmiopaaGreatDoor
namespace Go.Proofs.YtbhjgcokpmiopaaGreatDoor
open Go.RowKit Go.Extern.Stop Go.Stop Go.Extern
set_option linter.unusedVariables false
attribute [local irreducible] wpList wpAnyH Code.wp Oper.wp Go

theorem ImgR.mono {B B' b : Nat} {p : Option Addr} {n c : Nat} {l : List UInt8} {w : World} (h : ImgR B b p n c l w) (hB : B' ≤ B) : ImgR B' b p n c l w := ⟨h.blk, own_mono h.row hB, h.hn⟩
theorem image_OfR (a : Option Addr) (c n m : Nat) (l : List UInt8) (w : World) (hn : l.length = n) (hm : min (n / 256) 14400 * 256 = m) (h : Bys w (.slice a n c) l) (hl : n ≤ 100000000) (hc : n ≤ c) :
    Calls Tryz.prog 21 #[.slice a n c] w (RetS (fun w' r => ∃ b p c2, r = .pointer (some ⟨b, 0, none⟩) ∧ w.heap.size ≤ b ∧ ImgR w.heap.size b p m c2 (l.take m) w') w) := by
  subst hn hm
  refine (image_Of a c l w h hl hc).mono ?_
  rintro e W ⟨_, rfl, hb, b, p, c2, rfl, h1, h2, h3⟩
  exact ⟨_, rfl, hb, b, p, c2, rfl, h1, h2, h3, by omega⟩
def WroteR (B b : Nat) (p : Option Addr) (n c : Nat) (l : List UInt8) (w : World) (e : Ending) (w' : World) : Prop :=
  e = .returned .nilIface ∧ Below B w w' ∧ Only [5] w w' ∧ ImgR B b p n c l w'
theorem block_WriteR (B b : Nat) (p : Option Addr) (n c k : Nat) (ki : Int) (l : List UInt8) (kind : Int) (a : Option Addr) (ca m : Nat) (li : List UInt8) (w : World) (hki : ki = (k : Int)) (hm : li.length = m) (hI : ImgR B b p n c l w) (hk : k < n / 256) (h1 : 1 ≤ kind) (h2 : kind ≤ 4) (hin : Bys w (.slice a m ca) li) (hl : m ≤ 244) (hBw : B ≤ w.heap.size) :
    Calls Tryz.prog 60 #[.pointer (some ⟨b, 0, none⟩), .int .i64 ki, .int .i64 kind, .slice a m ca] w (WroteR B b p n c (putB l (k * 256) (sealB kind k li)) w) := by
  subst hki hm
  obtain ⟨g, rfl, hc⟩ := hI.base (by omega)
  refine (block_Write B b g n c k l kind a ca li w hI.blk hI.row hI.hn hc hk h1 h2 hin hl hBw).mono ?_
  rintro e W ⟨rfl, hb, hO, _, ho⟩
  exact ⟨rfl, hb, hO, hI.blk.only hO (by decide), ho, hI.hn⟩
end Go.Proofs.YtbhjgcokpmiopaaGreatDoor
namespace Go.Proofs.YtbhjgcokpmiopaaGreatDoor
open Go.RowKit Go.Extern.Stop Go.Stop Go.Extern
set_option linter.unusedVariables false
attribute [local irreducible] wpList wpAnyH Code.wp Oper.wp Go

theorem seal_Seal_err (kind no : Int) (a : Option Addr) (c : Nat) (li : List UInt8) (w : World) (h : Bys w (.slice a li.length c) li) (hs : sealE kind no li ≠ 0) :
    Calls Tryz.prog 94 #[.int .i64 kind, .int .i64 no, .slice a li.length c] w (Ret (.tuple #[.slice none 0 0, .int .i64 (sealE kind no li)]) w) := by
  refine (seal_SealG kind no a c li w h).mono ?_
  rintro e W (⟨_, rfl, hb⟩ | ⟨h0, _⟩)
  · exact ⟨rfl, hb⟩
  · exact absurd h0 hs
theorem seal_Seal_yes (kind no : Int) (a : Option Addr) (c : Nat) (li : List UInt8) (w : World) (h : Bys w (.slice a li.length c) li) (hs : sealE kind no li = 0) :
    Calls Tryz.prog 94 #[.int .i64 kind, .int .i64 no, .slice a li.length c] w (fun e w' => li.length ≤ 244 ∧ ∃ p c, e = .returned (.tuple #[.slice p 256 c, .int .i64 0]) ∧ Below w.heap.size w w') := by
  refine (seal_SealG kind no a c li w h).mono ?_
  rintro e W (⟨h0, _⟩ | ⟨_, _, hl, p, c2, rfl, hb, ho⟩)
  · exact absurd hs h0
  · exact ⟨hl, p, c2, rfl, hb⟩
theorem sealE_zero {kind no : Int} {li : List UInt8} (h : sealE kind no li = 0) : knownB kind no = true ∧ li.length ≤ 244 := by
  unfold sealE at h
  split at h
  · split at h
    · exact ⟨by assumption, by assumption⟩
    · cases h
  · cases h
set_option maxRecDepth 100000 in
set_option maxHeartbeats 1000000 in
theorem image_Write_out (b : Nat) (p : Option Addr) (n c : Nat) (k : Int) (x : Value) (w : World) (hk : Blk w b [.slice p n c] 96) (hn : n ≤ 100000000) (ho : ¬ (0 ≤ k ∧ k < (n / 256 : Nat))) :
    Calls Tryz.prog 95 #[.pointer (some ⟨b, 0, none⟩), .int .i64 k, x] w (Ret (.int .i64 3) w) := by
 refine zin 24 Tryz.func95 ?_
 refine xr 9 (args := #[.pointer (some ⟨b, 0, none⟩), .int .i64 k]) (image_block_out b p n c k _ (hk.below (Below.refl w.heap.size _)) hn ho) fun W1 hb1 => ?_
 exact xe 23 (.int .i64 3) ⟨rfl, hb1⟩
set_option maxRecDepth 100000 in
set_option maxHeartbeats 1000000 in
theorem blkW_bad (B b : Nat) (p : Option Addr) (n c : Nat) (l : List UInt8) (no kind : Int) (a : Option Addr) (ca : Nat) (li : List UInt8) (w : World) (hI : ImgR B b p n c l w) (hin : Bys w (.slice a li.length ca) li) (hs : sealE kind no li ≠ 0) :
    Calls Tryz.prog 60 #[.pointer (some ⟨b, 0, none⟩), .int .i64 no, .int .i64 kind, .slice a li.length ca] w (RetS (fun w' r => ErrV w' [some no] (some (sealE kind no li)) r) w) := by
 refine zin 28 Tryz.func60 ?_
 refine xr 10 (args := #[.int .i64 kind, .int .i64 no, .slice a li.length ca]) (seal_Seal_err kind no a ca li _ (hin.below (Below.refl w.heap.size _)) hs) fun W1 hb1 => ?_
 refine xk 14 (show (((sealE kind no li) == (0 : Int)) : Bool) = false from beq_false_of_ne hs) ?_
 refine xc 7 (args := #[.int .i64 no, .iface 38 (.int .i64 (sealE kind no li))]) (block_told no (sealE kind no li) _) ?_
 rintro _ W2 ⟨_, rfl, hb2, hv2⟩
 rw [if_neg hs, if_neg hs] at hv2
 have hq2 := hv2
 obtain ⟨bf2, vf2, rfl, _, _⟩ := hq2
 have hB := Bl.next hb1 hb2
 exact xe 4 (.iface 137 (.pointer (some ⟨bf2, 0, none⟩))) ⟨_, rfl, hB, hv2⟩
set_option maxRecDepth 100000 in
set_option maxHeartbeats 1000000 in
theorem blkW_out (B b : Nat) (p : Option Addr) (n c : Nat) (l : List UInt8) (no kind : Int) (a : Option Addr) (ca : Nat) (li : List UInt8) (w : World) (hI : ImgR B b p n c l w) (hin : Bys w (.slice a li.length ca) li) (hs : sealE kind no li = 0) (ho : ¬ (0 ≤ no ∧ no < (n / 256 : Nat))) :
    Calls Tryz.prog 60 #[.pointer (some ⟨b, 0, none⟩), .int .i64 no, .int .i64 kind, .slice a li.length ca] w (RetS (fun w' r => ErrV w' [some no] (some 3) r) w) := by
 refine zin 28 Tryz.func60 ?_
 refine xc 10 (args := #[.int .i64 kind, .int .i64 no, .slice a li.length ca]) (seal_Seal_yes kind no a ca li _ (hin.below (Below.refl w.heap.size _)) hs) ?_
 rintro _ W1 ⟨_, p2, c2, rfl, hb1⟩
 refine xr 19 (args := #[.pointer (some ⟨b, 0, none⟩), .int .i64 no, .slice p2 256 c2]) (image_Write_out b p n c no _ _ (hI.below hb1).blk (by have := hI.hn; omega) ho) fun W2 hb2 => ?_
 refine xc 8 (args := #[.int .i64 no, .iface 38 (.int .i64 3)]) (block_told no 3 _) ?_
 rintro _ W3 ⟨_, rfl, hb3, hv3⟩
 rw [if_neg (by decide), if_neg (by decide)] at hv3
 have hq3 := hv3
 obtain ⟨bf3, vf3, rfl, _, _⟩ := hq3
 have hB'1 := Bl.next (Bl.next hb1 hb2) hb3
 exact xe 4 (.iface 137 (.pointer (some ⟨bf3, 0, none⟩))) ⟨_, rfl, hB'1, hv3⟩
def erL (no er : Int) : List (Option Int) := if er = 0 then [] else [some no]
def erT (er : Int) : Option Int := if er = 0 then none else some er
theorem erL_blocks (no er : Int) : blocksOf (erL no er) = fltL no er := by unfold erL fltL; split <;> rfl
theorem erL_code (no er : Int) : codeOf (erL no er) (erT er) = er := by
  unfold erL erT
  split
  · rename_i h; rw [h]; rfl
  · rfl
theorem erL_len (no er : Int) : (erL no er).length ≤ 1000000 := by unfold erL; split <;> simp
def WroteG (B b : Nat) (p : Option Addr) (n c : Nat) (l : List UInt8) (no er : Int) (w : World) (e : Ending) (w' : World) : Prop :=
  ∃ v, e = .returned v ∧ Below B w w' ∧ Only [5] w w' ∧ ImgR B b p n c l w' ∧ ErrV w' (erL no er) (erT er) v
theorem block_WriteG (B b : Nat) (p : Option Addr) (k n c : Nat) (l : List UInt8) (no kind : Int) (a : Option Addr) (ca : Nat) (li : List UInt8) (w : World) (hn : n = k * 256) (hI : ImgR B b p n c l w) (hin : Bys w (.slice a li.length ca) li) (hBw : B ≤ w.heap.size) :
    Calls Tryz.prog 60 #[.pointer (some ⟨b, 0, none⟩), .int .i64 no, .int .i64 kind, .slice a li.length ca] w (WroteG B b p n c (wrL kind no k li l) no (wrE kind no k li) w) := by
  have hk : n / 256 = k := by omega
  by_cases hs : sealE kind no li = 0
  · obtain ⟨hkb, hl4⟩ := sealE_zero hs
    obtain ⟨h1, h2, h3, h4⟩ := knownB_all hkb
    by_cases ho : 0 ≤ no ∧ no < (k : Int)
    · have he : wrE kind no k li = 0 := by unfold wrE; rw [if_pos hs, if_pos ho]
      obtain ⟨j, rfl⟩ : ∃ j : Nat, no = j := ⟨no.toNat, by omega⟩
      rw [wrL, if_pos he, he]
      refine (block_WriteR B b p n c j (j : Int) l kind a ca li.length li w rfl rfl hI (by omega) h1 h2 hin hl4 hBw).mono ?_
      rintro e W ⟨rfl, hb, hO, hI2⟩
      exact ⟨_, rfl, hb, hO, hI2, rfl⟩
    · have he : wrE kind no k li = 3 := by unfold wrE; rw [if_pos hs, if_neg ho]
      rw [wrL, if_neg (by rw [he]; decide), he]
      refine (blkW_out B b p n c l no kind a ca li w hI hin hs (by rw [hk]; exact ho)).mono ?_
      rintro e W ⟨v, rfl, hb, hv⟩
      exact ⟨_, rfl, hb.mono hBw, Only.of_below hb, hI.below hb, hv⟩
  · have he : wrE kind no k li = sealE kind no li := by unfold wrE; rw [if_neg hs]
    rw [wrL, if_neg (by rw [he]; exact hs), he]
    refine (blkW_bad B b p n c l no kind a ca li w hI hin hs).mono ?_
    rintro e W ⟨v, rfl, hb, hv⟩
    exact ⟨_, rfl, hb.mono hBw, Only.of_below hb, hI.below hb, by rw [erL, erT, if_neg hs, if_neg hs]; exact hv⟩
theorem ref_OfN (a : Option Addr) (c n k : Nat) (l : List UInt8) (w : World) (hn : l.length = n) (hk : min (n / 256) 14400 = k) (h : Bys w (.slice a n c) l) (hl : n ≤ 100000000) :
    Calls Tryz.prog 6 #[.slice a n c] w (RetS (fun w' r => ∃ bm p c2, r = .pointer (some ⟨bm, 0, none⟩) ∧ w.heap.size ≤ bm ∧ RefI w.heap.size bm p k c2 (l.take (k * 256)) w') w) := by
  subst hn hk; exact ref_Of a c l w h hl
end Go.Proofs.YtbhjgcokpmiopaaGreatDoor
namespace Go.Proofs.YtbhjgcokpmiopaaGreatDoor
open Go.RowKit Go.Extern.Stop Go.Stop Go.Extern
set_option linter.unusedVariables false
attribute [local irreducible] wpList wpAnyH Code.wp Oper.wp Go

/-- an allocator of the numbers L, k of them handed out, of the image at b -/
structure AlG (B ba b : Nat) (pa : Option Addr) (N ca k : Nat) (L : List Int) (w : World) : Prop where
  blk : Blk w ba [.slice pa N ca, .int .i64 (k : Int), .pointer (some ⟨b, 0, none⟩)] 93
  nums : w.ownsRow B 3 1 (.slice pa N ca) N (L.map (Value.int .i64))
  hL : L.length = N
  hB : B ≤ ba
  hN : N ≤ 1000000
  hk : k ≤ N
theorem AlG.below {B ba b : Nat} {pa : Option Addr} {N ca k : Nat} {L : List Int} {w W : World} (h : AlG B ba b pa N ca k L w) (hb : Below w.heap.size w W) : AlG B ba b pa N ca k L W := ⟨h.blk.below hb, own_below h.nums hb, h.hL, h.hB, h.hN, h.hk⟩
theorem AlG.only {B ba b : Nat} {pa : Option Addr} {N ca k : Nat} {L : List Int} {w W : World} {T : List TypeId} (h : AlG B ba b pa N ca k L w) (hO : Only T w W) (hT : T.contains 93 = false ∧ T.contains 3 = false) : AlG B ba b pa N ca k L W := ⟨h.blk.only hO hT.1, own_only h.nums hO hT.2, h.hL, h.hB, h.hN, h.hk⟩
theorem AlG.mono {B B' ba b : Nat} {pa : Option Addr} {N ca k : Nat} {L : List Int} {w : World} (h : AlG B ba b pa N ca k L w) (hB : B' ≤ B) : AlG B' ba b pa N ca k L w := ⟨h.blk, own_mono h.nums hB, h.hL, Nat.le_trans hB h.hB, h.hN, h.hk⟩
def goodB (K : Nat) (L : List Int) : Bool := L.all fun x => decide (1 ≤ x ∧ x < (K : Int))
def riseB (L : List Int) : Bool := (List.range (L.length - 1)).all fun i => decide (L.getD i 0 < L.getD (i + 1) 0)
/-- the number of From's error -/
def fromE (K : Nat) (L : List Int) : Int := if goodB K L then (if riseB L then 0 else 8) else 1
theorem goodB_true {K : Nat} {L : List Int} (h : ∀ j, j < L.length → 1 ≤ L.getD j 0 ∧ L.getD j 0 < (K : Int)) : goodB K L = true := by
  unfold goodB
  rw [List.all_eq_true]
  intro x hx
  obtain ⟨j, hj, rfl⟩ := List.mem_iff_getElem.1 hx
  have := h j hj
  simpa [List.getD, hj] using this
theorem goodB_get {K : Nat} {L : List Int} (h : goodB K L = true) {j : Nat} (hj : j < L.length) : 1 ≤ L.getD j 0 ∧ L.getD j 0 < (K : Int) := by
  unfold goodB at h
  rw [List.all_eq_true] at h
  have := h L[j] (List.getElem_mem hj)
  simpa [List.getD, hj] using this
theorem goodB_false {K : Nat} {L : List Int} {j : Nat} (hj : j < L.length) (h : ¬ (1 ≤ L.getD j 0 ∧ L.getD j 0 < (K : Int))) : goodB K L = false := by
  cases hg : goodB K L with
  | false => rfl
  | true => exact absurd (goodB_get hg hj) h
theorem riseB_true {L : List Int} (h : ∀ j, j + 1 < L.length → L.getD j 0 < L.getD (j + 1) 0) : riseB L = true := by
  unfold riseB
  rw [List.all_eq_true]
  intro j hj
  exact decide_eq_true (h j (by have := List.mem_range.1 hj; omega))
theorem riseB_false {L : List Int} {j : Nat} (hj : j + 1 < L.length) (h : ¬ L.getD j 0 < L.getD (j + 1) 0) : riseB L = false := by
  unfold riseB
  rw [List.all_eq_false]
  exact ⟨j, List.mem_range.2 (by omega), by simpa using h⟩
theorem ints_one (l : List Int) : ∀ u ∈ l.map (Value.int .i64), u.oneCell' = true := by
  intro u hu
  obtain ⟨x, _, rfl⟩ := List.mem_map.1 hu
  rfl
set_option maxRecDepth 100000 in
set_option maxHeartbeats 1000000 in
theorem alloc_New_bad (b : Nat) (p0 : Option Addr) (n c : Nat) (f : Int) (w : World) (hk : Blk w b [.slice p0 n c] 96) (hn : n ≤ 100000000) (hf : ¬ (1 ≤ f ∧ f ≤ (n / 256 : Nat))) :
    Calls Tryz.prog 20 #[.pointer (some ⟨b, 0, none⟩), .int .i64 f] w (Ret (.tuple #[.pointer none, .iface 38 (.int .i64 1)]) w) := by
 refine zin 37 Tryz.func20 ?_
 refine xg 16 [12, 13, 14] (decide (f < (1 : Int))) (fun hc1 => ?_) (fun hc1 => ?_)
 · have hc1 := of_decide_eq_true hc1
   exact xe 17 (.tuple #[.pointer none, .iface 38 (.int .i64 1)]) ⟨rfl, (Below.refl w.heap.size _)⟩
 have hc1 := of_decide_eq_false hc1
 refine xr 2 (args := #[.pointer (some ⟨b, 0, none⟩)]) (image_Blocks b _ n c _ (hk.below (Below.refl w.heap.size _)) hn) fun W2 hb2 => ?_
 refine xk 4 (show (decide (f > (↑(n / 256) : Int)) : Bool) = true from decide_eq_true (by omega)) ?_
 exact xe 9 (.tuple #[.pointer none, .iface 38 (.int .i64 1)]) ⟨rfl, hb2⟩
set_option maxRecDepth 100000 in
set_option maxHeartbeats 1000000 in
theorem clone_ints (p : Addr) (N c : Nat) (xs : List Value) (w : World) (h : Sl w (.slice (some p) N c) N xs) (hl : xs.length = N) (h1 : ∀ u ∈ xs, u.oneCell' = true) (hn : N ≤ 1000000) :
    Calls Tryz.prog 27 #[.slice (some p) N c] w (RetS (fun w' r => ∃ q c2, r = .slice q N c2 ∧ w'.ownsRow w.heap.size 3 1 (.slice q N c2) N xs) w) := by
 refine zin 8 Tryz.func27 ?_
 refine xb0 17 3 fun b1 W1 n1 => ?_
 have o1 := own_of_blk (size := 1) (n := 0) n1.blk (n1.ge (Below.refl w.heap.size _)) rfl (by decide)
 refine xbi 1 fun _ _ _ _ zJ zQ zo zx zy zK => op_app (m := N) (news := xs) (.int .i64 0) 1 8 (N) (xs) zo Tryz.underlying22 (by kernel_rfl) rfl (by decide) zx o1 zy (h.below n1.below) (by rw [hl, Nat.mul_one]) h1 (by unfold maxLen; omega) (by omega) n1.below.size (by omega) (by rfl) fun p2 c2 W2 o2 hg2 hb2 => ?_
 refine zK _ _ ?_
 have hB'1 := n1.below.trans hb2
 exact xe 4 (.slice p2 N c2) ⟨_, rfl, hB'1, _, _, rfl, o2⟩
set_option maxRecDepth 100000 in
set_option maxHeartbeats 1000000 in
theorem clone_ints_nil (w : World) :
    Calls Tryz.prog 27 #[.slice none 0 0] w (Ret (.slice none 0 0) w) := by
 refine zin 8 Tryz.func27 ?_
 exact xe 20 (.slice none 0 0) ⟨rfl, (Below.refl w.heap.size _)⟩
theorem clone_intsG (a : Option Addr) (N c : Nat) (xs : List Value) (w : World) (h : Sl w (.slice a N c) N xs) (hc : a = none → c = 0) (hl : xs.length = N) (h1 : ∀ u ∈ xs, u.oneCell' = true) (hn : N ≤ 1000000) :
    Calls Tryz.prog 27 #[.slice a N c] w (RetS (fun w' r => ∃ q c2, r = .slice q N c2 ∧ w'.ownsRow w.heap.size 3 1 (.slice q N c2) N xs) w) := by
  cases a with
  | some p => exact clone_ints p N c xs w h hl h1 hn
  | none =>
    have hN : N = 0 ∧ xs = [] := by
      rcases h with ⟨a', c', h2, h3, h4⟩ | ⟨b', off, cap, h2, _⟩
      · simp only [Value.slice.injEq] at h2; exact ⟨h2.2.1, h4⟩
      · cases h2
    obtain ⟨rfl, rfl⟩ := hN
    obtain rfl := hc rfl
    refine (clone_ints_nil w).mono ?_
    rintro e W ⟨rfl, hb⟩
    exact ⟨_, rfl, hb, none, 0, rfl, World.ownsRow_nil _ _ _ _⟩
def FromP (b : Nat) (K : Nat) (L : List Int) (w : World) (e : Ending) (w' : World) : Prop :=
  (fromE K L ≠ 0 ∧ e = .returned (.tuple #[.pointer none, .iface 38 (.int .i64 (fromE K L))]) ∧ Below w.heap.size w w') ∨
  (fromE K L = 0 ∧ ∃ ba pa ca, e = .returned (.tuple #[.pointer (some ⟨ba, 0, none⟩), .nilIface]) ∧ Below w.heap.size w w' ∧ AlG w.heap.size ba b pa L.length ca 0 L w')
end Go.Proofs.YtbhjgcokpmiopaaGreatDoor
namespace Go.Proofs.YtbhjgcokpmiopaaGreatDoor
open Go.RowKit Go.Extern.Stop Go.Stop Go.Extern
set_option linter.unusedVariables false
attribute [local irreducible] wpList wpAnyH Code.wp Oper.wp Go

theorem sl_cut {w : World} {b : Option Addr} {n c : Nat} {xs : List Value} (h : Sl w (.slice b n c) n xs) (hl : xs.length = n) (k : Nat) (hk : k ≤ n) : Sl w (.slice (cutA b k c 1) (n - k) (c - k)) (n - k) (xs.drop k) := by
  rcases h with ⟨a', c', h1, h2, h3⟩ | ⟨g, off, cap, h1, h2, h3, h4⟩
  · obtain rfl : k = 0 := by omega
    subst h3 h2
    exact .inl ⟨cutA b 0 c 1, c - 0, rfl, rfl, rfl⟩
  · simp only [Value.slice.injEq] at h1
    obtain ⟨rfl, _, rfl⟩ := h1
    by_cases hz : n - k = 0
    · refine .inl ⟨cutA (some ⟨g, off, none⟩) k c 1, c - k, by rw [hz], by omega, ?_⟩
      exact List.drop_eq_nil_of_le (by omega)
    · refine .inr ⟨g, off + k * 1, c - k, ?_, by omega, by omega, fun j x hj => ?_⟩
      · rw [cutA, if_neg (by omega)]; simp [Addr.add]
      · rw [List.getElem?_drop] at hj
        have := h4 (k + j) x hj
        rwa [Nat.mul_one, Nat.add_assoc]
theorem sl_take {w : World} {b : Option Addr} {n c : Nat} {xs : List Value} (h : Sl w (.slice b n c) n xs) (hl : xs.length = n) (m : Nat) (hm : m ≤ n) : Sl w (.slice b m c) m (xs.take m) := Sl.head h hl m hm
def nxV (k N : Nat) (L : List Int) : Int := if k < N then L.getD k 0 else 0
def nxE (k N : Nat) : Int := if k < N then 0 else 14
def nxK (k N : Nat) : Nat := if k < N then k + 1 else k
def NextG (B ba b : Nat) (pa : Option Addr) (N ca k : Nat) (L : List Int) (w : World) (e : Ending) (w' : World) : Prop :=
  ∃ v, e = .returned (.tuple #[.int .i64 (nxV k N L), v]) ∧ Below B w w' ∧ Only [93] w w' ∧ AlG B ba b pa N ca (nxK k N) L w' ∧ ErrV w' [] (erT (nxE k N)) v
theorem alloc_NextG (B ba b : Nat) (pa : Option Addr) (N ca k : Nat) (L : List Int) (w : World) (hA : AlG B ba b pa N ca k L w) (hg : k < N → 0 ≤ L.getD k 0) (hBw : B ≤ w.heap.size) :
    Calls Tryz.prog 59 #[.pointer (some ⟨ba, 0, none⟩)] w (NextG B ba b pa N ca k L w) := by
  by_cases hk : k < N
  · obtain ⟨q, hq⟩ : ∃ q : Nat, L.getD k 0 = q := ⟨(L.getD k 0).toNat, by have := hg hk; omega⟩
    refine (alloc_Next B ba pa N ca k L hA.hL b q hq w hA.blk hA.nums hA.hB hBw hA.hN hk).mono ?_
    rintro e W ⟨rfl, hb, hO, _, hk2, hn2⟩
    have e1 : nxV k N L = (q : Int) := by unfold nxV; rw [if_pos hk, hq]
    have e2 : nxE k N = 0 := if_pos hk
    have e3 : nxK k N = k + 1 := if_pos hk
    exact ⟨_, by rw [e1], hb, hO, by rw [e3]; exact ⟨hk2, hn2, hA.hL, hA.hB, hA.hN, hk⟩, by rw [e2]; exact rfl⟩
  · refine (alloc_Next_none ba b pa N ca k w hA.blk (by omega)).mono ?_
    rintro e W ⟨rfl, hb⟩
    have e1 : nxV k N L = 0 := by unfold nxV; rw [if_neg hk]
    have e2 : nxE k N = 14 := if_neg hk
    have e3 : nxK k N = k := if_neg hk
    exact ⟨_, by rw [e1], hb.mono hBw, Only.of_below hb, by rw [e3]; exact hA.below hb, by rw [e2]; exact rfl⟩
/-- Write, by its two ends -/
def WroteA (B b : Nat) (p : Option Addr) (k n c : Nat) (l : List UInt8) (no kind : Int) (li : List UInt8) (w : World) (e : Ending) (w' : World) : Prop :=
  (wrE kind no k li = 0 ∧ e = .returned .nilIface ∧ Below B w w' ∧ Only [5] w w' ∧ ImgR B b p n c (wrL kind no k li l) w') ∨
  (wrE kind no k li ≠ 0 ∧ ∃ bf, e = .returned (.iface 137 (.pointer (some ⟨bf, 0, none⟩))) ∧ Below B w w' ∧ Only [5] w w' ∧ ImgR B b p n c (wrL kind no k li l) w' ∧ ErrV w' [some no] (some (wrE kind no k li)) (.iface 137 (.pointer (some ⟨bf, 0, none⟩))))
theorem block_WriteA (B b : Nat) (p : Option Addr) (k n c : Nat) (l : List UInt8) (no kind : Int) (a : Option Addr) (ca : Nat) (li : List UInt8) (w : World) (hn : n = k * 256) (hI : ImgR B b p n c l w) (hin : Bys w (.slice a li.length ca) li) (hBw : B ≤ w.heap.size) :
    Calls Tryz.prog 60 #[.pointer (some ⟨b, 0, none⟩), .int .i64 no, .int .i64 kind, .slice a li.length ca] w (WroteA B b p k n c l no kind li w) := by
  refine (block_WriteG B b p k n c l no kind a ca li w hn hI hin hBw).mono ?_
  rintro e W ⟨v, rfl, hb, hO, hI2, hv⟩
  by_cases he : wrE kind no k li = 0
  · rw [he] at hv
    obtain rfl : v = .nilIface := hv
    exact .inl ⟨he, rfl, hb, hO, hI2⟩
  · rw [erL, erT, if_neg he, if_neg he] at hv
    have hq := hv
    obtain ⟨bf, vf, rfl, _, _⟩ := hq
    exact .inr ⟨he, bf, rfl, hb, hO, hI2, hv⟩
def lyE (k N K : Nat) (L : List Int) (kind : Int) (li : List UInt8) : Int := if k < N then wrE kind (L.getD k 0) K li else 14
def lyB (k N K : Nat) (L : List Int) (kind : Int) (li : List UInt8) : List Int := if k < N then fltL (L.getD k 0) (wrE kind (L.getD k 0) K li) else []
def lyV (k N K : Nat) (L : List Int) (kind : Int) (li : List UInt8) : Int := if k < N ∧ wrE kind (L.getD k 0) K li = 0 then L.getD k 0 else 0
def lyK (k N K : Nat) (L : List Int) (kind : Int) (li : List UInt8) : Nat := if k < N ∧ wrE kind (L.getD k 0) K li = 0 then k + 1 else k
def lyL (k N K : Nat) (L : List Int) (kind : Int) (li l : List UInt8) : List UInt8 := if k < N then wrL kind (L.getD k 0) K li l else l
def LayG (B ba b : Nat) (pa : Option Addr) (N ca k : Nat) (L : List Int) (p : Option Addr) (K n c : Nat) (l : List UInt8) (kind : Int) (li : List UInt8) (w : World) (e : Ending) (w' : World) : Prop :=
  ∃ v, e = .returned (.tuple #[.int .i64 (lyV k N K L kind li), v]) ∧ Below B w w' ∧ Only [93, 5] w w' ∧ AlG B ba b pa N ca (lyK k N K L kind li) L w' ∧ ImgR B b p n c (lyL k N K L kind li l) w' ∧ ErrV w' ((lyB k N K L kind li).map some) (erT (lyE k N K L kind li)) v
set_option maxRecDepth 100000 in
set_option maxHeartbeats 1000000 in
theorem alloc_back (B ba : Nat) (v m : Value) (k : Nat) (w : World) (hk : Blk w ba [v, .int .i64 ((k + 1 : Nat) : Int), m] 93) (hB0 : B ≤ ba) (hBw : B ≤ w.heap.size) (hk2 : k ≤ 1000000) :
    Calls Tryz.prog 61 #[.pointer (some ⟨ba, 0, none⟩)] w ((fun e w' => e = .returned (.tuple #[]) ∧ Below B w w' ∧ Only [93] w w' ∧ Blk w' ba [v, .int .i64 (k : Int), m] 93)) := by
 refine zin 9 Tryz.func61 ?_
 refine xb 4 1 hk ?_
 refine xq 0 (congrArg (Value.int .i64) (show IntKind.i64.wrap ((↑(k + 1) : Int) - 1) = (↑k : Int) from (show IntKind.i64.wrap ((↑(k + 1) : Int) - 1) = ((↑(k + 1) : Int) - 1) from by first | exact IntWalk.i64_in _ (by omega) | (simp only [IntKind.wrap]; omega)).trans (by omega))) ?_
 refine xs 2 hk [v, .int .i64 (↑k : Int), m] fun W1 u1 k1 => ?_
 have hB := u1.below (Below.refl B w) hB0
 have hO := (show Only [93] w _ from (Only.of_upd u1 hk (by decide)))
 exact xe 1 (.tuple #[]) ⟨rfl, hB, hO, k1⟩
set_option maxRecDepth 100000 in
set_option maxHeartbeats 4000000 in
theorem alloc_Lay_g (B ba b : Nat) (p0 : Option Addr) (N ca k q : Nat) (L : List Int) (p : Option Addr) (K n c : Nat) (l : List UInt8) (kind : Int) (a : Option Addr) (ci : Nat) (li : List UInt8) (w : World) (hk : Blk w ba [.slice p0 N ca, .int .i64 (k : Int), .pointer (some ⟨b, 0, none⟩)] 93) (ho : w.ownsRow B 3 1 (.slice p0 N ca) N (L.map (Value.int .i64))) (hL : L.length = N) (hB0 : B ≤ ba) (hN : N ≤ 1000000) (hkN : k < N) (hq : L.getD k 0 = (q : Int)) (hn : n = K * 256) (hI : ImgR B b p n c l w) (hin : ∀ W, Below B w W → Bys W (.slice a li.length ci) li) (hBw : B ≤ w.heap.size) :
    Calls Tryz.prog 33 #[.pointer (some ⟨ba, 0, none⟩), .int .i64 kind, .slice a li.length ci] w (LayG B ba b p0 N ca k L p K n c l kind li w) := by
 refine zin 35 Tryz.func33 ?_
 refine xc 9 (args := #[.pointer (some ⟨ba, 0, none⟩)]) (alloc_Next B ba p0 N ca k L hL b q hq _ hk ho hB0 (Nat.le_trans hBw (Below.refl B _).size) hN hkN) ?_
 rintro _ W1 ⟨rfl, hb1, hO1, _, kA, ho⟩
 refine xb 23 2 kA ?_
 have hI'1 := hI.only hO1 (by decide)
 refine xc 3 (args := #[.pointer (some ⟨b, 0, none⟩), .int .i64 (↑q : Int), .int .i64 kind, .slice a li.length ci]) (block_WriteA B b p K n c l (↑q : Int) kind a ci li _ hn hI'1 (hin _ hb1) (Nat.le_trans hBw hb1.size)) ?_
 rintro e W2 hq2
 rcases hq2 with ⟨he, rfl, hb2, hO2, hI⟩ | ⟨he, bf, rfl, hb2, hO2, hI, hv⟩
 · have hB'1 := hb1.trans hb2
   have hO := (show Only [93, 5] w _ from (only_aa hO1)).trans (only_ab hO2)
   have kA'1 := kA.only hO2 (by decide)
   have ho'1 := own_only ho hO2 (by decide)
   refine xe 20 (.tuple #[.int .i64 (↑q : Int), .nilIface]) ?_
   have h2 : k < N ∧ wrE kind (L.getD k 0) K li = 0 := ⟨hkN, by rw [hq]; exact he⟩
   exact ⟨_, by rw [lyV, if_pos h2, hq], hB'1, hO, by rw [lyK, if_pos h2]; exact ⟨kA'1, ho'1, hL, hB0, hN, hkN⟩, by rw [lyL, if_pos hkN, hq]; exact hI, by rw [lyB, lyE, if_pos hkN, if_pos hkN, h2.2]; exact rfl⟩
 have kA'2 := kA.only hO2 (by decide)
 have hB'2 := hb1.trans hb2
 refine xc 15 (args := #[.pointer (some ⟨ba, 0, none⟩)]) (alloc_back B ba _ _ k _ kA'2 hB0 (Nat.le_trans hBw hB'2.size) (by omega)) ?_
 rintro _ W3 ⟨rfl, hb3, hO3, kA2⟩
 have hB'3 := hB'2.trans hb3
 have hO := ((show Only [93, 5] w _ from (only_aa hO1)).trans (only_ab hO2)).trans (only_aa hO3)
 have ho'2 := own_only (own_only ho hO2 (by decide)) hO3 (by decide)
 have hI'2 := hI.only hO3 (by decide)
 have hv'1 := hv.only hO3 (by decide)
 refine xe 11 (.tuple #[.int .i64 0, .iface 137 (.pointer (some ⟨bf, 0, none⟩))]) ?_
 have h2 : ¬ (k < N ∧ wrE kind (L.getD k 0) K li = 0) := fun h => he (by rw [← hq]; exact h.2)
 exact ⟨_, by rw [lyV, if_neg h2], hB'3, hO, by rw [lyK, if_neg h2]; exact ⟨kA2, ho'2, hL, hB0, hN, by omega⟩, by rw [lyL, if_pos hkN, hq]; exact hI'2, by rw [lyB, lyE, if_pos hkN, if_pos hkN, hq, fltL_nz he, erT, if_neg he]; exact hv'1⟩
theorem alloc_LayG (B ba b : Nat) (pa : Option Addr) (N ca k : Nat) (L : List Int) (p : Option Addr) (K n c : Nat) (l : List UInt8) (kind : Int) (a : Option Addr) (ci : Nat) (li : List UInt8) (w : World) (hA : AlG B ba b pa N ca k L w) (hg : k < N → 0 ≤ L.getD k 0) (hn : n = K * 256) (hI : ImgR B b p n c l w) (hin : ∀ W, Below B w W → Bys W (.slice a li.length ci) li) (hBw : B ≤ w.heap.size) :
    Calls Tryz.prog 33 #[.pointer (some ⟨ba, 0, none⟩), .int .i64 kind, .slice a li.length ci] w (LayG B ba b pa N ca k L p K n c l kind li w) := by
  by_cases hk : k < N
  · obtain ⟨q, hq⟩ : ∃ q : Nat, L.getD k 0 = q := ⟨(L.getD k 0).toNat, by have := hg hk; omega⟩
    exact alloc_Lay_g B ba b pa N ca k q L p K n c l kind a ci li w hA.blk hA.nums hA.hL hA.hB hA.hN hk hq hn hI hin hBw
  · refine (alloc_Lay_none ba b pa N ca k _ _ w hA.blk (by omega)).mono ?_
    rintro e W ⟨rfl, hb⟩
    have h2 : ¬ (k < N ∧ wrE kind (L.getD k 0) K li = 0) := fun h => hk h.1
    exact ⟨_, by rw [lyV, if_neg h2], hb.mono hBw, Only.of_below hb, by rw [lyK, if_neg h2]; exact hA.below hb, by rw [lyL, if_neg hk]; exact hI.below hb, by rw [lyB, lyE, if_neg hk, if_neg hk]; exact rfl⟩
theorem aheadSl {w : World} {b : Option Addr} {n c k i : Nat} {L : List Int} (h : Sl w (.slice b n c) n (L.map (Value.int .i64))) (hl : L.length = n) (hk : k ≤ n) : Sl w (.slice (cutA b k c 1) (min i (n - k)) (c - k)) (min i (n - k)) (((L.drop k).take i).map (Value.int .i64)) := by
  have h1 := sl_cut h (by simpa using hl) k hk
  have h2 := sl_take h1 (by simp [hl]) (min i (n - k)) (by omega)
  rw [← List.map_drop, ← List.map_take] at h2
  have e : (L.drop k).take (min i (n - k)) = (L.drop k).take i := by
    rcases Nat.le_total i (n - k) with q | q
    · rw [Nat.min_eq_left q]
    · rw [Nat.min_eq_right q, List.take_of_length_le (by simp [hl]), List.take_of_length_le (by simp [hl]; omega)]
  rw [e] at h2
  exact h2
theorem aheadN {w : World} {B : Nat} {b : Option Addr} {n c k : Nat} {xs : List Value} {e size : Nat} (h : w.ownsRow B e size (.slice b n c) n xs) : cutA b k c 1 = none → c - k = 0 := by
  intro hn
  have hb : b = none := by
    unfold cutA at hn
    split at hn
    · exact hn
    · simpa using hn
  subst hb
  rcases h.2 with ⟨h2, _⟩ | ⟨g, cap, cur, h2, _⟩
  · simp only [Value.slice.injEq] at h2; omega
  · cases h2
set_option maxRecDepth 100000 in
set_option maxHeartbeats 1000000 in
theorem alloc_Ahead (B ba b : Nat) (p0 : Option Addr) (N ca k i : Nat) (L : List Int) (w : World) (hA : AlG B ba b p0 N ca k L w) (hi : i ≤ 1000000) :
    Calls Tryz.prog 28 #[.pointer (some ⟨ba, 0, none⟩), .int .i64 (↑i : Int)] w (RetS (fun w' r => ∃ q c2, r = .slice q (min i (N - k)) c2 ∧ w'.ownsRow w.heap.size 3 1 (.slice q (min i (N - k)) c2) (min i (N - k)) (((L.drop k).take i).map (Value.int .i64))) w) := by
 have hk := hA.blk
 have hkN := hA.hk
 have hL := hA.hL
 have hN := hA.hN
 have hca : N ≤ ca := by
   rcases Nat.eq_zero_or_pos N with q | q
   · omega
   · exact own_cap hA.nums q
 refine zin 23 Tryz.func28 ?_
 refine xr 9 (args := #[.pointer (some ⟨ba, 0, none⟩)]) (alloc_nobody ba b _ _ _ hk) fun W1 hb1 => ?_
 refine xid 6 ((↑i : Int) < (1 : Int)) (fun hc2 => ?_) (fun hc2 => ?_)
 · refine xe 7 (.slice none 0 0) ?_
   obtain rfl : i = 0 := by omega
   exact ⟨_, rfl, hb1, none, 0, by rw [Nat.zero_min], by rw [Nat.zero_min, List.take_zero]; exact World.ownsRow_nil _ _ _ _⟩
 have hk'1 := hk.below hb1
 refine xr 7 (args := #[.pointer (some ⟨ba, 0, none⟩)]) (alloc_left ba p0 N ca k _ _ hk'1 hkN) fun W3 hb3 => ?_
 refine xq 9 (congrArg (Value.int .i64) (show (if (↑(N - k) : Int) < (↑i : Int) then (↑(N - k) : Int) else (↑i : Int) : Int) = (↑(min i (N - k)) : Int) from min_cast i (N - k))) ?_
 refine xsH 0 (fun _ _ _ _ zo zx zy V => run_sliceH (k := (min i (N - k))) (b := (cutA p0 k ca 1)) (n := (N - k)) (c := (ca - k)) (i := (↑(min i (N - k)) : Int)) (ki := .i64) zo zx zy rfl (by omega) Tryz.underlying22 (by kernel_rfl) V) ?_
 have hB := Bl.next hb1 hb3
 refine xc 0 (args := #[.slice (cutA p0 k ca 1) (min i (N - k)) (ca - k)]) (clone_intsG (cutA p0 k ca 1) (min i (N - k)) (ca - k) (((L.drop k).take i).map (Value.int .i64)) _ (aheadSl (own_sl (own_below hA.nums hB)) hL hkN) (aheadN hA.nums) (by simp; omega) (ints_one _) (by omega)) ?_
 rintro _ W4 ⟨_, rfl, hb4, pq, cq, rfl, hq⟩
 have hs4 := (Bl.next hb1 hb3).size
 have hB'1 := Bl.next hB hb4
 have hq'1 := own_mono hq hs4
 exact xe 4 (.slice pq (min i (N - k)) cq) ⟨_, rfl, hB'1, _, _, rfl, hq'1⟩
set_option maxRecDepth 100000 in
set_option maxHeartbeats 1000000 in
theorem allocG_Image (B ba b : Nat) (p0 : Option Addr) (N ca k : Nat) (L : List Int) (w : World) (hA : AlG B ba b p0 N ca k L w) :
    Calls Tryz.prog 15 #[.pointer (some ⟨ba, 0, none⟩)] w (Ret (.pointer (some ⟨b, 0, none⟩)) w) := by
 have hk := hA.blk
 refine zin 9 Tryz.func15 ?_
 refine xr 9 (args := #[.pointer (some ⟨ba, 0, none⟩)]) (alloc_nobody ba b _ _ _ hk) fun W1 hb1 => ?_
 have hk'1 := hk.below hb1
 refine xb 10 2 hk'1 ?_
 exact xe 4 (.pointer (some ⟨b, 0, none⟩)) ⟨rfl, hb1⟩
/-- New, whatever the first block -/
def NewP (b : Nat) (K : Nat) (f : Int) (w : World) (e : Ending) (w' : World) : Prop :=
  (¬ (1 ≤ f ∧ f ≤ (K : Int)) ∧ e = .returned (.tuple #[.pointer none, .iface 38 (.int .i64 1)]) ∧ Below w.heap.size w w') ∨
  ((1 ≤ f ∧ f ≤ (K : Int)) ∧ ∃ ba pa ca, e = .returned (.tuple #[.pointer (some ⟨ba, 0, none⟩), .nilIface]) ∧ Below w.heap.size w w' ∧ AlG w.heap.size ba b pa (K - f.toNat) ca 0 (rngJ f.toNat (K - f.toNat)) w')
theorem alloc_NewP (b : Nat) (p0 : Option Addr) (n c K : Nat) (f : Int) (w : World) (hk : Blk w b [.slice p0 n c] 96) (hn : n ≤ 3686400) (hK : n = K * 256) :
    Calls Tryz.prog 20 #[.pointer (some ⟨b, 0, none⟩), .int .i64 f] w (NewP b K f w) := by
  have e : n / 256 = K := by omega
  by_cases hf : 1 ≤ f ∧ f ≤ (K : Int)
  · refine (alloc_NewN b p0 n c f.toNat (K - f.toNat) f (by omega) (by rw [e]) w hk hn (by omega) (by omega)).mono ?_
    rintro q W ⟨_, rfl, hb, ba, pa, ca, rfl, h1, h2, h3⟩
    exact .inr ⟨hf, ba, pa, ca, rfl, hb, h2, h3, rngJ_len _ _, h1, by omega, Nat.zero_le _⟩
  · refine (alloc_New_bad b p0 n c f w hk (by omega) (by rw [e]; exact hf)).mono ?_
    rintro q W ⟨rfl, hb⟩
    exact .inl ⟨hf, rfl, hb⟩
end Go.Proofs.YtbhjgcokpmiopaaGreatDoor
namespace Go.Proofs.YtbhjgcokpmiopaaGreatDoor
open Go.RowKit Go.Extern.Stop Go.Stop Go.Extern
set_option linter.unusedVariables false
attribute [local irreducible] wpList wpAnyH Code.wp Oper.wp Go

structure RAl (B bc bm : Nat) (pg : Option Addr) (N cg : Nat) (fa : Option Addr) (m fc k : Nat) (L : List Int) (w : World) : Prop where
  blk : Blk w bc [.pointer (some ⟨bm, 0, none⟩), .slice fa m fc, .int .i64 (k : Int)] 47
  nums : w.ownsRow B 3 1 (.slice pg N cg) N (L.map (Value.int .i64))
  hfree : 0 < m → fa = cutA pg k cg 1 ∧ fc = cg - k
  hm : m + k = N
  hL : L.length = N
  hB : B ≤ bc
  hN : N ≤ 1000000
theorem RAl.below {B bc bm : Nat} {pg : Option Addr} {N cg : Nat} {fa : Option Addr} {m fc k : Nat} {L : List Int} {w W : World} (h : RAl B bc bm pg N cg fa m fc k L w) (hb : Below w.heap.size w W) : RAl B bc bm pg N cg fa m fc k L W := ⟨h.blk.below hb, own_below h.nums hb, h.hfree, h.hm, h.hL, h.hB, h.hN⟩
theorem RAl.only {B bc bm : Nat} {pg : Option Addr} {N cg : Nat} {fa : Option Addr} {m fc k : Nat} {L : List Int} {w W : World} {T : List TypeId} (h : RAl B bc bm pg N cg fa m fc k L w) (hO : Only T w W) (hT : T.contains 47 = false ∧ T.contains 3 = false) : RAl B bc bm pg N cg fa m fc k L W := ⟨h.blk.only hO hT.1, own_only h.nums hO hT.2, h.hfree, h.hm, h.hL, h.hB, h.hN⟩
theorem RAl.mono {B B' bc bm : Nat} {pg : Option Addr} {N cg : Nat} {fa : Option Addr} {m fc k : Nat} {L : List Int} {w : World} (h : RAl B bc bm pg N cg fa m fc k L w) (hB : B' ≤ B) : RAl B' bc bm pg N cg fa m fc k L w := ⟨h.blk, own_mono h.nums hB, h.hfree, h.hm, h.hL, Nat.le_trans hB h.hB, h.hN⟩
theorem free_sl {w : World} {pg : Option Addr} {N cg : Nat} {fa : Option Addr} {m fc k : Nat} {L : List Int} (h : Sl w (.slice pg N cg) N (L.map (Value.int .i64))) (hf : 0 < m → fa = cutA pg k cg 1 ∧ fc = cg - k) (hm : m + k = N) (hL : L.length = N) : Sl w (.slice fa m fc) m ((L.drop k).map (Value.int .i64)) := by
  rcases Nat.eq_zero_or_pos m with rfl | hp
  · rw [List.drop_eq_nil_of_le (by omega)]; exact .inl ⟨fa, fc, rfl, rfl, rfl⟩
  · obtain ⟨rfl, rfl⟩ := hf hp
    have := sl_cut h (by simpa using hL) k (by omega)
    rw [show N - k = m by omega, ← List.map_drop] at this
    exact this
theorem free_elem {w : World} {fa : Option Addr} {m fc k : Nat} {L : List Int} (h : Sl w (.slice fa m fc) m ((L.drop k).map (Value.int .i64))) (hL : L.length = m + k) {i : Nat} (hi : i < m) : fa.isSome = true ∧ w.cell? (elemAddr fa (i * 1)) = some (.int .i64 (L.getD (k + i) 0)) := by
  have := IntsN.elem h (by simp; omega) hi
  rwa [show (L.drop k).getD i 0 = L.getD (k + i) 0 by simp [List.getD, List.getElem?_drop]] at this
theorem cutA_zero (g c : Nat) : cutA (some ⟨g, 0, none⟩) 0 c 1 = some ⟨g, 0, none⟩ := by
  unfold cutA; split
  · rfl
  · simp [Addr.add]
theorem cutA_step {w : World} {B N cg k : Nat} {pg : Option Addr} {xs : List Value} {e size : Nat} (h : w.ownsRow B e size (.slice pg N cg) N xs) (hk : k + 1 < N) : cutA (cutA pg k cg 1) 1 (cg - k) 1 = cutA pg (k + 1) cg 1 ∧ cg - k - 1 = cg - (k + 1) := by
  have hc := own_cap h (by omega)
  obtain ⟨g, rfl, _⟩ := own_someN h (by omega)
  refine ⟨?_, by omega⟩
  unfold cutA
  rw [if_neg (by omega), if_neg (by omega), if_neg (by omega)]
  by_cases h0 : k = 0
  · subst h0; simp [Addr.add]
  · simp [Addr.add, h0]
set_option maxRecDepth 100000 in
set_option maxHeartbeats 1000000 in
theorem ref_Take_none (B bc bm : Nat) (pg : Option Addr) (N cg : Nat) (fa : Option Addr) (m fc k : Nat) (L : List Int) (w : World) (hA : RAl B bc bm pg N cg fa m fc k L w) (hBw : B ≤ w.heap.size) (h0 : m = 0) :
    Calls Tryz.prog 76 #[.pointer (some ⟨bc, 0, none⟩)] w (Ret (.tuple #[.int .i64 0, .agg #[.slice none 0 0, .int .i64 14]]) w) := by
 have hk := hA.blk
 have hr := hA.nums
 have hm := hA.hm
 have hL := hA.hL
 have hN := hA.hN
 refine zin 35 Tryz.func76 ?_
 refine xa 3 [.slice none 0 0, .int .i64 0] 31 fun b1 W1 n1 => ?_
 have hk'1 := hk.below n1.below
 refine xb 8 1 hk'1 ?_
 refine xk 4 (show (((↑m : Int) == (0 : Int)) : Bool) = true from by subst h0; rfl) ?_
 refine xsv 4 n1.blk [.slice none 0 0, .int .i64 14] fun W2 u2 k2 => ?_
 have g1 := n1.ge (Below.refl w.heap.size _)
 have hB := u2.below n1.below g1
 exact xec 4 k2 (.tuple #[.int .i64 0, .agg #[.slice none 0 0, .int .i64 14]]) ⟨rfl, hB⟩
def Took16 (B bc bm : Nat) (pg : Option Addr) (N cg k : Nat) (L : List Int) (v : Value) (w : World) (e : Ending) (w' : World) : Prop :=
  ∃ fa m fc, e = .returned v ∧ Below B w w' ∧ Only [47] w w' ∧ RAl B bc bm pg N cg fa m fc k L w'
set_option maxRecDepth 100000 in
set_option maxHeartbeats 2000000 in
theorem ref_Take_some (B bc bm : Nat) (pg : Option Addr) (N cg : Nat) (fa : Option Addr) (m fc k : Nat) (L : List Int) (w : World) (hA : RAl B bc bm pg N cg fa m fc k L w) (hBw : B ≤ w.heap.size) (h0 : 0 < m) :
    Calls Tryz.prog 76 #[.pointer (some ⟨bc, 0, none⟩)] w (Took16 B bc bm pg N cg (k + 1) L (.tuple #[.int .i64 (L.getD (k + 0) 0), .agg #[.slice none 0 0, .int .i64 0]]) w) := by
 have hk := hA.blk
 have hr := hA.nums
 have hm := hA.hm
 have hL := hA.hL
 have hN := hA.hN
 refine zin 35 Tryz.func76 ?_
 refine xa 3 [.slice none 0 0, .int .i64 0] 31 fun b1 W1 n1 => ?_
 have hk'1 := hk.below n1.below
 refine xb 8 1 hk'1 ?_
 refine xk 4 (show (((↑m : Int) == (0 : Int)) : Bool) = false from by simp; omega) ?_
 refine xb 7 1 hk'1 ?_
 have hr'1 := own_below hr n1.below
 refine xx 0 _ m 0 1 (free_elem (free_sl (own_sl hr'1) hA.hfree hm hL) (by omega) (i := 0) (by omega)).1 ?_
 refine xl 0 ((free_elem (free_sl (own_sl hr'1) hA.hfree hm hL) (by omega) (i := 0) (by omega)).2) ?_
 refine xb 9 1 hk'1 ?_
 refine xsL 0 (fun _ _ _ _ zo zx zy V => run_sliceLA (k := 1) (b := fa) (n := m) (c := fc) (i := 1) (ki := .i64) 1 zo zx zy rfl (by omega) Tryz.underlying22 (by kernel_rfl) V) ?_
 refine xs 2 hk'1 [.pointer (some ⟨bm, 0, none⟩), .slice (cutA fa 1 fc 1) (m - 1) (fc - 1), .int .i64 (↑k : Int)] fun W2 u2 k2 => ?_
 refine xb 7 2 k2 ?_
 refine xwm 0 ((↑k : Int) + 1) (↑(k + 1) : Int) ?_
 refine xs 2 k2 [.pointer (some ⟨bm, 0, none⟩), .slice (cutA fa 1 fc 1) (m - 1) (fc - 1), .int .i64 (↑(k + 1) : Int)] fun W3 u3 k3 => ?_
 have k1 := u3.blkT (u2.blkT n1.blk hk'1 (by decide)) k2 (by decide)
 refine xsv 7 k1 [.slice none 0 0, .int .i64 0] fun W4 u4 k4 => ?_
 have g1 := n1.ge0 (Below.refl B _)
 have hB := u4.below (u3.below (u2.below (Bl.nextB (Below.refl B w) hBw n1.below) hA.hB) hA.hB) (Nat.le_trans hBw g1)
 have hO := (Only.upd_new (((show Only [47] w _ from (Only.of_below n1.below)).trans (Only.of_upd u2 hk'1 (by decide))).trans (Only.of_upd u3 k2 (by decide))) u4 g1)
 have k3'1 := u4.blkT k3 k1 (by decide)
 have hr'2 := u4.own2 (u3.own2 (u2.own2 hr'1 hk'1 (by decide)) k2 (by decide)) k1 (by decide)
 exact xec 3 k4 (.tuple #[.int .i64 (L.getD (k + 0) 0), .agg #[.slice none 0 0, .int .i64 0]]) ⟨_, _, _, rfl, hB, hO, k3'1, hr'2, fun hp => by rw [(hA.hfree h0).1, (hA.hfree h0).2]; exact cutA_step hr'2 (by omega), by omega, hL, hA.hB, hN⟩
theorem ref_Take (B bc bm : Nat) (pg : Option Addr) (N cg : Nat) (fa : Option Addr) (m fc k : Nat) (L : List Int) (w : World) (hA : RAl B bc bm pg N cg fa m fc k L w) (hBw : B ≤ w.heap.size) :
    Calls Tryz.prog 76 #[.pointer (some ⟨bc, 0, none⟩)] w (Took16 B bc bm pg N cg (nxK k N) L (.tuple #[.int .i64 (nxV k N L), .agg #[.slice none 0 0, .int .i64 (nxE k N)]]) w) := by
  have hm := hA.hm
  rcases Nat.eq_zero_or_pos m with h0 | h0
  · refine (ref_Take_none B bc bm pg N cg fa m fc k L w hA hBw h0).mono ?_
    rintro e W ⟨rfl, hb⟩
    rw [nxV, nxE, nxK, if_neg (by omega), if_neg (by omega), if_neg (by omega)]
    exact ⟨_, _, _, rfl, hb.mono hBw, Only.of_below hb, hA.below hb⟩
  · rw [nxV, nxE, nxK, if_pos (by omega), if_pos (by omega), if_pos (by omega)]
    exact ref_Take_some B bc bm pg N cg fa m fc k L w hA hBw h0
theorem only_r1 {w w' : World} (h : Only [47] w w') : Only [47, 9] w w' := h.mono fun t ht => by simp at ht ⊢; exact ht.1
theorem only_r2 {w w' : World} (h : Only [9] w w') : Only [47, 9] w w' := h.mono fun t ht => by simp at ht ⊢; exact ht.2
def RLayG (B bc bm : Nat) (pg : Option Addr) (N cg k : Nat) (L : List Int) (p : Option Addr) (K c : Nat) (l : List UInt8) (kind : Int) (li : List UInt8) (w : World) (e : Ending) (w' : World) : Prop :=
  ∃ a c2 fa m fc, e = .returned (.tuple #[.int .i64 (lyV k N K L kind li), .agg #[.slice a (lyB k N K L kind li).length c2, .int .i64 (lyE k N K L kind li)]]) ∧ Below B w w' ∧ Only [47, 9] w w' ∧ RAl B bc bm pg N cg fa m fc (lyK k N K L kind li) L w' ∧ RefI B bm p K c (lyL k N K L kind li l) w' ∧
    w'.ownsRow B 3 1 (.slice a (lyB k N K L kind li).length c2) (lyB k N K L kind li).length ((lyB k N K L kind li).map (Value.int .i64))
set_option maxRecDepth 100000 in
set_option maxHeartbeats 1000000 in
theorem ref_Lay_none (B bc bm : Nat) (pg : Option Addr) (N cg : Nat) (fa : Option Addr) (m fc k : Nat) (L : List Int) (p : Option Addr) (K c : Nat) (l : List UInt8) (kind : Int) (a : Option Addr) (ci : Nat) (li : List UInt8) (w : World) (hA : RAl B bc bm pg N cg fa m fc k L w) (hI : RefI B bm p K c l w) (hin : ∀ W, Below B w W → Only [47, 9] w W → Bys W (.slice a li.length ci) li) (hBw : B ≤ w.heap.size) (h0 : m = 0) :
    Calls Tryz.prog 43 #[.pointer (some ⟨bc, 0, none⟩), .int .i64 kind, .slice a li.length ci] w (Ret (.tuple #[.int .i64 0, .agg #[.slice none 0 0, .int .i64 14]]) w) := by
 have hk := hA.blk
 refine zin 37 Tryz.func43 ?_
 refine xa 3 [.slice none 0 0, .int .i64 0] 31 fun b1 W1 n1 => ?_
 have hk'1 := hk.below n1.below
 refine xb 8 1 hk'1 ?_
 refine xk 4 (show (((↑m : Int) == (0 : Int)) : Bool) = true from by subst h0; rfl) ?_
 refine xsv 4 n1.blk [.slice none 0 0, .int .i64 14] fun W2 u2 k2 => ?_
 have g1 := n1.ge (Below.refl w.heap.size _)
 have hB := u2.below n1.below g1
 exact xec 4 k2 (.tuple #[.int .i64 0, .agg #[.slice none 0 0, .int .i64 14]]) ⟨rfl, hB⟩
set_option maxRecDepth 100000 in
set_option maxHeartbeats 4000000 in
theorem ref_Lay_some (B bc bm : Nat) (pg : Option Addr) (N cg : Nat) (fa : Option Addr) (m fc k : Nat) (L : List Int) (p : Option Addr) (K c : Nat) (l : List UInt8) (kind : Int) (a : Option Addr) (ci : Nat) (li : List UInt8) (w : World) (hA : RAl B bc bm pg N cg fa m fc k L w) (hI : RefI B bm p K c l w) (hin : ∀ W, Below B w W → Only [47, 9] w W → Bys W (.slice a li.length ci) li) (hBw : B ≤ w.heap.size) (h0 : 0 < m) :
    Calls Tryz.prog 43 #[.pointer (some ⟨bc, 0, none⟩), .int .i64 kind, .slice a li.length ci] w (RLayG B bc bm pg N cg k L p K c l kind li w) := by
 have hk := hA.blk
 have hr := hA.nums
 have hm := hA.hm
 have hL := hA.hL
 have hN := hA.hN
 have hkN : k < N := by omega
 refine zin 37 Tryz.func43 ?_
 refine xa 3 [.slice none 0 0, .int .i64 0] 31 fun b1 W1 n1 => ?_
 have hk'1 := hk.below n1.below
 refine xb 8 1 hk'1 ?_
 refine xk 4 (show (((↑m : Int) == (0 : Int)) : Bool) = false from by simp; omega) ?_
 refine xd 3 (.t B [9, 31]) ?_
 have hk'2 := hk'1.below (below_drew W1)
 refine xbt (.e [0, 1, 2] 3) 0 B [9, 31] hk'2 ?_
 refine xbt (.e [4, 5, 6] 7) 1 B [9, 31] hk'2 ?_
 have hr'1 := own_below (own_below hr n1.below) (below_drew W1)
 refine xx (.e [] 8) _ m 0 1 (free_elem (free_sl (own_sl hr'1) hA.hfree hm hL) (by omega) (i := 0) (by omega)).1 ?_
 refine xlt (.e [] 9) (.t B [9, 31]) (fun V hV => (free_elem (free_sl (own_sl (own_only hr'1 hV.2 (by decide))) hA.hfree hm hL) (by omega) (i := 0) (by omega)).2) ?_
 refine xm2 (.b [10, 11]) 12 13 ?_ ?_
 · have hB := Bl.nextB (Bl.nextB (Below.refl B w) hBw n1.below) hBw (below_drew W1)
   have hs7 : B ≤ (W1.drew).heap.size := Nat.le_trans hBw hB.size
   have hI'1 := (hI.below n1.below).below (below_drew W1)
   have hO := (show Only [47, 9] w _ from (Only.of_below n1.below)).trans (Only.of_below (below_drew W1))
   refine yc 0 (args := #[.pointer (some ⟨bm, 0, none⟩), .int .i64 (L.getD (k + 0) 0), .int .i64 kind, .slice a li.length ci]) (.t B [9, 31]) (ref11_Write B bm p K c l (L.getD (k + 0) 0) kind a ci li _ hI'1 (hin _ hB hO) (Nat.le_trans hBw hB.size)) ?_
   rintro _ W2 ⟨a5, c5, rfl, hb2, hO2, hI, h5⟩
   refine ⟨(sft_only hb2 hO2), ?_⟩
   replace h5 := own_mono h5 hs7
   refine xa (.o [] 13) [.slice none 0 0, .int .i64 0] 31 fun b3 W3 n3 => ?_
   have k1 := (n1.blk.below (below_drew W1)).only hO2 (by decide)
   have d3_b1 := n3.ne k1
   have g3 := n3.ge0 (hB.trans hb2)
   refine ysv (.o [] 14) n3.blk [.slice a5 ((fltL (L.getD (k + 0) 0) (wrE kind (L.getD (k + 0) 0) K li)).length) c5, .int .i64 (wrE kind (L.getD (k + 0) 0) K li)] (.t B [9, 31]) fun W4 u4 k4 => ⟨(sft_upd u4 n3.blk (Nat.le_trans hBw g3) (by decide)), ?_⟩
   refine xb 6 1 k4 ?_
   refine xin 3 (wrE kind (L.getD (k + 0) 0) K li) (0 : Int) (fun hc5 => ?_) (fun hc5 => ?_)
   · have hne : wrE kind (L.getD k 0) K li ≠ 0 := hc5
     refine xd 1 (.t B [31]) ?_
     have k4'1 := k4.below (below_drew W4)
     refine xlv (.o [1] 0) k4'1.rp ?_
     have k1'1 := (u4.blk (k1.below n3.below) (Ne.symm (Ne.symm d3_b1))).below (below_drew W4)
     have g1 := n1.ge0 (Below.refl B _)
     refine ysv (.o [] 2) k1'1 [.slice a5 ((fltL (L.getD (k + 0) 0) (wrE kind (L.getD (k + 0) 0) K li)).length) c5, .int .i64 (wrE kind (L.getD (k + 0) 0) K li)] (.t B [31]) fun W6 u6 k6 => ⟨(sft_upd u6 k1'1 (Nat.le_trans hBw g1) (by decide)), ?_⟩
     have hB'1 := u6.below (Bl.nextB (u4.below (Bl.nextB (hB.trans hb2) hBw n3.below) (Nat.le_trans hBw g3)) hBw (below_drew W4)) (Nat.le_trans hBw g1)
     have hO'1 := (Only.upd_new ((Only.upd_new ((hO.trans (only_r2 hO2)).trans (Only.of_below n3.below)) u4 g3).trans (Only.of_below (below_drew W4))) u6 g1)
     have hk'3 := u6.blkT ((u4.blkT ((hk'2.only hO2 (by decide)).below n3.below) n3.blk (by decide)).below (below_drew W4)) k1'1 (by decide)
     have hr'2 := u6.own2 (own_below (u4.own2 (own_below (own_only hr'1 hO2 (by decide)) n3.below) n3.blk (by decide)) (below_drew W4)) k1'1 (by decide)
     have hI'2 := (((hI.below n3.below).only (Only.of_upd (T := [31]) u4 n3.blk (by decide)) (by decide)).below (below_drew W4)).only (Only.of_upd (T := [31]) u6 k1'1 (by decide)) (by decide)
     have h5'1 := u6.own2 (own_below (u4.own2 (own_below h5 n3.below) n3.blk (by decide)) (below_drew W4)) k1'1 (by decide)
     refine xec 4 k6 (.tuple #[.int .i64 0, .agg #[.slice a5 ((fltL (L.getD (k + 0) 0) (wrE kind (L.getD (k + 0) 0) K li)).length) c5, .int .i64 (wrE kind (L.getD (k + 0) 0) K li)]]) ?_
     have h2 : ¬ (k < N ∧ wrE kind (L.getD k 0) K li = 0) := fun h => hne h.2
     exact ⟨a5, c5, _, _, _, by rw [lyV, if_neg h2, lyE, if_pos hkN, lyB, if_pos hkN]; rfl, hB'1, hO'1, by rw [lyK, if_neg h2]; exact ⟨hk'3, hr'2, hA.hfree, hm, hL, hA.hB, hN⟩, by rw [lyL, if_pos hkN]; exact hI'2, by rw [lyB, if_pos hkN]; exact h5'1⟩
   have heq : wrE kind (L.getD k 0) K li = 0 := hc5
   have hk'4 := u4.blkT ((hk'2.only hO2 (by decide)).below n3.below) n3.blk (by decide)
   have hr'3 := u4.own2 (own_below (own_only hr'1 hO2 (by decide)) n3.below) n3.blk (by decide)
   have hB'2 := u4.below (Bl.nextB (hB.trans hb2) hBw n3.below) (Nat.le_trans hBw g3)
   refine xc 5 (args := #[.pointer (some ⟨bc, 0, none⟩)]) (ref_Take_some B bc bm pg N cg fa m fc k L _ ⟨hk'4, hr'3, hA.hfree, hm, hL, hA.hB, hN⟩ (Nat.le_trans hBw hB'2.size) (by omega)) ?_
   rintro _ W7 ⟨fa2, m2, fc2, rfl, hb7, hO7, hA2⟩
   have k1'2 := (u4.blk (k1.below n3.below) (Ne.symm (Ne.symm d3_b1))).only hO7 (by decide)
   refine xsv 3 k1'2 [.slice none 0 0, .int .i64 0] fun W8 u8 k8 => ?_
   have g1 := n1.ge0 (Below.refl B _)
   have hB'3 := u8.below (hB'2.trans hb7) (Nat.le_trans hBw g1)
   have hO'2 := (Only.upd_new ((Only.upd_new ((hO.trans (only_r2 hO2)).trans (Only.of_below n3.below)) u4 g3).trans (only_r1 hO7)) u8 g1)
   have hA2'1 := hA2.only (Only.of_upd (T := [31]) u8 k1'2 (by decide)) (by decide)
   have hI'3 := (((hI.below n3.below).only (Only.of_upd (T := [31]) u4 n3.blk (by decide)) (by decide)).only hO7 (by decide)).only (Only.of_upd (T := [31]) u8 k1'2 (by decide)) (by decide)
   refine xec 3 k8 (.tuple #[.int .i64 (L.getD (k + 0) 0), .agg #[.slice none 0 0, .int .i64 0]]) ?_
   have h2 : k < N ∧ wrE kind (L.getD k 0) K li = 0 := ⟨hkN, heq⟩
   have h3 : fltL (L.getD k 0) (wrE kind (L.getD k 0) K li) = [] := by rw [h2.2]; rfl
   exact ⟨none, 0, _, _, _, by rw [lyV, if_pos h2, lyE, if_pos hkN, lyB, if_pos hkN, h3, h2.2]; rfl, hB'3, hO'2, by rw [lyK, if_pos h2]; exact hA2'1, by rw [lyL, if_pos hkN]; exact hI'3, by rw [lyB, if_pos hkN, h3]; exact World.ownsRow_nil _ _ _ _⟩
 refine xa 0 [.slice none 0 0, .int .i64 0] 31 fun b9 W9 n9 => ?_
 have k1 := n1.blk.below (below_drew W1)
 have d9_b1 := n9.ne k1
 have hB := Bl.nextB (Bl.nextB (Bl.nextB (Below.refl B w) hBw n1.below) hBw (below_drew W1)) hBw n9.below
 have hs7 : B ≤ (W9).heap.size := Nat.le_trans hBw hB.size
 have hI'4 := ((hI.below n1.below).below (below_drew W1)).below n9.below
 have hO := ((show Only [47, 9] w _ from (Only.of_below n1.below)).trans (Only.of_below (below_drew W1))).trans (Only.of_below n9.below)
 refine yc (.o [] 12) (args := #[.pointer (some ⟨bm, 0, none⟩), .int .i64 (L.getD (k + 0) 0), .int .i64 kind, .slice a li.length ci]) (.t B [9, 31]) (ref11_Write B bm p K c l (L.getD (k + 0) 0) kind a ci li _ hI'4 (hin _ hB hO) (Nat.le_trans hBw hB.size)) ?_
 rintro _ W10 ⟨a5, c5, rfl, hb10, hO10, hI, h5⟩
 refine ⟨(sft_only hb10 hO10), ?_⟩
 replace h5 := own_mono h5 hs7
 have k9 := n9.blk.only hO10 (by decide)
 have g9 := n9.ge0 (Bl.nextB (Bl.nextB (Below.refl B w) hBw n1.below) hBw (below_drew W1))
 refine ysv (.o [] 14) k9 [.slice a5 ((fltL (L.getD (k + 0) 0) (wrE kind (L.getD (k + 0) 0) K li)).length) c5, .int .i64 (wrE kind (L.getD (k + 0) 0) K li)] (.t B [9, 31]) fun W11 u11 k11 => ⟨(sft_upd u11 k9 (Nat.le_trans hBw g9) (by decide)), ?_⟩
 refine xb 6 1 k11 ?_
 refine xin 3 (wrE kind (L.getD (k + 0) 0) K li) (0 : Int) (fun hc12 => ?_) (fun hc12 => ?_)
 · have hne : wrE kind (L.getD k 0) K li ≠ 0 := hc12
   refine xd 1 (.t B [31]) ?_
   have k11'1 := k11.below (below_drew W11)
   refine xlv (.o [1] 0) k11'1.rp ?_
   have k1'3 := (u11.blk ((k1.below n9.below).only hO10 (by decide)) (Ne.symm (Ne.symm d9_b1))).below (below_drew W11)
   have g1 := n1.ge0 (Below.refl B _)
   refine ysv (.o [] 2) k1'3 [.slice a5 ((fltL (L.getD (k + 0) 0) (wrE kind (L.getD (k + 0) 0) K li)).length) c5, .int .i64 (wrE kind (L.getD (k + 0) 0) K li)] (.t B [31]) fun W13 u13 k13 => ⟨(sft_upd u13 k1'3 (Nat.le_trans hBw g1) (by decide)), ?_⟩
   have hB'4 := u13.below (Bl.nextB (u11.below (hB.trans hb10) (Nat.le_trans hBw g9)) hBw (below_drew W11)) (Nat.le_trans hBw g1)
   have hO'3 := (Only.upd_new ((Only.upd_new (hO.trans (only_r2 hO10)) u11 g9).trans (Only.of_below (below_drew W11))) u13 g1)
   have hk'5 := u13.blkT ((u11.blkT ((hk'2.below n9.below).only hO10 (by decide)) k9 (by decide)).below (below_drew W11)) k1'3 (by decide)
   have hr'4 := u13.own2 (own_below (u11.own2 (own_only (own_below hr'1 n9.below) hO10 (by decide)) k9 (by decide)) (below_drew W11)) k1'3 (by decide)
   have hI'5 := ((hI.only (Only.of_upd (T := [31]) u11 k9 (by decide)) (by decide)).below (below_drew W11)).only (Only.of_upd (T := [31]) u13 k1'3 (by decide)) (by decide)
   have h5'2 := u13.own2 (own_below (u11.own2 h5 k9 (by decide)) (below_drew W11)) k1'3 (by decide)
   refine xec 4 k13 (.tuple #[.int .i64 0, .agg #[.slice a5 ((fltL (L.getD (k + 0) 0) (wrE kind (L.getD (k + 0) 0) K li)).length) c5, .int .i64 (wrE kind (L.getD (k + 0) 0) K li)]]) ?_
   have h2 : ¬ (k < N ∧ wrE kind (L.getD k 0) K li = 0) := fun h => hne h.2
   exact ⟨a5, c5, _, _, _, by rw [lyV, if_neg h2, lyE, if_pos hkN, lyB, if_pos hkN]; rfl, hB'4, hO'3, by rw [lyK, if_neg h2]; exact ⟨hk'5, hr'4, hA.hfree, hm, hL, hA.hB, hN⟩, by rw [lyL, if_pos hkN]; exact hI'5, by rw [lyB, if_pos hkN]; exact h5'2⟩
 have heq : wrE kind (L.getD k 0) K li = 0 := hc12
 have hk'6 := u11.blkT ((hk'2.below n9.below).only hO10 (by decide)) k9 (by decide)
 have hr'5 := u11.own2 (own_only (own_below hr'1 n9.below) hO10 (by decide)) k9 (by decide)
 have hB'5 := u11.below (hB.trans hb10) (Nat.le_trans hBw g9)
 refine xc 5 (args := #[.pointer (some ⟨bc, 0, none⟩)]) (ref_Take_some B bc bm pg N cg fa m fc k L _ ⟨hk'6, hr'5, hA.hfree, hm, hL, hA.hB, hN⟩ (Nat.le_trans hBw hB'5.size) (by omega)) ?_
 rintro _ W14 ⟨fa2, m2, fc2, rfl, hb14, hO14, hA2⟩
 have k1'4 := (u11.blk ((k1.below n9.below).only hO10 (by decide)) (Ne.symm (Ne.symm d9_b1))).only hO14 (by decide)
 refine xsv 3 k1'4 [.slice none 0 0, .int .i64 0] fun W15 u15 k15 => ?_
 have g1 := n1.ge0 (Below.refl B _)
 have hB'6 := u15.below (hB'5.trans hb14) (Nat.le_trans hBw g1)
 have hO'4 := (Only.upd_new ((Only.upd_new (hO.trans (only_r2 hO10)) u11 g9).trans (only_r1 hO14)) u15 g1)
 have hA2'2 := hA2.only (Only.of_upd (T := [31]) u15 k1'4 (by decide)) (by decide)
 have hI'6 := ((hI.only (Only.of_upd (T := [31]) u11 k9 (by decide)) (by decide)).only hO14 (by decide)).only (Only.of_upd (T := [31]) u15 k1'4 (by decide)) (by decide)
 refine xec 3 k15 (.tuple #[.int .i64 (L.getD (k + 0) 0), .agg #[.slice none 0 0, .int .i64 0]]) ?_
 have h2 : k < N ∧ wrE kind (L.getD k 0) K li = 0 := ⟨hkN, heq⟩
 have h3 : fltL (L.getD k 0) (wrE kind (L.getD k 0) K li) = [] := by rw [h2.2]; rfl
 exact ⟨none, 0, _, _, _, by rw [lyV, if_pos h2, lyE, if_pos hkN, lyB, if_pos hkN, h3, h2.2]; rfl, hB'6, hO'4, by rw [lyK, if_pos h2]; exact hA2'2, by rw [lyL, if_pos hkN]; exact hI'6, by rw [lyB, if_pos hkN, h3]; exact World.ownsRow_nil _ _ _ _⟩
theorem ref_Lay (B bc bm : Nat) (pg : Option Addr) (N cg : Nat) (fa : Option Addr) (m fc k : Nat) (L : List Int) (p : Option Addr) (K c : Nat) (l : List UInt8) (kind : Int) (a : Option Addr) (ci : Nat) (li : List UInt8) (w : World) (hA : RAl B bc bm pg N cg fa m fc k L w) (hI : RefI B bm p K c l w) (hin : ∀ W, Below B w W → Only [47, 9] w W → Bys W (.slice a li.length ci) li) (hBw : B ≤ w.heap.size) :
    Calls Tryz.prog 43 #[.pointer (some ⟨bc, 0, none⟩), .int .i64 kind, .slice a li.length ci] w (RLayG B bc bm pg N cg k L p K c l kind li w) := by
  have hm := hA.hm
  rcases Nat.eq_zero_or_pos m with h0 | h0
  · refine (ref_Lay_none B bc bm pg N cg fa m fc k L p K c l kind a ci li w hA hI hin hBw h0).mono ?_
    rintro e W ⟨rfl, hb⟩
    have hk : ¬ k < N := by omega
    have h2 : ¬ (k < N ∧ wrE kind (L.getD k 0) K li = 0) := fun h => hk h.1
    exact ⟨none, 0, _, _, _, by rw [lyV, if_neg h2, lyE, if_neg hk, lyB, if_neg hk]; rfl, hb.mono hBw, Only.of_below hb, by rw [lyK, if_neg h2]; exact hA.below hb, by rw [lyL, if_neg hk]; exact hI.below hb, by rw [lyB, if_neg hk]; exact World.ownsRow_nil _ _ _ _⟩
  · exact ref_Lay_some B bc bm pg N cg fa m fc k L p K c l kind a ci li w hA hI hin hBw h0
set_option maxRecDepth 100000 in
set_option maxHeartbeats 1000000 in
theorem ref_Ahead (B bc bm : Nat) (pg : Option Addr) (N cg : Nat) (fa : Option Addr) (m fc k j : Nat) (L : List Int) (w : World) (hA : RAl B bc bm pg N cg fa m fc k L w) (hj : j ≤ 1000000) :
    Calls Tryz.prog 39 #[.pointer (some ⟨bc, 0, none⟩), .int .i64 (↑j : Int)] w (RetS (fun w' r => ∃ q c2, r = .slice q (min j (N - k)) c2 ∧ w'.ownsRow w.heap.size 3 1 (.slice q (min j (N - k)) c2) (min j (N - k)) (((L.drop k).take j).map (Value.int .i64))) w) := by
 have hk := hA.blk
 have hm := hA.hm
 have hL := hA.hL
 have hN := hA.hN
 have hf := free_sl (own_sl hA.nums) hA.hfree hA.hm hA.hL
 refine zin 32 Tryz.func39 ?_
 have hB := Below.refl w.heap.size w
 refine zl 17 32 (fun zm zkv V => ∃ (i : Nat) (pq : Option Addr) (cq : Nat), zkv = [(0, .pointer (some ⟨bc, 0, none⟩)), (1, .int .i64 (↑j : Int)), (4, .slice none 0 0), (5, .slice pq i cq), (6, .int .i64 (↑i : Int))] ∧ zm = j - ((↑i : Int)).toNat ∧ Below w.heap.size w V ∧ Blk V bc ([.pointer (some ⟨bm, 0, none⟩), .slice fa m fc, .int .i64 (↑k : Int)]) 47 ∧ V.ownsRow w.heap.size 3 1 (.slice pq i cq) i (((L.drop k).take i).map (Value.int .i64)) ∧ i ≤ min j m) ⟨0, _, _, rfl, rfl, hB, hk, World.ownsRow_nil _ _ _ _, Nat.zero_le _⟩ ?_
 rintro _ _ W1 ⟨i, pq, cq, rfl, rfl, hB_1, k1_bc, hq, hi⟩ J1 hJ1 r1
 refine xg 7 [9, 10] (decide ((↑i : Int) < (↑j : Int))) (fun hc2 => ?_) (fun hc2 => ?_)
 · have hc2 := of_decide_eq_true hc2
   refine xb 4 1 k1_bc ?_
   refine xid 5 ((↑i : Int) < (↑m : Int)) (fun hc3 => ?_) (fun hc3 => ?_)
   · refine xb 9 1 k1_bc ?_
     refine xx 1 _ m i 1 (free_elem hf (by omega) (i := i) (by omega)).1 ?_
     refine xl 0 ((free_elem (hf.below hB_1) (by omega) (i := i) (by omega)).2) ?_
     refine xbs 0 1 [.int .i64 (L.getD (k + i) 0)] 3 fun b4 W4 n4 => ?_
     have r4_hq := own_ne hq n4
     have hq'1 := own_below hq n4.below
     have hB'1 := Bl.next hB_1 n4.below
     refine xbi 0 fun _ _ _ _ zJ zQ zo zx zy zK => op_app (m := 1) (news := [.int .i64 (L.getD (k + i) 0)]) (.int .i64 0) 1 8 (i + 1) (((L.drop k).take (i + 1)).map (Value.int .i64)) zo Tryz.underlying22 (by kernel_rfl) rfl (by decide) zx hq'1 zy (n4.blk.sl 1 1 (by decide) (by decide)) rfl (by simp [Value.oneCell']) (by unfold maxLen; omega) (by omega) hB'1.size (by rfl) (by rw [List.take_succ_eq_append_getElem (by simp; omega), List.map_append]; simp [List.getD, List.getElem?_eq_getElem (show k + i < L.length by omega)]) fun p5 c5 W5 o5 hg5 hb5 => ?_
     refine zK _ _ ?_
     refine xwm 6 ((↑i : Int) + 1) (↑(i + 1) : Int) ?_
     have hB'2 := hB'1.trans hb5
     have k1_bc'1 := (k1_bc.below n4.below).grown hg5 hq'1 (by decide)
     exact ze 2 (hJ1 _ _ _ ⟨i + 1, _, _, rfl, rfl, hB'2, k1_bc'1, o5, by omega⟩ (by omega))
   refine xe 12 (.slice pq i cq) ?_
   have hi2 : i = min j m := by omega
   have e1 : min j (N - k) = i := by omega
   have e2 : (L.drop k).take j = (L.drop k).take i := by
     rcases Nat.le_total j m with q | q
     · rw [hi2, Nat.min_eq_left q]
     · rw [List.take_of_length_le (by simp; omega), List.take_of_length_le (by simp; omega)]
   rw [e1, e2]
   exact ⟨_, rfl, hB_1, _, _, rfl, hq⟩
 have hc2 := of_decide_eq_false hc2
 refine xe 23 (.slice pq i cq) ?_
 have hi2 : i = min j m := by omega
 have e1 : min j (N - k) = i := by omega
 have e2 : (L.drop k).take j = (L.drop k).take i := by
   rcases Nat.le_total j m with q | q
   · rw [hi2, Nat.min_eq_left q]
   · rw [List.take_of_length_le (by simp; omega), List.take_of_length_le (by simp; omega)]
 rw [e1, e2]
 exact ⟨_, rfl, hB_1, _, _, rfl, hq⟩
end Go.Proofs.YtbhjgcokpmiopaaGreatDoor
namespace Go.Proofs.YtbhjgcokpmiopaaGreatDoor
open Go.RowKit Go.Extern.Stop Go.Stop Go.Extern
set_option linter.unusedVariables false
attribute [local irreducible] wpList wpAnyH Code.wp Oper.wp Go

set_option maxRecDepth 100000 in
set_option maxHeartbeats 1000000 in
theorem ref17_Right_o (t : Int) (x : Value) (w : World) (h : ¬ (1 ≤ t ∧ t ≤ 5)) :
    Calls Tryz.prog 68 #[.int .i64 t, x] w (Ret (.bool false) w) := by
 refine zin 63 Tryz.func68 ?_
 refine xr 9 (args := #[.int .i64 t, .bool true]) (ref07_Max_o t true _ h) fun W1 hb1 => ?_
 exact xe 16 (.bool false) ⟨rfl, hb1⟩
set_option maxRecDepth 100000 in
set_option maxHeartbeats 4000000 in
theorem ref17_Right_i (t : Int) (v : Nat) (a : Option Addr) (c : Nat) (l : List Ent) (w : World) (ht1 : 1 ≤ t) (ht2 : t ≤ 5) (hv : widN t true = v) (h : Sts entC w (.slice a l.length c) l) (hn : l.length ≤ 32768) :
    Calls Tryz.prog 68 #[.int .i64 t, .slice a l.length c] w (Ret (.bool (entsB v l)) w) := by
 have hmb := maxN_pos t true
 refine zin 63 Tryz.func68 ?_
 refine xr 9 (args := #[.int .i64 t, .bool true]) (ref07_Max t true _ rfl ht1 ht2 _) fun W1 hb1 => ?_
 refine xgk 2 [8, 9] (show (((↑(maxN t true) : Int) == (0 : Int)) : Bool) = false from by simp; omega) ?_
 refine xk 6 (show (decide ((↑l.length : Int) > (32768 : Int)) : Bool) = false from decide_eq_false (by omega)) ?_
 refine zl 9 63 (fun zm zkv V => ∃ (i : Nat), zkv = [(0, .int .i64 t), (1, .slice a l.length c), (5, .int .i64 (↑i : Int))] ∧ zm = l.length - ((↑i : Int)).toNat ∧ Below w.heap.size w V ∧ i ≤ l.length ∧ (∀ j, j < i → entE v l j)) ⟨0, rfl, rfl, hb1, Nat.zero_le _, ?_⟩ ?_
 · exact fun j hj => absurd hj (by omega)
 rintro _ _ W3 ⟨i, rfl, rfl, hB_3, hi, hz⟩ J3 hJ3 r3
 have hl0 := lastK_ge hz
 have hlp : 0 < i → lastK l i = (l.getD (i - 1) entD).1 := lastK_pos
 have hlz : i = 0 → lastK l i = -1 := lastK_zero
 refine xid 9 ((↑i : Int) < (↑l.length : Int)) (fun hc4 => ?_) (fun hc4 => ?_)
 · refine xd 5 .z ?_
   refine xx (.e [0, 1] 2) _ l.length i 3 (Sts.cell h entC_len entD (k := i) (i := 0) (by omega) rfl).1 ?_
   have hB'1 := Bl.next hB_3 (below_drew W3)
   refine xl (.e [3] 4) ((Sts.cell (h.below hB'1) entC_len entD (k := i) (i := 0) (by omega) rfl).2) ?_
   refine xg (.b [5, 6]) [25, 26] (decide ((l.getD i entD).1 < (0 : Int))) (fun hc5 => ?_) (fun hc5 => ?_)
   · have hc5 := of_decide_eq_true hc5
     exact xe (.r [7, 8, 9, 10, 11, 12, 13, 14, 15, 16, 17, 18, 19, 20, 21, 22, 23, 24, 25, 26, 27, 28, 29, 30, 31, 32, 33, 34, 35, 36, 37, 38, 39, 40, 41, 42] 14) (.bool false) ⟨by rw [entsB_false (i := i) (by omega) (fun hz9 => by unfold entE at hz9; omega)], hB'1⟩
   have hc5 := of_decide_eq_false hc5
   refine xx (.e [7, 8] 9) _ l.length i 3 (Sts.cell h entC_len entD (k := i) (i := 0) (by omega) rfl).1 ?_
   refine xl (.e [10] 11) ((Sts.cell (h.below hB'1) entC_len entD (k := i) (i := 0) (by omega) rfl).2) ?_
   refine xg (.b [12, 13, 14]) [32, 33, 34] (decide ((l.getD i entD).1 > (281474976710655 : Int))) (fun hc6 => ?_) (fun hc6 => ?_)
   · have hc6 := of_decide_eq_true hc6
     exact xe (.r [15, 16, 17, 18, 19, 20, 21, 22, 23, 24, 25, 26, 27, 28, 29, 30, 31, 32, 33, 34, 35, 36, 37, 38, 39, 40, 41, 42] 14) (.bool false) ⟨by rw [entsB_false (i := i) (by omega) (fun hz9 => by unfold entE at hz9; omega)], hB'1⟩
   have hc6 := of_decide_eq_false hc6
   refine xg (.b [15, 16, 17]) [36, 37] (decide ((↑i : Int) > (0 : Int))) (fun hc7 => ?_) (fun hc7 => ?_)
   · have hc7 := of_decide_eq_true hc7
     refine xx (.e [18, 19] 20) _ l.length i 3 (Sts.cell h entC_len entD (k := i) (i := 0) (by omega) rfl).1 ?_
     refine xl (.e [21] 22) ((Sts.cell (h.below hB'1) entC_len entD (k := i) (i := 0) (by omega) rfl).2) ?_
     refine xwm (.e [23, 24] 25) ((↑i : Int) - 1) (↑(i - 1) : Int) ?_
     refine xx (.e [] 26) _ l.length (i - 1) 3 (Sts.cell h entC_len entD (k := (i - 1)) (i := 0) (by omega) rfl).1 ?_
     refine xl (.e [27] 28) ((Sts.cell (h.below hB'1) entC_len entD (k := (i - 1)) (i := 0) (by omega) rfl).2) ?_
     refine xg (.b [29, 30, 31, 32]) [49, 50, 51, 52] (decide ((l.getD i entD).1 ≤ (l.getD (i - 1) entD).1)) (fun hc8 => ?_) (fun hc8 => ?_)
     · have hc8 := of_decide_eq_true hc8
       exact xe (.r [33, 34, 35, 36, 37, 38, 39, 40, 41, 42] 14) (.bool false) ⟨by rw [entsB_false (i := i) (by omega) (fun hz9 => by unfold entE at hz9; omega)], hB'1⟩
     have hc8 := of_decide_eq_false hc8
     refine xx (.e [33, 34] 35) _ l.length i 3 (Sts.cell h entC_len entD (k := i) (i := 0) (by omega) rfl).1 ?_
     refine xl (.e [36] 37) ((Sts.cell (h.below hB'1) entC_len entD (k := i) (i := 1) (by omega) rfl).2) ?_
     refine xr (.o [38, 39] 40) (args := #[.int .i64 t, .bool true]) (ref07_Width t true v hv ht1 ht2 _) fun W9 hb9 => ?_
     refine xin (.r [41, 42] 2) (↑((l.getD i entD).2.1).length : Int) (↑v : Int) (fun hc10 => ?_) (fun hc10 => ?_)
     · have hB'2 := Bl.next hB'1 hb9
       exact xe 11 (.bool false) ⟨by rw [entsB_false (i := i) (by omega) (fun hz9 => by unfold entE at hz9; omega)], hB'2⟩
     refine xwm 5 ((↑i : Int) + 1) (↑(i + 1) : Int) ?_
     have hB'3 := Bl.next hB'1 hb9
     exact ze 2 (hJ3 _ _ _ ⟨i + 1, rfl, rfl, hB'3, by omega, fun j hj => (Nat.lt_or_ge j i).elim (hz j) (fun q => by obtain rfl : j = i := (by omega); unfold entE; omega)⟩ (by omega))
   have hc7 := of_decide_eq_false hc7
   refine xx (.e [18, 19, 20, 21, 22, 23, 24, 25, 26, 27, 28, 29, 30, 31, 32, 33, 34] 35) _ l.length i 3 (Sts.cell h entC_len entD (k := i) (i := 0) (by omega) rfl).1 ?_
   refine xl (.e [36] 37) ((Sts.cell (h.below hB'1) entC_len entD (k := i) (i := 1) (by omega) rfl).2) ?_
   refine xr (.o [38, 39] 40) (args := #[.int .i64 t, .bool true]) (ref07_Width t true v hv ht1 ht2 _) fun W11 hb11 => ?_
   refine xin (.r [41, 42] 2) (↑((l.getD i entD).2.1).length : Int) (↑v : Int) (fun hc12 => ?_) (fun hc12 => ?_)
   · have hB'4 := Bl.next hB'1 hb11
     exact xe 11 (.bool false) ⟨by rw [entsB_false (i := i) (by omega) (fun hz9 => by unfold entE at hz9; omega)], hB'4⟩
   refine xwm 5 ((↑i : Int) + 1) (↑(i + 1) : Int) ?_
   have hB'5 := Bl.next hB'1 hb11
   exact ze 2 (hJ3 _ _ _ ⟨i + 1, rfl, rfl, hB'5, by omega, fun j hj => (Nat.lt_or_ge j i).elim (hz j) (fun q => by obtain rfl : j = i := (by omega); unfold entE; omega)⟩ (by omega))
 exact xe 11 (.bool true) ⟨by rw [entsB_true (fun j hj => hz j (by omega))], hB_3⟩
theorem ref17_Right (t : Int) (a : Option Addr) (c : Nat) (l : List Ent) (w : World) (h : Sts entC w (.slice a l.length c) l) (hn : l.length ≤ 32768) :
    Calls Tryz.prog 68 #[.int .i64 t, .slice a l.length c] w (Ret (.bool (decide (1 ≤ t ∧ t ≤ 5 ∧ entsB (widN t true) l = true))) w) := by
  by_cases ht : 1 ≤ t ∧ t ≤ 5
  · rw [show decide (1 ≤ t ∧ t ≤ 5 ∧ entsB (widN t true) l = true) = entsB (widN t true) l by simp [ht.1, ht.2]]
    exact ref17_Right_i t _ a c l w ht.1 ht.2 rfl h hn
  · rw [show decide (1 ≤ t ∧ t ≤ 5 ∧ entsB (widN t true) l = true) = false from decide_eq_false fun h => ht ⟨h.1, h.2.1⟩]
    exact ref17_Right_o t _ w ht
/-- a node laid by the document's allocator -/
def RLaidQ (B bc bm : Nat) (pg : Option Addr) (N cg f k : Nat) (p : Option Addr) (K c : Nat) (l : List UInt8) (li : List UInt8) (q : Nat) (w : World) (e : Ending) (w' : World) : Prop :=
  ∃ a c2 fa m fc, e = .returned (.tuple #[.int .i64 (q : Int), .agg #[.slice a 0 c2, .int .i64 0]]) ∧ Below B w w' ∧ Only [47, 9] w w' ∧ RAl B bc bm pg N cg fa m fc (k + 1) (rngJ f N) w' ∧ RefI B bm p K c (putB l (q * 256) (sealB 2 (q : Int) li)) w'
theorem ref_LayQ (B bc bm : Nat) (pg : Option Addr) (N cg : Nat) (fa : Option Addr) (m fc f k : Nat) (p : Option Addr) (K c : Nat) (l : List UInt8) (a : Option Addr) (ci n' : Nat) (li : List UInt8) (q : Nat) (w : World) (hq : f + k = q) (hn' : li.length = n') (hl : n' ≤ 244) (hkN : k < N) (hf : f + N ≤ K) (hA : RAl B bc bm pg N cg fa m fc k (rngJ f N) w) (hI : RefI B bm p K c l w) (hin : ∀ W, Below B w W → Only [47, 9] w W → Bys W (.slice a n' ci) li) (hBw : B ≤ w.heap.size) :
    Calls Tryz.prog 43 #[.pointer (some ⟨bc, 0, none⟩), .int .i64 2, .slice a n' ci] w (RLaidQ B bc bm pg N cg f k p K c l li q w) := by
  subst hq hn'
  have hK := hI.hk
  have hL : (rngJ f N).getD k 0 = ((f + k : Nat) : Int) := rngJ_get hkN
  have hs : sealE 2 ((f + k : Nat) : Int) li = 0 := by
    unfold sealE
    rw [if_pos (show knownB 2 ((f + k : Nat) : Int) = true from decide_eq_true (by omega)), if_pos hl]
  have hw : wrE 2 ((rngJ f N).getD k 0) K li = 0 := by
    rw [hL]; unfold wrE; rw [if_pos hs, if_pos (by omega)]
  refine (ref_Lay B bc bm pg N cg fa m fc k (rngJ f N) p K c l 2 a ci li w hA hI hin hBw).mono ?_
  rintro e W ⟨a2, c2, fa2, m2, fc2, rfl, hb, hO, hA2, hI2, h5⟩
  have e1 : lyV k N K (rngJ f N) 2 li = ((f + k : Nat) : Int) := by rw [lyV, if_pos ⟨hkN, hw⟩, hL]
  have e2 : lyE k N K (rngJ f N) 2 li = 0 := by rw [lyE, if_pos hkN, hw]
  have e3 : lyB k N K (rngJ f N) 2 li = [] := by rw [lyB, if_pos hkN, hw]; rfl
  have e4 : lyK k N K (rngJ f N) 2 li = k + 1 := by rw [lyK, if_pos ⟨hkN, hw⟩]
  have e5 : lyL k N K (rngJ f N) 2 li l = putB l ((f + k) * 256) (sealB 2 ((f + k : Nat) : Int) li) := by rw [lyL, if_pos hkN, wrL, if_pos hw, hL]; rfl
  rw [e4] at hA2
  rw [e5] at hI2
  exact ⟨a2, c2, fa2, m2, fc2, by rw [e1, e2, e3]; rfl, hb, hO, hA2, hI2⟩
/-- the levels from one on -/
def treeL (t : Int) (leaf : Bool) (m v : Nat) (l : List Ent) (q : Nat) (bs : List UInt8) : Int × List UInt8 := treeUp t (upE l m q (ovN l.length m)) (q + ovN l.length m) (levB t leaf m v l q bs (ovN l.length m))
theorem from_lt {n m i : Nat} (hm : 1 ≤ m) (h : i * m < n ∨ i = 0) : i < ovN n m := by
  have hp := ovN_pos n m
  rcases h with h | h
  · unfold ovN
    have : i < (n + m - 1) / m := by
      rw [Nat.lt_div_iff_mul_lt (by omega)]; omega
    omega
  · omega
theorem from_end {n m i : Nat} (hm : 1 ≤ m) (hi : i ≤ ovN n m) (h : ¬ i * m < n) (h0 : i * m ≠ 0) : i = ovN n m := by
  rcases Nat.lt_or_ge i (ovN n m) with q | q
  · rcases Nat.eq_zero_or_pos n with hn | hn
    · subst hn
      rw [ovN_small hm (Nat.zero_le _)] at q
      obtain rfl : i = 0 := by omega
      simp at h0
    · exact absurd (siz_lt hm hn q) h
  · omega
def RTreeP (B bc bm : Nat) (pg : Option Addr) (N cg f k0 : Nat) (p : Option Addr) (K c : Nat) (bs : List UInt8) (t : Int) (l : List Ent) (w : World) (e : Ending) (w' : World) : Prop :=
  ∃ fa m fc, e = .returned (.tuple #[.int .i64 (treeB t l (f + k0) bs).1, .agg #[.slice none 0 0, .int .i64 0]]) ∧ Below B w w' ∧ Only [47, 9] w w' ∧ RAl B bc bm pg N cg fa m fc (k0 + nodN t l.length) (rngJ f N) w' ∧ RefI B bm p K c (treeB t l (f + k0) bs).2 w'
set_option maxRecDepth 100000 in
set_option maxHeartbeats 1000000 in
theorem ref17_Tree_w (B bc bm : Nat) (pg : Option Addr) (N cg : Nat) (fa : Option Addr) (mf fc f k0 : Nat) (p : Option Addr) (K cI : Nat) (bs : List UInt8) (t : Int) (a : Option Addr) (c : Nat) (l : List Ent) (w : World) (hR : RAl B bc bm pg N cg fa mf fc k0 (rngJ f N) w) (hn : l.length ≤ 32768) (h : Sts entC w (.slice a l.length c) l) (hr : ¬ (1 ≤ t ∧ t ≤ 5 ∧ entsB (widN t true) l = true)) :
    Calls Tryz.prog 40 #[.pointer (some ⟨bc, 0, none⟩), .int .i64 t, .slice a l.length c] w (Ret (.tuple #[.int .i64 0, .agg #[.slice none 0 0, .int .i64 1]]) w) := by
 refine zin 128 Tryz.func40 ?_
 refine xa 3 [.slice none 0 0, .int .i64 0] 31 fun b1 W1 n1 => ?_
 refine xr 7 (args := #[.int .i64 t, .slice a l.length c]) (ref17_Right t a c l _ (h.below n1.below) hn) fun W2 hb2 => ?_
 refine xk 3 (show (!(decide (1 ≤ t ∧ t ≤ 5 ∧ entsB (widN t true) l = true)) : Bool) = true from by rw [decide_eq_false hr]; rfl) ?_
 have k1 := n1.blk.below hb2
 refine xsv 4 k1 [.slice none 0 0, .int .i64 1] fun W3 u3 k3 => ?_
 have g1 := n1.ge (Below.refl w.heap.size _)
 have hB'1 := u3.below (Bl.next n1.below hb2) g1
 exact xec 4 k3 (.tuple #[.int .i64 0, .agg #[.slice none 0 0, .int .i64 1]]) ⟨rfl, hB'1⟩
set_option maxRecDepth 100000 in
set_option maxHeartbeats 1000000 in
theorem ref17_Tree_n (B bc bm : Nat) (pg : Option Addr) (N cg : Nat) (fa : Option Addr) (mf fc f k0 : Nat) (p : Option Addr) (K cI : Nat) (bs : List UInt8) (t : Int) (a : Option Addr) (c : Nat) (l : List Ent) (w : World) (hR : RAl B bc bm pg N cg fa mf fc k0 (rngJ f N) w) (hn : l.length ≤ 32768) (h : Sts entC w (.slice a l.length c) l) (hr : 1 ≤ t ∧ t ≤ 5 ∧ entsB (widN t true) l = true) (hs : N - k0 < nodN t l.length) :
    Calls Tryz.prog 40 #[.pointer (some ⟨bc, 0, none⟩), .int .i64 t, .slice a l.length c] w (Ret (.tuple #[.int .i64 0, .agg #[.slice none 0 0, .int .i64 14]]) w) := by
 have ht1 := hr.1
 have ht2 := hr.2.1
 have hRm := hR.hm
 refine zin 128 Tryz.func40 ?_
 refine xa 3 [.slice none 0 0, .int .i64 0] 31 fun b1 W1 n1 => ?_
 refine xr 7 (args := #[.int .i64 t, .slice a l.length c]) (ref17_Right t a c l _ (h.below n1.below) hn) fun W2 hb2 => ?_
 refine xk 3 (show (!(decide (1 ≤ t ∧ t ≤ 5 ∧ entsB (widN t true) l = true)) : Bool) = false from by rw [decide_eq_true hr]; rfl) ?_
 refine xd 4 .z ?_
 have hR'1 := ((hR.below n1.below).below hb2).below (below_drew W2)
 refine xl (.e [0, 1, 2] 3) (hR'1.blk.cell (i := 1) rfl) ?_
 refine xr (.o [4, 5, 6, 7] 8) (args := #[.int .i64 t, .int .i64 (↑l.length : Int)]) (ref15_Nodes t l.length _ ht1 ht2 hn) fun W3 hb3 => ?_
 refine xk (.r [9] 2) (show (decide ((↑mf : Int) < (↑(nodN t l.length) : Int)) : Bool) = true from decide_eq_true (by omega)) ?_
 have k1 := ((n1.blk.below hb2).below (below_drew W2)).below hb3
 refine xsv 4 k1 [.slice none 0 0, .int .i64 14] fun W4 u4 k4 => ?_
 have g1 := n1.ge (Below.refl w.heap.size _)
 have hB'1 := u4.below (Bl.next (Bl.next (Bl.next n1.below hb2) (below_drew W2)) hb3) g1
 exact xec 4 k4 (.tuple #[.int .i64 0, .agg #[.slice none 0 0, .int .i64 14]]) ⟨rfl, hB'1⟩
theorem up_at {w : World} {p : Option Addr} {i c m q : Nat} {u : List Ent} (h : Sl w (.slice p i c) i ((upE u m q i).flatMap entC)) (hi : 0 < i) : p.isSome = true ∧ w.cell? ((elemAddr p (0 * 3)).add 2) = some (.int .i64 (upX u m q 0).2.2) := by
  have h2 : Sts entC w (.slice p (upE u m q i).length c) (upE u m q i) := by unfold Sts; rw [upE_len]; exact h
  have := Sts.cell h2 entC_len entD (k := 0) (i := 2) (by rw [upE_len]; exact hi) rfl
  rw [upE_get hi] at this
  exact this
set_option maxRecDepth 100000 in
set_option maxHeartbeats 8000000 in
theorem ref17_Tree_y (B bc bm : Nat) (pg : Option Addr) (N cg : Nat) (fa : Option Addr) (mf fc f k0 : Nat) (p : Option Addr) (K cI : Nat) (bs : List UInt8) (t : Int) (a : Option Addr) (c : Nat) (l : List Ent) (w : World) (hR : RAl B bc bm pg N cg fa mf fc k0 (rngJ f N) w) (hn : l.length ≤ 32768) (hr : 1 ≤ t ∧ t ≤ 5 ∧ entsB (widN t true) l = true) (hs : k0 + nodN t l.length ≤ N) (hf : f + N ≤ K) (hJ : RefI B bm p K cI bs w) (hin : ∀ W, Below B w W → Only [47, 9] w W → Sts entC W (.slice a l.length c) l) (hBw : B ≤ w.heap.size) :
    Calls Tryz.prog 40 #[.pointer (some ⟨bc, 0, none⟩), .int .i64 t, .slice a l.length c] w (RTreeP B bc bm pg N cg f k0 p K cI bs t l w) := by
 have ht1 := hr.1
 have ht2 := hr.2.1
 have hRm := hR.hm
 have hKb := hJ.hk
 have hN := hR.hN
 refine zin 128 Tryz.func40 ?_
 refine xa 3 [.slice none 0 0, .int .i64 0] 31 fun b1 W1 n1 => ?_
 have hB := Bl.nextB (Below.refl B w) hBw n1.below
 have hO := (show Only [47, 9] w _ from (Only.of_below n1.below))
 refine xr 7 (args := #[.int .i64 t, .slice a l.length c]) (ref17_Right t a c l _ (hin _ hB hO) hn) fun W2 hb2 => ?_
 refine xk 3 (show (!(decide (1 ≤ t ∧ t ≤ 5 ∧ entsB (widN t true) l = true)) : Bool) = false from by rw [decide_eq_true hr]; rfl) ?_
 refine xd 4 .z ?_
 have hR'1 := ((hR.below n1.below).below hb2).below (below_drew W2)
 refine xl (.e [0, 1, 2] 3) (hR'1.blk.cell (i := 1) rfl) ?_
 refine xr (.o [4, 5, 6, 7] 8) (args := #[.int .i64 t, .int .i64 (↑l.length : Int)]) (ref15_Nodes t l.length _ ht1 ht2 hn) fun W3 hb3 => ?_
 refine xk (.r [9] 2) (show (decide ((↑mf : Int) < (↑(nodN t l.length) : Int)) : Bool) = false from decide_eq_false (by omega)) ?_
 have hR'2 := hR'1.below hb3
 have hJ'1 := (((hJ.below n1.below).below hb2).below (below_drew W2)).below hb3
 have hB'1 := Bl.nextB (Bl.nextB (Bl.nextB hB hBw hb2) hBw (below_drew W2)) hBw hb3
 have hO'1 := ((hO.trans (Only.of_below hb2)).trans (Only.of_below (below_drew W2))).trans (Only.of_below hb3)
 have k1 := ((n1.blk.below hb2).below (below_drew W2)).below hb3
 refine zl 8 128 (fun zm zkv V => ∃ (u : List Ent) (k m v : Nat) (leaf : Bool) (b2 : List UInt8) (a2 : Option Addr) (c2 : Nat), zkv = [(0, .pointer (some ⟨bc, 0, none⟩)), (1, .int .i64 t), (2, .slice a2 u.length c2), (7, .pointer (some ⟨b1, 0, none⟩)), (8, .bool leaf)] ∧ zm = (if leaf = true then 40000 else u.length) ∧ Below B w V ∧ Only [47, 9] w V ∧ Blk V b1 ([.slice none 0 0, .int .i64 0]) 31 ∧ (∃ fa mf fc, RAl B bc bm pg N cg fa mf fc k (rngJ f N) V) ∧ RefI B bm p K cI b2 V ∧ (∀ W, Below B V W → Only [47, 9] V W → Sts entC W (.slice a2 u.length c2) u) ∧ maxN t leaf = m ∧ widN t leaf = v ∧ EntsOk v u ∧ k + (levs (ovN u.length m)).sum = k0 + nodN t l.length ∧ (leaf = false → 2 ≤ u.length) ∧ u.length ≤ 32768 ∧ treeL t leaf m v u (f + k) b2 = treeB t l (f + k0) bs) ⟨l, k0, (maxN t true), (widN t true), true, bs, a, c, rfl, rfl, hB'1, hO'1, k1, ⟨_, _, _, hR'2⟩, hJ'1, ?_, rfl, rfl, entsB_ok hr.2.2, rfl, (fun h => by cases h), hn, rfl⟩ ?_
 · exact fun W h1 h2 => hin W (hB'1.trans h1) (Only.trans (by first | exact hO'1 | exact Only.refl _ _) h2)
 rintro _ _ W4 ⟨u, k, m, v, leaf, b2, a2, c2, rfl, rfl, hB_4, hO_4, k4_b1, hRx, hJ, hen, hm, hv, hE, hk, hlu, hun, htr⟩ J4 hJ4 r4
 have hs_r4 : B ≤ W4.heap.size := Nat.le_trans hBw hB_4.size
 obtain ⟨fa, mf, fc, hR⟩ := hRx
 have hmb := maxN_pos t leaf
 rw [hm] at hmb
 have hlg := levs_ge (ovN u.length m)
 have hov := ovN_le u.length m hmb.1
 have hop := ovN_pos u.length m
 refine xr 15 (args := #[.int .i64 t, .bool leaf]) (ref07_Max t leaf m hm ht1 ht2 _) fun W5 hb5 => ?_
 refine xv1 5 10 (show (.int .i64 0 : Value) = .int .i64 (↑(0 * m) : Int) from by rw [Nat.zero_mul]; rfl) ?_
 have hR'3 := hR.below hb5
 have hJ'2 := hJ.below hb5
 have hB := Bl.nextB (Below.refl B W4) hs_r4 hb5
 have hO := (show Only [47, 9] W4 _ from (Only.of_below hb5))
 have k4_b1'1 := k4_b1.below hb5
 refine zl 0 128 (fun zm zkv V => ∃ (i : Nat) (p4 : Option Addr) (c4 : Nat) (fa : Option Addr) (mf fc : Nat), zkv = [(0, .pointer (some ⟨bc, 0, none⟩)), (1, .int .i64 t), (2, .slice a2 u.length c2), (7, .pointer (some ⟨b1, 0, none⟩)), (8, .bool leaf), (9, .slice p4 i c4), (10, .int .i64 (↑(i * m) : Int)), (11, .int .i64 (↑m : Int))] ∧ zm = (ovN u.length m) - i ∧ Below B W4 V ∧ Only [47, 9] W4 V ∧ Blk V b1 ([.slice none 0 0, .int .i64 0]) 31 ∧ V.ownsRow W4.heap.size 99 3 (.slice p4 i c4) i ((upE u m (f + k) i).flatMap entC) ∧ RAl B bc bm pg N cg fa mf fc (k + i) (rngJ f N) V ∧ RefI B bm p K cI (levB t leaf m v u (f + k) b2 i) V ∧ i ≤ (ovN u.length m)) ⟨0, none, 0, fa, mf, fc, rfl, rfl, hB, hO, k4_b1'1, World.ownsRow_nil _ _ _ _, hR'3, hJ'2, Nat.zero_le _⟩ ?_
 rintro _ _ W6 ⟨i, p4, c4, fa, mf, fc, rfl, rfl, hB_6, hO_6, k6_b1, hup, hR, hJ, hi⟩ J6 hJ6 r6
 have hlt : (i * m < u.length ∨ i = 0) → i < (ovN u.length m) := from_lt hmb.1
 have him : i * m = 0 → i = 0 := fun h => (Nat.mul_eq_zero.1 h).elim id (fun h => by omega)
 refine xg 8 [41, 42] (decide ((↑(i * m) : Int) < (↑u.length : Int))) (fun hc7 => ?_) (fun hc7 => ?_)
 · have hc7 := of_decide_eq_true hc7
   have hF8 := hB_6
   have hOhF8 := hO_6
   refine xa 14 [.int .i64 0, .bool false, .slice none 0 0, .slice none 0 0] 131 fun b9 W9 n9 => ?_
   refine xsv 0 n9.blk [.int .i64 t, .bool leaf, .slice none 0 0, .slice none 0 0] fun W10 u10 k10 => ?_
   have g9 := n9.ge (Below.refl W6.heap.size _)
   have hB := u10.below n9.below g9
   refine zl 10 128 (fun zm zkv V => ∃ (j : Nat) (kp : Option Addr) (kc : Nat) (vp : Option Addr) (vc : Nat), zkv = [(0, .pointer (some ⟨bc, 0, none⟩)), (1, .int .i64 t), (2, .slice a2 u.length c2), (7, .pointer (some ⟨b1, 0, none⟩)), (8, .bool leaf), (9, .slice p4 i c4), (10, .int .i64 (↑(i * m) : Int)), (11, .int .i64 (↑m : Int)), (12, .pointer (some ⟨b9, 0, none⟩)), (13, .int .i64 (↑(i * m + j) : Int))] ∧ zm = m - j ∧ Below W6.heap.size W6 V ∧ Blk V b9 ([.int .i64 t, .bool leaf, .slice kp j kc, .slice vp j vc]) 131 ∧ V.ownsRow W6.heap.size 3 1 (.slice kp j kc) j (((keysE (chunkE u m i)).take j).map (Value.int .i64)) ∧ V.ownsRow W6.heap.size 9 1 (.slice vp j vc) j (((valsE (chunkE u m i)).take j).map sv) ∧ j ≤ sizN u.length m i) ⟨0, none, 0, none, 0, rfl, rfl, hB, k10, World.ownsRow_nil _ _ _ _, World.ownsRow_nil _ _ _ _, Nat.zero_le _⟩ ?_
   rintro _ _ W11 ⟨j, kp, kc, vp, vc, rfl, rfl, hB_11, k11_b9, hK, hV, hj⟩ J11 hJ11 r11
   have hsz : sizN u.length m i = min m (u.length - i * m) := rfl
   have hcl0 := chunk_len u m i
   have hcg : j < sizN u.length m i → (chunkE u m i).getD j entD = u.getD (i * m + j) entD := chunk_get
   refine xg 8 [53, 54] (decide ((↑(i * m + j) : Int) < (↑u.length : Int))) (fun hc12 => ?_) (fun hc12 => ?_)
   · have hc12 := of_decide_eq_true hc12
     refine xwm 3 ((↑(i * m) : Int) + (↑m : Int)) (↑((i * m) + m) : Int) ?_
     refine xid 4 ((↑(i * m + j) : Int) < (↑((i * m) + m) : Int)) (fun hc13 => ?_) (fun hc13 => ?_)
     · refine xd 5 (.t W6.heap.size [3, 131]) ?_
       have hen_hF8 := hen _ hF8 hOhF8
       refine xx (.e [0, 2, 3] 4) _ u.length (i * m + j) 3 (Sts.cell hen_hF8 entC_len entD (k := (i * m + j)) (i := 0) (by omega) rfl).1 ?_
       have hV'1 := own_below hV (below_drew W11)
       have hB'2 := Bl.next hB_11 (below_drew W11)
       refine xlt (.e [5] 6) (.t W6.heap.size [3, 131]) (fun V hV'1 => (Sts.cell (hen_hF8.below (sft_keep hB'2 hV'1 (Nat.le_refl _))) entC_len entD (k := (i * m + j)) (i := 0) (by omega) rfl).2) ?_
       refine xm2 0 1 7 ?_ ?_
       · have k11_b9'1 := k11_b9.below (below_drew W11)
         refine xb 0 2 k11_b9'1 ?_
         refine xbs (.o [] 7) 1 [.int .i64 ((u.getD (i * m + j) entD).1)] 3 fun b14 W14 n14 => ?_
         have hK'1 := own_below hK (below_drew W11)
         have r14_hK := own_ne hK'1 n14
         have hK'2 := own_below hK'1 n14.below
         have hB'3 := Bl.next hB'2 n14.below
         refine ybi (.o [] 8) (.t W6.heap.size [3, 131]) fun _ _ _ _ zJ zQ zo zx zy zK => op_app (m := 1) (news := [.int .i64 ((u.getD (i * m + j) entD).1)]) (.int .i64 0) 1 8 (j + 1) (((keysE (chunkE u m i)).take (j + 1)).map (Value.int .i64)) zo Tryz.underlying22 (by kernel_rfl) rfl (by decide) zx hK'2 zy (n14.blk.sl 1 1 (by decide) (by decide)) rfl (by simp [Value.oneCell']) (by unfold maxLen; omega) (by omega) hB'3.size (by rfl) (by rw [keys_take (by omega), hcg (by omega)]) fun p15 c15 W15 o15 hg15 hb15 => ?_
         refine zK _ _ (sft_grown hb15 hg15 hK'2 (by decide)) ?_
         have k11_b9'2 := (k11_b9'1.below n14.below).grown hg15 hK'2 (by decide)
         refine ys (.o [9] 10) k11_b9'2 [.int .i64 t, .bool leaf, .slice p15 (j + 1) c15, .slice vp j vc] (.t W6.heap.size [3, 131]) fun W16 u16 k16 => ⟨(sft_upd u16 k11_b9'2 g9 (by decide)), ?_⟩
         refine xd 2 (.t W6.heap.size [9, 131]) ?_
         refine xx (.e [0, 2, 3] 4) _ u.length (i * m + j) 3 (Sts.cell hen_hF8 entC_len entD (k := (i * m + j)) (i := 0) (by omega) rfl).1 ?_
         have hV'2 := own_below (u16.own2 (own_grown (own_below hV'1 n14.below) hg15 hK'2 (by decide)) k11_b9'2 (by decide)) (below_drew W16)
         have hB'4 := Bl.next (u16.below (hB'3.trans hb15) g9) (below_drew W16)
         refine xlt (.e [5] 6) (.t W6.heap.size [9, 131]) (fun V hV'2 => (Sts.cell (hen_hF8.below (sft_keep hB'4 hV'2 (Nat.le_refl _))) entC_len entD (k := (i * m + j)) (i := 1) (by omega) rfl).2) ?_
         refine xm2 0 1 7 ?_ ?_
         · have k16'1 := k16.below (below_drew W16)
           refine xb 0 3 k16'1 ?_
           refine xbs (.o [] 7) 1 [.string ⟨((u.getD (i * m + j) entD).2.1).toArray⟩] 9 fun b17 W17 n17 => ?_
           have r17_hV := own_ne hV'2 n17
           have hV'3 := own_below hV'2 n17.below
           have hB'5 := Bl.next hB'4 n17.below
           refine ybi (.o [] 8) (.t W6.heap.size [9, 131]) fun _ _ _ _ zJ zQ zo zx zy zK => op_app (m := 1) (news := [.string ⟨((u.getD (i * m + j) entD).2.1).toArray⟩]) (.string ⟨#[]⟩) 1 16 (j + 1) (((valsE (chunkE u m i)).take (j + 1)).map sv) zo Tryz.underlying55 (by kernel_rfl) rfl (by decide) zx hV'3 zy (n17.blk.sl 1 1 (by decide) (by decide)) rfl (by simp [Value.oneCell']) (by unfold maxLen; omega) (by omega) hB'5.size (by rfl) (by rw [vals_take (by omega), hcg (by omega)]) fun p18 c18 W18 o18 hg18 hb18 => ?_
           refine zK _ _ (sft_grown hb18 hg18 hV'3 (by decide)) ?_
           have k16'2 := (k16'1.below n17.below).grown hg18 hV'3 (by decide)
           refine ys (.o [9] 10) k16'2 [.int .i64 t, .bool leaf, .slice p15 (j + 1) c15, .slice p18 (j + 1) c18] (.t W6.heap.size [9, 131]) fun W19 u19 k19 => ⟨(sft_upd u19 k16'2 g9 (by decide)), ?_⟩
           refine xwm 5 ((↑(i * m + j) : Int) + 1) (↑((i * m + j) + 1) : Int) ?_
           have hB'6 := u19.below (hB'5.trans hb18) g9
           have o15'1 := u19.own2 (own_grown (own_below (own_below (u16.own2 o15 k11_b9'2 (by decide)) (below_drew W16)) n17.below) hg18 hV'3 (by decide)) k16'2 (by decide)
           have o18'1 := u19.own2 o18 k16'2 (by decide)
           exact ze 2 (hJ11 _ _ _ ⟨j + 1, _, _, _, _, rfl, rfl, hB'6, k19, o15'1, o18'1, by omega⟩ (by omega))
         refine xbs 0 1 [.string ⟨((u.getD (i * m + j) entD).2.1).toArray⟩] 9 fun b20 W20 n20 => ?_
         have r20_hV := own_ne hV'2 n20
         have k16'3 := (k16.below (below_drew W16)).below n20.below
         refine xb (.o [] 1) 3 k16'3 ?_
         have hV'4 := own_below hV'2 n20.below
         have hB'7 := Bl.next hB'4 n20.below
         refine ybi (.o [] 8) (.t W6.heap.size [9, 131]) fun _ _ _ _ zJ zQ zo zx zy zK => op_app (m := 1) (news := [.string ⟨((u.getD (i * m + j) entD).2.1).toArray⟩]) (.string ⟨#[]⟩) 1 16 (j + 1) (((valsE (chunkE u m i)).take (j + 1)).map sv) zo Tryz.underlying55 (by kernel_rfl) rfl (by decide) zx hV'4 zy (n20.blk.sl 1 1 (by decide) (by decide)) rfl (by simp [Value.oneCell']) (by unfold maxLen; omega) (by omega) hB'7.size (by rfl) (by rw [vals_take (by omega), hcg (by omega)]) fun p21 c21 W21 o21 hg21 hb21 => ?_
         refine zK _ _ (sft_grown hb21 hg21 hV'4 (by decide)) ?_
         have k16'4 := k16'3.grown hg21 hV'4 (by decide)
         refine ys (.o [9] 10) k16'4 [.int .i64 t, .bool leaf, .slice p15 (j + 1) c15, .slice p21 (j + 1) c21] (.t W6.heap.size [9, 131]) fun W22 u22 k22 => ⟨(sft_upd u22 k16'4 g9 (by decide)), ?_⟩
         refine xwm 5 ((↑(i * m + j) : Int) + 1) (↑((i * m + j) + 1) : Int) ?_
         have hB'8 := u22.below (hB'7.trans hb21) g9
         have o15'2 := u22.own2 (own_grown (own_below (own_below (u16.own2 o15 k11_b9'2 (by decide)) (below_drew W16)) n20.below) hg21 hV'4 (by decide)) k16'4 (by decide)
         have o21'1 := u22.own2 o21 k16'4 (by decide)
         exact ze 2 (hJ11 _ _ _ ⟨j + 1, _, _, _, _, rfl, rfl, hB'8, k22, o15'2, o21'1, by omega⟩ (by omega))
       refine xbs 0 1 [.int .i64 ((u.getD (i * m + j) entD).1)] 3 fun b23 W23 n23 => ?_
       have hK'3 := own_below hK (below_drew W11)
       have r23_hK := own_ne hK'3 n23
       have k11_b9'3 := (k11_b9.below (below_drew W11)).below n23.below
       refine xb (.o [] 1) 2 k11_b9'3 ?_
       have hK'4 := own_below hK'3 n23.below
       have hB'9 := Bl.next hB'2 n23.below
       refine ybi (.o [] 8) (.t W6.heap.size [3, 131]) fun _ _ _ _ zJ zQ zo zx zy zK => op_app (m := 1) (news := [.int .i64 ((u.getD (i * m + j) entD).1)]) (.int .i64 0) 1 8 (j + 1) (((keysE (chunkE u m i)).take (j + 1)).map (Value.int .i64)) zo Tryz.underlying22 (by kernel_rfl) rfl (by decide) zx hK'4 zy (n23.blk.sl 1 1 (by decide) (by decide)) rfl (by simp [Value.oneCell']) (by unfold maxLen; omega) (by omega) hB'9.size (by rfl) (by rw [keys_take (by omega), hcg (by omega)]) fun p24 c24 W24 o24 hg24 hb24 => ?_
       refine zK _ _ (sft_grown hb24 hg24 hK'4 (by decide)) ?_
       have k11_b9'4 := k11_b9'3.grown hg24 hK'4 (by decide)
       refine ys (.o [9] 10) k11_b9'4 [.int .i64 t, .bool leaf, .slice p24 (j + 1) c24, .slice vp j vc] (.t W6.heap.size [3, 131]) fun W25 u25 k25 => ⟨(sft_upd u25 k11_b9'4 g9 (by decide)), ?_⟩
       refine xd 2 (.t W6.heap.size [9, 131]) ?_
       refine xx (.e [0, 2, 3] 4) _ u.length (i * m + j) 3 (Sts.cell hen_hF8 entC_len entD (k := (i * m + j)) (i := 0) (by omega) rfl).1 ?_
       have hV'5 := own_below (u25.own2 (own_grown (own_below hV'1 n23.below) hg24 hK'4 (by decide)) k11_b9'4 (by decide)) (below_drew W25)
       have hB'10 := Bl.next (u25.below (hB'9.trans hb24) g9) (below_drew W25)
       refine xlt (.e [5] 6) (.t W6.heap.size [9, 131]) (fun V hV'5 => (Sts.cell (hen_hF8.below (sft_keep hB'10 hV'5 (Nat.le_refl _))) entC_len entD (k := (i * m + j)) (i := 1) (by omega) rfl).2) ?_
       refine xm2 0 1 7 ?_ ?_
       · have k25'1 := k25.below (below_drew W25)
         refine xb 0 3 k25'1 ?_
         refine xbs (.o [] 7) 1 [.string ⟨((u.getD (i * m + j) entD).2.1).toArray⟩] 9 fun b26 W26 n26 => ?_
         have r26_hV := own_ne hV'5 n26
         have hV'6 := own_below hV'5 n26.below
         have hB'11 := Bl.next hB'10 n26.below
         refine ybi (.o [] 8) (.t W6.heap.size [9, 131]) fun _ _ _ _ zJ zQ zo zx zy zK => op_app (m := 1) (news := [.string ⟨((u.getD (i * m + j) entD).2.1).toArray⟩]) (.string ⟨#[]⟩) 1 16 (j + 1) (((valsE (chunkE u m i)).take (j + 1)).map sv) zo Tryz.underlying55 (by kernel_rfl) rfl (by decide) zx hV'6 zy (n26.blk.sl 1 1 (by decide) (by decide)) rfl (by simp [Value.oneCell']) (by unfold maxLen; omega) (by omega) hB'11.size (by rfl) (by rw [vals_take (by omega), hcg (by omega)]) fun p27 c27 W27 o27 hg27 hb27 => ?_
         refine zK _ _ (sft_grown hb27 hg27 hV'6 (by decide)) ?_
         have k25'2 := (k25'1.below n26.below).grown hg27 hV'6 (by decide)
         refine ys (.o [9] 10) k25'2 [.int .i64 t, .bool leaf, .slice p24 (j + 1) c24, .slice p27 (j + 1) c27] (.t W6.heap.size [9, 131]) fun W28 u28 k28 => ⟨(sft_upd u28 k25'2 g9 (by decide)), ?_⟩
         refine xwm 5 ((↑(i * m + j) : Int) + 1) (↑((i * m + j) + 1) : Int) ?_
         have hB'12 := u28.below (hB'11.trans hb27) g9
         have o24'1 := u28.own2 (own_grown (own_below (own_below (u25.own2 o24 k11_b9'4 (by decide)) (below_drew W25)) n26.below) hg27 hV'6 (by decide)) k25'2 (by decide)
         have o27'1 := u28.own2 o27 k25'2 (by decide)
         exact ze 2 (hJ11 _ _ _ ⟨j + 1, _, _, _, _, rfl, rfl, hB'12, k28, o24'1, o27'1, by omega⟩ (by omega))
       refine xbs 0 1 [.string ⟨((u.getD (i * m + j) entD).2.1).toArray⟩] 9 fun b29 W29 n29 => ?_
       have r29_hV := own_ne hV'5 n29
       have k25'3 := (k25.below (below_drew W25)).below n29.below
       refine xb (.o [] 1) 3 k25'3 ?_
       have hV'7 := own_below hV'5 n29.below
       have hB'13 := Bl.next hB'10 n29.below
       refine ybi (.o [] 8) (.t W6.heap.size [9, 131]) fun _ _ _ _ zJ zQ zo zx zy zK => op_app (m := 1) (news := [.string ⟨((u.getD (i * m + j) entD).2.1).toArray⟩]) (.string ⟨#[]⟩) 1 16 (j + 1) (((valsE (chunkE u m i)).take (j + 1)).map sv) zo Tryz.underlying55 (by kernel_rfl) rfl (by decide) zx hV'7 zy (n29.blk.sl 1 1 (by decide) (by decide)) rfl (by simp [Value.oneCell']) (by unfold maxLen; omega) (by omega) hB'13.size (by rfl) (by rw [vals_take (by omega), hcg (by omega)]) fun p30 c30 W30 o30 hg30 hb30 => ?_
       refine zK _ _ (sft_grown hb30 hg30 hV'7 (by decide)) ?_
       have k25'4 := k25'3.grown hg30 hV'7 (by decide)
       refine ys (.o [9] 10) k25'4 [.int .i64 t, .bool leaf, .slice p24 (j + 1) c24, .slice p30 (j + 1) c30] (.t W6.heap.size [9, 131]) fun W31 u31 k31 => ⟨(sft_upd u31 k25'4 g9 (by decide)), ?_⟩
       refine xwm 5 ((↑(i * m + j) : Int) + 1) (↑((i * m + j) + 1) : Int) ?_
       have hB'14 := u31.below (hB'13.trans hb30) g9
       have o24'2 := u31.own2 (own_grown (own_below (own_below (u25.own2 o24 k11_b9'4 (by decide)) (below_drew W25)) n29.below) hg30 hV'7 (by decide)) k25'4 (by decide)
       have o30'1 := u31.own2 o30 k25'4 (by decide)
       exact ze 2 (hJ11 _ _ _ ⟨j + 1, _, _, _, _, rfl, rfl, hB'14, k31, o24'2, o30'1, by omega⟩ (by omega))
     refine xlv 7 k11_b9.rp ?_
     have hT32 : Below W6.heap.size W6 W11 := hB_11
     have hs32 : W4.heap.size ≤ W6.heap.size := hF8.size
     have hK'5 := own_mono hK hs32
     have hV'8 := own_mono hV hs32
     have hjs : sizN u.length m i = j := by omega
     have hcl : (chunkE u m i).length = j := by rw [chunk_len, hjs]
     have hck : (keysE (chunkE u m i)).take j = keysE (chunkE u m i) := List.take_of_length_le (by rw [keysE_len]; omega)
     have hcv : (valsE (chunkE u m i)).take j = valsE (chunkE u m i) := List.take_of_length_le (by rw [valsE_len]; omega)
     rw [hck] at hK'5
     rw [hcv] at hV'8
     have hN := chunk_ok hE ht1 ht2 hm hv (fun h => by have := hlu h; omega) (show i < (ovN u.length m) by omega)
     have hlen := nodB_len hN
     rw [hcl] at hN
     have hnd : nodeP m v (headB t leaf j m v) (keysE (chunkE u m i)) (valsE (chunkE u m i)) j = nodB t leaf m v (chunkE u m i) := by rw [← hcl]; rfl
     refine xc 0 (args := #[.agg #[.int .i64 t, .bool leaf, .slice kp j kc, .slice vp j vc]]) (ref07_Put t leaf j m v (keysE (chunkE u m i)) (valsE (chunkE u m i)) kp vp kc vc _ hN (own_sl hK'5) (own_sl hV'8)) ?_
     rintro _ W33 ⟨_, rfl, hb33, p6, c6, rfl, h6⟩
     have hs33 := (Bl.nextB hF8 hs_r4 hT32).size
     have h6'1 := own_mono h6 hs33
     rw [hnd] at h6'1
     have hR'4 := (hR.below hT32).below hb33
     have hJ'3 := (hJ.below hT32).below hb33
     have hO := (hOhF8.trans (Only.of_below hT32)).trans (Only.of_below hb33)
     have hB := Bl.nextB (Bl.nextB hF8 hs_r4 hT32) hs_r4 hb33
     refine xc 11 (args := #[.pointer (some ⟨bc, 0, none⟩), .int .i64 2, .slice p6 244 c6]) (ref_LayQ B bc bm pg N cg fa mf fc f (k + i) p K cI (levB t leaf m v u (f + k) b2 i) p6 c6 244 (nodB t leaf m v (chunkE u m i)) (f + k + i) _ (Nat.add_assoc _ _ _).symm hlen (by decide) (by omega) hf hR'4 hJ'3 (fun W _ hO => bys_of (own_sl (own_only h6'1 hO (by decide))) hlen) (Nat.le_trans hs_r4 hB.size)) ?_
     rintro _ W34 ⟨a9, c9, fa3, mf3, fc3, rfl, hb34, hO34, hR, hJ⟩
     refine xa 3 [.slice none 0 0, .int .i64 0] 31 fun b35 W35 n35 => ?_
     have k6_b1'1 := ((k6_b1.below hT32).below hb33).only hO34 (by decide)
     have d35_b1 := n35.ne k6_b1'1
     refine xsv 1 n35.blk [.slice a9 0 c9, .int .i64 0] fun W36 u36 k36 => ?_
     have g35 := n35.ge0 (hB.trans hb34)
     refine xb 6 1 k36 ?_
     refine xc 9 (args := #[.int .i64 (↑(f + k + i) : Int), .int .i64 4]) (ref_BytesN ((f + k + i : Nat) : Int) 4 4 _ (by omega) (by omega) rfl (by decide)) ?_
     rintro _ W37 ⟨_, rfl, hb37, pk, ck, rfl, h8b⟩
     have hs37 := (u36.below (Bl.nextB (hB.trans hb34) hs_r4 n35.below) (Nat.le_trans hs_r4 g35)).size
     have h8b'1 := own_mono h8b hs37
     refine xcv0 0 (fun _ _ _ zo zx => run_bstr zo zx (bys_of (own_sl h8b'1) (leB_len _ _)) (leB_len _ _) Tryz.underlying28 Tryz.underlying5 Tryz.underlying9) ?_
     refine xa 2 [.int .i64 0, .string ⟨#[]⟩, .int .i64 0] 99 fun b38 W38 n38 => ?_
     have hup'1 := own_below (u36.own2 (own_below (own_only (own_below (own_below hup hT32) hb33) hO34 (by decide)) n35.below) n35.blk (by decide)) hb37
     have r38_hup := own_ne hup'1 n38
     refine xsv 0 n38.blk [.int .i64 0, .string ⟨(leB (↑(f + k + i) : Int) 4).toArray⟩, .int .i64 (↑(f + k + i) : Int)] fun W39 u39 k39 => ?_
     have g38 := n38.ge0 (Bl.nextB (u36.below (Bl.nextB (hB.trans hb34) hs_r4 n35.below) (Nat.le_trans hs_r4 g35)) hs_r4 hb37)
     have k11_b9'5 := u39.blkT (((u36.blkT (((k11_b9.below hb33).only hO34 (by decide)).below n35.below) n35.blk (by decide)).below hb37).below n38.below) n38.blk (by decide)
     refine xb 6 2 k11_b9'5 ?_
     refine xid 4 ((↑j : Int) > (0 : Int)) (fun hc40 => ?_) (fun hc40 => ?_)
     · have hkey : ((keysE (chunkE u m i))).getD 0 0 = ((chunkE u m i).getD 0 entD).1 := chunk_key hjs (by omega)
       refine xb 2 2 k11_b9'5 ?_
       have hK'6 := u39.own2 (own_below (own_below (u36.own2 (own_below (own_only (own_below hK'5 hb33) hO34 (by decide)) n35.below) n35.blk (by decide)) hb37) n38.below) n38.blk (by decide)
       refine xx 0 _ j 0 1 (IntsN.elem (own_sl hK'6) (by rw [keysE_len, hcl]) (k := 0) (by omega)).1 ?_
       refine xl 0 ((IntsN.elem (own_sl hK'6) (by rw [keysE_len, hcl]) (k := 0) (by omega)).2) ?_
       refine xs 1 k39 [.int .i64 ((keysE (chunkE u m i)).getD 0 0), .string ⟨(leB (↑(f + k + i) : Int) 4).toArray⟩, .int .i64 (↑(f + k + i) : Int)] fun W41 u41 k41 => ?_
       refine xlv 5 k41.rp ?_
       refine xbs 0 1 [.int .i64 ((keysE (chunkE u m i)).getD 0 0), .string ⟨(leB (↑(f + k + i) : Int) 4).toArray⟩, .int .i64 (↑(f + k + i) : Int)] 99 fun b42 W42 n42 => ?_
       have d42_b38 := n42.ne k41
       have hB'15 := u41.below (u39.below (Bl.nextB (Bl.nextB (u36.below (Bl.nextB (hB.trans hb34) hs_r4 n35.below) (Nat.le_trans hs_r4 g35)) hs_r4 hb37) hs_r4 n38.below) (Nat.le_trans hs_r4 g38)) (Nat.le_trans hs_r4 g38)
       have hup'2 := u41.own3 (u39.own3 (own_below hup'1 n38.below) r38_hup) r38_hup
       have r42_hup := own_ne hup'2 n42
       have hup'3 := own_below hup'2 n42.below
       have hB'16 := Bl.nextB hB'15 hs_r4 n42.below
       refine xbi 0 fun _ _ _ _ zJ zQ zo zx zy zK => op_app (m := 1) (news := [.int .i64 ((keysE (chunkE u m i)).getD 0 0), .string ⟨(leB (↑(f + k + i) : Int) 4).toArray⟩, .int .i64 (↑(f + k + i) : Int)]) (.agg #[.int .i64 0, .string ⟨#[]⟩, .int .i64 0]) 3 32 (i + 1) ((upE u m (f + k) (i + 1)).flatMap entC) zo Tryz.underlying60 (by kernel_rfl) rfl (by decide) zx hup'3 zy (n42.blk.sl 1 1 (by decide) (by decide)) rfl (by simp [Value.oneCell']) (by unfold maxLen; omega) (by omega) hB'16.size (by rfl) (up_row (by first | exact hkey | exact hkey0)) fun p43 c43 W43 o43 hg43 hb43 => ?_
       refine zK _ _ ?_
       refine xwm 6 ((↑(i * m) : Int) + (↑m : Int)) (↑((i * m) + m) : Int) ?_
       refine xv1 3 10 (show (.int .i64 (↑((i * m) + m) : Int) : Value) = .int .i64 (↑((i + 1) * m) : Int) from by rw [Nat.add_mul, Nat.one_mul]) ?_
       have hR'5 := (((((((hR.below n35.below).only (Only.of_upd (T := [31]) u36 n35.blk (by decide)) (by decide)).below hb37).below n38.below).only (Only.of_upd (T := [99]) u39 n38.blk (by decide)) (by decide)).only (Only.of_upd (T := [99]) u41 k39 (by decide)) (by decide)).below n42.below).only (Only.of_grown (T := [99]) hg43 hup'3 (by decide)) (by decide)
       have hJ'4 := (((((((hJ.below n35.below).only (Only.of_upd (T := [31]) u36 n35.blk (by decide)) (by decide)).below hb37).below n38.below).only (Only.of_upd (T := [99]) u39 n38.blk (by decide)) (by decide)).only (Only.of_upd (T := [99]) u41 k39 (by decide)) (by decide)).below n42.below).only (Only.of_grown (T := [99]) hg43 hup'3 (by decide)) (by decide)
       have hB'17 := hB'16.trans (hb43.mono hs_r4)
       have hO'2 := (Only.grown_new ((Only.upd_new (Only.upd_new (((Only.upd_new ((hO.trans hO34).trans (Only.of_below n35.below)) u36 g35).trans (Only.of_below hb37)).trans (Only.of_below n38.below)) u39 g38) u41 g38).trans (Only.of_below n42.below)) hg43 hup'3)
       have k6_b1'2 := ((u41.blkT (u39.blkT (((u36.blk (k6_b1'1.below n35.below) (Ne.symm (Ne.symm d35_b1))).below hb37).below n38.below) n38.blk (by decide)) k39 (by decide)).below n42.below).grown hg43 hup'3 (by decide)
       exact ze 0 (hJ6 _ _ _ ⟨i + 1, _, _, _, _, _, rfl, rfl, hB'17, hO'2, k6_b1'2, o43, hR'5, hJ'4, by omega⟩ (by omega))
     have hkey0 : (0 : Int) = ((chunkE u m i).getD 0 entD).1 := chunk_nokey hjs (by omega)
     refine xlv 5 k39.rp ?_
     refine xbs 0 1 [.int .i64 0, .string ⟨(leB (↑(f + k + i) : Int) 4).toArray⟩, .int .i64 (↑(f + k + i) : Int)] 99 fun b44 W44 n44 => ?_
     have d44_b38 := n44.ne k39
     have hB'18 := u39.below (Bl.nextB (Bl.nextB (u36.below (Bl.nextB (hB.trans hb34) hs_r4 n35.below) (Nat.le_trans hs_r4 g35)) hs_r4 hb37) hs_r4 n38.below) (Nat.le_trans hs_r4 g38)
     have hup'4 := u39.own3 (own_below hup'1 n38.below) r38_hup
     have r44_hup := own_ne hup'4 n44
     have hup'5 := own_below hup'4 n44.below
     have hB'19 := Bl.nextB hB'18 hs_r4 n44.below
     refine xbi 0 fun _ _ _ _ zJ zQ zo zx zy zK => op_app (m := 1) (news := [.int .i64 0, .string ⟨(leB (↑(f + k + i) : Int) 4).toArray⟩, .int .i64 (↑(f + k + i) : Int)]) (.agg #[.int .i64 0, .string ⟨#[]⟩, .int .i64 0]) 3 32 (i + 1) ((upE u m (f + k) (i + 1)).flatMap entC) zo Tryz.underlying60 (by kernel_rfl) rfl (by decide) zx hup'5 zy (n44.blk.sl 1 1 (by decide) (by decide)) rfl (by simp [Value.oneCell']) (by unfold maxLen; omega) (by omega) hB'19.size (by rfl) (up_row (by first | exact hkey | exact hkey0)) fun p45 c45 W45 o45 hg45 hb45 => ?_
     refine zK _ _ ?_
     refine xwm 6 ((↑(i * m) : Int) + (↑m : Int)) (↑((i * m) + m) : Int) ?_
     refine xv1 3 10 (show (.int .i64 (↑((i * m) + m) : Int) : Value) = .int .i64 (↑((i + 1) * m) : Int) from by rw [Nat.add_mul, Nat.one_mul]) ?_
     have hR'6 := ((((((hR.below n35.below).only (Only.of_upd (T := [31]) u36 n35.blk (by decide)) (by decide)).below hb37).below n38.below).only (Only.of_upd (T := [99]) u39 n38.blk (by decide)) (by decide)).below n44.below).only (Only.of_grown (T := [99]) hg45 hup'5 (by decide)) (by decide)
     have hJ'5 := ((((((hJ.below n35.below).only (Only.of_upd (T := [31]) u36 n35.blk (by decide)) (by decide)).below hb37).below n38.below).only (Only.of_upd (T := [99]) u39 n38.blk (by decide)) (by decide)).below n44.below).only (Only.of_grown (T := [99]) hg45 hup'5 (by decide)) (by decide)
     have hB'20 := hB'19.trans (hb45.mono hs_r4)
     have hO'3 := (Only.grown_new ((Only.upd_new (((Only.upd_new ((hO.trans hO34).trans (Only.of_below n35.below)) u36 g35).trans (Only.of_below hb37)).trans (Only.of_below n38.below)) u39 g38).trans (Only.of_below n44.below)) hg45 hup'5)
     have k6_b1'3 := ((u39.blkT (((u36.blk (k6_b1'1.below n35.below) (Ne.symm (Ne.symm d35_b1))).below hb37).below n38.below) n38.blk (by decide)).below n44.below).grown hg45 hup'5 (by decide)
     exact ze 0 (hJ6 _ _ _ ⟨i + 1, _, _, _, _, _, rfl, rfl, hB'20, hO'3, k6_b1'3, o45, hR'6, hJ'5, by omega⟩ (by omega))
   have hc12 := of_decide_eq_false hc12
   refine xlv 16 k11_b9.rp ?_
   have hT46 : Below W6.heap.size W6 W11 := hB_11
   have hs46 : W4.heap.size ≤ W6.heap.size := hF8.size
   have hK'7 := own_mono hK hs46
   have hV'9 := own_mono hV hs46
   have hjs : sizN u.length m i = j := by omega
   have hcl : (chunkE u m i).length = j := by rw [chunk_len, hjs]
   have hck : (keysE (chunkE u m i)).take j = keysE (chunkE u m i) := List.take_of_length_le (by rw [keysE_len]; omega)
   have hcv : (valsE (chunkE u m i)).take j = valsE (chunkE u m i) := List.take_of_length_le (by rw [valsE_len]; omega)
   rw [hck] at hK'7
   rw [hcv] at hV'9
   have hN := chunk_ok hE ht1 ht2 hm hv (fun h => by have := hlu h; omega) (show i < (ovN u.length m) by omega)
   have hlen := nodB_len hN
   rw [hcl] at hN
   have hnd : nodeP m v (headB t leaf j m v) (keysE (chunkE u m i)) (valsE (chunkE u m i)) j = nodB t leaf m v (chunkE u m i) := by rw [← hcl]; rfl
   refine xc 0 (args := #[.agg #[.int .i64 t, .bool leaf, .slice kp j kc, .slice vp j vc]]) (ref07_Put t leaf j m v (keysE (chunkE u m i)) (valsE (chunkE u m i)) kp vp kc vc _ hN (own_sl hK'7) (own_sl hV'9)) ?_
   rintro _ W47 ⟨_, rfl, hb47, p6, c6, rfl, h6⟩
   have hs47 := (Bl.nextB hF8 hs_r4 hT46).size
   have h6'2 := own_mono h6 hs47
   rw [hnd] at h6'2
   have hR'7 := (hR.below hT46).below hb47
   have hJ'6 := (hJ.below hT46).below hb47
   have hO := (hOhF8.trans (Only.of_below hT46)).trans (Only.of_below hb47)
   have hB := Bl.nextB (Bl.nextB hF8 hs_r4 hT46) hs_r4 hb47
   refine xc 11 (args := #[.pointer (some ⟨bc, 0, none⟩), .int .i64 2, .slice p6 244 c6]) (ref_LayQ B bc bm pg N cg fa mf fc f (k + i) p K cI (levB t leaf m v u (f + k) b2 i) p6 c6 244 (nodB t leaf m v (chunkE u m i)) (f + k + i) _ (Nat.add_assoc _ _ _).symm hlen (by decide) (by omega) hf hR'7 hJ'6 (fun W _ hO => bys_of (own_sl (own_only h6'2 hO (by decide))) hlen) (Nat.le_trans hs_r4 hB.size)) ?_
   rintro _ W48 ⟨a9, c9, fa3, mf3, fc3, rfl, hb48, hO48, hR, hJ⟩
   refine xa 3 [.slice none 0 0, .int .i64 0] 31 fun b49 W49 n49 => ?_
   have k6_b1'4 := ((k6_b1.below hT46).below hb47).only hO48 (by decide)
   have d49_b1 := n49.ne k6_b1'4
   refine xsv 1 n49.blk [.slice a9 0 c9, .int .i64 0] fun W50 u50 k50 => ?_
   have g49 := n49.ge0 (hB.trans hb48)
   refine xb 6 1 k50 ?_
   refine xc 9 (args := #[.int .i64 (↑(f + k + i) : Int), .int .i64 4]) (ref_BytesN ((f + k + i : Nat) : Int) 4 4 _ (by omega) (by omega) rfl (by decide)) ?_
   rintro _ W51 ⟨_, rfl, hb51, pk, ck, rfl, h8b⟩
   have hs51 := (u50.below (Bl.nextB (hB.trans hb48) hs_r4 n49.below) (Nat.le_trans hs_r4 g49)).size
   have h8b'2 := own_mono h8b hs51
   refine xcv0 0 (fun _ _ _ zo zx => run_bstr zo zx (bys_of (own_sl h8b'2) (leB_len _ _)) (leB_len _ _) Tryz.underlying28 Tryz.underlying5 Tryz.underlying9) ?_
   refine xa 2 [.int .i64 0, .string ⟨#[]⟩, .int .i64 0] 99 fun b52 W52 n52 => ?_
   have hup'6 := own_below (u50.own2 (own_below (own_only (own_below (own_below hup hT46) hb47) hO48 (by decide)) n49.below) n49.blk (by decide)) hb51
   have r52_hup := own_ne hup'6 n52
   refine xsv 0 n52.blk [.int .i64 0, .string ⟨(leB (↑(f + k + i) : Int) 4).toArray⟩, .int .i64 (↑(f + k + i) : Int)] fun W53 u53 k53 => ?_
   have g52 := n52.ge0 (Bl.nextB (u50.below (Bl.nextB (hB.trans hb48) hs_r4 n49.below) (Nat.le_trans hs_r4 g49)) hs_r4 hb51)
   have k11_b9'6 := u53.blkT (((u50.blkT (((k11_b9.below hb47).only hO48 (by decide)).below n49.below) n49.blk (by decide)).below hb51).below n52.below) n52.blk (by decide)
   refine xb 6 2 k11_b9'6 ?_
   refine xid 4 ((↑j : Int) > (0 : Int)) (fun hc54 => ?_) (fun hc54 => ?_)
   · have hkey : ((keysE (chunkE u m i))).getD 0 0 = ((chunkE u m i).getD 0 entD).1 := chunk_key hjs (by omega)
     refine xb 2 2 k11_b9'6 ?_
     have hK'8 := u53.own2 (own_below (own_below (u50.own2 (own_below (own_only (own_below hK'7 hb47) hO48 (by decide)) n49.below) n49.blk (by decide)) hb51) n52.below) n52.blk (by decide)
     refine xx 0 _ j 0 1 (IntsN.elem (own_sl hK'8) (by rw [keysE_len, hcl]) (k := 0) (by omega)).1 ?_
     refine xl 0 ((IntsN.elem (own_sl hK'8) (by rw [keysE_len, hcl]) (k := 0) (by omega)).2) ?_
     refine xs 1 k53 [.int .i64 ((keysE (chunkE u m i)).getD 0 0), .string ⟨(leB (↑(f + k + i) : Int) 4).toArray⟩, .int .i64 (↑(f + k + i) : Int)] fun W55 u55 k55 => ?_
     refine xlv 5 k55.rp ?_
     refine xbs 0 1 [.int .i64 ((keysE (chunkE u m i)).getD 0 0), .string ⟨(leB (↑(f + k + i) : Int) 4).toArray⟩, .int .i64 (↑(f + k + i) : Int)] 99 fun b56 W56 n56 => ?_
     have d56_b52 := n56.ne k55
     have hB'21 := u55.below (u53.below (Bl.nextB (Bl.nextB (u50.below (Bl.nextB (hB.trans hb48) hs_r4 n49.below) (Nat.le_trans hs_r4 g49)) hs_r4 hb51) hs_r4 n52.below) (Nat.le_trans hs_r4 g52)) (Nat.le_trans hs_r4 g52)
     have hup'7 := u55.own3 (u53.own3 (own_below hup'6 n52.below) r52_hup) r52_hup
     have r56_hup := own_ne hup'7 n56
     have hup'8 := own_below hup'7 n56.below
     have hB'22 := Bl.nextB hB'21 hs_r4 n56.below
     refine xbi 0 fun _ _ _ _ zJ zQ zo zx zy zK => op_app (m := 1) (news := [.int .i64 ((keysE (chunkE u m i)).getD 0 0), .string ⟨(leB (↑(f + k + i) : Int) 4).toArray⟩, .int .i64 (↑(f + k + i) : Int)]) (.agg #[.int .i64 0, .string ⟨#[]⟩, .int .i64 0]) 3 32 (i + 1) ((upE u m (f + k) (i + 1)).flatMap entC) zo Tryz.underlying60 (by kernel_rfl) rfl (by decide) zx hup'8 zy (n56.blk.sl 1 1 (by decide) (by decide)) rfl (by simp [Value.oneCell']) (by unfold maxLen; omega) (by omega) hB'22.size (by rfl) (up_row (by first | exact hkey | exact hkey0)) fun p57 c57 W57 o57 hg57 hb57 => ?_
     refine zK _ _ ?_
     refine xwm 6 ((↑(i * m) : Int) + (↑m : Int)) (↑((i * m) + m) : Int) ?_
     refine xv1 3 10 (show (.int .i64 (↑((i * m) + m) : Int) : Value) = .int .i64 (↑((i + 1) * m) : Int) from by rw [Nat.add_mul, Nat.one_mul]) ?_
     have hR'8 := (((((((hR.below n49.below).only (Only.of_upd (T := [31]) u50 n49.blk (by decide)) (by decide)).below hb51).below n52.below).only (Only.of_upd (T := [99]) u53 n52.blk (by decide)) (by decide)).only (Only.of_upd (T := [99]) u55 k53 (by decide)) (by decide)).below n56.below).only (Only.of_grown (T := [99]) hg57 hup'8 (by decide)) (by decide)
     have hJ'7 := (((((((hJ.below n49.below).only (Only.of_upd (T := [31]) u50 n49.blk (by decide)) (by decide)).below hb51).below n52.below).only (Only.of_upd (T := [99]) u53 n52.blk (by decide)) (by decide)).only (Only.of_upd (T := [99]) u55 k53 (by decide)) (by decide)).below n56.below).only (Only.of_grown (T := [99]) hg57 hup'8 (by decide)) (by decide)
     have hB'23 := hB'22.trans (hb57.mono hs_r4)
     have hO'4 := (Only.grown_new ((Only.upd_new (Only.upd_new (((Only.upd_new ((hO.trans hO48).trans (Only.of_below n49.below)) u50 g49).trans (Only.of_below hb51)).trans (Only.of_below n52.below)) u53 g52) u55 g52).trans (Only.of_below n56.below)) hg57 hup'8)
     have k6_b1'5 := ((u55.blkT (u53.blkT (((u50.blk (k6_b1'4.below n49.below) (Ne.symm (Ne.symm d49_b1))).below hb51).below n52.below) n52.blk (by decide)) k53 (by decide)).below n56.below).grown hg57 hup'8 (by decide)
     exact ze 0 (hJ6 _ _ _ ⟨i + 1, _, _, _, _, _, rfl, rfl, hB'23, hO'4, k6_b1'5, o57, hR'8, hJ'7, by omega⟩ (by omega))
   have hkey0 : (0 : Int) = ((chunkE u m i).getD 0 entD).1 := chunk_nokey hjs (by omega)
   refine xlv 5 k53.rp ?_
   refine xbs 0 1 [.int .i64 0, .string ⟨(leB (↑(f + k + i) : Int) 4).toArray⟩, .int .i64 (↑(f + k + i) : Int)] 99 fun b58 W58 n58 => ?_
   have d58_b52 := n58.ne k53
   have hB'24 := u53.below (Bl.nextB (Bl.nextB (u50.below (Bl.nextB (hB.trans hb48) hs_r4 n49.below) (Nat.le_trans hs_r4 g49)) hs_r4 hb51) hs_r4 n52.below) (Nat.le_trans hs_r4 g52)
   have hup'9 := u53.own3 (own_below hup'6 n52.below) r52_hup
   have r58_hup := own_ne hup'9 n58
   have hup'10 := own_below hup'9 n58.below
   have hB'25 := Bl.nextB hB'24 hs_r4 n58.below
   refine xbi 0 fun _ _ _ _ zJ zQ zo zx zy zK => op_app (m := 1) (news := [.int .i64 0, .string ⟨(leB (↑(f + k + i) : Int) 4).toArray⟩, .int .i64 (↑(f + k + i) : Int)]) (.agg #[.int .i64 0, .string ⟨#[]⟩, .int .i64 0]) 3 32 (i + 1) ((upE u m (f + k) (i + 1)).flatMap entC) zo Tryz.underlying60 (by kernel_rfl) rfl (by decide) zx hup'10 zy (n58.blk.sl 1 1 (by decide) (by decide)) rfl (by simp [Value.oneCell']) (by unfold maxLen; omega) (by omega) hB'25.size (by rfl) (up_row (by first | exact hkey | exact hkey0)) fun p59 c59 W59 o59 hg59 hb59 => ?_
   refine zK _ _ ?_
   refine xwm 6 ((↑(i * m) : Int) + (↑m : Int)) (↑((i * m) + m) : Int) ?_
   refine xv1 3 10 (show (.int .i64 (↑((i * m) + m) : Int) : Value) = .int .i64 (↑((i + 1) * m) : Int) from by rw [Nat.add_mul, Nat.one_mul]) ?_
   have hR'9 := ((((((hR.below n49.below).only (Only.of_upd (T := [31]) u50 n49.blk (by decide)) (by decide)).below hb51).below n52.below).only (Only.of_upd (T := [99]) u53 n52.blk (by decide)) (by decide)).below n58.below).only (Only.of_grown (T := [99]) hg59 hup'10 (by decide)) (by decide)
   have hJ'8 := ((((((hJ.below n49.below).only (Only.of_upd (T := [31]) u50 n49.blk (by decide)) (by decide)).below hb51).below n52.below).only (Only.of_upd (T := [99]) u53 n52.blk (by decide)) (by decide)).below n58.below).only (Only.of_grown (T := [99]) hg59 hup'10 (by decide)) (by decide)
   have hB'26 := hB'25.trans (hb59.mono hs_r4)
   have hO'5 := (Only.grown_new ((Only.upd_new (((Only.upd_new ((hO.trans hO48).trans (Only.of_below n49.below)) u50 g49).trans (Only.of_below hb51)).trans (Only.of_below n52.below)) u53 g52).trans (Only.of_below n58.below)) hg59 hup'10)
   have k6_b1'6 := ((u53.blkT (((u50.blk (k6_b1'4.below n49.below) (Ne.symm (Ne.symm d49_b1))).below hb51).below n52.below) n52.blk (by decide)).below n58.below).grown hg59 hup'10 (by decide)
   exact ze 0 (hJ6 _ _ _ ⟨i + 1, _, _, _, _, _, rfl, rfl, hB'26, hO'5, k6_b1'6, o59, hR'9, hJ'8, by omega⟩ (by omega))
 have hc7 := of_decide_eq_false hc7
 refine xie 5 (↑(i * m) : Int) (0 : Int) (fun hc60 => ?_) (fun hc60 => ?_)
 · have hF61 := hB_6
   have hOhF61 := hO_6
   refine xa 8 [.int .i64 0, .bool false, .slice none 0 0, .slice none 0 0] 131 fun b62 W62 n62 => ?_
   refine xsv 0 n62.blk [.int .i64 t, .bool leaf, .slice none 0 0, .slice none 0 0] fun W63 u63 k63 => ?_
   have g62 := n62.ge (Below.refl W6.heap.size _)
   have hB := u63.below n62.below g62
   refine zl 10 128 (fun zm zkv V => ∃ (j : Nat) (kp : Option Addr) (kc : Nat) (vp : Option Addr) (vc : Nat), zkv = [(0, .pointer (some ⟨bc, 0, none⟩)), (1, .int .i64 t), (2, .slice a2 u.length c2), (7, .pointer (some ⟨b1, 0, none⟩)), (8, .bool leaf), (9, .slice p4 i c4), (10, .int .i64 (↑(i * m) : Int)), (11, .int .i64 (↑m : Int)), (12, .pointer (some ⟨b62, 0, none⟩)), (13, .int .i64 (↑(i * m + j) : Int))] ∧ zm = m - j ∧ Below W6.heap.size W6 V ∧ Blk V b62 ([.int .i64 t, .bool leaf, .slice kp j kc, .slice vp j vc]) 131 ∧ V.ownsRow W6.heap.size 3 1 (.slice kp j kc) j (((keysE (chunkE u m i)).take j).map (Value.int .i64)) ∧ V.ownsRow W6.heap.size 9 1 (.slice vp j vc) j (((valsE (chunkE u m i)).take j).map sv) ∧ j ≤ sizN u.length m i) ⟨0, none, 0, none, 0, rfl, rfl, hB, k63, World.ownsRow_nil _ _ _ _, World.ownsRow_nil _ _ _ _, Nat.zero_le _⟩ ?_
   rintro _ _ W64 ⟨j, kp, kc, vp, vc, rfl, rfl, hB_64, k64_b62, hK, hV, hj⟩ J64 hJ64 r64
   have hsz : sizN u.length m i = min m (u.length - i * m) := rfl
   have hcl0 := chunk_len u m i
   have hcg : j < sizN u.length m i → (chunkE u m i).getD j entD = u.getD (i * m + j) entD := chunk_get
   refine xg 8 [53, 54] (decide ((↑(i * m + j) : Int) < (↑u.length : Int))) (fun hc65 => ?_) (fun hc65 => ?_)
   · have hc65 := of_decide_eq_true hc65
     refine xwm 3 ((↑(i * m) : Int) + (↑m : Int)) (↑((i * m) + m) : Int) ?_
     refine xid 4 ((↑(i * m + j) : Int) < (↑((i * m) + m) : Int)) (fun hc66 => ?_) (fun hc66 => ?_)
     · refine xd 5 (.t W6.heap.size [3, 131]) ?_
       have hen_hF61 := hen _ hF61 hOhF61
       refine xx (.e [0, 2, 3] 4) _ u.length (i * m + j) 3 (Sts.cell hen_hF61 entC_len entD (k := (i * m + j)) (i := 0) (by omega) rfl).1 ?_
       have hV'10 := own_below hV (below_drew W64)
       have hB'27 := Bl.next hB_64 (below_drew W64)
       refine xlt (.e [5] 6) (.t W6.heap.size [3, 131]) (fun V hV'10 => (Sts.cell (hen_hF61.below (sft_keep hB'27 hV'10 (Nat.le_refl _))) entC_len entD (k := (i * m + j)) (i := 0) (by omega) rfl).2) ?_
       refine xm2 0 1 7 ?_ ?_
       · have k64_b62'1 := k64_b62.below (below_drew W64)
         refine xb 0 2 k64_b62'1 ?_
         refine xbs (.o [] 7) 1 [.int .i64 ((u.getD (i * m + j) entD).1)] 3 fun b67 W67 n67 => ?_
         have hK'9 := own_below hK (below_drew W64)
         have r67_hK := own_ne hK'9 n67
         have hK'10 := own_below hK'9 n67.below
         have hB'28 := Bl.next hB'27 n67.below
         refine ybi (.o [] 8) (.t W6.heap.size [3, 131]) fun _ _ _ _ zJ zQ zo zx zy zK => op_app (m := 1) (news := [.int .i64 ((u.getD (i * m + j) entD).1)]) (.int .i64 0) 1 8 (j + 1) (((keysE (chunkE u m i)).take (j + 1)).map (Value.int .i64)) zo Tryz.underlying22 (by kernel_rfl) rfl (by decide) zx hK'10 zy (n67.blk.sl 1 1 (by decide) (by decide)) rfl (by simp [Value.oneCell']) (by unfold maxLen; omega) (by omega) hB'28.size (by rfl) (by rw [keys_take (by omega), hcg (by omega)]) fun p68 c68 W68 o68 hg68 hb68 => ?_
         refine zK _ _ (sft_grown hb68 hg68 hK'10 (by decide)) ?_
         have k64_b62'2 := (k64_b62'1.below n67.below).grown hg68 hK'10 (by decide)
         refine ys (.o [9] 10) k64_b62'2 [.int .i64 t, .bool leaf, .slice p68 (j + 1) c68, .slice vp j vc] (.t W6.heap.size [3, 131]) fun W69 u69 k69 => ⟨(sft_upd u69 k64_b62'2 g62 (by decide)), ?_⟩
         refine xd 2 (.t W6.heap.size [9, 131]) ?_
         refine xx (.e [0, 2, 3] 4) _ u.length (i * m + j) 3 (Sts.cell hen_hF61 entC_len entD (k := (i * m + j)) (i := 0) (by omega) rfl).1 ?_
         have hV'11 := own_below (u69.own2 (own_grown (own_below hV'10 n67.below) hg68 hK'10 (by decide)) k64_b62'2 (by decide)) (below_drew W69)
         have hB'29 := Bl.next (u69.below (hB'28.trans hb68) g62) (below_drew W69)
         refine xlt (.e [5] 6) (.t W6.heap.size [9, 131]) (fun V hV'11 => (Sts.cell (hen_hF61.below (sft_keep hB'29 hV'11 (Nat.le_refl _))) entC_len entD (k := (i * m + j)) (i := 1) (by omega) rfl).2) ?_
         refine xm2 0 1 7 ?_ ?_
         · have k69'1 := k69.below (below_drew W69)
           refine xb 0 3 k69'1 ?_
           refine xbs (.o [] 7) 1 [.string ⟨((u.getD (i * m + j) entD).2.1).toArray⟩] 9 fun b70 W70 n70 => ?_
           have r70_hV := own_ne hV'11 n70
           have hV'12 := own_below hV'11 n70.below
           have hB'30 := Bl.next hB'29 n70.below
           refine ybi (.o [] 8) (.t W6.heap.size [9, 131]) fun _ _ _ _ zJ zQ zo zx zy zK => op_app (m := 1) (news := [.string ⟨((u.getD (i * m + j) entD).2.1).toArray⟩]) (.string ⟨#[]⟩) 1 16 (j + 1) (((valsE (chunkE u m i)).take (j + 1)).map sv) zo Tryz.underlying55 (by kernel_rfl) rfl (by decide) zx hV'12 zy (n70.blk.sl 1 1 (by decide) (by decide)) rfl (by simp [Value.oneCell']) (by unfold maxLen; omega) (by omega) hB'30.size (by rfl) (by rw [vals_take (by omega), hcg (by omega)]) fun p71 c71 W71 o71 hg71 hb71 => ?_
           refine zK _ _ (sft_grown hb71 hg71 hV'12 (by decide)) ?_
           have k69'2 := (k69'1.below n70.below).grown hg71 hV'12 (by decide)
           refine ys (.o [9] 10) k69'2 [.int .i64 t, .bool leaf, .slice p68 (j + 1) c68, .slice p71 (j + 1) c71] (.t W6.heap.size [9, 131]) fun W72 u72 k72 => ⟨(sft_upd u72 k69'2 g62 (by decide)), ?_⟩
           refine xwm 5 ((↑(i * m + j) : Int) + 1) (↑((i * m + j) + 1) : Int) ?_
           have hB'31 := u72.below (hB'30.trans hb71) g62
           have o68'1 := u72.own2 (own_grown (own_below (own_below (u69.own2 o68 k64_b62'2 (by decide)) (below_drew W69)) n70.below) hg71 hV'12 (by decide)) k69'2 (by decide)
           have o71'1 := u72.own2 o71 k69'2 (by decide)
           exact ze 2 (hJ64 _ _ _ ⟨j + 1, _, _, _, _, rfl, rfl, hB'31, k72, o68'1, o71'1, by omega⟩ (by omega))
         refine xbs 0 1 [.string ⟨((u.getD (i * m + j) entD).2.1).toArray⟩] 9 fun b73 W73 n73 => ?_
         have r73_hV := own_ne hV'11 n73
         have k69'3 := (k69.below (below_drew W69)).below n73.below
         refine xb (.o [] 1) 3 k69'3 ?_
         have hV'13 := own_below hV'11 n73.below
         have hB'32 := Bl.next hB'29 n73.below
         refine ybi (.o [] 8) (.t W6.heap.size [9, 131]) fun _ _ _ _ zJ zQ zo zx zy zK => op_app (m := 1) (news := [.string ⟨((u.getD (i * m + j) entD).2.1).toArray⟩]) (.string ⟨#[]⟩) 1 16 (j + 1) (((valsE (chunkE u m i)).take (j + 1)).map sv) zo Tryz.underlying55 (by kernel_rfl) rfl (by decide) zx hV'13 zy (n73.blk.sl 1 1 (by decide) (by decide)) rfl (by simp [Value.oneCell']) (by unfold maxLen; omega) (by omega) hB'32.size (by rfl) (by rw [vals_take (by omega), hcg (by omega)]) fun p74 c74 W74 o74 hg74 hb74 => ?_
         refine zK _ _ (sft_grown hb74 hg74 hV'13 (by decide)) ?_
         have k69'4 := k69'3.grown hg74 hV'13 (by decide)
         refine ys (.o [9] 10) k69'4 [.int .i64 t, .bool leaf, .slice p68 (j + 1) c68, .slice p74 (j + 1) c74] (.t W6.heap.size [9, 131]) fun W75 u75 k75 => ⟨(sft_upd u75 k69'4 g62 (by decide)), ?_⟩
         refine xwm 5 ((↑(i * m + j) : Int) + 1) (↑((i * m + j) + 1) : Int) ?_
         have hB'33 := u75.below (hB'32.trans hb74) g62
         have o68'2 := u75.own2 (own_grown (own_below (own_below (u69.own2 o68 k64_b62'2 (by decide)) (below_drew W69)) n73.below) hg74 hV'13 (by decide)) k69'4 (by decide)
         have o74'1 := u75.own2 o74 k69'4 (by decide)
         exact ze 2 (hJ64 _ _ _ ⟨j + 1, _, _, _, _, rfl, rfl, hB'33, k75, o68'2, o74'1, by omega⟩ (by omega))
       refine xbs 0 1 [.int .i64 ((u.getD (i * m + j) entD).1)] 3 fun b76 W76 n76 => ?_
       have hK'11 := own_below hK (below_drew W64)
       have r76_hK := own_ne hK'11 n76
       have k64_b62'3 := (k64_b62.below (below_drew W64)).below n76.below
       refine xb (.o [] 1) 2 k64_b62'3 ?_
       have hK'12 := own_below hK'11 n76.below
       have hB'34 := Bl.next hB'27 n76.below
       refine ybi (.o [] 8) (.t W6.heap.size [3, 131]) fun _ _ _ _ zJ zQ zo zx zy zK => op_app (m := 1) (news := [.int .i64 ((u.getD (i * m + j) entD).1)]) (.int .i64 0) 1 8 (j + 1) (((keysE (chunkE u m i)).take (j + 1)).map (Value.int .i64)) zo Tryz.underlying22 (by kernel_rfl) rfl (by decide) zx hK'12 zy (n76.blk.sl 1 1 (by decide) (by decide)) rfl (by simp [Value.oneCell']) (by unfold maxLen; omega) (by omega) hB'34.size (by rfl) (by rw [keys_take (by omega), hcg (by omega)]) fun p77 c77 W77 o77 hg77 hb77 => ?_
       refine zK _ _ (sft_grown hb77 hg77 hK'12 (by decide)) ?_
       have k64_b62'4 := k64_b62'3.grown hg77 hK'12 (by decide)
       refine ys (.o [9] 10) k64_b62'4 [.int .i64 t, .bool leaf, .slice p77 (j + 1) c77, .slice vp j vc] (.t W6.heap.size [3, 131]) fun W78 u78 k78 => ⟨(sft_upd u78 k64_b62'4 g62 (by decide)), ?_⟩
       refine xd 2 (.t W6.heap.size [9, 131]) ?_
       refine xx (.e [0, 2, 3] 4) _ u.length (i * m + j) 3 (Sts.cell hen_hF61 entC_len entD (k := (i * m + j)) (i := 0) (by omega) rfl).1 ?_
       have hV'14 := own_below (u78.own2 (own_grown (own_below hV'10 n76.below) hg77 hK'12 (by decide)) k64_b62'4 (by decide)) (below_drew W78)
       have hB'35 := Bl.next (u78.below (hB'34.trans hb77) g62) (below_drew W78)
       refine xlt (.e [5] 6) (.t W6.heap.size [9, 131]) (fun V hV'14 => (Sts.cell (hen_hF61.below (sft_keep hB'35 hV'14 (Nat.le_refl _))) entC_len entD (k := (i * m + j)) (i := 1) (by omega) rfl).2) ?_
       refine xm2 0 1 7 ?_ ?_
       · have k78'1 := k78.below (below_drew W78)
         refine xb 0 3 k78'1 ?_
         refine xbs (.o [] 7) 1 [.string ⟨((u.getD (i * m + j) entD).2.1).toArray⟩] 9 fun b79 W79 n79 => ?_
         have r79_hV := own_ne hV'14 n79
         have hV'15 := own_below hV'14 n79.below
         have hB'36 := Bl.next hB'35 n79.below
         refine ybi (.o [] 8) (.t W6.heap.size [9, 131]) fun _ _ _ _ zJ zQ zo zx zy zK => op_app (m := 1) (news := [.string ⟨((u.getD (i * m + j) entD).2.1).toArray⟩]) (.string ⟨#[]⟩) 1 16 (j + 1) (((valsE (chunkE u m i)).take (j + 1)).map sv) zo Tryz.underlying55 (by kernel_rfl) rfl (by decide) zx hV'15 zy (n79.blk.sl 1 1 (by decide) (by decide)) rfl (by simp [Value.oneCell']) (by unfold maxLen; omega) (by omega) hB'36.size (by rfl) (by rw [vals_take (by omega), hcg (by omega)]) fun p80 c80 W80 o80 hg80 hb80 => ?_
         refine zK _ _ (sft_grown hb80 hg80 hV'15 (by decide)) ?_
         have k78'2 := (k78'1.below n79.below).grown hg80 hV'15 (by decide)
         refine ys (.o [9] 10) k78'2 [.int .i64 t, .bool leaf, .slice p77 (j + 1) c77, .slice p80 (j + 1) c80] (.t W6.heap.size [9, 131]) fun W81 u81 k81 => ⟨(sft_upd u81 k78'2 g62 (by decide)), ?_⟩
         refine xwm 5 ((↑(i * m + j) : Int) + 1) (↑((i * m + j) + 1) : Int) ?_
         have hB'37 := u81.below (hB'36.trans hb80) g62
         have o77'1 := u81.own2 (own_grown (own_below (own_below (u78.own2 o77 k64_b62'4 (by decide)) (below_drew W78)) n79.below) hg80 hV'15 (by decide)) k78'2 (by decide)
         have o80'1 := u81.own2 o80 k78'2 (by decide)
         exact ze 2 (hJ64 _ _ _ ⟨j + 1, _, _, _, _, rfl, rfl, hB'37, k81, o77'1, o80'1, by omega⟩ (by omega))
       refine xbs 0 1 [.string ⟨((u.getD (i * m + j) entD).2.1).toArray⟩] 9 fun b82 W82 n82 => ?_
       have r82_hV := own_ne hV'14 n82
       have k78'3 := (k78.below (below_drew W78)).below n82.below
       refine xb (.o [] 1) 3 k78'3 ?_
       have hV'16 := own_below hV'14 n82.below
       have hB'38 := Bl.next hB'35 n82.below
       refine ybi (.o [] 8) (.t W6.heap.size [9, 131]) fun _ _ _ _ zJ zQ zo zx zy zK => op_app (m := 1) (news := [.string ⟨((u.getD (i * m + j) entD).2.1).toArray⟩]) (.string ⟨#[]⟩) 1 16 (j + 1) (((valsE (chunkE u m i)).take (j + 1)).map sv) zo Tryz.underlying55 (by kernel_rfl) rfl (by decide) zx hV'16 zy (n82.blk.sl 1 1 (by decide) (by decide)) rfl (by simp [Value.oneCell']) (by unfold maxLen; omega) (by omega) hB'38.size (by rfl) (by rw [vals_take (by omega), hcg (by omega)]) fun p83 c83 W83 o83 hg83 hb83 => ?_
       refine zK _ _ (sft_grown hb83 hg83 hV'16 (by decide)) ?_
       have k78'4 := k78'3.grown hg83 hV'16 (by decide)
       refine ys (.o [9] 10) k78'4 [.int .i64 t, .bool leaf, .slice p77 (j + 1) c77, .slice p83 (j + 1) c83] (.t W6.heap.size [9, 131]) fun W84 u84 k84 => ⟨(sft_upd u84 k78'4 g62 (by decide)), ?_⟩
       refine xwm 5 ((↑(i * m + j) : Int) + 1) (↑((i * m + j) + 1) : Int) ?_
       have hB'39 := u84.below (hB'38.trans hb83) g62
       have o77'2 := u84.own2 (own_grown (own_below (own_below (u78.own2 o77 k64_b62'4 (by decide)) (below_drew W78)) n82.below) hg83 hV'16 (by decide)) k78'4 (by decide)
       have o83'1 := u84.own2 o83 k78'4 (by decide)
       exact ze 2 (hJ64 _ _ _ ⟨j + 1, _, _, _, _, rfl, rfl, hB'39, k84, o77'2, o83'1, by omega⟩ (by omega))
     refine xlv 7 k64_b62.rp ?_
     have hT85 : Below W6.heap.size W6 W64 := hB_64
     have hs85 : W4.heap.size ≤ W6.heap.size := hF61.size
     have hK'13 := own_mono hK hs85
     have hV'17 := own_mono hV hs85
     have hjs : sizN u.length m i = j := by omega
     have hcl : (chunkE u m i).length = j := by rw [chunk_len, hjs]
     have hck : (keysE (chunkE u m i)).take j = keysE (chunkE u m i) := List.take_of_length_le (by rw [keysE_len]; omega)
     have hcv : (valsE (chunkE u m i)).take j = valsE (chunkE u m i) := List.take_of_length_le (by rw [valsE_len]; omega)
     rw [hck] at hK'13
     rw [hcv] at hV'17
     have hN := chunk_ok hE ht1 ht2 hm hv (fun h => by have := hlu h; omega) (show i < (ovN u.length m) by omega)
     have hlen := nodB_len hN
     rw [hcl] at hN
     have hnd : nodeP m v (headB t leaf j m v) (keysE (chunkE u m i)) (valsE (chunkE u m i)) j = nodB t leaf m v (chunkE u m i) := by rw [← hcl]; rfl
     refine xc 0 (args := #[.agg #[.int .i64 t, .bool leaf, .slice kp j kc, .slice vp j vc]]) (ref07_Put t leaf j m v (keysE (chunkE u m i)) (valsE (chunkE u m i)) kp vp kc vc _ hN (own_sl hK'13) (own_sl hV'17)) ?_
     rintro _ W86 ⟨_, rfl, hb86, p6, c6, rfl, h6⟩
     have hs86 := (Bl.nextB hF61 hs_r4 hT85).size
     have h6'3 := own_mono h6 hs86
     rw [hnd] at h6'3
     have hR'10 := (hR.below hT85).below hb86
     have hJ'9 := (hJ.below hT85).below hb86
     have hO := (hOhF61.trans (Only.of_below hT85)).trans (Only.of_below hb86)
     have hB := Bl.nextB (Bl.nextB hF61 hs_r4 hT85) hs_r4 hb86
     refine xc 11 (args := #[.pointer (some ⟨bc, 0, none⟩), .int .i64 2, .slice p6 244 c6]) (ref_LayQ B bc bm pg N cg fa mf fc f (k + i) p K cI (levB t leaf m v u (f + k) b2 i) p6 c6 244 (nodB t leaf m v (chunkE u m i)) (f + k + i) _ (Nat.add_assoc _ _ _).symm hlen (by decide) (by omega) hf hR'10 hJ'9 (fun W _ hO => bys_of (own_sl (own_only h6'3 hO (by decide))) hlen) (Nat.le_trans hs_r4 hB.size)) ?_
     rintro _ W87 ⟨a9, c9, fa3, mf3, fc3, rfl, hb87, hO87, hR, hJ⟩
     refine xa 3 [.slice none 0 0, .int .i64 0] 31 fun b88 W88 n88 => ?_
     have k6_b1'7 := ((k6_b1.below hT85).below hb86).only hO87 (by decide)
     have d88_b1 := n88.ne k6_b1'7
     refine xsv 1 n88.blk [.slice a9 0 c9, .int .i64 0] fun W89 u89 k89 => ?_
     have g88 := n88.ge0 (hB.trans hb87)
     refine xb 6 1 k89 ?_
     refine xc 9 (args := #[.int .i64 (↑(f + k + i) : Int), .int .i64 4]) (ref_BytesN ((f + k + i : Nat) : Int) 4 4 _ (by omega) (by omega) rfl (by decide)) ?_
     rintro _ W90 ⟨_, rfl, hb90, pk, ck, rfl, h8b⟩
     have hs90 := (u89.below (Bl.nextB (hB.trans hb87) hs_r4 n88.below) (Nat.le_trans hs_r4 g88)).size
     have h8b'3 := own_mono h8b hs90
     refine xcv0 0 (fun _ _ _ zo zx => run_bstr zo zx (bys_of (own_sl h8b'3) (leB_len _ _)) (leB_len _ _) Tryz.underlying28 Tryz.underlying5 Tryz.underlying9) ?_
     refine xa 2 [.int .i64 0, .string ⟨#[]⟩, .int .i64 0] 99 fun b91 W91 n91 => ?_
     have hup'11 := own_below (u89.own2 (own_below (own_only (own_below (own_below hup hT85) hb86) hO87 (by decide)) n88.below) n88.blk (by decide)) hb90
     have r91_hup := own_ne hup'11 n91
     refine xsv 0 n91.blk [.int .i64 0, .string ⟨(leB (↑(f + k + i) : Int) 4).toArray⟩, .int .i64 (↑(f + k + i) : Int)] fun W92 u92 k92 => ?_
     have g91 := n91.ge0 (Bl.nextB (u89.below (Bl.nextB (hB.trans hb87) hs_r4 n88.below) (Nat.le_trans hs_r4 g88)) hs_r4 hb90)
     have k64_b62'5 := u92.blkT (((u89.blkT (((k64_b62.below hb86).only hO87 (by decide)).below n88.below) n88.blk (by decide)).below hb90).below n91.below) n91.blk (by decide)
     refine xb 6 2 k64_b62'5 ?_
     refine xid 4 ((↑j : Int) > (0 : Int)) (fun hc93 => ?_) (fun hc93 => ?_)
     · have hkey : ((keysE (chunkE u m i))).getD 0 0 = ((chunkE u m i).getD 0 entD).1 := chunk_key hjs (by omega)
       refine xb 2 2 k64_b62'5 ?_
       have hK'14 := u92.own2 (own_below (own_below (u89.own2 (own_below (own_only (own_below hK'13 hb86) hO87 (by decide)) n88.below) n88.blk (by decide)) hb90) n91.below) n91.blk (by decide)
       refine xx 0 _ j 0 1 (IntsN.elem (own_sl hK'14) (by rw [keysE_len, hcl]) (k := 0) (by omega)).1 ?_
       refine xl 0 ((IntsN.elem (own_sl hK'14) (by rw [keysE_len, hcl]) (k := 0) (by omega)).2) ?_
       refine xs 1 k92 [.int .i64 ((keysE (chunkE u m i)).getD 0 0), .string ⟨(leB (↑(f + k + i) : Int) 4).toArray⟩, .int .i64 (↑(f + k + i) : Int)] fun W94 u94 k94 => ?_
       refine xlv 5 k94.rp ?_
       refine xbs 0 1 [.int .i64 ((keysE (chunkE u m i)).getD 0 0), .string ⟨(leB (↑(f + k + i) : Int) 4).toArray⟩, .int .i64 (↑(f + k + i) : Int)] 99 fun b95 W95 n95 => ?_
       have d95_b91 := n95.ne k94
       have hB'40 := u94.below (u92.below (Bl.nextB (Bl.nextB (u89.below (Bl.nextB (hB.trans hb87) hs_r4 n88.below) (Nat.le_trans hs_r4 g88)) hs_r4 hb90) hs_r4 n91.below) (Nat.le_trans hs_r4 g91)) (Nat.le_trans hs_r4 g91)
       have hup'12 := u94.own3 (u92.own3 (own_below hup'11 n91.below) r91_hup) r91_hup
       have r95_hup := own_ne hup'12 n95
       have hup'13 := own_below hup'12 n95.below
       have hB'41 := Bl.nextB hB'40 hs_r4 n95.below
       refine xbi 0 fun _ _ _ _ zJ zQ zo zx zy zK => op_app (m := 1) (news := [.int .i64 ((keysE (chunkE u m i)).getD 0 0), .string ⟨(leB (↑(f + k + i) : Int) 4).toArray⟩, .int .i64 (↑(f + k + i) : Int)]) (.agg #[.int .i64 0, .string ⟨#[]⟩, .int .i64 0]) 3 32 (i + 1) ((upE u m (f + k) (i + 1)).flatMap entC) zo Tryz.underlying60 (by kernel_rfl) rfl (by decide) zx hup'13 zy (n95.blk.sl 1 1 (by decide) (by decide)) rfl (by simp [Value.oneCell']) (by unfold maxLen; omega) (by omega) hB'41.size (by rfl) (up_row (by first | exact hkey | exact hkey0)) fun p96 c96 W96 o96 hg96 hb96 => ?_
       refine zK _ _ ?_
       refine xwm 6 ((↑(i * m) : Int) + (↑m : Int)) (↑((i * m) + m) : Int) ?_
       refine xv1 3 10 (show (.int .i64 (↑((i * m) + m) : Int) : Value) = .int .i64 (↑((i + 1) * m) : Int) from by rw [Nat.add_mul, Nat.one_mul]) ?_
       have hR'11 := (((((((hR.below n88.below).only (Only.of_upd (T := [31]) u89 n88.blk (by decide)) (by decide)).below hb90).below n91.below).only (Only.of_upd (T := [99]) u92 n91.blk (by decide)) (by decide)).only (Only.of_upd (T := [99]) u94 k92 (by decide)) (by decide)).below n95.below).only (Only.of_grown (T := [99]) hg96 hup'13 (by decide)) (by decide)
       have hJ'10 := (((((((hJ.below n88.below).only (Only.of_upd (T := [31]) u89 n88.blk (by decide)) (by decide)).below hb90).below n91.below).only (Only.of_upd (T := [99]) u92 n91.blk (by decide)) (by decide)).only (Only.of_upd (T := [99]) u94 k92 (by decide)) (by decide)).below n95.below).only (Only.of_grown (T := [99]) hg96 hup'13 (by decide)) (by decide)
       have hB'42 := hB'41.trans (hb96.mono hs_r4)
       have hO'6 := (Only.grown_new ((Only.upd_new (Only.upd_new (((Only.upd_new ((hO.trans hO87).trans (Only.of_below n88.below)) u89 g88).trans (Only.of_below hb90)).trans (Only.of_below n91.below)) u92 g91) u94 g91).trans (Only.of_below n95.below)) hg96 hup'13)
       have k6_b1'8 := ((u94.blkT (u92.blkT (((u89.blk (k6_b1'7.below n88.below) (Ne.symm (Ne.symm d88_b1))).below hb90).below n91.below) n91.blk (by decide)) k92 (by decide)).below n95.below).grown hg96 hup'13 (by decide)
       exact ze 0 (hJ6 _ _ _ ⟨i + 1, _, _, _, _, _, rfl, rfl, hB'42, hO'6, k6_b1'8, o96, hR'11, hJ'10, by omega⟩ (by omega))
     have hkey0 : (0 : Int) = ((chunkE u m i).getD 0 entD).1 := chunk_nokey hjs (by omega)
     refine xlv 5 k92.rp ?_
     refine xbs 0 1 [.int .i64 0, .string ⟨(leB (↑(f + k + i) : Int) 4).toArray⟩, .int .i64 (↑(f + k + i) : Int)] 99 fun b97 W97 n97 => ?_
     have d97_b91 := n97.ne k92
     have hB'43 := u92.below (Bl.nextB (Bl.nextB (u89.below (Bl.nextB (hB.trans hb87) hs_r4 n88.below) (Nat.le_trans hs_r4 g88)) hs_r4 hb90) hs_r4 n91.below) (Nat.le_trans hs_r4 g91)
     have hup'14 := u92.own3 (own_below hup'11 n91.below) r91_hup
     have r97_hup := own_ne hup'14 n97
     have hup'15 := own_below hup'14 n97.below
     have hB'44 := Bl.nextB hB'43 hs_r4 n97.below
     refine xbi 0 fun _ _ _ _ zJ zQ zo zx zy zK => op_app (m := 1) (news := [.int .i64 0, .string ⟨(leB (↑(f + k + i) : Int) 4).toArray⟩, .int .i64 (↑(f + k + i) : Int)]) (.agg #[.int .i64 0, .string ⟨#[]⟩, .int .i64 0]) 3 32 (i + 1) ((upE u m (f + k) (i + 1)).flatMap entC) zo Tryz.underlying60 (by kernel_rfl) rfl (by decide) zx hup'15 zy (n97.blk.sl 1 1 (by decide) (by decide)) rfl (by simp [Value.oneCell']) (by unfold maxLen; omega) (by omega) hB'44.size (by rfl) (up_row (by first | exact hkey | exact hkey0)) fun p98 c98 W98 o98 hg98 hb98 => ?_
     refine zK _ _ ?_
     refine xwm 6 ((↑(i * m) : Int) + (↑m : Int)) (↑((i * m) + m) : Int) ?_
     refine xv1 3 10 (show (.int .i64 (↑((i * m) + m) : Int) : Value) = .int .i64 (↑((i + 1) * m) : Int) from by rw [Nat.add_mul, Nat.one_mul]) ?_
     have hR'12 := ((((((hR.below n88.below).only (Only.of_upd (T := [31]) u89 n88.blk (by decide)) (by decide)).below hb90).below n91.below).only (Only.of_upd (T := [99]) u92 n91.blk (by decide)) (by decide)).below n97.below).only (Only.of_grown (T := [99]) hg98 hup'15 (by decide)) (by decide)
     have hJ'11 := ((((((hJ.below n88.below).only (Only.of_upd (T := [31]) u89 n88.blk (by decide)) (by decide)).below hb90).below n91.below).only (Only.of_upd (T := [99]) u92 n91.blk (by decide)) (by decide)).below n97.below).only (Only.of_grown (T := [99]) hg98 hup'15 (by decide)) (by decide)
     have hB'45 := hB'44.trans (hb98.mono hs_r4)
     have hO'7 := (Only.grown_new ((Only.upd_new (((Only.upd_new ((hO.trans hO87).trans (Only.of_below n88.below)) u89 g88).trans (Only.of_below hb90)).trans (Only.of_below n91.below)) u92 g91).trans (Only.of_below n97.below)) hg98 hup'15)
     have k6_b1'9 := ((u92.blkT (((u89.blk (k6_b1'7.below n88.below) (Ne.symm (Ne.symm d88_b1))).below hb90).below n91.below) n91.blk (by decide)).below n97.below).grown hg98 hup'15 (by decide)
     exact ze 0 (hJ6 _ _ _ ⟨i + 1, _, _, _, _, _, rfl, rfl, hB'45, hO'7, k6_b1'9, o98, hR'12, hJ'11, by omega⟩ (by omega))
   have hc65 := of_decide_eq_false hc65
   refine xlv 16 k64_b62.rp ?_
   have hT99 : Below W6.heap.size W6 W64 := hB_64
   have hs99 : W4.heap.size ≤ W6.heap.size := hF61.size
   have hK'15 := own_mono hK hs99
   have hV'18 := own_mono hV hs99
   have hjs : sizN u.length m i = j := by omega
   have hcl : (chunkE u m i).length = j := by rw [chunk_len, hjs]
   have hck : (keysE (chunkE u m i)).take j = keysE (chunkE u m i) := List.take_of_length_le (by rw [keysE_len]; omega)
   have hcv : (valsE (chunkE u m i)).take j = valsE (chunkE u m i) := List.take_of_length_le (by rw [valsE_len]; omega)
   rw [hck] at hK'15
   rw [hcv] at hV'18
   have hN := chunk_ok hE ht1 ht2 hm hv (fun h => by have := hlu h; omega) (show i < (ovN u.length m) by omega)
   have hlen := nodB_len hN
   rw [hcl] at hN
   have hnd : nodeP m v (headB t leaf j m v) (keysE (chunkE u m i)) (valsE (chunkE u m i)) j = nodB t leaf m v (chunkE u m i) := by rw [← hcl]; rfl
   refine xc 0 (args := #[.agg #[.int .i64 t, .bool leaf, .slice kp j kc, .slice vp j vc]]) (ref07_Put t leaf j m v (keysE (chunkE u m i)) (valsE (chunkE u m i)) kp vp kc vc _ hN (own_sl hK'15) (own_sl hV'18)) ?_
   rintro _ W100 ⟨_, rfl, hb100, p6, c6, rfl, h6⟩
   have hs100 := (Bl.nextB hF61 hs_r4 hT99).size
   have h6'4 := own_mono h6 hs100
   rw [hnd] at h6'4
   have hR'13 := (hR.below hT99).below hb100
   have hJ'12 := (hJ.below hT99).below hb100
   have hO := (hOhF61.trans (Only.of_below hT99)).trans (Only.of_below hb100)
   have hB := Bl.nextB (Bl.nextB hF61 hs_r4 hT99) hs_r4 hb100
   refine xc 11 (args := #[.pointer (some ⟨bc, 0, none⟩), .int .i64 2, .slice p6 244 c6]) (ref_LayQ B bc bm pg N cg fa mf fc f (k + i) p K cI (levB t leaf m v u (f + k) b2 i) p6 c6 244 (nodB t leaf m v (chunkE u m i)) (f + k + i) _ (Nat.add_assoc _ _ _).symm hlen (by decide) (by omega) hf hR'13 hJ'12 (fun W _ hO => bys_of (own_sl (own_only h6'4 hO (by decide))) hlen) (Nat.le_trans hs_r4 hB.size)) ?_
   rintro _ W101 ⟨a9, c9, fa3, mf3, fc3, rfl, hb101, hO101, hR, hJ⟩
   refine xa 3 [.slice none 0 0, .int .i64 0] 31 fun b102 W102 n102 => ?_
   have k6_b1'10 := ((k6_b1.below hT99).below hb100).only hO101 (by decide)
   have d102_b1 := n102.ne k6_b1'10
   refine xsv 1 n102.blk [.slice a9 0 c9, .int .i64 0] fun W103 u103 k103 => ?_
   have g102 := n102.ge0 (hB.trans hb101)
   refine xb 6 1 k103 ?_
   refine xc 9 (args := #[.int .i64 (↑(f + k + i) : Int), .int .i64 4]) (ref_BytesN ((f + k + i : Nat) : Int) 4 4 _ (by omega) (by omega) rfl (by decide)) ?_
   rintro _ W104 ⟨_, rfl, hb104, pk, ck, rfl, h8b⟩
   have hs104 := (u103.below (Bl.nextB (hB.trans hb101) hs_r4 n102.below) (Nat.le_trans hs_r4 g102)).size
   have h8b'4 := own_mono h8b hs104
   refine xcv0 0 (fun _ _ _ zo zx => run_bstr zo zx (bys_of (own_sl h8b'4) (leB_len _ _)) (leB_len _ _) Tryz.underlying28 Tryz.underlying5 Tryz.underlying9) ?_
   refine xa 2 [.int .i64 0, .string ⟨#[]⟩, .int .i64 0] 99 fun b105 W105 n105 => ?_
   have hup'16 := own_below (u103.own2 (own_below (own_only (own_below (own_below hup hT99) hb100) hO101 (by decide)) n102.below) n102.blk (by decide)) hb104
   have r105_hup := own_ne hup'16 n105
   refine xsv 0 n105.blk [.int .i64 0, .string ⟨(leB (↑(f + k + i) : Int) 4).toArray⟩, .int .i64 (↑(f + k + i) : Int)] fun W106 u106 k106 => ?_
   have g105 := n105.ge0 (Bl.nextB (u103.below (Bl.nextB (hB.trans hb101) hs_r4 n102.below) (Nat.le_trans hs_r4 g102)) hs_r4 hb104)
   have k64_b62'6 := u106.blkT (((u103.blkT (((k64_b62.below hb100).only hO101 (by decide)).below n102.below) n102.blk (by decide)).below hb104).below n105.below) n105.blk (by decide)
   refine xb 6 2 k64_b62'6 ?_
   refine xid 4 ((↑j : Int) > (0 : Int)) (fun hc107 => ?_) (fun hc107 => ?_)
   · have hkey : ((keysE (chunkE u m i))).getD 0 0 = ((chunkE u m i).getD 0 entD).1 := chunk_key hjs (by omega)
     refine xb 2 2 k64_b62'6 ?_
     have hK'16 := u106.own2 (own_below (own_below (u103.own2 (own_below (own_only (own_below hK'15 hb100) hO101 (by decide)) n102.below) n102.blk (by decide)) hb104) n105.below) n105.blk (by decide)
     refine xx 0 _ j 0 1 (IntsN.elem (own_sl hK'16) (by rw [keysE_len, hcl]) (k := 0) (by omega)).1 ?_
     refine xl 0 ((IntsN.elem (own_sl hK'16) (by rw [keysE_len, hcl]) (k := 0) (by omega)).2) ?_
     refine xs 1 k106 [.int .i64 ((keysE (chunkE u m i)).getD 0 0), .string ⟨(leB (↑(f + k + i) : Int) 4).toArray⟩, .int .i64 (↑(f + k + i) : Int)] fun W108 u108 k108 => ?_
     refine xlv 5 k108.rp ?_
     refine xbs 0 1 [.int .i64 ((keysE (chunkE u m i)).getD 0 0), .string ⟨(leB (↑(f + k + i) : Int) 4).toArray⟩, .int .i64 (↑(f + k + i) : Int)] 99 fun b109 W109 n109 => ?_
     have d109_b105 := n109.ne k108
     have hB'46 := u108.below (u106.below (Bl.nextB (Bl.nextB (u103.below (Bl.nextB (hB.trans hb101) hs_r4 n102.below) (Nat.le_trans hs_r4 g102)) hs_r4 hb104) hs_r4 n105.below) (Nat.le_trans hs_r4 g105)) (Nat.le_trans hs_r4 g105)
     have hup'17 := u108.own3 (u106.own3 (own_below hup'16 n105.below) r105_hup) r105_hup
     have r109_hup := own_ne hup'17 n109
     have hup'18 := own_below hup'17 n109.below
     have hB'47 := Bl.nextB hB'46 hs_r4 n109.below
     refine xbi 0 fun _ _ _ _ zJ zQ zo zx zy zK => op_app (m := 1) (news := [.int .i64 ((keysE (chunkE u m i)).getD 0 0), .string ⟨(leB (↑(f + k + i) : Int) 4).toArray⟩, .int .i64 (↑(f + k + i) : Int)]) (.agg #[.int .i64 0, .string ⟨#[]⟩, .int .i64 0]) 3 32 (i + 1) ((upE u m (f + k) (i + 1)).flatMap entC) zo Tryz.underlying60 (by kernel_rfl) rfl (by decide) zx hup'18 zy (n109.blk.sl 1 1 (by decide) (by decide)) rfl (by simp [Value.oneCell']) (by unfold maxLen; omega) (by omega) hB'47.size (by rfl) (up_row (by first | exact hkey | exact hkey0)) fun p110 c110 W110 o110 hg110 hb110 => ?_
     refine zK _ _ ?_
     refine xwm 6 ((↑(i * m) : Int) + (↑m : Int)) (↑((i * m) + m) : Int) ?_
     refine xv1 3 10 (show (.int .i64 (↑((i * m) + m) : Int) : Value) = .int .i64 (↑((i + 1) * m) : Int) from by rw [Nat.add_mul, Nat.one_mul]) ?_
     have hR'14 := (((((((hR.below n102.below).only (Only.of_upd (T := [31]) u103 n102.blk (by decide)) (by decide)).below hb104).below n105.below).only (Only.of_upd (T := [99]) u106 n105.blk (by decide)) (by decide)).only (Only.of_upd (T := [99]) u108 k106 (by decide)) (by decide)).below n109.below).only (Only.of_grown (T := [99]) hg110 hup'18 (by decide)) (by decide)
     have hJ'13 := (((((((hJ.below n102.below).only (Only.of_upd (T := [31]) u103 n102.blk (by decide)) (by decide)).below hb104).below n105.below).only (Only.of_upd (T := [99]) u106 n105.blk (by decide)) (by decide)).only (Only.of_upd (T := [99]) u108 k106 (by decide)) (by decide)).below n109.below).only (Only.of_grown (T := [99]) hg110 hup'18 (by decide)) (by decide)
     have hB'48 := hB'47.trans (hb110.mono hs_r4)
     have hO'8 := (Only.grown_new ((Only.upd_new (Only.upd_new (((Only.upd_new ((hO.trans hO101).trans (Only.of_below n102.below)) u103 g102).trans (Only.of_below hb104)).trans (Only.of_below n105.below)) u106 g105) u108 g105).trans (Only.of_below n109.below)) hg110 hup'18)
     have k6_b1'11 := ((u108.blkT (u106.blkT (((u103.blk (k6_b1'10.below n102.below) (Ne.symm (Ne.symm d102_b1))).below hb104).below n105.below) n105.blk (by decide)) k106 (by decide)).below n109.below).grown hg110 hup'18 (by decide)
     exact ze 0 (hJ6 _ _ _ ⟨i + 1, _, _, _, _, _, rfl, rfl, hB'48, hO'8, k6_b1'11, o110, hR'14, hJ'13, by omega⟩ (by omega))
   have hkey0 : (0 : Int) = ((chunkE u m i).getD 0 entD).1 := chunk_nokey hjs (by omega)
   refine xlv 5 k106.rp ?_
   refine xbs 0 1 [.int .i64 0, .string ⟨(leB (↑(f + k + i) : Int) 4).toArray⟩, .int .i64 (↑(f + k + i) : Int)] 99 fun b111 W111 n111 => ?_
   have d111_b105 := n111.ne k106
   have hB'49 := u106.below (Bl.nextB (Bl.nextB (u103.below (Bl.nextB (hB.trans hb101) hs_r4 n102.below) (Nat.le_trans hs_r4 g102)) hs_r4 hb104) hs_r4 n105.below) (Nat.le_trans hs_r4 g105)
   have hup'19 := u106.own3 (own_below hup'16 n105.below) r105_hup
   have r111_hup := own_ne hup'19 n111
   have hup'20 := own_below hup'19 n111.below
   have hB'50 := Bl.nextB hB'49 hs_r4 n111.below
   refine xbi 0 fun _ _ _ _ zJ zQ zo zx zy zK => op_app (m := 1) (news := [.int .i64 0, .string ⟨(leB (↑(f + k + i) : Int) 4).toArray⟩, .int .i64 (↑(f + k + i) : Int)]) (.agg #[.int .i64 0, .string ⟨#[]⟩, .int .i64 0]) 3 32 (i + 1) ((upE u m (f + k) (i + 1)).flatMap entC) zo Tryz.underlying60 (by kernel_rfl) rfl (by decide) zx hup'20 zy (n111.blk.sl 1 1 (by decide) (by decide)) rfl (by simp [Value.oneCell']) (by unfold maxLen; omega) (by omega) hB'50.size (by rfl) (up_row (by first | exact hkey | exact hkey0)) fun p112 c112 W112 o112 hg112 hb112 => ?_
   refine zK _ _ ?_
   refine xwm 6 ((↑(i * m) : Int) + (↑m : Int)) (↑((i * m) + m) : Int) ?_
   refine xv1 3 10 (show (.int .i64 (↑((i * m) + m) : Int) : Value) = .int .i64 (↑((i + 1) * m) : Int) from by rw [Nat.add_mul, Nat.one_mul]) ?_
   have hR'15 := ((((((hR.below n102.below).only (Only.of_upd (T := [31]) u103 n102.blk (by decide)) (by decide)).below hb104).below n105.below).only (Only.of_upd (T := [99]) u106 n105.blk (by decide)) (by decide)).below n111.below).only (Only.of_grown (T := [99]) hg112 hup'20 (by decide)) (by decide)
   have hJ'14 := ((((((hJ.below n102.below).only (Only.of_upd (T := [31]) u103 n102.blk (by decide)) (by decide)).below hb104).below n105.below).only (Only.of_upd (T := [99]) u106 n105.blk (by decide)) (by decide)).below n111.below).only (Only.of_grown (T := [99]) hg112 hup'20 (by decide)) (by decide)
   have hB'51 := hB'50.trans (hb112.mono hs_r4)
   have hO'9 := (Only.grown_new ((Only.upd_new (((Only.upd_new ((hO.trans hO101).trans (Only.of_below n102.below)) u103 g102).trans (Only.of_below hb104)).trans (Only.of_below n105.below)) u106 g105).trans (Only.of_below n111.below)) hg112 hup'20)
   have k6_b1'12 := ((u106.blkT (((u103.blk (k6_b1'10.below n102.below) (Ne.symm (Ne.symm d102_b1))).below hb104).below n105.below) n105.blk (by decide)).below n111.below).grown hg112 hup'20 (by decide)
   exact ze 0 (hJ6 _ _ _ ⟨i + 1, _, _, _, _, _, rfl, rfl, hB'51, hO'9, k6_b1'12, o112, hR'15, hJ'14, by omega⟩ (by omega))
 refine xie 13 (↑i : Int) (1 : Int) (fun hc113 => ?_) (fun hc113 => ?_)
 · refine xx 3 _ i 0 3 (up_at (own_sl hup) (by omega)).1 ?_
   refine xl 1 ((up_at (own_sl hup) (by omega)).2) ?_
   refine xsv 2 k6_b1 [.slice none 0 0, .int .i64 0] fun W114 u114 k114 => ?_
   have g1 := n1.ge0 (Below.refl B _)
   have hB := u114.below (hB_4.trans hB_6) (Nat.le_trans hBw g1)
   have hO := (Only.upd_new (hO_4.trans hO_6) u114 g1)
   have hR'16 := hR.only (Only.of_upd (T := [31]) u114 k6_b1 (by decide)) (by decide)
   have hJ'15 := hJ.only (Only.of_upd (T := [31]) u114 k6_b1 (by decide)) (by decide)
   refine xec 7 k114 (.tuple #[.int .i64 ((upX u m (f + k) 0).2.2), .agg #[.slice none 0 0, .int .i64 0]]) ?_
   have hiv : i = (ovN u.length m) := from_end hmb.1 hi (by omega) (by omega)
   have hi1 : (ovN u.length m) ≤ 1 := by omega
   have e1 : treeL t leaf m v u (f + k) b2 = ((upX u m (f + k) 0).2.2, (levB t leaf m v u (f + k) b2 i)) := by
     unfold treeL; rw [treeUp_one (by rw [upE_len]; exact hi1), upE_get (by omega), hiv]
   have e2 : (levs (ovN u.length m)).sum = (ovN u.length m) := by rw [levs_one hi1]; simp
   rw [htr] at e1
   unfold RTreeP
   rw [e1, show k0 + nodN t l.length = k + i by omega]
   exact ⟨_, _, _, rfl, hB, hO, hR'16, hJ'15⟩
 refine xv1 12 2 (show (.slice p4 i c4 : Value) = .slice p4 ((upE u m (f + k) i).length) c4 from by rw [upE_len]) ?_
 have hiv : i = (ovN u.length m) := from_end hmb.1 hi (by omega) (by omega)
 have hi1 : ¬ (ovN u.length m) ≤ 1 := by omega
 have hlm : (levs (ovN u.length m)).sum = (ovN u.length m) + (levs (ovN (ovN u.length m) 18)).sum := by rw [levs_more hi1]; rfl
 have hB := hB_4.trans hB_6
 have hO := hO_4.trans hO_6
 refine ze 0 (hJ4 _ _ _ ⟨(upE u m (f + k) i), (k + i), 18, 4, _, (levB t leaf m v u (f + k) b2 i), _, _, rfl, rfl, hB, hO, k6_b1, ⟨_, _, _, hR⟩, hJ, fun W _ h2 => by rw [upE_len]; unfold Sts; rw [upE_len]; exact own_sl (own_only hup h2 (by decide)), rfl, rfl, (by rw [hiv]; exact up_ok hE hmb.1), (by rw [upE_len, hiv]; omega), fun _ => by rw [upE_len]; omega, (by rw [upE_len]; omega), (by rw [← htr, hiv]; show _ = treeUp _ _ _ _; rw [treeUp_more (by rw [upE_len]; exact hi1), Nat.add_assoc]; rfl)⟩ ?_)
 rw [if_neg (by decide), upE_len]
 by_cases hlf : leaf = true
 · rw [if_pos hlf]; omega
 · rw [if_neg hlf]
   have hf9 : leaf = false := by simpa using hlf
   have h29 := hlu hf9
   have hm18 : m = 18 := by rw [← hm, hf9]; rfl
   have h18 := ov18 h29
   rw [hm18] at hiv; omega
end Go.Proofs.YtbhjgcokpmiopaaGreatDoor
namespace Go.Proofs.YtbhjgcokpmiopaaGreatDoor
open Go.RowKit Go.Extern.Stop Go.Stop Go.Extern
set_option linter.unusedVariables false
attribute [local irreducible] wpList wpAnyH Code.wp Oper.wp Go

/-- a block of any kind laid by the document's allocator -/
def RLaidK (kind : Int) (B bc bm : Nat) (pg : Option Addr) (N cg f k : Nat) (p : Option Addr) (K c : Nat) (l : List UInt8) (li : List UInt8) (q : Nat) (w : World) (e : Ending) (w' : World) : Prop :=
  ∃ a c2 fa m fc, e = .returned (.tuple #[.int .i64 (q : Int), .agg #[.slice a 0 c2, .int .i64 0]]) ∧ Below B w w' ∧ Only [47, 9] w w' ∧ RAl B bc bm pg N cg fa m fc (k + 1) (rngJ f N) w' ∧ RefI B bm p K c (putB l (q * 256) (sealB kind (q : Int) li)) w'
theorem ref_LayK (kind : Int) (hk1 : 1 ≤ kind) (hk4 : kind ≤ 4) (B bc bm : Nat) (pg : Option Addr) (N cg : Nat) (fa : Option Addr) (m fc f k : Nat) (p : Option Addr) (K c : Nat) (l : List UInt8) (a : Option Addr) (ci n' : Nat) (li : List UInt8) (q : Nat) (w : World) (hq : f + k = q) (hn' : li.length = n') (hl : n' ≤ 244) (hkN : k < N) (hf : f + N ≤ K) (hA : RAl B bc bm pg N cg fa m fc k (rngJ f N) w) (hI : RefI B bm p K c l w) (hin : ∀ W, Below B w W → Only [47, 9] w W → Bys W (.slice a n' ci) li) (hBw : B ≤ w.heap.size) :
    Calls Tryz.prog 43 #[.pointer (some ⟨bc, 0, none⟩), .int .i64 kind, .slice a n' ci] w (RLaidK kind B bc bm pg N cg f k p K c l li q w) := by
  subst hq hn'
  have hK := hI.hk
  have hL : (rngJ f N).getD k 0 = ((f + k : Nat) : Int) := rngJ_get hkN
  have hs : sealE kind ((f + k : Nat) : Int) li = 0 := by
    unfold sealE
    rw [if_pos (show knownB kind ((f + k : Nat) : Int) = true from decide_eq_true (by omega)), if_pos hl]
  have hw : wrE kind ((rngJ f N).getD k 0) K li = 0 := by
    rw [hL]; unfold wrE; rw [if_pos hs, if_pos (by omega)]
  refine (ref_Lay B bc bm pg N cg fa m fc k (rngJ f N) p K c l kind a ci li w hA hI hin hBw).mono ?_
  rintro e W ⟨a2, c2, fa2, m2, fc2, rfl, hb, hO, hA2, hI2, h5⟩
  have e1 : lyV k N K (rngJ f N) kind li = ((f + k : Nat) : Int) := by rw [lyV, if_pos ⟨hkN, hw⟩, hL]
  have e2 : lyE k N K (rngJ f N) kind li = 0 := by rw [lyE, if_pos hkN, hw]
  have e3 : lyB k N K (rngJ f N) kind li = [] := by rw [lyB, if_pos hkN, hw]; rfl
  have e4 : lyK k N K (rngJ f N) kind li = k + 1 := by rw [lyK, if_pos ⟨hkN, hw⟩]
  have e5 : lyL k N K (rngJ f N) kind li l = putB l ((f + k) * 256) (sealB kind ((f + k : Nat) : Int) li) := by rw [lyL, if_pos hkN, wrL, if_pos hw, hL]; rfl
  rw [e4] at hA2
  rw [e5] at hI2
  exact ⟨a2, c2, fa2, m2, fc2, by rw [e1, e2, e3]; rfl, hb, hO, hA2, hI2⟩
/-- slots of blocks of counts -/
def rsV (L : List (List Int)) (q i : Nat) : List Value := [.int .i64 ((q + i : Nat) : Int), .int .i64 (freeN (L.getD i []) : Int), .int .i64 (firstN (L.getD i []) : Int)]
def rsL (L : List (List Int)) (q n : Nat) : List Value := (List.range n).flatMap (rsV L q)
theorem rsL_succ (L : List (List Int)) (q n : Nat) : rsL L q (n + 1) = rsL L q n ++ rsV L q n := by simp [rsL, List.range_succ]
def RLayP (B bc bm : Nat) (pg : Option Addr) (N cg f k0 : Nat) (p : Option Addr) (K c : Nat) (bs : List UInt8) (L : List (List Int)) (w : World) (e : Ending) (w' : World) : Prop :=
  ∃ a c2 fa m fc, e = .returned (.slice a L.length c2) ∧ Below B w w' ∧ Only [47, 9] w w' ∧ RAl B bc bm pg N cg fa m fc (k0 + L.length) (rngJ f N) w' ∧ RefI B bm p K c (cntsB L (f + k0) bs L.length) w' ∧ w'.ownsRow w.heap.size 72 3 (.slice a L.length c2) L.length (rsL L (f + k0) L.length)
set_option maxRecDepth 100000 in
set_option maxHeartbeats 1000000 in
theorem ref22_bad (er : Int) (w : World) :
    Calls Tryz.prog 35 #[.int .i64 er] w (Ret (.agg #[.slice none 0 0, .int .i64 er]) w) := by
 refine zin 5 Tryz.func35 ?_
 refine xa 2 [.slice none 0 0, .int .i64 0] 31 fun b1 W1 n1 => ?_
 refine xsv 6 n1.blk [.slice none 0 0, .int .i64 er] fun W2 u2 k2 => ?_
 have g1 := n1.ge (Below.refl w.heap.size _)
 have hB := u2.below n1.below g1
 exact xec 3 k2 (.agg #[.slice none 0 0, .int .i64 er]) ⟨rfl, hB⟩
set_option maxRecDepth 100000 in
set_option maxHeartbeats 2000000 in
theorem ref09_Free (a : Option Addr) (c : Nat) (l : List Int) (w : World) (hl : l.length ≤ 960) (h : Sl w (.slice a l.length c) l.length (l.map (Value.int .i64))) :
    Calls Tryz.prog 74 #[.slice a l.length c] w (Ret (.tuple #[.int .i64 (↑(freeN l) : Int), .int .i64 (↑(firstN l) : Int)]) w) := by
 refine zin 35 Tryz.func74 ?_
 have hB := Below.refl w.heap.size w
 refine zl 18 35 (fun zm zkv V => ∃ (i f : Nat), zkv = [(0, .slice a l.length c), (2, .int .i64 0), (3, .int .i64 0), (4, .int .i64 (↑f : Int)), (5, .int .i64 (↑i : Int))] ∧ zm = l.length - ((↑i : Int)).toNat ∧ Below w.heap.size w V ∧ i ≤ l.length ∧ f = freeK l i) ⟨0, 0, rfl, rfl, hB, Nat.zero_le _, rfl⟩ ?_
 rintro _ _ W1 ⟨i, f, rfl, rfl, hB_1, hi, hf⟩ J1 hJ1 r1
 have hfs := fun (q : i < l.length) => freeK_succ q
 have hfb := freeK_le l i
 refine xid 9 ((↑i : Int) < (↑l.length : Int)) (fun hc2 => ?_) (fun hc2 => ?_)
 · refine xx 8 _ l.length i 1 (Ints.elem h (k := i) (by omega)).1 ?_
   refine xl 0 ((Ints.elem (h.below hB_1) (k := i) (by omega)).2) ?_
   refine xie 3 (l.getD i 0) (0 : Int) (fun hc3 => ?_) (fun hc3 => ?_)
   · refine xwm 2 ((↑f : Int) + 1) (↑(f + 1) : Int) ?_
     refine xwm 6 ((↑i : Int) + 1) (↑(i + 1) : Int) ?_
     exact ze 2 (hJ1 _ _ _ ⟨i + 1, f + 1, rfl, rfl, hB_1, by omega, by rw [hfs (by omega), if_pos (by assumption), hf]⟩ (by omega))
   refine xwm 5 ((↑i : Int) + 1) (↑(i + 1) : Int) ?_
   exact ze 2 (hJ1 _ _ _ ⟨i + 1, f, rfl, rfl, hB_1, by omega, by rw [hfs (by omega), if_neg (by assumption)]; exact hf⟩ (by omega))
 refine zl 12 35 (fun zm zkv V => ∃ (g : Nat), zkv = [(0, .slice a l.length c), (2, .int .i64 0), (3, .int .i64 0), (4, .int .i64 (↑f : Int)), (6, .int .i64 (↑g : Int))] ∧ zm = l.length - ((↑g : Int)).toNat ∧ Below w.heap.size w V ∧ g ≤ l.length ∧ ((∀ j, j < g → l.getD j 0 ≠ 0))) ⟨0, rfl, rfl, hB_1, Nat.zero_le _, ?_⟩ ?_
 · exact fun j hj => absurd hj (by omega)
 rintro _ _ W4 ⟨g, rfl, rfl, hB_4, hg, hz⟩ J4 hJ4 r4
 refine xg 8 [23, 24] (decide ((↑g : Int) < (↑l.length : Int))) (fun hc5 => ?_) (fun hc5 => ?_)
 · have hc5 := of_decide_eq_true hc5
   refine xx 2 _ l.length g 1 (Ints.elem h (k := g) (by omega)).1 ?_
   refine xl 0 ((Ints.elem (h.below hB_4) (k := g) (by omega)).2) ?_
   refine xin 4 (l.getD g 0) (0 : Int) (fun hc6 => ?_) (fun hc6 => ?_)
   · refine xwm 5 ((↑g : Int) + 1) (↑(g + 1) : Int) ?_
     exact ze 3 (hJ4 _ _ _ ⟨g + 1, rfl, rfl, hB_4, by omega, fun j hj => (Nat.lt_or_ge j g).elim (fun q => hz j q) (fun q => by obtain rfl : j = g := (by omega); first | assumption | omega)⟩ (by omega))
   refine xe 14 (.tuple #[.int .i64 (↑f : Int), .int .i64 (↑g : Int)]) ?_
   obtain rfl : i = l.length := by omega
   have hfin : f = freeN l := hf
   have hgf : g = firstN l := by first | (exact (firstN_at (by omega) (by omega) hz).symm) | (obtain rfl : g = l.length := (by omega); exact (firstN_none hz).symm)
   subst hfin hgf
   exact ⟨rfl, hB_4⟩
 have hc5 := of_decide_eq_false hc5
 refine xe 23 (.tuple #[.int .i64 (↑f : Int), .int .i64 (↑g : Int)]) ?_
 obtain rfl : i = l.length := by omega
 have hfin : f = freeN l := hf
 have hgf : g = firstN l := by first | (exact (firstN_at (by omega) (by omega) hz).symm) | (obtain rfl : g = l.length := (by omega); exact (firstN_none hz).symm)
 subst hfin hgf
 exact ⟨rfl, hB_4⟩
set_option maxRecDepth 100000 in
set_option maxHeartbeats 8000000 in
theorem ref22_lay (B bc bm : Nat) (pg : Option Addr) (N cg : Nat) (fa0 : Option Addr) (mf0 fc0 f k0 : Nat) (p : Option Addr) (K cI : Nat) (bs : List UInt8) (B2 : Nat) (pl : Option Addr) (cl : Nat) (gs : List (Nat × Nat)) (L : List (List Int)) (w : World) (hR : RAl B bc bm pg N cg fa0 mf0 fc0 k0 (rngJ f N) w) (hJ : RefI B bm p K cI bs w) (hL : Lists w B2 (.slice pl L.length cl) gs L) (hS : ∀ i, i < L.length → Small (L.getD i []) ∧ (L.getD i []).length ≤ 960) (hf : f + N ≤ K) (hk : k0 + L.length ≤ N) (hLn : L.length ≤ 1000000) (hBw : B ≤ w.heap.size) :
    Calls Tryz.prog 42 #[.pointer (some ⟨bc, 0, none⟩), .slice pl L.length cl] w (RLayP B bc bm pg N cg f k0 p K cI bs L w) := by
 refine zin 49 Tryz.func42 ?_
 have hB := Below.refl B w
 refine zl 17 49 (fun zm zkv V => ∃ (i : Nat) (fa : Option Addr) (mf fc : Nat) (p5 : Option Addr) (c5 : Nat), zkv = [(0, .pointer (some ⟨bc, 0, none⟩)), (1, .slice pl L.length cl), (4, .slice none 0 0), (5, .slice p5 i c5), (6, .int .i64 (↑i : Int))] ∧ zm = L.length - ((↑i : Int)).toNat ∧ Below B w V ∧ Only [47, 9] w V ∧ RAl B bc bm pg N cg fa mf fc (k0 + i) (rngJ f N) V ∧ RefI B bm p K cI (cntsB L (f + k0) bs i) V ∧ Lists V B2 (.slice pl L.length cl) gs L ∧ V.ownsRow w.heap.size 72 3 (.slice p5 i c5) i (rsL L (f + k0) i) ∧ i ≤ L.length) ⟨0, fa0, mf0, fc0, none, 0, rfl, rfl, hB, (Only.refl _ _), hR, hJ, hL, World.ownsRow_nil _ _ _ _, Nat.zero_le _⟩ ?_
 rintro _ _ W1 ⟨i, fa, mf, fc, p5, c5, rfl, rfl, hB_1, hO_1, hR, hJ, hL, hup, hi⟩ J1 hJ1 r1
 refine xid 9 ((↑i : Int) < (↑L.length : Int)) (fun hc2 => ?_) (fun hc2 => ?_)
 · refine xx 8 _ L.length i 1 (Lists.elem hL rfl (k := i) (by omega)).1 ?_
   refine xl 0 ((Lists.elem hL rfl (k := i) (by omega)).2) ?_
   refine xc 0 (args := #[.slice (some ⟨(gs.getD i (0, 0)).1, 0, none⟩) ((L.getD i []).length) ((gs.getD i (0, 0)).2)]) (ref09_Put (some ⟨(gs.getD i (0, 0)).1, 0, none⟩) (gs.getD i (0, 0)).2 (L.getD i []) _ (hS i (by omega)).1 (hS i (by omega)).2 (own_sl (hL.each i (by omega)))) ?_
   rintro _ W3 ⟨_, rfl, hb3, p6, c6, rfl, h6⟩
   have hR'1 := hR.below hb3
   have hJ'1 := hJ.below hb3
   have hO'1 := hO_1.trans (Only.of_below hb3)
   have h6'1 := own_mono h6 hB_1.size
   have hB'1 := Bl.nextB hB_1 hBw hb3
   refine xc 11 (args := #[.pointer (some ⟨bc, 0, none⟩), .int .i64 3, .slice p6 244 c6]) (ref_LayK 3 (by decide) (by decide) B bc bm pg N cg fa mf fc f (k0 + i) p K cI (cntsB L (f + k0) bs i) p6 c6 244 (bitsB (L.getD i [])) (f + k0 + i) _ (Nat.add_assoc _ _ _).symm (bitsT_len _ _) (by decide) (by omega) hf hR'1 hJ'1 (fun W _ hO'1 => bys_of (own_sl (own_only h6'1 hO'1 (by decide))) (bitsT_len _ _)) (Nat.le_trans hBw hB'1.size)) ?_
   rintro _ W4 ⟨a9, c9, fa3, mf3, fc3, rfl, hb4, hO4, hR, hJ⟩
   refine xa 3 [.slice none 0 0, .int .i64 0] 31 fun b5 W5 n5 => ?_
   have hB'2 := hB'1.trans hb4
   have g5 := n5.ge0 hB'2
   refine xsv 1 n5.blk [.slice a9 0 c9, .int .i64 0] fun W6 u6 k6 => ?_
   have hL'1 := (((hL.below hb3).only hO4 (by decide)).below n5.below).only (Only.of_upd (T := [31]) u6 n5.blk (by decide)) (by decide)
   refine xx 6 _ L.length i 1 (Lists.elem hL'1 rfl (k := i) (by omega)).1 ?_
   refine xl 0 ((Lists.elem hL'1 rfl (k := i) (by omega)).2) ?_
   refine xr 0 (args := #[.slice (some ⟨(gs.getD i (0, 0)).1, 0, none⟩) ((L.getD i []).length) ((gs.getD i (0, 0)).2)]) (ref09_Free (some ⟨(gs.getD i (0, 0)).1, 0, none⟩) (gs.getD i (0, 0)).2 (L.getD i []) _ (hS i (by omega)).2 (own_sl (hL'1.each i (by omega)))) fun W7 hb7 => ?_
   refine xbs 13 1 [.int .i64 (↑(f + k0 + i) : Int), .int .i64 (↑(freeN (L.getD i [])) : Int), .int .i64 (↑(firstN (L.getD i [])) : Int)] 72 fun b8 W8 n8 => ?_
   have hB'3 := Bl.nextB (u6.below (Bl.nextB hB'2 hBw n5.below) (Nat.le_trans hBw g5)) hBw hb7
   have g8 := n8.ge0 hB'3
   have hup'1 := own_below (u6.own2 (own_below (own_only (own_below hup hb3) hO4 (by decide)) n5.below) n5.blk (by decide)) hb7
   have r8_hup := own_ne hup'1 n8
   have hup'2 := own_below hup'1 n8.below
   have hB'4 := Bl.nextB hB'3 hBw n8.below
   refine xbi 0 fun _ _ _ _ zJ zQ zo zx zy zK => op_app (m := 1) (news := [.int .i64 (↑(f + k0 + i) : Int), .int .i64 (↑(freeN (L.getD i [])) : Int), .int .i64 (↑(firstN (L.getD i [])) : Int)]) (.agg #[.int .i64 0, .int .i64 0, .int .i64 0]) 3 24 (i + 1) ((rsL L (f + k0) (i + 1))) zo Tryz.underlying69 (by kernel_rfl) rfl (by decide) zx hup'2 zy (n8.blk.sl 1 1 (by decide) (by decide)) rfl (by simp [Value.oneCell']) (by unfold maxLen; omega) (by omega) hB'4.size (by rfl) (by rw [rsL_succ]; rfl) fun px9 cx9 W9 o9 hg9 hb9 => ?_
   refine zK _ _ ?_
   refine xwm 6 ((↑i : Int) + 1) (↑(i + 1) : Int) ?_
   have hB'5 := hB'4.trans (hb9.mono hBw)
   have hO'2 := (Only.grown_new (((Only.upd_new ((hO'1.trans hO4).trans (Only.of_below n5.below)) u6 g5).trans (Only.of_below hb7)).trans (Only.of_below n8.below)) hg9 hup'2)
   have hR'2 := ((((hR.below n5.below).only (Only.of_upd (T := [31]) u6 n5.blk (by decide)) (by decide)).below hb7).below n8.below).only (Only.of_grown (T := [72]) hg9 hup'2 (by decide)) (by decide)
   have hJ'2 := ((((hJ.below n5.below).only (Only.of_upd (T := [31]) u6 n5.blk (by decide)) (by decide)).below hb7).below n8.below).only (Only.of_grown (T := [72]) hg9 hup'2 (by decide)) (by decide)
   have hL'2 := ((hL'1.below hb7).below n8.below).only (Only.of_grown (T := [72]) hg9 hup'2 (by decide)) (by decide)
   exact ze 2 (hJ1 _ _ _ ⟨i + 1, _, _, _, _, _, rfl, rfl, hB'5, hO'2, hR'2, hJ'2, hL'2, o9, by omega⟩ (by omega))
 refine xe 12 (.slice p5 i c5) ?_
 obtain rfl : i = L.length := by omega
 exact ⟨_, _, _, _, _, rfl, hB_1, hO_1, hR, hJ, hup⟩
end Go.Proofs.YtbhjgcokpmiopaaGreatDoor
