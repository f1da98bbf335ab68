/- build.level at entries that are right, in an allocator with room. build.Tree at entries that are right: with room, and without. The example of law 17. size.Bitmaps, plot.Data with room and without. Strings compared, and the bytes of a number that was read. No program is named here. value.ReadRoot, whatever the string. Package value: put and read, for any parts. Counts joined with those above them, plainly. What was sealed opens: a plain law on lists of bytes. append(s, make([]byte, k)...) at a literal s. The document's Same of layer 1. The document's answer for the layers 3, 4 and 11, read: Open, Image.Read, in. A node's bytes, part by part: a plain law. slices.Contains of ints. Child and Split of package span return the plain functions below, for any span and any slice of keys. (*walker).look. (*walker).leaf. append onto one of two rows of the same type: where the new row lies. What a scan computes, in plain Lean: the walker's state, a visit, and how the state lies in memory. (*walker).child, given what a visit one deeper does. The lists of a scan only grow. -/
import Derived.Laws.IdiomStrings
import Derived.Lib.AppendZerosOnto
import Derived.Test.YthlakkdgcgkcdaaGreatMg3
namespace Go.Proofs.YthlakkdgcgkcdaaGreat
open Go.RowKit Go.Extern.Stop Go.Stop Go.Extern
set_option linter.unusedVariables false
attribute [local irreducible] wpList wpAnyH Code.wp Oper.wp Go

def LevelPost (B ba b g nn cc : Nat) (pa : Option Addr) (ca f N k0 : Nat) (bs : List UInt8) (t : Int) (leaf : Bool) (m v : Nat) (l : List Ent) (w : World) (e : Ending) (w' : World) : Prop :=
  ∃ p c, e = .returned (.tuple #[.slice p (ovN l.length m) c, .nilIface]) ∧ Below B w w' ∧ Only [78, 5] w w' ∧ Fr [ba, g] w w' ∧ Al B ba b g nn cc pa ca f N (k0 + ovN l.length m) (levB t leaf m v l (f + k0) bs (ovN l.length m)) w' ∧ w'.ownsRow w.heap.size 45 3 (.slice p (ovN l.length m) c) (ovN l.length m) ((upE l m (f + k0) (ovN l.length m)).flatMap entC)
set_option maxRecDepth 100000 in
set_option maxHeartbeats 8000000 in
theorem build_level (B ba b g nn cc : Nat) (pa : Option Addr) (ca f N k0 : Nat) (bs : List UInt8) (t : Int) (leaf : Bool) (m v : Nat) (a : Option Addr) (c : Nat) (l : List Ent) (w : World) (hC : AlC B ba nn cc ca f N) (hA : Al B ba b g nn cc pa ca f N k0 bs w) (ht1 : 1 ≤ t) (ht2 : t ≤ 5) (hm : maxN t leaf = m) (hv : widN t leaf = v) (E : EntsOk v l) (hl : leaf = false → 1 ≤ l.length) (hn : l.length ≤ 32768) (hf1 : 1 ≤ f) (hk : k0 + ovN l.length m ≤ N) (hin : ∀ W, Below B w W → Only [78, 5] w W → Sts entC W (.slice a l.length c) l) (hBw : B ≤ w.heap.size) :
    Calls Tryz.prog 49 #[.pointer (some ⟨ba, 0, none⟩), .int .i64 t, .bool leaf, .slice a l.length c] w (LevelPost B ba b g nn cc pa ca f N k0 bs t leaf m v l w) := by
 have hmb := maxN_pos t leaf
 rw [hm] at hmb
 have hcf := hC.hf
 have hcn := hC.hn
 refine zin 96 Tryz.func49 ?_
 refine xr 18 (args := #[.int .i64 t, .bool leaf]) (node_MaxN t leaf m hm ht1 ht2 _) fun W1 hb1 => ?_
 refine xc 0 (args := #[.int .i64 (↑l.length : Int), .int .i64 (↑m : Int)]) (tall_Sizes l.length m _ hn (by omega) (by omega)) ?_
 rintro _ W2 ⟨_, rfl, hb2, ps, cs, rfl, hsz⟩
 have hs2 := (Bl.nextB (Below.refl B w) hBw hb1).size
 have hsz'1 := own_mono hsz hs2
 have hA'1 := (hA.below hb1).below hb2
 have hB := Bl.nextB (Bl.nextB (Below.refl B w) hBw hb1) hBw hb2
 have hX := (show Fr [ba, g] w _ from (Fr.of_below hb1)).trans (Fr.of_below hb2)
 have hO := (show Only [78, 5] w _ from (Only.of_below hb1)).trans (Only.of_below hb2)
 refine zl 5 96 (fun zm zkv V => ∃ (i : Nat) (a2 : Option Addr) (c2 : Nat) (l2 : List Ent) (p4 : Option Addr) (c4 : Nat), zkv = [(0, .pointer (some ⟨ba, 0, none⟩)), (1, .int .i64 t), (2, .bool leaf), (3, .slice a2 l2.length c2), (10, .slice p4 i c4), (26, .slice ps (ovN l.length m) cs), (27, .int .i64 (↑(ovN l.length m) : Int)), (28, .int .i64 (↑i : Int))] ∧ zm = ovN l.length m - ((↑i : Int)).toNat ∧ Below B w V ∧ Fr [ba, g] w V ∧ Only [78, 5] w V ∧ V.ownsRow w.heap.size 3 1 (.slice ps (ovN l.length m) cs) (ovN l.length m) ((sizL l.length m).map nv) ∧ V.ownsRow w.heap.size 45 3 (.slice p4 i c4) i ((upE l m (f + k0) i).flatMap entC) ∧ Al B ba b g nn cc pa ca f N (k0 + i) (levB t leaf m v l (f + k0) bs i) V ∧ (∀ W, Below B w W → Only [78, 5] w W → Sts entC W (.slice a2 l2.length c2) l2) ∧ i ≤ ovN l.length m ∧ l2 = l.drop (i * m)) ⟨0, a, c, l, none, 0, rfl, rfl, hB, hX, hO, hsz'1, World.ownsRow_nil _ _ _ _, hA'1, ?_, Nat.zero_le _, by simp⟩ ?_
 · exact hin
 rintro _ _ W3 ⟨i, a2, c2, l2, p4, c4, rfl, rfl, hB_3, hX_3, hO_3, hsz, hup, hA, hen, hi, hl2⟩ J3 hJ3 r3
 have hcap := Sl.cap (hen _ hB_3 hO_3)
 have hsl : i < ovN l.length m → i * m ≤ l.length := siz_le (by omega)
 have hl2n : l2.length = l.length - i * m := by rw [hl2]; simp
 have hszn : sizN l.length m i ≤ l2.length := by rw [hl2n]; unfold sizN; omega
 refine xid 6 ((↑i : Int) < (↑(ovN l.length m) : Int)) (fun hc4 => ?_) (fun hc4 => ?_)
 · refine xx 6 _ (ovN l.length m) i 1 (siz_elem (own_sl hsz) (k := i) (by omega)).1 ?_
   refine xl 0 ((siz_elem (own_sl hsz) (k := i) (by omega)).2) ?_
   have hF5 := hB_3
   have hOhF5 := hO_3
   have hXhF5 := hX_3
   refine xa 8 [.int .i64 0, .bool false, .slice none 0 0, .slice none 0 0] 125 fun b6 W6 n6 => ?_
   refine xsv 0 n6.blk [.int .i64 t, .bool leaf, .slice none 0 0, .slice none 0 0] fun W7 u7 k7 => ?_
   have g6 := n6.ge (Below.refl W3.heap.size _)
   refine xsH 7 (fun _ _ _ _ zo zx zy V => run_sliceH (k := (sizN l.length m i)) (b := a2) (n := l2.length) (c := c2) (i := (↑(sizN l.length m i) : Int)) (ki := .i64) zo zx zy rfl (by omega) Tryz.underlying25 (by kernel_rfl) V) ?_
   have hB := u7.below n6.below g6
   refine zl 5 96 (fun zm zkv V => ∃ (j : Nat) (kp : Option Addr) (kc : Nat) (vp : Option Addr) (vc : Nat), zkv = [(0, .pointer (some ⟨ba, 0, none⟩)), (1, .int .i64 t), (2, .bool leaf), (3, .slice a2 l2.length c2), (10, .slice p4 i c4), (12, .int .i64 (↑(sizN l.length m i) : Int)), (13, .pointer (some ⟨b6, 0, none⟩)), (26, .slice ps (ovN l.length m) cs), (27, .int .i64 (↑(ovN l.length m) : Int)), (28, .int .i64 (↑i : Int)), (37, .slice a2 (sizN l.length m i) c2), (38, .int .i64 (↑(sizN l.length m i) : Int)), (39, .int .i64 (↑j : Int))] ∧ zm = sizN l.length m i - ((↑j : Int)).toNat ∧ Below W3.heap.size W3 V ∧ Blk V b6 ([.int .i64 t, .bool leaf, .slice kp j kc, .slice vp j vc]) 125 ∧ V.ownsRow W3.heap.size 3 1 (.slice kp j kc) j (((keysE l2).take j).map (Value.int .i64)) ∧ V.ownsRow W3.heap.size 9 1 (.slice vp j vc) j (((valsE l2).take j).map sv) ∧ j ≤ sizN l.length m i) ⟨0, none, 0, none, 0, rfl, rfl, hB, k7, World.ownsRow_nil _ _ _ _, World.ownsRow_nil _ _ _ _, Nat.zero_le _⟩ ?_
   rintro _ _ W8 ⟨j, kp, kc, vp, vc, rfl, rfl, hB_8, k8_b6, hK, hV, hj⟩ J8 hJ8 r8
   refine xid 6 ((↑j : Int) < (↑(sizN l.length m i) : Int)) (fun hc9 => ?_) (fun hc9 => ?_)
   · have hen_hF5 := hen _ hF5 hOhF5
     refine xx 6 _ (sizN l.length m i) j 3 (Sts.cell hen_hF5 entC_len entD (k := j) (i := 0) (by omega) rfl).1 ?_
     refine xlv 0 (Sts.rp (k := j) (hen_hF5.below hB_8) entC_len entD (by omega) (by decide)) ?_
     refine xa 0 [.int .i64 0, .string ⟨#[]⟩, .int .i64 0] 45 fun b10 W10 n10 => ?_
     have g10 := n10.ge hB_8
     refine xsv 0 n10.blk [.int .i64 ((l2.getD j entD).1), .string ⟨((l2.getD j entD).2.1).toArray⟩, .int .i64 ((l2.getD j entD).2.2)] fun W11 u11 k11 => ?_
     have k8_b6'1 := u11.blkT (k8_b6.below n10.below) n10.blk (by decide)
     refine xb 5 2 k8_b6'1 ?_
     refine xb 1 0 k11 ?_
     refine xbs 0 1 [.int .i64 ((l2.getD j entD).1)] 3 fun b12 W12 n12 => ?_
     have hB'1 := u11.below (Bl.next hB_8 n10.below) g10
     have g12 := n12.ge hB'1
     have hK'1 := u11.own2 (own_below hK n10.below) n10.blk (by decide)
     have r12_hK := own_ne hK'1 n12
     have hK'2 := own_below hK'1 n12.below
     have hB'2 := Bl.next hB'1 n12.below
     refine xbi 0 fun _ _ _ _ zJ zQ zo zx zy zK => op_app (m := 1) (news := [.int .i64 ((l2.getD j entD).1)]) (.int .i64 0) 1 8 (j + 1) (((keysE l2).take (j + 1)).map (Value.int .i64)) zo Tryz.underlying22 (by kernel_rfl) rfl (by decide) zx hK'2 zy (n12.blk.sl 1 1 (by decide) (by decide)) rfl (by simp [Value.oneCell']) (by unfold maxLen; omega) (by omega) hB'2.size (by rfl) ((keys_take (by omega)).symm) fun px13 cx13 W13 o13 hg13 hb13 => ?_
     refine zK _ _ ?_
     have k8_b6'2 := (k8_b6'1.below n12.below).grown hg13 hK'2 (by decide)
     refine xs 1 k8_b6'2 [.int .i64 t, .bool leaf, .slice px13 (j + 1) cx13, .slice vp j vc] fun W14 u14 k14 => ?_
     refine xb 4 3 k14 ?_
     have k11'1 := u14.blkT ((k11.below n12.below).grown hg13 hK'2 (by decide)) k8_b6'2 (by decide)
     refine xb 1 1 k11'1 ?_
     refine xbs 0 1 [.string ⟨((l2.getD j entD).2.1).toArray⟩] 9 fun b15 W15 n15 => ?_
     have hB'3 := u14.below (hB'2.trans hb13) g6
     have g15 := n15.ge hB'3
     have hV'1 := u14.own2 (own_grown (own_below (u11.own2 (own_below hV n10.below) n10.blk (by decide)) n12.below) hg13 hK'2 (by decide)) k8_b6'2 (by decide)
     have r15_hV := own_ne hV'1 n15
     have hV'2 := own_below hV'1 n15.below
     have hB'4 := Bl.next hB'3 n15.below
     refine xbi 0 fun _ _ _ _ zJ zQ zo zx zy zK => op_app (m := 1) (news := [.string ⟨((l2.getD j entD).2.1).toArray⟩]) (.string ⟨#[]⟩) 1 16 (j + 1) (((valsE l2).take (j + 1)).map sv) zo Tryz.underlying123 (by kernel_rfl) rfl (by decide) zx hV'2 zy (n15.blk.sl 1 1 (by decide) (by decide)) rfl (by simp [Value.oneCell']) (by unfold maxLen; omega) (by omega) hB'4.size (by rfl) ((vals_take (by omega)).symm) fun px16 cx16 W16 o16 hg16 hb16 => ?_
     refine zK _ _ ?_
     have k14'1 := (k14.below n15.below).grown hg16 hV'2 (by decide)
     refine xs 1 k14'1 [.int .i64 t, .bool leaf, .slice px13 (j + 1) cx13, .slice px16 (j + 1) cx16] fun W17 u17 k17 => ?_
     refine xwm 4 ((↑j : Int) + 1) (↑(j + 1) : Int) ?_
     have hB'5 := u17.below (hB'4.trans hb16) g6
     have o13'1 := u17.own2 (own_grown (own_below (u14.own2 o13 k8_b6'2 (by decide)) n15.below) hg16 hV'2 (by decide)) k14'1 (by decide)
     have o16'1 := u17.own2 o16 k14'1 (by decide)
     exact ze 2 (hJ8 _ _ _ ⟨j + 1, _, _, _, _, rfl, rfl, hB'5, k17, o13'1, o16'1, by omega⟩ (by omega))
   refine xsL 9 (fun _ _ _ _ zo zx zy V => run_sliceLA (k := (sizN l.length m i)) (b := a2) (n := l2.length) (c := c2) (i := (↑(sizN l.length m i) : Int)) (ki := .i64) 3 zo zx zy rfl (by omega) Tryz.underlying25 (by kernel_rfl) V) ?_
   refine xlv 5 k8_b6.rp ?_
   have hT18 : Below W3.heap.size W3 W8 := hB_8
   have hs18 : w.heap.size ≤ W3.heap.size := hF5.size
   have hjs : sizN l.length m i = j := by omega
   have hck : (keysE l2).take j = keysE (chunkE l m i) := by rw [hl2]; exact keys_chunk hjs
   have hcv : (valsE l2).take j = valsE (chunkE l m i) := by rw [hl2]; exact vals_chunk hjs
   have hcl : (chunkE l m i).length = j := by rw [chunk_len, hjs]
   have hK'3 := own_mono hK hs18
   rw [hck] at hK'3
   have hV'3 := own_mono hV hs18
   rw [hcv] at hV'3
   have hN := chunk_ok E ht1 ht2 hm hv hl (show i < ovN l.length m by omega)
   have hlen := nodB_len hN
   rw [hcl] at hN
   have hnd : nodeP m v (headB t leaf j m v) (keysE (chunkE l m i)) (valsE (chunkE l m i)) j = nodB t leaf m v (chunkE l m i) := by rw [← hcl]; rfl
   refine xc 0 (args := #[.agg #[.int .i64 t, .bool leaf, .slice kp j kc, .slice vp j vc]]) (node_Put t leaf j m v (keysE (chunkE l m i)) (valsE (chunkE l m i)) kp vp kc vc _ hN (own_sl hK'3) (own_sl hV'3)) ?_
   rintro _ W19 ⟨_, rfl, hb19, p6, c6, rfl, h6⟩
   have hs19 := (Bl.nextB hF5 hBw hT18).size
   have h6'1 := own_mono h6 hs19
   rw [hnd] at h6'1
   have hA'2 := (hA.below hT18).below hb19
   have hO := (hOhF5.trans (Only.of_below hT18)).trans (Only.of_below hb19)
   have hB := Bl.nextB (Bl.nextB hF5 hBw hT18) hBw hb19
   refine xc 21 (args := #[.pointer (some ⟨ba, 0, none⟩), .int .i64 2, .slice p6 244 c6]) (alloc_LayQ B ba b g nn cc pa ca f N (k0 + i) (levB t leaf m v l (f + k0) bs i) 2 p6 c6 (nodB t leaf m v (chunkE l m i)) (f + k0 + i) 244 _ (Nat.add_assoc _ _ _).symm hlen hC hA'2 (by omega) (by decide) (by decide) (fun W _ hO => bys_of (own_sl (own_only h6'1 hO (by decide))) hlen) (by decide) (Nat.le_trans hBw hB.size)) ?_
   rintro _ W20 ⟨rfl, hb20, hO20, hX20, hA⟩
   refine xr 20 (args := #[.int .i64 (↑(f + k0 + i) : Int)]) (value_Root ((f + k0 + i : Nat) : Int) (by omega) (by omega) _) fun W21 hb21 => ?_
   refine xa 2 [.int .i64 0, .string ⟨#[]⟩, .int .i64 0] 45 fun b22 W22 n22 => ?_
   have hB'6 := Bl.nextB (hB.trans hb20) hBw hb21
   have g22 := n22.ge0 hB'6
   have hup'1 := own_below (own_only (own_below (own_below hup hT18) hb19) hO20 (by decide)) hb21
   have r22_hup := own_ne hup'1 n22
   refine xsv 0 n22.blk [.int .i64 0, .string ⟨(leB (↑(f + k0 + i) : Int) 4).toArray⟩, .int .i64 (↑(f + k0 + i) : Int)] fun W23 u23 k23 => ?_
   refine xid 9 ((↑(sizN l.length m i) : Int) > (0 : Int)) (fun hc24 => ?_) (fun hc24 => ?_)
   · have hkey : ((keysE (chunkE l m i))).getD 0 0 = ((chunkE l m i).getD 0 entD).1 := chunk_key hjs (by omega)
     have k8_b6'3 := u23.blkT ((((k8_b6.below hb19).only hO20 (by decide)).below hb21).below n22.below) n22.blk (by decide)
     refine xb 2 2 k8_b6'3 ?_
     have hK'4 := u23.own2 (own_below (own_below (own_only (own_below hK'3 hb19) hO20 (by decide)) hb21) n22.below) n22.blk (by decide)
     refine xx 0 _ j 0 1 (IntsN.elem (own_sl hK'4) (by rw [keysE_len, hcl]) (k := 0) (by omega)).1 ?_
     refine xl 0 ((IntsN.elem (own_sl hK'4) (by rw [keysE_len, hcl]) (k := 0) (by omega)).2) ?_
     refine xs 1 k23 [.int .i64 ((keysE (chunkE l m i)).getD 0 0), .string ⟨(leB (↑(f + k0 + i) : Int) 4).toArray⟩, .int .i64 (↑(f + k0 + i) : Int)] fun W25 u25 k25 => ?_
     refine xlv 4 k25.rp ?_
     refine xbs 0 1 [.int .i64 ((keysE (chunkE l m i)).getD 0 0), .string ⟨(leB (↑(f + k0 + i) : Int) 4).toArray⟩, .int .i64 (↑(f + k0 + i) : Int)] 45 fun b26 W26 n26 => ?_
     have d26_b22 := n26.ne k25
     have hB'7 := u25.below (u23.below (Bl.nextB hB'6 hBw n22.below) (Nat.le_trans hBw g22)) (Nat.le_trans hBw g22)
     have g26 := n26.ge0 hB'7
     have hup'2 := u25.own3 (u23.own3 (own_below hup'1 n22.below) r22_hup) r22_hup
     have r26_hup := own_ne hup'2 n26
     have hup'3 := own_below hup'2 n26.below
     have hB'8 := Bl.nextB hB'7 hBw n26.below
     refine xbi 0 fun _ _ _ _ zJ zQ zo zx zy zK => op_app (m := 1) (news := [.int .i64 ((keysE (chunkE l m i)).getD 0 0), .string ⟨(leB (↑(f + k0 + i) : Int) 4).toArray⟩, .int .i64 (↑(f + k0 + i) : Int)]) (.agg #[.int .i64 0, .string ⟨#[]⟩, .int .i64 0]) 3 32 (i + 1) ((upE l m (f + k0) (i + 1)).flatMap entC) zo Tryz.underlying25 (by kernel_rfl) rfl (by decide) zx hup'3 zy (n26.blk.sl 1 1 (by decide) (by decide)) rfl (by simp [Value.oneCell']) (by unfold maxLen; omega) (by omega) hB'8.size (by rfl) (up_row (by first | exact hkey | exact hkey0)) fun px27 cx27 W27 o27 hg27 hb27 => ?_
     refine zK _ _ ?_
     refine xwm 5 ((↑i : Int) + 1) (↑(i + 1) : Int) ?_
     refine xv1 2 3 (show (.slice (cutA a2 (sizN l.length m i) c2 3) (l2.length - (sizN l.length m i)) (c2 - (sizN l.length m i)) : Value) = .slice (cutA a2 (sizN l.length m i) c2 3) ((l2.drop (sizN l.length m i)).length) (c2 - sizN l.length m i) from by rw [List.length_drop]) ?_
     have hA'3 := (((((hA.below hb21).below n22.below).only (Only.of_upd (T := [45]) u23 n22.blk (by decide)) (by decide)).only (Only.of_upd (T := [45]) u25 k23 (by decide)) (by decide)).below n26.below).only (Only.of_grown (T := [45]) hg27 hup'3 (by decide)) (by decide)
     have hl2s : l2.drop (sizN l.length m i) = l.drop ((i + 1) * m) := by
       rw [hl2, List.drop_drop, Nat.add_mul, Nat.one_mul]
       unfold sizN
       rcases Nat.le_total m (l.length - i * m) with q | q
       · rw [Nat.min_eq_left q]
       · rw [Nat.min_eq_right q, List.drop_eq_nil_of_le (by omega), List.drop_eq_nil_of_le (by omega)]
     have hB'9 := hB'8.trans (hb27.mono hBw)
     have hX := (Fr.grown_new ((Fr.upd_new (Fr.upd_new (((((hXhF5.trans (Fr.of_below hT18)).trans (Fr.of_below hb19)).trans (hX20.mono (by simp))).trans (Fr.of_below hb21)).trans (Fr.of_below n22.below)) u23 g22) u25 g22).trans (Fr.of_below n26.below)) hg27 hup'3)
     have hO'1 := (Only.grown_new ((Only.upd_new (Only.upd_new (((hO.trans hO20).trans (Only.of_below hb21)).trans (Only.of_below n22.below)) u23 g22) u25 g22).trans (Only.of_below n26.below)) hg27 hup'3)
     have hsz'2 := own_grown (own_below (u25.own2 (u23.own2 (own_below (own_below (own_only (own_below (own_below hsz hT18) hb19) hO20 (by decide)) hb21) n22.below) n22.blk (by decide)) k23 (by decide)) n26.below) hg27 hup'3 (by decide)
     exact ze 0 (hJ3 _ _ _ ⟨i + 1, _, _, (l2.drop (sizN l.length m i)), _, _, rfl, rfl, hB'9, hX, hO'1, hsz'2, o27, hA'3, fun W h1 h2 => Sts.cut entC_len (hen W h1 h2) _ hszn, by omega, hl2s⟩ (by omega))
   have hkey0 : (0 : Int) = ((chunkE l m i).getD 0 entD).1 := chunk_nokey hjs (by omega)
   refine xlv 4 k23.rp ?_
   refine xbs 0 1 [.int .i64 0, .string ⟨(leB (↑(f + k0 + i) : Int) 4).toArray⟩, .int .i64 (↑(f + k0 + i) : Int)] 45 fun b28 W28 n28 => ?_
   have d28_b22 := n28.ne k23
   have hB'10 := u23.below (Bl.nextB hB'6 hBw n22.below) (Nat.le_trans hBw g22)
   have g28 := n28.ge0 hB'10
   have hup'4 := u23.own3 (own_below hup'1 n22.below) r22_hup
   have r28_hup := own_ne hup'4 n28
   have hup'5 := own_below hup'4 n28.below
   have hB'11 := Bl.nextB hB'10 hBw n28.below
   refine xbi 0 fun _ _ _ _ zJ zQ zo zx zy zK => op_app (m := 1) (news := [.int .i64 0, .string ⟨(leB (↑(f + k0 + i) : Int) 4).toArray⟩, .int .i64 (↑(f + k0 + i) : Int)]) (.agg #[.int .i64 0, .string ⟨#[]⟩, .int .i64 0]) 3 32 (i + 1) ((upE l m (f + k0) (i + 1)).flatMap entC) zo Tryz.underlying25 (by kernel_rfl) rfl (by decide) zx hup'5 zy (n28.blk.sl 1 1 (by decide) (by decide)) rfl (by simp [Value.oneCell']) (by unfold maxLen; omega) (by omega) hB'11.size (by rfl) (up_row (by first | exact hkey | exact hkey0)) fun px29 cx29 W29 o29 hg29 hb29 => ?_
   refine zK _ _ ?_
   refine xwm 5 ((↑i : Int) + 1) (↑(i + 1) : Int) ?_
   refine xv1 2 3 (show (.slice (cutA a2 (sizN l.length m i) c2 3) (l2.length - (sizN l.length m i)) (c2 - (sizN l.length m i)) : Value) = .slice (cutA a2 (sizN l.length m i) c2 3) ((l2.drop (sizN l.length m i)).length) (c2 - sizN l.length m i) from by rw [List.length_drop]) ?_
   have hA'4 := ((((hA.below hb21).below n22.below).only (Only.of_upd (T := [45]) u23 n22.blk (by decide)) (by decide)).below n28.below).only (Only.of_grown (T := [45]) hg29 hup'5 (by decide)) (by decide)
   have hl2s : l2.drop (sizN l.length m i) = l.drop ((i + 1) * m) := by
     rw [hl2, List.drop_drop, Nat.add_mul, Nat.one_mul]
     unfold sizN
     rcases Nat.le_total m (l.length - i * m) with q | q
     · rw [Nat.min_eq_left q]
     · rw [Nat.min_eq_right q, List.drop_eq_nil_of_le (by omega), List.drop_eq_nil_of_le (by omega)]
   have hB'12 := hB'11.trans (hb29.mono hBw)
   have hX := (Fr.grown_new ((Fr.upd_new (((((hXhF5.trans (Fr.of_below hT18)).trans (Fr.of_below hb19)).trans (hX20.mono (by simp))).trans (Fr.of_below hb21)).trans (Fr.of_below n22.below)) u23 g22).trans (Fr.of_below n28.below)) hg29 hup'5)
   have hO'2 := (Only.grown_new ((Only.upd_new (((hO.trans hO20).trans (Only.of_below hb21)).trans (Only.of_below n22.below)) u23 g22).trans (Only.of_below n28.below)) hg29 hup'5)
   have hsz'3 := own_grown (own_below (u23.own2 (own_below (own_below (own_only (own_below (own_below hsz hT18) hb19) hO20 (by decide)) hb21) n22.below) n22.blk (by decide)) n28.below) hg29 hup'5 (by decide)
   exact ze 0 (hJ3 _ _ _ ⟨i + 1, _, _, (l2.drop (sizN l.length m i)), _, _, rfl, rfl, hB'12, hX, hO'2, hsz'3, o29, hA'4, fun W h1 h2 => Sts.cut entC_len (hen W h1 h2) _ hszn, by omega, hl2s⟩ (by omega))
 refine xe 13 (.tuple #[.slice p4 i c4, .nilIface]) ?_
 obtain rfl : i = ovN l.length m := by omega
 exact ⟨_, _, rfl, hB_3, hO_3, hX_3, hA, hup⟩
end Go.Proofs.YthlakkdgcgkcdaaGreat
namespace Go.Proofs.YthlakkdgcgkcdaaGreat
open Go.RowKit Go.Extern.Stop Go.Stop Go.Extern
set_option linter.unusedVariables false
attribute [local irreducible] wpList wpAnyH Code.wp Oper.wp Go

theorem only_a3 {w w' : World} (h : Only [78, 5] w w') : Only [78, 5, 32] w w' := h.mono fun t ht => by simp at ht ⊢; exact ⟨ht.1, ht.2.1⟩
def Tree1Post (B ba b g nn cc : Nat) (pa : Option Addr) (ca f N k0 : Nat) (bs : List UInt8) (t : Int) (leaf : Bool) (m v : Nat) (l : List Ent) (b8 : Nat) (w : World) (e : Ending) (w' : World) : Prop :=
  ∃ p c, e = .returned (.slice p (ovN l.length m) c) ∧ Below B w w' ∧ Only [78, 5, 32] w w' ∧ Fr [ba, g, b8] w w' ∧ Blk w' b8 [.nilIface] 32 ∧ Al B ba b g nn cc pa ca f N (k0 + ovN l.length m) (levB t leaf m v l (f + k0) bs (ovN l.length m)) w' ∧ w'.ownsRow w.heap.size 45 3 (.slice p (ovN l.length m) c) (ovN l.length m) ((upE l m (f + k0) (ovN l.length m)).flatMap entC)
set_option maxRecDepth 100000 in
set_option maxHeartbeats 4000000 in
theorem build_Tree1 (B ba b g nn cc : Nat) (pa : Option Addr) (ca f N k0 : Nat) (bs : List UInt8) (t : Int) (leaf : Bool) (m v : Nat) (a : Option Addr) (c : Nat) (l : List Ent) (b3 b4 b8 : Nat) (w : World) (k3 : Blk w b3 [.pointer (some ⟨ba, 0, none⟩)] 29) (k4 : Blk w b4 [.int .i64 t] 3) (k8 : Blk w b8 [.nilIface] 32) (h38 : b3 ≠ b8) (h48 : b4 ≠ b8) (hB8 : B ≤ b8) (hC : AlC B ba nn cc ca f N) (hA : Al B ba b g nn cc pa ca f N k0 bs w) (ht1 : 1 ≤ t) (ht2 : t ≤ 5) (hm : maxN t leaf = m) (hv : widN t leaf = v) (E : EntsOk v l) (hl : leaf = false → 1 ≤ l.length) (hn : l.length ≤ 32768) (hf1 : 1 ≤ f) (hk : k0 + ovN l.length m ≤ N) (hin : ∀ W, Below B w W → Only [78, 5, 32] w W → Sts entC W (.slice a l.length c) l) (hBw : B ≤ w.heap.size) :
    Calls Tryz.prog 48 #[.bool leaf, .slice a l.length c, .pointer (some ⟨b3, 0, none⟩), .pointer (some ⟨b4, 0, none⟩), .pointer (some ⟨b8, 0, none⟩)] w (Tree1Post B ba b g nn cc pa ca f N k0 bs t leaf m v l b8 w) := by
 refine zin 20 Tryz.func48 ?_
 refine xb 7 0 k3 ?_
 refine xb 0 0 k4 ?_
 refine xc 2 (args := #[.pointer (some ⟨ba, 0, none⟩), .int .i64 t, .bool leaf, .slice a l.length c]) (build_level B ba b g nn cc pa ca f N k0 bs t leaf m v a c l _ hC hA ht1 ht2 hm hv E hl hn hf1 hk (fun W h1 h2 => hin W ((Below.refl B _).trans h1) ((Only.refl _ _).trans (only_a3 h2))) (Nat.le_trans hBw (Below.refl B _).size)) ?_
 rintro _ W1 ⟨p4, c4, rfl, hb1, hO1, hX1, hA, hup⟩
 have hs1 := Nat.le_refl w.heap.size
 have k8'1 := k8.only hO1 (by decide)
 refine xs 10 k8'1 [.nilIface] fun W2 u2 k2 => ?_
 have hB := u2.below hb1 hB8
 have hO := (show Only [78, 5, 32] w _ from (only_a3 hO1)).trans (Only.of_upd u2 k8'1 (by decide))
 have hX := (show Fr [ba, g, b8] w _ from (hX1.mono (by simp))).trans (Fr.of_upd u2 (by simp))
 have hA'1 := hA.only (Only.of_upd (T := [32]) u2 k8'1 (by decide)) (by decide)
 have hup'1 := u2.own2 (own_mono hup hs1) k8'1 (by decide)
 exact xe 9 (.slice p4 (ovN l.length m) c4) ⟨_, _, rfl, hB, hO, hX, k2, hA'1, hup'1⟩
def TreePost (B ba b g nn cc : Nat) (pa : Option Addr) (ca f N k0 : Nat) (bs : List UInt8) (t : Int) (l : List Ent) (w : World) (e : Ending) (w' : World) : Prop :=
  e = .returned (.tuple #[.int .i64 (treeB t l (f + k0) bs).1, .nilIface]) ∧ Below B w w' ∧ Only [78, 5, 32] w w' ∧ Fr [ba, g] w w' ∧ Al B ba b g nn cc pa ca f N (k0 + nodN t l.length) (treeB t l (f + k0) bs).2 w'
set_option maxRecDepth 100000 in
set_option maxHeartbeats 8000000 in
theorem build_Tree (B ba b g nn cc : Nat) (pa : Option Addr) (ca f N k0 : Nat) (bs : List UInt8) (t : Int) (a : Option Addr) (c : Nat) (l : List Ent) (w : World) (hC : AlC B ba nn cc ca f N) (hA : Al B ba b g nn cc pa ca f N k0 bs w) (ht1 : 1 ≤ t) (ht2 : t ≤ 5) (E : EntsOk (widN t true) l) (hn : l.length ≤ 32768) (hf1 : 1 ≤ f) (hkN : k0 ≤ N) (hk : k0 + nodN t l.length ≤ N) (hin : ∀ W, Below B w W → Only [78, 5, 32] w W → Sts entC W (.slice a l.length c) l) (hBw : B ≤ w.heap.size) :
    Calls Tryz.prog 25 #[.pointer (some ⟨ba, 0, none⟩), .int .i64 t, .slice a l.length c] w (TreePost B ba b g nn cc pa ca f N k0 bs t l w) := by
 have hnp := nodN_pos t l.length
 have hog : (ovN l.length (maxN t true)) ≤ nodN t l.length := levs_ge _
 have hov := ovN_le l.length (maxN t true) (maxN_pos t true).1
 have hop := ovN_pos l.length (maxN t true)
 have hcf := hC.hf
 have hcn := hC.hn
 refine zin 52 Tryz.func25 ?_
 refine xa 2 [.pointer (some ⟨ba, 0, none⟩)] 29 fun b1 W1 n1 => ?_
 refine xa 0 [.int .i64 t] 3 fun b2 W2 n2 => ?_
 have k1 := n1.blk.below n2.below
 refine xb 8 0 k1 ?_
 have hA'1 := (hA.below n1.below).below n2.below
 refine xr 0 (args := #[.pointer (some ⟨ba, 0, none⟩)]) (alloc_Image ba b _ _ _ hA'1.blkA) fun W3 hb3 => ?_
 have k2 := n2.blk.below hb3
 refine xb 7 0 k2 ?_
 have hB := Bl.nextB (Bl.nextB (Bl.nextB (Below.refl B w) hBw n1.below) hBw n2.below) hBw hb3
 have hO := ((show Only [78, 5, 32] w _ from (Only.of_below n1.below)).trans (Only.of_below n2.below)).trans (Only.of_below hb3)
 refine xr 1 (args := #[.int .i64 t, .slice a l.length c]) (build_right t (widN t true) a c l _ ht1 ht2 rfl E (hin _ hB hO) hn) fun W4 hb4 => ?_
 refine xd 6 .z ?_
 have k1'1 := ((k1.below hb3).below hb4).below (below_drew W4)
 refine xb (.e [] 0) 0 k1'1 ?_
 have k2'1 := (k2.below hb4).below (below_drew W4)
 refine xb (.e [] 2) 0 k2'1 ?_
 have hA'2 := ((hA'1.below hb3).below hb4).below (below_drew W4)
 refine xr (.o [3, 4] 1) (args := #[.pointer (some ⟨ba, 0, none⟩)]) (alloc_Left ba b pa N ca k0 _ hA'2.blkA hkN) fun W5 hb5 => ?_
 refine xr (.o [] 5) (args := #[.int .i64 t, .int .i64 (↑l.length : Int)]) (tall_Nodes t l.length _ ht1 ht2 hn) fun W6 hb6 => ?_
 refine xk (.r [6, 7] 2) (show (decide ((↑(N - k0) : Int) < (↑(nodN t l.length) : Int)) : Bool) = false from decide_eq_false (by omega)) ?_
 refine xa 5 [.nilIface] 32 fun b7 W7 n7 => ?_
 have hB'1 := Bl.nextB (Bl.nextB (Bl.nextB (Bl.nextB hB hBw hb4) hBw (below_drew W4)) hBw hb5) hBw hb6
 have g7 := n7.ge0 hB'1
 have k1'2 := ((k1'1.below hb5).below hb6).below n7.below
 have k2'2 := ((k2'1.below hb5).below hb6).below n7.below
 have hA'3 := ((hA'2.below hb5).below hb6).below n7.below
 have hB'2 := Bl.nextB hB'1 hBw n7.below
 have hO'1 := ((((hO.trans (Only.of_below hb4)).trans (Only.of_below (below_drew W4))).trans (Only.of_below hb5)).trans (Only.of_below hb6)).trans (Only.of_below n7.below)
 refine xc 12 (args := #[.bool true, .slice a l.length c, .pointer (some ⟨b1, 0, none⟩), .pointer (some ⟨b2, 0, none⟩), .pointer (some ⟨b7, 0, none⟩)]) (build_Tree1 B ba b g nn cc pa ca f N k0 bs t true (maxN t true) (widN t true) a c l b1 b2 b7 _ k1'2 k2'2 n7.blk (Blk.tne k1'2 n7.blk (by decide)) (Blk.tne k2'2 n7.blk (by decide)) (Nat.le_trans hBw g7) hC hA'3 ht1 ht2 rfl rfl E (by simp) hn hf1 (by omega) (fun W h1 h2 => hin W (hB'2.trans h1) (hO'1.trans h2)) (Nat.le_trans hBw hB'2.size)) ?_
 rintro _ W8 ⟨p41, c41, rfl, hb8, hO8, hX8, k8n, hA, hup⟩
 have hs8 := (Bl.nextB hB'1 hBw n7.below).size
 refine xv1 5 10 (show (.slice p41 (ovN l.length (maxN t true)) c41 : Value) = .slice p41 ((upE l (maxN t true) (f + k0) (ovN l.length (maxN t true))).length) c41 from by rw [upE_len]) ?_
 have hup'1 := own_mono hup hs8
 have hB'3 := hB'2.trans hb8
 have hX := (Fr.trans_new ((((((((show Fr [ba, g] w _ from (Fr.of_below n1.below)).trans (Fr.of_below n2.below)).trans (Fr.of_below hb3)).trans (Fr.of_below hb4)).trans (Fr.of_below (below_drew W4))).trans (Fr.of_below hb5)).trans (Fr.of_below hb6)).trans (Fr.of_below n7.below)) hX8 g7)
 have hO'2 := hO'1.trans hO8
 have k1'3 := k1'2.only hO8 (by decide)
 have k2'3 := k2'2.only hO8 (by decide)
 refine zl 0 52 (fun zm zkv V => ∃ (u : List Ent) (K : Nat) (bs2 : List UInt8) (p : Option Addr) (c2 : Nat), zkv = [(6, .int .i64 0), (7, .nilIface), (8, .pointer (some ⟨b7, 0, none⟩)), (9, .func (.func 48) #[] #[.pointer (some ⟨b1, 0, none⟩), .pointer (some ⟨b2, 0, none⟩), .pointer (some ⟨b7, 0, none⟩)]), (10, .slice p u.length c2)] ∧ zm = u.length ∧ Below B w V ∧ Fr [ba, g] w V ∧ Only [78, 5, 32] w V ∧ Blk V b1 ([.pointer (some ⟨ba, 0, none⟩)]) 29 ∧ Blk V b2 ([.int .i64 t]) 3 ∧ Blk V b7 ([.nilIface]) 32 ∧ V.ownsRow w.heap.size 45 3 (.slice p u.length c2) u.length (u.flatMap entC) ∧ Al B ba b g nn cc pa ca f N K bs2 V ∧ K + (levs u.length).sum = k0 + nodN t l.length + u.length ∧ 1 ≤ u.length ∧ u.length ≤ 32768 ∧ EntsOk 4 u ∧ treeUp t u (f + K) bs2 = treeB t l (f + k0) bs) ⟨(upE l (maxN t true) (f + k0) (ovN l.length (maxN t true))), (k0 + (ovN l.length (maxN t true))), (levB t true (maxN t true) (widN t true) l (f + k0) bs (ovN l.length (maxN t true))), p41, c41, rfl, rfl, hB'3, hX, hO'2, k1'3, k2'3, k8n, (by rw [upE_len]; exact hup'1), hA, (by rw [upE_len]; unfold nodN levL; omega), (by rw [upE_len]; exact hop), (by rw [upE_len]; omega), up_ok E (maxN_pos t true).1, (by rw [← Nat.add_assoc]; rfl)⟩ ?_
 rintro _ _ W9 ⟨u, K, bs2, p, c2, rfl, rfl, hB_9, hX_9, hO_9, k9_b1, k9_b2, k9_b7, hup, hA, hK, hu1, hun, hE, htr⟩ J9 hJ9 r9
 have hlm : ¬ u.length ≤ 1 → (levs u.length).sum = u.length + (levs (ovN u.length 18)).sum := fun h => by rw [levs_more h]; rfl
 have hlg := levs_ge (ovN u.length 18)
 have h18 : 2 ≤ u.length → ovN u.length 18 ≤ u.length / 2 := ov18
 have h18p := ovN_pos u.length 18
 refine xb 3 0 k9_b7 ?_
 refine xid 8 ((↑u.length : Int) > (1 : Int)) (fun hc10 => ?_) (fun hc10 => ?_)
 · refine xc 6 (args := #[.bool false, .slice p u.length c2, .pointer (some ⟨b1, 0, none⟩), .pointer (some ⟨b2, 0, none⟩), .pointer (some ⟨b7, 0, none⟩)]) (build_Tree1 B ba b g nn cc pa ca f N K bs2 t false 18 4 p c2 u b1 b2 b7 _ k9_b1 k9_b2 k9_b7 (Blk.tne k9_b1 k9_b7 (by decide)) (Blk.tne k9_b2 k9_b7 (by decide)) (Nat.le_trans hBw g7) hC hA ht1 ht2 rfl rfl hE (fun _ => hu1) (by omega) hf1 (by omega) (fun W _ h2 => own_sl (own_only hup h2 (by decide))) (Nat.le_trans hBw hB_9.size)) ?_
   rintro _ W11 ⟨p42, c42, rfl, hb11, hO11, hX11, k8n, hA, hup⟩
   refine xv1 3 10 (show (.slice p42 (ovN u.length 18) c42 : Value) = .slice p42 ((upE u 18 (f + K) (ovN u.length 18)).length) c42 from by rw [upE_len]) ?_
   have hup'2 := own_mono hup hB_9.size
   have hB'4 := hB_9.trans hb11
   have hX'1 := (Fr.trans_new hX_9 hX11 g7)
   have hO'3 := hO_9.trans hO11
   have k9_b1'1 := k9_b1.only hO11 (by decide)
   have k9_b2'1 := k9_b2.only hO11 (by decide)
   refine ze 0 (hJ9 _ _ _ ⟨(upE u 18 (f + K) (ovN u.length 18)), (K + ovN u.length 18), _, _, _, rfl, rfl, hB'4, hX'1, hO'3, k9_b1'1, k9_b2'1, k8n, (by rw [upE_len]; exact hup'2), hA, (by rw [upE_len]; omega), (by rw [upE_len]; exact h18p), (by rw [upE_len]; omega), up_ok hE (by decide), (by rw [← htr, ← Nat.add_assoc]; exact (treeUp_more (by omega)).symm)⟩ ?_)
   show ((upE u 18 (f + K) (ovN u.length 18)).length) < u.length
   rw [upE_len]; omega
 refine xb 8 0 k9_b7 ?_
 refine xx 9 _ u.length 0 3 (Sts.cell (own_sl hup) entC_len entD (k := 0) (i := 0) (by omega) rfl).1 ?_
 refine xl 1 ((Sts.cell (own_sl hup) entC_len entD (k := 0) (i := 2) (by omega) rfl).2) ?_
 refine xe 5 (.tuple #[.int .i64 ((u.getD 0 entD).2.2), .nilIface]) ?_
 have h1 : u.length ≤ 1 := by omega
 rw [treeUp_one h1] at htr
 rw [levs_one h1] at hK
 simp only [List.sum_cons, List.sum_nil] at hK
 obtain rfl : K = k0 + nodN t l.length := by omega
 refine ⟨by rw [← htr], hB_9, hO_9, hX_9, by rw [← htr]; exact hA⟩
end Go.Proofs.YthlakkdgcgkcdaaGreat
namespace Go.Proofs.YthlakkdgcgkcdaaGreat
open Go.RowKit Go.Extern.Stop Go.Stop Go.Extern
set_option linter.unusedVariables false
attribute [local irreducible] wpList wpAnyH Code.wp Oper.wp Go

theorem Al.mono {B B' ba b g n c : Nat} {pa : Option Addr} {ca f N k : Nat} {l : List UInt8} {w : World} (h : Al B' ba b g n c pa ca f N k l w) (hB : B ≤ B') : Al B ba b g n c pa ca f N k l w := ⟨h.blkA, h.blkI, own_mono h.data hB, own_mono h.nums hB⟩
theorem AlC.mono {B B' ba n c ca f N : Nat} (h : AlC B' ba n c ca f N) (hB : B ≤ B') : AlC B ba n c ca f N := ⟨h.hn, h.hc, h.hca, h.hf, Nat.le_trans hB h.hB⟩
theorem row_at {w : World} {base g n c size : Nat} {e : TypeId} {xs : List Value} (h : w.ownsRow base e size (.slice (some ⟨g, 0, none⟩) n c) n xs) : ∃ cur, w.heap[g]? = some (.cells cur e (0, 0)) := by
  rcases h.2 with ⟨hv, _⟩ | ⟨g2, cap, cur, hv, _, hh, _⟩
  · cases hv
  · simp only [Value.slice.injEq, Option.some.injEq, Addr.mk.injEq] at hv
    obtain ⟨⟨rfl, _, _⟩, _⟩ := hv
    exact ⟨cur, hh⟩
/-- the image of one allocator is no block that another one writes -/
theorem Al.ne {B ba b g n c : Nat} {pa : Option Addr} {ca f N k : Nat} {l : List UInt8} {B2 ba2 b2 g2 n2 c2 : Nat} {pa2 : Option Addr} {ca2 f2 N2 k2 : Nat} {l2 : List UInt8} {w : World} (h : Al B ba b g n c pa ca f N k l w) (h2 : Al B2 ba2 b2 g2 n2 c2 pa2 ca2 f2 N2 k2 l2 w) : b2 ≠ ba ∧ b2 ≠ g := by
  constructor
  · rintro rfl
    exact absurd (h.blkA.ty h2.blkI) (by decide)
  · rintro rfl
    obtain ⟨cur, hh⟩ := row_at h.data
    have h3 : w.heap[b2]? = some (.cells [.slice (some ⟨g2, 0, none⟩) n2 c2].toArray 91 (0, 0)) := h2.blkI
    rw [hh] at h3
    simp only [Option.some.injEq, Obj.cells.injEq] at h3
    exact absurd h3.2.1 (by decide)
theorem Al.apart {B2 ba2 b2 g2 n2 c2 : Nat} {pa2 : Option Addr} {ca2 f2 N2 k2 : Nat} {l2 : List UInt8} {w W : World} {ba g : Nat} (h : Al B2 ba2 b2 g2 n2 c2 pa2 ca2 f2 N2 k2 l2 w) (hC : AlC B2 ba2 n2 c2 ca2 f2 N2) (h1 : ba < B2) (h2 : g < B2) (hne : b2 ≠ ba ∧ b2 ≠ g) (hX : Fr [ba, g] w W) : Al B2 ba2 b2 g2 n2 c2 pa2 ca2 f2 N2 k2 l2 W := by
  have hB := hC.hB
  refine ⟨h.blkA.fr hX (by simp; omega), h.blkI.fr hX (by simp; exact hne), own_fr h.data hX fun k hk => ?_, own_fr h.nums hX fun k hk => ?_⟩
  · have := (h.data.lt k hk).1; simp; omega
  · have := (h.nums.lt k hk).1; simp; omega
theorem build_TreeN (B ba b g nn cc : Nat) (pa : Option Addr) (ca f N k0 : Nat) (bs : List UInt8) (t : Int) (a : Option Addr) (c : Nat) (l : List Ent) (n : Nat) (w : World) (hl : l.length = n) (hC : AlC B ba nn cc ca f N) (hA : Al B ba b g nn cc pa ca f N k0 bs w) (ht1 : 1 ≤ t) (ht2 : t ≤ 5) (E : EntsOk (widN t true) l) (hn : n ≤ 32768) (hf1 : 1 ≤ f) (hkN : k0 ≤ N) (hk : k0 + nodN t n ≤ N) (hin : ∀ W, Below B w W → Only [78, 5, 32] w W → Sts entC W (.slice a l.length c) l) (hBw : B ≤ w.heap.size) :
    Calls Tryz.prog 25 #[.pointer (some ⟨ba, 0, none⟩), .int .i64 t, .slice a n c] w (TreePost B ba b g nn cc pa ca f N k0 bs t l w) := by
  subst hl; exact build_Tree B ba b g nn cc pa ca f N k0 bs t a c l w hC hA ht1 ht2 E hn hf1 hkN hk hin hBw
end Go.Proofs.YthlakkdgcgkcdaaGreat
namespace Go.Proofs.YthlakkdgcgkcdaaGreat
open Go.RowKit Go.Extern.Stop Go.Stop Go.Extern
set_option linter.unusedVariables false
attribute [local irreducible] wpList wpAnyH Code.wp Oper.wp Go

theorem tally_Split_ok (a : Option Addr) (c : Nat) (l : List Int) (w : World) (h : Sl w (.slice a l.length c) l.length (l.map (Value.int .i64))) (hl : l.length ≤ 65536) (hs : splitE l = 0) : Calls Tryz.prog 6 #[.slice a l.length c] w (fun e w' => ∃ pb cb gs po co, e = .returned (.tuple #[.slice pb (bmN l.length) cb, .slice po (overK l l.length).length co, .int .i64 0]) ∧ Below w.heap.size w w' ∧ Lists w' w.heap.size (.slice pb (bmN l.length) cb) gs (chunksI (smallL l) (bmN l.length)) ∧ w'.ownsRow w.heap.size 45 3 (.slice po (overK l l.length).length co) (overK l l.length).length ((overK l l.length).flatMap entC)) :=
  (tally_Split a c l w h hl).mono fun e w' q => (q.resolve_left fun z => z.1 hs).2
theorem plot_layDN (B ba b g nn cc : Nat) (pa : Option Addr) (ca f N k0 : Nat) (bs : List UInt8) (bl B2 : Nat) (pl : Option Addr) (cl : Nat) (gs : List (Nat × Nat)) (L : List (List Int)) (n : Nat) (hn : L.length = n) (w : World) (hC : AlC B ba nn cc ca f N) (hA : Al B ba b g nn cc pa ca f N k0 bs w) (hL : Lists w B2 (.slice pl n cl) gs L) (hS : ∀ i, i < L.length → Small (L.getD i []) ∧ (L.getD i []).length ≤ 960) (hf1 : 1 ≤ f) (hk : k0 + n ≤ N) (kl : Blk w bl [.slice none 0 0] 25) (hBl : B ≤ bl) (hBw : B ≤ w.heap.size) :
    Calls Tryz.prog 22 #[.pointer (some ⟨ba, 0, none⟩), .slice pl n cl, .func (.func 23) #[] #[.pointer (some ⟨bl, 0, none⟩)]] w (fun e w' => ∃ p c, e = .returned .nilIface ∧ Below B w w' ∧ Only [78, 5, 25, 45] w w' ∧ Fr ([ba, g] ++ [bl]) w w' ∧ Al B ba b g nn cc pa ca f N (k0 + n) (cntsB L (f + k0) bs n) w' ∧ Blk w' bl [.slice p n c] 25 ∧ w'.ownsRow w.heap.size 45 3 (.slice p n c) n ((slotsE L (f + k0) n).flatMap entC)) := by
  subst hn; exact plot_layD B ba b g nn cc pa ca f N k0 bs bl B2 pl cl gs L w hC hA hL hS hf1 hk kl hBl hBw
theorem chunks_small {l : List Int} (h : ∀ k, k < l.length → cntOk (l.getD k 0)) (n : Nat) : ∀ i, i < (chunksI (smallL l) n).length → Small ((chunksI (smallL l) n).getD i []) ∧ ((chunksI (smallL l) n).getD i []).length ≤ 960 := fun i hi => by
  rw [chunksI_len] at hi
  rw [chunksI_get hi]
  exact ⟨chunk_small (small_ok h) i, by rw [chunkI_len]; omega⟩
theorem own_keep {w W : World} {B ba b g nn cc : Nat} {pa : Option Addr} {ca f N k0 bl : Nat} {bs : List UInt8} {cs : List Value} {base n : Nat} {v : Value} {xs : List Value} (k : w.ownsRow base 45 3 v n xs) (hA : Al B ba b g nn cc pa ca f N k0 bs w) (kl : Blk w bl cs 25) (hX : Fr ([ba, g] ++ [bl]) w W) : W.ownsRow base 45 3 v n xs := own_fr k hX fun j hj hm => by
  obtain ⟨cs', kb⟩ := own_blk hA.data
  simp only [List.cons_append, List.nil_append, List.mem_cons, List.not_mem_nil, or_false] at hm
  rcases hm with h | h | h
  · exact own_ty_ne k hA.blkA (by decide) _ hj h
  · exact own_ty_ne k kb (by decide) _ hj h
  · exact own_ty_ne k kl (by decide) _ hj h
def DataP (B ba b g nn cc : Nat) (pa : Option Addr) (ca f N k0 : Nat) (bs : List UInt8) (l : List Int) (w : World) (e : Ending) (w' : World) : Prop :=
  e = .returned (.tuple #[.int .i64 (plotB l (f + k0) bs).1, .int .i64 (plotB l (f + k0) bs).2.1, .nilIface]) ∧ Below B w w' ∧ Only [78, 5, 25, 45, 32] w w' ∧ Fr [ba, g] w w' ∧ Al B ba b g nn cc pa ca f N (k0 + plotN l) (plotB l (f + k0) bs).2.2 w'
set_option maxRecDepth 100000 in
set_option maxHeartbeats 1000000 in
theorem size_Bitmaps (n : Nat) (w : World) (hn : n ≤ 65536) :
    Calls Tryz.prog 27 #[.int .i64 (↑n : Int)] w (Ret (.int .i64 (↑(bmN n) : Int)) w) := by
 refine zin 9 Tryz.func27 ?_
 refine xid 12 ((↑n : Int) < (1 : Int)) (fun hc1 => ?_) (fun hc1 => ?_)
 · exact xe 7 (.int .i64 0) ⟨by rw [show bmN n = 0 from by unfold bmN; omega]; rfl, (Below.refl w.heap.size _)⟩
 refine xwm 5 ((↑n : Int) - 1) (↑(n - 1) : Int) ?_
 refine xq 0 (congrArg (Value.int .i64) (show (IntKind.i64.wrap (Int.tdiv (↑(n - 1) : Int) 960) : Int) = (↑((n - 1) / 960) : Int) from quo_natB (n - 1) 960 (by omega) (by decide))) ?_
 refine xw 0 ((↑((n - 1) / 960) : Int) + 1) ?_
 exact xe 4 (.int .i64 ((↑((n - 1) / 960) : Int) + 1)) ⟨by rw [show bmN n = (n - 1) / 960 + 1 from by unfold bmN; omega, Int.natCast_add]; rfl, (Below.refl w.heap.size _)⟩
set_option maxRecDepth 100000 in
set_option maxHeartbeats 8000000 in
theorem plot_Data (B ba b g nn cc : Nat) (pa : Option Addr) (ca f N k0 : Nat) (bs : List UInt8) (a : Option Addr) (c : Nat) (l : List Int) (w : World) (hC : AlC B ba nn cc ca f N) (hA : Al B ba b g nn cc pa ca f N k0 bs w) (h : Sl w (.slice a l.length c) l.length (l.map (Value.int .i64))) (hl : l.length ≤ 3000) (hs : splitE l = 0) (hf1 : 1 ≤ f) (hkN : k0 ≤ N) (hk : k0 + plotN l ≤ N) (hBw : B ≤ w.heap.size) :
    Calls Tryz.prog 8 #[.pointer (some ⟨ba, 0, none⟩), .slice a l.length c] w (DataP B ba b g nn cc pa ca f N k0 bs l w) := by
 have hcf := hC.hf
 have hcn := hC.hn
 have hbd := plotN_bd hl
 have hsp := splitE_ok hs
 have hol := overK_len l l.length
 have hpn : plotN l = (bmN l.length) + nodN 4 (bmN l.length) + nodN 5 (overK l l.length).length := rfl
 have hn4 := nodN_le 4 (bmN l.length)
 have hn5 := nodN_le 5 (overK l l.length).length
 refine zin 70 Tryz.func8 ?_
 refine xr 11 (args := #[.pointer (some ⟨ba, 0, none⟩)]) (alloc_Image ba b _ _ _ hA.blkA) fun W1 hb1 => ?_
 refine xc 9 (args := #[.slice a l.length c]) (tally_Split_ok a c l _ (h.below hb1) (by omega) hs) ?_
 rintro _ W2 ⟨pb, cb, gs, po, co, rfl, hb2, hL, hov⟩
 have hs2 := (Bl.nextB (Below.refl B w) hBw hb1).size
 have hA'1 := (hA.below hb1).below hb2
 refine xr 23 (args := #[.pointer (some ⟨ba, 0, none⟩)]) (alloc_Left ba b pa N ca k0 _ hA'1.blkA hkN) fun W3 hb3 => ?_
 refine xr 4 (args := #[.int .i64 4, .int .i64 (↑(bmN l.length) : Int)]) (tall_Nodes 4 (bmN l.length) _ (by decide) (by decide) (by omega)) fun W4 hb4 => ?_
 refine xwm 0 ((↑(bmN l.length) : Int) + (↑(nodN 4 (bmN l.length)) : Int)) (↑((bmN l.length) + (nodN 4 (bmN l.length))) : Int) ?_
 refine xr 2 (args := #[.int .i64 5, .int .i64 (↑((overK l l.length).length) : Int)]) (tall_Nodes 5 (overK l l.length).length _ (by decide) (by decide) (by omega)) fun W5 hb5 => ?_
 refine xwm 0 ((↑((bmN l.length) + (nodN 4 (bmN l.length))) : Int) + (↑(nodN 5 (overK l l.length).length) : Int)) (↑(((bmN l.length) + (nodN 4 (bmN l.length))) + (nodN 5 (overK l l.length).length)) : Int) ?_
 refine xk 3 (show (decide ((↑(N - k0) : Int) < (↑(((bmN l.length) + (nodN 4 (bmN l.length))) + (nodN 5 (overK l l.length).length)) : Int)) : Bool) = false from decide_eq_false (by omega)) ?_
 refine xa 4 [.slice none 0 0] 25 fun b6 W6 n6 => ?_
 have hX := (((((show Fr [ba, g] w _ from (Fr.of_below hb1)).trans (Fr.of_below hb2)).trans (Fr.of_below hb3)).trans (Fr.of_below hb4)).trans (Fr.of_below hb5)).trans (Fr.of_below n6.below)
 have hov'1 := own_below (own_below (own_below (own_below (own_mono hov hs2) hb3) hb4) hb5) n6.below
 have hA'2 := (((hA'1.below hb3).below hb4).below hb5).below n6.below
 have hovk := fun (W : World) (hX : Fr ([ba, g] ++ [b6]) _ W) => own_keep hov'1 hA'2 n6.blk hX
 have hL'1 := (((hL.below hb3).below hb4).below hb5).below n6.below
 have g6 := n6.ge0 (Bl.nextB (Bl.nextB (Bl.nextB (Bl.nextB (Bl.nextB (Below.refl B w) hBw hb1) hBw hb2) hBw hb3) hBw hb4) hBw hb5)
 have hB := Bl.nextB (Bl.nextB (Bl.nextB (Bl.nextB (Bl.nextB (Bl.nextB (Below.refl B w) hBw hb1) hBw hb2) hBw hb3) hBw hb4) hBw hb5) hBw n6.below
 refine xc 8 (args := #[.pointer (some ⟨ba, 0, none⟩), .slice pb (bmN l.length) cb, .func (.func 23) #[] #[.pointer (some ⟨b6, 0, none⟩)]]) (plot_layDN B ba b g nn cc pa ca f N k0 bs b6 _ pb cb gs (chunksI (smallL l) (bmN l.length)) (bmN l.length) (chunksI_len _ _) _ hC hA'2 hL'1 (chunks_small hsp.2 _) hf1 (by omega) n6.blk (Nat.le_trans hBw g6) (Nat.le_trans hBw hB.size)) ?_
 rintro _ W7 ⟨p8, c8, rfl, hb7, hO7, hX7, hA, kln, hup⟩
 have hs7 := (Bl.nextB (Bl.nextB (Bl.nextB (Bl.nextB (Bl.nextB (Bl.nextB (Below.refl B w) hBw hb1) hBw hb2) hBw hb3) hBw hb4) hBw hb5) hBw n6.below).size
 replace hov := hovk _ hX7
 refine xb 15 0 kln ?_
 have hup'1 := own_mono hup hs7
 have hB'1 := hB.trans hb7
 refine xc 0 (args := #[.pointer (some ⟨ba, 0, none⟩), .int .i64 4, .slice p8 (bmN l.length) c8]) (build_TreeN B ba b g nn cc pa ca f N (k0 + (bmN l.length)) (cntsB (chunksI (smallL l) (bmN l.length)) (f + k0) bs (bmN l.length)) 4 p8 c8 (slotsE (chunksI (smallL l) (bmN l.length)) (f + k0) (bmN l.length)) (bmN l.length) _ (slotsE_len _ _ _) hC hA (by decide) (by decide) (slots_ents _ _ _ (by omega)) (by omega) hf1 (by omega) (by omega) (fun W _ h2 => by unfold Sts; rw [slotsE_len]; exact own_sl (own_only hup'1 h2 (by decide))) (Nat.le_trans hBw hB'1.size)) ?_
 rintro _ W8 ⟨rfl, hb8, hO8, hX8, hA⟩
 rw [slotsE_len] at hA
 have hov'2 := own_only hov hO8 (by decide)
 have hB'2 := hB'1.trans hb8
 refine xc 21 (args := #[.pointer (some ⟨ba, 0, none⟩), .int .i64 5, .slice po ((overK l l.length).length) co]) (build_TreeN B ba b g nn cc pa ca f N (k0 + (bmN l.length) + nodN 4 (bmN l.length)) (treeB 4 (slotsE (chunksI (smallL l) (bmN l.length)) (f + k0) (bmN l.length)) (f + (k0 + (bmN l.length))) (cntsB (chunksI (smallL l) (bmN l.length)) (f + k0) bs (bmN l.length))).2 5 po co (overK l l.length) (overK l l.length).length _ rfl hC hA (by decide) (by decide) (over_ents _ _ (by omega)) (by omega) hf1 (by omega) (by omega) (fun W _ h2 => own_sl (own_only hov'2 h2 (by decide))) (Nat.le_trans hBw hB'2.size)) ?_
 rintro _ W9 ⟨rfl, hb9, hO9, hX9, hA⟩
 have hB'3 := hB'2.trans hb9
 have hO := ((((((((show Only [78, 5, 25, 45, 32] w _ from (Only.of_below hb1)).trans (Only.of_below hb2)).trans (Only.of_below hb3)).trans (Only.of_below hb4)).trans (Only.of_below hb5)).trans (Only.of_below n6.below)).trans (hO7.wide)).trans (hO8.wide)).trans (hO9.wide)
 have hX'1 := ((Fr.trans_new hX hX7 g6).trans (hX8.mono (by simp))).trans (hX9.mono (by simp))
 refine xe 27 (.tuple #[.int .i64 ((treeB 4 (slotsE (chunksI (smallL l) (bmN l.length)) (f + k0) (bmN l.length)) (f + (k0 + (bmN l.length))) (cntsB (chunksI (smallL l) (bmN l.length)) (f + k0) bs (bmN l.length))).1), .int .i64 ((treeB 5 (overK l l.length) (f + (k0 + (bmN l.length) + nodN 4 (bmN l.length))) (treeB 4 (slotsE (chunksI (smallL l) (bmN l.length)) (f + k0) (bmN l.length)) (f + (k0 + (bmN l.length))) (cntsB (chunksI (smallL l) (bmN l.length)) (f + k0) bs (bmN l.length))).2).1), .nilIface]) ?_
 have e1 : f + (k0 + (bmN l.length)) = f + k0 + (bmN l.length) := by omega
 have e2 : f + (k0 + (bmN l.length) + nodN 4 (bmN l.length)) = f + k0 + (bmN l.length) + nodN 4 (bmN l.length) := by omega
 rw [e2, e1] at hA ⊢
 have e3 : k0 + (bmN l.length) + nodN 4 (bmN l.length) + nodN 5 (overK l l.length).length = k0 + plotN l := by omega
 rw [e3] at hA
 exact ⟨rfl, hB'3, hO, hX'1, hA⟩
end Go.Proofs.YthlakkdgcgkcdaaGreat
namespace Go.Proofs.YthlakkdgcgkcdaaGreat
open Go.RowKit
set_option linter.unusedVariables false
theorem loop_eq (bs : ByteArray) (i : Nat) (r : List UInt8) : ByteArray.toList.loop bs i r = r.reverse ++ bs.data.toList.drop i := by
  have hs : bs.data.toList.length = bs.size := by rw [Array.length_toList]; rfl
  rw [ByteArray.toList.loop]
  split
  · rename_i h
    have h' : i < bs.data.toList.length := by omega
    rw [loop_eq bs (i + 1) _, List.drop_eq_getElem_cons h']
    have e : bs.get! i = bs.data.toList[i] := by
      have h2 : i < bs.data.size := by rw [← Array.length_toList]; exact h'
      show bs.data[i]! = _
      rw [getElem!_pos bs.data i h2]; simp
    rw [e]; simp
  · rename_i h
    rw [List.drop_eq_nil_of_le (by omega)]; simp
termination_by bs.size - i
theorem str_list (a : List UInt8) : (⟨a.toArray⟩ : ByteArray).toList = a := by
  unfold ByteArray.toList; rw [loop_eq]; simp
theorem str_beq (a b : List UInt8) : ((⟨a.toArray⟩ : ByteArray).toList == (⟨b.toArray⟩ : ByteArray).toList) = (a == b) := by rw [str_list, str_list]
theorem not_t {b : Bool} (h : (!b) = true) : b = false := by simpa using h
theorem not_f {b : Bool} (h : (!b) = false) : b = true := by simpa using h
end Go.Proofs.YthlakkdgcgkcdaaGreat
namespace Go.Proofs.YthlakkdgcgkcdaaGreat
open Go.RowKit Go.Extern.Stop Go.Stop Go.Extern
set_option linter.unusedVariables false
attribute [local irreducible] wpList wpAnyH Code.wp Oper.wp Go

theorem op_strBytes {P : Program} {a : Act} {w : World} {K : Act → World → Prop} {Q : Exit → Act → World → Prop} {o : Oper} {src dst e : TypeId} {x : Operand} (l : List UInt8) (ho : o.op = .convert src dst x) (hx : a.eval x = .string ⟨l.toArray⟩)
    (hs : P.underlying src = some .string) (hd : P.underlying dst = some (.slice e)) (he : P.underlying e = some (.int .u8)) (hl : l.length ≤ 1000000)
    (k : ∀ b c W, Below w.heap.size w W → Bys W (.slice (some ⟨b, 0, none⟩) l.length c) l → K (a.put o.dst (.slice (some ⟨b, 0, none⟩) l.length c)) W) : o.wp P a w K Q := by
  have hr := run_bytes_of_string (P := P) w src dst e ⟨l.toArray⟩ hs hd he
  have hsz : (⟨l.toArray⟩ : ByteArray).size = l.length := by simp [ByteArray.size]
  rw [hsz] at hr
  obtain ⟨W1, hW1⟩ : ∃ W1, W1 = w.drew.alloc (.cells (bytesRow ⟨l.toArray⟩ (grownCap w l.length 0 e)) e ((bytesRow ⟨l.toArray⟩ (grownCap w l.length 0 e)).size, (bytesRow ⟨l.toArray⟩ (grownCap w l.length 0 e)).size + 1)) := ⟨_, rfl⟩
  rw [← hW1] at hr
  have h2 : (execOp a.eval o).run P w = .ok (.value (.slice (some ⟨w.heap.size, 0, none⟩) l.length (grownCap w l.length 0 e))) W1 := by
    simp only [execOp, ho, hx, Sem.run_bind, hr]; rfl
  refine op_val h2 (k _ _ _ (by rw [hW1]; exact (below_drew w).trans (show Below w.drew.heap.size w.drew _ from Bl.box w.drew _)) (.inr ⟨w.heap.size, 0, _, rfl, grownCap_ge w l.length 0 e, grownCap_le_maxLen w l.length 0 e (by unfold maxLen; omega), fun j y hj => ?_⟩))
  have hjl : j < l.length := by have := (List.getElem?_eq_some_iff.1 hj).1; simpa using this
  have hb := bytesRow_at ⟨l.toArray⟩ (grownCap w l.length 0 e) j (by simpa using hjl)
  have hy : y = .int .u8 ((l.toArray[j]'(by simpa using hjl)).toNat : Int) := by
    rw [List.getElem?_map, List.getElem?_eq_getElem hjl] at hj
    simp only [Option.map_some, Option.some.injEq] at hj
    rw [← hj]; rfl
  have hh : W1.heap[w.heap.size]? = some (.cells (bytesRow ⟨l.toArray⟩ (grownCap w l.length 0 e)) e ((bytesRow ⟨l.toArray⟩ (grownCap w l.length 0 e)).size, (bytesRow ⟨l.toArray⟩ (grownCap w l.length 0 e)).size + 1)) := by rw [hW1]; exact heap_alloc_new w.drew _
  rw [hy]
  simp [World.cell?, hh, hb]
/-- a root's number, by the four bytes of a value -/
def rootE (s : List UInt8) : Int := if s.length = 4 then (if 1 ≤ rawN s 0 4 ∧ rawN s 0 4 ≤ 14399 then 0 else 2) else 7
def rootN (s : List UInt8) : Nat := if rootE s = 0 then rawN s 0 4 else 0
theorem loop_len (bs : ByteArray) (i : Nat) (r : List UInt8) (h : i ≤ bs.size) : (ByteArray.toList.loop bs i r).length = r.length + (bs.size - i) := by
  rw [ByteArray.toList.loop]
  split
  · rename_i h2
    rw [loop_len bs (i + 1) _ (by omega)]
    simp; omega
  · simp; omega
termination_by bs.size - i
theorem toList_len (bs : ByteArray) : bs.toList.length = bs.size := by
  unfold ByteArray.toList; rw [loop_len _ _ _ (Nat.zero_le _)]; simp
theorem four_ne (n : Int) : ((⟨(leB n 4).toArray⟩ : ByteArray).toList == (⟨#[]⟩ : ByteArray).toList) = false := by
  cases hq : ((⟨(leB n 4).toArray⟩ : ByteArray).toList == (⟨#[]⟩ : ByteArray).toList) with
  | false => rfl
  | true =>
    have e := congrArg List.length (eq_of_beq hq)
    rw [toList_len, toList_len] at e
    simp [ByteArray.size, leB_len] at e
set_option maxRecDepth 100000 in
set_option maxHeartbeats 1000000 in
theorem value_rootR (w : World) :
    Calls Tryz.prog 90 #[] w (RetS (fun w' r => ∃ b, r = .slice (some ⟨b, 0, none⟩) 1 1 ∧ w.heap.size ≤ b ∧ Blk w' b [.int .i64 4, .int .i64 1, .int .i64 14399] 118) w) := by
 refine zin 3 Tryz.func90 ?_
 refine xbs 8 1 [.int .i64 4, .int .i64 1, .int .i64 14399] 118 fun b1 W1 n1 => ?_
 have g1 := n1.ge (Below.refl w.heap.size _)
 exact xe 4 (.slice (some ⟨b1, 0, none⟩) 1 1) ⟨_, rfl, n1.below, _, rfl, g1, n1.blk⟩
set_option maxRecDepth 100000 in
set_option maxHeartbeats 1000000 in
theorem value_putR (gl : Nat) (an : Option Addr) (cn : Nat) (n : Int) (w : World) (hl : Blk w gl [.int .i64 4, .int .i64 1, .int .i64 14399] 118) (hn : Sl w (.slice an 1 cn) 1 [.int .i64 n]) (h1 : 1 ≤ n) (h2 : n ≤ 14399) :
    Calls Tryz.prog 38 #[.slice (some ⟨gl, 0, none⟩) 1 1, .slice an 1 cn] w (Ret (.string ⟨(leB n 4).toArray⟩) w) := by
 have hlo := h1
 have hhi := h2
 clear h2
 refine zin 51 Tryz.func38 ?_
 refine xu 19 2 ?_
 refine xlv 15 hl.rp ?_
 refine xa 0 [.int .i64 0, .int .i64 0, .int .i64 0] 118 fun b1 W1 n1 => ?_
 have d1_gl := n1.ne hl
 refine xsv 1 n1.blk [.int .i64 4, .int .i64 1, .int .i64 14399] fun W2 u2 k2 => ?_
 have g1 := n1.ge (Below.refl w.heap.size _)
 refine xd 4 .z ?_
 refine xx (.e [0, 1] 2) _ 1 0 1 (Ints.elem (l := [n]) hn (k := 0) (by simp)).1 ?_
 have hB := Bl.next (u2.below n1.below g1) (below_drew W2)
 refine xl (.e [] 3) ((Ints.elem (l := [n]) (hn.below hB) (k := 0) (by simp)).2) ?_
 have k2'1 := k2.below (below_drew W2)
 refine xb (.e [4] 5) 1 k2'1 ?_
 refine xgk (.b [6, 7]) [23, 24] (show (decide (n < (1 : Int)) : Bool) = false from decide_eq_false (by omega)) ?_
 refine xx (.e [8, 9] 10) _ 1 0 1 (Ints.elem (l := [n]) hn (k := 0) (by simp)).1 ?_
 refine xl (.e [] 11) ((Ints.elem (l := [n]) (hn.below hB) (k := 0) (by simp)).2) ?_
 refine xb (.e [12] 13) 2 k2'1 ?_
 refine xk (.r [14, 15] 2) (show (decide (n > (14399 : Int)) : Bool) = false from decide_eq_false (by omega)) ?_
 refine xd 3 .z ?_
 have k2'2 := k2'1.below (below_drew W2.drew)
 refine xb (.e [0] 1) 0 k2'2 ?_
 refine xx (.e [2, 3] 4) _ 1 0 1 (Ints.elem (l := [n]) hn (k := 0) (by simp)).1 ?_
 have hB'1 := Bl.next hB (below_drew W2.drew)
 refine xl (.e [] 5) ((Ints.elem (l := [n]) (hn.below hB'1) (k := 0) (by simp)).2) ?_
 refine xbs (.o [6] 7) 1 [.int .i64 4, .int .i64 n] 112 fun b4 W4 n4 => ?_
 have g4 := n4.ge hB'1
 refine yc (.o [] 8) (args := #[.slice (some ⟨b4, 0, none⟩) 1 1]) .z (Pack_4 b4 n (by omega) (by omega) _ n4.blk) ?_
 rintro _ W5 ⟨_, rfl, hb5, p2, c2, rfl, h2⟩
 have hs5 := (Bl.next hB'1 n4.below).size
 refine ⟨hb5, ?_⟩
 have o6 := World.ownsRow_nil W5 w.heap.size 5 1
 have h2'1 := own_mono h2 hs5
 have hB'2 := Bl.next (Bl.next hB'1 n4.below) hb5
 refine xbi (.r [9, 10, 11, 12, 13] 5) fun _ _ _ _ zJ zQ zo zx zy zK => op_app (m := 4) (news := (leB n 4).map bv) (.int .u8 0) 1 1 (4) ((leB n 4).map bv) zo Tryz.underlying53 (by kernel_rfl) rfl (by decide) zx o6 zy (own_sl h2'1) (by simp [leB_len]) (bv_one _) (by unfold maxLen; omega) (by omega) hB'2.size (by rfl) (by simp) fun px7 cx7 W7 o7 hg7 hb7 => ?_
 refine zK _ _ ?_
 refine xcv0 24 (fun _ _ _ zo zx => run_bstr zo zx (bys_of (own_sl o7) (leB_len _ _)) (leB_len _ _) Tryz.underlying53 Tryz.underlying5 Tryz.underlying9) ?_
 have hB'3 := hB'2.trans hb7
 exact xe 4 (.string ⟨(leB n 4).toArray⟩) ⟨rfl, hB'3⟩
set_option maxRecDepth 100000 in
set_option maxHeartbeats 1000000 in
theorem value_putX (gl : Nat) (an : Option Addr) (cn : Nat) (n : Int) (w : World) (hl : Blk w gl [.int .i64 4, .int .i64 1, .int .i64 14399] 118) (hn : Sl w (.slice an 1 cn) 1 [.int .i64 n]) (h : ¬ (1 ≤ n ∧ n ≤ 14399)) :
    Calls Tryz.prog 38 #[.slice (some ⟨gl, 0, none⟩) 1 1, .slice an 1 cn] w (Ret (.string ⟨#[]⟩) w) := by
 refine zin 51 Tryz.func38 ?_
 refine xu 19 2 ?_
 refine xlv 15 hl.rp ?_
 refine xa 0 [.int .i64 0, .int .i64 0, .int .i64 0] 118 fun b1 W1 n1 => ?_
 have d1_gl := n1.ne hl
 refine xsv 1 n1.blk [.int .i64 4, .int .i64 1, .int .i64 14399] fun W2 u2 k2 => ?_
 have g1 := n1.ge (Below.refl w.heap.size _)
 refine xd 4 .z ?_
 refine xx (.e [0, 1] 2) _ 1 0 1 (Ints.elem (l := [n]) hn (k := 0) (by simp)).1 ?_
 have hB := Bl.next (u2.below n1.below g1) (below_drew W2)
 refine xl (.e [] 3) ((Ints.elem (l := [n]) (hn.below hB) (k := 0) (by simp)).2) ?_
 have k2'1 := k2.below (below_drew W2)
 refine xb (.e [4] 5) 1 k2'1 ?_
 refine xg (.b [6, 7]) [23, 24] (decide (n < (1 : Int))) (fun hc3 => ?_) (fun hc3 => ?_)
 · have hc3 := of_decide_eq_true hc3
   exact xe (.r [8, 9, 10, 11, 12, 13, 14, 15] 15) (.string ⟨#[]⟩) ⟨rfl, hB⟩
 have hc3 := of_decide_eq_false hc3
 refine xx (.e [8, 9] 10) _ 1 0 1 (Ints.elem (l := [n]) hn (k := 0) (by simp)).1 ?_
 refine xl (.e [] 11) ((Ints.elem (l := [n]) (hn.below hB) (k := 0) (by simp)).2) ?_
 refine xb (.e [12] 13) 2 k2'1 ?_
 refine xk (.r [14, 15] 2) (show (decide (n > (14399 : Int)) : Bool) = true from decide_eq_true (by omega)) ?_
 exact xe 12 (.string ⟨#[]⟩) ⟨rfl, hB⟩
set_option maxRecDepth 100000 in
set_option maxHeartbeats 1000000 in
theorem value_read_len (gl : Nat) (s : List UInt8) (w : World) (hl : Blk w gl [.int .i64 4, .int .i64 1, .int .i64 14399] 118) (hs : s.length ≤ 1000) (h4 : s.length ≠ 4) :
    Calls Tryz.prog 52 #[.slice (some ⟨gl, 0, none⟩) 1 1, .string ⟨s.toArray⟩] w (RetS (fun w' r => ∃ p c, r = .tuple #[.slice p 1 c, .int .i64 7] ∧ w'.ownsRow w.heap.size 3 1 (.slice p 1 c) 1 [.int .i64 0]) w) := by
 refine zin 54 Tryz.func52 ?_
 refine xu 25 2 ?_
 refine xlv 14 hl.rp ?_
 refine xa 0 [.int .i64 0, .int .i64 0, .int .i64 0] 118 fun b1 W1 n1 => ?_
 have d1_gl := n1.ne hl
 refine xsv 0 n1.blk [.int .i64 4, .int .i64 1, .int .i64 14399] fun W2 u2 k2 => ?_
 have g1 := n1.ge (Below.refl w.heap.size _)
 refine xb 6 0 k2 ?_
 refine xbs 0 1 [.int .i64 4] 3 fun b3 W3 n3 => ?_
 have o4 := World.ownsRow_nil W3 w.heap.size 3 1
 have hB := Bl.next (u2.below n1.below g1) n3.below
 refine xbi 0 fun _ _ _ _ zJ zQ zo zx zy zK => op_app (m := 1) (news := [.int .i64 4]) (.int .i64 0) 1 8 (1) ([Value.int .i64 4]) zo Tryz.underlying22 (by kernel_rfl) rfl (by decide) zx o4 zy (n3.blk.sl 1 1 (by decide) (by decide)) rfl (by simp [Value.oneCell']) (by unfold maxLen; omega) (by omega) hB.size (by rfl) (by rfl) fun px5 cx5 W5 o5 hg5 hb5 => ?_
 refine zK _ _ ?_
 have k2'1 := (k2.below n3.below).grown hg5 o4 (by decide)
 refine xb 6 0 k2'1 ?_
 refine xk 31 (show (((↑s.length : Int) != (4 : Int)) : Bool) = true from bne_iff_ne.2 (by omega)) ?_
 refine xmk 4 fun _ _ _ _ zJ zQ zo zx zy zK => op_make 1 (.int .i64 0) 1 8 [Value.int .i64 0] zo zx zy Tryz.underlying22 (by kernel_rfl) rfl (by omega) (by omega) (rfl) fun b6 W6 n6 => ?_
 have hB'1 := hB.trans hb5
 have g6 := n6.ge hB'1
 have r6_o5 := own_ne o5 n6
 refine zK _ _ ?_
 have hB'2 := Bl.next hB'1 n6.below
 have o6 := own_of_blk (size := 1) (n := 1) n6.blk g6 (rfl) (by unfold maxLen; omega)
 exact xe 6 (.tuple #[.slice (some ⟨b6, 0, none⟩) 1 1, .int .i64 7]) ⟨_, rfl, hB'2, _, _, rfl, o6⟩
set_option maxRecDepth 100000 in
set_option maxHeartbeats 1000000 in
theorem value_read_ok (gl : Nat) (s : List UInt8) (w : World) (hl : Blk w gl [.int .i64 4, .int .i64 1, .int .i64 14399] 118) (hs : s.length ≤ 1000) (h4 : s.length = 4) (h1 : 1 ≤ rawN s 0 4) (h2 : rawN s 0 4 ≤ 14399) :
    Calls Tryz.prog 52 #[.slice (some ⟨gl, 0, none⟩) 1 1, .string ⟨s.toArray⟩] w (RetS (fun w' r => ∃ p c, r = .tuple #[.slice p 1 c, .int .i64 0] ∧ w'.ownsRow w.heap.size 3 1 (.slice p 1 c) 1 [.int .i64 (↑(rawN s 0 4) : Int)]) w) := by
 refine zin 54 Tryz.func52 ?_
 refine xu 25 2 ?_
 refine xlv 14 hl.rp ?_
 refine xa 0 [.int .i64 0, .int .i64 0, .int .i64 0] 118 fun b1 W1 n1 => ?_
 have d1_gl := n1.ne hl
 refine xsv 0 n1.blk [.int .i64 4, .int .i64 1, .int .i64 14399] fun W2 u2 k2 => ?_
 have g1 := n1.ge (Below.refl w.heap.size _)
 refine xb 6 0 k2 ?_
 refine xbs 0 1 [.int .i64 4] 3 fun b3 W3 n3 => ?_
 have o4 := World.ownsRow_nil W3 w.heap.size 3 1
 have hB := Bl.next (u2.below n1.below g1) n3.below
 refine xbi 0 fun _ _ _ _ zJ zQ zo zx zy zK => op_app (m := 1) (news := [.int .i64 4]) (.int .i64 0) 1 8 (1) ([Value.int .i64 4]) zo Tryz.underlying22 (by kernel_rfl) rfl (by decide) zx o4 zy (n3.blk.sl 1 1 (by decide) (by decide)) rfl (by simp [Value.oneCell']) (by unfold maxLen; omega) (by omega) hB.size (by rfl) (by rfl) fun px5 cx5 W5 o5 hg5 hb5 => ?_
 refine zK _ _ ?_
 have k2'1 := (k2.below n3.below).grown hg5 o4 (by decide)
 refine xb 6 0 k2'1 ?_
 refine xk 31 (show (((↑s.length : Int) != (4 : Int)) : Bool) = false from by rw [h4]; rfl) ?_
 refine xcf 5 fun _ _ _ zJ zQ zo zx zK => op_strBytes s zo zx Tryz.underlying9 Tryz.underlying53 Tryz.underlying5 (by omega) ?_
 intro bz cz W6 hb6 hbz
 refine zK _ _ ?_
 have o5'1 := own_below o5 hb6
 refine xc 1 (args := #[.slice (some ⟨bz, 0, none⟩) s.length cz, .slice px5 1 cx5]) (Unpack_okN (some ⟨bz, 0, none⟩) s.length cz s px5 cx5 1 [4] [rawN s 0 4] _ rfl rfl rfl (by decide) (by simp; omega) (by omega) (by decide) hbz (own_sl o5'1) (fun i hi => by obtain rfl : i = 0 := (by simpa using hi); have := rawN_lt4 s 0 4 (by decide); simp [unpL]; omega)) ?_
 rintro _ W7 ⟨_, rfl, hb7, p5, c5, rfl, h5⟩
 have hs7 := (Bl.next (hB.trans hb5) hb6).size
 have hl'1 := ((((u2.blk (hl.below n1.below) (Ne.symm (Ne.symm d1_gl))).below n3.below).grown hg5 o4 (by decide)).below hb6).below hb7
 have h5'1 := own_mono h5 hs7
 refine xr 15 (args := #[.slice (some ⟨gl, 0, none⟩) 1 1, .slice p5 1 c5]) (value_putR gl p5 c5 (↑(rawN s 0 4) : Int) _ hl'1 (own_sl h5'1) (by omega) (by omega)) fun W8 hb8 => ?_
 refine xk 4 (show (((⟨(leB (↑(rawN s 0 4) : Int) 4).toArray⟩ : ByteArray).toList == (⟨#[]⟩ : ByteArray).toList) : Bool) = false from four_ne _) ?_
 have hB'1 := Bl.next (Bl.next (Bl.next (hB.trans hb5) hb6) hb7) hb8
 have h5'2 := own_below h5'1 hb8
 exact xe 10 (.tuple #[.slice p5 1 c5, .int .i64 0]) ⟨_, rfl, hB'1, _, _, rfl, h5'2⟩
set_option maxRecDepth 100000 in
set_option maxHeartbeats 1000000 in
theorem value_read_bad (gl : Nat) (s : List UInt8) (w : World) (hl : Blk w gl [.int .i64 4, .int .i64 1, .int .i64 14399] 118) (hs : s.length ≤ 1000) (h4 : s.length = 4) (h1 : ¬ (1 ≤ (rawN s 0 4 : Int) ∧ (rawN s 0 4 : Int) ≤ 14399)) :
    Calls Tryz.prog 52 #[.slice (some ⟨gl, 0, none⟩) 1 1, .string ⟨s.toArray⟩] w (RetS (fun w' r => ∃ p c, r = .tuple #[.slice p 1 c, .int .i64 2] ∧ w'.ownsRow w.heap.size 3 1 (.slice p 1 c) 1 [.int .i64 0]) w) := by
 refine zin 54 Tryz.func52 ?_
 refine xu 25 2 ?_
 refine xlv 14 hl.rp ?_
 refine xa 0 [.int .i64 0, .int .i64 0, .int .i64 0] 118 fun b1 W1 n1 => ?_
 have d1_gl := n1.ne hl
 refine xsv 0 n1.blk [.int .i64 4, .int .i64 1, .int .i64 14399] fun W2 u2 k2 => ?_
 have g1 := n1.ge (Below.refl w.heap.size _)
 refine xb 6 0 k2 ?_
 refine xbs 0 1 [.int .i64 4] 3 fun b3 W3 n3 => ?_
 have o4 := World.ownsRow_nil W3 w.heap.size 3 1
 have hB := Bl.next (u2.below n1.below g1) n3.below
 refine xbi 0 fun _ _ _ _ zJ zQ zo zx zy zK => op_app (m := 1) (news := [.int .i64 4]) (.int .i64 0) 1 8 (1) ([Value.int .i64 4]) zo Tryz.underlying22 (by kernel_rfl) rfl (by decide) zx o4 zy (n3.blk.sl 1 1 (by decide) (by decide)) rfl (by simp [Value.oneCell']) (by unfold maxLen; omega) (by omega) hB.size (by rfl) (by rfl) fun px5 cx5 W5 o5 hg5 hb5 => ?_
 refine zK _ _ ?_
 have k2'1 := (k2.below n3.below).grown hg5 o4 (by decide)
 refine xb 6 0 k2'1 ?_
 refine xk 31 (show (((↑s.length : Int) != (4 : Int)) : Bool) = false from by rw [h4]; rfl) ?_
 refine xcf 5 fun _ _ _ zJ zQ zo zx zK => op_strBytes s zo zx Tryz.underlying9 Tryz.underlying53 Tryz.underlying5 (by omega) ?_
 intro bz cz W6 hb6 hbz
 refine zK _ _ ?_
 have o5'1 := own_below o5 hb6
 refine xc 1 (args := #[.slice (some ⟨bz, 0, none⟩) s.length cz, .slice px5 1 cx5]) (Unpack_okN (some ⟨bz, 0, none⟩) s.length cz s px5 cx5 1 [4] [rawN s 0 4] _ rfl rfl rfl (by decide) (by simp; omega) (by omega) (by decide) hbz (own_sl o5'1) (fun i hi => by obtain rfl : i = 0 := (by simpa using hi); have := rawN_lt4 s 0 4 (by decide); simp [unpL]; omega)) ?_
 rintro _ W7 ⟨_, rfl, hb7, p5, c5, rfl, h5⟩
 have hs7 := (Bl.next (hB.trans hb5) hb6).size
 have hl'1 := ((((u2.blk (hl.below n1.below) (Ne.symm (Ne.symm d1_gl))).below n3.below).grown hg5 o4 (by decide)).below hb6).below hb7
 have h5'1 := own_mono h5 hs7
 refine xr 15 (args := #[.slice (some ⟨gl, 0, none⟩) 1 1, .slice p5 1 c5]) (value_putX gl p5 c5 (↑(rawN s 0 4) : Int) _ hl'1 (own_sl h5'1) (by omega)) fun W8 hb8 => ?_
 refine xmk 9 fun _ _ _ _ zJ zQ zo zx zy zK => op_make 1 (.int .i64 0) 1 8 [Value.int .i64 0] zo zx zy Tryz.underlying22 (by kernel_rfl) rfl (by omega) (by omega) (rfl) fun b9 W9 n9 => ?_
 have hB'1 := Bl.next (Bl.next (Bl.next (hB.trans hb5) hb6) hb7) hb8
 have g9 := n9.ge hB'1
 have o5'2 := own_below (own_below o5'1 hb7) hb8
 have r9_o5 := own_ne o5'2 n9
 have h5'2 := own_below h5'1 hb8
 have r9_h5 := own_ne h5'2 n9
 refine zK _ _ ?_
 have hB'2 := Bl.next hB'1 n9.below
 have o9 := own_of_blk (size := 1) (n := 1) n9.blk g9 (rfl) (by unfold maxLen; omega)
 exact xe 6 (.tuple #[.slice (some ⟨b9, 0, none⟩) 1 1, .int .i64 2]) ⟨_, rfl, hB'2, _, _, rfl, o9⟩
theorem value_readR (gl : Nat) (s : List UInt8) (w : World) (hl : Blk w gl [.int .i64 4, .int .i64 1, .int .i64 14399] 118) (hs : s.length ≤ 1000) : Calls Tryz.prog 52 #[.slice (some ⟨gl, 0, none⟩) 1 1, .string ⟨s.toArray⟩] w (RetS (fun w' r => ∃ p c, r = .tuple #[.slice p 1 c, .int .i64 (rootE s)] ∧ w'.ownsRow w.heap.size 3 1 (.slice p 1 c) 1 [.int .i64 (rootN s : Int)]) w) := by
  by_cases h4 : s.length = 4
  · by_cases h1 : 1 ≤ rawN s 0 4 ∧ rawN s 0 4 ≤ 14399
    · have he : rootE s = 0 := by unfold rootE; rw [if_pos h4, if_pos h1]
      rw [he, rootN, if_pos he]
      exact value_read_ok gl s w hl hs h4 h1.1 h1.2
    · have he : rootE s = 2 := by unfold rootE; rw [if_pos h4, if_neg h1]
      rw [he, rootN, if_neg (by rw [he]; decide)]
      exact value_read_bad gl s w hl hs h4 (by omega)
  · have he : rootE s = 7 := by unfold rootE; rw [if_neg h4]
    rw [he, rootN, if_neg (by rw [he]; decide)]
    exact value_read_len gl s w hl hs h4
set_option maxRecDepth 100000 in
set_option maxHeartbeats 1000000 in
theorem value_ReadRoot (s : List UInt8) (w : World) (hs : s.length ≤ 1000) :
    Calls Tryz.prog 119 #[.string ⟨s.toArray⟩] w (Ret (.tuple #[.int .i64 (rootN s : Int), .int .i64 (rootE s)]) w) := by
 refine zin 16 Tryz.func119 ?_
 refine xc 8 (args := #[]) (value_rootR _) ?_
 rintro _ W1 ⟨_, rfl, hb1, gl, rfl, gg, kl⟩
 refine xc 1 (args := #[.slice (some ⟨gl, 0, none⟩) 1 1, .string ⟨s.toArray⟩]) (value_readR gl s _ kl hs) ?_
 rintro _ W2 ⟨_, rfl, hb2, p5, c5, rfl, h5⟩
 have h5'1 := own_mono h5 hb1.size
 refine xx 10 _ 1 0 1 (Ints.elem (l := [(rootN s : Int)]) (own_sl h5'1) (k := 0) (by simp)).1 ?_
 refine xl 0 ((Ints.elem (l := [(rootN s : Int)]) (own_sl h5'1) (k := 0) (by simp)).2) ?_
 have hB := Bl.next hb1 hb2
 exact xe 6 (.tuple #[.int .i64 (↑(rootN s) : Int), .int .i64 (rootE s)]) ⟨rfl, hB⟩
end Go.Proofs.YthlakkdgcgkcdaaGreat
namespace Go.Proofs.YthlakkdgcgkcdaaGreat
open Go.RowKit Go.Extern.Stop Go.Stop Go.Extern
set_option linter.unusedVariables false
attribute [local irreducible] wpList wpAnyH Code.wp Oper.wp Go

/-- a part of a value: its width, from where to where -/
abbrev Part := Nat × Int × Int
def partC (p : Part) : List Value := [.int .i64 (p.1 : Int), .int .i64 p.2.1, .int .i64 p.2.2]
theorem partC_len (p : Part) : (partC p).length = 3 := rfl
def part0 : Part := (4, 0, 0)
/-- parts whose numbers have room -/
def PartsOk (ps : List Part) : Prop := ps.length ≤ 1000 ∧ ∀ i, i < ps.length → ((ps.getD i part0).1 = 4 ∨ (ps.getD i part0).1 = 8) ∧ 0 ≤ (ps.getD i part0).2.1 ∧ (ps.getD i part0).2.2 < 9223372036854775808 ∧ ((ps.getD i part0).1 = 4 → (ps.getD i part0).2.2 < 4294967296)
def inP (p : Part) (n : Int) : Bool := decide (p.2.1 ≤ n ∧ n ≤ p.2.2)
def allIn (ps : List Part) (N : List Int) (k : Nat) : Bool := (List.range k).all fun i => inP (ps.getD i part0) (N.getD i 0)
theorem allIn_succ (ps : List Part) (N : List Int) (k : Nat) : allIn ps N (k + 1) = (allIn ps N k && inP (ps.getD k part0) (N.getD k 0)) := by simp [allIn, List.range_succ]
theorem allIn_stop {ps : List Part} {N : List Int} {i k : Nat} (hi : i < k) (h : inP (ps.getD i part0) (N.getD i 0) = false) : allIn ps N k = false := by
  unfold allIn
  rw [List.all_eq_false]
  exact ⟨i, List.mem_range.2 hi, by rw [h]; decide⟩
def putL (ps : List Part) (N : List Int) (k : Nat) : List UInt8 := (List.range k).flatMap fun i => leB (N.getD i 0) (ps.getD i part0).1
theorem putL_succ (ps : List Part) (N : List Int) (k : Nat) : putL ps N (k + 1) = putL ps N k ++ leB (N.getD k 0) (ps.getD k part0).1 := by simp [putL, List.range_succ]
def wids (ps : List Part) (k : Nat) : List Nat := (List.range k).map fun i => (ps.getD i part0).1
theorem wids_succ (ps : List Part) (k : Nat) : wids ps (k + 1) = wids ps k ++ [(ps.getD k part0).1] := by simp [wids, List.range_succ]
theorem wids_len (ps : List Part) (k : Nat) : (wids ps k).length = k := by simp [wids]
theorem wids_get (ps : List Part) {k i : Nat} (h : i < k) : (wids ps k).getD i 0 = (ps.getD i part0).1 := by simp [wids, List.getD, List.getElem?_range h]
theorem putL_len (ps : List Part) (N : List Int) (k : Nat) : (putL ps N k).length = (wids ps k).sum := by
  induction k with
  | zero => rfl
  | succ k ih => rw [putL_succ, wids_succ, List.length_append, leB_len, ih]; simp
theorem Pack_48 (g w : Nat) (n : Int) (W : World) (hw : w = 4 ∨ w = 8) (h0 : 0 ≤ n) (hb : w = 4 → n < 4294967296) (hk : Blk W g [.int .i64 (w : Int), .int .i64 n] 112) : Calls Tryz.prog 55 #[.slice (some ⟨g, 0, none⟩) 1 1] W (RetS (fun w' r => ∃ p c, r = .tuple #[.slice p w c, .int .i64 0] ∧ w'.ownsRow W.heap.size 5 1 (.slice p w c) w ((leB n w).map bv)) W) := by
  rcases hw with rfl | rfl
  · exact Pack_4 g n h0 (hb rfl) W hk
  · exact Pack_8 g n h0 W hk
def ValPutP (ps : List Part) (N : List Int) (w : World) (e : Ending) (w' : World) : Prop :=
  (allIn ps N ps.length = false ∧ e = .returned (.string ⟨#[]⟩) ∧ Below w.heap.size w w') ∨ (allIn ps N ps.length = true ∧ e = .returned (.string ⟨(putL ps N ps.length).toArray⟩) ∧ Below w.heap.size w w')
set_option maxRecDepth 100000 in
set_option maxHeartbeats 4000000 in
theorem value_putG (ps : List Part) (N : List Int) (gl gn : Option Addr) (cl cn : Nat) (w : World) (hps : PartsOk ps) (hNl : N.length = ps.length) (hP : Sts partC w (.slice gl ps.length cl) ps) (hN : Sl w (.slice gn ps.length cn) ps.length (N.map (Value.int .i64))) :
    Calls Tryz.prog 38 #[.slice gl ps.length cl, .slice gn ps.length cn] w (ValPutP ps N w) := by
 have hpl := hps.1
 refine zin 51 Tryz.func38 ?_
 have hB := Below.refl w.heap.size w
 refine zl 19 51 (fun zm zkv V => ∃ (i m : Nat) (q : Option Addr) (d : Nat), zkv = [(1, .slice gn ps.length cn), (5, .slice q m d), (10, .slice gl ps.length cl), (11, .int .i64 (↑ps.length : Int)), (12, .int .i64 (↑i : Int))] ∧ zm = ps.length - ((↑i : Int)).toNat ∧ Below w.heap.size w V ∧ V.ownsRow w.heap.size 5 1 (.slice q m d) m ((putL ps N i).map bv) ∧ i ≤ ps.length ∧ m = (wids ps i).sum ∧ m ≤ i * 8 ∧ allIn ps N i = true) ⟨0, 0, _, _, rfl, rfl, hB, World.ownsRow_nil _ _ _ _, Nat.zero_le _, rfl, Nat.zero_le _, rfl⟩ ?_
 rintro _ _ W1 ⟨i, m, q, d, rfl, rfl, hB_1, ho, hi, hm, hm2, hall⟩ J1 hJ1 r1
 refine xid 6 ((↑i : Int) < (↑ps.length : Int)) (fun hc2 => ?_) (fun hc2 => ?_)
 · refine xx 7 _ ps.length i 3 (Sts.cell hP partC_len part0 (k := i) (i := 0) (by omega) rfl).1 ?_
   refine xlv 0 (Sts.rp (k := i) (hP.below hB_1) partC_len part0 (by omega) (by decide)) ?_
   refine xa 0 [.int .i64 0, .int .i64 0, .int .i64 0] 118 fun b3 W3 n3 => ?_
   have g3 := n3.ge hB_1
   refine xsv 1 n3.blk [.int .i64 (↑(ps.getD i part0).1 : Int), .int .i64 ((ps.getD i part0).2.1), .int .i64 ((ps.getD i part0).2.2)] fun W4 u4 k4 => ?_
   refine xd 4 .z ?_
   refine xx (.e [0, 1] 2) _ ps.length i 1 (IntsN.elem hN hNl (k := i) (by omega)).1 ?_
   have hB'1 := Bl.next (u4.below (Bl.next hB_1 n3.below) g3) (below_drew W4)
   refine xl (.e [] 3) ((IntsN.elem (hN.below hB'1) hNl (k := i) (by omega)).2) ?_
   have k4'1 := k4.below (below_drew W4)
   refine xb (.e [4] 5) 1 k4'1 ?_
   refine xg (.b [6, 7]) [23, 24] (decide ((N.getD i 0) < (ps.getD i part0).2.1)) (fun hc5 => ?_) (fun hc5 => ?_)
   · have hc5 := of_decide_eq_true hc5
     exact xe (.r [8, 9, 10, 11, 12, 13, 14, 15] 15) (.string ⟨#[]⟩) (.inl ⟨allIn_stop (i := i) (by omega) (decide_eq_false (by omega)), rfl, hB'1⟩)
   have hc5 := of_decide_eq_false hc5
   refine xx (.e [8, 9] 10) _ ps.length i 1 (IntsN.elem hN hNl (k := i) (by omega)).1 ?_
   refine xl (.e [] 11) ((IntsN.elem (hN.below hB'1) hNl (k := i) (by omega)).2) ?_
   refine xb (.e [12] 13) 2 k4'1 ?_
   refine xid (.r [14, 15] 2) ((N.getD i 0) > (ps.getD i part0).2.2) (fun hc6 => ?_) (fun hc6 => ?_)
   · exact xe 12 (.string ⟨#[]⟩) (.inl ⟨allIn_stop (i := i) (by omega) (decide_eq_false (by omega)), rfl, hB'1⟩)
   refine xd 3 .z ?_
   have k4'2 := k4'1.below (below_drew W4.drew)
   refine xb (.e [0] 1) 0 k4'2 ?_
   refine xx (.e [2, 3] 4) _ ps.length i 1 (IntsN.elem hN hNl (k := i) (by omega)).1 ?_
   have hB'2 := Bl.next hB'1 (below_drew W4.drew)
   refine xl (.e [] 5) ((IntsN.elem (hN.below hB'2) hNl (k := i) (by omega)).2) ?_
   refine xbs (.o [6] 7) 1 [.int .i64 (↑(ps.getD i part0).1 : Int), .int .i64 (N.getD i 0)] 112 fun b7 W7 n7 => ?_
   have g7 := n7.ge hB'2
   refine yc (.o [] 8) (args := #[.slice (some ⟨b7, 0, none⟩) 1 1]) .z (Pack_48 b7 (ps.getD i part0).1 (N.getD i 0) _ (hps.2 i (by omega)).1 (by have := (hps.2 i (by omega)).2.1; omega) (fun q => by have := (hps.2 i (by omega)).2.2.2 q; omega) n7.blk) ?_
   rintro _ W8 ⟨_, rfl, hb8, p2, c2, rfl, h2⟩
   have hs8 := (Bl.next hB'2 n7.below).size
   refine ⟨hb8, ?_⟩
   have ho'1 := own_below (own_below (own_below (own_below (u4.own2 (own_below ho n3.below) n3.blk (by decide)) (below_drew W4)) (below_drew W4.drew)) n7.below) hb8
   have h2'1 := own_mono h2 hs8
   have hB'3 := Bl.next (Bl.next hB'2 n7.below) hb8
   refine xbi (.r [9, 10, 11, 12, 13] 5) fun _ _ _ _ zJ zQ zo zx zy zK => op_app (m := (ps.getD i part0).1) (news := (leB (N.getD i 0) (ps.getD i part0).1).map bv) (.int .u8 0) 1 1 ((m + (ps.getD i part0).1)) (((putL ps N (i + 1)).map bv)) zo Tryz.underlying53 (by kernel_rfl) rfl (by decide) zx ho'1 zy (own_sl h2'1) (by simp [leB_len]) (bv_one _) (by unfold maxLen; have := (hps.2 i (by omega)).1; omega) (by have := (hps.2 i (by omega)).1; omega) hB'3.size (by rfl) (by rw [putL_succ, List.map_append]) fun px9 cx9 W9 o9 hg9 hb9 => ?_
   refine zK _ _ ?_
   refine xwm 5 ((↑i : Int) + 1) (↑(i + 1) : Int) ?_
   have hB'4 := hB'3.trans hb9
   exact ze 2 (hJ1 _ _ _ ⟨i + 1, _, _, _, rfl, rfl, hB'4, o9, by omega, by rw [wids_succ, hm]; simp, by have := (hps.2 i (by omega)).1; omega, by rw [allIn_succ, hall]; exact decide_eq_true ⟨by omega, by omega⟩⟩ (by omega))
 refine xcv0 8 (fun _ _ _ zo zx => run_bstr zo zx (bys_of (own_sl ho) (by rw [putL_len]; exact hm.symm)) (by rw [putL_len]; exact hm.symm) Tryz.underlying53 Tryz.underlying5 Tryz.underlying9) ?_
 refine xe 4 (.string ⟨(putL ps N i).toArray⟩) ?_
 obtain rfl : i = ps.length := by omega
 exact .inr ⟨hall, rfl, hB_1⟩
/-- what stands in a value: the numbers, one behind the other -/
def rawsL (ps : List Part) (s : List UInt8) : List Nat := unpL s 0 (wids ps ps.length)
theorem rawsL_len (ps : List Part) (s : List UInt8) : (rawsL ps s).length = ps.length := by rw [rawsL, unpL_len, wids_len]
def readOk (ps : List Part) (s : List UInt8) : Bool := allIn ps ((rawsL ps s).map fun n : Nat => (n : Int)) ps.length
def readE (ps : List Part) (s : List UInt8) : Int := if s.length = (wids ps ps.length).sum then (if readOk ps s then 0 else 2) else 7
def readV (ps : List Part) (s : List UInt8) : List Nat := if readE ps s = 0 then rawsL ps s else List.replicate ps.length 0
theorem readV_len (ps : List Part) (s : List UInt8) : (readV ps s).length = ps.length := by
  unfold readV; split
  · exact rawsL_len ps s
  · simp
theorem readOk_lt {ps : List Part} {s : List UInt8} (hp : PartsOk ps) (h : readOk ps s = true) : ∀ i, i < (wids ps ps.length).length → (unpL s 0 (wids ps ps.length)).getD i 0 < 9223372036854775808 := by
  intro i hi
  rw [wids_len] at hi
  unfold readOk allIn at h
  rw [List.all_eq_true] at h
  have h1 := of_decide_eq_true (h i (List.mem_range.2 hi))
  have h2 := (hp.2 i hi).2.2.1
  rw [show ((rawsL ps s).map fun n : Nat => (n : Int)).getD i 0 = (((rawsL ps s).getD i 0 : Nat) : Int) by simp [List.getD, show i < (rawsL ps s).length by rw [rawsL_len]; exact hi]] at h1
  change (rawsL ps s).getD i 0 < _
  omega
theorem map_nv (l : List Nat) : l.map nv = (l.map fun n : Nat => (n : Int)).map (Value.int .i64) := by simp [nv]
theorem putL_ne {ps : List Part} {N : List Int} (hp : PartsOk ps) (h0 : 0 < ps.length) : ((⟨(putL ps N ps.length).toArray⟩ : ByteArray).toList == (⟨#[]⟩ : ByteArray).toList) = false := by
  rw [show (⟨#[]⟩ : ByteArray) = ⟨([] : List UInt8).toArray⟩ from rfl, str_beq]
  apply beq_false_of_ne
  intro q
  have h1 := congrArg List.length q
  obtain ⟨k, hk⟩ : ∃ k, ps.length = k + 1 := ⟨ps.length - 1, by omega⟩
  rw [hk, putL_succ, List.length_append, leB_len] at h1
  rw [List.length_nil] at h1
  have := (hp.2 k (by omega)).1
  omega
theorem zeros_nv (n : Nat) : zeros (Value.int .i64 0).cells.toList n = (List.replicate n 0).map nv := by
  rw [show (Value.int .i64 0).cells.toList = [Value.int .i64 0] from rfl, zeros, List.map_replicate]
  induction n with
  | zero => rfl
  | succ n ih => rw [List.replicate_succ, List.flatten_cons, ih, List.replicate_succ]; rfl
set_option maxRecDepth 100000 in
set_option maxHeartbeats 1000000 in
theorem value_readG_len (ps : List Part) (s : List UInt8) (gl : Option Addr) (cl : Nat) (w : World) (hps : PartsOk ps) (h0 : 0 < ps.length) (hs : s.length ≤ 100000) (hP : Sts partC w (.slice gl ps.length cl) ps) (hsl : s.length ≠ (wids ps ps.length).sum) :
    Calls Tryz.prog 52 #[.slice gl ps.length cl, .string ⟨s.toArray⟩] w (RetS (fun w' r => ∃ p c, r = .tuple #[.slice p ps.length c, .int .i64 (readE ps s)] ∧ w'.ownsRow w.heap.size 3 1 (.slice p ps.length c) ps.length ((readV ps s).map nv)) w) := by
 have hpl := hps.1
 refine zin 54 Tryz.func52 ?_
 have hB := Below.refl w.heap.size w
 refine zl 25 54 (fun zm zkv V => ∃ (i : Nat) (q : Option Addr) (d : Nat), zkv = [(0, .slice gl ps.length cl), (1, .string ⟨s.toArray⟩), (4, .slice none 0 0), (5, .int .i64 0), (6, .slice q i d), (7, .int .i64 (↑(wids ps i).sum : Int)), (12, .slice gl ps.length cl), (13, .int .i64 (↑ps.length : Int)), (14, .int .i64 (↑i : Int))] ∧ zm = ps.length - ((↑i : Int)).toNat ∧ Below w.heap.size w V ∧ V.ownsRow w.heap.size 3 1 (.slice q i d) i ((wids ps i).map nv) ∧ i ≤ ps.length ∧ (wids ps i).sum ≤ i * 8) ⟨0, _, _, rfl, rfl, hB, World.ownsRow_nil _ _ _ _, Nat.zero_le _, Nat.zero_le _⟩ ?_
 rintro _ _ W1 ⟨i, q, d, rfl, rfl, hB_1, ho, hi, hm2⟩ J1 hJ1 r1
 have hwd : i < ps.length → (ps.getD i part0).1 ≤ 8 := fun q => by have := (hps.2 i q).1; omega
 refine xid 6 ((↑i : Int) < (↑ps.length : Int)) (fun hc2 => ?_) (fun hc2 => ?_)
 · refine xx 6 _ ps.length i 3 (Sts.cell hP partC_len part0 (k := i) (i := 0) (by omega) rfl).1 ?_
   refine xlv 0 (Sts.rp (k := i) (hP.below hB_1) partC_len part0 (by omega) (by decide)) ?_
   refine xa 0 [.int .i64 0, .int .i64 0, .int .i64 0] 118 fun b3 W3 n3 => ?_
   have g3 := n3.ge hB_1
   refine xsv 0 n3.blk [.int .i64 (↑(ps.getD i part0).1 : Int), .int .i64 ((ps.getD i part0).2.1), .int .i64 ((ps.getD i part0).2.2)] fun W4 u4 k4 => ?_
   refine xb 6 0 k4 ?_
   refine xbs 0 1 [.int .i64 (↑(ps.getD i part0).1 : Int)] 3 fun b5 W5 n5 => ?_
   have hB'1 := u4.below (Bl.next hB_1 n3.below) g3
   have g5 := n5.ge hB'1
   have ho'1 := u4.own2 (own_below ho n3.below) n3.blk (by decide)
   have r5_ho := own_ne ho'1 n5
   have ho'2 := own_below ho'1 n5.below
   have hB'2 := Bl.next hB'1 n5.below
   refine xbi 0 fun _ _ _ _ zJ zQ zo zx zy zK => op_app (m := 1) (news := [.int .i64 (↑(ps.getD i part0).1 : Int)]) (.int .i64 0) 1 8 (i + 1) (((wids ps (i + 1)).map nv)) zo Tryz.underlying22 (by kernel_rfl) rfl (by decide) zx ho'2 zy (n5.blk.sl 1 1 (by decide) (by decide)) rfl (by simp [Value.oneCell']) (by unfold maxLen; omega) (by omega) hB'2.size (by rfl) (by rw [wids_succ, List.map_append]; rfl) fun px6 cx6 W6 o6 hg6 hb6 => ?_
   refine zK _ _ ?_
   have k4'1 := (k4.below n5.below).grown hg6 ho'2 (by decide)
   refine xb 6 0 k4'1 ?_
   refine xwm 0 ((↑(wids ps i).sum : Int) + (↑(ps.getD i part0).1 : Int)) (↑((wids ps i).sum + ((ps.getD i part0).1)) : Int) ?_
   refine xwm 5 ((↑i : Int) + 1) (↑(i + 1) : Int) ?_
   refine xv1 2 7 (show (.int .i64 (↑((wids ps i).sum + ((ps.getD i part0).1)) : Int) : Value) = .int .i64 (↑(wids ps (i + 1)).sum : Int) from by rw [wids_succ]; simp) ?_
   have hB'3 := hB'2.trans hb6
   exact ze 0 (hJ1 _ _ _ ⟨i + 1, _, _, rfl, rfl, hB'3, o6, by omega, by rw [wids_succ, List.sum_append, List.sum_cons, List.sum_nil]; have := hwd (by omega); omega⟩ (by omega))
 refine xk 14 (show (((↑s.length : Int) != (↑(wids ps i).sum : Int)) : Bool) = true from bne_iff_ne.2 (by rw [show i = ps.length by omega]; omega)) ?_
 refine xmk 4 fun _ _ _ _ zJ zQ zo zx zy zK => op_make ps.length (.int .i64 0) 1 8 ((List.replicate ps.length 0).map nv) zo zx zy Tryz.underlying22 (by kernel_rfl) rfl (by omega) (by omega) (zeros_nv _) fun b7 W7 n7 => ?_
 have g7 := n7.ge hB_1
 have r7_ho := own_ne ho n7
 refine zK _ _ ?_
 have hB'4 := Bl.next hB_1 n7.below
 have o7 := own_of_blk (size := 1) (n := ps.length) n7.blk g7 (by simp) (by unfold maxLen; omega)
 refine xe 6 (.tuple #[.slice (some ⟨b7, 0, none⟩) ps.length ps.length, .int .i64 7]) ?_
 have he : readE ps s = 7 := if_neg hsl
 exact ⟨_, rfl, hB'4, _, _, by rw [he], by rw [readV, if_neg (by rw [he]; decide)]; exact o7⟩
def UnpP (s : List UInt8) (ws : List Nat) (n : Nat) (W : World) (e : Ending) (w' : World) : Prop :=
  ((¬ ∀ i, i < ws.length → (unpL s 0 ws).getD i 0 < 9223372036854775808) ∧ e = .returned (.tuple #[.slice none 0 0, .int .i64 2]) ∧ Below W.heap.size W w') ∨
  ((∀ i, i < ws.length → (unpL s 0 ws).getD i 0 < 9223372036854775808) ∧ ∃ p c, e = .returned (.tuple #[.slice p n c, .int .i64 0]) ∧ Below W.heap.size W w' ∧ w'.ownsRow W.heap.size 3 1 (.slice p n c) n ((unpL s 0 ws).map nv))
theorem Unpack_P (a : Option Addr) (n c m : Nat) (s : List UInt8) (aw : Option Addr) (cw : Nat) (ws : List Nat) (W : World) (hn : s.length = n) (hm : ws.length = m) (hk : ∀ i, i < ws.length → ws.getD i 0 = 1 ∨ ws.getD i 0 = 2 ∨ ws.getD i 0 = 4 ∨ ws.getD i 0 = 8) (hs : ws.sum ≤ n) (hl : n ≤ 100000000) (hw : m ≤ 1000) (h : Bys W (.slice a n c) s) (hws : Sl W (.slice aw m cw) m (ws.map nv)) :
    Calls Tryz.prog 71 #[.slice a n c, .slice aw m cw] W (UnpP s ws m W) := by
  subst hn hm
  by_cases hq : ∀ i, i < ws.length → (unpL s 0 ws).getD i 0 < 9223372036854775808
  · refine (Unpack_ok a c s aw cw ws W hk hs hl hw h hws hq).mono ?_
    rintro e V ⟨_, rfl, hb, p, c2, rfl, ho⟩
    exact .inr ⟨hq, p, c2, rfl, hb, ho⟩
  · refine (Unpack_bad a c s aw cw ws W hk hs hl hw h hws hq).mono ?_
    rintro e V ⟨rfl, hb⟩
    exact .inl ⟨hq, rfl, hb⟩
theorem rawsI_len (ps : List Part) (s : List UInt8) (k : Nat) : ((unpL s 0 (wids ps k)).map fun n : Nat => (n : Int)).length = k := by rw [List.length_map, unpL_len, wids_len]
theorem value_putR2 (ps : List Part) (N : List Int) (gl gn : Option Addr) (cl cn n : Nat) (w : World) (hps : PartsOk ps) (hn : n = ps.length) (hNl : N.length = n) (hP : Sts partC w (.slice gl ps.length cl) ps) (hN : Sl w (.slice gn n cn) n (N.map (Value.int .i64))) :
    Calls Tryz.prog 38 #[.slice gl ps.length cl, .slice gn n cn] w (fun e w' => (allIn ps N n = false ∧ e = .returned (.string ⟨#[]⟩) ∧ Below w.heap.size w w') ∨ (allIn ps N n = true ∧ e = .returned (.string ⟨(putL ps N ps.length).toArray⟩) ∧ Below w.heap.size w w')) := by
  subst hn; exact value_putG ps N gl gn cl cn w hps hNl hP hN
set_option maxRecDepth 100000 in
set_option maxHeartbeats 4000000 in
theorem value_readG_in (ps : List Part) (s : List UInt8) (gl : Option Addr) (cl : Nat) (w : World) (hps : PartsOk ps) (h0 : 0 < ps.length) (hs : s.length ≤ 100000) (hP : Sts partC w (.slice gl ps.length cl) ps) (hsl : s.length = (wids ps ps.length).sum) :
    Calls Tryz.prog 52 #[.slice gl ps.length cl, .string ⟨s.toArray⟩] w (RetS (fun w' r => ∃ p c, r = .tuple #[.slice p ps.length c, .int .i64 (readE ps s)] ∧ w'.ownsRow w.heap.size 3 1 (.slice p ps.length c) ps.length ((readV ps s).map nv)) w) := by
 have hpl := hps.1
 refine zin 54 Tryz.func52 ?_
 have hB := Below.refl w.heap.size w
 refine zl 25 54 (fun zm zkv V => ∃ (i : Nat) (q : Option Addr) (d : Nat), zkv = [(0, .slice gl ps.length cl), (1, .string ⟨s.toArray⟩), (4, .slice none 0 0), (5, .int .i64 0), (6, .slice q i d), (7, .int .i64 (↑(wids ps i).sum : Int)), (12, .slice gl ps.length cl), (13, .int .i64 (↑ps.length : Int)), (14, .int .i64 (↑i : Int))] ∧ zm = ps.length - ((↑i : Int)).toNat ∧ Below w.heap.size w V ∧ V.ownsRow w.heap.size 3 1 (.slice q i d) i ((wids ps i).map nv) ∧ i ≤ ps.length ∧ (wids ps i).sum ≤ i * 8) ⟨0, _, _, rfl, rfl, hB, World.ownsRow_nil _ _ _ _, Nat.zero_le _, Nat.zero_le _⟩ ?_
 rintro _ _ W1 ⟨i, q, d, rfl, rfl, hB_1, ho, hi, hm2⟩ J1 hJ1 r1
 have hwd : i < ps.length → (ps.getD i part0).1 ≤ 8 := fun q => by have := (hps.2 i q).1; omega
 refine xid 6 ((↑i : Int) < (↑ps.length : Int)) (fun hc2 => ?_) (fun hc2 => ?_)
 · refine xx 6 _ ps.length i 3 (Sts.cell hP partC_len part0 (k := i) (i := 0) (by omega) rfl).1 ?_
   refine xlv 0 (Sts.rp (k := i) (hP.below hB_1) partC_len part0 (by omega) (by decide)) ?_
   refine xa 0 [.int .i64 0, .int .i64 0, .int .i64 0] 118 fun b3 W3 n3 => ?_
   have g3 := n3.ge hB_1
   refine xsv 0 n3.blk [.int .i64 (↑(ps.getD i part0).1 : Int), .int .i64 ((ps.getD i part0).2.1), .int .i64 ((ps.getD i part0).2.2)] fun W4 u4 k4 => ?_
   refine xb 6 0 k4 ?_
   refine xbs 0 1 [.int .i64 (↑(ps.getD i part0).1 : Int)] 3 fun b5 W5 n5 => ?_
   have hB'1 := u4.below (Bl.next hB_1 n3.below) g3
   have g5 := n5.ge hB'1
   have ho'1 := u4.own2 (own_below ho n3.below) n3.blk (by decide)
   have r5_ho := own_ne ho'1 n5
   have ho'2 := own_below ho'1 n5.below
   have hB'2 := Bl.next hB'1 n5.below
   refine xbi 0 fun _ _ _ _ zJ zQ zo zx zy zK => op_app (m := 1) (news := [.int .i64 (↑(ps.getD i part0).1 : Int)]) (.int .i64 0) 1 8 (i + 1) (((wids ps (i + 1)).map nv)) zo Tryz.underlying22 (by kernel_rfl) rfl (by decide) zx ho'2 zy (n5.blk.sl 1 1 (by decide) (by decide)) rfl (by simp [Value.oneCell']) (by unfold maxLen; omega) (by omega) hB'2.size (by rfl) (by rw [wids_succ, List.map_append]; rfl) fun px6 cx6 W6 o6 hg6 hb6 => ?_
   refine zK _ _ ?_
   have k4'1 := (k4.below n5.below).grown hg6 ho'2 (by decide)
   refine xb 6 0 k4'1 ?_
   refine xwm 0 ((↑(wids ps i).sum : Int) + (↑(ps.getD i part0).1 : Int)) (↑((wids ps i).sum + ((ps.getD i part0).1)) : Int) ?_
   refine xwm 5 ((↑i : Int) + 1) (↑(i + 1) : Int) ?_
   refine xv1 2 7 (show (.int .i64 (↑((wids ps i).sum + ((ps.getD i part0).1)) : Int) : Value) = .int .i64 (↑(wids ps (i + 1)).sum : Int) from by rw [wids_succ]; simp) ?_
   have hB'3 := hB'2.trans hb6
   exact ze 0 (hJ1 _ _ _ ⟨i + 1, _, _, rfl, rfl, hB'3, o6, by omega, by rw [wids_succ, List.sum_append, List.sum_cons, List.sum_nil]; have := hwd (by omega); omega⟩ (by omega))
 refine xk 14 (show (((↑s.length : Int) != (↑(wids ps i).sum : Int)) : Bool) = false from by rw [show i = ps.length by omega, hsl]; simp) ?_
 refine xcf 5 fun _ _ _ zJ zQ zo zx zK => op_strBytes s zo zx Tryz.underlying9 Tryz.underlying53 Tryz.underlying5 (by omega) ?_
 intro bz cz W7 hb7 hbz
 refine zK _ _ ?_
 have ho'3 := own_below ho hb7
 refine xc 1 (args := #[.slice (some ⟨bz, 0, none⟩) s.length cz, .slice q i d]) (Unpack_P (some ⟨bz, 0, none⟩) s.length cz i s q d (wids ps i) _ rfl (wids_len ps i) (fun j hj => by rw [wids_len] at hj; rw [wids_get ps hj]; have := (hps.2 j (by omega)).1; omega) (by rw [show i = ps.length by omega]; omega) (by omega) (by omega) hbz (own_sl ho'3)) ?_
 rintro e W8 hq8
 rcases hq8 with ⟨hq, rfl, hb8⟩ | ⟨hq, p5, c5, rfl, hb8, h5⟩
 · have hie : i = ps.length := by omega
   have hno : readOk ps s = false := by rw [← Bool.not_eq_true]; intro q; exact hq (by rw [hie]; exact readOk_lt hps q)
   refine xmk 25 fun _ _ _ _ zJ zQ zo zx zy zK => op_make ps.length (.int .i64 0) 1 8 ((List.replicate ps.length 0).map nv) zo zx zy Tryz.underlying22 (by kernel_rfl) rfl (by omega) (by omega) (zeros_nv _) fun b9 W9 n9 => ?_
   have hB'4 := Bl.next (Bl.next hB_1 hb7) hb8
   have g9 := n9.ge hB'4
   have ho'4 := own_below ho'3 hb8
   have r9_ho := own_ne ho'4 n9
   refine zK _ _ ?_
   have hB'5 := Bl.next hB'4 n9.below
   have o9 := own_of_blk (size := 1) (n := ps.length) n9.blk g9 (by simp) (by unfold maxLen; omega)
   refine xe 6 (.tuple #[.slice (some ⟨b9, 0, none⟩) ps.length ps.length, .int .i64 2]) ?_
   have he : readE ps s = 2 := by unfold readE; rw [if_pos hsl, if_neg (by rw [hno]; decide)]
   exact ⟨_, rfl, hB'5, _, _, by rw [he], by rw [readV, if_neg (by rw [he]; decide)]; exact o9⟩
 have hs8 := (Bl.next hB_1 hb7).size
 have hie : i = ps.length := by omega
 have h5'1 := own_mono h5 hs8
 have hN5 : Sl (W8) (.slice p5 i c5) i (((unpL s 0 (wids ps i)).map fun n : Nat => (n : Int)).map (Value.int .i64)) := by have q := own_sl h5'1; rw [map_nv] at q; exact q
 have hB'6 := Bl.next (Bl.next hB_1 hb7) hb8
 refine xc 15 (args := #[.slice gl ps.length cl, .slice p5 i c5]) (value_putR2 ps ((unpL s 0 (wids ps i)).map fun n : Nat => (n : Int)) gl p5 cl c5 i _ hps hie (rawsI_len ps s i) (hP.below hB'6) hN5) ?_
 rintro e W10 hq10
 rcases hq10 with ⟨hin, rfl, hb10⟩ | ⟨hin, rfl, hb10⟩
 · have hno : readOk ps s = false := by unfold readOk rawsL; rw [← hie]; exact hin
   refine xmk 9 fun _ _ _ _ zJ zQ zo zx zy zK => op_make ps.length (.int .i64 0) 1 8 ((List.replicate ps.length 0).map nv) zo zx zy Tryz.underlying22 (by kernel_rfl) rfl (by omega) (by omega) (zeros_nv _) fun b11 W11 n11 => ?_
   have hB'7 := Bl.next hB'6 hb10
   have g11 := n11.ge hB'7
   have ho'5 := own_below (own_below ho'3 hb8) hb10
   have r11_ho := own_ne ho'5 n11
   have h5'2 := own_below h5'1 hb10
   have r11_h5 := own_ne h5'2 n11
   refine zK _ _ ?_
   have hB'8 := Bl.next hB'7 n11.below
   have o11 := own_of_blk (size := 1) (n := ps.length) n11.blk g11 (by simp) (by unfold maxLen; omega)
   refine xe 6 (.tuple #[.slice (some ⟨b11, 0, none⟩) ps.length ps.length, .int .i64 2]) ?_
   have he : readE ps s = 2 := by unfold readE; rw [if_pos hsl, if_neg (by rw [hno]; decide)]
   exact ⟨_, rfl, hB'8, _, _, by rw [he], by rw [readV, if_neg (by rw [he]; decide)]; exact o11⟩
 have hyes : readOk ps s = true := by unfold readOk rawsL; rw [← hie]; exact hin
 refine xk 4 (show (((⟨(putL ps ((unpL s 0 (wids ps i)).map fun n : Nat => (n : Int)) ps.length).toArray⟩ : ByteArray).toList == (⟨#[]⟩ : ByteArray).toList) : Bool) = false from putL_ne hps h0) ?_
 have hB'9 := Bl.next hB'6 hb10
 have h5'3 := own_below h5'1 hb10
 refine xe 10 (.tuple #[.slice p5 i c5, .int .i64 0]) ?_
 have he : readE ps s = 0 := by unfold readE; rw [if_pos hsl, if_pos hyes]
 subst hie
 exact ⟨_, rfl, hB'9, _, _, by rw [he], by rw [readV, if_pos he]; exact h5'3⟩
theorem value_readG (ps : List Part) (s : List UInt8) (gl : Option Addr) (cl : Nat) (w : World) (hps : PartsOk ps) (h0 : 0 < ps.length) (hs : s.length ≤ 100000) (hP : Sts partC w (.slice gl ps.length cl) ps) :
    Calls Tryz.prog 52 #[.slice gl ps.length cl, .string ⟨s.toArray⟩] w (RetS (fun w' r => ∃ p c, r = .tuple #[.slice p ps.length c, .int .i64 (readE ps s)] ∧ w'.ownsRow w.heap.size 3 1 (.slice p ps.length c) ps.length ((readV ps s).map nv)) w) := by
  by_cases h : s.length = (wids ps ps.length).sum
  · exact value_readG_in ps s gl cl w hps h0 hs hP h
  · exact value_readG_len ps s gl cl w hps h0 hs hP h
end Go.Proofs.YthlakkdgcgkcdaaGreat
namespace Go.Proofs.YthlakkdgcgkcdaaGreat
open Go.RowKit Go.Extern.Stop Go.Stop Go.Extern
set_option linter.unusedVariables false
attribute [local irreducible] wpList wpAnyH Code.wp Oper.wp Go

def cntP : List Part := [(4, 3, 2147483647)]
theorem cntP_ok : PartsOk cntP := by
  refine ⟨by decide, fun i hi => ?_⟩
  have hi' : i < 1 := hi
  obtain rfl : i = 0 := by omega
  simp [cntP, List.getD]
/-- the places of the threes -/
def threes (F : List Int) : List Int := ((List.range F.length).filter fun k => F.getD k 0 == 3).map fun k : Nat => (k : Int)
theorem threes_snoc (F : List Int) (n : Int) : threes (F ++ [n]) = threes F ++ (if n = 3 then [(F.length : Int)] else []) := by
  unfold threes
  rw [List.length_append, List.length_singleton, List.range_succ, List.filter_append, List.map_append]
  congr 1
  · congr 1
    apply List.filter_congr
    intro k hk
    have hk' := List.mem_range.1 hk
    simp [List.getD, List.getElem?_append_left hk']
  · by_cases h : n = 3
    · simp [List.getD, h]
    · simp [List.getD, h]
theorem threes_mem {F : List Int} {k : Int} : k ∈ threes F ↔ 0 ≤ k ∧ F.getD k.toNat 0 = 3 := by
  unfold threes
  simp only [List.mem_map, List.mem_filter, List.mem_range, beq_iff_eq]
  constructor
  · rintro ⟨j, ⟨_, h⟩, rfl⟩; exact ⟨by omega, by simpa using h⟩
  · rintro ⟨h0, h⟩
    refine ⟨k.toNat, ⟨?_, h⟩, by omega⟩
    apply Nat.lt_of_not_le
    intro q
    rw [show F.getD k.toNat 0 = 0 from by simp [List.getD, q]] at h
    omega
theorem threes_nodup (F : List Int) : (threes F).Nodup := by
  unfold threes
  refine List.Pairwise.map _ (R := fun a b => a ≠ b) (fun a b h => by omega) ?_
  exact List.Pairwise.filter _ (List.nodup_range)
def jKey (E : List Ent) (i : Nat) : Int := (E.getD i entD).1
def jLast (E : List Ent) (i : Nat) : Int := if i = 0 then -1 else jKey E (i - 1)
def jVal (E : List Ent) (i : Nat) : Int := ((readV cntP (E.getD i entD).2.1).getD 0 0 : Nat)
/-- what is wrong with an entry -/
def jBad (F : List Int) (E : List Ent) (i : Nat) : Int :=
  if jKey E i ≤ jLast E i then 8 else if F.getD (jKey E i).toNat 0 ≠ 3 then 13 else readE cntP (E.getD i entD).2.1
def jOk (F : List Int) (E : List Ent) (i : Nat) : Prop := ∀ j, j < i → jBad F E j = 0
theorem jOk_next {F : List Int} {E : List Ent} {i : Nat} (h : jOk F E i) (h2 : jBad F E i = 0) : jOk F E (i + 1) := fun j hj => by
  by_cases e : j = i
  · subst e; exact h2
  · exact h j (by omega)
theorem jBad_ok {F : List Int} {E : List Ent} {i : Nat} (h : jBad F E i = 0) : jLast E i < jKey E i ∧ F.getD (jKey E i).toNat 0 = 3 ∧ readE cntP (E.getD i entD).2.1 = 0 := by
  unfold jBad at h
  by_cases h1 : jKey E i ≤ jLast E i
  · rw [if_pos h1] at h; omega
  · rw [if_neg h1] at h
    by_cases h2 : F.getD (jKey E i).toNat 0 = 3
    · rw [if_neg (fun q => q h2)] at h; exact ⟨by omega, h2, h⟩
    · rw [if_pos h2] at h; omega
theorem jOk_last {F : List Int} {E : List Ent} {i : Nat} (h : jOk F E i) : -1 ≤ jLast E i ∧ ∀ j, j < i → 0 ≤ jKey E j ∧ jKey E j ≤ jLast E i ∧ F.getD (jKey E j).toNat 0 = 3 := by
  induction i with
  | zero => exact ⟨by unfold jLast; rw [if_pos rfl]; exact Int.le_refl _, fun j hj => absurd hj (by omega)⟩
  | succ i ih =>
    obtain ⟨h1, h2⟩ := ih fun j hj => h j (by omega)
    have hb := jBad_ok (h i (by omega))
    have e : jLast E (i + 1) = jKey E i := by unfold jLast; rw [if_neg (by omega), Nat.add_sub_cancel]
    rw [e]
    refine ⟨by omega, fun j hj => ?_⟩
    by_cases q : j = i
    · subst q; exact ⟨by omega, Int.le_refl _, hb.2.1⟩
    · have := h2 j (by omega); exact ⟨this.1, by omega, this.2.2⟩
theorem jOk_inj {F : List Int} {E : List Ent} {i : Nat} (h : jOk F E i) : ∀ a b, a < b → b < i → jKey E a < jKey E b := fun a b hab hb => by
  have h1 := (jOk_last (i := b) fun j hj => h j (by omega)).2 a hab
  have h2 := jBad_ok (h b hb)
  omega
/-- the threes that no entry has told -/
def openL (F : List Int) (E : List Ent) (i : Nat) : List Int := (threes F).filter fun k => (List.range i).all fun j => jKey E j != k
theorem openL_zero (F : List Int) (E : List Ent) : openL F E 0 = threes F := by simp [openL]
theorem openL_nodup (F : List Int) (E : List Ent) (i : Nat) : (openL F E i).Nodup := List.Pairwise.filter _ (threes_nodup F)
theorem openL_mem {F : List Int} {E : List Ent} {i : Nat} {k : Int} : k ∈ openL F E i ↔ (0 ≤ k ∧ F.getD k.toNat 0 = 3) ∧ ∀ j, j < i → jKey E j ≠ k := by
  unfold openL
  rw [List.mem_filter, threes_mem]
  simp
/-- a key that is above the last one is open just if it is a three -/
theorem openL_at {F : List Int} {E : List Ent} {i : Nat} (h : jOk F E i) (hk : jLast E i < jKey E i) : jKey E i ∈ openL F E i ↔ F.getD (jKey E i).toNat 0 = 3 := by
  have hl := jOk_last h
  rw [openL_mem]
  constructor
  · exact fun q => q.1.2
  · exact fun q => ⟨⟨by omega, q⟩, fun j hj e => by have := hl.2 j hj; omega⟩
theorem openL_del (F : List Int) (E : List Ent) (i : Nat) : (openL F E i).erase (jKey E i) = openL F E (i + 1) := by
  rw [(openL_nodup F E i).erase_eq_filter]
  unfold openL
  rw [List.filter_filter]
  apply List.filter_congr
  intro k _
  have e : ([i].all fun j => jKey E j != k) = (k != jKey E i) := by
    show (jKey E i != k && true) = _
    rw [Bool.and_true, bne_comm]
  rw [List.range_succ, List.all_append, e]
  exact Bool.and_comm _ _
/-- which entry tells a place -/
def jFind (E : List Ent) (i k : Nat) : Option Nat := (List.range i).find? fun j => jKey E j == (k : Int)
theorem jFind_none {E : List Ent} {i k : Nat} (h : ∀ j, j < i → jKey E j ≠ (k : Int)) : jFind E i k = none := by
  unfold jFind
  rw [List.find?_eq_none]
  intro j hj
  have := h j (List.mem_range.1 hj)
  simpa using this
theorem jFind_some {E : List Ent} {i k j : Nat} (hj : j < i) (hk : jKey E j = (k : Int)) (hn : ∀ m, m < j → jKey E m ≠ (k : Int)) : jFind E i k = some j := by
  unfold jFind
  rw [List.find?_range_eq_some]
  exact ⟨by simpa using hk, List.mem_range.2 hj, fun m hm => by simpa using hn m hm⟩
def jOut (F : List Int) (E : List Ent) (i k : Nat) : Int := match jFind E i k with | some j => jVal E j | none => F.getD k 0
def outL (F : List Int) (E : List Ent) (i : Nat) : List Int := (List.range F.length).map (jOut F E i)
theorem outL_len (F : List Int) (E : List Ent) (i : Nat) : (outL F E i).length = F.length := by simp [outL]
theorem outL_get {F : List Int} {E : List Ent} {i k : Nat} (h : k < F.length) : (outL F E i).getD k 0 = jOut F E i k := by simp [outL, List.getD, List.getElem?_range h]
theorem outL_zero (F : List Int) (E : List Ent) : outL F E 0 = F := by
  apply List.ext_getElem (by rw [outL_len])
  intro k h1 h2
  simp [outL, jOut, jFind, List.getD, h2]
theorem jKey_lt {F : List Int} {E : List Ent} {i : Nat} (h : F.getD (jKey E i).toNat 0 = 3) : (jKey E i).toNat < F.length := by
  apply Nat.lt_of_not_le
  intro q
  rw [show F.getD (jKey E i).toNat 0 = 0 from by simp [List.getD, q]] at h
  omega
theorem jOut_next {F : List Int} {E : List Ent} {i k : Nat} (h : jOk F E (i + 1)) : jOut F E (i + 1) k = if jKey E i = (k : Int) then jVal E i else jOut F E i k := by
  have hin := jOk_inj h
  by_cases e : jKey E i = (k : Int)
  · rw [if_pos e]
    unfold jOut
    rw [jFind_some (by omega) e fun m hm => by have := hin m i hm (by omega); omega]
  · rw [if_neg e]
    unfold jOut jFind
    rw [List.range_succ, List.find?_append]
    have : List.find? (fun j => jKey E j == (k : Int)) [i] = none := by simp [e]
    rw [this]
    simp
theorem outL_set {F : List Int} {E : List Ent} {i : Nat} (h : jOk F E (i + 1)) : ((outL F E i).map (Value.int .i64)).set (jKey E i).toNat (.int .i64 (jVal E i)) = (outL F E (i + 1)).map (Value.int .i64) := by
  have hb := jBad_ok (h i (by omega))
  have hl := (jOk_last (i := i) fun j hj => h j (by omega)).1
  have hk := jKey_lt hb.2.1
  have r : ∀ (m k : Nat), k < F.length → ((outL F E m).map (Value.int .i64))[k]? = some (.int .i64 (jOut F E m k)) := fun m k hkl => by
    have g2 := outL_get (E := E) (i := m) hkl
    rw [show (outL F E m).getD k 0 = (outL F E m)[k]'(by rw [outL_len]; exact hkl) from by simp [List.getD, outL_len, hkl]] at g2
    rw [List.getElem?_map, List.getElem?_eq_getElem (by rw [outL_len]; exact hkl), Option.map_some, g2]
  apply List.ext_getElem?
  intro k
  by_cases hkl : k < F.length
  · rw [r _ _ hkl, jOut_next h]
    by_cases e : (jKey E i).toNat = k
    · subst e
      rw [List.getElem?_set_self (by simp [outL_len]; exact hk), if_pos (by omega)]
    · rw [List.getElem?_set_ne e, r _ _ hkl, if_neg (by omega)]
  · rw [List.getElem?_eq_none (by simp [outL_len]; omega), List.getElem?_eq_none (by simp [outL_len]; omega)]
/-- the number and the counts that Join tells -/
def joinO (F : List Int) (E : List Ent) : Int × List Int :=
  match (List.range E.length).find? (fun i => jBad F E i != 0) with
  | some i => (jBad F E i, [])
  | none => if openL F E E.length = [] then (0, outL F E E.length) else (13, [])
theorem joinO_bad {F : List Int} {E : List Ent} {i : Nat} (hi : i < E.length) (h : jOk F E i) (hb : jBad F E i ≠ 0) : joinO F E = (jBad F E i, []) := by
  unfold joinO
  rw [show (List.range E.length).find? (fun i => jBad F E i != 0) = some i from by
    rw [List.find?_range_eq_some]
    exact ⟨by simpa using hb, List.mem_range.2 hi, fun m hm => by simpa using h m hm⟩]
theorem joinO_all {F : List Int} {E : List Ent} (h : jOk F E E.length) : joinO F E = if openL F E E.length = [] then (0, outL F E E.length) else (13, []) := by
  unfold joinO
  rw [show (List.range E.length).find? (fun i => jBad F E i != 0) = none from by
    rw [List.find?_eq_none]
    intro i hi
    have := h i (List.mem_range.1 hi)
    simp [this]]
/-- rows of small counts, all full but the last -/
structure FormOk (L : List (List Int)) : Prop where
  len : ∀ i, i < L.length → 1 ≤ (L.getD i []).length ∧ (L.getD i []).length ≤ 960 ∧ (i + 1 < L.length → (L.getD i []).length = 960)
  small : ∀ i, i < L.length → Small (L.getD i [])
def flatL (L : List (List Int)) (i : Nat) : List Int := (L.take i).flatten
theorem flatL_next {L : List (List Int)} {i : Nat} (h : i < L.length) : flatL L (i + 1) = flatL L i ++ L.getD i [] := by
  unfold flatL
  rw [List.take_succ_eq_append_getElem h, List.flatten_append]
  simp [List.getD, h]
theorem flatL_len {L : List (List Int)} (h : FormOk L) : ∀ i, i ≤ L.length → (flatL L i).length ≤ i * 960
  | 0, _ => by simp [flatL]
  | i + 1, hi => by
    rw [flatL_next (by omega), List.length_append]
    have := flatL_len h i (by omega)
    have := (h.len i (by omega)).2.1
    omega
theorem jOut_not {F : List Int} {E : List Ent} {n k : Nat} (h : jOk F E n) (hk : F.getD k 0 ≠ 3) : jOut F E n k = F.getD k 0 := by
  unfold jOut
  rw [jFind_none]
  intro j hj e
  have := (jOk_last h).2 j hj
  rw [e] at this
  exact hk (by simpa using this.2.2)
theorem open_nil {F : List Int} {E : List Ent} {n : Nat} (h : ∀ k, k < F.length → F.getD k 0 = 3 → ∃ j, j < n ∧ jKey E j = (k : Int)) : openL F E n = [] := by
  rw [List.eq_nil_iff_forall_not_mem]
  intro k hk
  obtain ⟨⟨h0, h3⟩, hn⟩ := openL_mem.1 hk
  have hl : k.toNat < F.length := by
    apply Nat.lt_of_not_le
    intro q
    rw [show F.getD k.toNat 0 = 0 from by simp [List.getD, q]] at h3
    omega
  obtain ⟨j, hj, e⟩ := h k.toNat hl h3
  exact hn j hj (by omega)
end Go.Proofs.YthlakkdgcgkcdaaGreat
namespace Go.Proofs.YthlakkdgcgkcdaaGreat
open Go.RowKit Go.Extern.Stop Go.Stop Go.Extern
set_option linter.unusedVariables false
attribute [local irreducible] wpList wpAnyH Code.wp Oper.wp Go

theorem ext_getD {l l' : List UInt8} (h : l.length = l'.length) (h2 : ∀ j, j < l.length → l.getD j 0 = l'.getD j 0) : l = l' := by
  apply List.ext_getElem h
  intro j h3 h4
  have := h2 j h3
  simpa [List.getD, h3, h4] using this
theorem putB_get {l : List UInt8} {k : Nat} {x : List UInt8} (h : k + x.length ≤ l.length) (j : Nat) : (putB l k x).getD j 0 = if k ≤ j ∧ j < k + x.length then x.getD (j - k) 0 else l.getD j 0 := by
  unfold putB
  simp only [List.getD]
  rw [List.append_assoc, List.getElem?_append, List.getElem?_append]
  have e : (l.take k).length = k := by simp; omega
  rw [e]
  by_cases h1 : j < k
  · rw [if_pos h1, if_neg (by omega), List.getElem?_take, if_pos h1]
  · rw [if_neg h1]
    by_cases h2 : j - k < x.length
    · rw [if_pos h2, if_pos (by omega)]
    · rw [if_neg h2, if_neg (by omega), List.getElem?_drop, show k + x.length + (j - k - x.length) = j by omega]
theorem rawN_congr {l l' : List UInt8} : ∀ (w k : Nat), (∀ j, k ≤ j → j < k + w → l.getD j 0 = l'.getD j 0) → rawN l k w = rawN l' k w
  | 0, k, h => rfl
  | w + 1, k, h => by rw [rawN, rawN, h k (by omega) (by omega), rawN_congr w (k + 1) fun j h1 h2 => h j (by omega) (by omega)]
theorem rawN_bytes {l : List UInt8} : ∀ (w k m : Nat), (∀ i, i < w → l.getD (k + i) 0 = UInt8.ofNat (m / 256 ^ i)) → rawN l k w = m % 256 ^ w
  | 0, k, m, h => by simp [rawN, Nat.mod_one]
  | w + 1, k, m, h => by
    have h0 := h 0 (by omega)
    simp only [Nat.add_zero, Nat.pow_zero, Nat.div_one] at h0
    have h1 := rawN_bytes (l := l) w (k + 1) (m / 256) fun i hi => by
      have := h (i + 1) (by omega)
      rw [Nat.pow_succ, Nat.mul_comm, ← Nat.div_div_eq_div_mul] at this
      rw [show k + 1 + i = k + (i + 1) by omega]; exact this
    rw [rawN, h0, h1, Nat.pow_succ, Nat.mul_comm (256 ^ w) 256, Nat.mod_mul]
    congr 1
theorem rawN_put {l : List UInt8} {k w : Nat} {n : Int} (h : k + w ≤ l.length) (h0 : 0 ≤ n) (hb : n.toNat < 256 ^ w) : (rawN (putB l k (leB n w)) k w : Int) = n := by
  rw [rawN_bytes w k n.toNat, Nat.mod_eq_of_lt hb]
  · omega
  · intro i hi
    rw [putB_get (by rw [leB_len]; exact h), if_pos (by rw [leB_len]; omega), show k + i - k = i by omega]
    simp [leB, byteAt, List.getD, List.getElem?_range hi]
theorem rawN_put_other {l x : List UInt8} {k j w : Nat} (h : k + x.length ≤ l.length) (hd : j + w ≤ k ∨ k + x.length ≤ j) : rawN (putB l k x) j w = rawN l j w :=
  rawN_congr w j fun i h1 h2 => by rw [putB_get h, if_neg (by omega)]
theorem rawN_zero {l : List UInt8} {k w : Nat} (h : ∀ j, k ≤ j → j < k + w → l.getD j 0 = 0) : rawN l k w = 0 := by
  have := rawN_bytes (l := l) w k 0 fun i hi => by rw [h (k + i) (by omega) (by omega)]; simp
  simpa using this
theorem sumB_put {l x : List UInt8} {kind : Int} (h : 252 ≤ l.length) : sumB (putB l 252 x) kind = sumB l kind := by
  unfold sumB putB
  rw [List.append_assoc, List.take_append_of_le_length (by simp; omega), List.take_take]; rfl
theorem zeros_get (n j : Nat) : (List.replicate n (0 : UInt8)).getD j 0 = 0 := by
  simp [List.getD, List.getElem?_replicate]; split <;> rfl
/-- what lies within a sealed block -/
def inSeal (li : List UInt8) : List UInt8 := li ++ List.replicate (244 - li.length) 0
theorem open_seal {kind no : Int} {li : List UInt8} (h1 : 1 ≤ kind) (h2 : kind ≤ 4) (h3 : 0 ≤ no) (h4 : no < 14400) (hl : li.length ≤ 244) : openE kind no (sealB kind no li) = 0 := by
  have l1 := seal1_len hl
  have l2 := seal2_len (no := no) hl
  have l3 := seal3_len (kind := kind) (no := no) hl
  have l4 := sealB_len (kind := kind) (no := no) hl
  have a0 : askB kind no (sealB kind no li) 0 = false := by simp only [askB]; rw [show knownB kind no = true from decide_eq_true (by omega)]; rfl
  have a1 : askB kind no (sealB kind no li) 1 = false := by simp only [askB, l4]; rfl
  have a2 : askB kind no (sealB kind no li) 2 = false := by
    have hs : sumB (sealB kind no li) kind = sumB (seal3 kind no li) kind := by unfold sealB; exact sumB_put (by omega)
    have hr : (rawN (sealB kind no li) 252 4 : Int) = (sumB (seal3 kind no li) kind : Int) := by
      unfold sealB
      exact rawN_put (by omega) (by omega) (by have := sumB_lt (seal3 kind no li) kind; simpa using this)
    simp only [askB, hr, hs]; simp
  have a3 : askB kind no (sealB kind no li) 3 = false := by
    have hr : (rawN (sealB kind no li) 0 4 : Int) = no := by
      unfold sealB
      rw [rawN_put_other (by rw [leB_len]; omega) (.inl (by omega))]
      unfold seal3
      rw [rawN_put_other (by rw [leB_len]; omega) (.inl (by omega))]
      unfold seal2
      exact rawN_put (by omega) (by omega) (by omega)
    simp only [askB, hr]; simp
  have a4 : askB kind no (sealB kind no li) 4 = false := by
    have hr : (rawN (sealB kind no li) 4 2 : Int) = kind := by
      unfold sealB
      rw [rawN_put_other (by rw [leB_len]; omega) (.inl (by omega))]
      unfold seal3
      exact rawN_put (by omega) (by omega) (by omega)
    simp only [askB, hr]; simp
  have a5 : askB kind no (sealB kind no li) 5 = false := by
    have hr : rawN (sealB kind no li) 6 2 = 0 := by
      unfold sealB
      rw [rawN_put_other (by rw [leB_len]; omega) (.inl (by omega))]
      unfold seal3
      rw [rawN_put_other (by rw [leB_len]; omega) (.inr (by rw [leB_len]; omega))]
      unfold seal2
      rw [rawN_put_other (by rw [leB_len]; omega) (.inr (by rw [leB_len]; omega))]
      unfold seal1
      rw [rawN_put_other (by rw [List.length_replicate]; omega) (.inl (by omega))]
      exact rawN_zero fun j _ _ => zeros_get 256 j
    simp only [askB, hr]; rfl
  simp [openE, a0, a1, a2, a3, a4, a5]
theorem in_seal {kind no : Int} {li : List UInt8} (hl : li.length ≤ 244) : ((sealB kind no li).drop 8).take 244 = inSeal li := by
  have l1 := seal1_len hl
  have l2 := seal2_len (no := no) hl
  have l3 := seal3_len (kind := kind) (no := no) hl
  have l4 := sealB_len (kind := kind) (no := no) hl
  apply ext_getD
  · simp [inSeal, l4]; omega
  · intro j hj
    have hj2 : j < 244 := by simp [l4] at hj; omega
    have e : (((sealB kind no li).drop 8).take 244).getD j 0 = (sealB kind no li).getD (8 + j) 0 := by
      simp only [List.getD]; rw [List.getElem?_take, if_pos hj2, List.getElem?_drop]
    rw [e]
    unfold sealB
    rw [putB_get (by rw [leB_len]; omega), if_neg (by rw [leB_len]; omega)]
    unfold seal3
    rw [putB_get (by rw [leB_len]; omega), if_neg (by rw [leB_len]; omega)]
    unfold seal2
    rw [putB_get (by rw [leB_len]; omega), if_neg (by rw [leB_len]; omega)]
    unfold seal1
    rw [putB_get (by rw [List.length_replicate]; omega), zeros_get]
    unfold inSeal
    simp only [List.getD]
    rw [List.getElem?_append]
    by_cases h : j < li.length
    · rw [if_pos ⟨by omega, by omega⟩, if_pos h, show 8 + j - 8 = j by omega]
    · rw [if_neg (by omega), if_neg h]
      have := zeros_get (244 - li.length) (j - li.length)
      simp only [List.getD] at this
      exact this.symm
/-- a block that was written stands in the image -/
theorem blkB_put {l x : List UInt8} {k : Nat} (hx : x.length = 256) (hk : k < l.length / 256) : blkB (putB l (k * 256) x) k = x := by
  have hkl : k * 256 + 256 ≤ l.length := by omega
  have hp := putB_len (l := l) (k := k * 256) (x := x) (by omega)
  apply ext_getD
  · rw [blkB_len (by rw [hp]; exact hk), hx]
  · intro j hj
    rw [blkB_len (by rw [hp]; exact hk)] at hj
    have e : (blkB (putB l (k * 256) x) k).getD j 0 = (putB l (k * 256) x).getD (k * 256 + j) 0 := by
      simp only [blkB, List.getD]; rw [List.getElem?_take, if_pos hj, List.getElem?_drop]
    rw [e, putB_get (by omega), if_pos (by omega), show k * 256 + j - k * 256 = j by omega]
theorem blkB_put_other {l x : List UInt8} {k i : Nat} (hx : x.length = 256) (hk : k < l.length / 256) (hne : i ≠ k) (hi : i < l.length / 256) : blkB (putB l (k * 256) x) i = blkB l i := by
  have hkl : k * 256 + 256 ≤ l.length := by omega
  have hp := putB_len (l := l) (k := k * 256) (x := x) (by omega)
  apply ext_getD
  · rw [blkB_len (by rw [hp]; exact hi), blkB_len hi]
  · intro j hj
    rw [blkB_len (by rw [hp]; exact hi)] at hj
    have e : ∀ l : List UInt8, (blkB l i).getD j 0 = l.getD (i * 256 + j) 0 := fun l => by
      simp only [blkB, List.getD]; rw [List.getElem?_take, if_pos hj, List.getElem?_drop]
    rw [e, e, putB_get (by omega), if_neg (by omega)]
end Go.Proofs.YthlakkdgcgkcdaaGreat
namespace Go.Proofs.YthlakkdgcgkcdaaGreat
open Go.RowKit Go.Extern.Stop Go.Stop Go.Extern
set_option linter.unusedVariables false
attribute [local irreducible] wpList wpAnyH Code.wp Oper.wp Go

theorem zeroCells_u8 (k : Nat) : Builtin.zeroCells #[Value.int .u8 0] k = (List.replicate k (Value.int .u8 0)).toArray := by
  apply Array.ext'
  unfold Builtin.zeroCells
  simp only [List.size_toArray, List.length_cons, List.length_nil, Nat.zero_add, Nat.mul_one, Nat.mod_one]
  rw [Array.toList_map]
  simp only [Array.toList_range]
  apply List.ext_getElem?
  intro i
  simp only [List.getElem?_map, List.getElem?_replicate]
  by_cases h : i < k
  · rw [List.getElem?_range h, if_pos h]; rfl
  · rw [if_neg h, List.getElem?_eq_none (by simpa using h)]; rfl
theorem run_append_room_zeros {P : Program} (w : World) (t tn ty e : TypeId) (i : TypeInfo) (kq kn : IntKind) (ht : P.underlying t = some (.slice e)) (htn : P.underlying tn = some (.int kn)) (hi : P.info? e = some i) (hz : i.zero = some (.int .u8 0)) (hs1 : i.size = 1) (hb1 : i.bytes = 1)
    (g n c k : Nat) (cur : Array Value) (hg : w.heap[g]? = some (.cells cur e (0, 0))) (h0 : 0 < k) (hroom : n + k ≤ c) (hfit : n + k ≤ cur.size) (hk : n + k ≤ 1000000) :
    (Builtin.append_ #[t, tn] ty #[.slice (some ⟨g, 0, none⟩) n c, .int kq k]).run P w =
      .ok (.slice (some ⟨g, 0, none⟩) (n + k) c) (w.setRow g (cur.toList.take n ++ List.replicate k (Value.int .u8 0) ++ cur.toList.drop (n + k)).toArray) := by
  have hk0 : k ≠ 0 := by omega
  have hw : IntKind.i64.wrap (k : Int) = k := by rw [IntKind.wrap_i64]; omega
  have h48i : ¬ (281474976710656 < (k : Int)) := by omega
  have hneg : ¬ ((k : Int) < 0) := by omega
  have hst := run_storeCells_at P g n e (List.replicate k (.int .u8 0)) 0 cur w hg (by simpa using hfit) (by intro u hu; rw [(List.mem_replicate.1 hu).2]; rfl)
  simp only [Nat.add_zero, List.length_replicate] at hst
  simp [Builtin.append_, run_underlying ht, run_underlying htn, sizeOf, typeInfo, zeroValue, hi, hz, hs1, hb1, asInt, asIntOf, hw, hneg, h48i, hk0, hroom, Addr.add_lit, show (Value.int IntKind.u8 0).cells = #[Value.int .u8 0] from rfl, zeroCells_u8, hst]
/-- append(s, make([]byte, k)...) onto a row of the call's own -/
theorem op_appZo {P : Program} {a : Act} {w : World} {K : Act → World → Prop} {Q : Exit → Act → World → Prop} {o : Oper} {s x : Operand} {t tn e : TypeId} {kq kn : IntKind} {base : Nat} {v : Value} {n : Nat} {xs : List Value} (k n' : Nat) (xs' : List Value)
    (ho : o.op = .call { callee := .builtin .append, args := #[s, x], argTypes := #[t, tn] }) (ht : P.underlying t = some (.slice e)) (htn : P.underlying tn = some (.int kn)) (hi : (P.info? e).map (fun i => (i.zero, i.size, i.bytes)) = some (some (.int .u8 0), 1, 1))
    (hs : a.eval s = v) (hown : w.ownsRow base e 1 v n xs) (hx : a.eval x = .int kq (k : Int)) (h0 : 0 < k) (hk : n + k ≤ 1000000) (hbase : base ≤ w.heap.size) (hn : n + k = n') (hxs : xs ++ List.replicate k (.int .u8 0) = xs')
    (h : ∀ b c' W, W.ownsRow base e 1 (.slice b n' c') n' xs' → w.grownBy W v.ownBlock → Below base w W → K (a.put o.dst (.slice b n' c')) W) : o.wp P a w K Q := by
  subst hn hxs
  cases hq : P.info? e with
  | none => simp [hq] at hi
  | some i =>
    simp only [hq, Option.map_some, Option.some.injEq, Prod.mk.injEq] at hi
    obtain ⟨hz, h1, h2⟩ := hi
    have hxl : xs.length = n := by simpa using hown.1
    have hlen : (xs ++ List.replicate k (Value.int .u8 0)).length = (n + k) * 1 := by simp [hxl]
    rcases hown.2 with ⟨rfl, rfl⟩ | ⟨g, c, cur, rfl, hbg, hg, hnc, hcm, hcs, htake⟩
    · obtain rfl : xs = [] := List.eq_nil_of_length_eq_zero hxl
      have hr := Lib.run_append_nil_zeros (P := P) w t tn o.type e i (.int .u8 0) kq kn ht htn hq hz k h0 (by omega) (by omega) (by rw [h2]; omega)
      unfold Oper.wp execOp
      simp only [ho, resolve, invoke, builtin, Sem.run_bind, Sem.run_pure, Result.andThen_ok, List.map_toArray, List.map_cons, List.map_nil, hs, hx, hr]
      have hge := grownCap_ge w k 0 e
      have hcm : grownCap w k 0 e ≤ maxLen := grownCap_le_maxLen w k 0 e (by unfold maxLen; omega)
      simp only [Nat.zero_add, List.nil_append] at h
      refine h _ _ _ ⟨by simp, .inr ⟨w.heap.size, _, _, rfl, hbase, heap_alloc_new w.drew _, hge, hcm, ?_, ?_⟩⟩ ⟨rfl, rfl, rfl, by simp, fun k hk _ => by first | exact heap_alloc_old w.drew _ k hk | exact heap_alloc_old w.drew _ hk⟩ (((below_drew w).trans (show Below w.drew.heap.size w.drew _ from Bl.box w.drew _)).mono hbase)
      · rw [show (Value.int .u8 0).cells = #[Value.int .u8 0] from rfl, zeroCells_u8, zeroCells_u8]; simp; omega
      · rw [show (Value.int .u8 0).cells = #[Value.int .u8 0] from rfl, zeroCells_u8, zeroCells_u8]
        simp only [Array.toList_append, Nat.mul_one]
        exact List.take_left' (by simp)
    by_cases hroom : n + k ≤ c
    · have hcs' : cur.size = c := by simpa using hcs
      have hr := run_append_room_zeros (P := P) w t tn o.type e i kq kn ht htn hq hz h1 h2 g n c k cur hg h0 hroom (by omega) hk
      unfold Oper.wp execOp
      simp only [ho, resolve, invoke, builtin, Sem.run_bind, Sem.run_pure, Result.andThen_ok, List.map_toArray, List.map_cons, List.map_nil, hs, hx, hr]
      have hgr : w.grownBy (w.setRow g (cur.toList.take n ++ List.replicate k (Value.int .u8 0) ++ cur.toList.drop (n + k)).toArray) (Value.ownBlock (.slice (some ⟨g, 0, none⟩) n c)) := ⟨rfl, rfl, rfl, by simp, fun k' _ hk' => setRow_other w g k' _ (fun e => hk' (by simp [Value.ownBlock, e]))⟩
      refine h _ _ _ ⟨hlen, .inr ⟨g, c, _, rfl, hbg, setRow_heap w g cur _ e _ hg, hroom, hcm, ?_, ?_⟩⟩ hgr (grown_below hgr hown (Nat.le_refl _) hbase)
      · simp only [List.size_toArray, List.length_append, List.length_take, List.length_drop, Array.length_toList, List.length_replicate]
        omega
      · have ht' : cur.toList.take n = xs := by simpa using htake
        rw [ht', ← hlen]
        exact List.take_left
    · have holds : ∀ j u, xs[j]? = some u → w.cell? ((⟨g, 0, none⟩ : Addr).add j) = some u := hown.cells (g := g) rfl
      have hold := run_firstCells_some (P := P) (w := w.drew) i.size n ⟨g, 0, none⟩ n c xs (by rw [hxl, h1, Nat.mul_one]) (by simpa using holds)
      have hr := Lib.run_append_grow_zeros (P := P) w t tn o.type e i (.int .u8 0) kq kn ht htn hq hz (some ⟨g, 0, none⟩) n c xs hold k h0 (by omega) (by omega) (by omega) (by rw [h2]; omega) (by rw [h2]; exact growslice_fits (by omega) (by omega))
      unfold Oper.wp execOp
      simp only [ho, resolve, invoke, builtin, Sem.run_bind, Sem.run_pure, Result.andThen_ok, List.map_toArray, List.map_cons, List.map_nil, hs, hx, hr]
      have hge := grownCap_ge w (n + k) c e
      have hcm : grownCap w (n + k) c e ≤ maxLen := grownCap_le_maxLen w (n + k) c e (by unfold maxLen; omega)
      refine h _ _ _ ⟨hlen, .inr ⟨w.heap.size, _, _, rfl, hbase, heap_alloc_new w.drew _, hge, hcm, ?_, ?_⟩⟩ ⟨rfl, rfl, rfl, by simp, fun k hk _ => by first | exact heap_alloc_old w.drew _ k hk | exact heap_alloc_old w.drew _ hk⟩ (((below_drew w).trans (show Below w.drew.heap.size w.drew _ from Bl.box w.drew _)).mono hbase)
      · rw [show (Value.int .u8 0).cells = #[Value.int .u8 0] from rfl, zeroCells_u8, zeroCells_u8]; simp [hxl]; omega
      · rw [show (Value.int .u8 0).cells = #[Value.int .u8 0] from rfl, zeroCells_u8, zeroCells_u8]
        simp only [Array.toList_append, List.append_assoc]
        rw [← List.append_assoc, ← hlen]
        exact List.take_left
end Go.Proofs.YthlakkdgcgkcdaaGreat
namespace Go.Proofs.YthlakkdgcgkcdaaGreat
open Go.RowKit Go.Extern.Stop Go.Stop Go.Extern
set_option linter.unusedVariables false
attribute [local irreducible] wpList wpAnyH Code.wp Oper.wp Go

set_option maxRecDepth 100000 in
set_option maxHeartbeats 1000000 in
theorem ref01_Same (a b : Option Addr) (ca cb : Nat) (l : List Int) (w : World) (ha : Ints w (.slice a l.length ca) l) (hb : Ints w (.slice b l.length cb) l) :
    Calls Tryz.prog 11 #[.slice a l.length ca, .slice b l.length cb] w (Ret (.bool true) w) := by
 have hLa := Sl.len ha
 refine zin 26 Tryz.func11 ?_
 refine xk 15 (show (((↑l.length : Int) != (↑l.length : Int)) : Bool) = false from by simp) ?_
 have hB := Below.refl w.heap.size w
 refine zl 9 26 (fun zm zkv V => ∃ (i : Nat), zkv = [(0, .slice a l.length ca), (1, .slice b l.length cb), (5, .int .i64 (↑i : Int))] ∧ zm = l.length - ((↑i : Int)).toNat ∧ Below w.heap.size w V ∧ i ≤ l.length) ⟨0, rfl, rfl, hB, Nat.zero_le _⟩ ?_
 rintro _ _ W1 ⟨i, rfl, rfl, hB_1, hi⟩ J1 hJ1 r1
 refine xid 9 ((↑i : Int) < (↑l.length : Int)) (fun hc2 => ?_) (fun hc2 => ?_)
 · refine xd 5 .z ?_
   refine xx (.e [0, 1] 2) _ l.length i 1 (Ints.elem ha (k := i) (by omega)).1 ?_
   have hB'1 := Bl.next hB_1 (below_drew W1)
   refine xl (.e [] 3) ((Ints.elem (ha.below hB'1) (k := i) (by omega)).2) ?_
   refine xx (.e [4, 5] 6) _ l.length i 1 (Ints.elem hb (k := i) (by omega)).1 ?_
   refine xl (.e [] 7) ((Ints.elem (hb.below hB'1) (k := i) (by omega)).2) ?_
   refine xk (.r [8] 2) (show (((l.getD i 0) != (l.getD i 0)) : Bool) = false from by simp) ?_
   refine xwm 5 ((↑i : Int) + 1) (↑(i + 1) : Int) ?_
   exact ze 2 (hJ1 _ _ _ ⟨i + 1, rfl, rfl, hB'1, by omega⟩ (by omega))
 exact xe 11 (.bool true) ⟨rfl, hB_1⟩
end Go.Proofs.YthlakkdgcgkcdaaGreat
namespace Go.Proofs.YthlakkdgcgkcdaaGreat
open Go.RowKit Go.Extern.Stop Go.Stop Go.Extern
set_option linter.unusedVariables false
attribute [local irreducible] wpList wpAnyH Code.wp Oper.wp Go

theorem BysM.elem {w : World} {a : Option Addr} {n c : Nat} {l : List UInt8} (h : Bys w (.slice a n c) l) (hl : l.length = n) {k : Nat} (hk : k < n) : a.isSome = true ∧ w.cell? (elemAddr a (k * 1)) = some (.int .u8 (↑(l.getD k 0).toNat : Int)) := by
  subst hl; exact Bys.elem h hk
end Go.Proofs.YthlakkdgcgkcdaaGreat
namespace Go.Proofs.YthlakkdgcgkcdaaGreat
open Go.RowKit Go.Extern.Stop Go.Stop Go.Extern
set_option linter.unusedVariables false
attribute [local irreducible] wpList wpAnyH Code.wp Oper.wp Go

/-- the keys of a node, i places of them, when n keys are there -/
def keyPad (K : List Int) (n : Nat) (i : Nat) : List UInt8 := (List.range i).flatMap fun j => if j < n then leB (K.getD j 0) 8 else List.replicate 8 0
theorem keyPad_succ (K : List Int) (n i : Nat) : keyPad K n (i + 1) = keyPad K n i ++ (if i < n then leB (K.getD i 0) 8 else List.replicate 8 0) := by
  unfold keyPad; rw [List.range_succ, List.flatMap_append]; simp
theorem keyPad_len (K : List Int) (n i : Nat) : (keyPad K n i).length = i * 8 := by
  induction i with
  | zero => rfl
  | succ i ih => rw [keyPad_succ, List.length_append, ih]; split <;> simp [leB_len] <;> omega
/-- the values of a node, i of them -/
def valPad (Vs : List (List UInt8)) (i : Nat) : List UInt8 := (List.range i).flatMap fun j => Vs.getD j []
theorem valPad_succ (Vs : List (List UInt8)) (i : Nat) : valPad Vs (i + 1) = valPad Vs i ++ Vs.getD i [] := by
  unfold valPad; rw [List.range_succ, List.flatMap_append]; simp
theorem valPad_len {Vs : List (List UInt8)} {v : Nat} : ∀ {i : Nat}, (∀ j, j < i → (Vs.getD j []).length = v) → (valPad Vs i).length = i * v
  | 0, _ => by simp [valPad]
  | i + 1, h => by rw [valPad_succ, List.length_append, valPad_len fun j hj => h j (by omega), h i (by omega), Nat.add_mul, Nat.one_mul]
theorem putB_mid {P z Q x : List UInt8} {k : Nat} (hk : P.length = k) (hz : z.length = x.length) : putB (P ++ z ++ Q) k x = P ++ x ++ Q := by
  unfold putB
  subst hk
  rw [List.append_assoc P z Q, List.take_left' rfl, ← hz]
  have e : P ++ (z ++ Q) = (P ++ z) ++ Q := (List.append_assoc _ _ _).symm
  rw [e, List.drop_left' (by simp)]
theorem keyPad_zero (K : List Int) (i : Nat) : ∀ d, keyPad K i (i + d) = keyPad K i i ++ List.replicate (d * 8) 0
  | 0 => by simp
  | d + 1 => by
    rw [← Nat.add_assoc, keyPad_succ, keyPad_zero K i d, if_neg (by omega), List.append_assoc, List.replicate_append_replicate, Nat.add_mul, Nat.one_mul]
theorem keyPad_own (K : List Int) (n : Nat) : ∀ i, i ≤ n → keyPad K n i = keyPad K i i
  | 0, _ => rfl
  | i + 1, h => by
    rw [keyPad_succ, keyPad_succ, if_pos (by omega), if_pos (by omega), keyPad_own K n i (by omega), keyPad_own K (i + 1) i (by omega)]
theorem rep_add (a b : Nat) : List.replicate (a + b) (0 : UInt8) = List.replicate a 0 ++ List.replicate b 0 := List.replicate_append_replicate.symm
/-- a node's bytes, part by part -/
theorem nodeP_form {m v : Nat} {H : List UInt8} {K : List Int} {Vs : List (List UInt8)} (hH : H.length = 12) (hf : 12 + m * 8 + m * v ≤ 244) : ∀ {i : Nat}, i ≤ m → (∀ j, j < i → (Vs.getD j []).length = v) →
    nodeP m v H K Vs i = H ++ keyPad K i m ++ valPad Vs i ++ List.replicate (232 - m * 8 - i * v) 0
  | 0, _, _ => by
    have e1 := keyPad_zero K 0 m
    rw [Nat.zero_add] at e1
    rw [nodeP, e1]
    have h1 : (232 - m * 8 - 0 * v) = 232 - m * 8 := by omega
    rw [h1, show (244 : Nat) = 12 + (m * 8 + (232 - m * 8)) by omega, rep_add, rep_add]
    have := putB_mid (P := []) (z := List.replicate 12 (0 : UInt8)) (Q := List.replicate (m * 8) 0 ++ List.replicate (232 - m * 8) 0) (x := H) (k := 0) rfl (by simp [hH])
    rw [List.nil_append, List.nil_append] at this
    rw [this]
    simp [keyPad, valPad]
  | i + 1, hi, hV => by
    have ih := nodeP_form (K := K) hH hf (i := i) (by omega) (fun j hj => hV j (by omega))
    have hvi := hV i (by omega)
    have h2 : (i + 1) * v ≤ m * v := Nat.mul_le_mul_right v hi
    rw [Nat.add_mul, Nat.one_mul] at h2
    obtain ⟨d, hd⟩ : ∃ d, m = i + (d + 1) := ⟨m - i - 1, by omega⟩
    have ek : keyPad K i m = keyPad K i i ++ List.replicate 8 0 ++ List.replicate (d * 8) 0 := by
      rw [hd, keyPad_zero, show (d + 1) * 8 = 8 + d * 8 by omega, rep_add, List.append_assoc]
    have ek2 : keyPad K (i + 1) m = keyPad K i i ++ leB (K.getD i 0) 8 ++ List.replicate (d * 8) 0 := by
      rw [show m = (i + 1) + d by omega, keyPad_zero, keyPad_succ, if_pos (by omega), keyPad_own K (i + 1) i (by omega)]
    have er : List.replicate (232 - m * 8 - i * v) (0 : UInt8) = List.replicate v 0 ++ List.replicate (232 - m * 8 - (i * v + v)) 0 := by
      rw [← rep_add]; congr 1; omega
    have hvp : (valPad Vs i).length = i * v := valPad_len fun j hj => hV j (by omega)
    rw [nodeP, ih, ek, er]
    have s1 := putB_mid (P := H ++ keyPad K i i) (z := List.replicate 8 (0 : UInt8)) (Q := List.replicate (d * 8) 0 ++ (valPad Vs i ++ (List.replicate v 0 ++ List.replicate (232 - m * 8 - (i * v + v)) 0))) (x := leB (K.getD i 0) 8) (k := 12 + i * 8) (by rw [List.length_append, hH, keyPad_len]) (by simp [leB_len])
    have a1 : H ++ (keyPad K i i ++ List.replicate 8 0 ++ List.replicate (d * 8) 0) ++ valPad Vs i ++ (List.replicate v 0 ++ List.replicate (232 - m * 8 - (i * v + v)) 0) = H ++ keyPad K i i ++ List.replicate 8 0 ++ (List.replicate (d * 8) 0 ++ (valPad Vs i ++ (List.replicate v 0 ++ List.replicate (232 - m * 8 - (i * v + v)) 0))) := by simp only [List.append_assoc]
    rw [a1, s1]
    have s2 := putB_mid (P := H ++ keyPad K (i + 1) m ++ valPad Vs i) (z := List.replicate v (0 : UInt8)) (Q := List.replicate (232 - m * 8 - (i * v + v)) 0) (x := Vs.getD i []) (k := 12 + m * 8 + i * v) (by rw [List.length_append, List.length_append, hH, keyPad_len, hvp]) (by rw [List.length_replicate, hvi])
    have a2 : H ++ keyPad K i i ++ leB (K.getD i 0) 8 ++ (List.replicate (d * 8) 0 ++ (valPad Vs i ++ (List.replicate v 0 ++ List.replicate (232 - m * 8 - (i * v + v)) 0))) = H ++ keyPad K (i + 1) m ++ valPad Vs i ++ List.replicate v 0 ++ List.replicate (232 - m * 8 - (i * v + v)) 0 := by rw [ek2]; simp only [List.append_assoc]
    rw [a2, s2, valPad_succ, Nat.add_mul, Nat.one_mul]
    simp only [List.append_assoc]
end Go.Proofs.YthlakkdgcgkcdaaGreat
namespace Go.Proofs.YthlakkdgcgkcdaaGreat
open Go.RowKit Go.Extern.Stop Go.Stop Go.Extern
set_option linter.unusedVariables false
attribute [local irreducible] wpList wpAnyH Code.wp Oper.wp Go

/-- whether x is in l -/
def hasI (l : List Int) (x : Int) : Bool := l.any fun y => decide (x = y)
theorem hasI_true {l : List Int} {x : Int} {i : Nat} (hi : i < l.length) (h : x = l.getD i 0) : hasI l x = true := by
  unfold hasI
  rw [List.any_eq_true]
  exact ⟨l[i], List.getElem_mem _, by rw [decide_eq_true_iff, h]; simp [hi]⟩
theorem hasI_false {l : List Int} {x : Int} (h : ∀ j, j < l.length → x ≠ l.getD j 0) : hasI l x = false := by
  unfold hasI
  rw [List.any_eq_false]
  intro y hy
  obtain ⟨j, hj, rfl⟩ := List.getElem_of_mem hy
  have := h j hj
  simpa [hj] using this
set_option maxRecDepth 100000 in
set_option maxHeartbeats 1000000 in
theorem indexI (a : Option Addr) (c : Nat) (l : List Int) (x : Int) (w : World) (h : Ints w (.slice a l.length c) l) (hln : l.length ≤ 1000000) :
    Calls Tryz.prog 126 #[.slice a l.length c, .int .i64 x] w (fun e w' => (hasI l x = false ∧ e = .returned (.int .i64 (-1)) ∧ Below w.heap.size w w') ∨ (hasI l x = true ∧ ∃ i : Nat, e = .returned (.int .i64 (i : Int)) ∧ Below w.heap.size w w')) := by
 refine zin 19 Tryz.func126 ?_
 have hB := Below.refl w.heap.size w
 refine zl 14 19 (fun zm zkv V => ∃ (i : Nat), zkv = [(0, .slice a l.length c), (1, .int .i64 x), (7, .int .i64 (↑l.length : Int)), (8, .int .i64 (↑i : Int))] ∧ zm = l.length - ((↑i : Int)).toNat ∧ Below w.heap.size w V ∧ i ≤ l.length ∧ (∀ j, j < i → x ≠ l.getD j 0)) ⟨0, rfl, rfl, hB, Nat.zero_le _, ?_⟩ ?_
 · exact fun j hj => absurd hj (by omega)
 rintro _ _ W1 ⟨i, rfl, rfl, hB_1, hi, hz⟩ J1 hJ1 r1
 refine xid 6 ((↑i : Int) < (↑l.length : Int)) (fun hc2 => ?_) (fun hc2 => ?_)
 · refine xx 15 _ l.length i 1 (Ints.elem h (k := i) (by omega)).1 ?_
   refine xl 0 ((Ints.elem (h.below hB_1) (k := i) (by omega)).2) ?_
   refine xie 3 x (l.getD i 0) (fun hc3 => ?_) (fun hc3 => ?_)
   · exact xe 12 (.int .i64 (↑i : Int)) (.inr ⟨hasI_true (i := i) (by omega) (by omega), _, rfl, hB_1⟩)
   refine xwm 4 ((↑i : Int) + 1) (↑(i + 1) : Int) ?_
   exact ze 2 (hJ1 _ _ _ ⟨i + 1, rfl, rfl, hB_1, by omega, fun j hj => (Nat.lt_or_ge j i).elim (hz j) (fun q => by obtain rfl : j = i := (by omega); omega)⟩ (by omega))
 exact xe 11 (.int .i64 (-1)) (.inl ⟨hasI_false (fun j hj => hz j (by omega)), rfl, hB_1⟩)
set_option maxRecDepth 100000 in
set_option maxHeartbeats 1000000 in
theorem containsI (a : Option Addr) (c : Nat) (l : List Int) (x : Int) (w : World) (h : Ints w (.slice a l.length c) l) (hln : l.length ≤ 1000000) :
    Calls Tryz.prog 115 #[.slice a l.length c, .int .i64 x] w (Ret (.bool (hasI l x)) w) := by
 refine zin 9 Tryz.func115 ?_
 refine xc 9 (args := #[.slice a l.length c, .int .i64 x]) (indexI a c l x _ (h.below (Below.refl w.heap.size _)) hln) ?_
 rintro e W1 hq1
 rcases hq1 with ⟨hz, rfl, hb1⟩ | ⟨hz, i0, rfl, hb1⟩
 · refine xe 5 (.bool false) ?_
   rw [hz]; exact ⟨rfl, hb1⟩
 refine xe 5 (.bool (decide ((↑i0 : Int) ≥ (0 : Int)))) ?_
 rw [hz, show decide ((↑i0 : Int) ≥ (0 : Int)) = true from decide_eq_true (by omega)]; exact ⟨rfl, hb1⟩
end Go.Proofs.YthlakkdgcgkcdaaGreat
namespace Go.Proofs.YthlakkdgcgkcdaaGreat
open Go.RowKit
set_option linter.unusedVariables false
attribute [local go_sem] Oper.semAt_some

def splitL (hi : Int) (l : List Int) : List (Int × Int) := (List.range l.length).map (partAt hi l)
/-- the result's cells when the rounds of pre are over -/
def outStep (hi : Int) (l : List Int) (cs : List Value) (x : Fin l.length) : List Value :=
  (cs.set (qOf x * 2) (.int .i64 (partAt hi l (qOf x)).1)).set (qOf x * 2 + 1) (.int .i64 (partAt hi l (qOf x)).2)
def outC (hi : Int) (l : List Int) (pre : List (Fin l.length)) : List Value := pre.foldl (outStep hi l) (zeros [.int .i64 0, .int .i64 0] l.length)
theorem outC_snoc (hi : Int) (l : List Int) (pre : List (Fin l.length)) (x : Fin l.length) : outC hi l (pre ++ [x]) = outStep hi l (outC hi l pre) x := by simp [outC]
theorem outFold_length (hi : Int) (l : List Int) : ∀ (pre : List (Fin l.length)) (cs : List Value), (pre.foldl (outStep hi l) cs).length = cs.length
  | [], _ => rfl
  | x :: pre, cs => by rw [List.foldl_cons, outFold_length hi l pre]; simp [outStep]
theorem outC_length (hi : Int) (l : List Int) (pre : List (Fin l.length)) : (outC hi l pre).length = l.length * 2 := by
  rw [outC, outFold_length, zeros_length]; rfl
theorem outFold_get (hi : Int) (l : List Int) (q : Nat) (hq : q < l.length) : ∀ (pre : List (Fin l.length)) (cs : List Value), cs.length = l.length * 2 →
    ((∃ x ∈ pre, qOf x = q) ∨ (cs[q * 2]? = some (.int .i64 (partAt hi l q).1) ∧ cs[q * 2 + 1]? = some (.int .i64 (partAt hi l q).2))) →
    (pre.foldl (outStep hi l) cs)[q * 2]? = some (.int .i64 (partAt hi l q).1) ∧ (pre.foldl (outStep hi l) cs)[q * 2 + 1]? = some (.int .i64 (partAt hi l q).2)
  | [], cs, hl, h => by
    rcases h with ⟨x, hx, _⟩ | h
    · cases hx
    · exact h
  | x :: pre, cs, hl, h => by
    rw [List.foldl_cons]
    refine outFold_get hi l q hq pre _ (by simp [outStep, hl]) ?_
    by_cases hx : qOf x = q
    · subst hx
      refine .inr ⟨?_, ?_⟩
      · simp only [outStep]; rw [List.getElem?_set_ne (by omega), List.getElem?_set_self (by omega)]
      · simp only [outStep]; rw [List.getElem?_set_self (by simp; omega)]
    · rcases h with ⟨y, hy, hyq⟩ | h
      · rcases List.mem_cons.1 hy with rfl | hy
        · exact absurd hyq hx
        · exact .inl ⟨y, hy, hyq⟩
      · refine .inr ⟨?_, ?_⟩
        · simp only [outStep]; rw [List.getElem?_set_ne (by omega), List.getElem?_set_ne (by omega)]; exact h.1
        · simp only [outStep]; rw [List.getElem?_set_ne (by omega), List.getElem?_set_ne (by omega)]; exact h.2
theorem outC_all (hi : Int) (l : List Int) : outC hi l (List.finRange l.length) = flat2 (splitL hi l) := by
  have hs : (splitL hi l).length = l.length := by simp [splitL]
  have hg : ∀ q, q < l.length → (splitL hi l)[q]? = some (partAt hi l q) := fun q hq => by simp [splitL, hq]
  apply List.ext_getElem?
  intro j
  by_cases hj : j < l.length * 2
  · have hq : j / 2 < l.length := by omega
    have h := outFold_get hi l (j / 2) hq (List.finRange l.length) (zeros [.int .i64 0, .int .i64 0] l.length) (by rw [zeros_length]; rfl)
      (.inl ⟨⟨l.length - 1 - j / 2, by omega⟩, by simp, by simp only [qOf]; omega⟩)
    by_cases h2 : j % 2 = 0
    · have e : j = j / 2 * 2 := by omega
      rw [e, flat2_even, hg _ hq]; exact h.1
    · have e : j = j / 2 * 2 + 1 := by omega
      rw [e, flat2_odd, hg _ hq]; exact h.2
  · rw [List.getElem?_eq_none (by rw [outC_length]; omega), List.getElem?_eq_none (by rw [flat2_length, hs]; omega)]
def splitR (lo hi : Int) (l : List Int) : List (Int × Int) := if fitsI lo hi l = 0 then splitL hi l else []
theorem Tryz.info132 : (Tryz.prog.info? 132).map (fun i => (i.zero, i.size, i.bytes)) = some (some (.agg #[.int .i64 0, .int .i64 0]), 2, 16) := by kernel_rfl

set_option maxRecDepth 100000 in
set_option maxHeartbeats 2000000 in
theorem span_split2 (lo hi : Int) (v : Value) (l : List Int) (w : World) (hlen : l.length ≤ 1000000) (hl : Ints w v l) :
    Calls Tryz.prog 94 #[spanV lo hi, v] w (RetS (fun w' r => Pairs w' r (splitR lo hi l) ∧ (fitsI lo hi l = 0 → ∃ g, r = .slice (some ⟨g, 0, none⟩) l.length l.length ∧ w.heap.size ≤ g ∧ Blk w' g (flat2 (splitL hi l)) 132)) w) := by
  obtain ⟨i0, hi0, hz0, hz1, hz2⟩ := info_parts Tryz.info132
  have hmk := fun w => make_zeros (P := Tryz.prog) (t := 160) (e := 132) (i := i0) [.int .i64 0, .int .i64 0] Tryz.underlying160 hi0 hz0 rfl hz1 hz2 l.length (by omega) (by omega) w
  clear hi0 hz0 hz1 hz2
  unfold spanV
  refine calls_of_marks Tryz.func94 rfl ?_
  simp only [Tryz.ntmps94, List.size_toArray, List.length_cons, List.length_nil, Nat.reduceAdd, Nat.reduceSub, Array.replicate_succ, Array.replicate_zero, List.push_toArray, List.append_toArray, List.nil_append, List.cons_append]
  go_wp2_with fail
  refine (span_fits lo hi v l _ (hl.below (Bl.box _ _))).mono ?_
  rintro e w' ⟨rfl, hb⟩
  have k0 := Blk.below (Blk.new w [.int .i64 lo, .int .i64 hi] 132) hb
  have hB : Below w.heap.size w w' := Bl.next (Bl.box _ _) hb
  have hl' := hl.below hB
  have HB : l.length ≠ 0 → ∀ {b off n cap : Nat}, v = .slice (some ⟨b, off, none⟩) n cap → b < w.heap.size := fun h _ _ _ _ e => hl.blk h e
  clear hb hl
  obtain ⟨a, c, rfl⟩ := hl'.slice
  have z0 := k0.lt
  have c00 := k0.cell (i := 0) rfl
  have c01 := k0.cell (i := 1) rfl
  by_cases hf : fitsI lo hi l = 0
  case neg =>
    have hf2 : (fitsI lo hi l != 0) = true := by simpa using hf
    have HF := Lib.hid hf; clear hf
    go_wp2_with fail
    refine ⟨_, results_tmp rfl _ _ _, ?_⟩
    have e : splitR lo hi l = [] := by simp [splitR, HF.out]
    rw [e]
    exact ⟨_, rfl, hB, .inl ⟨_, _, rfl, rfl, rfl⟩, fun q => absurd q HF.out⟩
  have hf2 : (fitsI lo hi l != 0) = false := by simpa using hf
  have HF := Lib.hid hf; clear hf
  go_wp2_with fail
  refine (span_each lo hi a l.length c _).mono ?_
  rintro e W1 ⟨rfl, hW1⟩
  have hz : w'.heap.size + 4 = W1.heap.size := by rw [hW1]; simp
  have hb1 : Below w'.heap.size w' W1 := by rw [hW1]; exact Bl.next (Bl.next (Bl.next (Bl.box _ _) (Bl.box _ _)) (Bl.box _ _)) (Bl.box _ _)
  have s1 : W1.cell? ⟨w'.heap.size + 1 + 1, 1, none⟩ = some (.int .i64 hi) := by rw [hW1]; simp [go_sem]
  have s2 : W1.cell? ⟨w'.heap.size + 1 + 1 + 1, 0, none⟩ = some (.slice a l.length c) := by rw [hW1]; simp [go_sem]
  have m1 : Blk W1 w'.heap.size (zeros [.int .i64 0, .int .i64 0] l.length) 132 := by rw [hW1]; exact (((Blk.new w' _ _).alloc _).alloc _).alloc _
  have m2 : Blk W1 (w'.heap.size + 1) [.slice (some ⟨w'.heap.size, 0, none⟩) l.length l.length] 160 := by
    rw [hW1]; have := ((Blk.new (w'.alloc (.cells (zeros [.int .i64 0, .int .i64 0] l.length).toArray 132)) [.slice (some ⟨w'.heap.size, 0, none⟩) l.length l.length] 160).alloc (.cells #[.int .i64 lo, .int .i64 hi] 132)).alloc (.cells #[.slice a l.length c] 22)
    simpa using this
  have hB1 := Bl.next hB hb1
  have hl1 := hl'.below hb1
  have hst := each_stops (w'.heap.size + 1 + 1) (w'.heap.size + 1 + 1 + 1) (fun b => b < W1.heap.size ∧ b ≠ w'.heap.size) hi (.slice a l.length c) l W1 (fun b h => h.1) (by omega) (by omega) (by omega) hl1 ?hvp s1 s2
  case hvp => exact fun h b off n' cap e => by have := HB h e; have := hB1.size; exact ⟨by omega, by omega⟩
  clear hW1 s1 s2 hmk
  go_wp2_with fail
  refine wp_range (g := .tmp 17) (gf := 132) (lb := #[.pointer (some ⟨w'.heap.size + 1 + 1, 0, none⟩), .pointer (some ⟨w'.heap.size + 1 + 1 + 1, 0, none⟩)]) rfl (enters_of Tryz.func132 (by kernel_rfl) rfl) _ (fun b h => h.1) hst (fun _ => rfl)
    (fun pre W => (Blk W w'.heap.size (outC hi l pre) 132 ∧ Blk W (w'.heap.size + 1) [.slice (some ⟨w'.heap.size, 0, none⟩) l.length l.length] 160) ∧ (Below w.heap.size w W ∧ W1.heap.size ≤ W.heap.size))
    (fun _ _ _ => False) ?own (fun _ _ _ _ _ h _ _ => h) ⟨⟨m1, m2⟩, hB1, Nat.le_refl _⟩
    (fun x a' W => ∃ Bx, W1.heap.size ≤ Bx ∧ Blk W Bx [.int .i64 (partAt hi l (qOf x)).1, .int .i64 (partAt hi l (qOf x)).2] 132 ∧
      a' = { tmps := #[.agg #[.int .i64 lo, .int .i64 hi], .slice a l.length c, .pointer (some ⟨w.heap.size, 0, none⟩), undef, .slice none 0 0, .pointer (some ⟨w'.heap.size + 1, 0, none⟩), .int .i64 (qOf x : Int), .pointer (some ⟨Bx, 0, none⟩), .agg #[.int .i64 lo, .int .i64 hi], .slice a l.length c, .int .i64 (fitsI lo hi l), .bool false, .slice a l.length c, .int .i64 l.length, .slice (some ⟨w'.heap.size, 0, none⟩) l.length l.length, .agg #[.int .i64 lo, .int .i64 hi], .slice a l.length c, .func (.func 132) #[] #[.pointer (some ⟨w'.heap.size + 1 + 1, 0, none⟩), .pointer (some ⟨w'.heap.size + 1 + 1 + 1, 0, none⟩)], .int .i64 (qOf x : Int), spanV (partAt hi l (qOf x)).1 (partAt hi l (qOf x)).2, undef, undef, undef, undef, undef], defers := [] }) ?ownax ?assign ?body ?done ?stop
  case own => exact OwnFrom.and (Own.from (fun s A B row hs hg hr => ⟨hs.1.turn hg hr, hs.2.turn hg hr⟩) _) (OwnFrom.and (ownFrom_below (Nat.le_refl _) hB1.size) ownFrom_size)
  case ownax => exact fun x a' => Own.from (fun s A B row hs hg hr => by obtain ⟨Bx, h1, h2, h3⟩ := hs; exact ⟨Bx, h1, h2.turn hg hr, h3⟩) _
  case assign =>
    rintro lr pre x W K ⟨⟨h1, h2⟩, hbW, hsz⟩ hK
    unfold encE
    gi_wp2
    exact hK _ _ ((KeepsOthers.alloc _ _).from _) (Keeps.of_below (Bl.box W _) (fun b hb => by have := hb.1; omega)) ⟨⟨h1.alloc _, h2.alloc _⟩, Bl.next hbW (Bl.box _ _), by simp; omega⟩ ⟨W.heap.size, hsz, Blk.new W _ _, rfl⟩
  case body =>
    rintro lr pre x a' W hlr ⟨⟨h1, h2⟩, hbW, hsz⟩ ⟨Bx, hBx, hx, rfl⟩ hlt
    have cx0 := hx.cell (i := 0) rfl
    have cx1 := hx.cell (i := 1) rfl
    have ci := h2.cell (i := 0) rfl
    have hq : qOf x < l.length := by have := x.2; simp only [qOf]; omega
    have hol := outC_length hi l pre
    obtain ⟨u0, hu0⟩ : ∃ u0, (outC hi l pre)[qOf x * 2]? = some u0 := ⟨_, List.getElem?_eq_getElem (by omega)⟩
    obtain ⟨u1, hu1⟩ : ∃ u1, (outC hi l pre)[qOf x * 2 + 1]? = some u1 := ⟨_, List.getElem?_eq_getElem (by omega)⟩
    have cu0 := h1.cell hu0
    have cu1 := h1.cell hu1
    have fu0 := h1.frozen (qOf x * 2)
    have fu1 := h1.frozen (qOf x * 2 + 1)
    clear hu0 hu1 hol
    gi_wp2
    refine ⟨((KeepsOthers.setCell _ _ _).trans (KeepsOthers.setCell _ _ _)).from _, ((Keeps.refl _ W).setCell (by simp) _).setCell (by simp) _, ⟨by rw [outC_snoc]; exact (h1.set _ _).set _ _, (h2.other (by simp) _).other (by simp) _⟩, (hbW.setCell (Nat.le_of_lt z0) _).setCell (Nat.le_of_lt z0) _, by simpa [World.setCell] using hsz⟩
  case done =>
    rintro D xs W hD rfl ⟨⟨h1, h2⟩, hbW, hsz⟩ hK
    have ci := h2.cell (i := 0) rfl
    have hlt : D < W.heap.size := (Array.getElem?_eq_some_iff.1 hK).1
    rw [outC_all] at h1
    have hs : (splitL hi l).length = l.length := by simp [splitL]
    have hR : Pairs (W.putObj D (.deferred none)) (.slice (some ⟨w'.heap.size, 0, none⟩) l.length l.length) (splitL hi l) := by
      have h1' := h1.put hK rfl (.deferred none)
      exact .inr ⟨_, 0, l.length, by rw [hs], by omega, by unfold maxLen; omega, fun j x hj => by rw [Nat.zero_add]; exact h1'.cell hj⟩
    have HR := Lib.hid hR
    have HR2 := Lib.hid (h1.put hK rfl (.deferred none))
    clear hR h1 hs
    go_wp2_with fail
    refine ⟨by simp, .inl ⟨_, _, rfl, run_takeDeferred hK, _, results_tmp rfl _ _ _, ?_⟩⟩
    have e : splitR lo hi l = splitL hi l := by simp [splitR, HF.out]
    rw [e]
    exact ⟨_, rfl, below_put hbW (by have := hB1.size; omega) hlt _, HR.out, fun _ => ⟨_, rfl, hB.size, HR2.out⟩⟩
  case stop => exact fun _ _ _ _ _ _ h _ => h.elim
end Go.Proofs.YthlakkdgcgkcdaaGreat
namespace Go.Proofs.YthlakkdgcgkcdaaGreat
open Go.RowKit Go.Extern.Stop Go.Stop Go.Extern
set_option linter.unusedVariables false
attribute [local irreducible] wpList wpAnyH Code.wp Oper.wp Go

/-- the number of the error of a node that is looked at, as the one below way, for the span lo hi -/
def lookE (l : List UInt8) (way : List Int) (no tree lo hi deep : Int) : Int :=
  if hasI way no = true then 11 else if 16 ≤ way.length then 10 else if nodeErr l no tree ≠ 0 then nodeErr l no tree else if fitsI lo hi (keysI (inB l no) (nodC (inB l no))) ≠ 0 then 9 else
    if nodL (inB l no) = true ∧ deep ≠ 0 ∧ deep ≠ ((way.length + 1 : Nat) : Int) then 10 else 0
def LookP (B bw : Nat) (cs : List Value) (l : List UInt8) (way : List Int) (no tree lo hi deep : Int) (w : World) (e : Ending) (w' : World) : Prop :=
  Below B w w' ∧ Only [129] w w' ∧ Blk w' bw cs 129 ∧
  ((lookE l way no tree lo hi deep ≠ 0 ∧ ∃ a4 b4 k4 n4 c4 v4 m4 d4 ty x, e = .returned (.tuple #[.agg #[.int .i64 a4, .bool b4, .slice k4 n4 c4, .slice v4 m4 d4], .iface ty x]) ∧ ErrV w' [some no] (some (lookE l way no tree lo hi deep)) (.iface ty x)) ∨
   (lookE l way no tree lo hi deep = 0 ∧ nodeErr l no tree = 0 ∧ ∃ kp kc vp vc, e = .returned (.tuple #[.agg #[.int .i64 (nodT (inB l no)), .bool (nodL (inB l no)), .slice kp (nodC (inB l no)) kc, .slice vp (nodC (inB l no)) vc], .nilIface]) ∧
    w'.ownsRow w.heap.size 3 1 (.slice kp (nodC (inB l no)) kc) (nodC (inB l no)) ((keysI (inB l no) (nodC (inB l no))).map (Value.int .i64)) ∧ w'.ownsRow w.heap.size 9 1 (.slice vp (nodC (inB l no)) vc) (nodC (inB l no)) ((valsL (inB l no) (nodC (inB l no))).map sv)))
theorem intsN_of {w : World} {v : Value} {n : Nat} {l : List Int} (h : Sl w v n (l.map (Value.int .i64))) (hl : l.length = n) : Ints w v l := by subst hl; exact h
set_option maxRecDepth 100000 in
set_option maxHeartbeats 4000000 in
theorem walker_look (B Bi b bw : Nat) (p : Option Addr) (n c : Nat) (l : List UInt8) (c0 c1 c4 c7 c9 : Value) (pw : Option Addr) (cw : Nat) (way : List Int) (no tree lo hi deep looked : Int) (w : World) (hBb : B ≤ bw) (hBw : B ≤ w.heap.size) (kW : Blk w bw [c0, c1, .int .i64 deep, .int .i64 looked, c4, .pointer (some ⟨b, 0, none⟩), .int .i64 tree, c7, .slice pw way.length cw, c9] 129) (hway : w.ownsRow B 3 1 (.slice pw way.length cw) way.length (way.map (Value.int .i64))) (hI : ImgR Bi b p n c l w) (hwl : way.length ≤ 1000000) (hl0 : 0 ≤ looked) (hl1 : looked < 9223372036854775807) :
    Calls Tryz.prog 92 #[.pointer (some ⟨bw, 0, none⟩), .int .i64 no, .agg #[.int .i64 lo, .int .i64 hi]] w (LookP B bw [c0, c1, .int .i64 deep, .int .i64 (looked + 1), c4, .pointer (some ⟨b, 0, none⟩), .int .i64 tree, c7, .slice pw way.length cw, c9] l way no tree lo hi deep w) := by
 refine zin 97 Tryz.func92 ?_
 refine xa 2 [.int .i64 lo, .int .i64 hi] 132 fun b1 W1 n1 => ?_
 refine xa 0 [.int .i64 0, .bool false, .slice none 0 0, .slice none 0 0] 125 fun b2 W2 n2 => ?_
 have kW'1 := (kW.below n1.below).below n2.below
 refine xb 9 3 kW'1 ?_
 refine xw 0 (looked + 1) ?_
 refine xs 3 kW'1 [c0, c1, .int .i64 deep, .int .i64 (looked + 1), c4, .pointer (some ⟨b, 0, none⟩), .int .i64 tree, c7, .slice pw way.length cw, c9] fun W3 u3 k3 => ?_
 refine xb 8 8 k3 ?_
 have hway'1 := u3.own2 (own_below (own_below hway n1.below) n2.below) kW'1 (by decide)
 refine xr 1 (args := #[.slice pw way.length cw, .int .i64 no]) (containsI pw cw way no _ (own_sl hway'1) hwl) fun W4 hb4 => ?_
 refine xi 2 (hasI way no) (fun hc5 => ?_) (fun hc5 => ?_)
 · refine xc 5 (args := #[.int .i64 no, .iface 26 (.int .i64 11)]) (fault_At no (some 11) [] _ _ rfl) ?_
   rintro _ W6 ⟨r6, rfl, hb6, hv6⟩
   rw [atL_some] at hv6
   obtain ⟨t6, x6, rfl⟩ := hv6.iface
   have k2 := ((u3.blkT n2.blk kW'1 (by decide)).below hb4).below hb6
   refine xsv 0 k2 [.int .i64 0, .bool false, .slice none 0 0, .slice none 0 0] fun W7 u7 k7 => ?_
   have g2 := n2.ge0 (Bl.nextB (Below.refl B w) hBw n1.below)
   have hB := u7.below (Bl.nextB (Bl.nextB (u3.below (Bl.nextB (Bl.nextB (Below.refl B w) hBw n1.below) hBw n2.below) hBb) hBw hb4) hBw hb6) (Nat.le_trans hBw g2)
   have hO := (Only.upd_new (((((show Only [129] w _ from (Only.of_below n1.below)).trans (Only.of_below n2.below)).trans (Only.of_upd u3 kW'1 (by decide))).trans (Only.of_below hb4)).trans (Only.of_below hb6)) u7 g2)
   have k3'1 := u7.blkT ((k3.below hb4).below hb6) k2 (by decide)
   have hv6'1 := hv6.upd u7 k2 (by decide)
   exact xec 5 k7 (.tuple #[.agg #[.int .i64 0, .bool false, .slice none 0 0, .slice none 0 0], .iface t6 (x6)]) ⟨hB, hO, k3'1, .inl ⟨by (unfold lookE; (repeat' split) <;> first | rfl | assumption | decide | omega | exact absurd (Eq.trans (Eq.symm ‹hasI _ _ = true›) ‹hasI _ _ = false›) (by decide) | (rename_i q; exact absurd ⟨by assumption, by assumption, by assumption⟩ q) | (rename_i q; obtain ⟨q1, q2, q3⟩ := q; exact absurd (Eq.trans (Eq.symm q1) ‹nodL _ = false›) (by decide)) | (rename_i q; obtain ⟨q1, q2, q3⟩ := q; omega)), _, _, _, _, _, _, _, _, _, _, rfl, by (unfold lookE; (repeat' split) <;> first | exact hv6'1 | (exfalso; omega) | contradiction | exact absurd (Eq.trans (Eq.symm ‹hasI _ _ = true›) ‹hasI _ _ = false›) (by decide) | (rename_i q; exact absurd ⟨by assumption, by assumption, by assumption⟩ q) | (rename_i q; obtain ⟨q1, q2, q3⟩ := q; exact absurd (Eq.trans (Eq.symm q1) ‹nodL _ = false›) (by decide)) | (rename_i q; obtain ⟨q1, q2, q3⟩ := q; omega))⟩⟩
 have k3'2 := k3.below hb4
 refine xb 8 8 k3'2 ?_
 refine xid 4 ((↑way.length : Int) ≥ (16 : Int)) (fun hc8 => ?_) (fun hc8 => ?_)
 · refine xc 5 (args := #[.int .i64 no, .iface 26 (.int .i64 10)]) (fault_At no (some 10) [] _ _ rfl) ?_
   rintro _ W9 ⟨r9, rfl, hb9, hv9⟩
   rw [atL_some] at hv9
   obtain ⟨t9, x9, rfl⟩ := hv9.iface
   have k2 := ((u3.blkT n2.blk kW'1 (by decide)).below hb4).below hb9
   refine xsv 0 k2 [.int .i64 0, .bool false, .slice none 0 0, .slice none 0 0] fun W10 u10 k10 => ?_
   have g2 := n2.ge0 (Bl.nextB (Below.refl B w) hBw n1.below)
   have hB := u10.below (Bl.nextB (Bl.nextB (u3.below (Bl.nextB (Bl.nextB (Below.refl B w) hBw n1.below) hBw n2.below) hBb) hBw hb4) hBw hb9) (Nat.le_trans hBw g2)
   have hO := (Only.upd_new (((((show Only [129] w _ from (Only.of_below n1.below)).trans (Only.of_below n2.below)).trans (Only.of_upd u3 kW'1 (by decide))).trans (Only.of_below hb4)).trans (Only.of_below hb9)) u10 g2)
   have k3'3 := u10.blkT (k3'2.below hb9) k2 (by decide)
   have hv9'1 := hv9.upd u10 k2 (by decide)
   exact xec 5 k10 (.tuple #[.agg #[.int .i64 0, .bool false, .slice none 0 0, .slice none 0 0], .iface t9 (x9)]) ⟨hB, hO, k3'3, .inl ⟨by (unfold lookE; (repeat' split) <;> first | rfl | assumption | decide | omega | exact absurd (Eq.trans (Eq.symm ‹hasI _ _ = true›) ‹hasI _ _ = false›) (by decide) | (rename_i q; exact absurd ⟨by assumption, by assumption, by assumption⟩ q) | (rename_i q; obtain ⟨q1, q2, q3⟩ := q; exact absurd (Eq.trans (Eq.symm q1) ‹nodL _ = false›) (by decide)) | (rename_i q; obtain ⟨q1, q2, q3⟩ := q; omega)), _, _, _, _, _, _, _, _, _, _, rfl, by (unfold lookE; (repeat' split) <;> first | exact hv9'1 | (exfalso; omega) | contradiction | exact absurd (Eq.trans (Eq.symm ‹hasI _ _ = true›) ‹hasI _ _ = false›) (by decide) | (rename_i q; exact absurd ⟨by assumption, by assumption, by assumption⟩ q) | (rename_i q; obtain ⟨q1, q2, q3⟩ := q; exact absurd (Eq.trans (Eq.symm q1) ‹nodL _ = false›) (by decide)) | (rename_i q; obtain ⟨q1, q2, q3⟩ := q; omega))⟩⟩
 refine xd 3 (.t B [125]) ?_
 have k3'4 := k3'2.below (below_drew W4)
 refine xbt (.e [0, 1, 2] 3) 5 B [125] k3'4 ?_
 refine xbt (.e [4, 5, 6, 7] 8) 6 B [125] k3'4 ?_
 refine xm2 0 9 13 ?_ ?_
 · have hI'1 := ((((hI.below n1.below).below n2.below).only (Only.of_upd (T := [129]) u3 kW'1 (by decide)) (by decide)).below hb4).below (below_drew W4)
   refine yc 0 (args := #[.pointer (some ⟨b, 0, none⟩), .int .i64 no, .int .i64 tree]) (.t B [125]) (block_Node Bi b p n c l no tree _ hI'1) ?_
   rintro e W11 hq11
   rcases hq11 with ⟨he, bf, rfl, hb11, hv⟩ | ⟨he, kp, kc, vp, vc, rfl, hb11, hk, hv_⟩
   · refine ⟨(SF.of_below _ hb11), ?_⟩
     refine xa (.o [10, 11, 12] 13) [.int .i64 0, .bool false, .slice none 0 0, .slice none 0 0] 125 fun b12 W12 n12 => ?_
     have k2 := (((u3.blkT n2.blk kW'1 (by decide)).below hb4).below (below_drew W4)).below hb11
     have d12_b2 := n12.ne k2
     have hB := Bl.nextB (Bl.nextB (Bl.nextB (u3.below (Bl.nextB (Bl.nextB (Below.refl B w) hBw n1.below) hBw n2.below) hBb) hBw hb4) hBw (below_drew W4)) hBw hb11
     have g12 := n12.ge0 hB
     refine ysv (.o [] 14) n12.blk [.int .i64 0, .bool false, .slice none 0 0, .slice none 0 0] (.t B [125]) fun W13 u13 k13 => ⟨(sft_upd u13 n12.blk (Nat.le_trans hBw g12) (by decide)), ?_⟩
     refine xlv (.r [15] 14) k13.rp ?_
     have k2'1 := u13.blk (k2.below n12.below) (Ne.symm (Ne.symm d12_b2))
     refine xsv 1 k2'1 [.int .i64 0, .bool false, .slice none 0 0, .slice none 0 0] fun W14 u14 k14 => ?_
     have g2 := n2.ge0 (Bl.nextB (Below.refl B w) hBw n1.below)
     have hB'1 := u14.below (u13.below (Bl.nextB hB hBw n12.below) (Nat.le_trans hBw g12)) (Nat.le_trans hBw g2)
     have hO := (Only.upd_new (Only.upd_new (((((((show Only [129] w _ from (Only.of_below n1.below)).trans (Only.of_below n2.below)).trans (Only.of_upd u3 kW'1 (by decide))).trans (Only.of_below hb4)).trans (Only.of_below (below_drew W4))).trans (Only.of_below hb11)).trans (Only.of_below n12.below)) u13 g12) u14 g2)
     have k3'5 := u14.blkT (u13.blkT ((k3'4.below hb11).below n12.below) n12.blk (by decide)) k2'1 (by decide)
     have hv'1 := ((hv.below n12.below).upd u13 n12.blk (by decide)).upd u14 k2'1 (by decide)
     exact xec 6 k14 (.tuple #[.agg #[.int .i64 0, .bool false, .slice none 0 0, .slice none 0 0], .iface 103 (.pointer (some ⟨bf, 0, none⟩))]) ⟨hB'1, hO, k3'5, .inl ⟨by (unfold lookE; (repeat' split) <;> first | rfl | assumption | decide | omega | exact absurd (Eq.trans (Eq.symm ‹hasI _ _ = true›) ‹hasI _ _ = false›) (by decide) | (rename_i q; exact absurd ⟨by assumption, by assumption, by assumption⟩ q) | (rename_i q; obtain ⟨q1, q2, q3⟩ := q; exact absurd (Eq.trans (Eq.symm q1) ‹nodL _ = false›) (by decide)) | (rename_i q; obtain ⟨q1, q2, q3⟩ := q; omega)), _, _, _, _, _, _, _, _, _, _, rfl, by (unfold lookE; (repeat' split) <;> first | exact hv'1 | (exfalso; omega) | contradiction | exact absurd (Eq.trans (Eq.symm ‹hasI _ _ = true›) ‹hasI _ _ = false›) (by decide) | (rename_i q; exact absurd ⟨by assumption, by assumption, by assumption⟩ q) | (rename_i q; obtain ⟨q1, q2, q3⟩ := q; exact absurd (Eq.trans (Eq.symm q1) ‹nodL _ = false›) (by decide)) | (rename_i q; obtain ⟨q1, q2, q3⟩ := q; omega))⟩⟩
   have hs11 := (Bl.nextB (Bl.nextB (u3.below (Bl.nextB (Bl.nextB (Below.refl B w) hBw n1.below) hBw n2.below) hBb) hBw hb4) hBw (below_drew W4)).size
   refine ⟨(SF.of_below _ hb11), ?_⟩
   refine xa (.o [10, 11, 12] 13) [.int .i64 0, .bool false, .slice none 0 0, .slice none 0 0] 125 fun b15 W15 n15 => ?_
   have k2 := (((u3.blkT n2.blk kW'1 (by decide)).below hb4).below (below_drew W4)).below hb11
   have d15_b2 := n15.ne k2
   have hB := Bl.nextB (Bl.nextB (Bl.nextB (u3.below (Bl.nextB (Bl.nextB (Below.refl B w) hBw n1.below) hBw n2.below) hBb) hBw hb4) hBw (below_drew W4)) hBw hb11
   have g15 := n15.ge0 hB
   refine ysv (.o [] 14) n15.blk [.int .i64 (nodT (inB l no)), .bool (nodL (inB l no)), .slice kp (nodC (inB l no)) kc, .slice vp (nodC (inB l no)) vc] (.t B [125]) fun W16 u16 k16 => ⟨(sft_upd u16 n15.blk (Nat.le_trans hBw g15) (by decide)), ?_⟩
   have k1 := u16.blkT (((((u3.blkT (n1.blk.below n2.below) kW'1 (by decide)).below hb4).below (below_drew W4)).below hb11).below n15.below) n15.blk (by decide)
   refine xlv (.r [15] 14) k1.rp ?_
   refine xb 1 2 k16 ?_
   have hk'1 := u16.own2 (own_below (own_mono hk hs11) n15.below) n15.blk (by decide)
   refine xr 0 (args := #[.agg #[.int .i64 lo, .int .i64 hi], .slice kp (nodC (inB l no)) kc]) (span_fits lo hi _ (keysI (inB l no) (nodC (inB l no))) _ (intsN_of (own_sl hk'1) (keysI_len _ _))) fun W17 hb17 => ?_
   refine xin 4 (fitsI lo hi (keysI (inB l no) (nodC (inB l no)))) (0 : Int) (fun hc18 => ?_) (fun hc18 => ?_)
   · refine xd 1 (.t B [125]) ?_
     refine xm2 (.b [1, 2]) 0 3 ?_ ?_
     · have k16'1 := (k16.below hb17).below (below_drew W17)
       refine xlv 0 k16'1.rp ?_
       refine yc (.o [] 3) (args := #[.int .i64 no, .iface 26 (.int .i64 9)]) (.t B [125]) (fault_At no (some 9) [] _ _ rfl) ?_
       rintro _ W19 ⟨r19, rfl, hb19, hv19⟩
       refine ⟨(SF.of_below _ hb19), ?_⟩
       rw [atL_some] at hv19
       obtain ⟨t19, x19, rfl⟩ := hv19.iface
       have k2'2 := (((u16.blk (k2.below n15.below) (Ne.symm (Ne.symm d15_b2))).below hb17).below (below_drew W17)).below hb19
       have g2 := n2.ge0 (Bl.nextB (Below.refl B w) hBw n1.below)
       refine ysv (.o [] 4) k2'2 [.int .i64 (nodT (inB l no)), .bool (nodL (inB l no)), .slice kp (nodC (inB l no)) kc, .slice vp (nodC (inB l no)) vc] (.t B [125]) fun W20 u20 k20 => ⟨(sft_upd u20 k2'2 (Nat.le_trans hBw g2) (by decide)), ?_⟩
       have hB'2 := u20.below (Bl.nextB (Bl.nextB (Bl.nextB (u16.below (Bl.nextB hB hBw n15.below) (Nat.le_trans hBw g15)) hBw hb17) hBw (below_drew W17)) hBw hb19) (Nat.le_trans hBw g2)
       have hO := (Only.upd_new ((((Only.upd_new (((((((show Only [129] w _ from (Only.of_below n1.below)).trans (Only.of_below n2.below)).trans (Only.of_upd u3 kW'1 (by decide))).trans (Only.of_below hb4)).trans (Only.of_below (below_drew W4))).trans (Only.of_below hb11)).trans (Only.of_below n15.below)) u16 g15).trans (Only.of_below hb17)).trans (Only.of_below (below_drew W17))).trans (Only.of_below hb19)) u20 g2)
       have k3'6 := u20.blkT ((((u16.blkT ((k3'4.below hb11).below n15.below) n15.blk (by decide)).below hb17).below (below_drew W17)).below hb19) k2'2 (by decide)
       have hv19'1 := hv19.upd u20 k2'2 (by decide)
       exact xec (.r [5] 5) k20 (.tuple #[.agg #[.int .i64 (nodT (inB l no)), .bool (nodL (inB l no)), .slice kp (nodC (inB l no)) kc, .slice vp (nodC (inB l no)) vc], .iface t19 (x19)]) ⟨hB'2, hO, k3'6, .inl ⟨by (unfold lookE; (repeat' split) <;> first | rfl | assumption | decide | omega | exact absurd (Eq.trans (Eq.symm ‹hasI _ _ = true›) ‹hasI _ _ = false›) (by decide) | (rename_i q; exact absurd ⟨by assumption, by assumption, by assumption⟩ q) | (rename_i q; obtain ⟨q1, q2, q3⟩ := q; exact absurd (Eq.trans (Eq.symm q1) ‹nodL _ = false›) (by decide)) | (rename_i q; obtain ⟨q1, q2, q3⟩ := q; omega)), _, _, _, _, _, _, _, _, _, _, rfl, by (unfold lookE; (repeat' split) <;> first | exact hv19'1 | (exfalso; omega) | contradiction | exact absurd (Eq.trans (Eq.symm ‹hasI _ _ = true›) ‹hasI _ _ = false›) (by decide) | (rename_i q; exact absurd ⟨by assumption, by assumption, by assumption⟩ q) | (rename_i q; obtain ⟨q1, q2, q3⟩ := q; exact absurd (Eq.trans (Eq.symm q1) ‹nodL _ = false›) (by decide)) | (rename_i q; obtain ⟨q1, q2, q3⟩ := q; omega))⟩⟩
     refine yc 0 (args := #[.int .i64 no, .iface 26 (.int .i64 9)]) (.t B [125]) (fault_At no (some 9) [] _ _ rfl) ?_
     rintro _ W21 ⟨r21, rfl, hb21, hv21⟩
     refine ⟨(SF.of_below _ hb21), ?_⟩
     rw [atL_some] at hv21
     obtain ⟨t21, x21, rfl⟩ := hv21.iface
     have k16'2 := ((k16.below hb17).below (below_drew W17)).below hb21
     refine xlv (.o [] 0) k16'2.rp ?_
     have k2'3 := (((u16.blk (k2.below n15.below) (Ne.symm (Ne.symm d15_b2))).below hb17).below (below_drew W17)).below hb21
     have g2 := n2.ge0 (Bl.nextB (Below.refl B w) hBw n1.below)
     refine ysv (.o [] 4) k2'3 [.int .i64 (nodT (inB l no)), .bool (nodL (inB l no)), .slice kp (nodC (inB l no)) kc, .slice vp (nodC (inB l no)) vc] (.t B [125]) fun W22 u22 k22 => ⟨(sft_upd u22 k2'3 (Nat.le_trans hBw g2) (by decide)), ?_⟩
     have hB'3 := u22.below (Bl.nextB (Bl.nextB (Bl.nextB (u16.below (Bl.nextB hB hBw n15.below) (Nat.le_trans hBw g15)) hBw hb17) hBw (below_drew W17)) hBw hb21) (Nat.le_trans hBw g2)
     have hO := (Only.upd_new ((((Only.upd_new (((((((show Only [129] w _ from (Only.of_below n1.below)).trans (Only.of_below n2.below)).trans (Only.of_upd u3 kW'1 (by decide))).trans (Only.of_below hb4)).trans (Only.of_below (below_drew W4))).trans (Only.of_below hb11)).trans (Only.of_below n15.below)) u16 g15).trans (Only.of_below hb17)).trans (Only.of_below (below_drew W17))).trans (Only.of_below hb21)) u22 g2)
     have k3'7 := u22.blkT ((((u16.blkT ((k3'4.below hb11).below n15.below) n15.blk (by decide)).below hb17).below (below_drew W17)).below hb21) k2'3 (by decide)
     have hv21'1 := hv21.upd u22 k2'3 (by decide)
     exact xec (.r [5] 5) k22 (.tuple #[.agg #[.int .i64 (nodT (inB l no)), .bool (nodL (inB l no)), .slice kp (nodC (inB l no)) kc, .slice vp (nodC (inB l no)) vc], .iface t21 (x21)]) ⟨hB'3, hO, k3'7, .inl ⟨by (unfold lookE; (repeat' split) <;> first | rfl | assumption | decide | omega | exact absurd (Eq.trans (Eq.symm ‹hasI _ _ = true›) ‹hasI _ _ = false›) (by decide) | (rename_i q; exact absurd ⟨by assumption, by assumption, by assumption⟩ q) | (rename_i q; obtain ⟨q1, q2, q3⟩ := q; exact absurd (Eq.trans (Eq.symm q1) ‹nodL _ = false›) (by decide)) | (rename_i q; obtain ⟨q1, q2, q3⟩ := q; omega)), _, _, _, _, _, _, _, _, _, _, rfl, by (unfold lookE; (repeat' split) <;> first | exact hv21'1 | (exfalso; omega) | contradiction | exact absurd (Eq.trans (Eq.symm ‹hasI _ _ = true›) ‹hasI _ _ = false›) (by decide) | (rename_i q; exact absurd ⟨by assumption, by assumption, by assumption⟩ q) | (rename_i q; obtain ⟨q1, q2, q3⟩ := q; exact absurd (Eq.trans (Eq.symm q1) ‹nodL _ = false›) (by decide)) | (rename_i q; obtain ⟨q1, q2, q3⟩ := q; omega))⟩⟩
   refine xd 1 .z ?_
   have k16'3 := (k16.below hb17).below (below_drew W17)
   refine xb (.e [0] 1) 1 k16'3 ?_
   refine xg (.b [2]) [69, 70] (nodL (inB l no)) (fun hc23 => ?_) (fun hc23 => ?_)
   · have k3'8 := ((u16.blkT ((k3'4.below hb11).below n15.below) n15.blk (by decide)).below hb17).below (below_drew W17)
     refine xb (.e [3, 4, 5, 6] 7) 2 k3'8 ?_
     refine xg (.b [8, 9, 10]) [76, 77, 78] (deep != (0 : Int)) (fun hc24 => ?_) (fun hc24 => ?_)
     · have hc24 := ne_of_bne hc24
       refine xb (.e [11, 12, 13, 14] 15) 2 k3'8 ?_
       refine xb (.e [16, 17, 18] 19) 8 k3'8 ?_
       refine xwm (.e [20] 21) ((↑way.length : Int) + 1) (↑(way.length + 1) : Int) ?_
       refine xin (.r [22, 23, 24] 2) deep (↑(way.length + 1) : Int) (fun hc25 => ?_) (fun hc25 => ?_)
       · refine xd 1 (.t B [125]) ?_
         refine xm2 (.b [1, 2]) 0 3 ?_ ?_
         · have k16'4 := k16'3.below (below_drew W17.drew)
           refine xlv 0 k16'4.rp ?_
           refine yc (.o [] 3) (args := #[.int .i64 no, .iface 26 (.int .i64 10)]) (.t B [125]) (fault_At no (some 10) [] _ _ rfl) ?_
           rintro _ W26 ⟨r26, rfl, hb26, hv26⟩
           refine ⟨(SF.of_below _ hb26), ?_⟩
           rw [atL_some] at hv26
           obtain ⟨t26, x26, rfl⟩ := hv26.iface
           have k2'4 := ((((u16.blk (k2.below n15.below) (Ne.symm (Ne.symm d15_b2))).below hb17).below (below_drew W17)).below (below_drew W17.drew)).below hb26
           have g2 := n2.ge0 (Bl.nextB (Below.refl B w) hBw n1.below)
           refine ysv (.o [] 4) k2'4 [.int .i64 (nodT (inB l no)), .bool (nodL (inB l no)), .slice kp (nodC (inB l no)) kc, .slice vp (nodC (inB l no)) vc] (.t B [125]) fun W27 u27 k27 => ⟨(sft_upd u27 k2'4 (Nat.le_trans hBw g2) (by decide)), ?_⟩
           have hB'4 := u27.below (Bl.nextB (Bl.nextB (Bl.nextB (Bl.nextB (u16.below (Bl.nextB hB hBw n15.below) (Nat.le_trans hBw g15)) hBw hb17) hBw (below_drew W17)) hBw (below_drew W17.drew)) hBw hb26) (Nat.le_trans hBw g2)
           have hO := (Only.upd_new (((((Only.upd_new (((((((show Only [129] w _ from (Only.of_below n1.below)).trans (Only.of_below n2.below)).trans (Only.of_upd u3 kW'1 (by decide))).trans (Only.of_below hb4)).trans (Only.of_below (below_drew W4))).trans (Only.of_below hb11)).trans (Only.of_below n15.below)) u16 g15).trans (Only.of_below hb17)).trans (Only.of_below (below_drew W17))).trans (Only.of_below (below_drew W17.drew))).trans (Only.of_below hb26)) u27 g2)
           have k3'9 := u27.blkT ((k3'8.below (below_drew W17.drew)).below hb26) k2'4 (by decide)
           have hv26'1 := hv26.upd u27 k2'4 (by decide)
           exact xec (.r [5] 5) k27 (.tuple #[.agg #[.int .i64 (nodT (inB l no)), .bool (nodL (inB l no)), .slice kp (nodC (inB l no)) kc, .slice vp (nodC (inB l no)) vc], .iface t26 (x26)]) ⟨hB'4, hO, k3'9, .inl ⟨by (unfold lookE; (repeat' split) <;> first | rfl | assumption | decide | omega | exact absurd (Eq.trans (Eq.symm ‹hasI _ _ = true›) ‹hasI _ _ = false›) (by decide) | (rename_i q; exact absurd ⟨by assumption, by assumption, by assumption⟩ q) | (rename_i q; obtain ⟨q1, q2, q3⟩ := q; exact absurd (Eq.trans (Eq.symm q1) ‹nodL _ = false›) (by decide)) | (rename_i q; obtain ⟨q1, q2, q3⟩ := q; omega)), _, _, _, _, _, _, _, _, _, _, rfl, by (unfold lookE; (repeat' split) <;> first | exact hv26'1 | (exfalso; omega) | contradiction | exact absurd (Eq.trans (Eq.symm ‹hasI _ _ = true›) ‹hasI _ _ = false›) (by decide) | (rename_i q; exact absurd ⟨by assumption, by assumption, by assumption⟩ q) | (rename_i q; obtain ⟨q1, q2, q3⟩ := q; exact absurd (Eq.trans (Eq.symm q1) ‹nodL _ = false›) (by decide)) | (rename_i q; obtain ⟨q1, q2, q3⟩ := q; omega))⟩⟩
         refine yc 0 (args := #[.int .i64 no, .iface 26 (.int .i64 10)]) (.t B [125]) (fault_At no (some 10) [] _ _ rfl) ?_
         rintro _ W28 ⟨r28, rfl, hb28, hv28⟩
         refine ⟨(SF.of_below _ hb28), ?_⟩
         rw [atL_some] at hv28
         obtain ⟨t28, x28, rfl⟩ := hv28.iface
         have k16'5 := (k16'3.below (below_drew W17.drew)).below hb28
         refine xlv (.o [] 0) k16'5.rp ?_
         have k2'5 := ((((u16.blk (k2.below n15.below) (Ne.symm (Ne.symm d15_b2))).below hb17).below (below_drew W17)).below (below_drew W17.drew)).below hb28
         have g2 := n2.ge0 (Bl.nextB (Below.refl B w) hBw n1.below)
         refine ysv (.o [] 4) k2'5 [.int .i64 (nodT (inB l no)), .bool (nodL (inB l no)), .slice kp (nodC (inB l no)) kc, .slice vp (nodC (inB l no)) vc] (.t B [125]) fun W29 u29 k29 => ⟨(sft_upd u29 k2'5 (Nat.le_trans hBw g2) (by decide)), ?_⟩
         have hB'5 := u29.below (Bl.nextB (Bl.nextB (Bl.nextB (Bl.nextB (u16.below (Bl.nextB hB hBw n15.below) (Nat.le_trans hBw g15)) hBw hb17) hBw (below_drew W17)) hBw (below_drew W17.drew)) hBw hb28) (Nat.le_trans hBw g2)
         have hO := (Only.upd_new (((((Only.upd_new (((((((show Only [129] w _ from (Only.of_below n1.below)).trans (Only.of_below n2.below)).trans (Only.of_upd u3 kW'1 (by decide))).trans (Only.of_below hb4)).trans (Only.of_below (below_drew W4))).trans (Only.of_below hb11)).trans (Only.of_below n15.below)) u16 g15).trans (Only.of_below hb17)).trans (Only.of_below (below_drew W17))).trans (Only.of_below (below_drew W17.drew))).trans (Only.of_below hb28)) u29 g2)
         have k3'10 := u29.blkT ((k3'8.below (below_drew W17.drew)).below hb28) k2'5 (by decide)
         have hv28'1 := hv28.upd u29 k2'5 (by decide)
         exact xec (.r [5] 5) k29 (.tuple #[.agg #[.int .i64 (nodT (inB l no)), .bool (nodL (inB l no)), .slice kp (nodC (inB l no)) kc, .slice vp (nodC (inB l no)) vc], .iface t28 (x28)]) ⟨hB'5, hO, k3'10, .inl ⟨by (unfold lookE; (repeat' split) <;> first | rfl | assumption | decide | omega | exact absurd (Eq.trans (Eq.symm ‹hasI _ _ = true›) ‹hasI _ _ = false›) (by decide) | (rename_i q; exact absurd ⟨by assumption, by assumption, by assumption⟩ q) | (rename_i q; obtain ⟨q1, q2, q3⟩ := q; exact absurd (Eq.trans (Eq.symm q1) ‹nodL _ = false›) (by decide)) | (rename_i q; obtain ⟨q1, q2, q3⟩ := q; omega)), _, _, _, _, _, _, _, _, _, _, rfl, by (unfold lookE; (repeat' split) <;> first | exact hv28'1 | (exfalso; omega) | contradiction | exact absurd (Eq.trans (Eq.symm ‹hasI _ _ = true›) ‹hasI _ _ = false›) (by decide) | (rename_i q; exact absurd ⟨by assumption, by assumption, by assumption⟩ q) | (rename_i q; obtain ⟨q1, q2, q3⟩ := q; exact absurd (Eq.trans (Eq.symm q1) ‹nodL _ = false›) (by decide)) | (rename_i q; obtain ⟨q1, q2, q3⟩ := q; omega))⟩⟩
       refine xlv 5 k16'3.rp ?_
       have k2'6 := ((u16.blk (k2.below n15.below) (Ne.symm (Ne.symm d15_b2))).below hb17).below (below_drew W17)
       refine xsv 0 k2'6 [.int .i64 (nodT (inB l no)), .bool (nodL (inB l no)), .slice kp (nodC (inB l no)) kc, .slice vp (nodC (inB l no)) vc] fun W30 u30 k30 => ?_
       have g2 := n2.ge0 (Bl.nextB (Below.refl B w) hBw n1.below)
       have hB'6 := u30.below (Bl.nextB (Bl.nextB (u16.below (Bl.nextB hB hBw n15.below) (Nat.le_trans hBw g15)) hBw hb17) hBw (below_drew W17)) (Nat.le_trans hBw g2)
       have hO := (Only.upd_new (((Only.upd_new (((((((show Only [129] w _ from (Only.of_below n1.below)).trans (Only.of_below n2.below)).trans (Only.of_upd u3 kW'1 (by decide))).trans (Only.of_below hb4)).trans (Only.of_below (below_drew W4))).trans (Only.of_below hb11)).trans (Only.of_below n15.below)) u16 g15).trans (Only.of_below hb17)).trans (Only.of_below (below_drew W17))) u30 g2)
       have k3'11 := u30.blkT k3'8 k2'6 (by decide)
       have hk'2 := u30.own2 (own_below (own_below hk'1 hb17) (below_drew W17)) k2'6 (by decide)
       have hv_'1 := u30.own2 (own_below (own_below (u16.own2 (own_below (own_mono hv_ hs11) n15.below) n15.blk (by decide)) hb17) (below_drew W17)) k2'6 (by decide)
       exact xec 4 k30 (.tuple #[.agg #[.int .i64 (nodT (inB l no)), .bool (nodL (inB l no)), .slice kp (nodC (inB l no)) kc, .slice vp (nodC (inB l no)) vc], .nilIface]) ⟨hB'6, hO, k3'11, .inr ⟨by (unfold lookE; (repeat' split) <;> first | rfl | assumption | decide | omega | exact absurd (Eq.trans (Eq.symm ‹hasI _ _ = true›) ‹hasI _ _ = false›) (by decide) | (rename_i q; exact absurd ⟨by assumption, by assumption, by assumption⟩ q) | (rename_i q; obtain ⟨q1, q2, q3⟩ := q; exact absurd (Eq.trans (Eq.symm q1) ‹nodL _ = false›) (by decide)) | (rename_i q; obtain ⟨q1, q2, q3⟩ := q; omega)), by assumption, _, _, _, _, rfl, hk'2, hv_'1⟩⟩
     have hc24 := eq_of_bne_false hc24
     refine xlv (.r [11, 12, 13, 14, 15, 16, 17, 18, 19, 20, 21, 22, 23, 24] 8) k16'3.rp ?_
     have k2'7 := ((u16.blk (k2.below n15.below) (Ne.symm (Ne.symm d15_b2))).below hb17).below (below_drew W17)
     refine xsv 0 k2'7 [.int .i64 (nodT (inB l no)), .bool (nodL (inB l no)), .slice kp (nodC (inB l no)) kc, .slice vp (nodC (inB l no)) vc] fun W31 u31 k31 => ?_
     have g2 := n2.ge0 (Bl.nextB (Below.refl B w) hBw n1.below)
     have hB'7 := u31.below (Bl.nextB (Bl.nextB (u16.below (Bl.nextB hB hBw n15.below) (Nat.le_trans hBw g15)) hBw hb17) hBw (below_drew W17)) (Nat.le_trans hBw g2)
     have hO := (Only.upd_new (((Only.upd_new (((((((show Only [129] w _ from (Only.of_below n1.below)).trans (Only.of_below n2.below)).trans (Only.of_upd u3 kW'1 (by decide))).trans (Only.of_below hb4)).trans (Only.of_below (below_drew W4))).trans (Only.of_below hb11)).trans (Only.of_below n15.below)) u16 g15).trans (Only.of_below hb17)).trans (Only.of_below (below_drew W17))) u31 g2)
     have k3'12 := u31.blkT k3'8 k2'7 (by decide)
     have hk'3 := u31.own2 (own_below (own_below hk'1 hb17) (below_drew W17)) k2'7 (by decide)
     have hv_'2 := u31.own2 (own_below (own_below (u16.own2 (own_below (own_mono hv_ hs11) n15.below) n15.blk (by decide)) hb17) (below_drew W17)) k2'7 (by decide)
     exact xec 4 k31 (.tuple #[.agg #[.int .i64 (nodT (inB l no)), .bool (nodL (inB l no)), .slice kp (nodC (inB l no)) kc, .slice vp (nodC (inB l no)) vc], .nilIface]) ⟨hB'7, hO, k3'12, .inr ⟨by (unfold lookE; (repeat' split) <;> first | rfl | assumption | decide | omega | exact absurd (Eq.trans (Eq.symm ‹hasI _ _ = true›) ‹hasI _ _ = false›) (by decide) | (rename_i q; exact absurd ⟨by assumption, by assumption, by assumption⟩ q) | (rename_i q; obtain ⟨q1, q2, q3⟩ := q; exact absurd (Eq.trans (Eq.symm q1) ‹nodL _ = false›) (by decide)) | (rename_i q; obtain ⟨q1, q2, q3⟩ := q; omega)), by assumption, _, _, _, _, rfl, hk'3, hv_'2⟩⟩
   refine xlv (.r [3, 4, 5, 6, 7, 8, 9, 10, 11, 12, 13, 14, 15, 16, 17, 18, 19, 20, 21, 22, 23, 24] 8) k16'3.rp ?_
   have k2'8 := ((u16.blk (k2.below n15.below) (Ne.symm (Ne.symm d15_b2))).below hb17).below (below_drew W17)
   refine xsv 0 k2'8 [.int .i64 (nodT (inB l no)), .bool (nodL (inB l no)), .slice kp (nodC (inB l no)) kc, .slice vp (nodC (inB l no)) vc] fun W32 u32 k32 => ?_
   have g2 := n2.ge0 (Bl.nextB (Below.refl B w) hBw n1.below)
   have hB'8 := u32.below (Bl.nextB (Bl.nextB (u16.below (Bl.nextB hB hBw n15.below) (Nat.le_trans hBw g15)) hBw hb17) hBw (below_drew W17)) (Nat.le_trans hBw g2)
   have hO := (Only.upd_new (((Only.upd_new (((((((show Only [129] w _ from (Only.of_below n1.below)).trans (Only.of_below n2.below)).trans (Only.of_upd u3 kW'1 (by decide))).trans (Only.of_below hb4)).trans (Only.of_below (below_drew W4))).trans (Only.of_below hb11)).trans (Only.of_below n15.below)) u16 g15).trans (Only.of_below hb17)).trans (Only.of_below (below_drew W17))) u32 g2)
   have k3'13 := u32.blkT (((u16.blkT ((k3'4.below hb11).below n15.below) n15.blk (by decide)).below hb17).below (below_drew W17)) k2'8 (by decide)
   have hk'4 := u32.own2 (own_below (own_below hk'1 hb17) (below_drew W17)) k2'8 (by decide)
   have hv_'3 := u32.own2 (own_below (own_below (u16.own2 (own_below (own_mono hv_ hs11) n15.below) n15.blk (by decide)) hb17) (below_drew W17)) k2'8 (by decide)
   exact xec 4 k32 (.tuple #[.agg #[.int .i64 (nodT (inB l no)), .bool (nodL (inB l no)), .slice kp (nodC (inB l no)) kc, .slice vp (nodC (inB l no)) vc], .nilIface]) ⟨hB'8, hO, k3'13, .inr ⟨by (unfold lookE; (repeat' split) <;> first | rfl | assumption | decide | omega | exact absurd (Eq.trans (Eq.symm ‹hasI _ _ = true›) ‹hasI _ _ = false›) (by decide) | (rename_i q; exact absurd ⟨by assumption, by assumption, by assumption⟩ q) | (rename_i q; obtain ⟨q1, q2, q3⟩ := q; exact absurd (Eq.trans (Eq.symm q1) ‹nodL _ = false›) (by decide)) | (rename_i q; obtain ⟨q1, q2, q3⟩ := q; omega)), by assumption, _, _, _, _, rfl, hk'4, hv_'3⟩⟩
 refine xa 0 [.int .i64 0, .bool false, .slice none 0 0, .slice none 0 0] 125 fun b33 W33 n33 => ?_
 have k2 := ((u3.blkT n2.blk kW'1 (by decide)).below hb4).below (below_drew W4)
 have d33_b2 := n33.ne k2
 have hB := Bl.nextB (Bl.nextB (u3.below (Bl.nextB (Bl.nextB (Below.refl B w) hBw n1.below) hBw n2.below) hBb) hBw hb4) hBw (below_drew W4)
 have g33 := n33.ge0 hB
 have hI'2 := (((((hI.below n1.below).below n2.below).only (Only.of_upd (T := [129]) u3 kW'1 (by decide)) (by decide)).below hb4).below (below_drew W4)).below n33.below
 refine yc (.o [] 9) (args := #[.pointer (some ⟨b, 0, none⟩), .int .i64 no, .int .i64 tree]) (.t B [125]) (block_Node Bi b p n c l no tree _ hI'2) ?_
 rintro e W34 hq34
 rcases hq34 with ⟨he, bf, rfl, hb34, hv⟩ | ⟨he, kp, kc, vp, vc, rfl, hb34, hk, hv_⟩
 · refine ⟨(SF.of_below _ hb34), ?_⟩
   have k33 := n33.blk.below hb34
   refine ysv (.o [10, 11, 12] 14) k33 [.int .i64 0, .bool false, .slice none 0 0, .slice none 0 0] (.t B [125]) fun W35 u35 k35 => ⟨(sft_upd u35 k33 (Nat.le_trans hBw g33) (by decide)), ?_⟩
   refine xlv (.r [15] 14) k35.rp ?_
   have k2'9 := u35.blk ((k2.below n33.below).below hb34) (Ne.symm (Ne.symm d33_b2))
   refine xsv 1 k2'9 [.int .i64 0, .bool false, .slice none 0 0, .slice none 0 0] fun W36 u36 k36 => ?_
   have g2 := n2.ge0 (Bl.nextB (Below.refl B w) hBw n1.below)
   have hB'9 := u36.below (u35.below (Bl.nextB (Bl.nextB hB hBw n33.below) hBw hb34) (Nat.le_trans hBw g33)) (Nat.le_trans hBw g2)
   have hO := (Only.upd_new (Only.upd_new (((((((show Only [129] w _ from (Only.of_below n1.below)).trans (Only.of_below n2.below)).trans (Only.of_upd u3 kW'1 (by decide))).trans (Only.of_below hb4)).trans (Only.of_below (below_drew W4))).trans (Only.of_below n33.below)).trans (Only.of_below hb34)) u35 g33) u36 g2)
   have k3'14 := u36.blkT (u35.blkT ((k3'4.below n33.below).below hb34) k33 (by decide)) k2'9 (by decide)
   have hv'2 := (hv.upd u35 k33 (by decide)).upd u36 k2'9 (by decide)
   exact xec 6 k36 (.tuple #[.agg #[.int .i64 0, .bool false, .slice none 0 0, .slice none 0 0], .iface 103 (.pointer (some ⟨bf, 0, none⟩))]) ⟨hB'9, hO, k3'14, .inl ⟨by (unfold lookE; (repeat' split) <;> first | rfl | assumption | decide | omega | exact absurd (Eq.trans (Eq.symm ‹hasI _ _ = true›) ‹hasI _ _ = false›) (by decide) | (rename_i q; exact absurd ⟨by assumption, by assumption, by assumption⟩ q) | (rename_i q; obtain ⟨q1, q2, q3⟩ := q; exact absurd (Eq.trans (Eq.symm q1) ‹nodL _ = false›) (by decide)) | (rename_i q; obtain ⟨q1, q2, q3⟩ := q; omega)), _, _, _, _, _, _, _, _, _, _, rfl, by (unfold lookE; (repeat' split) <;> first | exact hv'2 | (exfalso; omega) | contradiction | exact absurd (Eq.trans (Eq.symm ‹hasI _ _ = true›) ‹hasI _ _ = false›) (by decide) | (rename_i q; exact absurd ⟨by assumption, by assumption, by assumption⟩ q) | (rename_i q; obtain ⟨q1, q2, q3⟩ := q; exact absurd (Eq.trans (Eq.symm q1) ‹nodL _ = false›) (by decide)) | (rename_i q; obtain ⟨q1, q2, q3⟩ := q; omega))⟩⟩
 have hs34 := (Bl.nextB hB hBw n33.below).size
 refine ⟨(SF.of_below _ hb34), ?_⟩
 have k33 := n33.blk.below hb34
 refine ysv (.o [10, 11, 12] 14) k33 [.int .i64 (nodT (inB l no)), .bool (nodL (inB l no)), .slice kp (nodC (inB l no)) kc, .slice vp (nodC (inB l no)) vc] (.t B [125]) fun W37 u37 k37 => ⟨(sft_upd u37 k33 (Nat.le_trans hBw g33) (by decide)), ?_⟩
 have k1 := u37.blkT (((((u3.blkT (n1.blk.below n2.below) kW'1 (by decide)).below hb4).below (below_drew W4)).below n33.below).below hb34) k33 (by decide)
 refine xlv (.r [15] 14) k1.rp ?_
 refine xb 1 2 k37 ?_
 have hk'5 := u37.own2 (own_mono hk hs34) k33 (by decide)
 refine xr 0 (args := #[.agg #[.int .i64 lo, .int .i64 hi], .slice kp (nodC (inB l no)) kc]) (span_fits lo hi _ (keysI (inB l no) (nodC (inB l no))) _ (intsN_of (own_sl hk'5) (keysI_len _ _))) fun W38 hb38 => ?_
 refine xin 4 (fitsI lo hi (keysI (inB l no) (nodC (inB l no)))) (0 : Int) (fun hc39 => ?_) (fun hc39 => ?_)
 · refine xd 1 (.t B [125]) ?_
   refine xm2 (.b [1, 2]) 0 3 ?_ ?_
   · have k37'1 := (k37.below hb38).below (below_drew W38)
     refine xlv 0 k37'1.rp ?_
     refine yc (.o [] 3) (args := #[.int .i64 no, .iface 26 (.int .i64 9)]) (.t B [125]) (fault_At no (some 9) [] _ _ rfl) ?_
     rintro _ W40 ⟨r40, rfl, hb40, hv40⟩
     refine ⟨(SF.of_below _ hb40), ?_⟩
     rw [atL_some] at hv40
     obtain ⟨t40, x40, rfl⟩ := hv40.iface
     have k2'10 := (((u37.blk ((k2.below n33.below).below hb34) (Ne.symm (Ne.symm d33_b2))).below hb38).below (below_drew W38)).below hb40
     have g2 := n2.ge0 (Bl.nextB (Below.refl B w) hBw n1.below)
     refine ysv (.o [] 4) k2'10 [.int .i64 (nodT (inB l no)), .bool (nodL (inB l no)), .slice kp (nodC (inB l no)) kc, .slice vp (nodC (inB l no)) vc] (.t B [125]) fun W41 u41 k41 => ⟨(sft_upd u41 k2'10 (Nat.le_trans hBw g2) (by decide)), ?_⟩
     have hB'10 := u41.below (Bl.nextB (Bl.nextB (Bl.nextB (u37.below (Bl.nextB (Bl.nextB hB hBw n33.below) hBw hb34) (Nat.le_trans hBw g33)) hBw hb38) hBw (below_drew W38)) hBw hb40) (Nat.le_trans hBw g2)
     have hO := (Only.upd_new ((((Only.upd_new (((((((show Only [129] w _ from (Only.of_below n1.below)).trans (Only.of_below n2.below)).trans (Only.of_upd u3 kW'1 (by decide))).trans (Only.of_below hb4)).trans (Only.of_below (below_drew W4))).trans (Only.of_below n33.below)).trans (Only.of_below hb34)) u37 g33).trans (Only.of_below hb38)).trans (Only.of_below (below_drew W38))).trans (Only.of_below hb40)) u41 g2)
     have k3'15 := u41.blkT ((((u37.blkT ((k3'4.below n33.below).below hb34) k33 (by decide)).below hb38).below (below_drew W38)).below hb40) k2'10 (by decide)
     have hv40'1 := hv40.upd u41 k2'10 (by decide)
     exact xec (.r [5] 5) k41 (.tuple #[.agg #[.int .i64 (nodT (inB l no)), .bool (nodL (inB l no)), .slice kp (nodC (inB l no)) kc, .slice vp (nodC (inB l no)) vc], .iface t40 (x40)]) ⟨hB'10, hO, k3'15, .inl ⟨by (unfold lookE; (repeat' split) <;> first | rfl | assumption | decide | omega | exact absurd (Eq.trans (Eq.symm ‹hasI _ _ = true›) ‹hasI _ _ = false›) (by decide) | (rename_i q; exact absurd ⟨by assumption, by assumption, by assumption⟩ q) | (rename_i q; obtain ⟨q1, q2, q3⟩ := q; exact absurd (Eq.trans (Eq.symm q1) ‹nodL _ = false›) (by decide)) | (rename_i q; obtain ⟨q1, q2, q3⟩ := q; omega)), _, _, _, _, _, _, _, _, _, _, rfl, by (unfold lookE; (repeat' split) <;> first | exact hv40'1 | (exfalso; omega) | contradiction | exact absurd (Eq.trans (Eq.symm ‹hasI _ _ = true›) ‹hasI _ _ = false›) (by decide) | (rename_i q; exact absurd ⟨by assumption, by assumption, by assumption⟩ q) | (rename_i q; obtain ⟨q1, q2, q3⟩ := q; exact absurd (Eq.trans (Eq.symm q1) ‹nodL _ = false›) (by decide)) | (rename_i q; obtain ⟨q1, q2, q3⟩ := q; omega))⟩⟩
   refine yc 0 (args := #[.int .i64 no, .iface 26 (.int .i64 9)]) (.t B [125]) (fault_At no (some 9) [] _ _ rfl) ?_
   rintro _ W42 ⟨r42, rfl, hb42, hv42⟩
   refine ⟨(SF.of_below _ hb42), ?_⟩
   rw [atL_some] at hv42
   obtain ⟨t42, x42, rfl⟩ := hv42.iface
   have k37'2 := ((k37.below hb38).below (below_drew W38)).below hb42
   refine xlv (.o [] 0) k37'2.rp ?_
   have k2'11 := (((u37.blk ((k2.below n33.below).below hb34) (Ne.symm (Ne.symm d33_b2))).below hb38).below (below_drew W38)).below hb42
   have g2 := n2.ge0 (Bl.nextB (Below.refl B w) hBw n1.below)
   refine ysv (.o [] 4) k2'11 [.int .i64 (nodT (inB l no)), .bool (nodL (inB l no)), .slice kp (nodC (inB l no)) kc, .slice vp (nodC (inB l no)) vc] (.t B [125]) fun W43 u43 k43 => ⟨(sft_upd u43 k2'11 (Nat.le_trans hBw g2) (by decide)), ?_⟩
   have hB'11 := u43.below (Bl.nextB (Bl.nextB (Bl.nextB (u37.below (Bl.nextB (Bl.nextB hB hBw n33.below) hBw hb34) (Nat.le_trans hBw g33)) hBw hb38) hBw (below_drew W38)) hBw hb42) (Nat.le_trans hBw g2)
   have hO := (Only.upd_new ((((Only.upd_new (((((((show Only [129] w _ from (Only.of_below n1.below)).trans (Only.of_below n2.below)).trans (Only.of_upd u3 kW'1 (by decide))).trans (Only.of_below hb4)).trans (Only.of_below (below_drew W4))).trans (Only.of_below n33.below)).trans (Only.of_below hb34)) u37 g33).trans (Only.of_below hb38)).trans (Only.of_below (below_drew W38))).trans (Only.of_below hb42)) u43 g2)
   have k3'16 := u43.blkT ((((u37.blkT ((k3'4.below n33.below).below hb34) k33 (by decide)).below hb38).below (below_drew W38)).below hb42) k2'11 (by decide)
   have hv42'1 := hv42.upd u43 k2'11 (by decide)
   exact xec (.r [5] 5) k43 (.tuple #[.agg #[.int .i64 (nodT (inB l no)), .bool (nodL (inB l no)), .slice kp (nodC (inB l no)) kc, .slice vp (nodC (inB l no)) vc], .iface t42 (x42)]) ⟨hB'11, hO, k3'16, .inl ⟨by (unfold lookE; (repeat' split) <;> first | rfl | assumption | decide | omega | exact absurd (Eq.trans (Eq.symm ‹hasI _ _ = true›) ‹hasI _ _ = false›) (by decide) | (rename_i q; exact absurd ⟨by assumption, by assumption, by assumption⟩ q) | (rename_i q; obtain ⟨q1, q2, q3⟩ := q; exact absurd (Eq.trans (Eq.symm q1) ‹nodL _ = false›) (by decide)) | (rename_i q; obtain ⟨q1, q2, q3⟩ := q; omega)), _, _, _, _, _, _, _, _, _, _, rfl, by (unfold lookE; (repeat' split) <;> first | exact hv42'1 | (exfalso; omega) | contradiction | exact absurd (Eq.trans (Eq.symm ‹hasI _ _ = true›) ‹hasI _ _ = false›) (by decide) | (rename_i q; exact absurd ⟨by assumption, by assumption, by assumption⟩ q) | (rename_i q; obtain ⟨q1, q2, q3⟩ := q; exact absurd (Eq.trans (Eq.symm q1) ‹nodL _ = false›) (by decide)) | (rename_i q; obtain ⟨q1, q2, q3⟩ := q; omega))⟩⟩
 refine xd 1 .z ?_
 have k37'3 := (k37.below hb38).below (below_drew W38)
 refine xb (.e [0] 1) 1 k37'3 ?_
 refine xg (.b [2]) [69, 70] (nodL (inB l no)) (fun hc44 => ?_) (fun hc44 => ?_)
 · have k3'17 := ((u37.blkT ((k3'4.below n33.below).below hb34) k33 (by decide)).below hb38).below (below_drew W38)
   refine xb (.e [3, 4, 5, 6] 7) 2 k3'17 ?_
   refine xg (.b [8, 9, 10]) [76, 77, 78] (deep != (0 : Int)) (fun hc45 => ?_) (fun hc45 => ?_)
   · have hc45 := ne_of_bne hc45
     refine xb (.e [11, 12, 13, 14] 15) 2 k3'17 ?_
     refine xb (.e [16, 17, 18] 19) 8 k3'17 ?_
     refine xwm (.e [20] 21) ((↑way.length : Int) + 1) (↑(way.length + 1) : Int) ?_
     refine xin (.r [22, 23, 24] 2) deep (↑(way.length + 1) : Int) (fun hc46 => ?_) (fun hc46 => ?_)
     · refine xd 1 (.t B [125]) ?_
       refine xm2 (.b [1, 2]) 0 3 ?_ ?_
       · have k37'4 := k37'3.below (below_drew W38.drew)
         refine xlv 0 k37'4.rp ?_
         refine yc (.o [] 3) (args := #[.int .i64 no, .iface 26 (.int .i64 10)]) (.t B [125]) (fault_At no (some 10) [] _ _ rfl) ?_
         rintro _ W47 ⟨r47, rfl, hb47, hv47⟩
         refine ⟨(SF.of_below _ hb47), ?_⟩
         rw [atL_some] at hv47
         obtain ⟨t47, x47, rfl⟩ := hv47.iface
         have k2'12 := ((((u37.blk ((k2.below n33.below).below hb34) (Ne.symm (Ne.symm d33_b2))).below hb38).below (below_drew W38)).below (below_drew W38.drew)).below hb47
         have g2 := n2.ge0 (Bl.nextB (Below.refl B w) hBw n1.below)
         refine ysv (.o [] 4) k2'12 [.int .i64 (nodT (inB l no)), .bool (nodL (inB l no)), .slice kp (nodC (inB l no)) kc, .slice vp (nodC (inB l no)) vc] (.t B [125]) fun W48 u48 k48 => ⟨(sft_upd u48 k2'12 (Nat.le_trans hBw g2) (by decide)), ?_⟩
         have hB'12 := u48.below (Bl.nextB (Bl.nextB (Bl.nextB (Bl.nextB (u37.below (Bl.nextB (Bl.nextB hB hBw n33.below) hBw hb34) (Nat.le_trans hBw g33)) hBw hb38) hBw (below_drew W38)) hBw (below_drew W38.drew)) hBw hb47) (Nat.le_trans hBw g2)
         have hO := (Only.upd_new (((((Only.upd_new (((((((show Only [129] w _ from (Only.of_below n1.below)).trans (Only.of_below n2.below)).trans (Only.of_upd u3 kW'1 (by decide))).trans (Only.of_below hb4)).trans (Only.of_below (below_drew W4))).trans (Only.of_below n33.below)).trans (Only.of_below hb34)) u37 g33).trans (Only.of_below hb38)).trans (Only.of_below (below_drew W38))).trans (Only.of_below (below_drew W38.drew))).trans (Only.of_below hb47)) u48 g2)
         have k3'18 := u48.blkT ((k3'17.below (below_drew W38.drew)).below hb47) k2'12 (by decide)
         have hv47'1 := hv47.upd u48 k2'12 (by decide)
         exact xec (.r [5] 5) k48 (.tuple #[.agg #[.int .i64 (nodT (inB l no)), .bool (nodL (inB l no)), .slice kp (nodC (inB l no)) kc, .slice vp (nodC (inB l no)) vc], .iface t47 (x47)]) ⟨hB'12, hO, k3'18, .inl ⟨by (unfold lookE; (repeat' split) <;> first | rfl | assumption | decide | omega | exact absurd (Eq.trans (Eq.symm ‹hasI _ _ = true›) ‹hasI _ _ = false›) (by decide) | (rename_i q; exact absurd ⟨by assumption, by assumption, by assumption⟩ q) | (rename_i q; obtain ⟨q1, q2, q3⟩ := q; exact absurd (Eq.trans (Eq.symm q1) ‹nodL _ = false›) (by decide)) | (rename_i q; obtain ⟨q1, q2, q3⟩ := q; omega)), _, _, _, _, _, _, _, _, _, _, rfl, by (unfold lookE; (repeat' split) <;> first | exact hv47'1 | (exfalso; omega) | contradiction | exact absurd (Eq.trans (Eq.symm ‹hasI _ _ = true›) ‹hasI _ _ = false›) (by decide) | (rename_i q; exact absurd ⟨by assumption, by assumption, by assumption⟩ q) | (rename_i q; obtain ⟨q1, q2, q3⟩ := q; exact absurd (Eq.trans (Eq.symm q1) ‹nodL _ = false›) (by decide)) | (rename_i q; obtain ⟨q1, q2, q3⟩ := q; omega))⟩⟩
       refine yc 0 (args := #[.int .i64 no, .iface 26 (.int .i64 10)]) (.t B [125]) (fault_At no (some 10) [] _ _ rfl) ?_
       rintro _ W49 ⟨r49, rfl, hb49, hv49⟩
       refine ⟨(SF.of_below _ hb49), ?_⟩
       rw [atL_some] at hv49
       obtain ⟨t49, x49, rfl⟩ := hv49.iface
       have k37'5 := (k37'3.below (below_drew W38.drew)).below hb49
       refine xlv (.o [] 0) k37'5.rp ?_
       have k2'13 := ((((u37.blk ((k2.below n33.below).below hb34) (Ne.symm (Ne.symm d33_b2))).below hb38).below (below_drew W38)).below (below_drew W38.drew)).below hb49
       have g2 := n2.ge0 (Bl.nextB (Below.refl B w) hBw n1.below)
       refine ysv (.o [] 4) k2'13 [.int .i64 (nodT (inB l no)), .bool (nodL (inB l no)), .slice kp (nodC (inB l no)) kc, .slice vp (nodC (inB l no)) vc] (.t B [125]) fun W50 u50 k50 => ⟨(sft_upd u50 k2'13 (Nat.le_trans hBw g2) (by decide)), ?_⟩
       have hB'13 := u50.below (Bl.nextB (Bl.nextB (Bl.nextB (Bl.nextB (u37.below (Bl.nextB (Bl.nextB hB hBw n33.below) hBw hb34) (Nat.le_trans hBw g33)) hBw hb38) hBw (below_drew W38)) hBw (below_drew W38.drew)) hBw hb49) (Nat.le_trans hBw g2)
       have hO := (Only.upd_new (((((Only.upd_new (((((((show Only [129] w _ from (Only.of_below n1.below)).trans (Only.of_below n2.below)).trans (Only.of_upd u3 kW'1 (by decide))).trans (Only.of_below hb4)).trans (Only.of_below (below_drew W4))).trans (Only.of_below n33.below)).trans (Only.of_below hb34)) u37 g33).trans (Only.of_below hb38)).trans (Only.of_below (below_drew W38))).trans (Only.of_below (below_drew W38.drew))).trans (Only.of_below hb49)) u50 g2)
       have k3'19 := u50.blkT ((k3'17.below (below_drew W38.drew)).below hb49) k2'13 (by decide)
       have hv49'1 := hv49.upd u50 k2'13 (by decide)
       exact xec (.r [5] 5) k50 (.tuple #[.agg #[.int .i64 (nodT (inB l no)), .bool (nodL (inB l no)), .slice kp (nodC (inB l no)) kc, .slice vp (nodC (inB l no)) vc], .iface t49 (x49)]) ⟨hB'13, hO, k3'19, .inl ⟨by (unfold lookE; (repeat' split) <;> first | rfl | assumption | decide | omega | exact absurd (Eq.trans (Eq.symm ‹hasI _ _ = true›) ‹hasI _ _ = false›) (by decide) | (rename_i q; exact absurd ⟨by assumption, by assumption, by assumption⟩ q) | (rename_i q; obtain ⟨q1, q2, q3⟩ := q; exact absurd (Eq.trans (Eq.symm q1) ‹nodL _ = false›) (by decide)) | (rename_i q; obtain ⟨q1, q2, q3⟩ := q; omega)), _, _, _, _, _, _, _, _, _, _, rfl, by (unfold lookE; (repeat' split) <;> first | exact hv49'1 | (exfalso; omega) | contradiction | exact absurd (Eq.trans (Eq.symm ‹hasI _ _ = true›) ‹hasI _ _ = false›) (by decide) | (rename_i q; exact absurd ⟨by assumption, by assumption, by assumption⟩ q) | (rename_i q; obtain ⟨q1, q2, q3⟩ := q; exact absurd (Eq.trans (Eq.symm q1) ‹nodL _ = false›) (by decide)) | (rename_i q; obtain ⟨q1, q2, q3⟩ := q; omega))⟩⟩
     refine xlv 5 k37'3.rp ?_
     have k2'14 := ((u37.blk ((k2.below n33.below).below hb34) (Ne.symm (Ne.symm d33_b2))).below hb38).below (below_drew W38)
     refine xsv 0 k2'14 [.int .i64 (nodT (inB l no)), .bool (nodL (inB l no)), .slice kp (nodC (inB l no)) kc, .slice vp (nodC (inB l no)) vc] fun W51 u51 k51 => ?_
     have g2 := n2.ge0 (Bl.nextB (Below.refl B w) hBw n1.below)
     have hB'14 := u51.below (Bl.nextB (Bl.nextB (u37.below (Bl.nextB (Bl.nextB hB hBw n33.below) hBw hb34) (Nat.le_trans hBw g33)) hBw hb38) hBw (below_drew W38)) (Nat.le_trans hBw g2)
     have hO := (Only.upd_new (((Only.upd_new (((((((show Only [129] w _ from (Only.of_below n1.below)).trans (Only.of_below n2.below)).trans (Only.of_upd u3 kW'1 (by decide))).trans (Only.of_below hb4)).trans (Only.of_below (below_drew W4))).trans (Only.of_below n33.below)).trans (Only.of_below hb34)) u37 g33).trans (Only.of_below hb38)).trans (Only.of_below (below_drew W38))) u51 g2)
     have k3'20 := u51.blkT k3'17 k2'14 (by decide)
     have hk'6 := u51.own2 (own_below (own_below hk'5 hb38) (below_drew W38)) k2'14 (by decide)
     have hv_'4 := u51.own2 (own_below (own_below (u37.own2 (own_mono hv_ hs34) k33 (by decide)) hb38) (below_drew W38)) k2'14 (by decide)
     exact xec 4 k51 (.tuple #[.agg #[.int .i64 (nodT (inB l no)), .bool (nodL (inB l no)), .slice kp (nodC (inB l no)) kc, .slice vp (nodC (inB l no)) vc], .nilIface]) ⟨hB'14, hO, k3'20, .inr ⟨by (unfold lookE; (repeat' split) <;> first | rfl | assumption | decide | omega | exact absurd (Eq.trans (Eq.symm ‹hasI _ _ = true›) ‹hasI _ _ = false›) (by decide) | (rename_i q; exact absurd ⟨by assumption, by assumption, by assumption⟩ q) | (rename_i q; obtain ⟨q1, q2, q3⟩ := q; exact absurd (Eq.trans (Eq.symm q1) ‹nodL _ = false›) (by decide)) | (rename_i q; obtain ⟨q1, q2, q3⟩ := q; omega)), by assumption, _, _, _, _, rfl, hk'6, hv_'4⟩⟩
   have hc45 := eq_of_bne_false hc45
   refine xlv (.r [11, 12, 13, 14, 15, 16, 17, 18, 19, 20, 21, 22, 23, 24] 8) k37'3.rp ?_
   have k2'15 := ((u37.blk ((k2.below n33.below).below hb34) (Ne.symm (Ne.symm d33_b2))).below hb38).below (below_drew W38)
   refine xsv 0 k2'15 [.int .i64 (nodT (inB l no)), .bool (nodL (inB l no)), .slice kp (nodC (inB l no)) kc, .slice vp (nodC (inB l no)) vc] fun W52 u52 k52 => ?_
   have g2 := n2.ge0 (Bl.nextB (Below.refl B w) hBw n1.below)
   have hB'15 := u52.below (Bl.nextB (Bl.nextB (u37.below (Bl.nextB (Bl.nextB hB hBw n33.below) hBw hb34) (Nat.le_trans hBw g33)) hBw hb38) hBw (below_drew W38)) (Nat.le_trans hBw g2)
   have hO := (Only.upd_new (((Only.upd_new (((((((show Only [129] w _ from (Only.of_below n1.below)).trans (Only.of_below n2.below)).trans (Only.of_upd u3 kW'1 (by decide))).trans (Only.of_below hb4)).trans (Only.of_below (below_drew W4))).trans (Only.of_below n33.below)).trans (Only.of_below hb34)) u37 g33).trans (Only.of_below hb38)).trans (Only.of_below (below_drew W38))) u52 g2)
   have k3'21 := u52.blkT k3'17 k2'15 (by decide)
   have hk'7 := u52.own2 (own_below (own_below hk'5 hb38) (below_drew W38)) k2'15 (by decide)
   have hv_'5 := u52.own2 (own_below (own_below (u37.own2 (own_mono hv_ hs34) k33 (by decide)) hb38) (below_drew W38)) k2'15 (by decide)
   exact xec 4 k52 (.tuple #[.agg #[.int .i64 (nodT (inB l no)), .bool (nodL (inB l no)), .slice kp (nodC (inB l no)) kc, .slice vp (nodC (inB l no)) vc], .nilIface]) ⟨hB'15, hO, k3'21, .inr ⟨by (unfold lookE; (repeat' split) <;> first | rfl | assumption | decide | omega | exact absurd (Eq.trans (Eq.symm ‹hasI _ _ = true›) ‹hasI _ _ = false›) (by decide) | (rename_i q; exact absurd ⟨by assumption, by assumption, by assumption⟩ q) | (rename_i q; obtain ⟨q1, q2, q3⟩ := q; exact absurd (Eq.trans (Eq.symm q1) ‹nodL _ = false›) (by decide)) | (rename_i q; obtain ⟨q1, q2, q3⟩ := q; omega)), by assumption, _, _, _, _, rfl, hk'7, hv_'5⟩⟩
 refine xlv (.r [3, 4, 5, 6, 7, 8, 9, 10, 11, 12, 13, 14, 15, 16, 17, 18, 19, 20, 21, 22, 23, 24] 8) k37'3.rp ?_
 have k2'16 := ((u37.blk ((k2.below n33.below).below hb34) (Ne.symm (Ne.symm d33_b2))).below hb38).below (below_drew W38)
 refine xsv 0 k2'16 [.int .i64 (nodT (inB l no)), .bool (nodL (inB l no)), .slice kp (nodC (inB l no)) kc, .slice vp (nodC (inB l no)) vc] fun W53 u53 k53 => ?_
 have g2 := n2.ge0 (Bl.nextB (Below.refl B w) hBw n1.below)
 have hB'16 := u53.below (Bl.nextB (Bl.nextB (u37.below (Bl.nextB (Bl.nextB hB hBw n33.below) hBw hb34) (Nat.le_trans hBw g33)) hBw hb38) hBw (below_drew W38)) (Nat.le_trans hBw g2)
 have hO := (Only.upd_new (((Only.upd_new (((((((show Only [129] w _ from (Only.of_below n1.below)).trans (Only.of_below n2.below)).trans (Only.of_upd u3 kW'1 (by decide))).trans (Only.of_below hb4)).trans (Only.of_below (below_drew W4))).trans (Only.of_below n33.below)).trans (Only.of_below hb34)) u37 g33).trans (Only.of_below hb38)).trans (Only.of_below (below_drew W38))) u53 g2)
 have k3'22 := u53.blkT (((u37.blkT ((k3'4.below n33.below).below hb34) k33 (by decide)).below hb38).below (below_drew W38)) k2'16 (by decide)
 have hk'8 := u53.own2 (own_below (own_below hk'5 hb38) (below_drew W38)) k2'16 (by decide)
 have hv_'6 := u53.own2 (own_below (own_below (u37.own2 (own_mono hv_ hs34) k33 (by decide)) hb38) (below_drew W38)) k2'16 (by decide)
 exact xec 4 k53 (.tuple #[.agg #[.int .i64 (nodT (inB l no)), .bool (nodL (inB l no)), .slice kp (nodC (inB l no)) kc, .slice vp (nodC (inB l no)) vc], .nilIface]) ⟨hB'16, hO, k3'22, .inr ⟨by (unfold lookE; (repeat' split) <;> first | rfl | assumption | decide | omega | exact absurd (Eq.trans (Eq.symm ‹hasI _ _ = true›) ‹hasI _ _ = false›) (by decide) | (rename_i q; exact absurd ⟨by assumption, by assumption, by assumption⟩ q) | (rename_i q; obtain ⟨q1, q2, q3⟩ := q; exact absurd (Eq.trans (Eq.symm q1) ‹nodL _ = false›) (by decide)) | (rename_i q; obtain ⟨q1, q2, q3⟩ := q; omega)), by assumption, _, _, _, _, rfl, hk'8, hv_'6⟩⟩
end Go.Proofs.YthlakkdgcgkcdaaGreat
namespace Go.Proofs.YthlakkdgcgkcdaaGreat
open Go.RowKit Go.Extern.Stop Go.Stop Go.Extern
set_option linter.unusedVariables false
attribute [local irreducible] wpList wpAnyH Code.wp Oper.wp Go

/-- a leaf's first k entries -/
def leafL (K : List Int) (Vs : List (List UInt8)) (no : Int) (k : Nat) : List Ent := (List.range k).map fun j => (K.getD j 0, Vs.getD j [], no)
theorem leafL_len (K : List Int) (Vs : List (List UInt8)) (no : Int) (k : Nat) : (leafL K Vs no k).length = k := by simp [leafL]
theorem leafL_snoc (K : List Int) (Vs : List (List UInt8)) (no : Int) (k : Nat) : leafL K Vs no (k + 1) = leafL K Vs no k ++ [(K.getD k 0, Vs.getD k [], no)] := by simp [leafL, List.range_succ]
theorem leaf_row (es : List Ent) (K : List Int) (Vs : List (List UInt8)) (no : Int) (k : Nat) : (es ++ leafL K Vs no k).flatMap entC ++ [.int .i64 (K.getD k 0), .string ⟨(Vs.getD k []).toArray⟩, .int .i64 no] = (es ++ leafL K Vs no (k + 1)).flatMap entC := by
  rw [leafL_snoc, ← List.append_assoc, List.flatMap_append (xs := es ++ leafL K Vs no k)]
  rfl
def LeafP (B bw : Nat) (c1 c3 c4 c5 c6 c7 : Value) (pw : Option Addr) (cw : Nat) (way : List Int) (c9 : Value) (es : List Ent) (K : List Int) (Vs : List (List UInt8)) (no : Int) (n : Nat) (w : World) (e : Ending) (w' : World) : Prop :=
  ∃ u pe ce, e = .returned u ∧ Below B w w' ∧ Only [129, 45] w w' ∧ Blk w' bw [.slice pe (es.length + n) ce, c1, .int .i64 (↑(way.length + 1) : Int), c3, c4, c5, c6, c7, .slice pw way.length cw, c9] 129 ∧ w'.ownsRow B 45 3 (.slice pe (es.length + n) ce) (es.length + n) ((es ++ leafL K Vs no n).flatMap entC)
set_option maxRecDepth 100000 in
set_option maxHeartbeats 4000000 in
theorem walker_leaf (B bw : Nat) (c1 c2 c3 c4 c5 c6 c7 c9 : Value) (pe : Option Addr) (ce : Nat) (es : List Ent) (pw : Option Addr) (cw : Nat) (way : List Int) (no : Int) (nt : Int) (nl : Bool) (kp vp : Option Addr) (n kc vc : Nat) (K : List Int) (Vs : List (List UInt8)) (w : World) (hBb : B ≤ bw) (hBw : B ≤ w.heap.size) (kW : Blk w bw [.slice pe es.length ce, c1, c2, c3, c4, c5, c6, c7, .slice pw way.length cw, c9] 129) (hE : w.ownsRow B 45 3 (.slice pe es.length ce) es.length (es.flatMap entC)) (hKs : ∀ W, Below B w W → Only [129, 45] w W → Sl W (.slice kp n kc) n (K.map (Value.int .i64))) (hVs : ∀ W, Below B w W → Only [129, 45] w W → Sl W (.slice vp n vc) n (Vs.map sv)) (hKl : K.length = n) (hVl : Vs.length = n) (hwl : way.length ≤ 1000000) (hn : es.length + n ≤ 1000000) :
    Calls Tryz.prog 93 #[.pointer (some ⟨bw, 0, none⟩), .int .i64 no, .agg #[.int .i64 nt, .bool nl, .slice kp n kc, .slice vp n vc]] w (LeafP B bw c1 c3 c4 c5 c6 c7 pw cw way c9 es K Vs no n w) := by
 refine zin 46 Tryz.func93 ?_
 refine xa 2 [.int .i64 nt, .bool nl, .slice kp n kc, .slice vp n vc] 125 fun b1 W1 n1 => ?_
 have kW'1 := kW.below n1.below
 refine xb 8 8 kW'1 ?_
 refine xwm 1 ((↑way.length : Int) + 1) (↑(way.length + 1) : Int) ?_
 refine xs 3 kW'1 [.slice pe es.length ce, c1, .int .i64 (↑(way.length + 1) : Int), c3, c4, c5, c6, c7, .slice pw way.length cw, c9] fun W2 u2 k2 => ?_
 have k1 := u2.blkT n1.blk kW'1 (by decide)
 refine xb 5 2 k1 ?_
 have hE'1 := u2.own2 (own_below hE n1.below) kW'1 (by decide)
 have hB := u2.below (Bl.nextB (Below.refl B w) hBw n1.below) hBb
 have hO := (show Only [129, 45] w _ from (Only.of_below n1.below)).trans (Only.of_upd u2 kW'1 (by decide))
 refine zl 5 46 (fun zm zkv V => ∃ (i : Nat) (pe : Option Addr) (ce : Nat), zkv = [(0, .pointer (some ⟨bw, 0, none⟩)), (1, .int .i64 no), (5, .pointer (some ⟨b1, 0, none⟩)), (19, .slice kp n kc), (20, .int .i64 (↑n : Int)), (21, .int .i64 (↑i : Int))] ∧ zm = n - ((↑i : Int)).toNat ∧ Below B w V ∧ Only [129, 45] w V ∧ Blk V bw ([.slice pe (es.length + i) ce, c1, .int .i64 (↑(way.length + 1) : Int), c3, c4, c5, c6, c7, .slice pw way.length cw, c9]) 129 ∧ Blk V b1 ([.int .i64 nt, .bool nl, .slice kp n kc, .slice vp n vc]) 125 ∧ V.ownsRow B 45 3 (.slice pe (es.length + i) ce) (es.length + i) ((es ++ leafL K Vs no i).flatMap entC) ∧ i ≤ n) ⟨0, _, _, rfl, rfl, hB, hO, k2, k1, (by simpa [leafL] using hE'1), Nat.zero_le _⟩ ?_
 rintro _ _ W3 ⟨i, pe, ce, rfl, rfl, hB_3, hO_3, k3_bw, k3_b1, hE, hi⟩ J3 hJ3 r3
 refine xid 6 ((↑i : Int) < (↑n : Int)) (fun hc4 => ?_) (fun hc4 => ?_)
 · refine xx 7 _ n i 1 (IntsN.elem (hKs _ hB_3 hO_3) hKl (k := i) (by omega)).1 ?_
   refine xl 0 ((IntsN.elem (hKs _ hB_3 hO_3) hKl (k := i) (by omega)).2) ?_
   refine xd 4 (.t B [129, 45]) ?_
   have k3_b1'1 := k3_b1.below (below_drew W3)
   refine xbt (.e [0, 1, 2, 3, 4, 6, 7] 8) 3 B [129, 45] k3_b1'1 ?_
   have hB'1 := Bl.nextB hB_3 hBw (below_drew W3)
   have hO'1 := hO_3.trans (Only.of_below (below_drew W3))
   refine xx (.e [9] 10) _ n i 1 (Strs.elem (hVs _ hB'1 hO'1) hVl (k := i) (by omega)).1 ?_
   refine xlt (.e [] 11) (.t B [129, 45]) (fun V hV => (Strs.elem (hVs _ (sft_keep hB'1 hV hBw) (hO'1.trans hV.2)) hVl (k := i) (by omega)).2) ?_
   refine xm2 (.b [12, 13]) 5 14 ?_ ?_
   · have k3_bw'1 := k3_bw.below (below_drew W3)
     refine xb 0 0 k3_bw'1 ?_
     refine xbs (.o [] 14) 1 [.int .i64 (K.getD i 0), .string ⟨(Vs.getD i []).toArray⟩, .int .i64 no] 45 fun b5 W5 n5 => ?_
     have g5 := n5.ge0 hB'1
     have hE'2 := own_below hE (below_drew W3)
     have r5_hE := own_ne hE'2 n5
     have hE'3 := own_below hE'2 n5.below
     have hB'2 := Bl.nextB hB'1 hBw n5.below
     refine ybi (.o [] 15) (.t B [129, 45]) fun _ _ _ _ zJ zQ zo zx zy zK => op_app (m := 1) (news := [.int .i64 (K.getD i 0), .string ⟨(Vs.getD i []).toArray⟩, .int .i64 no]) (.agg #[.int .i64 0, .string ⟨#[]⟩, .int .i64 0]) 3 32 ((es.length + (i + 1))) (((es ++ leafL K Vs no (i + 1)).flatMap entC)) zo Tryz.underlying25 (by kernel_rfl) rfl (by decide) zx hE'3 zy (n5.blk.sl 1 1 (by decide) (by decide)) rfl (by simp [Value.oneCell']) (by unfold maxLen; omega) (by omega) (Nat.le_trans hBw hB'2.size) (by omega) (leaf_row _ _ _ _ _) fun px6 cx6 W6 o6 hg6 hb6 => ?_
     refine zK _ _ (sft_grown hb6 hg6 hE'3 (by decide)) ?_
     have k3_bw'2 := (k3_bw'1.below n5.below).grown hg6 hE'3 (by decide)
     refine ys (.o [16, 17, 18] 19) k3_bw'2 [.slice px6 (es.length + (i + 1)) cx6, c1, .int .i64 (↑(way.length + 1) : Int), c3, c4, c5, c6, c7, .slice pw way.length cw, c9] (.t B [129, 45]) fun W7 u7 k7 => ⟨(sft_upd u7 k3_bw'2 hBb (by decide)), ?_⟩
     refine xwm 4 ((↑i : Int) + 1) (↑(i + 1) : Int) ?_
     have hB'3 := u7.below (hB'2.trans hb6) hBb
     have hO'2 := ((hO'1.trans (Only.of_below n5.below)).trans (Only.of_grown hg6 hE'3 (by decide))).trans (Only.of_upd u7 k3_bw'2 (by decide))
     have k3_b1'2 := u7.blkT ((k3_b1'1.below n5.below).grown hg6 hE'3 (by decide)) k3_bw'2 (by decide)
     have o6'1 := u7.own2 o6 k3_bw'2 (by decide)
     exact ze 2 (hJ3 _ _ _ ⟨i + 1, _, _, rfl, rfl, hB'3, hO'2, k7, k3_b1'2, o6'1, by omega⟩ (by omega))
   refine xbs 0 1 [.int .i64 (K.getD i 0), .string ⟨(Vs.getD i []).toArray⟩, .int .i64 no] 45 fun b8 W8 n8 => ?_
   have g8 := n8.ge0 hB'1
   have hE'4 := own_below hE (below_drew W3)
   have r8_hE := own_ne hE'4 n8
   have k3_bw'3 := (k3_bw.below (below_drew W3)).below n8.below
   refine xb (.o [] 5) 0 k3_bw'3 ?_
   have hE'5 := own_below hE'4 n8.below
   have hB'4 := Bl.nextB hB'1 hBw n8.below
   refine ybi (.o [] 15) (.t B [129, 45]) fun _ _ _ _ zJ zQ zo zx zy zK => op_app (m := 1) (news := [.int .i64 (K.getD i 0), .string ⟨(Vs.getD i []).toArray⟩, .int .i64 no]) (.agg #[.int .i64 0, .string ⟨#[]⟩, .int .i64 0]) 3 32 ((es.length + (i + 1))) (((es ++ leafL K Vs no (i + 1)).flatMap entC)) zo Tryz.underlying25 (by kernel_rfl) rfl (by decide) zx hE'5 zy (n8.blk.sl 1 1 (by decide) (by decide)) rfl (by simp [Value.oneCell']) (by unfold maxLen; omega) (by omega) (Nat.le_trans hBw hB'4.size) (by omega) (leaf_row _ _ _ _ _) fun px9 cx9 W9 o9 hg9 hb9 => ?_
   refine zK _ _ (sft_grown hb9 hg9 hE'5 (by decide)) ?_
   have k3_bw'4 := k3_bw'3.grown hg9 hE'5 (by decide)
   refine ys (.o [16, 17, 18] 19) k3_bw'4 [.slice px9 (es.length + (i + 1)) cx9, c1, .int .i64 (↑(way.length + 1) : Int), c3, c4, c5, c6, c7, .slice pw way.length cw, c9] (.t B [129, 45]) fun W10 u10 k10 => ⟨(sft_upd u10 k3_bw'4 hBb (by decide)), ?_⟩
   refine xwm 4 ((↑i : Int) + 1) (↑(i + 1) : Int) ?_
   have hB'5 := u10.below (hB'4.trans hb9) hBb
   have hO'3 := ((hO'1.trans (Only.of_below n8.below)).trans (Only.of_grown hg9 hE'5 (by decide))).trans (Only.of_upd u10 k3_bw'4 (by decide))
   have k3_b1'3 := u10.blkT ((k3_b1'1.below n8.below).grown hg9 hE'5 (by decide)) k3_bw'4 (by decide)
   have o9'1 := u10.own2 o9 k3_bw'4 (by decide)
   exact ze 2 (hJ3 _ _ _ ⟨i + 1, _, _, rfl, rfl, hB'5, hO'3, k10, k3_b1'3, o9'1, by omega⟩ (by omega))
 refine xe 4 (.tuple #[]) ?_
 obtain rfl : i = n := by omega
 exact ⟨_, _, _, rfl, hB_3, hO_3, k3_bw, hE⟩
end Go.Proofs.YthlakkdgcgkcdaaGreat
namespace Go.Proofs.YthlakkdgcgkcdaaGreat
open Go.RowKit Go.Extern.Stop Go.Stop Go.Extern
set_option linter.unusedVariables false
/-- two rows lie apart -/
def Apart (u v : Value) : Prop := ∀ j, u.ownBlock = some j → v.ownBlock ≠ some j
theorem Apart.symm {u v : Value} (h : Apart u v) : Apart v u := fun j h1 h2 => h j h2 h1
theorem Apart.grow {w : World} {u v u' : Value} {base e size n : Nat} {xs : List Value} (h : Apart u v) (k : w.ownsRow base e size v n xs) (hl : u'.ownBlock = u.ownBlock ∨ u'.ownBlock = some w.heap.size) : Apart u' v := by
  rintro j h1 h2
  rcases hl with hl | hl
  · exact h j (hl ▸ h1) h2
  · rw [hl, Option.some.injEq] at h1
    subst h1
    have := (k.lt _ h2).2
    omega
theorem Apart.row {w W : World} {u v : Value} {base e size n : Nat} {xs : List Value} (h : Apart u v) (k : w.ownsRow base e size v n xs) (hg : w.grownBy W u.ownBlock) : W.ownsRow base e size v n xs := by
  obtain ⟨h1, h2⟩ := k
  refine ⟨h1, ?_⟩
  rcases h2 with h2 | ⟨g, cap, cur, rfl, hb, hh, r⟩
  · exact Or.inl h2
  · exact Or.inr ⟨g, cap, cur, rfl, hb, (hg.block g (Array.getElem?_eq_some_iff.1 hh).1 (fun q => h g q.symm rfl)).trans hh, r⟩
theorem Apart.of_lt {w W : World} {u v : Value} {base base2 e e2 size size2 n n2 : Nat} {xs ys : List Value} (k : w.ownsRow base e size u n xs) (q : W.ownsRow base2 e2 size2 v n2 ys) (h : w.heap.size ≤ base2) : Apart u v := fun j h1 h2 => by
  have := (k.lt j h1).2
  have := (q.lt j h2).1
  omega
theorem Apart.nil (v : Value) : Apart (.slice none 0 0) v := fun j h => by cases h
/-- a row cut short at its end is a row -/
theorem own_cut {w : World} {base e n m c : Nat} {p : Option Addr} {xs : List Value} (k : w.ownsRow base e 1 (.slice p n c) n xs) (hm : m ≤ n) (hp : p.isSome = true) : w.ownsRow base e 1 (.slice p m c) m (xs.take m) := by
  obtain ⟨h1, h2⟩ := k
  refine ⟨by rw [List.length_take]; omega, ?_⟩
  rcases h2 with ⟨h2, _⟩ | ⟨g, cap, cur, hv, hb, hh, hc, hr1, hr2, hr3⟩
  · cases h2; cases hp
  · simp only [Value.slice.injEq] at hv
    obtain ⟨rfl, _, rfl⟩ := hv
    refine Or.inr ⟨g, c, cur, rfl, hb, hh, by omega, hr1, hr2, ?_⟩
    rw [← hr3, List.take_take]
    congr 1
    omega
theorem op_app_at {P : Program} {a : Act} {w : World} {K : Act → World → Prop} {Q : Exit → Act → World → Prop} {o : Oper} {s x : Operand} {t e te : TypeId} {base : Nat} {v : Value} {n : Nat} {xs : List Value} {b m c : Nat} {news : List Value} (z : Value) (size bytes n' : Nat) (xs' : List Value)
    (ho : o.op = .call { callee := .builtin .append, args := #[s, x], argTypes := #[t, t] }) (ht : P.underlying t = some (.slice e)) (hi : (P.info? e).map (fun i => (i.zero, i.size, i.bytes)) = some (some z, size, bytes)) (hzs : z.cells.size = size) (hsz : 0 < size) (hs : a.eval s = v)
    (hown : w.ownsRow base e size v n xs) (hx : a.eval x = .slice (some ⟨b, 0, none⟩) m c) (hnew : Blk w b news te) (hl : news.length = m * size) (h1 : ∀ u ∈ news, u.oneCell' = true) (h63 : n + m ≤ maxLen) (hbytes : (n + m) * bytes ≤ 140737488355328) (hbase : base ≤ w.heap.size) (hn : n + m = n') (hxs : xs ++ news = xs')
    (h : ∀ p c W, W.ownsRow base e size (.slice p n' c) n' xs' → w.grownBy W v.ownBlock → Below base w W → ((Value.slice p n' c).ownBlock = v.ownBlock ∨ (Value.slice p n' c).ownBlock = some w.heap.size) → K (a.put o.dst (.slice p n' c)) W) : o.wp P a w K Q := by
  cases hq : P.info? e with
  | none => simp [hq] at hi
  | some i =>
    simp only [hq, Option.map_some, Option.some.injEq, Prod.mk.injEq] at hi
    have hc : ∀ j u, news[j]? = some u → w.cell? ((⟨b, 0, none⟩ : Addr).add j) = some u := fun j u hj => by
      have hc := hnew.cell hj
      by_cases h0 : j = 0
      · subst h0; simpa [Addr.add] using hc
      · simpa [Addr.add, h0] using hc
    obtain ⟨v', W, hr, h2, h3, _, h5⟩ := run_append_own_at (P := P) w base t o.type e i z size bytes ht hq hi.1 hi.2.1 hi.2.2 hzs hsz v n xs hown ⟨b, 0, none⟩ m c news hl hc h1 h63 hbytes hbase
    subst hn hxs
    obtain ⟨p, c2, rfl⟩ := (own_sl h2).slice
    unfold Oper.wp execOp
    simp only [ho, resolve, invoke, builtin, Sem.run_bind, Sem.run_pure, Result.andThen_ok, List.map_toArray, List.map_cons, List.map_nil, hs, hx, hr]
    exact h p c2 W h2 h3 (grown_below h3 hown (Nat.le_refl _) hbase) h5
end Go.Proofs.YthlakkdgcgkcdaaGreat
namespace Go.Proofs.YthlakkdgcgkcdaaGreat
open Go.RowKit Go.Extern.Stop Go.Stop Go.Extern
set_option linter.unusedVariables false
/-- what a walker has found so far; a fault: the blocks of its way, and its number -/
structure WS where
  es : List Ent
  bs : List Int
  deep : Int
  looked : Nat
  fs : List (List Int × Int)
  dry : Bool
def noteW (way bs : List Int) (c : Int) (s : WS) : WS := { s with fs := s.fs ++ [(way ++ bs, c)] }
/-- the child of the inner node no, its value val, its span p; V: the visit one deeper -/
def childW (V : List Int → Int → Int → Int → WS → WS) (way : List Int) (no : Int) (val : List UInt8) (p : Int × Int) (s : WS) : WS :=
  if rootE val = 0 then V (way ++ [no]) (rootN val : Int) p.1 p.2 s else noteW way [no] (rootE val) s
def nodK (l : List UInt8) (no : Int) : List Int := keysI (inB l no) (nodC (inB l no))
def nodV (l : List UInt8) (no : Int) : List (List UInt8) := valsL (inB l no) (nodC (inB l no))
/-- child number i, unless the fuel is used up -/
def roundW (V : List Int → Int → Int → Int → WS → WS) (l : List UInt8) (way : List Int) (no hi : Int) (s : WS) (i : Nat) : WS :=
  if s.dry = true then s else childW V way no ((nodV l no).getD i []) (partAt hi (nodK l no) i) s
def loopW (V : List Int → Int → Int → Int → WS → WS) (l : List UInt8) (way : List Int) (no hi : Int) (k : Nat) (s : WS) : WS := (List.range k).foldl (roundW V l way no hi) s
/-- a visit at most d deep -/
def visitF (l : List UInt8) (tree fuel : Int) : Nat → List Int → Int → Int → Int → WS → WS
  | 0, _, _, _, _, s => s
  | d + 1, way, no, lo, hi, s =>
    if fuel ≤ s.looked then { noteW way [no] 12 s with dry := true }
    else if lookE l way no tree lo hi s.deep ≠ 0 then noteW way [no] (lookE l way no tree lo hi s.deep) { s with looked := s.looked + 1 }
    else if nodL (inB l no) = true then { s with looked := s.looked + 1, bs := s.bs ++ [no], deep := ((way.length + 1 : Nat) : Int), es := s.es ++ leafL (nodK l no) (nodV l no) no (nodC (inB l no)) }
    else loopW (visitF l tree fuel d) l way no hi (nodC (inB l no)) { s with looked := s.looked + 1, bs := s.bs ++ [no] }
theorem loopW_succ (V : List Int → Int → Int → Int → WS → WS) (l : List UInt8) (way : List Int) (no hi : Int) (k : Nat) (s : WS) : loopW V l way no hi (k + 1) s = roundW V l way no hi (loopW V l way no hi k s) k := by
  simp [loopW, List.range_succ]
theorem roundW_dry (V : List Int → Int → Int → Int → WS → WS) (l : List UInt8) (way : List Int) (no hi : Int) (s : WS) (i : Nat) (h : s.dry = true) : roundW V l way no hi s i = s := by simp [roundW, h]
/-- once the fuel is used up nothing comes -/
theorem loopW_dry (V : List Int → Int → Int → Int → WS → WS) (l : List UInt8) (way : List Int) (no hi : Int) (s : WS) {k n : Nat} (hk : k ≤ n) (h : (loopW V l way no hi k s).dry = true) : loopW V l way no hi n s = loopW V l way no hi k s := by
  induction n with
  | zero => obtain rfl : k = 0 := by omega
            rfl
  | succ n ih =>
    rcases Nat.lt_or_ge n k with q | q
    · obtain rfl : k = n + 1 := by omega
      rfl
    · rw [loopW_succ, ih q, roundW_dry _ _ _ _ _ _ _ h]
/-- the faults lie in memory -/
def FltsW (w : World) : List (List Int × Int) → List Value → Prop
  | [], [] => True
  | f :: r, v :: q => ErrV w (f.1.map some) (some f.2) v ∧ FltsW w r q
  | _, _ => False
theorem FltsW.kept {w W : World} (hb : ∀ blk cs, Blk w blk cs 105 → Blk W blk cs 105) : ∀ {fs : List (List Int × Int)} {vs : List Value}, FltsW w fs vs → FltsW W fs vs
  | [], [], h => h
  | _ :: _, _ :: _, h => ⟨h.1.kept hb, FltsW.kept hb h.2⟩
  | [], _ :: _, h => h.elim
  | _ :: _, [], h => h.elim
theorem FltsW.only {T : List TypeId} {w W : World} {fs : List (List Int × Int)} {vs : List Value} (h : FltsW w fs vs) (k : Only T w W) (hT : T.contains 105 = false) : FltsW W fs vs := h.kept fun _ _ q => q.only k hT
theorem FltsW.below {w W : World} {fs : List (List Int × Int)} {vs : List Value} (h : FltsW w fs vs) (hb : Below w.heap.size w W) : FltsW W fs vs := h.kept fun _ _ q => q.below hb
theorem FltsW.snoc {w : World} {f : List Int × Int} {v : Value} (hv : ErrV w (f.1.map some) (some f.2) v) : ∀ {fs : List (List Int × Int)} {vs : List Value}, FltsW w fs vs → FltsW w (fs ++ [f]) (vs ++ [v])
  | [], [], _ => ⟨hv, trivial⟩
  | _ :: _, _ :: _, h => ⟨h.1, FltsW.snoc hv h.2⟩
  | [], _ :: _, h => h.elim
  | _ :: _, [], h => h.elim
/-- a walker's state in memory -/
structure WalkR (B bw Bi b : Nat) (pi : Option Addr) (ni ci : Nat) (l : List UInt8) (tree fuel : Int) (way : List Int) (s : WS) (pe pb pf pw : Option Addr) (ce cb cf cw : Nat) (fv : List Value) (w : World) : Prop where
  blk : Blk w bw [.slice pe s.es.length ce, .slice pb s.bs.length cb, .int .i64 s.deep, .int .i64 (s.looked : Int), .slice pf s.fs.length cf, .pointer (some ⟨b, 0, none⟩), .int .i64 tree, .int .i64 fuel, .slice pw way.length cw, .bool s.dry] 129
  ents : w.ownsRow B 45 3 (.slice pe s.es.length ce) s.es.length (s.es.flatMap entC)
  blks : w.ownsRow B 3 1 (.slice pb s.bs.length cb) s.bs.length (s.bs.map (Value.int .i64))
  flts : w.ownsRow B 32 1 (.slice pf s.fs.length cf) s.fs.length fv
  fltv : FltsW w s.fs fv
  ways : w.ownsRow B 3 1 (.slice pw way.length cw) way.length (way.map (Value.int .i64))
  apart : Apart (.slice pb s.bs.length cb) (.slice pw way.length cw)
  img : ImgR Bi b pi ni ci l w
/-- what a visit does: the state s becomes the state t -/
def VisitP (B bw Bi b : Nat) (pi : Option Addr) (ni ci : Nat) (l : List UInt8) (tree fuel : Int) (way : List Int) (t : WS) (w : World) (e : Ending) (w' : World) : Prop :=
  ∃ u pe pb pf pw ce cb cf cw fv, e = .returned u ∧ Below B w w' ∧ Only [129, 45, 3, 32] w w' ∧ WalkR B bw Bi b pi ni ci l tree fuel way t pe pb pf pw ce cb cf cw fv w'
end Go.Proofs.YthlakkdgcgkcdaaGreat
namespace Go.Proofs.YthlakkdgcgkcdaaGreat
open Go.RowKit Go.Extern.Stop Go.Stop Go.Extern
set_option linter.unusedVariables false
attribute [local irreducible] wpList wpAnyH Code.wp Oper.wp Go

theorem own_some {w : World} {base e n c : Nat} {p : Option Addr} {xs : List Value} (k : w.ownsRow base e 1 (.slice p n c) n xs) (hn : 0 < n) : p.isSome = true ∧ n ≤ c := by
  rcases k.2 with ⟨h, _⟩ | ⟨g, cap, cur, hv, _, _, hc, _⟩
  · simp only [Value.slice.injEq] at h; omega
  · simp only [Value.slice.injEq] at hv
    obtain ⟨rfl, _, rfl⟩ := hv
    exact ⟨rfl, hc⟩
theorem way_cut {w : World} {base e c : Nat} {p : Option Addr} {way : List Int} {no : Int} (k : w.ownsRow base e 1 (.slice p (way ++ [no]).length c) (way ++ [no]).length ((way ++ [no]).map (Value.int .i64))) : w.ownsRow base e 1 (.slice p way.length c) way.length (way.map (Value.int .i64)) := by
  have h := own_cut (m := way.length) k (by simp) (own_some k (by simp)).1
  rwa [List.map_append, List.take_left' (by simp)] at h
theorem only_we {w w' : World} (h : Only [129, 32] w w') : Only [129, 45, 3, 32] w w' := h.mono fun t ht => by
  simp only [List.contains_cons, List.contains_nil, Bool.or_eq_false_iff] at ht ⊢
  exact ⟨ht.1, ht.2.2.2⟩
/-- what is asked of a visit d deep at most -/
def VisitC (B bw Bi b : Nat) (pi : Option Addr) (ni ci : Nat) (l : List UInt8) (tree fuel : Int) (d : Nat) : Prop :=
  ∀ (way : List Int) (no lo hi : Int) (s : WS) (pe pb pf pw : Option Addr) (ce cb cf cw : Nat) (fv : List Value) (w : World), way.length + d = 17 → B ≤ w.heap.size → s.dry = false → WalkR B bw Bi b pi ni ci l tree fuel way s pe pb pf pw ce cb cf cw fv w →
    (visitF l tree fuel d way no lo hi s).es.length ≤ 1000000 → (visitF l tree fuel d way no lo hi s).bs.length ≤ 1000000 → (visitF l tree fuel d way no lo hi s).fs.length ≤ 1000000 →
    Calls Tryz.prog 69 #[.pointer (some ⟨bw, 0, none⟩), .int .i64 no, .agg #[.int .i64 lo, .int .i64 hi]] w (VisitP B bw Bi b pi ni ci l tree fuel way (visitF l tree fuel d way no lo hi s) w)
set_option maxRecDepth 100000 in
set_option maxHeartbeats 4000000 in
theorem walker_child (B bw Bi b : Nat) (pi : Option Addr) (ni ci : Nat) (l : List UInt8) (tree fuel : Int) (d : Nat) (hV : VisitC B bw Bi b pi ni ci l tree fuel d) (way : List Int) (no lo hi : Int) (val : List UInt8) (s : WS) (pe pb pf pw : Option Addr) (ce cb cf cw : Nat) (fv : List Value) (w : World) (hBb : B ≤ bw) (hBw : B ≤ w.heap.size) (hwd : way.length + 1 + d = 17) (hdry : s.dry = false) (hvl : val.length ≤ 1000) (hR : WalkR B bw Bi b pi ni ci l tree fuel (way ++ [no]) s pe pb pf pw ce cb cf cw fv w) (he : (childW (visitF l tree fuel d) way no val (lo, hi) s).es.length ≤ 1000000) (hb_ : (childW (visitF l tree fuel d) way no val (lo, hi) s).bs.length ≤ 1000000) (hf : (childW (visitF l tree fuel d) way no val (lo, hi) s).fs.length ≤ 1000000) :
    Calls Tryz.prog 95 #[.pointer (some ⟨bw, 0, none⟩), .int .i64 no, .string ⟨val.toArray⟩, .agg #[.int .i64 lo, .int .i64 hi]] w (VisitP B bw Bi b pi ni ci l tree fuel (way ++ [no]) (childW (visitF l tree fuel d) way no val (lo, hi) s) w) := by
 obtain ⟨kW, hEn, hBl, hFl, hFv, hWy, hAp, hI⟩ := hR
 have hwc := (own_some hWy (by simp)).2
 have hwl : (way ++ [no]).length = way.length + 1 := by simp
 refine zin 44 Tryz.func95 ?_
 refine xa 2 [.int .i64 lo, .int .i64 hi] 132 fun b1 W1 n1 => ?_
 refine xr 5 (args := #[.string ⟨val.toArray⟩]) (value_ReadRoot val _ hvl) fun W2 hb2 => ?_
 refine xie 14 (rootE val) (0 : Int) (fun hc3 => ?_) (fun hc3 => ?_)
 · have k1 := n1.blk.below hb2
   refine xlv 4 k1.rp ?_
   have hch : childW (visitF l tree fuel d) way no val (lo, hi) s = visitF l tree fuel d (way ++ [no]) (rootN val : Int) lo hi s := by unfold childW; rw [if_pos (by assumption)]
   have hB := Bl.nextB (Bl.nextB (Below.refl B w) hBw n1.below) hBw hb2
   have kW'1 := (kW.below n1.below).below hb2
   have hEn'1 := own_below (own_below hEn n1.below) hb2
   have hBl'1 := own_below (own_below hBl n1.below) hb2
   have hFl'1 := own_below (own_below hFl n1.below) hb2
   have hFv'1 := (hFv.below n1.below).below hb2
   have hWy'1 := own_below (own_below hWy n1.below) hb2
   have hI'1 := (hI.below n1.below).below hb2
   refine xc 0 (args := #[.pointer (some ⟨bw, 0, none⟩), .int .i64 (↑(rootN val) : Int), .agg #[.int .i64 lo, .int .i64 hi]]) (hV (way ++ [no]) (rootN val : Int) lo hi s pe pb pf pw ce cb cf cw fv _ (by simp; omega) (Nat.le_trans hBw hB.size) hdry ⟨kW'1, hEn'1, hBl'1, hFl'1, hFv'1, hWy'1, hAp, hI'1⟩ (by have q := he; rw [hch] at q; exact q) (by have q := hb_; rw [hch] at q; exact q) (by have q := hf; rw [hch] at q; exact q)) ?_
   rintro _ W4 ⟨u4, pe2, pb2, pf2, pw2, ce2, cb2, cf2, cw2, fv2, rfl, hb4, hO4, hR2⟩
   have hB'1 := hB.trans hb4
   have hO := ((show Only [129, 45, 3, 32] w _ from (Only.of_below n1.below)).trans (Only.of_below hb2)).trans hO4
   refine xe 4 (.tuple #[]) ?_
   rw [hch]
   exact ⟨_, _, _, _, _, _, _, _, _, _, rfl, hB'1, hO, hR2⟩
 have kW'2 := (kW.below n1.below).below hb2
 refine xb 7 8 kW'2 ?_
 refine xwm 9 ((↑((way ++ [no]).length) : Int) - 1) (↑(((way ++ [no]).length) - 1) : Int) ?_
 refine xsH 0 (fun _ _ _ _ zo zx zy V => run_sliceH (k := (((way ++ [no]).length) - 1)) (b := pw) (n := (way ++ [no]).length) (c := cw) (i := (↑(((way ++ [no]).length) - 1) : Int)) (ki := .i64) zo zx zy rfl (by omega) Tryz.underlying22 (by kernel_rfl) V) ?_
 refine xs 2 kW'2 [.slice pe s.es.length ce, .slice pb s.bs.length cb, .int .i64 s.deep, .int .i64 (s.looked : Int), .slice pf s.fs.length cf, .pointer (some ⟨b, 0, none⟩), .int .i64 tree, .int .i64 fuel, .slice pw (((way ++ [no]).length) - 1) cw, .bool s.dry] fun W5 u5 k5 => ?_
 refine xc 8 (args := #[.int .i64 no, .iface 26 (.int .i64 (rootE val))]) (fault_At no (some (rootE val)) [] _ _ rfl) ?_
 rintro _ W6 ⟨r6, rfl, hb6, hv6⟩
 rw [atL_some] at hv6
 obtain ⟨t6, x6, rfl⟩ := hv6.iface
 have k5'1 := k5.below hb6
 have hch : childW (visitF l tree fuel d) way no val (lo, hi) s = noteW way [no] (rootE val) s := by unfold childW; rw [if_neg (by assumption)]
 rw [show (way ++ [no]).length - 1 = way.length by omega] at k5'1
 have hB := Bl.nextB (u5.below (Bl.nextB (Bl.nextB (Below.refl B w) hBw n1.below) hBw hb2) hBb) hBw hb6
 have hFl'2 := own_below (u5.own2 (own_below (own_below hFl n1.below) hb2) kW'2 (by decide)) hb6
 have hWy'2 := own_below (u5.own2 (own_below (own_below hWy n1.below) hb2) kW'2 (by decide)) hb6
 refine xc 0 (args := #[.pointer (some ⟨bw, 0, none⟩), .iface t6 (x6)]) (walker_note B bw _ _ _ _ _ _ _ _ pf _ cf fv pw cw way [no] (rootE val) _ _ _ hBb (Nat.le_trans hBw hB.size) k5'1 hFl'2 (way_cut hWy'2) hv6 (by omega) (by have := hf; rw [hch] at this; simp [noteW] at this; omega)) ?_
 rintro _ W7 ⟨u7, pf2, cf2, t2, x2, rfl, hb7, hO7, kN, hFl2, hv2⟩
 refine xs 7 kN [.slice pe s.es.length ce, .slice pb s.bs.length cb, .int .i64 s.deep, .int .i64 (s.looked : Int), .slice pf2 (s.fs.length + 1) cf2, .pointer (some ⟨b, 0, none⟩), .int .i64 tree, .int .i64 fuel, .slice pw ((way ++ [no]).length) cw, .bool s.dry] fun W8 u8 k8 => ?_
 have hB'2 := u8.below (hB.trans hb7) hBb
 have hO := (((((show Only [129, 45, 3, 32] w _ from (Only.of_below n1.below)).trans (Only.of_below hb2)).trans (Only.of_upd u5 kW'2 (by decide))).trans (Only.of_below hb6)).trans (only_we hO7)).trans (Only.of_upd u8 kN (by decide))
 have hEn'2 := u8.own2 (own_only (own_below (u5.own2 (own_below (own_below hEn n1.below) hb2) kW'2 (by decide)) hb6) hO7 (by decide)) kN (by decide)
 have hBl'2 := u8.own2 (own_only (own_below (u5.own2 (own_below (own_below hBl n1.below) hb2) kW'2 (by decide)) hb6) hO7 (by decide)) kN (by decide)
 have hFl2'1 := u8.own2 hFl2 kN (by decide)
 have hv2'1 := hv2.upd u8 kN (by decide)
 have hFv'2 := (((((hFv.below n1.below).below hb2).only (Only.of_upd (T := [129]) u5 kW'2 (by decide)) (by decide)).below hb6).only hO7 (by decide)).only (Only.of_upd (T := [129]) u8 kN (by decide)) (by decide)
 have hWy'3 := u8.own2 (own_only hWy'2 hO7 (by decide)) kN (by decide)
 have hI'2 := (((((hI.below n1.below).below hb2).only (Only.of_upd (T := [129]) u5 kW'2 (by decide)) (by decide)).below hb6).only hO7 (by decide)).only (Only.of_upd (T := [129]) u8 kN (by decide)) (by decide)
 refine xe 1 (.tuple #[]) ?_
 rw [hch]
 exact ⟨_, pe, pb, pf2, pw, ce, cb, cf2, cw, _, rfl, hB'2, hO, by simpa [noteW] using k8, hEn'2, hBl'2, by simpa [noteW] using hFl2'1, FltsW.snoc hv2'1 hFv'2, hWy'3, hAp, hI'2⟩
end Go.Proofs.YthlakkdgcgkcdaaGreat
namespace Go.Proofs.YthlakkdgcgkcdaaGreat
open Go.RowKit Go.Extern.Stop Go.Stop Go.Extern
set_option linter.unusedVariables false
def Grow (s t : WS) : Prop := s.es.length ≤ t.es.length ∧ s.bs.length ≤ t.bs.length ∧ s.fs.length ≤ t.fs.length
theorem Grow.refl (s : WS) : Grow s s := ⟨Nat.le_refl _, Nat.le_refl _, Nat.le_refl _⟩
theorem Grow.trans {s t u : WS} (h : Grow s t) (k : Grow t u) : Grow s u := ⟨Nat.le_trans h.1 k.1, Nat.le_trans h.2.1 k.2.1, Nat.le_trans h.2.2 k.2.2⟩
theorem noteW_grow (way bs : List Int) (c : Int) (s : WS) : Grow s (noteW way bs c s) := ⟨Nat.le_refl _, Nat.le_refl _, by simp [noteW]⟩
theorem childW_grow {V : List Int → Int → Int → Int → WS → WS} (hV : ∀ way no lo hi s, Grow s (V way no lo hi s)) (way : List Int) (no : Int) (val : List UInt8) (p : Int × Int) (s : WS) : Grow s (childW V way no val p s) := by
  unfold childW
  split
  · exact hV _ _ _ _ _
  · exact noteW_grow _ _ _ _
theorem roundW_grow {V : List Int → Int → Int → Int → WS → WS} (hV : ∀ way no lo hi s, Grow s (V way no lo hi s)) (l : List UInt8) (way : List Int) (no hi : Int) (s : WS) (i : Nat) : Grow s (roundW V l way no hi s i) := by
  unfold roundW
  split
  · exact Grow.refl _
  · exact childW_grow hV _ _ _ _ _
theorem loopW_grow {V : List Int → Int → Int → Int → WS → WS} (hV : ∀ way no lo hi s, Grow s (V way no lo hi s)) (l : List UInt8) (way : List Int) (no hi : Int) (s : WS) {k n : Nat} (hk : k ≤ n) : Grow (loopW V l way no hi k s) (loopW V l way no hi n s) := by
  induction n with
  | zero => obtain rfl : k = 0 := by omega
            exact Grow.refl _
  | succ n ih =>
    rcases Nat.lt_or_ge n k with q | q
    · obtain rfl : k = n + 1 := by omega
      exact Grow.refl _
    · rw [loopW_succ]
      exact (ih q).trans (roundW_grow hV _ _ _ _ _ _)
theorem loopW_zero (V : List Int → Int → Int → Int → WS → WS) (l : List UInt8) (way : List Int) (no hi : Int) (s : WS) : loopW V l way no hi 0 s = s := rfl
theorem visitF_grow (l : List UInt8) (tree fuel : Int) : ∀ (d : Nat) (way : List Int) (no lo hi : Int) (s : WS), Grow s (visitF l tree fuel d way no lo hi s)
  | 0, _, _, _, _, s => Grow.refl s
  | d + 1, way, no, lo, hi, s => by
    unfold visitF
    split
    · exact ⟨Nat.le_refl _, Nat.le_refl _, by simp [noteW]⟩
    · split
      · exact ⟨Nat.le_refl _, Nat.le_refl _, by simp [noteW]⟩
      · split
        · exact ⟨by simp, by simp, Nat.le_refl _⟩
        · refine Grow.trans ⟨?_, ?_, ?_⟩ (loopW_grow (visitF_grow l tree fuel d) l way no hi _ (Nat.zero_le _))
          · exact Nat.le_refl _
          · simp [loopW_zero]
          · exact Nat.le_refl _
section
variable {B bw Bi b : Nat} {pi : Option Addr} {ni ci : Nat} {l : List UInt8} {tree fuel : Int} {way : List Int} {s : WS} {pe pb pf pw : Option Addr} {ce cb cf cw : Nat} {fv : List Value} {w W : World}
theorem WalkR.below (h : WalkR B bw Bi b pi ni ci l tree fuel way s pe pb pf pw ce cb cf cw fv w) (hb : Below w.heap.size w W) : WalkR B bw Bi b pi ni ci l tree fuel way s pe pb pf pw ce cb cf cw fv W :=
  ⟨h.blk.below hb, own_below h.ents hb, own_below h.blks hb, own_below h.flts hb, h.fltv.below hb, own_below h.ways hb, h.apart, h.img.below hb⟩
theorem WalkR.only {T : List TypeId} (h : WalkR B bw Bi b pi ni ci l tree fuel way s pe pb pf pw ce cb cf cw fv w) (hO : Only T w W)
    (hT : T.contains 129 = false ∧ T.contains 45 = false ∧ T.contains 3 = false ∧ T.contains 32 = false ∧ T.contains 105 = false ∧ T.contains 91 = false ∧ T.contains 5 = false) : WalkR B bw Bi b pi ni ci l tree fuel way s pe pb pf pw ce cb cf cw fv W :=
  ⟨h.blk.only hO hT.1, own_only h.ents hO hT.2.1, own_only h.blks hO hT.2.2.1, own_only h.flts hO hT.2.2.2.1, h.fltv.only hO hT.2.2.2.2.1, own_only h.ways hO hT.2.2.1, h.apart, h.img.only hO ⟨hT.2.2.2.2.2.1, hT.2.2.2.2.2.2⟩⟩
end
end Go.Proofs.YthlakkdgcgkcdaaGreat
