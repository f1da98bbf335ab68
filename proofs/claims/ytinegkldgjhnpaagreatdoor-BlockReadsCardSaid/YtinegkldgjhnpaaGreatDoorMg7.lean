/- The statement BlockReads, walked. How a slice of bytes that came in reads: as a list of bytes. -/
import Derived.Test.YtinegkldgjhnpaaGreatDoorMg6
namespace Go.Proofs.YtinegkldgjhnpaaGreatDoor
open Go.RowKit Go.Extern.Stop Go.Stop Go.Extern
set_option linter.unusedVariables false
attribute [local irreducible] wpList wpAnyH Code.wp Oper.wp Go

theorem run_supne {a : Act} {o : Oper} {p q : Operand} (x : Sup) (ho : o.op = .binOp .neq 75 p q 75) (hx : a.eval p = .agg (supC x).toArray) (hy : a.eval q = .agg (supC x).toArray) (V : World) :
    (execOp a.eval o).run Tryz.prog V = .ok (.value (.bool false)) V := by
  have h1 := Tryz.underlying75
  have h2 := Tryz.underlying3
  have h4 : Tryz.prog.stoodInHeld 75 = false := by kernel_rfl
  have hb : (binOp .neq 75 (.agg (supC x).toArray) (.agg (supC x).toArray)).run Tryz.prog V = .ok (.bool false) V := by
    obtain ⟨x0, x1, x2, x3, x4, x5, x6, x7, x8, x9, x10⟩ := x
    simp [go_sem, Program.fieldsOf, h1, h2, h4, Op.eqFields, supC]
  have hg := run_eqGuard_agg (P := Tryz.prog) (w := V) .neq 75 p q (supC x).toArray (supC x).toArray (by kernel_rfl)
  simp only [execOp, ho, hx, hy, Sem.run_bind, hg, Result.andThen_ok, hb]
  rfl
theorem er_ok {W : World} {no er : Int} (h : er = 0) : ErrV W (erL no er) (erT er) .nilIface := by subst h; rfl
theorem er_bad {W : World} {no er : Int} {v : Value} (h : er ≠ 0) (hv : ErrV W [some no] (some er) v) : ErrV W (erL no er) (erT er) v := by rw [erL, erT, if_neg h, if_neg h]; exact hv
theorem flt_bad {B : Nat} {W : World} {no er : Int} {a : Option Addr} {c : Nat} (h : er ≠ 0) (ho : W.ownsRow B 3 1 (.slice a 1 c) 1 [.int .i64 no]) : W.ownsRow B 3 1 (.slice a (fltL no er).length c) (fltL no er).length ((fltL no er).map (Value.int .i64)) := by rw [fltL_nz h]; exact ho
theorem flt_ok {B : Nat} {W : World} {no er : Int} (h : er = 0) : W.ownsRow B 3 1 (.slice none (fltL no er).length 0) (fltL no er).length ((fltL no er).map (Value.int .i64)) := by subst h; exact World.ownsRow_nil _ _ _ _
def BitsU (l : List UInt8) (no : Int) (w : World) (e : Ending) (w' : World) : Prop :=
  ∃ p c v, e = .returned (.tuple #[.slice p (bitR l no).length c, v]) ∧ Below w.heap.size w w' ∧ w'.ownsRow w.heap.size 3 1 (.slice p (bitR l no).length c) (bitR l no).length ((bitR l no).map (Value.int .i64)) ∧ ErrV w' (erL no (bitsErr l no)) (erT (bitsErr l no)) v
theorem BlkBitsP.u {l : List UInt8} {no : Int} {w : World} {e : Ending} {w' : World} (h : BlkBitsP l no w e w') : BitsU l no w e w' := by
  rcases h with ⟨he, b, rfl, hb, hv⟩ | ⟨he, p, c, rfl, hb, ho⟩
  · refine ⟨none, 0, _, by rw [bitR_bad he]; rfl, hb, ?_, er_bad he hv⟩
    rw [bitR_bad he]; exact World.ownsRow_nil _ _ _ _
  · obtain ⟨h1, h2⟩ := bitR_ok he
    refine ⟨p, c, _, by rw [h2], hb, ?_, er_ok he⟩
    rw [h2, h1, bitI_map]; exact ho
def IdxU (l : List UInt8) (no : Int) (w : World) (e : Ending) (w' : World) : Prop :=
  ∃ p c v, e = .returned (.tuple #[.slice p (idxR l no).length c, v]) ∧ Below w.heap.size w w' ∧ w'.ownsRow w.heap.size 163 3 (.slice p (idxR l no).length c) (idxR l no).length ((idxR l no).flatMap sltC) ∧ ErrV w' (erL no (idxErr l no)) (erT (idxErr l no)) v
theorem BlkIdxP.u {l : List UInt8} {no : Int} {w : World} {e : Ending} {w' : World} (h : BlkIdxP l no w e w') : IdxU l no w e w' := by
  rcases h with ⟨he, b, rfl, hb, hv⟩ | ⟨he, p, c, rfl, hb, ho⟩
  · refine ⟨none, 0, _, by rw [idxR_bad he]; rfl, hb, ?_, er_bad he hv⟩
    rw [idxR_bad he]; exact World.ownsRow_nil _ _ _ _
  · obtain ⟨h1, h2⟩ := idxR_ok he
    refine ⟨p, c, _, by rw [h2], hb, ?_, er_ok he⟩
    rw [h2, h1]; exact ho
def supR (l : List UInt8) : Sup := if superErr l = 0 then readS (inB l 0) else supZ
def SupU (l : List UInt8) (w : World) (e : Ending) (w' : World) : Prop :=
  ∃ v, e = .returned (.tuple #[.agg #[.int .i64 ((supR l).tx), .int .i64 ((supR l).time), .int .i64 ((supR l).unit), .int .i64 ((supR l).data), .int .i64 ((supR l).blocks), .int .i64 ((supR l).top), .int .i64 ((supR l).details), .int .i64 ((supR l).dslots), .int .i64 ((supR l).dover), .int .i64 ((supR l).mindex), .int .i64 ((supR l).mover)], v]) ∧ Below w.heap.size w w' ∧ ErrV w' (erL 0 (superErr l)) (erT (superErr l)) v
theorem BlkSupP.u {l : List UInt8} {w : World} {e : Ending} {w' : World} (h : BlkSupP l w e w') : SupU l w e w' := by
  rcases h with ⟨he, b, rfl, hb, hv⟩ | ⟨he, rfl, hb⟩
  · exact ⟨_, by rw [show supR l = supZ from if_neg he]; rfl, hb, er_bad he hv⟩
  · exact ⟨_, by rw [show supR l = readS (inB l 0) from if_pos he], hb, er_ok he⟩
def RSupU (l : List UInt8) (w : World) (e : Ending) (w' : World) : Prop :=
  ∃ a5 c5, e = .returned (.tuple #[.agg #[.int .i64 ((supR l).tx), .int .i64 ((supR l).time), .int .i64 ((supR l).unit), .int .i64 ((supR l).data), .int .i64 ((supR l).blocks), .int .i64 ((supR l).top), .int .i64 ((supR l).details), .int .i64 ((supR l).dslots), .int .i64 ((supR l).dover), .int .i64 ((supR l).mindex), .int .i64 ((supR l).mover)], .agg #[.slice a5 (fltL 0 (superErr l)).length c5, .int .i64 (superErr l)]]) ∧ Below w.heap.size w w' ∧ w'.ownsRow w.heap.size 3 1 (.slice a5 (fltL 0 (superErr l)).length c5) (fltL 0 (superErr l)).length ((fltL 0 (superErr l)).map (Value.int .i64))
theorem RBlkSupP.u {l : List UInt8} {w : World} {e : Ending} {w' : World} (h : RBlkSupP l w e w') : RSupU l w e w' := by
  rcases h with ⟨he, a, c, rfl, hb, hv⟩ | ⟨he, rfl, hb⟩
  · exact ⟨a, c, by rw [show supR l = supZ from if_neg he, fltL_nz he]; rfl, hb, flt_bad he hv⟩
  · exact ⟨none, 0, by rw [show supR l = readS (inB l 0) from if_pos he, he]; rfl, hb, flt_ok he⟩
def nodTR (l : List UInt8) (no tree : Int) : Int := if nodeErr l no tree = 0 then nodT (inB l no) else 0
def nodLR (l : List UInt8) (no tree : Int) : Bool := if nodeErr l no tree = 0 then nodL (inB l no) else false
def nodNR (l : List UInt8) (no tree : Int) : Nat := if nodeErr l no tree = 0 then nodC (inB l no) else 0
def nodKR (l : List UInt8) (no tree : Int) : List Int := if nodeErr l no tree = 0 then keysI (inB l no) (nodC (inB l no)) else []
def nodVR (l : List UInt8) (no tree : Int) : List (List UInt8) := if nodeErr l no tree = 0 then valsL (inB l no) (nodC (inB l no)) else []
theorem nodKR_len (l : List UInt8) (no tree : Int) : (nodKR l no tree).length = nodNR l no tree := by
  unfold nodKR nodNR; split
  · exact keysI_len _ _
  · rfl
theorem nodVR_len (l : List UInt8) (no tree : Int) : (nodVR l no tree).length = nodNR l no tree := by
  unfold nodVR nodNR; split
  · exact valsL_len _ _
  · rfl
theorem nodR_ok {l : List UInt8} {no tree : Int} (h : nodeErr l no tree = 0) : nodTR l no tree = nodT (inB l no) ∧ nodLR l no tree = nodL (inB l no) ∧ nodNR l no tree = nodC (inB l no) ∧ nodKR l no tree = keysI (inB l no) (nodC (inB l no)) ∧ nodVR l no tree = valsL (inB l no) (nodC (inB l no)) := ⟨if_pos h, if_pos h, if_pos h, if_pos h, if_pos h⟩
theorem nodR_bad {l : List UInt8} {no tree : Int} (h : nodeErr l no tree ≠ 0) : nodTR l no tree = 0 ∧ nodLR l no tree = false ∧ nodNR l no tree = 0 ∧ nodKR l no tree = [] ∧ nodVR l no tree = [] := ⟨if_neg h, if_neg h, if_neg h, if_neg h, if_neg h⟩
def NodeU (l : List UInt8) (no tree : Int) (w : World) (e : Ending) (w' : World) : Prop :=
  ∃ kp kc vp vc v, e = .returned (.tuple #[.agg #[.int .i64 (nodTR l no tree), .bool (nodLR l no tree), .slice kp (nodNR l no tree) kc, .slice vp (nodNR l no tree) vc], v]) ∧ Below w.heap.size w w' ∧ w'.ownsRow w.heap.size 3 1 (.slice kp (nodNR l no tree) kc) (nodNR l no tree) ((nodKR l no tree).map (Value.int .i64)) ∧ w'.ownsRow w.heap.size 9 1 (.slice vp (nodNR l no tree) vc) (nodNR l no tree) ((nodVR l no tree).map sv) ∧ ErrV w' (erL no (nodeErr l no tree)) (erT (nodeErr l no tree)) v
theorem BlkNodeP.u {l : List UInt8} {no tree : Int} {w : World} {e : Ending} {w' : World} (h : BlkNodeP l no tree w e w') : NodeU l no tree w e w' := by
  rcases h with ⟨he, b, rfl, hb, hv⟩ | ⟨he, kp, kc, vp, vc, rfl, hb, ho1, ho2⟩
  · obtain ⟨h1, h2, h3, h4, h5⟩ := nodR_bad he
    refine ⟨none, 0, none, 0, _, by rw [h1, h2, h3], hb, ?_, ?_, er_bad he hv⟩
    · rw [h3, h4]; exact World.ownsRow_nil _ _ _ _
    · rw [h3, h5]; exact World.ownsRow_nil _ _ _ _
  · obtain ⟨h1, h2, h3, h4, h5⟩ := nodR_ok he
    refine ⟨kp, kc, vp, vc, _, by rw [h1, h2, h3], hb, ?_, ?_, er_ok he⟩
    · rw [h3, h4]; exact ho1
    · rw [h3, h5]; exact ho2
def RNodeU (l : List UInt8) (no tree : Int) (w : World) (e : Ending) (w' : World) : Prop :=
  ∃ kp kc vp vc a5 c5, e = .returned (.tuple #[.agg #[.int .i64 (nodTR l no tree), .bool (nodLR l no tree), .slice kp (nodNR l no tree) kc, .slice vp (nodNR l no tree) vc], .agg #[.slice a5 (fltL no (nodeErr l no tree)).length c5, .int .i64 (nodeErr l no tree)]]) ∧ Below w.heap.size w w' ∧ w'.ownsRow w.heap.size 3 1 (.slice kp (nodNR l no tree) kc) (nodNR l no tree) ((nodKR l no tree).map (Value.int .i64)) ∧ w'.ownsRow w.heap.size 9 1 (.slice vp (nodNR l no tree) vc) (nodNR l no tree) ((nodVR l no tree).map sv) ∧ w'.ownsRow w.heap.size 3 1 (.slice a5 (fltL no (nodeErr l no tree)).length c5) (fltL no (nodeErr l no tree)).length ((fltL no (nodeErr l no tree)).map (Value.int .i64))
theorem RBlkNodeP.u {l : List UInt8} {no tree : Int} {w : World} {e : Ending} {w' : World} (h : RBlkNodeP l no tree w e w') : RNodeU l no tree w e w' := by
  rcases h with ⟨he, a, c, rfl, hb, hv⟩ | ⟨he, kp, kc, vp, vc, rfl, hb, ho1, ho2⟩
  · obtain ⟨h1, h2, h3, h4, h5⟩ := nodR_bad he
    refine ⟨none, 0, none, 0, a, c, by rw [h1, h2, h3, fltL_nz he]; rfl, hb, ?_, ?_, flt_bad he hv⟩
    · rw [h3, h4]; exact World.ownsRow_nil _ _ _ _
    · rw [h3, h5]; exact World.ownsRow_nil _ _ _ _
  · obtain ⟨h1, h2, h3, h4, h5⟩ := nodR_ok he
    refine ⟨kp, kc, vp, vc, none, 0, by rw [h1, h2, h3, he]; rfl, hb, ?_, ?_, flt_ok he⟩
    · rw [h3, h4]; exact ho1
    · rw [h3, h5]; exact ho2
set_option maxRecDepth 100000 in
set_option maxHeartbeats 4000000 in
theorem ref07_Same (T : Int) (L : Bool) (n : Nat) (K : List Int) (Vs : List (List UInt8)) (kp vp kp2 vp2 : Option Addr) (kc vc kc2 vc2 : Nat) (w : World) (hK : K.length = n) (hVl : Vs.length = n) (h1 : Sl w (.slice kp n kc) n (K.map (Value.int .i64))) (h2 : Sl w (.slice vp n vc) n (Vs.map sv)) (h3 : Sl w (.slice kp2 n kc2) n (K.map (Value.int .i64))) (h4 : Sl w (.slice vp2 n vc2) n (Vs.map sv)) :
    Calls Tryz.prog 31 #[.agg #[.int .i64 T, .bool L, .slice kp n kc, .slice vp n vc], .agg #[.int .i64 T, .bool L, .slice kp2 n kc2, .slice vp2 n vc2]] w (Ret (.bool true) w) := by
 have hLa := h1.len
 refine zin 73 Tryz.func31 ?_
 refine xa 2 [.int .i64 T, .bool L, .slice kp n kc, .slice vp n vc] 52 fun b1 W1 n1 => ?_
 refine xa 0 [.int .i64 T, .bool L, .slice kp2 n kc2, .slice vp2 n vc2] 52 fun b2 W2 n2 => ?_
 have d2_b1 := n2.ne n1.blk
 have k1'1 := n1.blk.below n2.below
 refine xb 7 0 k1'1 ?_
 refine xb 1 0 n2.blk ?_
 refine xgk 2 [11, 12] (show ((T != T) : Bool) = false from by simp) ?_
 refine xb 1 1 k1'1 ?_
 refine xb 1 1 n2.blk ?_
 refine xgk 3 [17, 18, 19] (show ((L != L) : Bool) = false from by simp) ?_
 refine xb 1 2 k1'1 ?_
 refine xb 2 2 n2.blk ?_
 refine xgk 4 [26, 27, 28] (show (((↑n : Int) != (↑n : Int)) : Bool) = false from by simp) ?_
 refine xb 1 3 k1'1 ?_
 refine xb 2 3 n2.blk ?_
 refine xk 5 (show (((↑n : Int) != (↑n : Int)) : Bool) = false from by simp) ?_
 have hB := Bl.next n1.below n2.below
 refine zl 9 73 (fun zm zkv V => ∃ (i : Nat), zkv = [(2, .pointer (some ⟨b1, 0, none⟩)), (3, .pointer (some ⟨b2, 0, none⟩)), (5, .int .i64 (↑i : Int))] ∧ zm = n - ((↑i : Int)).toNat ∧ Below w.heap.size w V ∧ Blk V b1 ([.int .i64 T, .bool L, .slice kp n kc, .slice vp n vc]) 52 ∧ Blk V b2 ([.int .i64 T, .bool L, .slice kp2 n kc2, .slice vp2 n vc2]) 52 ∧ i ≤ n) ⟨0, rfl, rfl, hB, k1'1, n2.blk, Nat.zero_le _⟩ ?_
 rintro _ _ W6 ⟨i, rfl, rfl, hB_6, k6_b1, k6_b2, hi⟩ J6 hJ6 r6
 refine xb 5 2 k6_b1 ?_
 refine xid 4 ((↑i : Int) < (↑n : Int)) (fun hc7 => ?_) (fun hc7 => ?_)
 · refine xd 5 .z ?_
   have k6_b1'1 := k6_b1.below (below_drew W6)
   refine xb (.e [0] 1) 2 k6_b1'1 ?_
   refine xx (.e [2] 3) _ n i 1 (IntsN.elem h1 hK (k := i) (by omega)).1 ?_
   have hB'1 := Bl.next hB_6 (below_drew W6)
   refine xl (.e [] 4) ((IntsN.elem (h1.below hB'1) hK (k := i) (by omega)).2) ?_
   have k6_b2'1 := k6_b2.below (below_drew W6)
   refine xb (.e [5] 6) 2 k6_b2'1 ?_
   refine xx (.e [7] 8) _ n i 1 (IntsN.elem h3 hK (k := i) (by omega)).1 ?_
   refine xl (.e [] 9) ((IntsN.elem (h3.below hB'1) hK (k := i) (by omega)).2) ?_
   refine xk (.r [10] 2) (show (((K.getD i 0) != (K.getD i 0)) : Bool) = false from by simp) ?_
   refine xwm 5 ((↑i : Int) + 1) (↑(i + 1) : Int) ?_
   exact ze 2 (hJ6 _ _ _ ⟨i + 1, rfl, rfl, hB'1, k6_b1'1, k6_b2'1, by omega⟩ (by omega))
 refine zl 12 73 (fun zm zkv V => ∃ (i : Nat), zkv = [(2, .pointer (some ⟨b1, 0, none⟩)), (3, .pointer (some ⟨b2, 0, none⟩)), (6, .int .i64 (↑i : Int))] ∧ zm = n - ((↑i : Int)).toNat ∧ Below w.heap.size w V ∧ Blk V b1 ([.int .i64 T, .bool L, .slice kp n kc, .slice vp n vc]) 52 ∧ Blk V b2 ([.int .i64 T, .bool L, .slice kp2 n kc2, .slice vp2 n vc2]) 52 ∧ i ≤ n) ⟨0, rfl, rfl, hB_6, k6_b1, k6_b2, Nat.zero_le _⟩ ?_
 rintro _ _ W8 ⟨i, rfl, rfl, hB_8, k8_b1, k8_b2, hi_8⟩ J8 hJ8 r8
 refine xb 5 3 k8_b1 ?_
 refine xid 4 ((↑i : Int) < (↑n : Int)) (fun hc9 => ?_) (fun hc9 => ?_)
 · refine xd 5 .z ?_
   have k8_b1'1 := k8_b1.below (below_drew W8)
   refine xb (.e [0] 1) 3 k8_b1'1 ?_
   refine xx (.e [2] 3) _ n i 1 (Strs.elem h2 hVl (k := i) (by omega)).1 ?_
   have hB'2 := Bl.next hB_8 (below_drew W8)
   refine xl (.e [] 4) ((Strs.elem (h2.below hB'2) hVl (k := i) (by omega)).2) ?_
   have k8_b2'1 := k8_b2.below (below_drew W8)
   refine xb (.e [5] 6) 3 k8_b2'1 ?_
   refine xx (.e [7] 8) _ n i 1 (Strs.elem h4 hVl (k := i) (by omega)).1 ?_
   refine xl (.e [] 9) ((Strs.elem (h4.below hB'2) hVl (k := i) (by omega)).2) ?_
   refine xk (.r [10] 2) (show (!((⟨(Vs.getD i []).toArray⟩ : ByteArray).toList == (⟨(Vs.getD i []).toArray⟩ : ByteArray).toList) : Bool) = false from by simp) ?_
   refine xwm 5 ((↑i : Int) + 1) (↑(i + 1) : Int) ?_
   exact ze 2 (hJ8 _ _ _ ⟨i + 1, rfl, rfl, hB'2, k8_b1'1, k8_b2'1, by omega⟩ (by omega))
 exact xe 11 (.bool true) ⟨rfl, hB_8⟩
set_option maxRecDepth 100000 in
set_option maxHeartbeats 8000000 in
theorem blockReads_law (a : Option Addr) (c : Nat) (l : List UInt8) (no tree : Int) (w : World) (h : Bys w (.slice a l.length c) l) (hg : ErrT w) :
    Calls Tryz.prog 6 #[.slice a l.length c, .int .i64 no, .int .i64 tree] w (Ret (.bool true) w) := by
 have hcap := h.cap rfl
 refine zin 123 Tryz.func6 ?_
 refine xid 13 ((↑l.length : Int) > (6000 : Int)) (fun hc1 => ?_) (fun hc1 => ?_)
 · refine xr 2 (args := #[]) (lives11 _) fun W2 hb2 => ?_
   exact xe 5 (.bool true) ⟨rfl, hb2⟩
 have hs8 : w.heap.size ≤ (w).heap.size := (Below.refl w.heap.size _).size
 refine xc 5 (args := #[.slice a l.length c]) (image_OfR a c l.length ((l.length / 256) * 256) l _ rfl (by omega) (h.below (Below.refl w.heap.size _)) (by omega) hcap) ?_
 rintro _ W3 ⟨_, rfl, hb3, bi, pi, ci, rfl, _, hI⟩
 refine xc 1 (args := #[.slice a l.length c]) (ref_OfN a c l.length (l.length / 256) l _ rfl (by omega) (h.below hb3) (by omega)) ?_
 rintro _ W4 ⟨_, rfl, hb4, bj, pj, cj, rfl, _, hJ⟩
 have hI'1 := hI.below hb4
 refine xc 7 (args := #[.pointer (some ⟨bi, 0, none⟩)]) ((block_Super _ bi pi _ ci (l.take ((l.length / 256) * 256)) _ hI'1).mono (fun _ _ q => q.u)) ?_
 rintro _ W5 ⟨v1, rfl, hb5, hv1⟩
 refine xa 3 [.int .i64 0, .int .i64 0, .int .i64 0, .int .i64 0, .int .i64 0, .int .i64 0, .int .i64 0, .int .i64 0, .int .i64 0, .int .i64 0, .int .i64 0] 75 fun b6 W6 n6 => ?_
 have hB'1 := Bl.next (Bl.next hb3 hb4) hb5
 have g6 := n6.ge hB'1
 refine xsv 0 n6.blk [.int .i64 ((supR (l.take ((l.length / 256) * 256))).tx), .int .i64 ((supR (l.take ((l.length / 256) * 256))).time), .int .i64 ((supR (l.take ((l.length / 256) * 256))).unit), .int .i64 ((supR (l.take ((l.length / 256) * 256))).data), .int .i64 ((supR (l.take ((l.length / 256) * 256))).blocks), .int .i64 ((supR (l.take ((l.length / 256) * 256))).top), .int .i64 ((supR (l.take ((l.length / 256) * 256))).details), .int .i64 ((supR (l.take ((l.length / 256) * 256))).dslots), .int .i64 ((supR (l.take ((l.length / 256) * 256))).dover), .int .i64 ((supR (l.take ((l.length / 256) * 256))).mindex), .int .i64 ((supR (l.take ((l.length / 256) * 256))).mover)] fun W7 u7 k7 => ?_
 have hJ'1 := ((hJ.below hb5).below n6.below).only (Only.of_upd (T := [75]) u7 n6.blk (by decide)) (by decide)
 refine xc 6 (args := #[.pointer (some ⟨bj, 0, none⟩)]) ((ref11_Super _ bj pj _ cj (l.take ((l.length / 256) * 256)) _ hJ'1).mono (fun _ _ q => q.u)) ?_
 rintro _ W8 ⟨a1, c1, rfl, hb8, hf1⟩
 have hs8 := (u7.below (Bl.next hB'1 n6.below) g6).size
 refine xa 3 [.int .i64 0, .int .i64 0, .int .i64 0, .int .i64 0, .int .i64 0, .int .i64 0, .int .i64 0, .int .i64 0, .int .i64 0, .int .i64 0, .int .i64 0] 75 fun b9 W9 n9 => ?_
 have k7'1 := k7.below hb8
 have d9_b6 := n9.ne k7'1
 have hB'2 := Bl.next (u7.below (Bl.next hB'1 n6.below) g6) hb8
 have g9 := n9.ge hB'2
 refine xa 0 [.slice none 0 0, .int .i64 0] 45 fun b10 W10 n10 => ?_
 have hB'3 := Bl.next hB'2 n9.below
 have g10 := n10.ge hB'3
 have k9 := n9.blk.below n10.below
 refine xsv 0 k9 [.int .i64 ((supR (l.take ((l.length / 256) * 256))).tx), .int .i64 ((supR (l.take ((l.length / 256) * 256))).time), .int .i64 ((supR (l.take ((l.length / 256) * 256))).unit), .int .i64 ((supR (l.take ((l.length / 256) * 256))).data), .int .i64 ((supR (l.take ((l.length / 256) * 256))).blocks), .int .i64 ((supR (l.take ((l.length / 256) * 256))).top), .int .i64 ((supR (l.take ((l.length / 256) * 256))).details), .int .i64 ((supR (l.take ((l.length / 256) * 256))).dslots), .int .i64 ((supR (l.take ((l.length / 256) * 256))).dover), .int .i64 ((supR (l.take ((l.length / 256) * 256))).mindex), .int .i64 ((supR (l.take ((l.length / 256) * 256))).mover)] fun W11 u11 k11 => ?_
 have k10 := u11.blkT n10.blk k9 (by decide)
 refine xsv 0 k10 [.slice a1 ((fltL 0 (superErr (l.take ((l.length / 256) * 256)))).length) c1, .int .i64 (superErr (l.take ((l.length / 256) * 256)))] fun W12 u12 k12 => ?_
 have hI'2 := (((((((hI'1.below hb5).below n6.below).only (Only.of_upd (T := [75]) u7 n6.blk (by decide)) (by decide)).below hb8).below n9.below).below n10.below).only (Only.of_upd (T := [75]) u11 k9 (by decide)) (by decide)).only (Only.of_upd (T := [45]) u12 k10 (by decide)) (by decide)
 refine xc 7 (args := #[.pointer (some ⟨bi, 0, none⟩), .int .i64 no, .int .i64 tree]) ((block_Node _ bi pi _ ci (l.take ((l.length / 256) * 256)) no tree _ hI'2).mono (fun _ _ q => q.u)) ?_
 rintro _ W13 ⟨kp, kc, vp, vc, v2, rfl, hb13, hn1, hn2, hv2⟩
 have hs13 := (u12.below (u11.below (Bl.next hB'3 n10.below) g9) g10).size
 refine xa 3 [.int .i64 0, .bool false, .slice none 0 0, .slice none 0 0] 52 fun b14 W14 n14 => ?_
 have hB'4 := Bl.next (u12.below (u11.below (Bl.next hB'3 n10.below) g9) g10) hb13
 have g14 := n14.ge hB'4
 refine xsv 0 n14.blk [.int .i64 (nodTR (l.take ((l.length / 256) * 256)) no tree), .bool (nodLR (l.take ((l.length / 256) * 256)) no tree), .slice kp (nodNR (l.take ((l.length / 256) * 256)) no tree) kc, .slice vp (nodNR (l.take ((l.length / 256) * 256)) no tree) vc] fun W15 u15 k15 => ?_
 have hJ'2 := (((((((hJ'1.below hb8).below n9.below).below n10.below).only (Only.of_upd (T := [75]) u11 k9 (by decide)) (by decide)).only (Only.of_upd (T := [45]) u12 k10 (by decide)) (by decide)).below hb13).below n14.below).only (Only.of_upd (T := [52]) u15 n14.blk (by decide)) (by decide)
 refine xc 8 (args := #[.pointer (some ⟨bj, 0, none⟩), .int .i64 no, .int .i64 tree]) ((ref11_Node _ bj pj _ cj (l.take ((l.length / 256) * 256)) no tree _ hJ'2).mono (fun _ _ q => q.u)) ?_
 rintro _ W16 ⟨kp2, kc2, vp2, vc2, a2, c2, rfl, hb16, hn3, hn4, hf2⟩
 have hs16 := (u15.below (Bl.next hB'4 n14.below) g14).size
 refine xa 3 [.int .i64 0, .bool false, .slice none 0 0, .slice none 0 0] 52 fun b17 W17 n17 => ?_
 have k15'1 := k15.below hb16
 have d17_b14 := n17.ne k15'1
 have hB'5 := Bl.next (u15.below (Bl.next hB'4 n14.below) g14) hb16
 have g17 := n17.ge hB'5
 refine xa 0 [.slice none 0 0, .int .i64 0] 45 fun b18 W18 n18 => ?_
 have k12'1 := ((u15.blkT ((k12.below hb13).below n14.below) n14.blk (by decide)).below hb16).below n17.below
 have d18_b10 := n18.ne k12'1
 have hB'6 := Bl.next hB'5 n17.below
 have g18 := n18.ge hB'6
 have k17 := n17.blk.below n18.below
 refine xsv 0 k17 [.int .i64 (nodTR (l.take ((l.length / 256) * 256)) no tree), .bool (nodLR (l.take ((l.length / 256) * 256)) no tree), .slice kp2 (nodNR (l.take ((l.length / 256) * 256)) no tree) kc2, .slice vp2 (nodNR (l.take ((l.length / 256) * 256)) no tree) vc2] fun W19 u19 k19 => ?_
 have k18 := u19.blkT n18.blk k17 (by decide)
 refine xsv 0 k18 [.slice a2 ((fltL no (nodeErr (l.take ((l.length / 256) * 256)) no tree)).length) c2, .int .i64 (nodeErr (l.take ((l.length / 256) * 256)) no tree)] fun W20 u20 k20 => ?_
 have k7'2 := u20.blkT (u19.blkT ((((u15.blkT (((u12.blkT (u11.blk ((k7'1.below n9.below).below n10.below) (Ne.symm (Ne.symm d9_b6))) k10 (by decide)).below hb13).below n14.below) n14.blk (by decide)).below hb16).below n17.below).below n18.below) k17 (by decide)) k18 (by decide)
 refine xlv 5 k7'2.rp ?_
 have k11'1 := u20.blkT (u19.blkT ((((u15.blkT (((u12.blkT k11 k10 (by decide)).below hb13).below n14.below) n14.blk (by decide)).below hb16).below n17.below).below n18.below) k17 (by decide)) k18 (by decide)
 refine xlv 0 k11'1.rp ?_
 refine xbo 0 (t := 75) (t2 := 75) (fun _ _ _ _ zo zx zy V hV => run_supne (supR (l.take ((l.length / 256) * 256))) zo zx zy V) ?_
 have k12'2 := u20.blk (u19.blkT (k12'1.below n18.below) k17 (by decide)) (Ne.symm (Ne.symm d18_b10))
 refine xlv 2 k12'2.rp ?_
 have hB'7 := u20.below (u19.below (Bl.next hB'6 n18.below) g17) g18
 have hv1'1 := ((((((((((((((hv1.below n6.below).only (Only.of_upd (T := [75]) u7 n6.blk (by decide)) (by decide)).below hb8).below n9.below).below n10.below).only (Only.of_upd (T := [75]) u11 k9 (by decide)) (by decide)).only (Only.of_upd (T := [45]) u12 k10 (by decide)) (by decide)).below hb13).below n14.below).only (Only.of_upd (T := [52]) u15 n14.blk (by decide)) (by decide)).below hb16).below n17.below).below n18.below).only (Only.of_upd (T := [52]) u19 k17 (by decide)) (by decide)).only (Only.of_upd (T := [45]) u20 k18 (by decide)) (by decide)
 have hf1'1 := u20.own2 (u19.own2 (own_below (own_below (own_below (u15.own2 (own_below (own_below (u12.own2 (u11.own2 (own_below (own_below (own_mono hf1 hs8) n9.below) n10.below) k9 (by decide)) k10 (by decide)) hb13) n14.below) n14.blk (by decide)) hb16) n17.below) n18.below) k17 (by decide)) k18 (by decide)
 refine xr 0 (args := #[v1, .agg #[.slice a1 ((fltL 0 (superErr (l.take ((l.length / 256) * 256)))).length) c1, .int .i64 (superErr (l.take ((l.length / 256) * 256)))]]) (law11_same 0 (superErr (l.take ((l.length / 256) * 256))) v1 a1 c1 _ (hg.below hB'7) hv1'1 (own_sl hf1'1)) fun W21 hb21 => ?_
 have k15'2 := (u20.blkT (u19.blk ((k15'1.below n17.below).below n18.below) (Ne.symm (Ne.symm d17_b14))) k18 (by decide)).below hb21
 refine xlv 3 k15'2.rp ?_
 have k19'1 := (u20.blkT k19 k18 (by decide)).below hb21
 refine xlv 0 k19'1.rp ?_
 have hn1'1 := own_below (u20.own2 (u19.own2 (own_below (own_below (own_below (u15.own2 (own_below (own_mono hn1 hs13) n14.below) n14.blk (by decide)) hb16) n17.below) n18.below) k17 (by decide)) k18 (by decide)) hb21
 have hn2'1 := own_below (u20.own2 (u19.own2 (own_below (own_below (own_below (u15.own2 (own_below (own_mono hn2 hs13) n14.below) n14.blk (by decide)) hb16) n17.below) n18.below) k17 (by decide)) k18 (by decide)) hb21
 have hn3'1 := own_below (u20.own2 (u19.own2 (own_below (own_below (own_mono hn3 hs16) n17.below) n18.below) k17 (by decide)) k18 (by decide)) hb21
 have hn4'1 := own_below (u20.own2 (u19.own2 (own_below (own_below (own_mono hn4 hs16) n17.below) n18.below) k17 (by decide)) k18 (by decide)) hb21
 refine xr 0 (args := #[.agg #[.int .i64 (nodTR (l.take ((l.length / 256) * 256)) no tree), .bool (nodLR (l.take ((l.length / 256) * 256)) no tree), .slice kp (nodNR (l.take ((l.length / 256) * 256)) no tree) kc, .slice vp (nodNR (l.take ((l.length / 256) * 256)) no tree) vc], .agg #[.int .i64 (nodTR (l.take ((l.length / 256) * 256)) no tree), .bool (nodLR (l.take ((l.length / 256) * 256)) no tree), .slice kp2 (nodNR (l.take ((l.length / 256) * 256)) no tree) kc2, .slice vp2 (nodNR (l.take ((l.length / 256) * 256)) no tree) vc2]]) (ref07_Same (nodTR (l.take ((l.length / 256) * 256)) no tree) (nodLR (l.take ((l.length / 256) * 256)) no tree) (nodNR (l.take ((l.length / 256) * 256)) no tree) (nodKR (l.take ((l.length / 256) * 256)) no tree) (nodVR (l.take ((l.length / 256) * 256)) no tree) kp vp kp2 vp2 kc vc kc2 vc2 _ (nodKR_len _ _ _) (nodVR_len _ _ _) (own_sl hn1'1) (own_sl hn2'1) (own_sl hn3'1) (own_sl hn4'1)) fun W22 hb22 => ?_
 have k20'1 := (k20.below hb21).below hb22
 refine xlv 4 k20'1.rp ?_
 have hB'8 := Bl.next (Bl.next hB'7 hb21) hb22
 have hv2'1 := ((((((((hv2.below n14.below).only (Only.of_upd (T := [52]) u15 n14.blk (by decide)) (by decide)).below hb16).below n17.below).below n18.below).only (Only.of_upd (T := [52]) u19 k17 (by decide)) (by decide)).only (Only.of_upd (T := [45]) u20 k18 (by decide)) (by decide)).below hb21).below hb22
 have hf2'1 := own_below (own_below (u20.own2 (u19.own2 (own_below (own_below (own_mono hf2 hs16) n17.below) n18.below) k17 (by decide)) k18 (by decide)) hb21) hb22
 refine xr 0 (args := #[v2, .agg #[.slice a2 ((fltL no (nodeErr (l.take ((l.length / 256) * 256)) no tree)).length) c2, .int .i64 (nodeErr (l.take ((l.length / 256) * 256)) no tree)]]) (law11_same no (nodeErr (l.take ((l.length / 256) * 256)) no tree) v2 a2 c2 _ (hg.below hB'8) hv2'1 (own_sl hf2'1)) fun W23 hb23 => ?_
 have hI'3 := ((((((((((hI'2.below hb13).below n14.below).only (Only.of_upd (T := [52]) u15 n14.blk (by decide)) (by decide)).below hb16).below n17.below).below n18.below).only (Only.of_upd (T := [52]) u19 k17 (by decide)) (by decide)).only (Only.of_upd (T := [45]) u20 k18 (by decide)) (by decide)).below hb21).below hb22).below hb23
 refine xc 11 (args := #[.pointer (some ⟨bi, 0, none⟩), .int .i64 no]) ((block_Bits _ bi pi _ ci (l.take ((l.length / 256) * 256)) no _ hI'3).mono (fun _ _ q => q.u)) ?_
 rintro _ W24 ⟨p3, q3, v3, rfl, hb24, hr3, hv3⟩
 have hs24 := (Bl.next hB'8 hb23).size
 have hJ'3 := ((((((((hJ'2.below hb16).below n17.below).below n18.below).only (Only.of_upd (T := [52]) u19 k17 (by decide)) (by decide)).only (Only.of_upd (T := [45]) u20 k18 (by decide)) (by decide)).below hb21).below hb22).below hb23).below hb24
 refine xc 11 (args := #[.pointer (some ⟨bj, 0, none⟩), .int .i64 no]) (ref11_Bits _ bj pj _ cj (l.take ((l.length / 256) * 256)) no _ hJ'3) ?_
 rintro _ W25 ⟨p4, q4, a3, c3, rfl, hb25, hr4, hf3⟩
 have hs25 := (Bl.next (Bl.next hB'8 hb23) hb24).size
 refine xa 3 [.slice none 0 0, .int .i64 0] 45 fun b26 W26 n26 => ?_
 have k12'3 := ((((k12'2.below hb21).below hb22).below hb23).below hb24).below hb25
 have d26_b10 := n26.ne k12'3
 have k20'2 := ((k20'1.below hb23).below hb24).below hb25
 have d26_b18 := n26.ne k20'2
 have hB'9 := Bl.next (Bl.next (Bl.next hB'8 hb23) hb24) hb25
 have g26 := n26.ge hB'9
 refine xsv 1 n26.blk [.slice a3 ((fltL no (bitsErr (l.take ((l.length / 256) * 256)) no)).length) c3, .int .i64 (bitsErr (l.take ((l.length / 256) * 256)) no)] fun W27 u27 k27 => ?_
 have hI'4 := (((hI'3.below hb24).below hb25).below n26.below).only (Only.of_upd (T := [45]) u27 n26.blk (by decide)) (by decide)
 refine xc 6 (args := #[.pointer (some ⟨bi, 0, none⟩), .int .i64 no]) ((block_Index _ bi pi _ ci (l.take ((l.length / 256) * 256)) no _ hI'4).mono (fun _ _ q => q.u)) ?_
 rintro _ W28 ⟨p5, q5, v4, rfl, hb28, hr5, hv4⟩
 have hs28 := (u27.below (Bl.next hB'9 n26.below) g26).size
 have hJ'4 := (((hJ'3.below hb25).below n26.below).only (Only.of_upd (T := [45]) u27 n26.blk (by decide)) (by decide)).below hb28
 refine xc 11 (args := #[.pointer (some ⟨bj, 0, none⟩), .int .i64 no]) (ref11_Index _ bj pj _ cj (l.take ((l.length / 256) * 256)) no _ hJ'4) ?_
 rintro _ W29 ⟨p6, q6, a4, c4, rfl, hb29, hr6, hf4⟩
 have hs29 := (Bl.next (u27.below (Bl.next hB'9 n26.below) g26) hb28).size
 refine xa 3 [.slice none 0 0, .int .i64 0] 45 fun b30 W30 n30 => ?_
 have k12'4 := ((u27.blk (k12'3.below n26.below) (Ne.symm (Ne.symm d26_b10))).below hb28).below hb29
 have d30_b10 := n30.ne k12'4
 have k20'3 := ((u27.blk (k20'2.below n26.below) (Ne.symm (Ne.symm d26_b18))).below hb28).below hb29
 have d30_b18 := n30.ne k20'3
 have k27'1 := (k27.below hb28).below hb29
 have d30_b26 := n30.ne k27'1
 have hB'10 := Bl.next (Bl.next (u27.below (Bl.next hB'9 n26.below) g26) hb28) hb29
 have g30 := n30.ge hB'10
 refine xsv 1 n30.blk [.slice a4 ((fltL no (idxErr (l.take ((l.length / 256) * 256)) no)).length) c4, .int .i64 (idxErr (l.take ((l.length / 256) * 256)) no)] fun W31 u31 k31 => ?_
 have hr3'1 := u31.own2 (own_below (own_below (own_below (u27.own2 (own_below (own_below (own_mono hr3 hs24) hb25) n26.below) n26.blk (by decide)) hb28) hb29) n30.below) n30.blk (by decide)
 have hr4'1 := u31.own2 (own_below (own_below (own_below (u27.own2 (own_below (own_mono hr4 hs25) n26.below) n26.blk (by decide)) hb28) hb29) n30.below) n30.blk (by decide)
 refine xr 6 (args := #[.slice p3 ((bitR (l.take ((l.length / 256) * 256)) no).length) q3, .slice p4 ((bitR (l.take ((l.length / 256) * 256)) no).length) q4]) (ref01_Same p3 p4 q3 q4 (bitR (l.take ((l.length / 256) * 256)) no) _ (own_sl hr3'1) (own_sl hr4'1)) fun W32 hb32 => ?_
 have k27'2 := (u31.blk (k27'1.below n30.below) (Ne.symm (Ne.symm d30_b26))).below hb32
 refine xlv 2 k27'2.rp ?_
 have hB'11 := Bl.next (u31.below (Bl.next hB'10 n30.below) g30) hb32
 have hv3'1 := (((((((hv3.below hb25).below n26.below).only (Only.of_upd (T := [45]) u27 n26.blk (by decide)) (by decide)).below hb28).below hb29).below n30.below).only (Only.of_upd (T := [45]) u31 n30.blk (by decide)) (by decide)).below hb32
 have hf3'1 := own_below (u31.own2 (own_below (own_below (own_below (u27.own2 (own_below (own_mono hf3 hs25) n26.below) n26.blk (by decide)) hb28) hb29) n30.below) n30.blk (by decide)) hb32
 refine xr 0 (args := #[v3, .agg #[.slice a3 ((fltL no (bitsErr (l.take ((l.length / 256) * 256)) no)).length) c3, .int .i64 (bitsErr (l.take ((l.length / 256) * 256)) no)]]) (law11_same no (bitsErr (l.take ((l.length / 256) * 256)) no) v3 a3 c3 _ (hg.below hB'11) hv3'1 (own_sl hf3'1)) fun W33 hb33 => ?_
 have hr5'1 := own_below (own_below (u31.own2 (own_below (own_below (own_mono hr5 hs28) hb29) n30.below) n30.blk (by decide)) hb32) hb33
 have hr6'1 := own_below (own_below (u31.own2 (own_below (own_mono hr6 hs29) n30.below) n30.blk (by decide)) hb32) hb33
 refine xr 4 (args := #[.slice p5 ((idxR (l.take ((l.length / 256) * 256)) no).length) q5, .slice p6 ((idxR (l.take ((l.length / 256) * 256)) no).length) q6]) (ref10_Same p5 p6 q5 q6 (idxR (l.take ((l.length / 256) * 256)) no) _ (own_sl hr5'1) (own_sl hr6'1)) fun W34 hb34 => ?_
 have k31'1 := ((k31.below hb32).below hb33).below hb34
 refine xlv 3 k31'1.rp ?_
 have hB'12 := Bl.next (Bl.next hB'11 hb33) hb34
 have hv4'1 := (((((hv4.below hb29).below n30.below).only (Only.of_upd (T := [45]) u31 n30.blk (by decide)) (by decide)).below hb32).below hb33).below hb34
 have hf4'1 := own_below (own_below (own_below (u31.own2 (own_below (own_mono hf4 hs29) n30.below) n30.blk (by decide)) hb32) hb33) hb34
 refine xr 0 (args := #[v4, .agg #[.slice a4 ((fltL no (idxErr (l.take ((l.length / 256) * 256)) no)).length) c4, .int .i64 (idxErr (l.take ((l.length / 256) * 256)) no)]]) (law11_same no (idxErr (l.take ((l.length / 256) * 256)) no) v4 a4 c4 _ (hg.below hB'12) hv4'1 (own_sl hf4'1)) fun W35 hb35 => ?_
 refine xr 2 (args := #[]) (lives11 _) fun W36 hb36 => ?_
 have hB'13 := Bl.next (Bl.next hB'12 hb35) hb36
 exact xe 5 (.bool true) ⟨rfl, hB'13⟩
end Go.Proofs.YtinegkldgjhnpaaGreatDoor
namespace Go.Proofs.YtinegkldgjhnpaaGreatDoor
open Go.ChangeShapes Go.WideShapes Go.ChangeAt Go.RowKit Go.Joins
set_option linter.unusedVariables false
theorem bytes_open {H : Type} {enc : TypeId × Value → H} {P : Program} {W : World} {r : Reach} {b0 : Nat} {t e : TypeId} {v : Value} {d : DataW H} {p : List MemPlace} (ht : P.underlying t = some (.slice e)) (he : P.underlying e = some (.int .u8)) (hC : P.cellsOf e = 1)
    (hv : Value.okWide P W r b0 t v) (h : DataW.Trod enc P W 0 (fun _ => true) true t v d p) : ∃ l, Bys W v l := by
  obtain ⟨a, len, cap, rfl⟩ := okWide_slice ht hv
  obtain ⟨fuel, hf⟩ := h
  rcases open_ints ht he hC hf with ⟨hcs, _⟩ | ⟨x, l, c, zs, hcs, _, hl, hm, hz, _, hcell, hwz⟩
  · simp [Value.cells] at hcs
    obtain ⟨rfl, rfl, rfl⟩ := hcs
    exact ⟨[], .inl ⟨_, _, rfl, rfl, rfl⟩⟩
  · simp [Value.cells] at hcs
    obtain ⟨rfl, rfl, rfl⟩ := hcs
    have hz' : zs.length = cap := by simpa using hz
    by_cases h0 : len = 0
    · subst h0
      exact ⟨[], .inl ⟨_, _, rfl, rfl, rfl⟩⟩
    · obtain ⟨b, off, spot⟩ := x
      have hc := hcell 0 (by omega)
      have hspot : spot = none := by simpa [Addr.add] using World.cell?_spot hc
      subst hspot
      have hlen : ((zs.take len).map fun n => UInt8.ofNat n.toNat).length = len := by simp; omega
      refine ⟨(zs.take len).map fun n => UInt8.ofNat n.toNat, .inr ⟨b, off, cap, by rw [hlen], by omega, hm, fun j x hj => ?_⟩⟩
      have hjl : j < len := by have := (List.getElem?_eq_some_iff.1 hj).1; simp at this; omega
      have e1 : zs[j]? = some zs[j] := List.getElem?_eq_getElem (by omega)
      have hw := hwz zs[j] (List.getElem_mem _)
      have hcj := hcell j (by omega)
      have e2 : zs.getD j 0 = zs[j] := by simp [List.getD, e1]
      rw [e2] at hcj
      have hx : x = .int .u8 zs[j] := by
        rw [List.getElem?_map, List.getElem?_map, List.getElem?_take_of_lt hjl, e1] at hj
        simp only [Option.map_some, Option.some.injEq] at hj
        rw [← hj]
        have hb : 0 ≤ zs[j] ∧ zs[j] ≤ 255 := by simpa [Lit.wf, IntKind.min, IntKind.max, IntKind.signed, IntKind.bits] using hw
        have h3 : (zs[j].toNat % 256 : Nat) = zs[j].toNat := Nat.mod_eq_of_lt (by omega)
        simp only [bv, UInt8.toNat_ofNat']
        rw [show (2 ^ 8 : Nat) = 256 from rfl, h3, Int.toNat_of_nonneg hb.1]
      subst hx
      by_cases hj0 : j = 0
      · subst hj0; simpa [Addr.add] using hcj
      · simpa [Addr.add, hj0] using hcj
end Go.Proofs.YtinegkldgjhnpaaGreatDoor
