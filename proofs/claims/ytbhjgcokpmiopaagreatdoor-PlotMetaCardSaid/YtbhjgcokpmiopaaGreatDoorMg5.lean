/- plot.Meta$1: a slot noted; plot.lay with that closure. plot.lay with the closure of plot.Meta: blocks of counts laid, their slots noted. A region that draws its order, inside a round of a range over a function: walked as everywhere. No program is named here. What package span computes: All, Has, Right and Fits return the plain functions below, for any span and any slice of keys, and change nothing that lay there. What package span's iterator 'each' hands over: the spans of the children from the last one to the first, for any span and any keys; and that Child and Split return the plain functions below. What the iterator of slices.Chunk hands over: chunks of 960 of a slice of ints. slices.Chunk of counts. What the iterator of slices.Backward hands over: the elements of a slice of ints from the last one to the first. block.Node, whatever lies in the image. slices.Backward of ints. (*walker).note: an error noted at the blocks of the way. What a round of a range over chunks keeps. slices.Contains of ints. Child and Split of package span return the plain functions below, for any span and any slice of keys. (*walker).look. (*walker).leaf. append onto one of two rows of the same type: where the new row lies. The document's answer for layer 21: Split. The document's answer for layer 21: Split, walked. The document's answer for layer 22: Data. slots.Put and ref10.Put: an index of slots as bytes. The document's answer for layer 22: Data with room. The document's answer for layer 10: Put. Counts with one more at some numbers; scantlinglaw22.free. The document's answer for layer 22: Meta with room. tally.Split of counts. plot.lay with the closure of plot.Data: blocks of counts laid, their slots noted. law17.made: an allocator of a new image. The example of law 17. size.Bitmaps, plot.Data with room and without. plot.Meta's errors. The document's answer for layer 22: Meta with room, walked. Parts for plot.Meta with room. plot.Meta with room. The document's answer for layer 22: Meta's errors. -/
import Derived.RangeFuncNested
import Derived.RangeFuncBound
import Derived.RangeFuncCalls
import Derived.RangeFuncLeaves
import Derived.OwnWalkIn
import Derived.OrdersIn
import Derived.Test.YtbhjgcokpmiopaaGreatDoorRows
import Derived.Shelf.Abstract
import Derived.Shelf.RegionOpen
import Derived.TacticsInMore
import Derived.LoopNIn
import Derived.LoopIn
import Derived.Sort.BigQuietIn
import Derived.Test.YtbhjgcokpmiopaaGreatDoorMg4
namespace Go.Proofs.YtbhjgcokpmiopaaGreatDoor
open Go.RowKit Go.Extern.Stop Go.Stop Go.Extern
set_option linter.unusedVariables false
attribute [local irreducible] wpList wpAnyH Code.wp Oper.wp Go

def ClosM (B Bx bl : Nat) (L : List (List Int)) (q i : Nat) (w : World) (e : Ending) (w' : World) : Prop :=
  ∃ u p c, e = .returned u ∧ Below B w w' ∧ Only [69, 72] w w' ∧ Blk w' bl [.slice p (i + 1) c] 69 ∧ w'.ownsRow Bx 72 3 (.slice p (i + 1) c) (i + 1) (rsL L q (i + 1)) ∧ FrB Bx [bl] w w'
set_option maxRecDepth 100000 in
set_option maxHeartbeats 4000000 in
theorem plot_meta1 (B Bx bl : Nat) (p : Option Addr) (c : Nat) (L : List (List Int)) (q i : Nat) (w : World) (hBm : B ≤ Bx) (hBx : Bx ≤ w.heap.size) (hBw : B ≤ w.heap.size) (hBl : B ≤ bl) (kl : Blk w bl [.slice p i c] 69) (hup : w.ownsRow Bx 72 3 (.slice p i c) i (rsL L q i)) (hi : i ≤ 100000) :
    Calls Tryz.prog 31 #[.agg #[.int .i64 (↑(q + i) : Int), .int .i64 (↑(freeN (L.getD i [])) : Int), .int .i64 (↑(firstN (L.getD i [])) : Int)], .pointer (some ⟨bl, 0, none⟩)] w (ClosM B Bx bl L q i w) := by
 have hZ : FrZ Bx [bl] w w := FrZ.refl hBx
 refine zin 7 Tryz.func31 ?_
 refine xa 2 [.int .i64 (↑(q + i) : Int), .int .i64 (↑(freeN (L.getD i [])) : Int), .int .i64 (↑(firstN (L.getD i [])) : Int)] 72 fun b1 W1 n1 => ?_
 have r1_hup := own_ne hup n1
 have kl'1 := kl.below n1.below
 refine xb 3 0 kl'1 ?_
 refine xlv 0 n1.blk.rp ?_
 refine xbs 0 1 [.int .i64 (↑(q + i) : Int), .int .i64 (↑(freeN (L.getD i [])) : Int), .int .i64 (↑(firstN (L.getD i [])) : Int)] 72 fun b2 W2 n2 => ?_
 have d2_b1 := n2.ne n1.blk
 have hup'1 := own_below hup n1.below
 have r2_hup := own_ne hup'1 n2
 have hup'2 := own_below hup'1 n2.below
 have hB := Bl.nextB (Bl.nextB (Below.refl B w) hBw n1.below) hBw n2.below
 refine xbi 0 fun _ _ _ _ zJ zQ zo zx zy zK => op_app (m := 1) (news := [.int .i64 (↑(q + i) : Int), .int .i64 (↑(freeN (L.getD i [])) : Int), .int .i64 (↑(firstN (L.getD i [])) : Int)]) (.agg #[.int .i64 0, .int .i64 0, .int .i64 0]) 3 24 (i + 1) ((rsL L q (i + 1))) zo Tryz.underlying69 (by kernel_rfl) rfl (by decide) zx hup'2 zy (n2.blk.sl 1 1 (by decide) (by decide)) rfl (by simp [Value.oneCell']) (by unfold maxLen; omega) (by omega) (Nat.le_trans hBx hB.size) (by rfl) (by rw [rsL_succ]; rfl) fun px3 cx3 W3 o3 hg3 hb3 => ?_
 refine zK _ _ ?_
 have kl'2 := (kl'1.below n2.below).grown hg3 hup'2 (by decide)
 refine xs 0 kl'2 [.slice px3 (i + 1) cx3] fun W4 u4 k4 => ?_
 have hB'1 := u4.below (hB.trans (hb3.mono hBm)) hBl
 have hO := (((show Only [69, 72] w _ from (Only.of_below n1.below)).trans (Only.of_below n2.below)).trans (Only.of_grown hg3 hup'2 (by decide))).trans (Only.of_upd u4 kl'2 (by decide))
 have o3'1 := u4.own2 o3 kl'2 (by decide)
 have hZ'1 := (((hZ.below n1.below).below n2.below).grown hg3 hup'2).upd u4 (by simp)
 exact xe 1 (.tuple #[]) ⟨_, _, _, rfl, hB'1, hO, k4, o3'1, hZ'1.fr⟩
end Go.Proofs.YtbhjgcokpmiopaaGreatDoor
namespace Go.Proofs.YtbhjgcokpmiopaaGreatDoor
open Go.RowKit Go.Extern.Stop Go.Stop Go.Extern
set_option linter.unusedVariables false
attribute [local irreducible] wpList wpAnyH Code.wp Oper.wp Go

def LayPostM (B ba b g nn cc : Nat) (pa : Option Addr) (ca f N k0 : Nat) (bs : List UInt8) (bl : Nat) (L : List (List Int)) (w : World) (e : Ending) (w' : World) : Prop :=
  ∃ p c, e = .returned .nilIface ∧ Below B w w' ∧ Only [93, 5, 69, 72] w w' ∧ Fr [ba, g, bl] w w' ∧ Al B ba b g nn cc pa ca f N (k0 + L.length) (cntsB L (f + k0) bs L.length) w' ∧ Blk w' bl [.slice p L.length c] 69 ∧ w'.ownsRow w.heap.size 72 3 (.slice p L.length c) L.length (rsL L (f + k0) L.length)
set_option maxRecDepth 100000 in
set_option maxHeartbeats 8000000 in
theorem plot_layM (B ba b g nn cc : Nat) (pa : Option Addr) (ca f N k0 : Nat) (bs : List UInt8) (bl B2 : Nat) (pl : Option Addr) (cl : Nat) (gs : List (Nat × Nat)) (L : List (List Int)) (w : World) (hC : AlC B ba nn cc ca f N) (hA : Al B ba b g nn cc pa ca f N k0 bs w) (hL : Lists w B2 (.slice pl L.length cl) gs L) (hS : ∀ i, i < L.length → Small (L.getD i []) ∧ (L.getD i []).length ≤ 960) (hf1 : 1 ≤ f) (hk : k0 + L.length ≤ N) (kl : Blk w bl [.slice none 0 0] 69) (hBl : B ≤ bl) (hBw : B ≤ w.heap.size) :
    Calls Tryz.prog 30 #[.pointer (some ⟨ba, 0, none⟩), .slice pl L.length cl, .func (.func 31) #[] #[.pointer (some ⟨bl, 0, none⟩)]] w (LayPostM B ba b g nn cc pa ca f N k0 bs bl L w) := by
 have hcf := hC.hf
 have hcn := hC.hn
 refine zin 51 Tryz.func30 ?_
 have hB := Below.refl B w
 refine zl 14 51 (fun zm zkv V => ∃ (i : Nat) (p : Option Addr) (c : Nat), zkv = [(0, .pointer (some ⟨ba, 0, none⟩)), (2, .func (.func 31) #[] #[.pointer (some ⟨bl, 0, none⟩)]), (15, .slice pl L.length cl), (16, .int .i64 (↑L.length : Int)), (17, .int .i64 (↑i : Int))] ∧ zm = L.length - ((↑i : Int)).toNat ∧ Below B w V ∧ Fr [ba, g, bl] w V ∧ Only [93, 5, 69, 72] w V ∧ Blk V bl ([.slice p i c]) 69 ∧ Al B ba b g nn cc pa ca f N (k0 + i) (cntsB L (f + k0) bs i) V ∧ Lists V B2 (.slice pl L.length cl) gs L ∧ V.ownsRow w.heap.size 72 3 (.slice p i c) i (rsL L (f + k0) i) ∧ i ≤ L.length) ⟨0, none, 0, rfl, rfl, hB, (Fr.refl _ _), (Only.refl _ _), kl, hA, hL, World.ownsRow_nil _ _ _ _, Nat.zero_le _⟩ ?_
 rintro _ _ W1 ⟨i, p, c, rfl, rfl, hB_1, hX_1, hO_1, k1_bl, hA, hL, hup, hi⟩ J1 hJ1 r1
 refine xid 6 ((↑i : Int) < (↑L.length : Int)) (fun hc2 => ?_) (fun hc2 => ?_)
 · refine xx 6 _ L.length i 1 (Lists.elem hL rfl (k := i) (by omega)).1 ?_
   refine xl 0 ((Lists.elem hL rfl (k := i) (by omega)).2) ?_
   refine xc 6 (args := #[.slice (some ⟨(gs.getD i (0, 0)).1, 0, none⟩) ((L.getD i []).length) ((gs.getD i (0, 0)).2)]) (bits_Put _ _ (L.getD i []) _ (hS i (by omega)).1 (hS i (by omega)).2 (own_sl (hL.each i (by omega)))) ?_
   rintro _ W3 ⟨_, rfl, hb3, g6, rfl, h6⟩
   have hA'1 := hA.below hb3
   have hO'1 := hO_1.trans (Only.of_below hb3)
   have h6'1 := own_mono h6 hB_1.size
   have hB'1 := Bl.nextB hB_1 hBw hb3
   refine xc 21 (args := #[.pointer (some ⟨ba, 0, none⟩), .int .i64 3, .slice (some ⟨g6, 0, none⟩) 244 244]) (alloc_LayQ B ba b g nn cc pa ca f N (k0 + i) (cntsB L (f + k0) bs i) 3 (some ⟨g6, 0, none⟩) 244 (bitsB (L.getD i [])) (f + k0 + i) 244 _ (Nat.add_assoc _ _ _).symm (bitsT_len _ _) hC hA'1 (by omega) (by decide) (by decide) (fun W _ hO'1 => bys_of (own_sl (own_only h6'1 hO'1 (by decide))) (bitsT_len _ _)) (by decide) (Nat.le_trans hBw hB'1.size)) ?_
   rintro _ W4 ⟨rfl, hb4, hO4, hX4, hA⟩
   have hL'1 := (hL.below hb3).only hO4 (by decide)
   refine xr 20 (args := #[.slice (some ⟨(gs.getD i (0, 0)).1, 0, none⟩) ((L.getD i []).length) ((gs.getD i (0, 0)).2)]) (bits_Free _ _ (L.getD i []) _ (hS i (by omega)).2 (own_sl (hL'1.each i (by omega)))) fun W5 hb5 => ?_
   have hf9 : freeN (L.getD i []) ≤ 960 := Nat.le_trans (freeK_le _ _) (hS i (by omega)).2
   have hg9 : firstN (L.getD i []) ≤ 960 := Nat.le_trans (firstN_le _) (hS i (by omega)).2
   have hB'2 := Bl.nextB (hB'1.trans hb4) hBw hb5
   have k1_bl'1 := ((k1_bl.below hb3).only hO4 (by decide)).below hb5
   have hup'1 := own_below (own_only (own_below hup hb3) hO4 (by decide)) hb5
   refine xc 13 (args := #[.agg #[.int .i64 (↑(f + k0 + i) : Int), .int .i64 (↑(freeN (L.getD i [])) : Int), .int .i64 (↑(firstN (L.getD i [])) : Int)], .pointer (some ⟨bl, 0, none⟩)]) (plot_meta1 B w.heap.size bl p c L (f + k0) i _ hBw hB'2.size (Nat.le_trans hBw hB'2.size) hBl k1_bl'1 hup'1 (by omega)) ?_
   rintro _ W6 ⟨_, p9, c9, rfl, hb6, hO6, kln, hup, hX6⟩
   refine xwm 4 ((↑i : Int) + 1) (↑(i + 1) : Int) ?_
   have hA'2 := (hA.below hb5).only hO6 (by decide)
   have hL'2 := (hL'1.below hb5).only hO6 (by decide)
   have hB'3 := hB'2.trans hb6
   have hX'1 := (Fr.trans_B (((hX_1.trans (Fr.of_below hb3)).trans (hX4.mono (by simp))).trans (Fr.of_below hb5)) hX6 (by simp))
   have hO'2 := ((hO'1.trans (hO4.wide)).trans (Only.of_below hb5)).trans (hO6.wide)
   exact ze 2 (hJ1 _ _ _ ⟨i + 1, _, _, rfl, rfl, hB'3, hX'1, hO'2, kln, hA'2, hL'2, hup, by omega⟩ (by omega))
 refine xe 11 .nilIface ?_
 obtain rfl : i = L.length := by omega
 exact ⟨_, _, rfl, hB_1, hO_1, hX_1, hA, k1_bl, hup⟩
end Go.Proofs.YtbhjgcokpmiopaaGreatDoor
namespace Go.Proofs.YtbhjgcokpmiopaaGreatDoor
open Go.RowKit
set_option linter.unusedVariables false
theorem rows_in {n : Nat} {P : Program} {row : String} {args : Array Value} {w : World} {R : Value → World → Prop} (h : Rows P row args w R) : RowsIn Fence.wide n P row args w R :=
  fun c cs _ => let ⟨v, w', r, q⟩ := h c cs; ⟨v, w', r, stepsIn_wide.2 q⟩
theorem oper_in {P : Program} {l n : Nat} {o : Oper} {a : Act} {w : World} {K : Act → World → Prop} {Q : Exit → Act → World → Prop} (hd : ∀ c, o.op ≠ .defer c) (h : o.wp P a w K Q) : o.wpIn (Fence.wide.inRound l) n P a w K Q := by
  unfold Oper.wpIn
  refine ⟨fun f _ => trivial, ?_⟩
  rw [Oper.semAt_plain _ _ _ hd]
  unfold Oper.wp at h
  generalize (execOp a.eval o).run P w = r at *
  cases r with
  | ok nx w' =>
    cases nx with
    | value v => exact h
    | skip => exact h
    | defer d => exact h
    | enter f args => exact ⟨(fun q => by cases q), callsIn_wide.2 h⟩
    | row r args => exact ⟨(fun q => by cases q), rows_in h⟩
    | _ => exact h.elim
  | halt hh w' =>
    cases hh with
    | panic v => exact h
    | _ => exact h.elim
theorem op_in {P : Program} {l n i : Nat} {ops : Array Oper} {a : Act} {w : World} {K K' : Act → World → Prop} {Q : Exit → Act → World → Prop} (hQ : ¬ LetsOut Q) (hd : ∀ o ∈ ops.toList, ∀ c, o.op ≠ .defer c) (hK : ∀ a w, K a w → K' a w) (h : wpOp P ops Q i K a w) : wpOpIn (Fence.wide.inRound l) n P ops Q i K' a w := by
  unfold wpOp at h
  unfold wpOpIn
  cases ho : ops[i]? with
  | none => rw [ho] at h; exact hK _ _ h
  | some o =>
    rw [ho] at h
    dsimp only at h ⊢
    split at h
    · rename_i hw
      rw [if_pos hw]
      have ho' : o ∈ ops.toList := by
        obtain ⟨hi, e⟩ := Array.getElem?_eq_some_iff.1 ho
        rw [← e]; exact Array.mem_toList_iff.2 (Array.getElem_mem hi)
      exact Oper.wpIn_mono hK (oper_in (hd o ho') (h.resolve_right fun q => hQ q.2))
    · rename_i hw
      rw [if_neg hw]
      exact ⟨fun f _ => trivial, hK _ _ h⟩
theorem any_in {P : Program} {l n : Nat} {md : Region.Mode} {ops : Array Oper} {Q : Exit → Act → World → Prop} (hQ : ¬ LetsOut Q) (hd : ∀ o ∈ ops.toList, ∀ c, o.op ≠ .defer c) : ∀ (fuel : Nat) (L : Array Bool) (a : Act) (w : World), wpAny P md ops Q fuel L a w → wpAnyIn (Fence.wide.inRound l) n P md ops Q fuel L a w
  | 0, _, _, _, h => h
  | fuel + 1, L, a, w, h => ⟨h.1, fun i hi => op_in hQ hd (fun a w => any_in hQ hd fuel _ a w) (h.2 i hi)⟩
/-- the region, by the walk of any place -/
theorem h_regIn {P : Program} {l0 n0 id : Nat} {l : List Oper} {Q : Exit → Act → World → Prop} {a : Act} {w : World} (S : World → Prop) (n : Nat) (hn : l.toArray.size = n) (L : Array Bool) (hL : Array.replicate n false = L) (hm : P.follows .mixedOrders = true) (hQ : ¬ LetsOut Q) (hd : ∀ o ∈ l, ∀ c, o.op ≠ .defer c) (hS : S w.drew) (h : S w.drew → wpAnyH P .any l.toArray Q S n L a w.drew) : (Code.region id l.toArray true).wpIn (Fence.wide.inRound l0) n0 P Q a w :=
  wpIn_region_any hm (any_in hQ (by simpa using hd) _ _ _ _ (wpAny_of_held _ _ _ _ (by rw [hn, hL]; exact h hS)))
end Go.Proofs.YtbhjgcokpmiopaaGreatDoor
namespace Go.Proofs.YtbhjgcokpmiopaaGreatDoor
open Go.RowKit
set_option linter.unusedVariables false

def hasB (lo hi k : Int) : Bool := decide (lo ≤ k ∧ k < hi)
def rightB (lo hi : Int) : Bool := decide (0 ≤ lo ∧ lo ≤ hi ∧ hi ≤ 281474976710656)
def SortP (l : List Int) : Prop := ∀ k, k < l.length → 1 ≤ k → l[k-1]?.getD 0 < l[k]?.getD 0
instance (l : List Int) : Decidable (SortP l) := by unfold SortP; infer_instance
def fitsI (lo hi : Int) (l : List Int) : Int :=
  if rightB lo hi then if SortP l then if ∀ k ∈ l, lo ≤ k ∧ k < hi then 0 else 9 else 8 else 1
@[go_sem] def spanV (lo hi : Int) : Value := .agg #[.int .i64 lo, .int .i64 hi]

theorem SortP.lt {l : List Int} (h : SortP l) : ∀ (j i : Nat), i < j → j < l.length → l[i]?.getD 0 < l[j]?.getD 0 := by
  intro j
  induction j with
  | zero => intro i h1; omega
  | succ j ih =>
    intro i h1 h2
    have h3 := h (j + 1) h2 (by omega)
    simp only [Nat.add_sub_cancel] at h3
    by_cases hij : i = j
    · subst hij; exact h3
    · exact Int.lt_trans (ih i (by omega) (by omega)) h3
theorem SortP.one (l : List Int) : SortP (l.take 1) := by
  intro k h1 h2; simp at h1; omega
theorem SortP.succ {l : List Int} {k : Nat} {x y : Int} (h : SortP (l.take k)) (hx : l[k-1]? = some x) (hy : l[k]? = some y) (hxy : x < y) : SortP (l.take (k + 1)) := by
  intro j h1 h2
  have hjk : j < k + 1 := by simp at h1; omega
  rw [List.getElem?_take, List.getElem?_take, if_pos (by omega), if_pos hjk]
  by_cases hj : j = k
  · subst hj; rw [hx, hy]; exact hxy
  · have := h j (by simp at h1 ⊢; omega) h2
    rw [List.getElem?_take, List.getElem?_take, if_pos (by omega), if_pos (by omega)] at this
    exact this
theorem fits_right {lo hi : Int} {l : List Int} (h : rightB lo hi = false) : fitsI lo hi l = 1 := by simp [fitsI, h]
theorem fits_order {lo hi : Int} {l : List Int} {k : Nat} {x y : Int} (h : rightB lo hi = true) (hk : 1 ≤ k) (hx : l[k-1]? = some x) (hy : l[k]? = some y) (hxy : y ≤ x) : fitsI lo hi l = 8 := by
  have hn : ¬ SortP l := fun hs => by
    have hlt : k < l.length := by rcases List.getElem?_eq_some_iff.1 hy with ⟨h, _⟩; exact h
    have := hs k hlt hk
    rw [hx, hy] at this
    simp at this; omega
  simp [fitsI, h, hn]
theorem fits_nil {lo hi : Int} (h : rightB lo hi = true) : fitsI lo hi [] = 0 := by
  have hs : SortP [] := fun k h1 => by simp at h1
  simp [fitsI, h, hs]
theorem SortP.all {l : List Int} {k : Nat} (h : SortP (l.take k)) (hk : l.length ≤ k) : SortP l := by rwa [List.take_of_length_le hk] at h
theorem hasB_iff {lo hi k : Int} : hasB lo hi k = true ↔ lo ≤ k ∧ k < hi := by simp [hasB]
theorem fits_in {lo hi : Int} {l : List Int} {x y : Int} (h : rightB lo hi = true) (hs : SortP l) (hx : l[0]? = some x) (hy : l[l.length - 1]? = some y) (ha : hasB lo hi x = true) (hb : hasB lo hi y = true) : fitsI lo hi l = 0 := by
  have hall : ∀ k ∈ l, lo ≤ k ∧ k < hi := by
    intro k hk
    obtain ⟨i, hi', rfl⟩ := List.mem_iff_getElem.1 hk
    rw [hasB_iff] at ha hb
    have e : l[i]? = some l[i] := by simp
    have h1 : x ≤ l[i] := by
      by_cases h0 : i = 0
      · subst h0; rw [hx] at e; injection e with e; omega
      · have := hs.lt i 0 (by omega) hi'
        rw [hx, e] at this; simp at this; omega
    have h2 : l[i] ≤ y := by
      by_cases h0 : i = l.length - 1
      · subst h0; rw [hy] at e; injection e with e; omega
      · have := hs.lt (l.length - 1) i (by omega) (by omega)
        rw [hy, e] at this; simp at this; omega
    omega
  simp only [fitsI, h, if_true, hs]
  rw [if_pos hall]
theorem fits_out {lo hi : Int} {l : List Int} {i : Nat} {x : Int} (h : rightB lo hi = true) (hs : SortP l) (hx : l[i]? = some x) (ha : hasB lo hi x = false) : fitsI lo hi l = 9 := by
  have hn : ¬ ∀ k ∈ l, lo ≤ k ∧ k < hi := fun hall => by
    have := hasB_iff.2 (hall x (List.mem_of_getElem? hx))
    rw [ha] at this; cases this
  simp only [fitsI, h, if_true, hs]
  rw [if_neg hn]

end Go.Proofs.YtbhjgcokpmiopaaGreatDoor
namespace Go.Proofs.YtbhjgcokpmiopaaGreatDoor
open Go.RowKit
set_option linter.unusedVariables false
attribute [local go_sem] Oper.semAt_some

/-- the children's spans -/
def partAt (hi : Int) (l : List Int) (i : Nat) : Int × Int := (l[i]?.getD 0, l[i+1]?.getD hi)
/-- what comes as number j: the child's number -/
def qOf {n : Nat} (j : Fin n) : Nat := n - 1 - j.val
def encE (hi : Int) (l : List Int) (j : Fin l.length) : Array Value := #[.int .i64 (qOf j : Int), spanV (partAt hi l (qOf j)).1 (partAt hi l (qOf j)).2]
theorem fin_take_succ {n k : Nat} (h : k < n) : (List.finRange n).take (k + 1) = (List.finRange n).take k ++ [⟨k, h⟩] := by
  rw [List.take_succ_eq_append_getElem (by simpa using h)]; simp
theorem fin_take_all (n : Nat) : (List.finRange n).take n = List.finRange n := List.take_of_length_le (by simp)
theorem fin_take_length {n k : Nat} (h : k ≤ n) : ((List.finRange n).take k).length = k := by simp [h]

end Go.Proofs.YtbhjgcokpmiopaaGreatDoor
namespace Go.Proofs.YtbhjgcokpmiopaaGreatDoor
open Go.RowKit
set_option linter.unusedVariables false
attribute [local go_sem] Oper.semAt_some
def encK (b off n : Nat) (j : Fin (bmN n)) : Array Value := #[.slice (some ⟨b, off + j.val * 960, none⟩) (min 960 (n - j.val * 960)) (min 960 (n - j.val * 960))]
set_option maxRecDepth 100000 in
set_option maxHeartbeats 2000000 in
theorem chunk1_in (l B1 B2 : Nat) (p : Nat → Prop) (b off n cap : Nat) (hlen : n ≤ 1000000) (hcap : n ≤ cap) (hB1 : p B1) (hB2 : p B2) (J Jx : List (Fin (bmN n)) → World → Prop)
    (hY : ∀ pre x W, J pre W → pre.length < bmN n → YieldAt Fence.wide 2 Tryz.prog l (encK b off n x) W fun e W' =>
      (e = .returned (.bool true) ∧ J (pre ++ [x]) W' ∧ Keeps p W W') ∨ (e = .returned (.bool false) ∧ Jx (pre ++ [x]) W'))
    (W : World) (hck : W.cell? ⟨B1, 0, none⟩ = some (.slice (some ⟨b, off, none⟩) n cap)) (hcn : W.cell? ⟨B2, 0, none⟩ = some (.int .i64 960)) (hJa : AbidesFrom W.heap.size J) (h0 : J [] W) :
    CallsIn Fence.wide 3 Tryz.prog 81 #[.func (.yield l) #[] #[], .pointer (some ⟨B1, 0, none⟩), .pointer (some ⟨B2, 0, none⟩)] W fun e W' => (∃ v, e = .returned v) ∧
      ((∃ ys, ys = List.finRange (bmN n) ∧ J ys W') ∨ (∃ pre, (∃ k, k ≤ bmN n ∧ pre = (List.finRange (bmN n)).take k) ∧ Jx pre W')) := by
  refine callsIn_of_wp Tryz.func81 rfl trivial ?_ rfl
  simp only [Tryz.ntmps81, List.size_toArray, List.length_cons, List.length_nil, Nat.reduceAdd, Nat.reduceSub, Array.replicate_succ, Array.replicate_zero, List.push_toArray, List.append_toArray, List.nil_append, List.cons_append]
  gi_wp2
  gi_loopw [4] (fun i wr => ∃ k : Nat, k ≤ bmN n ∧ i = .int .i64 ((k * 960 : Nat) : Int) ∧ J ((List.finRange (bmN n)).take k) wr ∧ Keeps p W wr)
    (fun i _ => (n - (intOf i)).toNat)
  case atStart => exact ⟨0, Nat.zero_le _, by simp, h0, Keeps.refl _ _⟩
  case round =>
    obtain ⟨k, hk, rfl, hJs, hnx⟩ := hrel
    have hck' := (hnx.cell (a := ⟨B1, 0, none⟩) hB1).trans hck
    have hcn' := (hnx.cell (a := ⟨B2, 0, none⟩) hB2).trans hcn
    by_cases hlt : k < bmN n
    · have hkn := bmN_lt hlt
      gi_wp2
      gi_big_quiet_th (fail)
      obtain ⟨fn, tmps, assign, body, hy, hR⟩ := hY _ ⟨k, hlt⟩ (wr.drewN nq) (hJa _ wr _ none hJs ⟨rfl, rfl, rfl, Nat.le_refl _, fun _ _ _ => rfl⟩ (fun _ e => by cases e)) (by rw [fin_take_length hk]; exact hlt)
      have hE : encK b off n ⟨k, hlt⟩ = #[.slice (some ⟨b, off + k * 960, none⟩) (min 960 (n - k * 960)) (min 960 (n - k * 960))] := rfl
      rw [hE] at hy
      have HE := Lib.hid hE; clear hE
      rw [show (if ((n - k * 960 : Nat) : Int) < 960 then ((n - k * 960 : Nat) : Int) else 960) = ((min 960 (n - k * 960) : Nat) : Int) from by split <;> omega]
      obtain ⟨m, hm⟩ : ∃ m, min 960 (n - k * 960) = m := ⟨_, rfl⟩
      rw [hm] at hy ⊢
      have hm1 : k * 960 + m ≤ n := by omega
      have hm2 : k * 960 + m ≤ cap := by omega
      have hm3 : k * 960 + m - k * 960 = m := by omega
      gi_wp2
      refine hR.mono ?_
      rintro e W3 (⟨rfl, hJ3, hk3⟩ | ⟨rfl, hJx3⟩)
      · have hcn3 : W3.cell? ⟨B2, 0, none⟩ = some (.int .i64 960) := (hk3.cell (a := ⟨B2, 0, none⟩) hB2).trans hcn'
        gi_wp2
        go_roundw
        case rel =>
          refine ⟨k + 1, by omega, ?_, by rw [fin_take_succ hlt]; exact hJ3, (hnx.trans (show Keeps p wr (wr.drewN nq) from ⟨Nat.le_refl _, fun _ _ => rfl⟩)).trans hk3⟩
          exact congrArg (Value.int .i64) (by omega)
        case measure => simp only [intOf]; omega
      · gi_wp2
        refine bodyPost_ret (results_none rfl _ _ _) rfl ?_
        exact ⟨⟨_, rfl⟩, .inr ⟨_, ⟨k + 1, by omega, by rw [fin_take_succ hlt]⟩, hJx3⟩⟩
    · obtain rfl : k = bmN n := by omega
      have hdn := bmN_done (n := n) rfl
      have hdi : ¬ (((bmN n * 960 : Nat) : Int) < (n : Int)) := by omega
      rw [fin_take_all] at hJs
      have HJ := Lib.hid hJs; clear hJs
      gi_wp2
      go_end0
      exact ⟨⟨_, rfl⟩, .inl HJ.out⟩
set_option maxRecDepth 100000 in
set_option maxHeartbeats 1000000 in
theorem chunk1_nil_in {α : Type} (l B1 B2 : Nat) (J : List α → World → Prop) (W : World) {a0 : Option Addr} {c0 : Nat} (hck : W.cell? ⟨B1, 0, none⟩ = some (.slice a0 0 c0)) (h0 : J [] W) :
    CallsIn Fence.wide 3 Tryz.prog 81 #[.func (.yield l) #[] #[], .pointer (some ⟨B1, 0, none⟩), .pointer (some ⟨B2, 0, none⟩)] W fun e W' => (∃ v, e = .returned v) ∧ J [] W' := by
  refine callsIn_of_wp Tryz.func81 rfl trivial ?_ rfl
  simp only [Tryz.ntmps81, List.size_toArray, List.length_cons, List.length_nil, Nat.reduceAdd, Nat.reduceSub, Array.replicate_succ, Array.replicate_zero, List.push_toArray, List.append_toArray, List.nil_append, List.cons_append]
  gi_wp2
  gi_loopw [4] (fun i wr => i = .int .i64 0 ∧ J [] wr ∧ wr.cell? ⟨B1, 0, none⟩ = some (.slice a0 0 c0)) (fun _ _ => 0)
  case atStart => exact ⟨rfl, h0, hck⟩
  case round =>
    obtain ⟨rfl, hJs, hcr⟩ := hrel
    have HJ := Lib.hid hJs; clear hJs
    gi_wp2
    go_end0
    exact ⟨⟨_, rfl⟩, HJ.out⟩
theorem chunk_stops (B1 B2 : Nat) (p : Nat → Prop) (b off n cap : Nat) (v : Value) (w : World) (hp : ∀ b, p b → b < w.heap.size) (h1 : p B1) (h2 : p B2) (hlen : n ≤ 1000000) (hv : (n = 0 ∧ ∃ a c, v = .slice a 0 c) ∨ v = .slice (some ⟨b, off, none⟩) n cap ∧ n ≤ cap) (hck : w.cell? ⟨B1, 0, none⟩ = some v) (hcn : w.cell? ⟨B2, 0, none⟩ = some (.int .i64 960)) :
    SeqStopsK Fence.wide 3 Tryz.prog 81 #[.pointer (some ⟨B1, 0, none⟩), .pointer (some ⟨B2, 0, none⟩)] (encK b off n) (Keeps p)
      (fun ys => ys = List.finRange (bmN n)) (fun pre => ∃ k, k ≤ bmN n ∧ pre = (List.finRange (bmN n)).take k) (bmN n) w := fun l J Jx W hW hJa _ hY h0 => by
  have hck' := getC hW hck
  have hcn' := getC hW hcn
  rcases hv with ⟨rfl, a, c, rfl⟩ | ⟨rfl, hcap⟩
  · exact (chunk1_nil_in l B1 B2 J W hck' h0).mono fun e W' ⟨he, hj⟩ => ⟨he, .inl ⟨_, rfl, hj⟩⟩
  · exact chunk1_in l B1 B2 p b off n cap hlen hcap h1 h2 J Jx hY W hck' hcn' hJa h0
end Go.Proofs.YtbhjgcokpmiopaaGreatDoor
namespace Go.Proofs.YtbhjgcokpmiopaaGreatDoor
open Go.RowKit Go.Extern.Stop Go.Stop Go.Extern
set_option linter.unusedVariables false
attribute [local irreducible] wpList wpAnyH Code.wp Oper.wp Go

set_option maxRecDepth 100000 in
set_option maxHeartbeats 1000000 in
theorem slices_Chunk (p : Option Addr) (n c : Nat) (w : World) :
    Calls Tryz.prog 51 #[.slice p n c, .int .i64 960] w (fun e w' => ∃ b1 b2, e = .returned (.func (.func 81) #[] #[.pointer (some ⟨b1, 0, none⟩), .pointer (some ⟨b2, 0, none⟩)]) ∧ Below w.heap.size w w' ∧ w.heap.size ≤ b1 ∧ w.heap.size ≤ b2 ∧ b1 ≠ b2 ∧ Blk w' b1 [.slice p n c] 22 ∧ Blk w' b2 [.int .i64 960] 3) := by
 refine zin 9 Tryz.func51 ?_
 refine xa 2 [.slice p n c] 22 fun b1 W1 n1 => ?_
 refine xa 0 [.int .i64 960] 3 fun b2 W2 n2 => ?_
 refine xb 6 0 n2.blk ?_
 have k1 := n1.blk.below n2.below
 have hB := Bl.next n1.below n2.below
 have g1 := n1.ge (Below.refl w.heap.size _)
 have g2 := n2.ge n1.below
 exact xe 13 (.func (.func 81) #[] #[.pointer (some ⟨b1, 0, none⟩), .pointer (some ⟨b2, 0, none⟩)]) ⟨_, _, rfl, hB, g1, g2, (Blk.tne k1 n2.blk (by decide)), k1, n2.blk⟩
end Go.Proofs.YtbhjgcokpmiopaaGreatDoor
namespace Go.Proofs.YtbhjgcokpmiopaaGreatDoor
open Go.RowKit
set_option linter.unusedVariables false
attribute [local go_sem] Oper.semAt_some
def encB (l : List Int) (j : Fin l.length) : Array Value := #[.int .i64 (qOf j : Int), .int .i64 (l[qOf j]?.getD 0)]
end Go.Proofs.YtbhjgcokpmiopaaGreatDoor
namespace Go.Proofs.YtbhjgcokpmiopaaGreatDoor
open Go.RowKit Go.Extern.Stop Go.Stop Go.Extern
set_option linter.unusedVariables false
attribute [local irreducible] wpList wpAnyH Code.wp Oper.wp Go

/-- a node, asked as a tree's: the error's number -/
def nodeTE (l : List UInt8) (tree : Int) : Int := if nodeE l = 0 then (if tree = 0 ∨ nodT l = tree then 0 else 6) else nodeE l
/-- what package block has for a node -/
def nodeErr (l : List UInt8) (no tree : Int) : Int := if inE l 2 no = 0 then nodeTE (inB l no) tree else inE l 2 no
def nodeV (l : List UInt8) (kp vp : Option Addr) (kc vc : Nat) : Value := .agg #[.int .i64 (nodT l), .bool (nodL l), .slice kp (nodC l) kc, .slice vp (nodC l) vc]
def Node1P (l : List UInt8) (tree : Int) (w : World) (e : Ending) (w' : World) : Prop :=
  (nodeTE l tree ≠ 0 ∧ ∃ a b kp n1 kc vp n2 vc, e = .returned (.tuple #[.agg #[.int .i64 a, .bool b, .slice kp n1 kc, .slice vp n2 vc], .int .i64 (nodeTE l tree)]) ∧ Below w.heap.size w w') ∨
  (nodeTE l tree = 0 ∧ ∃ kp kc vp vc, e = .returned (.tuple #[.agg #[.int .i64 (nodT l), .bool (nodL l), .slice kp (nodC l) kc, .slice vp (nodC l) vc], .int .i64 0]) ∧ Below w.heap.size w w' ∧
    w'.ownsRow w.heap.size 3 1 (.slice kp (nodC l) kc) (nodC l) ((keysI l (nodC l)).map (Value.int .i64)) ∧ w'.ownsRow w.heap.size 9 1 (.slice vp (nodC l) vc) (nodC l) ((valsL l (nodC l)).map sv))
def BlkNodeP (l : List UInt8) (no tree : Int) (w : World) (e : Ending) (w' : World) : Prop :=
  (nodeErr l no tree ≠ 0 ∧ ∃ b, e = .returned (.tuple #[.agg #[.int .i64 0, .bool false, .slice none 0 0, .slice none 0 0], .iface 137 (.pointer (some ⟨b, 0, none⟩))]) ∧ Below w.heap.size w w' ∧ ErrV w' [some no] (some (nodeErr l no tree)) (.iface 137 (.pointer (some ⟨b, 0, none⟩)))) ∨
  (nodeErr l no tree = 0 ∧ ∃ kp kc vp vc, e = .returned (.tuple #[.agg #[.int .i64 (nodT (inB l no)), .bool (nodL (inB l no)), .slice kp (nodC (inB l no)) kc, .slice vp (nodC (inB l no)) vc], .nilIface]) ∧ Below w.heap.size w w' ∧
    w'.ownsRow w.heap.size 3 1 (.slice kp (nodC (inB l no)) kc) (nodC (inB l no)) ((keysI (inB l no) (nodC (inB l no))).map (Value.int .i64)) ∧ w'.ownsRow w.heap.size 9 1 (.slice vp (nodC (inB l no)) vc) (nodC (inB l no)) ((valsL (inB l no) (nodC (inB l no))).map sv))
end Go.Proofs.YtbhjgcokpmiopaaGreatDoor
namespace Go.Proofs.YtbhjgcokpmiopaaGreatDoor
open Go.RowKit Go.Extern.Stop Go.Stop Go.Extern
set_option linter.unusedVariables false
attribute [local irreducible] wpList wpAnyH Code.wp Oper.wp Go

end Go.Proofs.YtbhjgcokpmiopaaGreatDoor
namespace Go.Proofs.YtbhjgcokpmiopaaGreatDoor
open Go.RowKit Go.Extern.Stop Go.Stop Go.Extern
set_option linter.unusedVariables false
attribute [local irreducible] wpList wpAnyH Code.wp Oper.wp Go

attribute [local go_sem] Oper.semAt_some
theorem Upd.of_put (w : World) (D : Nat) (o : Obj) : Upd w D (w.putObj D o) := ⟨rfl, rfl, rfl, by simp [World.putObj], fun k hk => World.putObj_heap_other hk⟩
/-- a record of deferred calls at block D -/
def Dfr (D : Nat) (w : World) : Prop := w.heap[D]? = some (.deferred (some []))
theorem Dfr.below {D : Nat} {w W : World} (h : Dfr D w) (hb : Below w.heap.size w W) : Dfr D W := (hb.block D (Array.getElem?_eq_some_iff.1 h).1).trans h
theorem Dfr.ne {D b : Nat} {w : World} {cs : List Value} {t : TypeId} (h : Dfr D w) (k : Blk w b cs t) : b ≠ D := by
  rintro rfl
  have h' : w.heap[b]? = _ := h
  rw [show w.heap[b]? = _ from k] at h'
  cases h'
theorem Dfr.upd {D b : Nat} {w W : World} {cs : List Value} {t : TypeId} (h : Dfr D w) (u : Upd w b W) (k : Blk w b cs t) : Dfr D W := (u.block D fun e => h.ne k e.symm).trans h
theorem Dfr.row {D : Nat} {w : World} {base e size n : Nat} {v : Value} {xs : List Value} (h : Dfr D w) (k : w.ownsRow base e size v n xs) : ∀ g, v.ownBlock = some g → g ≠ D := by
  rintro g hg rfl
  rcases k.2 with ⟨rfl, _⟩ | ⟨g', cap, cur, rfl, _, hh, _⟩
  · cases hg
  · simp only [Value.ownBlock, Option.some.injEq] at hg
    subst hg
    rw [show w.heap[g']? = _ from h] at hh
    cases hh
theorem Dfr.grown {D : Nat} {w W : World} {base e size n : Nat} {v : Value} {xs : List Value} (h : Dfr D w) (hg : w.grownBy W v.ownBlock) (k : w.ownsRow base e size v n xs) : Dfr D W :=
  (hg.block D (Array.getElem?_eq_some_iff.1 h).1 fun q => h.row k D q.symm rfl).trans h
theorem g_endM {P : Program} {fn : Func} {R : Ending → World → Prop} {a : Act} {w : World} {D : Nat} (hK : Dfr D w) (v : Value) (hd : a.defers = [{ target := .collected D, args := #[] }]) (hr : (results fn a.tmps).run P (w.putObj D (.deferred none)) = .ok v (w.putObj D (.deferred none))) (h : R (.returned v) (w.putObj D (.deferred none))) : bodyPostM Fence.wide 4 P fn R .normal a w :=
  by
  show LeavesInM _ _ _ _ a.tmps R a.defers .returning w
  rw [hd]
  exact ⟨by simp, .inl ⟨_, _, rfl, run_takeDeferred hK, _, hr, h⟩⟩
def noPan (Q : Exit → Act → World → Prop) : Exit → Act → World → Prop
  | .normal, a, w => Q .normal a w
  | .ret, a, w => Q .ret a w
  | _, _, _ => False
theorem g_nopan {P : Program} {c : Code} {Q : Exit → Act → World → Prop} {a : Act} {w : World} (h : c.wp P (noPan Q) a w) : c.wp P Q a w := wp_mono h fun e a w q => by cases e <;> first | exact q | exact q.elim
theorem own_ty_ne {w : World} {base size n b : Nat} {e t : TypeId} {v : Value} {xs cs : List Value} (k : w.ownsRow base e size v n xs) (q : Blk w b cs t) (hne : e ≠ t) : ∀ g, v.ownBlock = some g → g ≠ b := by
  rintro g hg rfl
  rcases k.2 with ⟨rfl, _⟩ | ⟨g', cap, cur, rfl, _, hh, _⟩
  · cases hg
  · simp only [Value.ownBlock, Option.some.injEq] at hg
    subst hg
    rw [show w.heap[g']? = _ from q] at hh
    simp only [Option.some.injEq, Obj.cells.injEq] at hh
    exact hne hh.2.1.symm
theorem keepsO_below {w W : World} (h : Below w.heap.size w W) : KeepsOthers w W := ⟨h.size, fun b o hb _ => (h.block b (Array.getElem?_eq_some_iff.1 hb).1).trans hb⟩
theorem keepsO_upd {w W : World} {b : Nat} {cs : List Value} {t : TypeId} (u : Upd w b W) (k : Blk w b cs t) : KeepsOthers w W := ⟨Nat.le_of_eq u.size.symm, fun d o hd ho => (u.block d (by rintro rfl; rw [show w.heap[d]? = _ from k] at hd; cases hd; cases ho)).trans hd⟩
theorem Dfr.only_new {T : List TypeId} {a w W : World} {b : Nat} (h : Only T a w) (hbb : BelowBut w b W) (hb : a.heap.size ≤ b) : Only T a W := fun k cs t fr hk ht => by
  have h0 := (Array.getElem?_eq_some_iff.1 hk).1
  have h1 := h k cs t fr hk ht
  rw [hbb.block k (Array.getElem?_eq_some_iff.1 h1).1 (by omega)]; exact h1
theorem BelowBut.own3 {w W : World} {b base size n : Nat} {e : TypeId} {v : Value} {xs : List Value} (h : BelowBut w b W) (k : w.ownsRow base e size v n xs) (hs : ∀ j, v.ownBlock = some j → j ≠ b) : W.ownsRow base e size v n xs := by
  obtain ⟨h1, h2⟩ := k
  refine ⟨h1, ?_⟩
  rcases h2 with h2 | ⟨g, cap, cur, rfl, hg, hh, r⟩
  · exact Or.inl h2
  · exact Or.inr ⟨g, cap, cur, rfl, hg, by rw [h.block g (Array.getElem?_eq_some_iff.1 hh).1 (hs g rfl)]; exact hh, r⟩
theorem ownFrom_but {β : Type} {w : World} {b B : Nat} (hB : w.heap.size ≤ B) : OwnFrom B (fun (_ : β) W => BelowBut w b W) := fun _ W W' row hs hg hr =>
  ⟨hg.os.trans hs.os, hg.tape.trans hs.tape, hg.output.trans hs.output, Nat.le_trans hs.size hg.size, fun k hk hne => (hg.block k (Nat.lt_of_lt_of_le hk hs.size) (fun e => by have := (hr k e.symm).1; omega)).trans (hs.block k hk hne)⟩
theorem ErrV.turn {A B : World} {row : Option Nat} {l : List (Option Int)} {c : Option Int} {v : Value} (h : ErrV A l c v) (hg : A.grownBy B row) (hr : ∀ r, row = some r → ∃ o : Obj, A.heap[r]? = some o ∧ o.isCells = false) : ErrV B l c v := h.kept fun _ _ k => k.turn hg hr
/-- the blocks of the way, seen from below -/
def atW (way : List Int) (pre : List (Fin way.length)) (bs : List Int) : List Int := (pre.map fun j => way[qOf j]?.getD 0).reverse ++ bs
theorem atW_snoc (way : List Int) (pre : List (Fin way.length)) (x : Fin way.length) (bs : List Int) : atW way (pre ++ [x]) bs = (way[qOf x]?.getD 0) :: atW way pre bs := by simp [atW]
theorem atW_all (way bs : List Int) : atW way (List.finRange way.length) bs = way ++ bs := by
  unfold atW
  congr 1
  apply List.ext_getElem
  · simp
  · intro i h1 h2
    simp only [List.length_reverse, List.length_map, List.length_finRange] at h1
    rw [List.getElem_reverse, List.getElem_map]
    simp only [List.length_map, List.length_finRange, List.getElem_finRange, qOf]
    have e : way.length - 1 - (way.length - 1 - i) = i := by omega
    simp [e, h2]
theorem ErrV.one {w : World} {l : List (Option Int)} {c : Option Int} {v : Value} (h : ErrV w l c v) : v.oneCell' = true := by
  rcases h.nil_or with ⟨_, rfl⟩ | ⟨_, t, x, rfl⟩ <;> rfl
theorem ErrV.iface {w : World} {l : List (Option Int)} {c : Int} {v : Value} (h : ErrV w l (some c) v) : ∃ t x, v = .iface t x := by
  rcases h.nil_or with ⟨q, _⟩ | ⟨_, q⟩
  · simp [noErr] at q
  · exact q
theorem atL_some {b c : Int} {l : List (Option Int)} : atL b l (some c) = some b :: l := by simp [atL, noErr]
theorem one_one {v : Value} (h : v.oneCell' = true) : ∀ u ∈ [v], u.oneCell' = true := by simpa using h
end Go.Proofs.YtbhjgcokpmiopaaGreatDoor
namespace Go.Proofs.YtbhjgcokpmiopaaGreatDoor
open Go.RowKit
set_option linter.unusedVariables false
theorem own_turn {A B : World} {row : Option Nat} {base size n : Nat} {e : TypeId} {v : Value} {xs : List Value} (k : A.ownsRow base e size v n xs) (hg : A.grownBy B row) (hr : ∀ r, row = some r → ∃ o : Obj, A.heap[r]? = some o ∧ o.isCells = false) : B.ownsRow base e size v n xs := by
  obtain ⟨h1, h2⟩ := k
  refine ⟨h1, ?_⟩
  rcases h2 with h2 | ⟨g, cap, cur, hv, hb, hh, r⟩
  · exact Or.inl h2
  · refine Or.inr ⟨g, cap, cur, hv, hb, ?_, r⟩
    rw [hg.block g (Array.getElem?_eq_some_iff.1 hh).1 (fun q => by
      obtain ⟨o, ho, hc⟩ := hr g q.symm
      rw [hh] at ho
      cases ho
      cases hc)]
    exact hh
theorem Lists.turn {A B : World} {row : Option Nat} {base : Nat} {v : Value} {gs : List (Nat × Nat)} {L : List (List Int)} (h : Lists A base v gs L) (hg : A.grownBy B row) (hr : ∀ r, row = some r → ∃ o : Obj, A.heap[r]? = some o ∧ o.isCells = false) : Lists B base v gs L := ⟨own_turn h.row hg hr, fun i hi => own_turn (h.each i hi) hg hr⟩
/-- from the world w0 the worlds ahead of a round differ in block b alone; and what the round keeps -/
structure RdZ (w0 : World) (b : Nat) (W V : World) : Prop where
  bb : BelowBut w0 b V
  ko : KeepsOthers W V
  fr : ∀ k, k < w0.heap.size → k ≠ b → V.heap[k]? = W.heap[k]?
  le : W.heap.size ≤ V.heap.size
theorem RdZ.refl {w0 W : World} {b : Nat} (h : BelowBut w0 b W) : RdZ w0 b W W := ⟨h, ⟨Nat.le_refl _, fun _ _ h _ => h⟩, fun _ _ _ => rfl, Nat.le_refl _⟩
theorem RdZ.below {w0 W V U : World} {b : Nat} (h : RdZ w0 b W V) (hb : Below V.heap.size V U) : RdZ w0 b W U :=
  ⟨h.bb.next hb, h.ko.trans (keepsO_below hb), fun k hk hn => (hb.block k (Nat.lt_of_lt_of_le hk h.bb.size)).trans (h.fr k hk hn), Nat.le_trans h.le hb.size⟩
theorem RdZ.upd {w0 W V U : World} {b : Nat} {cs : List Value} {t : TypeId} (h : RdZ w0 b W V) (u : Upd V b U) (k : Blk V b cs t) : RdZ w0 b W U :=
  ⟨h.bb.upd u, h.ko.trans (keepsO_upd u k), fun k hk hn => (u.block k hn).trans (h.fr k hk hn), Nat.le_trans h.le (Nat.le_of_eq u.size.symm)⟩
theorem RdZ.grown {w0 W V U : World} {b size n : Nat} {e : TypeId} {v : Value} {xs : List Value} (h : RdZ w0 b W V) (hg : V.grownBy U v.ownBlock) (k : V.ownsRow w0.heap.size e size v n xs) : RdZ w0 b W U :=
  ⟨⟨hg.os.trans h.bb.os, hg.tape.trans h.bb.tape, hg.output.trans h.bb.output, Nat.le_trans h.bb.size hg.size, fun i hi hn => (hg.block i (Nat.lt_of_lt_of_le hi h.bb.size) (fun e => by have := (k.lt i e.symm).1; omega)).trans (h.bb.block i hi hn)⟩,
   ⟨Nat.le_trans h.ko.size hg.size, fun i o hi ho => by
      have h1 := h.ko.same i o hi ho
      rw [hg.block i (Array.getElem?_eq_some_iff.1 h1).1 (fun q => by
        rcases k.2 with ⟨rfl, _⟩ | ⟨g, cap, cur, rfl, _, hh, _⟩
        · cases q
        · simp only [Value.ownBlock, Option.some.injEq] at q
          subst q
          rw [hh] at h1
          cases h1
          cases ho)]
      exact h1⟩,
   fun i hi hn => (hg.block i (Nat.lt_of_lt_of_le hi h.bb.size) (fun e => by have := (k.lt i e.symm).1; omega)).trans (h.fr i hi hn), Nat.le_trans h.le hg.size⟩
theorem row_or {w : World} {base e n c : Nat} {p : Option Addr} {xs : List Value} (k : w.ownsRow base e 1 (.slice p n c) n xs) : ∃ g, (n = 0 ∧ ∃ a c', Value.slice p n c = .slice a 0 c') ∨ Value.slice p n c = .slice (some ⟨g, 0, none⟩) n c ∧ n ≤ c := by
  rcases k.2 with ⟨h, _⟩ | ⟨g, cap, cur, hv, _, _, hc, _⟩
  · simp only [Value.slice.injEq] at h
    exact ⟨0, .inl ⟨h.2.1, none, 0, by rw [h.1, h.2.1, h.2.2]⟩⟩
  · simp only [Value.slice.injEq] at hv
    obtain ⟨rfl, _, rfl⟩ := hv
    exact ⟨g, .inr ⟨rfl, hc⟩⟩
/-- each row of counts, without the row that holds them -/
def Each (w : World) (base : Nat) (gs : List (Nat × Nat)) (L : List (List Int)) : Prop := ∀ i, i < L.length → w.ownsRow base 3 1 (lstV gs L i) (L.getD i []).length ((L.getD i []).map (Value.int .i64))
theorem Each.below {w W : World} {base : Nat} {gs : List (Nat × Nat)} {L : List (List Int)} (h : Each w base gs L) (hb : Below w.heap.size w W) : Each W base gs L := fun i hi => own_below (h i hi) hb
theorem Each.only {T : List TypeId} {w W : World} {base : Nat} {gs : List (Nat × Nat)} {L : List (List Int)} (h : Each w base gs L) (hO : Only T w W) (hT : T.contains 3 = false) : Each W base gs L := fun i hi => own_only (h i hi) hO hT
theorem lstV_old {gs : List (Nat × Nat)} {L : List (List Int)} {g c i : Nat} {ch : List Int} (hg : gs.length = L.length) (hi : i < L.length) : lstV (gs ++ [(g, c)]) (L ++ [ch]) i = lstV gs L i := by
  unfold lstV
  simp [List.getD, List.getElem?_append_left, hi, hg]
theorem lstV_new {gs : List (Nat × Nat)} {L : List (List Int)} {g c : Nat} {ch : List Int} (hg : gs.length = L.length) : lstV (gs ++ [(g, c)]) (L ++ [ch]) L.length = .slice (some ⟨g, 0, none⟩) ch.length c := by
  unfold lstV
  rw [show (gs ++ [(g, c)]).getD L.length (0, 0) = (g, c) from by rw [← hg]; simp [List.getD], show (L ++ [ch]).getD L.length [] = ch from by simp [List.getD]]
theorem Lists.snoc {w : World} {base g c n : Nat} {v : Value} {gs : List (Nat × Nat)} {L : List (List Int)} {ch : List Int} (hn : n = L.length + 1) (hrow : w.ownsRow base 22 1 v n ((List.range L.length).map (lstV gs L) ++ [.slice (some ⟨g, 0, none⟩) ch.length c])) (he : Each w base gs L) (hnew : w.ownsRow base 3 1 (.slice (some ⟨g, 0, none⟩) ch.length c) ch.length (ch.map (Value.int .i64))) (hg : gs.length = L.length) : Lists w base v (gs ++ [(g, c)]) (L ++ [ch]) := by
  subst hn
  refine ⟨?_, fun i hi => ?_⟩
  · rw [show (L ++ [ch]).length = L.length + 1 from by simp, List.range_succ, List.map_append]
    rw [show (List.range L.length).map (lstV (gs ++ [(g, c)]) (L ++ [ch])) = (List.range L.length).map (lstV gs L) from List.map_congr_left fun i hi => lstV_old hg (List.mem_range.1 hi), List.map_singleton, lstV_new hg]
    exact hrow
  · by_cases h : i < L.length
    · rw [lstV_old hg h, show (L ++ [ch]).getD i [] = L.getD i [] from by simp [List.getD, List.getElem?_append_left, h]]
      exact he i h
    · obtain rfl : i = L.length := by simp at hi; omega
      rw [lstV_new hg, show (L ++ [ch]).getD L.length [] = ch from by simp [List.getD]]
      exact hnew
/-- a piece of a row of counts -/
theorem Sl.midI {w : World} {g n c : Nat} {xs : List Value} (h : Sl w (.slice (some ⟨g, 0, none⟩) n c) n xs) (hl : xs.length = n) (k m : Nat) (hm : 0 < m) (hk : k + m ≤ n) : Sl w (.slice (some ⟨g, 0 + k, none⟩) m m) m ((xs.drop k).take m) := by
  rcases h with ⟨a', c', h1, h2, h3⟩ | ⟨g', off', cap, h1, h2, h3, h4⟩
  · omega
  · simp only [Value.slice.injEq, Option.some.injEq, Addr.mk.injEq] at h1
    obtain ⟨⟨rfl, rfl, _⟩, _, rfl⟩ := h1
    refine .inr ⟨g, 0 + k, m, rfl, Nat.le_refl _, by omega, fun j x hj => ?_⟩
    have hjm : j < m := by
      rcases Nat.lt_or_ge j m with q | q
      · exact q
      · rw [List.getElem?_eq_none (by simp; omega)] at hj; cases hj
    rw [List.getElem?_take_of_lt hjm, List.getElem?_drop] at hj
    have := h4 (k + j) x hj
    rw [show 0 + k + j = 0 + (k + j) from by omega]
    exact this
end Go.Proofs.YtbhjgcokpmiopaaGreatDoor
namespace Go.Proofs.YtbhjgcokpmiopaaGreatDoor
open Go.RowKit Go.Extern.Stop Go.Stop Go.Extern
set_option linter.unusedVariables false
attribute [local irreducible] wpList wpAnyH Code.wp Oper.wp Go

/-- whether x is in l -/
def hasI (l : List Int) (x : Int) : Bool := l.any fun y => decide (x = y)
theorem hasI_true {l : List Int} {x : Int} {i : Nat} (hi : i < l.length) (h : x = l.getD i 0) : hasI l x = true := by
  unfold hasI
  rw [List.any_eq_true]
  exact ⟨l[i], List.getElem_mem _, by rw [decide_eq_true_iff, h]; simp [hi]⟩
theorem hasI_false {l : List Int} {x : Int} (h : ∀ j, j < l.length → x ≠ l.getD j 0) : hasI l x = false := by
  unfold hasI
  rw [List.any_eq_false]
  intro y hy
  obtain ⟨j, hj, rfl⟩ := List.getElem_of_mem hy
  have := h j hj
  simpa [hj] using this
end Go.Proofs.YtbhjgcokpmiopaaGreatDoor
namespace Go.Proofs.YtbhjgcokpmiopaaGreatDoor
open Go.RowKit
set_option linter.unusedVariables false
attribute [local go_sem] Oper.semAt_some

def splitL (hi : Int) (l : List Int) : List (Int × Int) := (List.range l.length).map (partAt hi l)
/-- the child of number i -/
def childI (lo hi : Int) (l : List Int) (i : Int) : (Int × Int) × Int :=
  if fitsI lo hi l = 0 then if 0 ≤ i ∧ i < l.length then (partAt hi l i.toNat, 0) else ((0, 0), 3) else ((0, 0), fitsI lo hi l)

theorem child_bad {lo hi i : Int} {l : List Int} (h : fitsI lo hi l ≠ 0) : childI lo hi l i = ((0, 0), fitsI lo hi l) := by simp [childI, h]
theorem child_out {lo hi i : Int} {l : List Int} (h : fitsI lo hi l = 0) (hi' : ¬ (0 ≤ i ∧ i < l.length)) : childI lo hi l i = ((0, 0), 3) := by simp only [childI, h, if_true]; rw [if_neg hi']
theorem child_in {lo hi : Int} {l : List Int} {i : Nat} (h : fitsI lo hi l = 0) (hi' : i < l.length) : childI lo hi l i = (partAt hi l i, 0) := by
  simp only [childI, h, if_true]; rw [if_pos ⟨by omega, by omega⟩]; simp
theorem each_none {i : Int} {n : Nat} (h : ∀ x ∈ List.finRange n, (qOf x : Int) ≠ i) : ¬ (0 ≤ i ∧ i < n) := fun ⟨h1, h2⟩ => by
  refine h ⟨n - 1 - i.toNat, by omega⟩ (by simp) ?_
  simp only [qOf]; omega
theorem each_last {lo hi i : Int} {l : List Int} {x : Fin l.length} (hf : fitsI lo hi l = 0) (hx : (qOf x : Int) = i) : childI lo hi l i = (partAt hi l (qOf x), 0) := by
  rw [← hx]; exact child_in hf (by have := x.2; simp only [qOf]; omega)
theorem below_child {w w' : World} {B : Nat} (h : Below w.heap.size w w') (hB : w.heap.size ≤ B) {i j k : Nat} {x y z : Value} {C : Nat} (hC : w.heap.size ≤ C) :
    Below w.heap.size w (((w'.setCell ⟨B, i, none⟩ x).setCell ⟨B, j, none⟩ y).setCell ⟨C, k, none⟩ z) := ((h.setCell hB _).setCell hB _).setCell hC _

/-- the result's cells when the rounds of pre are over -/
def outStep (hi : Int) (l : List Int) (cs : List Value) (x : Fin l.length) : List Value :=
  (cs.set (qOf x * 2) (.int .i64 (partAt hi l (qOf x)).1)).set (qOf x * 2 + 1) (.int .i64 (partAt hi l (qOf x)).2)
def outC (hi : Int) (l : List Int) (pre : List (Fin l.length)) : List Value := pre.foldl (outStep hi l) (zeros [.int .i64 0, .int .i64 0] l.length)
theorem outC_snoc (hi : Int) (l : List Int) (pre : List (Fin l.length)) (x : Fin l.length) : outC hi l (pre ++ [x]) = outStep hi l (outC hi l pre) x := by simp [outC]
theorem outFold_length (hi : Int) (l : List Int) : ∀ (pre : List (Fin l.length)) (cs : List Value), (pre.foldl (outStep hi l) cs).length = cs.length
  | [], _ => rfl
  | x :: pre, cs => by rw [List.foldl_cons, outFold_length hi l pre]; simp [outStep]
theorem outC_length (hi : Int) (l : List Int) (pre : List (Fin l.length)) : (outC hi l pre).length = l.length * 2 := by
  rw [outC, outFold_length, zeros_length]; rfl
theorem outFold_get (hi : Int) (l : List Int) (q : Nat) (hq : q < l.length) : ∀ (pre : List (Fin l.length)) (cs : List Value), cs.length = l.length * 2 →
    ((∃ x ∈ pre, qOf x = q) ∨ (cs[q * 2]? = some (.int .i64 (partAt hi l q).1) ∧ cs[q * 2 + 1]? = some (.int .i64 (partAt hi l q).2))) →
    (pre.foldl (outStep hi l) cs)[q * 2]? = some (.int .i64 (partAt hi l q).1) ∧ (pre.foldl (outStep hi l) cs)[q * 2 + 1]? = some (.int .i64 (partAt hi l q).2)
  | [], cs, hl, h => by
    rcases h with ⟨x, hx, _⟩ | h
    · cases hx
    · exact h
  | x :: pre, cs, hl, h => by
    rw [List.foldl_cons]
    refine outFold_get hi l q hq pre _ (by simp [outStep, hl]) ?_
    by_cases hx : qOf x = q
    · subst hx
      refine .inr ⟨?_, ?_⟩
      · simp only [outStep]; rw [List.getElem?_set_ne (by omega), List.getElem?_set_self (by omega)]
      · simp only [outStep]; rw [List.getElem?_set_self (by simp; omega)]
    · rcases h with ⟨y, hy, hyq⟩ | h
      · rcases List.mem_cons.1 hy with rfl | hy
        · exact absurd hyq hx
        · exact .inl ⟨y, hy, hyq⟩
      · refine .inr ⟨?_, ?_⟩
        · simp only [outStep]; rw [List.getElem?_set_ne (by omega), List.getElem?_set_ne (by omega)]; exact h.1
        · simp only [outStep]; rw [List.getElem?_set_ne (by omega), List.getElem?_set_ne (by omega)]; exact h.2
theorem outC_all (hi : Int) (l : List Int) : outC hi l (List.finRange l.length) = flat2 (splitL hi l) := by
  have hs : (splitL hi l).length = l.length := by simp [splitL]
  have hg : ∀ q, q < l.length → (splitL hi l)[q]? = some (partAt hi l q) := fun q hq => by simp [splitL, hq]
  apply List.ext_getElem?
  intro j
  by_cases hj : j < l.length * 2
  · have hq : j / 2 < l.length := by omega
    have h := outFold_get hi l (j / 2) hq (List.finRange l.length) (zeros [.int .i64 0, .int .i64 0] l.length) (by rw [zeros_length]; rfl)
      (.inl ⟨⟨l.length - 1 - j / 2, by omega⟩, by simp, by simp only [qOf]; omega⟩)
    by_cases h2 : j % 2 = 0
    · have e : j = j / 2 * 2 := by omega
      rw [e, flat2_even, hg _ hq]; exact h.1
    · have e : j = j / 2 * 2 + 1 := by omega
      rw [e, flat2_odd, hg _ hq]; exact h.2
  · rw [List.getElem?_eq_none (by rw [outC_length]; omega), List.getElem?_eq_none (by rw [flat2_length, hs]; omega)]
def splitR (lo hi : Int) (l : List Int) : List (Int × Int) := if fitsI lo hi l = 0 then splitL hi l else []
end Go.Proofs.YtbhjgcokpmiopaaGreatDoor
namespace Go.Proofs.YtbhjgcokpmiopaaGreatDoor
open Go.RowKit Go.Extern.Stop Go.Stop Go.Extern
set_option linter.unusedVariables false
attribute [local irreducible] wpList wpAnyH Code.wp Oper.wp Go

/-- the number of the error of a node that is looked at, as the one below way, for the span lo hi -/
def lookE (l : List UInt8) (way : List Int) (no tree lo hi deep : Int) : Int :=
  if hasI way no = true then 11 else if 16 ≤ way.length then 10 else if nodeErr l no tree ≠ 0 then nodeErr l no tree else if fitsI lo hi (keysI (inB l no) (nodC (inB l no))) ≠ 0 then 9 else
    if nodL (inB l no) = true ∧ deep ≠ 0 ∧ deep ≠ ((way.length + 1 : Nat) : Int) then 10 else 0
theorem intsN_of {w : World} {v : Value} {n : Nat} {l : List Int} (h : Sl w v n (l.map (Value.int .i64))) (hl : l.length = n) : Ints w v l := by subst hl; exact h
end Go.Proofs.YtbhjgcokpmiopaaGreatDoor
namespace Go.Proofs.YtbhjgcokpmiopaaGreatDoor
open Go.RowKit Go.Extern.Stop Go.Stop Go.Extern
set_option linter.unusedVariables false
attribute [local irreducible] wpList wpAnyH Code.wp Oper.wp Go

/-- a leaf's first k entries -/
def leafL (K : List Int) (Vs : List (List UInt8)) (no : Int) (k : Nat) : List Ent := (List.range k).map fun j => (K.getD j 0, Vs.getD j [], no)
theorem leafL_len (K : List Int) (Vs : List (List UInt8)) (no : Int) (k : Nat) : (leafL K Vs no k).length = k := by simp [leafL]
theorem leafL_snoc (K : List Int) (Vs : List (List UInt8)) (no : Int) (k : Nat) : leafL K Vs no (k + 1) = leafL K Vs no k ++ [(K.getD k 0, Vs.getD k [], no)] := by simp [leafL, List.range_succ]
theorem leaf_row (es : List Ent) (K : List Int) (Vs : List (List UInt8)) (no : Int) (k : Nat) : (es ++ leafL K Vs no k).flatMap entC ++ [.int .i64 (K.getD k 0), .string ⟨(Vs.getD k []).toArray⟩, .int .i64 no] = (es ++ leafL K Vs no (k + 1)).flatMap entC := by
  rw [leafL_snoc, ← List.append_assoc, List.flatMap_append (xs := es ++ leafL K Vs no k)]
  rfl
end Go.Proofs.YtbhjgcokpmiopaaGreatDoor
namespace Go.Proofs.YtbhjgcokpmiopaaGreatDoor
open Go.RowKit Go.Extern.Stop Go.Stop Go.Extern
set_option linter.unusedVariables false
/-- two rows lie apart -/
def Apart (u v : Value) : Prop := ∀ j, u.ownBlock = some j → v.ownBlock ≠ some j
theorem Apart.symm {u v : Value} (h : Apart u v) : Apart v u := fun j h1 h2 => h j h2 h1
theorem Apart.grow {w : World} {u v u' : Value} {base e size n : Nat} {xs : List Value} (h : Apart u v) (k : w.ownsRow base e size v n xs) (hl : u'.ownBlock = u.ownBlock ∨ u'.ownBlock = some w.heap.size) : Apart u' v := by
  rintro j h1 h2
  rcases hl with hl | hl
  · exact h j (hl ▸ h1) h2
  · rw [hl, Option.some.injEq] at h1
    subst h1
    have := (k.lt _ h2).2
    omega
theorem Apart.row {w W : World} {u v : Value} {base e size n : Nat} {xs : List Value} (h : Apart u v) (k : w.ownsRow base e size v n xs) (hg : w.grownBy W u.ownBlock) : W.ownsRow base e size v n xs := by
  obtain ⟨h1, h2⟩ := k
  refine ⟨h1, ?_⟩
  rcases h2 with h2 | ⟨g, cap, cur, rfl, hb, hh, r⟩
  · exact Or.inl h2
  · exact Or.inr ⟨g, cap, cur, rfl, hb, (hg.block g (Array.getElem?_eq_some_iff.1 hh).1 (fun q => h g q.symm rfl)).trans hh, r⟩
theorem Apart.of_lt {w W : World} {u v : Value} {base base2 e e2 size size2 n n2 : Nat} {xs ys : List Value} (k : w.ownsRow base e size u n xs) (q : W.ownsRow base2 e2 size2 v n2 ys) (h : w.heap.size ≤ base2) : Apart u v := fun j h1 h2 => by
  have := (k.lt j h1).2
  have := (q.lt j h2).1
  omega
theorem Apart.nil (v : Value) : Apart (.slice none 0 0) v := fun j h => by cases h
/-- a row cut short at its end is a row -/
theorem own_cut {w : World} {base e n m c : Nat} {p : Option Addr} {xs : List Value} (k : w.ownsRow base e 1 (.slice p n c) n xs) (hm : m ≤ n) (hp : p.isSome = true) : w.ownsRow base e 1 (.slice p m c) m (xs.take m) := by
  obtain ⟨h1, h2⟩ := k
  refine ⟨by rw [List.length_take]; omega, ?_⟩
  rcases h2 with ⟨h2, _⟩ | ⟨g, cap, cur, hv, hb, hh, hc, hr1, hr2, hr3⟩
  · cases h2; cases hp
  · simp only [Value.slice.injEq] at hv
    obtain ⟨rfl, _, rfl⟩ := hv
    refine Or.inr ⟨g, c, cur, rfl, hb, hh, by omega, hr1, hr2, ?_⟩
    rw [← hr3, List.take_take]
    congr 1
    omega
theorem op_app_at {P : Program} {a : Act} {w : World} {K : Act → World → Prop} {Q : Exit → Act → World → Prop} {o : Oper} {s x : Operand} {t e te : TypeId} {base : Nat} {v : Value} {n : Nat} {xs : List Value} {b m c : Nat} {news : List Value} (z : Value) (size bytes n' : Nat) (xs' : List Value)
    (ho : o.op = .call { callee := .builtin .append, args := #[s, x], argTypes := #[t, t] }) (ht : P.underlying t = some (.slice e)) (hi : (P.info? e).map (fun i => (i.zero, i.size, i.bytes)) = some (some z, size, bytes)) (hzs : z.cells.size = size) (hsz : 0 < size) (hs : a.eval s = v)
    (hown : w.ownsRow base e size v n xs) (hx : a.eval x = .slice (some ⟨b, 0, none⟩) m c) (hnew : Blk w b news te) (hl : news.length = m * size) (h1 : ∀ u ∈ news, u.oneCell' = true) (h63 : n + m ≤ maxLen) (hbytes : (n + m) * bytes ≤ 140737488355328) (hbase : base ≤ w.heap.size) (hn : n + m = n') (hxs : xs ++ news = xs')
    (h : ∀ p c W, W.ownsRow base e size (.slice p n' c) n' xs' → w.grownBy W v.ownBlock → Below base w W → ((Value.slice p n' c).ownBlock = v.ownBlock ∨ (Value.slice p n' c).ownBlock = some w.heap.size) → K (a.put o.dst (.slice p n' c)) W) : o.wp P a w K Q := by
  cases hq : P.info? e with
  | none => simp [hq] at hi
  | some i =>
    simp only [hq, Option.map_some, Option.some.injEq, Prod.mk.injEq] at hi
    have hc : ∀ j u, news[j]? = some u → w.cell? ((⟨b, 0, none⟩ : Addr).add j) = some u := fun j u hj => by
      have hc := hnew.cell hj
      by_cases h0 : j = 0
      · subst h0; simpa [Addr.add] using hc
      · simpa [Addr.add, h0] using hc
    obtain ⟨v', W, hr, h2, h3, _, h5⟩ := run_append_own_at (P := P) w base t o.type e i z size bytes ht hq hi.1 hi.2.1 hi.2.2 hzs hsz v n xs hown ⟨b, 0, none⟩ m c news hl hc h1 h63 hbytes hbase
    subst hn hxs
    obtain ⟨p, c2, rfl⟩ := (own_sl h2).slice
    unfold Oper.wp execOp
    simp only [ho, resolve, invoke, builtin, Sem.run_bind, Sem.run_pure, Result.andThen_ok, List.map_toArray, List.map_cons, List.map_nil, hs, hx, hr]
    exact h p c2 W h2 h3 (grown_below h3 hown (Nat.le_refl _) hbase) h5
end Go.Proofs.YtbhjgcokpmiopaaGreatDoor
namespace Go.Proofs.YtbhjgcokpmiopaaGreatDoor
open Go.RowKit Go.Extern.Stop Go.Stop Go.Extern
set_option linter.unusedVariables false
attribute [local irreducible] wpList wpAnyH Code.wp Oper.wp Go

/-- the rows that are full, apart from a row that grows -/
structure EachS (B : Nat) (W : World) (u : Value) (gs : List (Nat × Nat)) (L : List (List Int)) : Prop where
  len : gs.length = L.length
  each : Each W B gs L
  ap : ∀ i, i < L.length → Apart u (lstV gs L i)
theorem EachS.below {B : Nat} {w W : World} {u : Value} {gs : List (Nat × Nat)} {L : List (List Int)} (h : EachS B w u gs L) (hb : Below w.heap.size w W) : EachS B W u gs L := ⟨h.len, h.each.below hb, h.ap⟩
theorem EachS.only {T : List TypeId} {B : Nat} {w W : World} {u : Value} {gs : List (Nat × Nat)} {L : List (List Int)} (h : EachS B w u gs L) (hO : Only T w W) (hT : T.contains 3 = false) : EachS B W u gs L := ⟨h.len, h.each.only hO hT, h.ap⟩
theorem EachS.grow {B : Nat} {w W : World} {u u' : Value} {gs : List (Nat × Nat)} {L : List (List Int)} (h : EachS B w u gs L) (hg : w.grownBy W u.ownBlock) (hl : u'.ownBlock = u.ownBlock ∨ u'.ownBlock = some w.heap.size) : EachS B W u' gs L :=
  ⟨h.len, fun i hi => (h.ap i hi).row (h.each i hi) hg, fun i hi => (h.ap i hi).grow (h.each i hi) hl⟩
theorem EachS.nil (B : Nat) (w : World) : EachS B w (.slice none 0 0) [] [] := ⟨rfl, fun i hi => absurd hi (Nat.not_lt_zero _), fun i hi => absurd hi (Nat.not_lt_zero _)⟩
theorem out_elem {w : World} {p : Option Addr} {n c q : Nat} {A : List Value} {x : Value} (h : Sl w (.slice p n c) n (A ++ [x])) (hA : A.length = q) : p.isSome = true ∧ w.cell? (elemAddr p (q * 1)) = some x := by
  rw [Nat.mul_one]; exact Sl.elem h (by subst hA; simp)
theorem out_set {q : Nat} {A : List Value} {x y : Value} (hA : A.length = q) : (A ++ [x]).set q y = A ++ [y] := by subst hA; simp
theorem out_neg {w : World} {B t n m : Nat} {v x : Value} {A : List Value} (hm : m ≠ 0) (h : w.ownsRow B t 1 v n (A ++ (if m = 0 then [] else [x]))) : w.ownsRow B t 1 v n (A ++ [x]) := by rwa [if_neg hm] at h
theorem ch_snoc {l : List Int} {i q m : Nat} (hq : i = q * 960 + m) (hi : i < l.length) {v : Int} (hv : mn3 (l.getD i 0) = v) : ((((smallL l).drop (q * 960)).take m).map (Value.int .i64)) ++ [.int .i64 v] = ((((smallL l).drop (q * 960)).take (m + 1)).map (Value.int .i64)) := by
  have h1 : q * 960 + m < (smallL l).length := by rw [smallL_len]; omega
  have h2 : ((smallL l).drop (q * 960)).take (m + 1) = ((smallL l).drop (q * 960)).take m ++ [v] := by
    rw [List.take_succ_eq_append_getElem (by simp; omega), List.getElem_drop]
    congr 2
    rw [← hv, hq]
    simp [smallL, List.getD]
    rw [List.getElem?_eq_getElem (by rw [smallL_len] at h1; exact h1)]
    rfl
  rw [h2, List.map_append]; rfl
theorem spl_full {B q m c n : Nat} {W : World} {l : List Int} {p : Option Addr} {v : Value} {gs : List (Nat × Nat)} (hm : 0 < m) (hch : (((smallL l).drop (q * 960)).take m) = chunkI (smallL l) q) (hcl : (chunkI (smallL l) q).length = m) (hn : n = q + 1) (hE : EachS B W (.slice p m c) gs (chunksI (smallL l) q))
    (hl : W.ownsRow B 3 1 (.slice p m c) m ((((smallL l).drop (q * 960)).take m).map (Value.int .i64))) (ho : W.ownsRow B 22 1 v n (((List.range q).map (lstV gs (chunksI (smallL l) q))) ++ [.slice p m c])) : ∃ gs2, gs2.length = q + 1 ∧ Lists W B v gs2 (chunksI (smallL l) (q + 1)) := by
  obtain ⟨g, rfl, hc⟩ := own_someN hl hm
  subst hn
  have hL := Lists.snoc (w := W) (base := B) (g := g) (c := c) (n := q + 1) (v := v) (gs := gs) (L := chunksI (smallL l) q) (ch := chunkI (smallL l) q) (by rw [chunksI_len]) (by rw [chunksI_len, hcl]; exact ho) hE.each (by rw [hcl, ← hch]; exact hl) (by rw [hE.len])
  exact ⟨gs ++ [(g, c)], by rw [List.length_append, hE.len, chunksI_len]; rfl, by rw [chunksI_succ]; exact hL⟩
theorem spl_next {B i q m c n : Nat} {W : World} {l : List Int} {p : Option Addr} {pb : Option Addr} {cb : Nat} {gs : List (Nat × Nat)} (hq : i = q * 960 + m) (hm : m < 960) (hi : i < l.length) (hn : n = q + 1) (hE : EachS B W (.slice p (m + 1) c) gs (chunksI (smallL l) q))
    (hl : W.ownsRow B 3 1 (.slice p (m + 1) c) (m + 1) ((((smallL l).drop (q * 960)).take (m + 1)).map (Value.int .i64))) (ho : W.ownsRow B 22 1 (.slice pb n cb) n (((List.range q).map (lstV gs (chunksI (smallL l) q))) ++ [.slice p (m + 1) c])) :
    ∃ q2 m2 pl2 cl2 gs2, i + 1 = q2 * 960 + m2 ∧ m2 < 960 ∧ ((m2 = 0 → n = q2 ∧ pl2 = none ∧ cl2 = 0) ∧ (m2 ≠ 0 → n = q2 + 1)) ∧ EachS B W (.slice pl2 m2 cl2) gs2 (chunksI (smallL l) q2) ∧ W.ownsRow B 3 1 (.slice pl2 m2 cl2) m2 ((((smallL l).drop (q2 * 960)).take m2).map (Value.int .i64)) ∧ W.ownsRow B 22 1 (.slice pb n cb) n (((List.range q2).map (lstV gs2 (chunksI (smallL l) q2))) ++ (if m2 = 0 then [] else [.slice pl2 m2 cl2])) := by
  by_cases h9 : m + 1 = 960
  · have hcl : (chunkI (smallL l) q).length = m + 1 := by rw [chunkI_len, smallL_len]; omega
    obtain ⟨gs2, h1, h2⟩ := spl_full (by omega) (by unfold chunkI; rw [h9]) hcl hn hE hl ho
    refine ⟨q + 1, 0, none, 0, gs2, by omega, by decide, ⟨fun _ => ⟨by omega, rfl, rfl⟩, fun q => absurd rfl q⟩, ⟨by rw [h1, chunksI_len], h2.each, fun _ _ => Apart.nil _⟩, World.ownsRow_nil _ _ _ _, ?_⟩
    have := h2.row
    rw [chunksI_len] at this
    subst hn
    simpa using this
  · exact ⟨q, m + 1, p, c, gs, by omega, by omega, ⟨fun h => absurd h (by omega), fun _ => by omega⟩, hE, hl, by rw [if_neg (by omega)]; exact ho⟩
def RSplitP (l : List Int) (w : World) (e : Ending) (w' : World) : Prop :=
  (splitE l ≠ 0 ∧ e = .returned (.tuple #[.slice none 0 0, .slice none 0 0, .int .i64 2]) ∧ Below w.heap.size w w') ∨
  (splitE l = 0 ∧ ∃ pb cb gs po co, e = .returned (.tuple #[.slice pb (bmN l.length) cb, .slice po (overK l l.length).length co, .int .i64 0]) ∧ Below w.heap.size w w' ∧ Lists w' w.heap.size (.slice pb (bmN l.length) cb) gs (chunksI (smallL l) (bmN l.length)) ∧ w'.ownsRow w.heap.size 99 3 (.slice po (overK l l.length).length co) (overK l l.length).length ((overK l l.length).flatMap entC))
theorem rsplit_bad {l : List Int} {i : Nat} (hl : l.length ≤ 65536) (hi : i < l.length) (h : ¬ cntOk (l.getD i 0)) : splitE l ≠ 0 := fun q => h ((splitE_ok q).2 i hi)
theorem spl_done {B q m c n : Nat} {W : World} {l : List Int} {p : Option Addr} {pb : Option Addr} {cb : Nat} {gs : List (Nat × Nat)} (hq : l.length = q * 960 + m) (hm : m < 960) (hn : (m = 0 → n = q ∧ p = none ∧ c = 0) ∧ (m ≠ 0 → n = q + 1)) (hE : EachS B W (.slice p m c) gs (chunksI (smallL l) q))
    (hl : W.ownsRow B 3 1 (.slice p m c) m ((((smallL l).drop (q * 960)).take m).map (Value.int .i64))) (ho : W.ownsRow B 22 1 (.slice pb n cb) n (((List.range q).map (lstV gs (chunksI (smallL l) q))) ++ (if m = 0 then [] else [.slice p m c]))) : n = bmN l.length ∧ ∃ gs2, Lists W B (.slice pb n cb) gs2 (chunksI (smallL l) (bmN l.length)) := by
  by_cases h0 : m = 0
  · obtain ⟨h1, _, _⟩ := hn.1 h0
    have hb : bmN l.length = q := by unfold bmN; omega
    rw [hb]
    refine ⟨h1, gs, ?_, hE.each⟩
    rw [chunksI_len]
    rw [if_pos h0, List.append_nil] at ho
    subst h1; exact ho
  · have h1 := hn.2 h0
    have hb : bmN l.length = q + 1 := by unfold bmN; omega
    rw [if_neg h0] at ho
    have hcl : (chunkI (smallL l) q).length = m := by rw [chunkI_len, smallL_len]; omega
    have hch : (((smallL l).drop (q * 960)).take m) = chunkI (smallL l) q := by
      unfold chunkI
      rw [List.take_of_length_le (i := m) (by simp [smallL_len]; omega), List.take_of_length_le (i := 960) (by simp [smallL_len]; omega)]
    obtain ⟨gs2, _, h2⟩ := spl_full (by omega) hch hcl h1 hE hl ho
    rw [hb]
    exact ⟨h1, gs2, h2⟩
end Go.Proofs.YtbhjgcokpmiopaaGreatDoor
namespace Go.Proofs.YtbhjgcokpmiopaaGreatDoor
open Go.RowKit Go.Extern.Stop Go.Stop Go.Extern
set_option linter.unusedVariables false
attribute [local irreducible] wpList wpAnyH Code.wp Oper.wp Go

set_option maxRecDepth 100000 in
set_option maxHeartbeats 8000000 in
theorem ref21_Split (a : Option Addr) (c : Nat) (l : List Int) (w : World) (h : Sl w (.slice a l.length c) l.length (l.map (Value.int .i64))) (hl : l.length ≤ 65536) :
    Calls Tryz.prog 36 #[.slice a l.length c] w (RSplitP l w) := by
 refine zin 57 Tryz.func36 ?_
 refine xk 15 (show (decide ((↑l.length : Int) > (65536 : Int)) : Bool) = false from decide_eq_false (by omega)) ?_
 have hB := Below.refl w.heap.size w
 refine zl 19 57 (fun zm zkv V => ∃ (i q m nb : Nat) (pb : Option Addr) (cb : Nat) (pl : Option Addr) (cl : Nat) (gs : List (Nat × Nat)) (ko : Nat) (po : Option Addr) (co : Nat), zkv = [(0, .slice a l.length c), (5, .slice pb nb cb), (6, .slice po ko co), (7, .int .i64 (↑i : Int))] ∧ zm = l.length - ((↑i : Int)).toNat ∧ Below w.heap.size w V ∧ V.ownsRow w.heap.size 22 1 (.slice pb nb cb) nb (((List.range q).map (lstV gs (chunksI (smallL l) q))) ++ (if m = 0 then [] else [.slice pl m cl])) ∧ V.ownsRow w.heap.size 99 3 (.slice po ko co) ko ((overK l i).flatMap entC) ∧ V.ownsRow w.heap.size 3 1 (.slice pl m cl) m ((((smallL l).drop (q * 960)).take m).map (Value.int .i64)) ∧ EachS w.heap.size V (.slice pl m cl) gs (chunksI (smallL l) q) ∧ i ≤ l.length ∧ i = q * 960 + m ∧ m < 960 ∧ ((m = 0 → nb = q ∧ pl = none ∧ cl = 0) ∧ (m ≠ 0 → nb = q + 1)) ∧ ((∀ k, k < i → cntOk (l.getD k 0))) ∧ ko = (overK l i).length) ⟨0, 0, 0, 0, none, 0, none, 0, [], 0, none, 0, rfl, rfl, hB, World.ownsRow_nil _ _ _ _, World.ownsRow_nil _ _ _ _, World.ownsRow_nil _ _ _ _, EachS.nil _ _, Nat.zero_le _, rfl, by decide, ⟨fun _ => ⟨rfl, rfl, rfl⟩, fun q => absurd rfl q⟩, ?_, rfl⟩ ?_
 · exact fun k hk => absurd hk (by omega)
 rintro _ _ W1 ⟨i, q, m, nb, pb, cb, pl, cl, gs, ko, po, co, rfl, rfl, hB_1, hou, hov, hla, hEa, hi, hq, hm, hnb, hok, hko⟩ J1 hJ1 r1
 have hol := overK_len l i
 refine xid 9 ((↑i : Int) < (↑l.length : Int)) (fun hc2 => ?_) (fun hc2 => ?_)
 · refine xx 8 _ l.length i 1 (Ints.elem h (k := i) (by omega)).1 ?_
   refine xl 0 ((Ints.elem (h.below hB_1) (k := i) (by omega)).2) ?_
   refine xg 9 [23, 24] (decide ((l.getD i 0) < (0 : Int))) (fun hc3 => ?_) (fun hc3 => ?_)
   · have hc3 := of_decide_eq_true hc3
     exact xe 20 (.tuple #[.slice none 0 0, .slice none 0 0, .int .i64 2]) (.inl ⟨rsplit_bad hl (i := i) (by omega) (fun q => by unfold cntOk at q; omega), rfl, hB_1⟩)
   have hc3 := of_decide_eq_false hc3
   refine xid 5 ((l.getD i 0) > (2147483647 : Int)) (fun hc4 => ?_) (fun hc4 => ?_)
   · exact xe 14 (.tuple #[.slice none 0 0, .slice none 0 0, .int .i64 2]) (.inl ⟨rsplit_bad hl (i := i) (by omega) (fun q => by unfold cntOk at q; omega), rfl, hB_1⟩)
   refine xq 6 (congrArg (Value.int .i64) (show (Int.tmod (↑i : Int) 960 : Int) = (↑m : Int) from (tmod_natB i 960).trans (by rw [show i % 960 = m by omega]))) ?_
   refine xie 3 (↑m : Int) (0 : Int) (fun hc5 => ?_) (fun hc5 => ?_)
   · have hm0 : m = 0 := by omega
     have hn0 := hnb.1 hm0
     have hn1 : nb + 1 = q + 1 := by omega
     refine xbs 2 1 [.slice none 0 0] 22 fun b6 W6 n6 => ?_
     have g6 := n6.ge hB_1
     have r6_hou := own_ne hou n6
     have hou'1 := own_below hou n6.below
     have hB'1 := Bl.next hB_1 n6.below
     refine xbi 0 fun _ _ _ _ zJ zQ zo zx zy zK => op_app (m := 1) (news := [.slice none 0 0]) (.slice none 0 0) 1 24 (nb + 1) ((((List.range q).map (lstV gs (chunksI (smallL l) q))) ++ [.slice pl m cl])) zo Tryz.underlying59 (by kernel_rfl) rfl (by decide) zx hou'1 zy (n6.blk.sl 1 1 (by decide) (by decide)) rfl (by simp [Value.oneCell']) (by unfold maxLen; omega) (by omega) hB'1.size (by rfl) (by rw [if_pos hm0, List.append_nil, hn0.2.1, hn0.2.2, hm0]) fun px7 cx7 W7 o7 hg7 hb7 => ?_
     refine zK _ _ ?_
     refine xid 10 ((l.getD i 0) ≥ (3 : Int)) (fun hc8 => ?_) (fun hc8 => ?_)
     · refine xr 5 (args := #[.int .i64 (l.getD i 0)]) (ref08_CountT (l.getD i 0) _ (by omega)) fun W9 hb9 => ?_
       refine xbs 1 1 [.int .i64 (↑i : Int), .string ⟨(leB (l.getD i 0) 4).toArray⟩, .int .i64 0] 99 fun b10 W10 n10 => ?_
       have hB'2 := Bl.next (hB'1.trans hb7) hb9
       have g10 := n10.ge hB'2
       have hov'1 := own_below (own_grown (own_below hov n6.below) hg7 hou'1 (by decide)) hb9
       have r10_hov := own_ne hov'1 n10
       have hov'2 := own_below hov'1 n10.below
       have hB'3 := Bl.next hB'2 n10.below
       refine xbi 0 fun _ _ _ _ zJ zQ zo zx zy zK => op_app (m := 1) (news := [.int .i64 (↑i : Int), .string ⟨(leB (l.getD i 0) 4).toArray⟩, .int .i64 0]) (.agg #[.int .i64 0, .string ⟨#[]⟩, .int .i64 0]) 3 32 (ko + 1) (((overK l (i + 1)).flatMap entC)) zo Tryz.underlying60 (by kernel_rfl) rfl (by decide) zx hov'2 zy (n10.blk.sl 1 1 (by decide) (by decide)) rfl (by simp [Value.oneCell']) (by unfold maxLen; omega) (by omega) hB'3.size (by rfl) (by rw [overK_yes (by omega), List.flatMap_append]; rfl) fun px11 cx11 W11 o11 hg11 hb11 => ?_
       refine zK _ _ ?_
       have o7'1 := own_grown (own_below (own_below o7 hb9) n10.below) hg11 hov'2 (by decide)
       obtain ⟨gb, rfl, hgc⟩ := own_someN o7'1 (by omega)
       refine xq 10 (congrArg (Value.int .i64) (show (IntKind.i64.wrap (Int.tdiv (↑i : Int) 960) : Int) = (↑q : Int) from (quo_natB i 960 (by omega) (by decide)).trans (by rw [show i / 960 = q by omega]))) ?_
       refine xq 2 (congrArg (Value.int .i64) (show (IntKind.i64.wrap (Int.tdiv (↑i : Int) 960) : Int) = (↑q : Int) from (quo_natB i 960 (by omega) (by decide)).trans (by rw [show i / 960 = q by omega]))) ?_
       refine xx 0 _ (nb + 1) q 1 (out_elem (own_sl o7'1) (q := q) (by simp)).1 ?_
       refine xl 0 ((out_elem (own_sl o7'1) (q := q) (by simp)).2) ?_
       refine xbs 1 1 [.int .i64 3] 3 fun b12 W12 n12 => ?_
       have hB'4 := hB'3.trans hb11
       have g12 := n12.ge hB'4
       have hla'1 := own_grown (own_below (own_below (own_grown (own_below hla n6.below) hg7 hou'1 (by decide)) hb9) n10.below) hg11 hov'2 (by decide)
       have r12_hla := own_ne hla'1 n12
       have hla'2 := own_below hla'1 n12.below
       have hB'5 := Bl.next hB'4 n12.below
       refine xbi 0 fun _ _ _ _ zJ zQ zo zx zy zK => op_app_at (b := b12) (c := 1) (m := 1) (news := [.int .i64 3]) (.int .i64 0) 1 8 (m + 1) (((((smallL l).drop (q * 960)).take (m + 1)).map (Value.int .i64))) zo Tryz.underlying22 (by kernel_rfl) rfl (by decide) zx hla'2 zy n12.blk rfl (by simp [Value.oneCell']) (by unfold maxLen; omega) (by omega) hB'5.size (by rfl) (ch_snoc hq (by omega) (by unfold mn3; rw [if_neg (by omega)])) fun px13 cx13 W13 o13 hg13 hb13 ha13 => ?_
       refine zK _ _ ?_
       have o7'2 := own_grown (own_below o7'1 n12.below) hg13 hla'2 (by decide)
       refine xx 0 _ (nb + 1) q 1 (out_elem (own_sl o7'2) (q := q) (by simp)).1 ?_
       refine xst 0 fun _ _ _ _ zJ zQ zo zx zy zK => op_storeRow (t := 22) (k := q) (v := .slice px13 (m + 1) cx13) zo zx zy (by kernel_rfl) rfl o7'2 (by omega) fun W14 u14 o14 => ?_
       rw [out_set (by simp)] at o14
       refine zK _ _ ?_
       refine xwm 5 ((↑i : Int) + 1) (↑(i + 1) : Int) ?_
       have hEa'1 := (((((((hEa.below n6.below).only (Only.of_grown (T := [22]) hg7 hou'1 (by decide)) (by decide)).below hb9).below n10.below).only (Only.of_grown (T := [99]) hg11 hov'2 (by decide)) (by decide)).below n12.below).grow hg13 ha13).only (Only.of_updRow (T := [22]) u14 o7'2 (by decide)) (by decide)
       have o13'1 := u14.ownRow o13 o7'2 (by decide)
       obtain ⟨q2, m2, pl2, cl2, gs2, hq2, hm2, hn2, hE2, hl2, ho2⟩ := spl_next (l := l) hq hm (by omega) hn1 hEa'1 o13'1 o14
       have hB'6 := u14.below (hB'5.trans hb13) (own_ge o7'2)
       have o11'1 := u14.ownRow (own_grown (own_below o11 n12.below) hg13 hla'2 (by decide)) o7'2 (by decide)
       exact ze 2 (hJ1 _ _ _ ⟨i + 1, q2, m2, nb + 1, _, _, pl2, cl2, gs2, ko + 1, _, _, rfl, rfl, hB'6, ho2, o11'1, hl2, hE2, by omega, hq2, hm2, hn2, fun k hk => (Nat.lt_or_ge k i).elim (hok k) (fun q => by obtain rfl : k = i := (by omega); unfold cntOk; omega), by rw [overK_yes (by omega), List.length_append]; simp; omega⟩ (by omega))
     obtain ⟨gb, rfl, hgc⟩ := own_someN o7 (by omega)
     refine xq 5 (congrArg (Value.int .i64) (show (IntKind.i64.wrap (Int.tdiv (↑i : Int) 960) : Int) = (↑q : Int) from (quo_natB i 960 (by omega) (by decide)).trans (by rw [show i / 960 = q by omega]))) ?_
     refine xq 2 (congrArg (Value.int .i64) (show (IntKind.i64.wrap (Int.tdiv (↑i : Int) 960) : Int) = (↑q : Int) from (quo_natB i 960 (by omega) (by decide)).trans (by rw [show i / 960 = q by omega]))) ?_
     refine xx 0 _ (nb + 1) q 1 (out_elem (own_sl o7) (q := q) (by simp)).1 ?_
     refine xl 0 ((out_elem (own_sl o7) (q := q) (by simp)).2) ?_
     refine xbs 1 1 [.int .i64 (l.getD i 0)] 3 fun b15 W15 n15 => ?_
     have hB'7 := hB'1.trans hb7
     have g15 := n15.ge hB'7
     have hla'3 := own_grown (own_below hla n6.below) hg7 hou'1 (by decide)
     have r15_hla := own_ne hla'3 n15
     have hla'4 := own_below hla'3 n15.below
     have hB'8 := Bl.next hB'7 n15.below
     refine xbi 0 fun _ _ _ _ zJ zQ zo zx zy zK => op_app_at (b := b15) (c := 1) (m := 1) (news := [.int .i64 (l.getD i 0)]) (.int .i64 0) 1 8 (m + 1) (((((smallL l).drop (q * 960)).take (m + 1)).map (Value.int .i64))) zo Tryz.underlying22 (by kernel_rfl) rfl (by decide) zx hla'4 zy n15.blk rfl (by simp [Value.oneCell']) (by unfold maxLen; omega) (by omega) hB'8.size (by rfl) (ch_snoc hq (by omega) (by unfold mn3; rw [if_pos (by omega)])) fun px16 cx16 W16 o16 hg16 hb16 ha16 => ?_
     refine zK _ _ ?_
     have o7'3 := own_grown (own_below o7 n15.below) hg16 hla'4 (by decide)
     refine xx 0 _ (nb + 1) q 1 (out_elem (own_sl o7'3) (q := q) (by simp)).1 ?_
     refine xst 0 fun _ _ _ _ zJ zQ zo zx zy zK => op_storeRow (t := 22) (k := q) (v := .slice px16 (m + 1) cx16) zo zx zy (by kernel_rfl) rfl o7'3 (by omega) fun W17 u17 o17 => ?_
     rw [out_set (by simp)] at o17
     refine zK _ _ ?_
     refine xwm 5 ((↑i : Int) + 1) (↑(i + 1) : Int) ?_
     have hEa'2 := ((((hEa.below n6.below).only (Only.of_grown (T := [22]) hg7 hou'1 (by decide)) (by decide)).below n15.below).grow hg16 ha16).only (Only.of_updRow (T := [22]) u17 o7'3 (by decide)) (by decide)
     have o16'1 := u17.ownRow o16 o7'3 (by decide)
     have hov'3 := u17.ownRow (own_grown (own_below (own_grown (own_below hov n6.below) hg7 hou'1 (by decide)) n15.below) hg16 hla'4 (by decide)) o7'3 (by decide)
     obtain ⟨q2, m2, pl2, cl2, gs2, hq2, hm2, hn2, hE2, hl2, ho2⟩ := spl_next (l := l) hq hm (by omega) hn1 hEa'2 o16'1 o17
     have hB'9 := u17.below (hB'8.trans hb16) (own_ge o7'3)
     exact ze 2 (hJ1 _ _ _ ⟨i + 1, q2, m2, nb + 1, _, _, pl2, cl2, gs2, ko, _, _, rfl, rfl, hB'9, ho2, (by rw [overK_no (by omega)]; exact hov'3), hl2, hE2, by omega, hq2, hm2, hn2, fun k hk => (Nat.lt_or_ge k i).elim (hok k) (fun q => by obtain rfl : k = i := (by omega); unfold cntOk; omega), by rw [overK_no (by omega)]; exact hko⟩ (by omega))
   have hm0 : m ≠ 0 := by omega
   have hn1 : nb = q + 1 := hnb.2 hm0
   refine xid 9 ((l.getD i 0) ≥ (3 : Int)) (fun hc18 => ?_) (fun hc18 => ?_)
   · refine xr 5 (args := #[.int .i64 (l.getD i 0)]) (ref08_CountT (l.getD i 0) _ (by omega)) fun W19 hb19 => ?_
     refine xbs 1 1 [.int .i64 (↑i : Int), .string ⟨(leB (l.getD i 0) 4).toArray⟩, .int .i64 0] 99 fun b20 W20 n20 => ?_
     have hB'10 := Bl.next hB_1 hb19
     have g20 := n20.ge hB'10
     have hov'4 := own_below hov hb19
     have r20_hov := own_ne hov'4 n20
     have hov'5 := own_below hov'4 n20.below
     have hB'11 := Bl.next hB'10 n20.below
     refine xbi 0 fun _ _ _ _ zJ zQ zo zx zy zK => op_app (m := 1) (news := [.int .i64 (↑i : Int), .string ⟨(leB (l.getD i 0) 4).toArray⟩, .int .i64 0]) (.agg #[.int .i64 0, .string ⟨#[]⟩, .int .i64 0]) 3 32 (ko + 1) (((overK l (i + 1)).flatMap entC)) zo Tryz.underlying60 (by kernel_rfl) rfl (by decide) zx hov'5 zy (n20.blk.sl 1 1 (by decide) (by decide)) rfl (by simp [Value.oneCell']) (by unfold maxLen; omega) (by omega) hB'11.size (by rfl) (by rw [overK_yes (by omega), List.flatMap_append]; rfl) fun px21 cx21 W21 o21 hg21 hb21 => ?_
     refine zK _ _ ?_
     have hou'2 := own_grown (own_below (own_below (out_neg hm0 hou) hb19) n20.below) hg21 hov'5 (by decide)
     obtain ⟨gb, rfl, hgc⟩ := own_someN hou'2 (by omega)
     refine xq 10 (congrArg (Value.int .i64) (show (IntKind.i64.wrap (Int.tdiv (↑i : Int) 960) : Int) = (↑q : Int) from (quo_natB i 960 (by omega) (by decide)).trans (by rw [show i / 960 = q by omega]))) ?_
     refine xq 2 (congrArg (Value.int .i64) (show (IntKind.i64.wrap (Int.tdiv (↑i : Int) 960) : Int) = (↑q : Int) from (quo_natB i 960 (by omega) (by decide)).trans (by rw [show i / 960 = q by omega]))) ?_
     refine xx 0 _ nb q 1 (out_elem (own_sl hou'2) (q := q) (by simp)).1 ?_
     refine xl 0 ((out_elem (own_sl hou'2) (q := q) (by simp)).2) ?_
     refine xbs 1 1 [.int .i64 3] 3 fun b22 W22 n22 => ?_
     have hB'12 := hB'11.trans hb21
     have g22 := n22.ge hB'12
     have hla'5 := own_grown (own_below (own_below hla hb19) n20.below) hg21 hov'5 (by decide)
     have r22_hla := own_ne hla'5 n22
     have hla'6 := own_below hla'5 n22.below
     have hB'13 := Bl.next hB'12 n22.below
     refine xbi 0 fun _ _ _ _ zJ zQ zo zx zy zK => op_app_at (b := b22) (c := 1) (m := 1) (news := [.int .i64 3]) (.int .i64 0) 1 8 (m + 1) (((((smallL l).drop (q * 960)).take (m + 1)).map (Value.int .i64))) zo Tryz.underlying22 (by kernel_rfl) rfl (by decide) zx hla'6 zy n22.blk rfl (by simp [Value.oneCell']) (by unfold maxLen; omega) (by omega) hB'13.size (by rfl) (ch_snoc hq (by omega) (by unfold mn3; rw [if_neg (by omega)])) fun px23 cx23 W23 o23 hg23 hb23 ha23 => ?_
     refine zK _ _ ?_
     have hou'3 := own_grown (own_below hou'2 n22.below) hg23 hla'6 (by decide)
     refine xx 0 _ nb q 1 (out_elem (own_sl hou'3) (q := q) (by simp)).1 ?_
     refine xst 0 fun _ _ _ _ zJ zQ zo zx zy zK => op_storeRow (t := 22) (k := q) (v := .slice px23 (m + 1) cx23) zo zx zy (by kernel_rfl) rfl hou'3 (by omega) fun W24 u24 o24 => ?_
     rw [out_set (by simp)] at o24
     refine zK _ _ ?_
     refine xwm 5 ((↑i : Int) + 1) (↑(i + 1) : Int) ?_
     have hEa'3 := (((((hEa.below hb19).below n20.below).only (Only.of_grown (T := [99]) hg21 hov'5 (by decide)) (by decide)).below n22.below).grow hg23 ha23).only (Only.of_updRow (T := [22]) u24 hou'3 (by decide)) (by decide)
     have o23'1 := u24.ownRow o23 hou'3 (by decide)
     obtain ⟨q2, m2, pl2, cl2, gs2, hq2, hm2, hn2, hE2, hl2, ho2⟩ := spl_next (l := l) hq hm (by omega) hn1 hEa'3 o23'1 o24
     have hB'14 := u24.below (hB'13.trans hb23) (own_ge hou'3)
     have o21'1 := u24.ownRow (own_grown (own_below o21 n22.below) hg23 hla'6 (by decide)) hou'3 (by decide)
     exact ze 2 (hJ1 _ _ _ ⟨i + 1, q2, m2, nb, _, _, pl2, cl2, gs2, ko + 1, _, _, rfl, rfl, hB'14, ho2, o21'1, hl2, hE2, by omega, hq2, hm2, hn2, fun k hk => (Nat.lt_or_ge k i).elim (hok k) (fun q => by obtain rfl : k = i := (by omega); unfold cntOk; omega), by rw [overK_yes (by omega), List.length_append]; simp; omega⟩ (by omega))
   have hou'4 := out_neg hm0 hou
   obtain ⟨gb, rfl, hgc⟩ := own_someN hou'4 (by omega)
   refine xq 5 (congrArg (Value.int .i64) (show (IntKind.i64.wrap (Int.tdiv (↑i : Int) 960) : Int) = (↑q : Int) from (quo_natB i 960 (by omega) (by decide)).trans (by rw [show i / 960 = q by omega]))) ?_
   refine xq 2 (congrArg (Value.int .i64) (show (IntKind.i64.wrap (Int.tdiv (↑i : Int) 960) : Int) = (↑q : Int) from (quo_natB i 960 (by omega) (by decide)).trans (by rw [show i / 960 = q by omega]))) ?_
   refine xx 0 _ nb q 1 (out_elem (own_sl hou'4) (q := q) (by simp)).1 ?_
   refine xl 0 ((out_elem (own_sl hou'4) (q := q) (by simp)).2) ?_
   refine xbs 1 1 [.int .i64 (l.getD i 0)] 3 fun b25 W25 n25 => ?_
   have g25 := n25.ge hB_1
   have r25_hla := own_ne hla n25
   have hla'7 := own_below hla n25.below
   have hB'15 := Bl.next hB_1 n25.below
   refine xbi 0 fun _ _ _ _ zJ zQ zo zx zy zK => op_app_at (b := b25) (c := 1) (m := 1) (news := [.int .i64 (l.getD i 0)]) (.int .i64 0) 1 8 (m + 1) (((((smallL l).drop (q * 960)).take (m + 1)).map (Value.int .i64))) zo Tryz.underlying22 (by kernel_rfl) rfl (by decide) zx hla'7 zy n25.blk rfl (by simp [Value.oneCell']) (by unfold maxLen; omega) (by omega) hB'15.size (by rfl) (ch_snoc hq (by omega) (by unfold mn3; rw [if_pos (by omega)])) fun px26 cx26 W26 o26 hg26 hb26 ha26 => ?_
   refine zK _ _ ?_
   have hou'5 := own_grown (own_below hou'4 n25.below) hg26 hla'7 (by decide)
   refine xx 0 _ nb q 1 (out_elem (own_sl hou'5) (q := q) (by simp)).1 ?_
   refine xst 0 fun _ _ _ _ zJ zQ zo zx zy zK => op_storeRow (t := 22) (k := q) (v := .slice px26 (m + 1) cx26) zo zx zy (by kernel_rfl) rfl hou'5 (by omega) fun W27 u27 o27 => ?_
   rw [out_set (by simp)] at o27
   refine zK _ _ ?_
   refine xwm 5 ((↑i : Int) + 1) (↑(i + 1) : Int) ?_
   have hEa'4 := ((hEa.below n25.below).grow hg26 ha26).only (Only.of_updRow (T := [22]) u27 hou'5 (by decide)) (by decide)
   have o26'1 := u27.ownRow o26 hou'5 (by decide)
   have hov'6 := u27.ownRow (own_grown (own_below hov n25.below) hg26 hla'7 (by decide)) hou'5 (by decide)
   obtain ⟨q2, m2, pl2, cl2, gs2, hq2, hm2, hn2, hE2, hl2, ho2⟩ := spl_next (l := l) hq hm (by omega) hn1 hEa'4 o26'1 o27
   have hB'16 := u27.below (hB'15.trans hb26) (own_ge hou'5)
   exact ze 2 (hJ1 _ _ _ ⟨i + 1, q2, m2, nb, _, _, pl2, cl2, gs2, ko, _, _, rfl, rfl, hB'16, ho2, (by rw [overK_no (by omega)]; exact hov'6), hl2, hE2, by omega, hq2, hm2, hn2, fun k hk => (Nat.lt_or_ge k i).elim (hok k) (fun q => by obtain rfl : k = i := (by omega); unfold cntOk; omega), by rw [overK_no (by omega)]; exact hko⟩ (by omega))
 refine xe 15 (.tuple #[.slice pb nb cb, .slice po ko co, .int .i64 0]) ?_
 obtain rfl : i = l.length := by omega
 obtain ⟨hn9, gs9, hL9⟩ := spl_done (l := l) hq hm hnb hEa hla hou
 subst hn9
 subst hko
 exact .inr ⟨by unfold splitE; rw [if_neg (by omega), if_pos hok], _, _, gs9, _, _, rfl, hB_1, hL9, hov⟩
end Go.Proofs.YtbhjgcokpmiopaaGreatDoor
namespace Go.Proofs.YtbhjgcokpmiopaaGreatDoor
open Go.RowKit Go.Extern.Stop Go.Stop Go.Extern
set_option linter.unusedVariables false
attribute [local irreducible] wpList wpAnyH Code.wp Oper.wp Go

theorem ref21_Split_ok (a : Option Addr) (c : Nat) (l : List Int) (w : World) (h : Sl w (.slice a l.length c) l.length (l.map (Value.int .i64))) (hl : l.length ≤ 65536) (hs : splitE l = 0) : Calls Tryz.prog 36 #[.slice a l.length c] w (fun e w' => ∃ pb cb gs po co, e = .returned (.tuple #[.slice pb (bmN l.length) cb, .slice po (overK l l.length).length co, .int .i64 0]) ∧ Below w.heap.size w w' ∧ Lists w' w.heap.size (.slice pb (bmN l.length) cb) gs (chunksI (smallL l) (bmN l.length)) ∧ w'.ownsRow w.heap.size 99 3 (.slice po (overK l l.length).length co) (overK l l.length).length ((overK l l.length).flatMap entC)) :=
  (ref21_Split a c l w h hl).mono fun e w' q => (q.resolve_left fun z => z.1 hs).2
theorem ref22_layN (n : Nat) (B bc bm : Nat) (pg : Option Addr) (N cg : Nat) (fa0 : Option Addr) (mf0 fc0 f k0 : Nat) (p : Option Addr) (K cI : Nat) (bs : List UInt8) (B2 : Nat) (pl : Option Addr) (cl : Nat) (gs : List (Nat × Nat)) (L : List (List Int)) (w : World) (hn : L.length = n) (hR : RAl B bc bm pg N cg fa0 mf0 fc0 k0 (rngJ f N) w) (hJ : RefI B bm p K cI bs w) (hL : Lists w B2 (.slice pl n cl) gs L) (hS : ∀ i, i < L.length → Small (L.getD i []) ∧ (L.getD i []).length ≤ 960) (hf : f + N ≤ K) (hk : k0 + n ≤ N) (hLn : n ≤ 1000000) (hBw : B ≤ w.heap.size) :
    Calls Tryz.prog 42 #[.pointer (some ⟨bc, 0, none⟩), .slice pl n cl] w (fun e w' => ∃ a c2 fa m fc, e = .returned (.slice a n c2) ∧ Below B w w' ∧ Only [47, 9] w w' ∧ RAl B bc bm pg N cg fa m fc (k0 + n) (rngJ f N) w' ∧ RefI B bm p K cI (cntsB L (f + k0) bs n) w' ∧ w'.ownsRow w.heap.size 72 3 (.slice a n c2) n (rsL L (f + k0) n)) := by
  subst hn; exact ref22_lay B bc bm pg N cg fa0 mf0 fc0 f k0 p K cI bs B2 pl cl gs L w hR hJ hL hS hf hk hLn hBw
theorem chunks_smallR {l : List Int} (h : ∀ k, k < l.length → cntOk (l.getD k 0)) (n : Nat) : ∀ i, i < (chunksI (smallL l) n).length → Small ((chunksI (smallL l) n).getD i []) ∧ ((chunksI (smallL l) n).getD i []).length ≤ 960 := fun i hi => by
  rw [chunksI_len] at hi
  rw [chunksI_get hi]
  exact ⟨chunk_small (small_ok h) i, by rw [chunkI_len]; omega⟩
/-- the slots as a list -/
def rsC (x : Nat × Nat × Nat) : List Value := [.int .i64 (x.1 : Int), .int .i64 (x.2.1 : Int), .int .i64 (x.2.2 : Int)]
theorem rsC_len (x : Nat × Nat × Nat) : (rsC x).length = 3 := rfl
def rsD : Nat × Nat × Nat := (0, 0, 0)
def Rs (L : List (List Int)) (q n : Nat) : List (Nat × Nat × Nat) := (List.range n).map fun i => (q + i, freeN (L.getD i []), firstN (L.getD i []))
theorem Rs_len (L : List (List Int)) (q n : Nat) : (Rs L q n).length = n := by simp [Rs]
theorem Rs_get {L : List (List Int)} {q n i : Nat} (h : i < n) : (Rs L q n).getD i rsD = (q + i, freeN (L.getD i []), firstN (L.getD i [])) := by simp [Rs, List.getD, List.getElem?_range h]
theorem rsL_Rs (L : List (List Int)) (q n : Nat) : rsL L q n = (Rs L q n).flatMap rsC := by simp [rsL, Rs, List.flatMap_map]; rfl
theorem ents_right {v : Nat} {l : List Ent} (E : EntsOk v l) : entsB v l = true := entsB_true fun i hi => ⟨E.last hi, (E.hk i hi).2, E.hw i hi⟩
theorem Rs_sts {L : List (List Int)} {q n c : Nat} {p : Option Addr} {w : World} (h : Sl w (.slice p n c) n (rsL L q n)) : Sts rsC w (.slice p (Rs L q n).length c) (Rs L q n) := by unfold Sts; rw [Rs_len, ← rsL_Rs]; exact h
theorem slot_row {L : List (List Int)} {q n i : Nat} (h : i < n) : (slotsE L q i).flatMap entC ++ [.int .i64 (i : Int), .string ⟨(leB ((((Rs L q n).getD i rsD).1 : Nat) : Int) 8 ++ leB ((((Rs L q n).getD i rsD).2.1 : Nat) : Int) 4 ++ leB ((((Rs L q n).getD i rsD).2.2 : Nat) : Int) 4).toArray⟩, .int .i64 0] = (slotsE L q (i + 1)).flatMap entC := by
  rw [slotsE_succ, List.flatMap_append, Rs_get h]; rfl
end Go.Proofs.YtbhjgcokpmiopaaGreatDoor
namespace Go.Proofs.YtbhjgcokpmiopaaGreatDoor
open Go.RowKit Go.Extern.Stop Go.Stop Go.Extern
set_option linter.unusedVariables false
attribute [local irreducible] wpList wpAnyH Code.wp Oper.wp Go

def slB (x : Nat × Nat × Nat) : List UInt8 := leB (x.1 : Int) 8 ++ leB (x.2.1 : Int) 4 ++ leB (x.2.2 : Int) 4
theorem slB_len (x : Nat × Nat × Nat) : (slB x).length = 16 := by simp [slB, leB_len]
def idxP (S : List (Nat × Nat × Nat)) (i : Nat) : List UInt8 := leB (S.length : Int) 4 ++ (List.range i).flatMap fun j => slB (S.getD j rsD)
theorem idxP_succ (S : List (Nat × Nat × Nat)) (i : Nat) : idxP S (i + 1) = idxP S i ++ slB (S.getD i rsD) := by simp [idxP, List.range_succ]
theorem idxP_len (S : List (Nat × Nat × Nat)) : ∀ i, (idxP S i).length = 4 + i * 16
  | 0 => by simp [idxP, leB_len]
  | i + 1 => by rw [idxP_succ, List.length_append, idxP_len S i, slB_len]; omega
def idxB (S : List (Nat × Nat × Nat)) : List UInt8 := idxP S S.length ++ List.replicate (244 - (4 + S.length * 16)) 0
theorem idxB_len {S : List (Nat × Nat × Nat)} (h : S.length ≤ 15) : (idxB S).length = 244 := by unfold idxB; rw [List.length_append, idxP_len, List.length_replicate]; omega
def SlotsOk (S : List (Nat × Nat × Nat)) : Prop := S.length ≤ 14 ∧ ∀ i, i < S.length → 1 ≤ (S.getD i rsD).1 ∧ (S.getD i rsD).1 ≤ 14399 ∧ (S.getD i rsD).2.1 ≤ 960 ∧ (S.getD i rsD).2.2 ≤ 960
theorem slB_ne (x : Nat × Nat × Nat) : ((⟨(leB (x.1 : Int) 8 ++ leB (x.2.1 : Int) 4 ++ leB (x.2.2 : Int) 4).toArray⟩ : ByteArray).toList == (⟨#[]⟩ : ByteArray).toList) = false := by
  rw [show (⟨#[]⟩ : ByteArray) = ⟨([] : List UInt8).toArray⟩ from rfl, str_beq]
  apply beq_false_of_ne
  intro q
  have h1 := congrArg List.length q
  simp [leB_len] at h1
set_option maxRecDepth 100000 in
set_option maxHeartbeats 4000000 in
theorem slots_Put (a : Option Addr) (c : Nat) (S : List (Nat × Nat × Nat)) (w : World) (hS : SlotsOk S) (h : Sts rsC w (.slice a S.length c) S) :
    Calls Tryz.prog 32 #[.slice a S.length c] w (RetS (fun w' r => ∃ p c, r = .tuple #[.slice p 244 c, .int .i64 0] ∧ w'.ownsRow w.heap.size 5 1 (.slice p 244 c) 244 ((idxB S).map bv)) w) := by
 have h15 := hS.1
 refine zin 39 Tryz.func32 ?_
 refine xk 14 (show (decide ((↑S.length : Int) > (15 : Int)) : Bool) = false from decide_eq_false (by omega)) ?_
 refine xbs 7 1 [.int .i64 4, .int .i64 (↑S.length : Int)] 114 fun b1 W1 n1 => ?_
 refine xc 0 (args := #[.slice (some ⟨b1, 0, none⟩) 1 1]) (Pack_4 b1 (↑S.length : Int) (by omega) (by omega) _ n1.blk) ?_
 rintro _ W2 ⟨_, rfl, hb2, p2, c2, rfl, h2⟩
 have h2'1 := own_mono h2 n1.below.size
 have hB := Bl.next n1.below hb2
 have k1'1 := n1.blk.below hb2
 refine zl 16 39 (fun zm zkv V => ∃ (i : Nat) (p4 : Option Addr) (c4 : Nat), zkv = [(4, .slice p4 (4 + i * 16) c4), (20, .slice a S.length c), (21, .int .i64 (↑S.length : Int)), (22, .int .i64 (↑i : Int))] ∧ zm = S.length - ((↑i : Int)).toNat ∧ Below w.heap.size w V ∧ Blk V b1 ([.int .i64 4, .int .i64 (↑S.length : Int)]) 114 ∧ V.ownsRow w.heap.size 5 1 (.slice p4 (4 + i * 16) c4) (4 + i * 16) ((idxP S i).map bv) ∧ i ≤ S.length) ⟨0, p2, c2, rfl, rfl, hB, k1'1, (by simpa [idxP] using h2'1), Nat.zero_le _⟩ ?_
 rintro _ _ W3 ⟨i, p4, c4, rfl, rfl, hB_3, k3_b1, ho, hi⟩ J3 hJ3 r3
 refine xid 6 ((↑i : Int) < (↑S.length : Int)) (fun hc4 => ?_) (fun hc4 => ?_)
 · refine xx 6 _ S.length i 3 (Sts.cell h rsC_len rsD (k := i) (i := 0) (by omega) rfl).1 ?_
   refine xlv 0 (Sts.rp (k := i) (h.below hB_3) rsC_len rsD (by omega) (by decide)) ?_
   refine xa 0 [.int .i64 0, .int .i64 0, .int .i64 0] 72 fun b5 W5 n5 => ?_
   have g5 := n5.ge hB_3
   refine xsv 0 n5.blk [.int .i64 (↑(S.getD i rsD).1 : Int), .int .i64 (↑(S.getD i rsD).2.1 : Int), .int .i64 (↑(S.getD i rsD).2.2 : Int)] fun W6 u6 k6 => ?_
   refine xlv 4 k6.rp ?_
   refine xr 0 (args := #[.agg #[.int .i64 (↑(S.getD i rsD).1 : Int), .int .i64 (↑(S.getD i rsD).2.1 : Int), .int .i64 (↑(S.getD i rsD).2.2 : Int)]]) (value_Slot (↑(S.getD i rsD).1 : Int) (↑(S.getD i rsD).2.1 : Int) (↑(S.getD i rsD).2.2 : Int) (by have := hS.2 i (by omega); omega) (by have := hS.2 i (by omega); omega) (by omega) (by have := hS.2 i (by omega); omega) (by omega) (by have := hS.2 i (by omega); omega) _) fun W7 hb7 => ?_
   refine xk 10 (show (((⟨(leB (↑(S.getD i rsD).1 : Int) 8 ++ leB (↑(S.getD i rsD).2.1 : Int) 4 ++ leB (↑(S.getD i rsD).2.2 : Int) 4).toArray⟩ : ByteArray).toList == (⟨#[]⟩ : ByteArray).toList) : Bool) = false from slB_ne _) ?_
   have ho'1 := own_below (u6.own2 (own_below ho n5.below) n5.blk (by decide)) hb7
   have hB'1 := Bl.next (u6.below (Bl.next hB_3 n5.below) g5) hb7
   refine xbi 5 (t2 := 9) fun _ _ _ _ zJ zQ zo zx zy zK => op_appS (leB (↑(S.getD i rsD).1 : Int) 8 ++ leB (↑(S.getD i rsD).2.1 : Int) 4 ++ leB (↑(S.getD i rsD).2.2 : Int) 4) ((4 + (i + 1) * 16)) ((idxP S (i + 1)).map bv) zo Tryz.underlying28 Tryz.underlying9 (by kernel_rfl) zx ho'1 zy (by simp [leB_len]; omega) hB'1.size (by simp [leB_len]; omega) (by simp [idxP_succ, slB]) fun px8 cx8 W8 o8 hg8 hb8 => ?_
   refine zK _ _ ?_
   refine xwm 5 ((↑i : Int) + 1) (↑(i + 1) : Int) ?_
   have hB'2 := hB'1.trans hb8
   have k3_b1'1 := ((u6.blkT (k3_b1.below n5.below) n5.blk (by decide)).below hb7).grown hg8 ho'1 (by decide)
   exact ze 2 (hJ3 _ _ _ ⟨i + 1, _, _, rfl, rfl, hB'2, k3_b1'1, o8, by omega⟩ (by omega))
 refine xwm 10 (244 - (↑(4 + i * 16) : Int)) (↑(244 - (4 + i * 16)) : Int) ?_
 refine xbi 0 (t2 := 3) fun _ _ _ _ zJ zQ zo zx zy zK => op_appZo (kq := .i64) (244 - (4 + i * 16)) (244) ((idxB S).map bv) zo Tryz.underlying28 Tryz.underlying3 (by kernel_rfl) zx ho zy (by omega) (by omega) hB_3.size (by omega) (by rw [show i = S.length by omega]; unfold idxB; rw [List.map_append, List.map_replicate]; rfl) fun px9 cx9 W9 o9 hg9 hb9 => ?_
 refine zK _ _ ?_
 have hB'3 := hB_3.trans hb9
 exact xe 5 (.tuple #[.slice px9 244 cx9, .int .i64 0]) ⟨_, rfl, hB'3, _, _, rfl, o9⟩
end Go.Proofs.YtbhjgcokpmiopaaGreatDoor
namespace Go.Proofs.YtbhjgcokpmiopaaGreatDoor
open Go.RowKit Go.Extern.Stop Go.Stop Go.Extern
set_option linter.unusedVariables false
attribute [local irreducible] wpList wpAnyH Code.wp Oper.wp Go

def RDataP (B bc bm : Nat) (pg : Option Addr) (N cg f k0 : Nat) (p : Option Addr) (K c : Nat) (bs : List UInt8) (l : List Int) (w : World) (e : Ending) (w' : World) : Prop :=
  ∃ fa m fc, e = .returned (.tuple #[.int .i64 (plotB l (f + k0) bs).1, .int .i64 (plotB l (f + k0) bs).2.1, .agg #[.slice none 0 0, .int .i64 0]]) ∧ Below B w w' ∧ Only [47, 9] w w' ∧ RAl B bc bm pg N cg fa m fc (k0 + plotN l) (rngJ f N) w' ∧ RefI B bm p K c (plotB l (f + k0) bs).2.2 w'
theorem ref17_TreeN (B bc bm : Nat) (pg : Option Addr) (N cg : Nat) (fa : Option Addr) (mf fc f k0 : Nat) (p : Option Addr) (K cI : Nat) (bs : List UInt8) (t : Int) (a : Option Addr) (c n : Nat) (l : List Ent) (w : World) (hln : l.length = n) (hR : RAl B bc bm pg N cg fa mf fc k0 (rngJ f N) w) (hn : l.length ≤ 32768) (h1 : 1 ≤ t) (h2 : t ≤ 5) (hE : EntsOk (widN t true) l) (hs : k0 + nodN t l.length ≤ N) (hf : f + N ≤ K) (hJ : RefI B bm p K cI bs w) (hin : ∀ W, Below B w W → Only [47, 9] w W → Sl W (.slice a l.length c) l.length (l.flatMap entC)) (hBw : B ≤ w.heap.size) :
    Calls Tryz.prog 40 #[.pointer (some ⟨bc, 0, none⟩), .int .i64 t, .slice a n c] w (RTreeP B bc bm pg N cg f k0 p K cI bs t l w) := by
  subst hln
  exact ref17_Tree_y B bc bm pg N cg fa mf fc f k0 p K cI bs t a c l w hR hn ⟨h1, h2, ents_right hE⟩ hs hf hJ hin hBw
end Go.Proofs.YtbhjgcokpmiopaaGreatDoor
namespace Go.Proofs.YtbhjgcokpmiopaaGreatDoor
open Go.RowKit Go.Extern.Stop Go.Stop Go.Extern
set_option linter.unusedVariables false
attribute [local irreducible] wpList wpAnyH Code.wp Oper.wp Go

/-- bytes out of a string stand wherever blocks of their type are not written -/
def KeptB (W : World) (v : Value) (l : List UInt8) : Prop := ∀ T W', Only T W W' → T.contains 5 = false → Bys W' v l
theorem op_strKeep {P : Program} {a : Act} {w : World} {K : Act → World → Prop} {Q : Exit → Act → World → Prop} {o : Oper} {src dst : TypeId} {x : Operand} (l : List UInt8) (ho : o.op = .convert src dst x) (hx : a.eval x = .string ⟨l.toArray⟩)
    (hs : P.underlying src = some .string) (hd : P.underlying dst = some (.slice 5)) (he : P.underlying 5 = some (.int .u8)) (hl : l.length ≤ 1000000)
    (k : ∀ b c W, Below w.heap.size w W → KeptB W (.slice (some ⟨b, 0, none⟩) l.length c) l → K (a.put o.dst (.slice (some ⟨b, 0, none⟩) l.length c)) W) : o.wp P a w K Q := by
  have hr := run_bytes_of_string (P := P) w src dst 5 ⟨l.toArray⟩ hs hd he
  have hsz : (⟨l.toArray⟩ : ByteArray).size = l.length := by simp [ByteArray.size]
  rw [hsz] at hr
  obtain ⟨W1, hW1⟩ : ∃ W1, W1 = w.drew.alloc (.cells (bytesRow ⟨l.toArray⟩ (grownCap w l.length 0 5)) 5 ((bytesRow ⟨l.toArray⟩ (grownCap w l.length 0 5)).size, (bytesRow ⟨l.toArray⟩ (grownCap w l.length 0 5)).size + 1)) := ⟨_, rfl⟩
  rw [← hW1] at hr
  have h2 : (execOp a.eval o).run P w = .ok (.value (.slice (some ⟨w.heap.size, 0, none⟩) l.length (grownCap w l.length 0 5))) W1 := by
    simp only [execOp, ho, hx, Sem.run_bind, hr]; rfl
  refine op_val h2 (k _ _ _ (by rw [hW1]; exact (below_drew w).trans (show Below w.drew.heap.size w.drew _ from Bl.box w.drew _)) (fun T W' hO hT => .inr ⟨w.heap.size, 0, _, rfl, grownCap_ge w l.length 0 _, grownCap_le_maxLen w l.length 0 _ (by unfold maxLen; omega), fun j y hj => ?_⟩))
  have hjl : j < l.length := by have := (List.getElem?_eq_some_iff.1 hj).1; simpa using this
  have hb := bytesRow_at ⟨l.toArray⟩ (grownCap w l.length 0 5) j (by simpa using hjl)
  have hy : y = .int .u8 ((l.toArray[j]'(by simpa using hjl)).toNat : Int) := by
    rw [List.getElem?_map, List.getElem?_eq_getElem hjl] at hj
    simp only [Option.map_some, Option.some.injEq] at hj
    rw [← hj]; rfl
  have hh : W1.heap[w.heap.size]? = some (.cells (bytesRow ⟨l.toArray⟩ (grownCap w l.length 0 5)) 5 ((bytesRow ⟨l.toArray⟩ (grownCap w l.length 0 5)).size, (bytesRow ⟨l.toArray⟩ (grownCap w l.length 0 5)).size + 1)) := by rw [hW1]; exact heap_alloc_new w.drew _
  have hh' := hO _ _ _ _ hh hT
  rw [hy]
  simp [World.cell?, hh', hb]
set_option maxRecDepth 100000 in
set_option maxHeartbeats 4000000 in
theorem ref10_Put (a : Option Addr) (c : Nat) (S : List (Nat × Nat × Nat)) (w : World) (hS : SlotsOk S) (h : Sts rsC w (.slice a S.length c) S) :
    Calls Tryz.prog 41 #[.slice a S.length c] w (RetS (fun w' r => ∃ b c, r = .tuple #[.slice (some ⟨b, 0, none⟩) (idxB S).length c, .int .i64 0] ∧ KeptB w' (.slice (some ⟨b, 0, none⟩) (idxB S).length c) (idxB S)) w) := by
 have h15 := hS.1
 refine zin 40 Tryz.func41 ?_
 refine xk 14 (show (decide ((↑S.length : Int) > (15 : Int)) : Bool) = false from decide_eq_false (by omega)) ?_
 refine xc 6 (args := #[.int .i64 (↑S.length : Int), .int .i64 4]) (ref_BytesN (↑S.length : Int) 4 4 _ (by omega) (by omega) rfl (by decide)) ?_
 rintro _ W1 ⟨_, rfl, hb1, p2, c2, rfl, h2⟩
 have hs1 := Nat.le_refl w.heap.size
 have h2'1 := own_mono h2 hs1
 refine xcv0 0 (fun _ _ _ zo zx => run_bstr zo zx (bys_of (own_sl h2'1) (leB_len _ _)) (leB_len _ _) Tryz.underlying28 Tryz.underlying5 Tryz.underlying9) ?_
 refine xv1 10 4 (show (.string ⟨(leB (↑S.length : Int) 4).toArray⟩ : Value) = .string ⟨(idxP S 0).toArray⟩ from by simp [idxP]) ?_
 refine zl 0 40 (fun zm zkv V => ∃ (i : Nat), zkv = [(0, .slice a S.length c), (4, .string ⟨(idxP S i).toArray⟩), (5, .int .i64 (↑i : Int))] ∧ zm = S.length - ((↑i : Int)).toNat ∧ Below w.heap.size w V ∧ i ≤ S.length) ⟨0, rfl, rfl, hb1, Nat.zero_le _⟩ ?_
 rintro _ _ W2 ⟨i, rfl, rfl, hB_2, hi⟩ J2 hJ2 r2
 have hpl := idxP_len S i
 refine xid 9 ((↑i : Int) < (↑S.length : Int)) (fun hc3 => ?_) (fun hc3 => ?_)
 · refine xx 9 _ S.length i 3 (Sts.cell h rsC_len rsD (k := i) (i := 0) (by omega) rfl).1 ?_
   refine xlv 0 (Sts.rp (k := i) (h.below hB_2) rsC_len rsD (by omega) (by decide)) ?_
   refine xr 0 (args := #[.agg #[.int .i64 (↑(S.getD i rsD).1 : Int), .int .i64 (↑(S.getD i rsD).2.1 : Int), .int .i64 (↑(S.getD i rsD).2.2 : Int)]]) (ref08_SlotT (↑(S.getD i rsD).1 : Int) (↑(S.getD i rsD).2.1 : Int) (↑(S.getD i rsD).2.2 : Int) _ (by have := hS.2 i (by omega); omega) (by have := hS.2 i (by omega); omega) (by have := hS.2 i (by omega); omega)) fun W4 hb4 => ?_
   refine xk 3 (show (((⟨(leB (↑(S.getD i rsD).1 : Int) 8 ++ leB (↑(S.getD i rsD).2.1 : Int) 4 ++ leB (↑(S.getD i rsD).2.2 : Int) 4).toArray⟩ : ByteArray).toList == (⟨#[]⟩ : ByteArray).toList) : Bool) = false from slB_ne _) ?_
   refine xx 6 _ S.length i 3 (Sts.cell h rsC_len rsD (k := i) (i := 0) (by omega) rfl).1 ?_
   have hB'1 := Bl.next hB_2 hb4
   refine xlv 0 (Sts.rp (k := i) (h.below hB'1) rsC_len rsD (by omega) (by decide)) ?_
   refine xr 0 (args := #[.agg #[.int .i64 (↑(S.getD i rsD).1 : Int), .int .i64 (↑(S.getD i rsD).2.1 : Int), .int .i64 (↑(S.getD i rsD).2.2 : Int)]]) (ref08_SlotT (↑(S.getD i rsD).1 : Int) (↑(S.getD i rsD).2.1 : Int) (↑(S.getD i rsD).2.2 : Int) _ (by have := hS.2 i (by omega); omega) (by have := hS.2 i (by omega); omega) (by have := hS.2 i (by omega); omega)) fun W5 hb5 => ?_
   refine xbo 0 (t := 9) (t2 := 9) (fun _ _ _ _ zo zx zy V hV => run_cat (l := idxP S i) (m := (leB (↑(S.getD i rsD).1 : Int) 8 ++ leB (↑(S.getD i rsD).2.1 : Int) 4 ++ leB (↑(S.getD i rsD).2.2 : Int) 4)) zo zx zy (by simp [leB_len]; omega) V) ?_
   refine xwm 6 ((↑i : Int) + 1) (↑(i + 1) : Int) ?_
   refine xv1 2 4 (show (.string ⟨(idxP S i ++ (leB (↑(S.getD i rsD).1 : Int) 8 ++ leB (↑(S.getD i rsD).2.1 : Int) 4 ++ leB (↑(S.getD i rsD).2.2 : Int) 4)).toArray⟩ : Value) = .string ⟨(idxP S (i + 1)).toArray⟩ from by rw [idxP_succ]; rfl) ?_
   have hB'2 := Bl.next hB'1 hb5
   exact ze 0 (hJ2 _ _ _ ⟨i + 1, rfl, rfl, hB'2, by omega⟩ (by omega))
 refine xwm 10 (244 - (↑(idxP S i).length : Int)) (↑(244 - ((idxP S i).length)) : Int) ?_
 refine xmk 0 fun _ _ _ _ zJ zQ zo zx zy zK => op_make (244 - ((idxP S i).length)) (.int .u8 0) 1 1 ((List.replicate (244 - (idxP S i).length) (0 : UInt8)).map bv) zo zx zy Tryz.underlying28 (by kernel_rfl) rfl (by omega) (by omega) (zerosB (244 - (idxP S i).length)) fun b6 W6 n6 => ?_
 have g6 := n6.ge hB_2
 refine zK _ _ ?_
 have o6 := own_of_blk (size := 1) (n := (244 - ((idxP S i).length))) n6.blk g6 (by rw [List.length_map, List.length_replicate, Nat.mul_one]) (by unfold maxLen; omega)
 refine xcv0 0 (fun _ _ _ zo zx => run_bstr zo zx (bys_of (own_sl o6) List.length_replicate) List.length_replicate Tryz.underlying28 Tryz.underlying5 Tryz.underlying9) ?_
 refine xbo 0 (t := 9) (t2 := 9) (fun _ _ _ _ zo zx zy V hV => run_cat (l := idxP S i) (m := List.replicate (244 - (idxP S i).length) (0 : UInt8)) zo zx zy (by rw [List.length_replicate]; omega) V) ?_
 refine xcf 0 fun _ _ _ zJ zQ zo zx zK => op_strKeep (idxP S i ++ List.replicate (244 - (idxP S i).length) (0 : UInt8)) zo zx Tryz.underlying9 Tryz.underlying28 Tryz.underlying5 (by rw [List.length_append, List.length_replicate]; omega) ?_
 intro bz cz W7 hb7 hbz
 refine zK _ _ ?_
 have hB'3 := Bl.next (Bl.next hB_2 n6.below) hb7
 refine xe 5 (.tuple #[.slice (some ⟨bz, 0, none⟩) ((idxP S i ++ List.replicate (244 - (idxP S i).length) (0 : UInt8)).length) cz, .int .i64 0]) ?_
 have e : (idxP S i ++ List.replicate (244 - (idxP S i).length) (0 : UInt8)) = idxB S := by rw [show i = S.length by omega]; unfold idxB; rw [idxP_len]
 rw [e] at hbz ⊢
 exact ⟨_, rfl, hB'3, _, _, rfl, hbz⟩
end Go.Proofs.YtbhjgcokpmiopaaGreatDoor
namespace Go.Proofs.YtbhjgcokpmiopaaGreatDoor
open Go.RowKit Go.Extern.Stop Go.Stop Go.Extern
set_option linter.unusedVariables false
attribute [local irreducible] wpList wpAnyH Code.wp Oper.wp Go

/-- the first n numbers from f on counted once more -/
def bumpL (l : List Int) (f n : Nat) : List Int := (List.range l.length).map fun i => l.getD i 0 + (if f ≤ i ∧ i < f + n then 1 else 0)
theorem bumpL_len (l : List Int) (f n : Nat) : (bumpL l f n).length = l.length := by simp [bumpL]
theorem bumpL_get {l : List Int} {f n i : Nat} (h : i < l.length) : (bumpL l f n).getD i 0 = l.getD i 0 + (if f ≤ i ∧ i < f + n then 1 else 0) := by simp [bumpL, List.getD, List.getElem?_range h]
theorem bumpL_zero (l : List Int) (f : Nat) : bumpL l f 0 = l := by
  apply List.ext_getElem (by simp [bumpL])
  intro i h1 h2
  simp [bumpL, List.getD, h2]
  omega
theorem bumpL_set {l : List Int} {f j : Nat} (h : f + j < l.length) : ((bumpL l f j).map (Value.int .i64)).set (f + j) (.int .i64 (l.getD (f + j) 0 + 1)) = (bumpL l f (j + 1)).map (Value.int .i64) := by
  apply List.ext_getElem?
  intro i
  by_cases hi : i < l.length
  · by_cases e : f + j = i
    · subst e
      rw [List.getElem?_set_self (by simp [bumpL_len]; exact h)]
      simp [bumpL, List.getElem?_range h]
    · rw [List.getElem?_set_ne e]
      have hc : (f ≤ i ∧ i < f + j) ↔ (f ≤ i ∧ i < f + (j + 1)) := by omega
      simp only [bumpL, List.getElem?_map, List.getElem?_range hi, Option.map_some]
      by_cases q : f ≤ i ∧ i < f + j
      · rw [if_pos q, if_pos (hc.1 q)]
      · rw [if_neg q, if_neg (fun z => q (hc.2 z))]
  · rw [List.getElem?_eq_none (by simp [bumpL_len]; omega), List.getElem?_eq_none (by simp [bumpL_len]; omega)]
def FreeOk (l : List Int) (f : Int) : Prop := ∀ i, i < l.length → (f ≤ (i : Int) → l.getD i 0 = 0) ∧ l.getD i 0 ≤ 1073741824
theorem bumpL_ok {l : List Int} {f n : Nat} (h : FreeOk l (f : Int)) (hc : ∀ k, k < l.length → cntOk (l.getD k 0)) : ∀ k, k < (bumpL l f n).length → cntOk ((bumpL l f n).getD k 0) := by
  intro k hk
  rw [bumpL_len] at hk
  rw [bumpL_get hk]
  have h1 := (h k hk).2
  have h2 := hc k hk
  unfold cntOk at h2 ⊢
  split <;> omega
set_option maxRecDepth 100000 in
set_option maxHeartbeats 2000000 in
theorem law22_free (a : Option Addr) (c : Nat) (l : List Int) (f : Int) (w : World) (h : Sl w (.slice a l.length c) l.length (l.map (Value.int .i64))) (hl : l.length ≤ 1000000) :
    Calls Tryz.prog 10 #[.slice a l.length c, .int .i64 f] w ((fun e w' => (FreeOk l f ∧ e = .returned (.bool true) ∧ Below w.heap.size w w') ∨ (e = .returned (.bool false) ∧ Below w.heap.size w w'))) := by
 refine zin 29 Tryz.func10 ?_
 have hB := Below.refl w.heap.size w
 refine zl 12 29 (fun zm zkv V => ∃ (i : Nat), zkv = [(0, .slice a l.length c), (1, .int .i64 f), (5, .int .i64 (↑i : Int))] ∧ zm = l.length - ((↑i : Int)).toNat ∧ Below w.heap.size w V ∧ i ≤ l.length ∧ ((∀ j, j < i → (f ≤ (j : Int) → l.getD j 0 = 0) ∧ l.getD j 0 ≤ 1073741824))) ⟨0, rfl, rfl, hB, Nat.zero_le _, ?_⟩ ?_
 · exact fun j hj => absurd hj (by omega)
 rintro _ _ W1 ⟨i, rfl, rfl, hB_1, hi, hz⟩ J1 hJ1 r1
 refine xid 9 ((↑i : Int) < (↑l.length : Int)) (fun hc2 => ?_) (fun hc2 => ?_)
 · refine xg 10 [14, 15] (decide ((↑i : Int) ≥ f)) (fun hc3 => ?_) (fun hc3 => ?_)
   · have hc3 := of_decide_eq_true hc3
     refine xx 2 _ l.length i 1 (Ints.elem h (k := i) (by omega)).1 ?_
     refine xl 0 ((Ints.elem (h.below hB_1) (k := i) (by omega)).2) ?_
     refine xg 3 [20, 21, 22] ((l.getD i 0) != (0 : Int)) (fun hc4 => ?_) (fun hc4 => ?_)
     · have hc4 := ne_of_bne hc4
       exact xe 20 (.bool false) (.inr ⟨rfl, hB_1⟩)
     have hc4 := eq_of_bne_false hc4
     refine xx 2 _ l.length i 1 (Ints.elem h (k := i) (by omega)).1 ?_
     refine xl 0 ((Ints.elem (h.below hB_1) (k := i) (by omega)).2) ?_
     refine xid 4 ((l.getD i 0) > (1073741824 : Int)) (fun hc5 => ?_) (fun hc5 => ?_)
     · exact xe 11 (.bool false) (.inr ⟨rfl, hB_1⟩)
     refine xwm 5 ((↑i : Int) + 1) (↑(i + 1) : Int) ?_
     exact ze 2 (hJ1 _ _ _ ⟨i + 1, rfl, rfl, hB_1, by omega, fun j hj => (Nat.lt_or_ge j i).elim (hz j) (fun q => by obtain rfl : j = i := (by omega); exact ⟨fun _ => by omega, by omega⟩)⟩ (by omega))
   have hc3 := of_decide_eq_false hc3
   refine xx 9 _ l.length i 1 (Ints.elem h (k := i) (by omega)).1 ?_
   refine xl 0 ((Ints.elem (h.below hB_1) (k := i) (by omega)).2) ?_
   refine xid 4 ((l.getD i 0) > (1073741824 : Int)) (fun hc6 => ?_) (fun hc6 => ?_)
   · exact xe 11 (.bool false) (.inr ⟨rfl, hB_1⟩)
   refine xwm 5 ((↑i : Int) + 1) (↑(i + 1) : Int) ?_
   exact ze 2 (hJ1 _ _ _ ⟨i + 1, rfl, rfl, hB_1, by omega, fun j hj => (Nat.lt_or_ge j i).elim (hz j) (fun q => by obtain rfl : j = i := (by omega); exact ⟨fun _ => by omega, by omega⟩)⟩ (by omega))
 exact xe 11 (.bool true) (.inl ⟨fun j hj => hz j (by omega), rfl, hB_1⟩)
end Go.Proofs.YtbhjgcokpmiopaaGreatDoor
namespace Go.Proofs.YtbhjgcokpmiopaaGreatDoor
open Go.RowKit Go.Extern.Stop Go.Stop Go.Extern
set_option linter.unusedVariables false
attribute [local irreducible] wpList wpAnyH Code.wp Oper.wp Go

def needM (l : List Int) : Nat := nodN 5 (overK l l.length).length + bmN l.length + 1
theorem ahead_elem {w : World} {b : Option Addr} {n c f N k i : Nat} (h : Sl w (.slice b n c) n ((((rngJ f N).drop k).take n).map (Value.int .i64))) (hn : k + n ≤ N) (hi : i < n) : b.isSome = true ∧ w.cell? (elemAddr b (i * 1)) = some (.int .i64 ((f + k + i : Nat) : Int)) := by
  have hlen : (((rngJ f N).drop k).take n).length = n := by simp [rngJ]; omega
  have h1 := IntsN.elem h hlen hi
  have e : (((rngJ f N).drop k).take n).getD i 0 = ((f + k + i : Nat) : Int) := by
    have h2 := rngJ_get (f := f) (N := N) (k := k + i) (by omega)
    rw [← Nat.add_assoc] at h2
    rw [← h2]
    simp only [List.getD, List.getElem?_take, List.getElem?_drop, if_pos hi]
  rwa [e] at h1
/-- what Meta lays, and the two numbers -/
def metaB (l : List Int) (f k0 : Nat) (bs : List UInt8) : Int × Int × List UInt8 := (((f + k0 + (nodN 5 (overK l l.length).length) + (bmN (bumpL l (f + k0) (needM l)).length)) : Nat), (treeB 5 (overK l l.length) (f + k0) bs).1, putB (cntsB (chunksI (smallL (bumpL l (f + k0) (needM l))) (bmN (bumpL l (f + k0) (needM l)).length)) (f + k0 + (nodN 5 (overK l l.length).length)) (treeB 5 (overK l l.length) (f + k0) bs).2 (bmN (bumpL l (f + k0) (needM l)).length)) ((f + k0 + (nodN 5 (overK l l.length).length) + (bmN (bumpL l (f + k0) (needM l)).length)) * 256) (sealB 4 (((f + k0 + (nodN 5 (overK l l.length).length) + (bmN (bumpL l (f + k0) (needM l)).length)) : Nat) : Int) (idxB (Rs (chunksI (smallL (bumpL l (f + k0) (needM l))) (bmN (bumpL l (f + k0) (needM l)).length)) (f + k0 + (nodN 5 (overK l l.length).length)) (bmN (bumpL l (f + k0) (needM l)).length)))))
theorem needM_nb (l : List Int) (q n : Nat) : bmN (bumpL l q n).length = bmN l.length := by rw [bumpL_len]
set_option maxRecDepth 100000 in
set_option maxHeartbeats 1000000 in
theorem ref20_Bitmaps (n : Nat) (w : World) (hn : n ≤ 65536) :
    Calls Tryz.prog 38 #[.int .i64 (↑n : Int)] w (Ret (.int .i64 (↑(bmN n) : Int)) w) := by
 refine zin 9 Tryz.func38 ?_
 refine xid 12 ((↑n : Int) < (1 : Int)) (fun hc1 => ?_) (fun hc1 => ?_)
 · exact xe 7 (.int .i64 0) ⟨by rw [show bmN n = 0 from by unfold bmN; omega]; rfl, (Below.refl w.heap.size _)⟩
 refine xwm 5 ((↑n : Int) + 960) (↑(n + 960) : Int) ?_
 refine xwm 0 ((↑(n + 960) : Int) - 1) (↑((n + 960) - 1) : Int) ?_
 refine xq 0 (congrArg (Value.int .i64) (show (IntKind.i64.wrap (Int.tdiv (↑((n + 960) - 1) : Int) 960) : Int) = (↑((n + 960 - 1) / 960) : Int) from quo_natB (n + 960 - 1) 960 (by omega) (by decide))) ?_
 exact xe 4 (.int .i64 (↑((n + 960 - 1) / 960) : Int)) ⟨by rw [show bmN n = (n + 960 - 1) / 960 from rfl], (Below.refl w.heap.size _)⟩
theorem ref_AheadN (j : Nat) (B bc bm : Nat) (pg : Option Addr) (N cg : Nat) (fa : Option Addr) (m fc k : Nat) (L : List Int) (w : World) (hA : RAl B bc bm pg N cg fa m fc k L w) (hj : j ≤ 1000000) (hjn : j ≤ N - k) :
    Calls Tryz.prog 39 #[.pointer (some ⟨bc, 0, none⟩), .int .i64 (↑j : Int)] w (RetS (fun w' r => ∃ q c2, r = .slice q j c2 ∧ w'.ownsRow w.heap.size 3 1 (.slice q j c2) j (((L.drop k).take j).map (Value.int .i64))) w) := by
  have h := ref_Ahead B bc bm pg N cg fa m fc k j L w hA hj
  rwa [Nat.min_eq_left hjn] at h
theorem bump_elem {w : World} {b : Option Addr} {n c q i : Nat} {l : List Int} (h : Sl w (.slice b n c) n ((bumpL l q i).map (Value.int .i64))) (hn : l.length = n) (hi : q + i < n) : b.isSome = true ∧ w.cell? (elemAddr b ((q + i) * 1)) = some (.int .i64 (l.getD (q + i) 0)) := by
  have h1 := IntsN.elem h (by rw [bumpL_len]; exact hn) hi
  rw [bumpL_get (by omega), if_neg (by omega), Int.add_zero] at h1
  exact h1
theorem ref21_SplitN (n : Nat) (a : Option Addr) (c : Nat) (l : List Int) (w : World) (hn : l.length = n) (h : Sl w (.slice a n c) n (l.map (Value.int .i64))) (hl : n ≤ 65536) (hs : splitE l = 0) : Calls Tryz.prog 36 #[.slice a n c] w (fun e w' => ∃ pb cb gs po co, e = .returned (.tuple #[.slice pb (bmN n) cb, .slice po (overK l n).length co, .int .i64 0]) ∧ Below w.heap.size w w' ∧ Lists w' w.heap.size (.slice pb (bmN n) cb) gs (chunksI (smallL l) (bmN n)) ∧ w'.ownsRow w.heap.size 99 3 (.slice po (overK l n).length co) (overK l n).length ((overK l n).flatMap entC)) := by
  subst hn; exact ref21_Split_ok a c l w h hl hs
end Go.Proofs.YtbhjgcokpmiopaaGreatDoor
namespace Go.Proofs.YtbhjgcokpmiopaaGreatDoor
open Go.RowKit Go.Extern.Stop Go.Stop Go.Extern
set_option linter.unusedVariables false
attribute [local irreducible] wpList wpAnyH Code.wp Oper.wp Go

def SplitP (l : List Int) (w : World) (e : Ending) (w' : World) : Prop :=
  (splitE l ≠ 0 ∧ e = .returned (.tuple #[.slice none 0 0, .slice none 0 0, .int .i64 2]) ∧ Below w.heap.size w w') ∨
  (splitE l = 0 ∧ ∃ pb cb gs po co, e = .returned (.tuple #[.slice pb (bmN l.length) cb, .slice po (overK l l.length).length co, .int .i64 0]) ∧ Below w.heap.size w w' ∧ Lists w' w.heap.size (.slice pb (bmN l.length) cb) gs (chunksI (smallL l) (bmN l.length)) ∧ w'.ownsRow w.heap.size 99 3 (.slice po (overK l l.length).length co) (overK l l.length).length ((overK l l.length).flatMap entC))
theorem splitE_bad {l : List Int} {i : Nat} (hl : l.length ≤ 65536) (hi : i < l.length) (h : ¬ cntOk (l.getD i 0)) : splitE l ≠ 0 := fun q => h ((splitE_ok q).2 i hi)
theorem splitE_good {l : List Int} (hl : l.length ≤ 65536) (h : ∀ k, k < l.length → cntOk (l.getD k 0)) : splitE l = 0 := by
  unfold splitE; rw [if_neg (by omega), if_pos h]
attribute [local go_sem] Oper.semAt_some
theorem g_retM {P : Program} {fn : Func} {R : Ending → World → Prop} {a : Act} {w : World} (v : Value) (hd : a.defers = []) (hr : (results fn a.tmps).run P w = .ok v w) (h : R (.returned v) w) : bodyPostM Fence.wide 4 P fn R .ret a w := by
  show LeavesInM _ _ _ _ a.tmps R a.defers .returning w
  rw [hd]
  exact ⟨v, hr, h⟩
theorem Lists.put {W U : World} {D base : Nat} {v : Value} {gs : List (Nat × Nat)} {L : List (List Int)} (h : Lists W base v gs L) (u : Upd W D U) (hK : Dfr D W) : Lists U base v gs L := ⟨u.own3 h.row (hK.row h.row), fun i hi => u.own3 (h.each i hi) (hK.row (h.each i hi))⟩
theorem mn3_if (n : Int) : (if 3 < n then 3 else n) = mn3 n := by unfold mn3; split <;> split <;> omega
/-- the chunks of a prefix of the places -/
def preC (s : List Int) {n : Nat} (pre : List (Fin n)) : List (List Int) := pre.map fun j => chunkI s j.val
theorem preC_snoc (s : List Int) {n : Nat} (pre : List (Fin n)) (x : Fin n) : preC s (pre ++ [x]) = preC s pre ++ [chunkI s x.val] := by simp [preC]
theorem preC_all (s : List Int) (n : Nat) : preC s (List.finRange n) = chunksI s n := by
  unfold preC chunksI
  apply List.ext_getElem
  · simp
  · intro i h1 h2; simp
set_option maxRecDepth 100000 in
set_option maxHeartbeats 4000000 in
theorem tally_Split (a : Option Addr) (c : Nat) (l : List Int) (w : World) (h : Sl w (.slice a l.length c) l.length (l.map (Value.int .i64))) (hl : l.length ≤ 65536) :
    Calls Tryz.prog 24 #[.slice a l.length c] w (SplitP l w) := by
  refine calls_of_marks Tryz.func24 rfl ?_
  refine g_fr ⟨#[.slice a l.length c, undef, undef, undef, undef, undef, undef, undef, undef, undef, undef, undef, undef, undef, undef, undef, undef, undef, undef, undef, undef, undef, undef, undef, undef, undef, undef, undef, undef, undef, undef, undef, undef, undef, undef, undef, undef, undef, undef, undef, undef, undef, undef, undef, undef, undef, undef, undef, undef, undef, undef, undef], []⟩ (by kernel_rfl) ?_
  refine wp_seq ?_
  refine wp_region_lit ?_
  refine g_pv 3 [(2, .slice none 0 0), (3, .slice none 0 0), (4, .int .i64 0)] (by kernel_rfl) ?_
  refine wpList_nil ?_
  refine wp_seq ?_
  refine wp_seq ?_
  refine wp_region_lit ?_
  refine g_pv 3 [(11, .slice a l.length c), (12, .int .i64 (↑l.length : Int)), (13, .bool (decide ((↑l.length : Int) > (65536 : Int))))] (by kernel_rfl) ?_
  refine wpList_nil ?_
  refine wp_cond_split (t := decide ((↑l.length : Int) > (65536 : Int))) (by kernel_rfl) (fun hh => absurd (hh.symm.trans (show (decide ((↑l.length : Int) > (65536 : Int)) : Bool) = false from decide_eq_false (by omega))) (by decide)) (fun _ => ?_)
  refine wp_skip ?_
  refine wp_seq ?_
  refine wp_region_lit ?_
  refine g_pv 1 [(5, .slice none 0 0)] (by kernel_rfl) ?_
  refine wpList_nil ?_
  refine wp_seq ?_
  refine wp_region_lit ?_
  refine g_pv 1 [(6, .slice none 0 0)] (by kernel_rfl) ?_
  refine wpList_nil ?_
  refine wp_seq ?_
  refine wp_seq ?_
  refine wp_region_lit ?_
  refine g_pv 3 [(14, .slice a l.length c), (15, .int .i64 (↑l.length : Int)), (16, .int .i64 0)] (by kernel_rfl) ?_
  refine wpList_nil ?_
  refine wp_block ?_
  refine g_fr ⟨#[.slice a l.length c, undef, .slice none 0 0, .slice none 0 0, .int .i64 0, .slice none 0 0, .slice none 0 0, undef, undef, undef, undef, .slice a l.length c, .int .i64 (↑l.length : Int), .bool (decide ((↑l.length : Int) > (65536 : Int))), .slice a l.length c, .int .i64 (↑l.length : Int), .int .i64 0, undef, undef, undef, undef, undef, undef, undef, undef, undef, undef, undef, undef, undef, undef, undef, undef, undef, undef, undef, undef, undef, undef, undef, undef, undef, undef, undef, undef, undef, undef, undef, undef, undef, undef, undef], []⟩ (by kernel_rfl) ?_
  have hB := Below.refl w.heap.size w
  refine wp_loop (fun act V => ∃ (i : Nat) (ps : Option Addr) (cs : Nat) (po : Option Addr) (co : Nat) (x2 : Nat → Value), act = ⟨#[.slice a l.length c, undef, (x2 0), (x2 1), (x2 2), .slice ps i cs, .slice po ((overK l i).length) co, (x2 3), (x2 4), undef, undef, .slice a l.length c, .int .i64 (↑l.length : Int), .bool (decide ((↑l.length : Int) > (65536 : Int))), .slice a l.length c, .int .i64 (↑l.length : Int), .int .i64 (↑i : Int), (x2 5), (x2 6), (x2 7), (x2 8), (x2 9), (x2 10), (x2 11), (x2 12), (x2 13), (x2 14), (x2 15), (x2 16), (x2 17), (x2 18), (x2 19), (x2 20), (x2 21), (x2 22), (x2 23), (x2 24), (x2 25), (x2 26), (x2 27), (x2 28), (x2 29), undef, undef, undef, undef, undef, undef, undef, undef, undef, undef], []⟩ ∧ Below w.heap.size w V ∧ V.ownsRow w.heap.size 3 1 (.slice ps i cs) i ((smallL (l.take i)).map (Value.int .i64)) ∧ V.ownsRow w.heap.size 99 3 (.slice po (overK l i).length co) (overK l i).length ((overK l i).flatMap entC) ∧ i ≤ l.length ∧ ((∀ j, j < i → cntOk (l.getD j 0)))) (fun act V => l.length - ((intOf (act.tmps.getD 16 undef))).toNat) ⟨0, none, 0, none, 0, (pk [.slice none 0 0, .slice none 0 0, .int .i64 0, undef, undef, undef, undef, undef, undef, undef, undef, undef, undef, undef, undef, undef, undef, undef, undef, undef, undef, undef, undef, undef, undef, undef, undef, undef, undef, undef]), rfl, hB, World.ownsRow_nil _ _ _ _, World.ownsRow_nil _ _ _ _, Nat.zero_le _, ?_⟩ ?_
  · exact fun j hj => absurd hj (by omega)
  rintro _ W2 ⟨i, ps, cs, po, co, x2, rfl, hB, hs, ho, hi, hz⟩
  refine wp_seq ?_
  refine wp_region_lit ?_
  refine g_pv 1 [(17, .bool (decide ((↑i : Int) < (↑l.length : Int))))] (by kernel_rfl) ?_
  refine wpList_nil ?_
  refine wp_seq ?_
  refine wp_cond_split (t := decide ((↑i : Int) < (↑l.length : Int))) (by kernel_rfl) (fun hc3 => ?_) (fun hc3 => ?_)
  · have hc3 := of_decide_eq_true hc3
    refine wp_skip ?_
    refine wp_seq ?_
    refine wp_block ?_
    refine wp_seq ?_
    refine wp_region_lit ?_
    refine g_pv 1 [(18, .int .i64 (↑i : Int))] (by kernel_rfl) ?_
    refine g_op (by kernel_rfl) (op_val (run_indexA (size := 1) (k := i) (b := a) (n := l.length) (c := c) (i := (↑i : Int)) (ki := .i64) rfl (by kernel_rfl) (by kernel_rfl) rfl (by omega) (Ints.elem h (k := i) (by omega)).1 Tryz.underlying22 (by kernel_rfl) W2) ?_)
    refine g_op (by kernel_rfl) (op_load (elemAddr a (i * 1)) (.int .i64 (l.getD i 0)) rfl (by kernel_rfl) (by kernel_rfl) (Ints.elem (h.below hB) (k := i) (by omega)).2 ?_)
    refine g_pv 2 [(7, .int .i64 (↑i : Int)), (8, .int .i64 (l.getD i 0))] (by kernel_rfl) ?_
    refine wpList_nil ?_
    refine wp_seq ?_
    refine wp_seq ?_
    refine wp_region_lit ?_
    refine g_pv 3 [(21, .int .i64 (l.getD i 0)), (22, .bool (decide ((l.getD i 0) < (0 : Int)))), (23, .bool (decide ((l.getD i 0) < (0 : Int))))] (by kernel_rfl) ?_
    rcases Bool.eq_false_or_eq_true (decide ((l.getD i 0) < (0 : Int))) with hc4 | hc4
    · refine g_b [22, 23] _ _ hc4 (by kernel_rfl) ?_
      have hc4 := of_decide_eq_true hc4
      refine g_pv 3 [(24, undef), (25, undef), (26, .bool true)] (by kernel_rfl) ?_
      refine wpList_nil ?_
      refine wp_cond_true (by kernel_rfl) ?_
      refine wp_seq ?_
      refine wp_region_lit ?_
      refine g_pv 3 [(2, .slice none 0 0), (3, .slice none 0 0), (4, .int .i64 2)] (by kernel_rfl) ?_
      refine wpList_nil ?_
      refine wp_ret (then_ret (inBlock_ret (then_ret (then_ret (inBlock_ret (then_ret ?_))))))
      exact g_retM (.tuple #[.slice none 0 0, .slice none 0 0, .int .i64 2]) (by kernel_rfl) (by kernel_rfl) (.inl ⟨splitE_bad (i := i) hl (by omega) (fun q => by unfold cntOk at q; omega), rfl, hB⟩)
    · refine g_b [22, 23] _ _ hc4 (by kernel_rfl) ?_
      have hc4 := of_decide_eq_false hc4
      refine g_pv 3 [(24, .int .i64 (l.getD i 0)), (25, .bool (decide ((l.getD i 0) > (2147483647 : Int)))), (26, .bool (decide ((l.getD i 0) > (2147483647 : Int))))] (by kernel_rfl) ?_
      refine wpList_nil ?_
      refine wp_cond_split (t := decide ((l.getD i 0) > (2147483647 : Int))) (by kernel_rfl) (fun hc5 => ?_) (fun hc5 => ?_)
      · have hc5 := of_decide_eq_true hc5
        refine wp_seq ?_
        refine wp_region_lit ?_
        refine g_pv 3 [(2, .slice none 0 0), (3, .slice none 0 0), (4, .int .i64 2)] (by kernel_rfl) ?_
        refine wpList_nil ?_
        refine wp_ret (then_ret (inBlock_ret (then_ret (then_ret (inBlock_ret (then_ret ?_))))))
        exact g_retM (.tuple #[.slice none 0 0, .slice none 0 0, .int .i64 2]) (by kernel_rfl) (by kernel_rfl) (.inl ⟨splitE_bad (i := i) hl (by omega) (fun q => by unfold cntOk at q; omega), rfl, hB⟩)
      · have hc5 := of_decide_eq_false hc5
        refine wp_skip ?_
        refine wp_seq ?_
        refine wp_region_lit ?_
        refine g_pv 3 [(27, .slice ps i cs), (28, .int .i64 (l.getD i 0)), (29, .int .i64 (if (3 : Int) < (l.getD i 0) then (3 : Int) else (l.getD i 0)))] (by kernel_rfl) ?_
        refine g_op (by kernel_rfl) (op_buildSlice 3 [.int .i64 (if (3 : Int) < (l.getD i 0) then (3 : Int) else (l.getD i 0))] rfl (by kernel_rfl) ?_)
        intro b6 W6 n6
        have g6 := n6.ge hB
        have r6_hs := own_ne hs n6
        replace hB := Bl.next hB n6.below
        replace hs := own_below hs n6.below
        replace ho := own_below ho n6.below
        have k6 := n6.blk
        refine g_op (by kernel_rfl) (op_app (e := 3) (n := i) (xs := (smallL (l.take i)).map (Value.int .i64)) (m := 1) (news := [.int .i64 (if (3 : Int) < (l.getD i 0) then (3 : Int) else (l.getD i 0))]) (.int .i64 0) 1 8 (i + 1) ((smallL (l.take (i + 1))).map (Value.int .i64)) rfl Tryz.underlying22 (by kernel_rfl) rfl (by decide) (by kernel_rfl) hs (by kernel_rfl) (k6.sl 1 1 (by decide) (by decide)) rfl (by simp [Value.oneCell']) (by unfold maxLen; omega) (by omega) hB.size (by rfl) (by rw [mn3_if, small_snoc (by omega), List.map_append]; rfl) ?_)
        intro p7 c7 W7 o7 hg7 hb7
        replace ho := own_grown ho hg7 hs (by decide)
        replace hB := hB.trans hb7
        refine g_pv 1 [(5, .slice p7 (i + 1) c7)] (by kernel_rfl) ?_
        refine wpList_nil ?_
        refine wp_seq ?_
        refine wp_region_lit ?_
        refine g_pv 2 [(32, .int .i64 (l.getD i 0)), (33, .bool (decide ((l.getD i 0) ≥ (3 : Int))))] (by kernel_rfl) ?_
        refine wpList_nil ?_
        refine wp_cond_split (t := decide ((l.getD i 0) ≥ (3 : Int))) (by kernel_rfl) (fun hc8 => ?_) (fun hc8 => ?_)
        · have hc8 := of_decide_eq_true hc8
          refine wp_region_lit ?_
          refine g_pv 3 [(34, .slice po ((overK l i).length) co), (35, .int .i64 (↑i : Int)), (36, .int .i64 (l.getD i 0))] (by kernel_rfl) ?_
          refine g_op (by kernel_rfl) (op_call (lb := #[]) 50 #[.int .i64 (l.getD i 0)] rfl (by kernel_rfl) (fun _ _ => by kernel_rfl) (by kernel_rfl) ((value_Count (l.getD i 0) (by omega) (by omega) _).mono ?_))
          rintro e W9 ⟨rfl, hb9⟩
          refine ⟨_, rfl, ?_⟩
          replace hB := Bl.next hB hb9
          replace ho := own_below ho hb9
          replace o7 := own_below o7 hb9
          refine g_pv 1 [(38, .agg #[.int .i64 (↑i : Int), .string ⟨(leB (l.getD i 0) 4).toArray⟩, .int .i64 0])] (by kernel_rfl) ?_
          refine g_op (by kernel_rfl) (op_buildSlice 99 [.int .i64 (↑i : Int), .string ⟨(leB (l.getD i 0) 4).toArray⟩, .int .i64 0] rfl (by kernel_rfl) ?_)
          intro b10 W10 n10
          have g10 := n10.ge hB
          have r10_ho := own_ne ho n10
          replace hB := Bl.next hB n10.below
          replace ho := own_below ho n10.below
          replace o7 := own_below o7 n10.below
          have k10 := n10.blk
          refine g_op (by kernel_rfl) (op_app (e := 99) (n := (overK l i).length) (xs := (overK l i).flatMap entC) (m := 1) (news := [.int .i64 (↑i : Int), .string ⟨(leB (l.getD i 0) 4).toArray⟩, .int .i64 0]) (.agg #[.int .i64 0, .string ⟨#[]⟩, .int .i64 0]) 3 32 ((overK l (i + 1)).length) ((overK l (i + 1)).flatMap entC) rfl Tryz.underlying60 (by kernel_rfl) rfl (by decide) (by kernel_rfl) ho (by kernel_rfl) (k10.sl 1 1 (by decide) (by decide)) rfl (by simp [Value.oneCell']) (by have := overK_len l i; unfold maxLen; omega) (by have := overK_len l i; omega) hB.size (by rw [overK_yes (by omega)]; simp) (by rw [overK_yes (by omega)]; simp [entC]) ?_)
          intro p11 c11 W11 o11 hg11 hb11
          replace o7 := own_grown o7 hg11 ho (by decide)
          replace hB := hB.trans hb11
          refine g_pv 1 [(6, .slice p11 ((overK l (i + 1)).length) c11)] (by kernel_rfl) ?_
          refine wpList_nil ?_
          refine wp_region_lit ?_
          refine g_op (by kernel_rfl) (op_wrap .i64 ((↑i : Int) + 1) (↑(i + 1) : Int) (by kernel_rfl) ((show IntKind.i64.wrap ((↑i : Int) + 1) = ((↑i : Int) + 1) from by first | exact IntWalk.i64_in _ (by omega) | (simp only [IntKind.wrap]; omega)).trans (by omega)) ?_)
          refine g_pv 1 [(16, .int .i64 (↑(i + 1) : Int))] (by kernel_rfl) ?_
          refine wpList_nil ?_
          refine g_nfr ⟨#[.slice a l.length c, undef, (x2 0), (x2 1), (x2 2), .slice p7 (i + 1) c7, .slice p11 ((overK l (i + 1)).length) c11, .int .i64 (↑i : Int), .int .i64 (l.getD i 0), undef, undef, .slice a l.length c, .int .i64 (↑l.length : Int), .bool (decide ((↑l.length : Int) > (65536 : Int))), .slice a l.length c, .int .i64 (↑l.length : Int), .int .i64 (↑(i + 1) : Int), .bool (decide ((↑i : Int) < (↑l.length : Int))), .int .i64 (↑i : Int), .pointer (some (elemAddr a (i * 1))), .int .i64 (l.getD i 0), .int .i64 (l.getD i 0), .bool false, .bool false, .int .i64 (l.getD i 0), .bool (decide ((l.getD i 0) > (2147483647 : Int))), .bool (decide ((l.getD i 0) > (2147483647 : Int))), .slice ps i cs, .int .i64 (l.getD i 0), .int .i64 (if (3 : Int) < (l.getD i 0) then (3 : Int) else (l.getD i 0)), .slice (some ⟨b6, 0, none⟩) 1 1, .slice p7 (i + 1) c7, .int .i64 (l.getD i 0), .bool (decide ((l.getD i 0) ≥ (3 : Int))), .slice po ((overK l i).length) co, .int .i64 (↑i : Int), .int .i64 (l.getD i 0), .string ⟨(leB (l.getD i 0) 4).toArray⟩, .agg #[.int .i64 (↑i : Int), .string ⟨(leB (l.getD i 0) 4).toArray⟩, .int .i64 0], .slice (some ⟨b10, 0, none⟩) 1 1, .slice p11 ((overK l (i + 1)).length) c11, .int .i64 (↑(i + 1) : Int), undef, undef, undef, undef, undef, undef, undef, undef, undef, undef], []⟩ (by kernel_rfl) ?_
          refine ⟨⟨i + 1, _, _, _, _, (pk [(x2 0), (x2 1), (x2 2), .int .i64 (↑i : Int), .int .i64 (l.getD i 0), .bool (decide ((↑i : Int) < (↑l.length : Int))), .int .i64 (↑i : Int), .pointer (some (elemAddr a (i * 1))), .int .i64 (l.getD i 0), .int .i64 (l.getD i 0), .bool false, .bool false, .int .i64 (l.getD i 0), .bool (decide ((l.getD i 0) > (2147483647 : Int))), .bool (decide ((l.getD i 0) > (2147483647 : Int))), .slice ps i cs, .int .i64 (l.getD i 0), .int .i64 (if (3 : Int) < (l.getD i 0) then (3 : Int) else (l.getD i 0)), .slice (some ⟨b6, 0, none⟩) 1 1, .slice p7 (i + 1) c7, .int .i64 (l.getD i 0), .bool (decide ((l.getD i 0) ≥ (3 : Int))), .slice po ((overK l i).length) co, .int .i64 (↑i : Int), .int .i64 (l.getD i 0), .string ⟨(leB (l.getD i 0) 4).toArray⟩, .agg #[.int .i64 (↑i : Int), .string ⟨(leB (l.getD i 0) 4).toArray⟩, .int .i64 0], .slice (some ⟨b10, 0, none⟩) 1 1, .slice p11 ((overK l (i + 1)).length) c11, .int .i64 (↑(i + 1) : Int)]), rfl, hB, o7, o11, by omega, fun j hj => (Nat.lt_or_ge j i).elim (hz j) (fun q => by obtain rfl : j = i := (by omega); exact ⟨by omega, by omega⟩)⟩, ?_⟩
          show l.length - ((↑(i + 1) : Int)).toNat < l.length - ((↑i : Int)).toNat
          omega
        · have hc8 := of_decide_eq_false hc8
          refine wp_skip ?_
          refine wp_region_lit ?_
          refine g_op (by kernel_rfl) (op_wrap .i64 ((↑i : Int) + 1) (↑(i + 1) : Int) (by kernel_rfl) ((show IntKind.i64.wrap ((↑i : Int) + 1) = ((↑i : Int) + 1) from by first | exact IntWalk.i64_in _ (by omega) | (simp only [IntKind.wrap]; omega)).trans (by omega)) ?_)
          refine g_pv 1 [(16, .int .i64 (↑(i + 1) : Int))] (by kernel_rfl) ?_
          refine wpList_nil ?_
          refine g_nfr ⟨#[.slice a l.length c, undef, (x2 0), (x2 1), (x2 2), .slice p7 (i + 1) c7, .slice po ((overK l i).length) co, .int .i64 (↑i : Int), .int .i64 (l.getD i 0), undef, undef, .slice a l.length c, .int .i64 (↑l.length : Int), .bool (decide ((↑l.length : Int) > (65536 : Int))), .slice a l.length c, .int .i64 (↑l.length : Int), .int .i64 (↑(i + 1) : Int), .bool (decide ((↑i : Int) < (↑l.length : Int))), .int .i64 (↑i : Int), .pointer (some (elemAddr a (i * 1))), .int .i64 (l.getD i 0), .int .i64 (l.getD i 0), .bool false, .bool false, .int .i64 (l.getD i 0), .bool (decide ((l.getD i 0) > (2147483647 : Int))), .bool (decide ((l.getD i 0) > (2147483647 : Int))), .slice ps i cs, .int .i64 (l.getD i 0), .int .i64 (if (3 : Int) < (l.getD i 0) then (3 : Int) else (l.getD i 0)), .slice (some ⟨b6, 0, none⟩) 1 1, .slice p7 (i + 1) c7, .int .i64 (l.getD i 0), .bool (decide ((l.getD i 0) ≥ (3 : Int))), (x2 22), (x2 23), (x2 24), (x2 25), (x2 26), (x2 27), (x2 28), .int .i64 (↑(i + 1) : Int), undef, undef, undef, undef, undef, undef, undef, undef, undef, undef], []⟩ (by kernel_rfl) ?_
          refine g_nfr ⟨#[.slice a l.length c, undef, (x2 0), (x2 1), (x2 2), .slice p7 (i + 1) c7, .slice po ((overK l (i + 1)).length) co, .int .i64 (↑i : Int), .int .i64 (l.getD i 0), undef, undef, .slice a l.length c, .int .i64 (↑l.length : Int), .bool (decide ((↑l.length : Int) > (65536 : Int))), .slice a l.length c, .int .i64 (↑l.length : Int), .int .i64 (↑(i + 1) : Int), .bool (decide ((↑i : Int) < (↑l.length : Int))), .int .i64 (↑i : Int), .pointer (some (elemAddr a (i * 1))), .int .i64 (l.getD i 0), .int .i64 (l.getD i 0), .bool false, .bool false, .int .i64 (l.getD i 0), .bool (decide ((l.getD i 0) > (2147483647 : Int))), .bool (decide ((l.getD i 0) > (2147483647 : Int))), .slice ps i cs, .int .i64 (l.getD i 0), .int .i64 (if (3 : Int) < (l.getD i 0) then (3 : Int) else (l.getD i 0)), .slice (some ⟨b6, 0, none⟩) 1 1, .slice p7 (i + 1) c7, .int .i64 (l.getD i 0), .bool (decide ((l.getD i 0) ≥ (3 : Int))), (x2 22), (x2 23), (x2 24), (x2 25), (x2 26), (x2 27), (x2 28), .int .i64 (↑(i + 1) : Int), undef, undef, undef, undef, undef, undef, undef, undef, undef, undef], []⟩ (by rw [overK_no (by omega)]) ?_
          refine ⟨⟨i + 1, _, _, _, _, (pk [(x2 0), (x2 1), (x2 2), .int .i64 (↑i : Int), .int .i64 (l.getD i 0), .bool (decide ((↑i : Int) < (↑l.length : Int))), .int .i64 (↑i : Int), .pointer (some (elemAddr a (i * 1))), .int .i64 (l.getD i 0), .int .i64 (l.getD i 0), .bool false, .bool false, .int .i64 (l.getD i 0), .bool (decide ((l.getD i 0) > (2147483647 : Int))), .bool (decide ((l.getD i 0) > (2147483647 : Int))), .slice ps i cs, .int .i64 (l.getD i 0), .int .i64 (if (3 : Int) < (l.getD i 0) then (3 : Int) else (l.getD i 0)), .slice (some ⟨b6, 0, none⟩) 1 1, .slice p7 (i + 1) c7, .int .i64 (l.getD i 0), .bool (decide ((l.getD i 0) ≥ (3 : Int))), (x2 22), (x2 23), (x2 24), (x2 25), (x2 26), (x2 27), (x2 28), .int .i64 (↑(i + 1) : Int)]), rfl, hB, o7, (by rw [overK_no (by omega)]; exact ho), by omega, fun j hj => (Nat.lt_or_ge j i).elim (hz j) (fun q => by obtain rfl : j = i := (by omega); exact ⟨by omega, by omega⟩)⟩, ?_⟩
          show l.length - ((↑(i + 1) : Int)).toNat < l.length - ((↑i : Int)).toNat
          omega
  · have hc3 := of_decide_eq_false hc3
    refine wp_exit ?_
    refine then_exit ?_
    refine then_exit ?_
    refine inBlock_hit ?_
    refine wp_seq ?_
    refine wp_region_lit ?_
    refine g_op (by kernel_rfl) (op_alloc [.slice none 0 0] rfl (by kernel_rfl) ?_)
    intro b12 W12 n12
    have g12 := n12.ge hB
    replace hB := Bl.next hB n12.below
    replace hs := own_below hs n12.below
    replace ho := own_below ho n12.below
    have k12 := n12.blk
    refine wpList_nil ?_
    refine wp_seq ?_
    refine wp_seq ?_
    refine wp_region_lit ?_
    refine g_pv 1 [(42, .slice ps i cs)] (by kernel_rfl) ?_
    refine g_op (by kernel_rfl) (op_call (lb := #[]) 51 #[.slice ps i cs, .int .i64 960] rfl (by kernel_rfl) (fun _ _ => by kernel_rfl) (by kernel_rfl) ((slices_Chunk ps i cs _).mono ?_))
    rintro e W13 ⟨b1, b2, rfl, hb13, ga1, ga2, gn12, kkb1, kkb2⟩
    refine ⟨_, rfl, ?_⟩
    replace hB := Bl.next hB hb13
    replace k12 := k12.below hb13
    replace hs := own_below hs hb13
    replace ho := own_below ho hb13
    refine wpList_nil ?_
    refine wp_block ?_
    have hin : i = l.length := by omega
    obtain ⟨g, hv⟩ := row_or hs
    have hst := chunk_stops b1 b2 (fun b => b < W13.heap.size ∧ b ≠ b12) g 0 i cs (.slice ps i cs) W13 (fun b h => h.1) ⟨kkb1.lt, (by rintro rfl; exact absurd (kkb1.ty k12) (by decide))⟩ ⟨kkb2.lt, (by rintro rfl; exact absurd (kkb2.ty k12) (by decide))⟩ (by omega) hv (kkb1.cell (i := 0) rfl) (kkb2.cell (i := 0) rfl)
    refine g_fr ⟨#[.slice a l.length c, undef, (x2 0), (x2 1), (x2 2), .slice ps i cs, .slice po ((overK l i).length) co, (x2 3), (x2 4), .pointer (some ⟨b12, 0, none⟩), undef, .slice a l.length c, .int .i64 (↑l.length : Int), .bool (decide ((↑l.length : Int) > (65536 : Int))), .slice a l.length c, .int .i64 (↑l.length : Int), .int .i64 (↑i : Int), .bool (decide ((↑i : Int) < (↑l.length : Int))), (x2 6), (x2 7), (x2 8), (x2 9), (x2 10), (x2 11), (x2 12), (x2 13), (x2 14), (x2 15), (x2 16), (x2 17), (x2 18), (x2 19), (x2 20), (x2 21), (x2 22), (x2 23), (x2 24), (x2 25), (x2 26), (x2 27), (x2 28), (x2 29), .slice ps i cs, .func (.func 81) #[] #[.pointer (some ⟨b1, 0, none⟩), .pointer (some ⟨b2, 0, none⟩)], undef, undef, undef, undef, undef, undef, undef, undef], []⟩ (by kernel_rfl) ?_
    refine wp_range (g := .tmp 43) (gf := 81) (lb := #[.pointer (some ⟨b1, 0, none⟩), .pointer (some ⟨b2, 0, none⟩)]) rfl (enters_of Tryz.func81 (by kernel_rfl) rfl) _ (fun b h => h.1) hst (fun _ => rfl)
      (fun pre W => (∃ pb cb gs, gs.length = pre.length ∧ Blk W b12 [.slice pb (preC (smallL (l.take i)) pre).length cb] 59 ∧ Lists W W13.heap.size (.slice pb (preC (smallL (l.take i)) pre).length cb) gs (preC (smallL (l.take i)) pre)) ∧ BelowBut W13 b12 W)
      (fun _ _ _ => False) ?own (fun _ _ _ _ _ h _ _ => h) ⟨⟨none, 0, [], rfl, k12, ⟨World.ownsRow_nil _ _ _ _, fun i hi => absurd hi (Nat.not_lt_zero _)⟩⟩, (Below.refl _ _).but _⟩
      (fun x a' _ => a' = { tmps := #[.slice a l.length c, undef, (x2 0), (x2 1), (x2 2), .slice ps i cs, .slice po ((overK l i).length) co, (x2 3), (x2 4), .pointer (some ⟨b12, 0, none⟩), .slice (some ⟨g, 0 + x.val * 960, none⟩) (min 960 (i - x.val * 960)) (min 960 (i - x.val * 960)), .slice a l.length c, .int .i64 (↑l.length : Int), .bool (decide ((↑l.length : Int) > (65536 : Int))), .slice a l.length c, .int .i64 (↑l.length : Int), .int .i64 (↑i : Int), .bool (decide ((↑i : Int) < (↑l.length : Int))), (x2 6), (x2 7), (x2 8), (x2 9), (x2 10), (x2 11), (x2 12), (x2 13), (x2 14), (x2 15), (x2 16), (x2 17), (x2 18), (x2 19), (x2 20), (x2 21), (x2 22), (x2 23), (x2 24), (x2 25), (x2 26), (x2 27), (x2 28), (x2 29), .slice ps i cs, .func (.func 81) #[] #[.pointer (some ⟨b1, 0, none⟩), .pointer (some ⟨b2, 0, none⟩)], .slice (some ⟨g, 0 + x.val * 960, none⟩) (min 960 (i - x.val * 960)) (min 960 (i - x.val * 960)), undef, undef, undef, undef, undef, undef, undef], defers := [] }) (fun _ _ _ _ _ _ h _ _ => h) ?assign ?body ?done (fun _ _ _ _ _ _ h _ => h.elim)
    case own => exact OwnFrom.and (Own.from (fun s A B row hs hg hr => by obtain ⟨pb, cb, gs, h0, h1, h2⟩ := hs; exact ⟨pb, cb, gs, h0, h1.turn hg hr, h2.turn hg hr⟩) _) (ownFrom_but (Nat.le_refl _))
    case assign =>
      rintro lr pre x W K hI hK
      unfold encK
      gi_wp2
      refine hK _ _ (KeepsFrom.refl _ _) (Keeps.refl _ _) hI ?_
      simp only [hin, Nat.zero_add, decide_eq_false (show ¬ ((l.length : Int) > 65536) by omega), Int.lt_irrefl, decide_false]
    case body =>
      rintro lr pre x a' W hlr ⟨⟨pb, cb, gs, hgl, m9, hL⟩, hbb⟩ rfl hlt
      have hx := bmN_lt x.isLt
      have hvs := hv.resolve_left (fun q => by omega)
      have hsW := hbb.own2 hs k12 (by decide)
      rw [hvs.1] at hsW
      obtain ⟨m, hm⟩ : ∃ m, min 960 (i - x.val * 960) = m := ⟨_, rfl⟩
      rw [hm]
      have hm0 : 0 < m := by omega
      have hmk : x.val * 960 + m ≤ i := by omega
      have hsl : (smallL (l.take i)).length = i := by simp [smallL]; omega
      have hcl : (chunkI (smallL (l.take i)) x.val).length = m := by rw [chunkI_len, hsl]; exact hm
      have hpt : (((smallL (l.take i)).map (Value.int .i64)).drop (x.val * 960)).take m = (chunkI (smallL (l.take i)) x.val).map (Value.int .i64) := by rw [← List.map_drop, ← List.map_take]; unfold chunkI; rw [show ((smallL (l.take i)).drop (x.val * 960)).take m = ((smallL (l.take i)).drop (x.val * 960)).take 960 from by rw [List.take_eq_take_iff, List.length_drop, hsl]; omega]
      have hpl : (preC (smallL (l.take i)) pre).length = pre.length := by simp [preC]
      have hbl : pre.length ≤ 69 := by have : bmN i ≤ 69 := (by unfold bmN; omega); omega
      have hrw := hL.row
      have hE : Each W W13.heap.size gs (preC (smallL (l.take i)) pre) := hL.each
      have hZ : RdZ W13 b12 W W := RdZ.refl hbb
      have hW1 : W13.heap.size ≤ W.heap.size := hbb.size
      have hBW : w.heap.size ≤ W13.heap.size := hB.size
      have hb9 := g12
      refine wpIn_block ?_
      have hB := Bl.nextB (Below.refl w.heap.size W) (Nat.le_trans hBW hW1) (below_drew W)
      replace m9 := m9.below (below_drew W)
      replace hsW := own_below hsW (below_drew W)
      replace hrw := own_below hrw (below_drew W)
      replace hE := hE.below (below_drew W)
      replace hZ := hZ.below (below_drew W)
      refine h_regIn (fun V => Below w.heap.size (W.drew) V ∧ Only [59, 22] (W.drew) V) 6 rfl #[false, false, false, false, false, false] rfl (by kernel_rfl) (fun ⟨_, _, q⟩ => q) (by simp) ⟨Below.refl _ _, Only.refl _ _⟩ ?_
      intro hS14
      have hBd16 := hB
      have kd16_b12 := m9
      have fd_hrw := hrw
      refine h_pv [1] 5 rfl #[false, true, false, false, false, false] [(46, .slice (some ⟨g, 0 + x.val * 960, none⟩) m m)] (by kernel_rfl) (fun _ _ _ _ _ h => h) (by kernel_rfl) hS14 ?_
      refine h_two 0 2 4 rfl (by kernel_rfl) rfl rfl (by kernel_rfl) (by kernel_rfl) ?_ ?_
      · refine op_load ⟨b12, 0, none⟩ (.slice pb ((preC (smallL (l.take i)) pre).length) cb) rfl (by kernel_rfl) (by kernel_rfl) (m9.cell (i := 0) rfl) ?_
        have hS17 : Below w.heap.size (W.drew) (W.drew) ∧ Only [59, 22] (W.drew) (W.drew) := hS14
        refine ⟨hS17, ?_⟩
        have hs18 : W.heap.size ≤ (W.drew).heap.size := hB.size
        refine h_one 2 3 rfl (by kernel_rfl) rfl (by kernel_rfl) (op_call (lb := #[]) 27 #[.slice (some ⟨g, 0 + x.val * 960, none⟩) m m] rfl (by kernel_rfl) (fun _ _ => by kernel_rfl) (by kernel_rfl) ((clone_cnt ⟨g, 0 + x.val * 960, none⟩ m m ((chunkI (smallL (l.take i)) x.val).map (Value.int .i64)) _ (hpt ▸ Sl.midI (own_sl hsW) (by rw [List.length_map]; exact hsl) (x.val * 960) m hm0 hmk) (by rw [List.length_map]; exact hcl) (fun u hu => by obtain ⟨y, _, rfl⟩ := List.mem_map.1 hu; rfl) (by omega)).mono ?_))
        rintro e W18 ⟨_, rfl, hb18, q, c2, rfl, hq⟩
        refine ⟨_, rfl, ?_⟩
        replace hB := Bl.nextB hB (Nat.le_trans hBW hW1) hb18
        replace m9 := m9.below hb18
        replace hsW := own_below hsW hb18
        replace hrw := own_below hrw hb18
        replace hE := hE.below hb18
        replace hZ := hZ.below hb18
        replace hq := own_mono hq hs18
        have hS19 : Below w.heap.size (W.drew) (W18) ∧ Only [59, 22] (W.drew) (W18) := ⟨Bl.nextB hS17.1 (Nat.le_trans (Nat.le_trans hBW hW1) hBd16.size) hb18, hS17.2.trans (Only.of_below hb18)⟩
        refine ⟨hS19, ?_⟩
        refine h_one 3 2 rfl (by kernel_rfl) rfl (by kernel_rfl) (op_buildSlice 22 [.slice q m c2] rfl (by kernel_rfl) ?_)
        intro b20 W20 n20
        have d20_b12 := n20.ne m9
        have g20 := n20.ge0 hB
        have r20_hrw := own_ne hrw n20
        have gd_b20 : (W.drew).heap.size ≤ b20 := by have := hS19.1.size; have := n20.at_; omega
        replace hB := Bl.nextB hB (Nat.le_trans hBW hW1) n20.below
        replace m9 := m9.below n20.below
        replace hsW := own_below hsW n20.below
        replace hrw := own_below hrw n20.below
        replace hE := hE.below n20.below
        replace hZ := hZ.below n20.below
        replace hq := own_below hq n20.below
        have k20 := n20.blk
        have hS21 : Below w.heap.size (W.drew) (W20) ∧ Only [59, 22] (W.drew) (W20) := ⟨Bl.nextB hS19.1 (Nat.le_trans (Nat.le_trans hBW hW1) hBd16.size) n20.below, hS19.2.trans (Only.of_below n20.below)⟩
        refine ⟨hS21, ?_⟩
        refine h_one 4 1 rfl (by kernel_rfl) rfl (by kernel_rfl) (op_app (e := 22) (n := (preC (smallL (l.take i)) pre).length) (xs := (List.range (preC (smallL (l.take i)) pre).length).map (lstV gs (preC (smallL (l.take i)) pre))) (m := 1) (news := [.slice q m c2]) (.slice none 0 0) 1 24 ((preC (smallL (l.take i)) pre).length + 1) ((List.range (preC (smallL (l.take i)) pre).length).map (lstV gs (preC (smallL (l.take i)) pre)) ++ [.slice q m c2]) rfl Tryz.underlying59 (by kernel_rfl) rfl (by decide) (by kernel_rfl) hrw (by kernel_rfl) (k20.sl 1 1 (by decide) (by decide)) rfl (by simp [Value.oneCell']) (by unfold maxLen; omega) (by omega) (Nat.le_trans hW1 hZ.le) (by simp) (by simp) ?_)
        intro p22 c22 W22 o22 hg22 hb22
        replace m9 := m9.grown hg22 hrw (by decide)
        replace hsW := own_grown hsW hg22 hrw (by decide)
        replace hE := hE.only (Only.of_grown (T := [22]) hg22 hrw (by decide)) (by decide)
        replace hZ := hZ.grown hg22 hrw
        replace hq := own_grown hq hg22 hrw (by decide)
        replace hB := hB.trans (hb22.mono hBW)
        have hS23 : Below w.heap.size (W.drew) (W22) ∧ Only [59, 22] (W.drew) (W22) := ⟨hS21.1.trans (hb22.mono hBW), hS21.2.trans (Only.of_grown hg22 hrw (by decide))⟩
        refine ⟨hS23, ?_⟩
        refine h_one 5 0 rfl (by kernel_rfl) rfl (by kernel_rfl) (op_store (v := .slice p22 ((preC (smallL (l.take i)) pre).length + 1) c22) (b := b12) (off := 0) rfl (by kernel_rfl) (by kernel_rfl) (by kernel_rfl) rfl m9 (by first | decide | simp) ?_)
        intro W24 u24 k24
        change Blk _ _ [.slice p22 ((preC (smallL (l.take i)) pre).length + 1) c22] _ at k24
        replace hB := u24.below hB hb9
        replace hsW := u24.own2 hsW m9 (by decide)
        replace hE := hE.only (Only.of_upd (T := [59]) u24 m9 (by decide)) (by decide)
        replace hZ := hZ.upd u24 m9
        replace hq := u24.own2 hq m9 (by decide)
        replace o22 := u24.own2 o22 m9 (by decide)
        have hS25 : Below w.heap.size (W.drew) (W24) ∧ Only [59, 22] (W.drew) (W24) := ⟨u24.below hS23.1 hb9, hS23.2.trans (Only.of_upd u24 m9 (by decide))⟩
        refine ⟨hS25, ?_⟩
        refine h_done _ (by kernel_rfl) ?_
        obtain ⟨g2, rfl, hc2⟩ := own_someN hq hm0
        rw [← hcl] at hq
        have hrw2 := o22
        rw [← hcl] at hrw2
        have hS := Lists.snoc (n := (preC (smallL (l.take i)) pre).length + 1) rfl hrw2 hE (own_mono hq hW1) (by rw [hgl, hpl])
        exact ⟨hZ.ko.from _, ⟨hZ.le, fun b hb => hZ.fr b hb.1 hb.2⟩, ⟨_, _, gs ++ [(g2, _)], by simp [hgl], by rw [preC_snoc, List.length_append]; exact k24, by rw [preC_snoc, List.length_append]; exact hS⟩, hZ.bb⟩
      · have hs26 : W.heap.size ≤ (W.drew).heap.size := hB.size
        refine op_call (lb := #[]) 27 #[.slice (some ⟨g, 0 + x.val * 960, none⟩) m m] rfl (by kernel_rfl) (fun _ _ => by kernel_rfl) (by kernel_rfl) ((clone_cnt ⟨g, 0 + x.val * 960, none⟩ m m ((chunkI (smallL (l.take i)) x.val).map (Value.int .i64)) _ (hpt ▸ Sl.midI (own_sl hsW) (by rw [List.length_map]; exact hsl) (x.val * 960) m hm0 hmk) (by rw [List.length_map]; exact hcl) (fun u hu => by obtain ⟨y, _, rfl⟩ := List.mem_map.1 hu; rfl) (by omega)).mono ?_)
        rintro e W26 ⟨_, rfl, hb26, q, c2, rfl, hq⟩
        refine ⟨_, rfl, ?_⟩
        replace hB := Bl.nextB hB (Nat.le_trans hBW hW1) hb26
        replace m9 := m9.below hb26
        replace hsW := own_below hsW hb26
        replace hrw := own_below hrw hb26
        replace hE := hE.below hb26
        replace hZ := hZ.below hb26
        replace hq := own_mono hq hs26
        have hS27 : Below w.heap.size (W.drew) (W26) ∧ Only [59, 22] (W.drew) (W26) := ⟨Bl.nextB hS14.1 (Nat.le_trans (Nat.le_trans hBW hW1) hBd16.size) hb26, hS14.2.trans (Only.of_below hb26)⟩
        refine ⟨hS27, ?_⟩
        refine h_two 0 3 3 rfl (by kernel_rfl) rfl rfl (by kernel_rfl) (by kernel_rfl) ?_ ?_
        · refine op_load ⟨b12, 0, none⟩ (.slice pb ((preC (smallL (l.take i)) pre).length) cb) rfl (by kernel_rfl) (by kernel_rfl) (m9.cell (i := 0) rfl) ?_
          have hS28 : Below w.heap.size (W.drew) (W26) ∧ Only [59, 22] (W.drew) (W26) := hS27
          refine ⟨hS28, ?_⟩
          refine h_one 3 2 rfl (by kernel_rfl) rfl (by kernel_rfl) (op_buildSlice 22 [.slice q m c2] rfl (by kernel_rfl) ?_)
          intro b29 W29 n29
          have d29_b12 := n29.ne m9
          have g29 := n29.ge0 hB
          have r29_hrw := own_ne hrw n29
          have gd_b29 : (W.drew).heap.size ≤ b29 := by have := hS28.1.size; have := n29.at_; omega
          replace hB := Bl.nextB hB (Nat.le_trans hBW hW1) n29.below
          replace m9 := m9.below n29.below
          replace hsW := own_below hsW n29.below
          replace hrw := own_below hrw n29.below
          replace hE := hE.below n29.below
          replace hZ := hZ.below n29.below
          replace hq := own_below hq n29.below
          have k29 := n29.blk
          have hS30 : Below w.heap.size (W.drew) (W29) ∧ Only [59, 22] (W.drew) (W29) := ⟨Bl.nextB hS28.1 (Nat.le_trans (Nat.le_trans hBW hW1) hBd16.size) n29.below, hS28.2.trans (Only.of_below n29.below)⟩
          refine ⟨hS30, ?_⟩
          refine h_one 4 1 rfl (by kernel_rfl) rfl (by kernel_rfl) (op_app (e := 22) (n := (preC (smallL (l.take i)) pre).length) (xs := (List.range (preC (smallL (l.take i)) pre).length).map (lstV gs (preC (smallL (l.take i)) pre))) (m := 1) (news := [.slice q m c2]) (.slice none 0 0) 1 24 ((preC (smallL (l.take i)) pre).length + 1) ((List.range (preC (smallL (l.take i)) pre).length).map (lstV gs (preC (smallL (l.take i)) pre)) ++ [.slice q m c2]) rfl Tryz.underlying59 (by kernel_rfl) rfl (by decide) (by kernel_rfl) hrw (by kernel_rfl) (k29.sl 1 1 (by decide) (by decide)) rfl (by simp [Value.oneCell']) (by unfold maxLen; omega) (by omega) (Nat.le_trans hW1 hZ.le) (by simp) (by simp) ?_)
          intro p31 c31 W31 o31 hg31 hb31
          replace m9 := m9.grown hg31 hrw (by decide)
          replace hsW := own_grown hsW hg31 hrw (by decide)
          replace hE := hE.only (Only.of_grown (T := [22]) hg31 hrw (by decide)) (by decide)
          replace hZ := hZ.grown hg31 hrw
          replace hq := own_grown hq hg31 hrw (by decide)
          replace hB := hB.trans (hb31.mono hBW)
          have hS32 : Below w.heap.size (W.drew) (W31) ∧ Only [59, 22] (W.drew) (W31) := ⟨hS30.1.trans (hb31.mono hBW), hS30.2.trans (Only.of_grown hg31 hrw (by decide))⟩
          refine ⟨hS32, ?_⟩
          refine h_one 5 0 rfl (by kernel_rfl) rfl (by kernel_rfl) (op_store (v := .slice p31 ((preC (smallL (l.take i)) pre).length + 1) c31) (b := b12) (off := 0) rfl (by kernel_rfl) (by kernel_rfl) (by kernel_rfl) rfl m9 (by first | decide | simp) ?_)
          intro W33 u33 k33
          change Blk _ _ [.slice p31 ((preC (smallL (l.take i)) pre).length + 1) c31] _ at k33
          replace hB := u33.below hB hb9
          replace hsW := u33.own2 hsW m9 (by decide)
          replace hE := hE.only (Only.of_upd (T := [59]) u33 m9 (by decide)) (by decide)
          replace hZ := hZ.upd u33 m9
          replace hq := u33.own2 hq m9 (by decide)
          replace o31 := u33.own2 o31 m9 (by decide)
          have hS34 : Below w.heap.size (W.drew) (W33) ∧ Only [59, 22] (W.drew) (W33) := ⟨u33.below hS32.1 hb9, hS32.2.trans (Only.of_upd u33 m9 (by decide))⟩
          refine ⟨hS34, ?_⟩
          refine h_done _ (by kernel_rfl) ?_
          obtain ⟨g2, rfl, hc2⟩ := own_someN hq hm0
          rw [← hcl] at hq
          have hrw2 := o31
          rw [← hcl] at hrw2
          have hS := Lists.snoc (n := (preC (smallL (l.take i)) pre).length + 1) rfl hrw2 hE (own_mono hq hW1) (by rw [hgl, hpl])
          exact ⟨hZ.ko.from _, ⟨hZ.le, fun b hb => hZ.fr b hb.1 hb.2⟩, ⟨_, _, gs ++ [(g2, _)], by simp [hgl], by rw [preC_snoc, List.length_append]; exact k33, by rw [preC_snoc, List.length_append]; exact hS⟩, hZ.bb⟩
        · refine op_buildSlice 22 [.slice q m c2] rfl (by kernel_rfl) ?_
          intro b35 W35 n35
          have d35_b12 := n35.ne m9
          have g35 := n35.ge0 hB
          have r35_hrw := own_ne hrw n35
          have gd_b35 : (W.drew).heap.size ≤ b35 := by have := hS27.1.size; have := n35.at_; omega
          replace hB := Bl.nextB hB (Nat.le_trans hBW hW1) n35.below
          replace m9 := m9.below n35.below
          replace hsW := own_below hsW n35.below
          replace hrw := own_below hrw n35.below
          replace hE := hE.below n35.below
          replace hZ := hZ.below n35.below
          replace hq := own_below hq n35.below
          have k35 := n35.blk
          have hS36 : Below w.heap.size (W.drew) (W35) ∧ Only [59, 22] (W.drew) (W35) := ⟨Bl.nextB hS27.1 (Nat.le_trans (Nat.le_trans hBW hW1) hBd16.size) n35.below, hS27.2.trans (Only.of_below n35.below)⟩
          refine ⟨hS36, ?_⟩
          refine h_one 0 2 rfl (by kernel_rfl) rfl (by kernel_rfl) (op_load ⟨b12, 0, none⟩ (.slice pb ((preC (smallL (l.take i)) pre).length) cb) rfl (by kernel_rfl) (by kernel_rfl) (m9.cell (i := 0) rfl) ?_)
          have hS37 : Below w.heap.size (W.drew) (W35) ∧ Only [59, 22] (W.drew) (W35) := hS36
          refine ⟨hS37, ?_⟩
          refine h_one 4 1 rfl (by kernel_rfl) rfl (by kernel_rfl) (op_app (e := 22) (n := (preC (smallL (l.take i)) pre).length) (xs := (List.range (preC (smallL (l.take i)) pre).length).map (lstV gs (preC (smallL (l.take i)) pre))) (m := 1) (news := [.slice q m c2]) (.slice none 0 0) 1 24 ((preC (smallL (l.take i)) pre).length + 1) ((List.range (preC (smallL (l.take i)) pre).length).map (lstV gs (preC (smallL (l.take i)) pre)) ++ [.slice q m c2]) rfl Tryz.underlying59 (by kernel_rfl) rfl (by decide) (by kernel_rfl) hrw (by kernel_rfl) (k35.sl 1 1 (by decide) (by decide)) rfl (by simp [Value.oneCell']) (by unfold maxLen; omega) (by omega) (Nat.le_trans hW1 hZ.le) (by simp) (by simp) ?_)
          intro p38 c38 W38 o38 hg38 hb38
          replace m9 := m9.grown hg38 hrw (by decide)
          replace hsW := own_grown hsW hg38 hrw (by decide)
          replace hE := hE.only (Only.of_grown (T := [22]) hg38 hrw (by decide)) (by decide)
          replace hZ := hZ.grown hg38 hrw
          replace hq := own_grown hq hg38 hrw (by decide)
          replace hB := hB.trans (hb38.mono hBW)
          have hS39 : Below w.heap.size (W.drew) (W38) ∧ Only [59, 22] (W.drew) (W38) := ⟨hS37.1.trans (hb38.mono hBW), hS37.2.trans (Only.of_grown hg38 hrw (by decide))⟩
          refine ⟨hS39, ?_⟩
          refine h_one 5 0 rfl (by kernel_rfl) rfl (by kernel_rfl) (op_store (v := .slice p38 ((preC (smallL (l.take i)) pre).length + 1) c38) (b := b12) (off := 0) rfl (by kernel_rfl) (by kernel_rfl) (by kernel_rfl) rfl m9 (by first | decide | simp) ?_)
          intro W40 u40 k40
          change Blk _ _ [.slice p38 ((preC (smallL (l.take i)) pre).length + 1) c38] _ at k40
          replace hB := u40.below hB hb9
          replace hsW := u40.own2 hsW m9 (by decide)
          replace hE := hE.only (Only.of_upd (T := [59]) u40 m9 (by decide)) (by decide)
          replace hZ := hZ.upd u40 m9
          replace hq := u40.own2 hq m9 (by decide)
          replace o38 := u40.own2 o38 m9 (by decide)
          have hS41 : Below w.heap.size (W.drew) (W40) ∧ Only [59, 22] (W.drew) (W40) := ⟨u40.below hS39.1 hb9, hS39.2.trans (Only.of_upd u40 m9 (by decide))⟩
          refine ⟨hS41, ?_⟩
          refine h_done _ (by kernel_rfl) ?_
          obtain ⟨g2, rfl, hc2⟩ := own_someN hq hm0
          rw [← hcl] at hq
          have hrw2 := o38
          rw [← hcl] at hrw2
          have hS := Lists.snoc (n := (preC (smallL (l.take i)) pre).length + 1) rfl hrw2 hE (own_mono hq hW1) (by rw [hgl, hpl])
          exact ⟨hZ.ko.from _, ⟨hZ.le, fun b hb => hZ.fr b hb.1 hb.2⟩, ⟨_, _, gs ++ [(g2, _)], by simp [hgl], by rw [preC_snoc, List.length_append]; exact k40, by rw [preC_snoc, List.length_append]; exact hS⟩, hZ.bb⟩
    case done =>
      rintro D xs W hD rfl ⟨⟨pb, cb, gs, hgl, m9, hL⟩, hbb⟩ hK0
      rw [preC_all] at m9 hL
      have hK : Dfr D W := hK0; clear hK0
      subst hin
      rw [List.take_length] at m9 hL
      rw [chunksI_len] at m9 hL
      refine g_nopan ?_
      have hB1 := hB
      replace hB := hbb.below hB g12 hB.size
      have ho2 := hbb.own2 ho k12 (by decide)
      have hBW := hB1.size
      replace k12 := m9
      refine wp_seq ?_
      refine wp_region_lit ?_
      refine g_op (by kernel_rfl) (op_load ⟨b12, 0, none⟩ (.slice pb (bmN l.length) cb) rfl (by kernel_rfl) (by kernel_rfl) (k12.cell (i := 0) rfl) ?_)
      refine g_pv 4 [(51, .slice po ((overK l l.length).length) co), (2, .slice pb (bmN l.length) cb), (3, .slice po ((overK l l.length).length) co), (4, .int .i64 0)] (by kernel_rfl) ?_
      refine wpList_nil ?_
      refine wp_ret ?_
      exact g_endM hK (.tuple #[.slice pb (bmN l.length) cb, .slice po ((overK l l.length).length) co, .int .i64 0]) (by kernel_rfl) (by kernel_rfl) (.inr ⟨splitE_good hl (fun k hk => hz k (by omega)), _, _, gs, _, _, rfl, (Upd.of_put _ _ _).below hB (Nat.le_trans hBW hD), (hL.mono hBW).put (Upd.of_put _ _ _) hK, (Upd.of_put _ _ _).own3 ho2 (hK.row ho2)⟩)
end Go.Proofs.YtbhjgcokpmiopaaGreatDoor
namespace Go.Proofs.YtbhjgcokpmiopaaGreatDoor
open Go.RowKit Go.Extern.Stop Go.Stop Go.Extern
set_option linter.unusedVariables false
attribute [local irreducible] wpList wpAnyH Code.wp Oper.wp Go

def LayPost (B ba b g nn cc : Nat) (pa : Option Addr) (ca f N k0 : Nat) (bs : List UInt8) (bl : Nat) (L : List (List Int)) (w : World) (e : Ending) (w' : World) : Prop :=
  ∃ p c, e = .returned .nilIface ∧ Below B w w' ∧ Only [93, 5, 60, 99] w w' ∧ Fr [ba, g, bl] w w' ∧ Al B ba b g nn cc pa ca f N (k0 + L.length) (cntsB L (f + k0) bs L.length) w' ∧ Blk w' bl [.slice p L.length c] 60 ∧ w'.ownsRow w.heap.size 99 3 (.slice p L.length c) L.length ((slotsE L (f + k0) L.length).flatMap entC)
set_option maxRecDepth 100000 in
set_option maxHeartbeats 8000000 in
theorem plot_layD (B ba b g nn cc : Nat) (pa : Option Addr) (ca f N k0 : Nat) (bs : List UInt8) (bl B2 : Nat) (pl : Option Addr) (cl : Nat) (gs : List (Nat × Nat)) (L : List (List Int)) (w : World) (hC : AlC B ba nn cc ca f N) (hA : Al B ba b g nn cc pa ca f N k0 bs w) (hL : Lists w B2 (.slice pl L.length cl) gs L) (hS : ∀ i, i < L.length → Small (L.getD i []) ∧ (L.getD i []).length ≤ 960) (hf1 : 1 ≤ f) (hk : k0 + L.length ≤ N) (kl : Blk w bl [.slice none 0 0] 60) (hBl : B ≤ bl) (hBw : B ≤ w.heap.size) :
    Calls Tryz.prog 30 #[.pointer (some ⟨ba, 0, none⟩), .slice pl L.length cl, .func (.func 48) #[] #[.pointer (some ⟨bl, 0, none⟩)]] w (LayPost B ba b g nn cc pa ca f N k0 bs bl L w) := by
 have hcf := hC.hf
 have hcn := hC.hn
 refine zin 51 Tryz.func30 ?_
 have hB := Below.refl B w
 refine zl 14 51 (fun zm zkv V => ∃ (i : Nat) (p : Option Addr) (c : Nat), zkv = [(0, .pointer (some ⟨ba, 0, none⟩)), (2, .func (.func 48) #[] #[.pointer (some ⟨bl, 0, none⟩)]), (15, .slice pl L.length cl), (16, .int .i64 (↑L.length : Int)), (17, .int .i64 (↑i : Int))] ∧ zm = L.length - ((↑i : Int)).toNat ∧ Below B w V ∧ Fr [ba, g, bl] w V ∧ Only [93, 5, 60, 99] w V ∧ Blk V bl ([.slice p i c]) 60 ∧ Al B ba b g nn cc pa ca f N (k0 + i) (cntsB L (f + k0) bs i) V ∧ Lists V B2 (.slice pl L.length cl) gs L ∧ V.ownsRow w.heap.size 99 3 (.slice p i c) i ((slotsE L (f + k0) i).flatMap entC) ∧ i ≤ L.length) ⟨0, none, 0, rfl, rfl, hB, (Fr.refl _ _), (Only.refl _ _), kl, hA, hL, World.ownsRow_nil _ _ _ _, Nat.zero_le _⟩ ?_
 rintro _ _ W1 ⟨i, p, c, rfl, rfl, hB_1, hX_1, hO_1, k1_bl, hA, hL, hup, hi⟩ J1 hJ1 r1
 refine xid 6 ((↑i : Int) < (↑L.length : Int)) (fun hc2 => ?_) (fun hc2 => ?_)
 · refine xx 6 _ L.length i 1 (Lists.elem hL rfl (k := i) (by omega)).1 ?_
   refine xl 0 ((Lists.elem hL rfl (k := i) (by omega)).2) ?_
   refine xc 6 (args := #[.slice (some ⟨(gs.getD i (0, 0)).1, 0, none⟩) ((L.getD i []).length) ((gs.getD i (0, 0)).2)]) (bits_Put _ _ (L.getD i []) _ (hS i (by omega)).1 (hS i (by omega)).2 (own_sl (hL.each i (by omega)))) ?_
   rintro _ W3 ⟨_, rfl, hb3, g6, rfl, h6⟩
   have hA'1 := hA.below hb3
   have hO'1 := hO_1.trans (Only.of_below hb3)
   have h6'1 := own_mono h6 hB_1.size
   have hB'1 := Bl.nextB hB_1 hBw hb3
   refine xc 21 (args := #[.pointer (some ⟨ba, 0, none⟩), .int .i64 3, .slice (some ⟨g6, 0, none⟩) 244 244]) (alloc_LayQ B ba b g nn cc pa ca f N (k0 + i) (cntsB L (f + k0) bs i) 3 (some ⟨g6, 0, none⟩) 244 (bitsB (L.getD i [])) (f + k0 + i) 244 _ (Nat.add_assoc _ _ _).symm (bitsT_len _ _) hC hA'1 (by omega) (by decide) (by decide) (fun W _ hO'1 => bys_of (own_sl (own_only h6'1 hO'1 (by decide))) (bitsT_len _ _)) (by decide) (Nat.le_trans hBw hB'1.size)) ?_
   rintro _ W4 ⟨rfl, hb4, hO4, hX4, hA⟩
   have hL'1 := (hL.below hb3).only hO4 (by decide)
   refine xr 20 (args := #[.slice (some ⟨(gs.getD i (0, 0)).1, 0, none⟩) ((L.getD i []).length) ((gs.getD i (0, 0)).2)]) (bits_Free _ _ (L.getD i []) _ (hS i (by omega)).2 (own_sl (hL'1.each i (by omega)))) fun W5 hb5 => ?_
   have hf9 : freeN (L.getD i []) ≤ 960 := Nat.le_trans (freeK_le _ _) (hS i (by omega)).2
   have hg9 : firstN (L.getD i []) ≤ 960 := Nat.le_trans (firstN_le _) (hS i (by omega)).2
   have hB'2 := Bl.nextB (hB'1.trans hb4) hBw hb5
   have k1_bl'1 := ((k1_bl.below hb3).only hO4 (by decide)).below hb5
   have hup'1 := own_below (own_only (own_below hup hb3) hO4 (by decide)) hb5
   refine xc 13 (args := #[.agg #[.int .i64 (↑(f + k0 + i) : Int), .int .i64 (↑(freeN (L.getD i [])) : Int), .int .i64 (↑(firstN (L.getD i [])) : Int)], .pointer (some ⟨bl, 0, none⟩)]) (plot_data1 B w.heap.size bl p c L (f + k0) i _ hBw hB'2.size (Nat.le_trans hBw hB'2.size) hBl k1_bl'1 hup'1 (by omega) (by omega) (by omega) hf9 hg9) ?_
   rintro _ W6 ⟨_, p9, c9, rfl, hb6, hO6, kln, hup, hX6⟩
   refine xwm 4 ((↑i : Int) + 1) (↑(i + 1) : Int) ?_
   have hA'2 := (hA.below hb5).only hO6 (by decide)
   have hL'2 := (hL'1.below hb5).only hO6 (by decide)
   have hB'3 := hB'2.trans hb6
   have hX'1 := (Fr.trans_B (((hX_1.trans (Fr.of_below hb3)).trans (hX4.mono (by simp))).trans (Fr.of_below hb5)) hX6 (by simp))
   have hO'2 := ((hO'1.trans (hO4.wide)).trans (Only.of_below hb5)).trans (hO6.wide)
   exact ze 2 (hJ1 _ _ _ ⟨i + 1, _, _, rfl, rfl, hB'3, hX'1, hO'2, kln, hA'2, hL'2, hup, by omega⟩ (by omega))
 refine xe 11 .nilIface ?_
 obtain rfl : i = L.length := by omega
 exact ⟨_, _, rfl, hB_1, hO_1, hX_1, hA, k1_bl, hup⟩
end Go.Proofs.YtbhjgcokpmiopaaGreatDoor
namespace Go.Proofs.YtbhjgcokpmiopaaGreatDoor
open Go.RowKit Go.Extern.Stop Go.Stop Go.Extern
set_option linter.unusedVariables false
attribute [local irreducible] wpList wpAnyH Code.wp Oper.wp Go

/-- the law's entries: keys 0, 3, 6 .., values of v zero bytes -/
def someE (v N : Nat) : List Ent := (List.range N).map fun i => (((3 * i : Nat) : Int), List.replicate v 0, 0)
theorem someE_len (v N : Nat) : (someE v N).length = N := by simp [someE]
theorem someE_get {v N i : Nat} (h : i < N) : (someE v N).getD i entD = (((3 * i : Nat) : Int), List.replicate v 0, 0) := by simp [someE, List.getD, List.getElem?_range h]
theorem someE_succ (v j : Nat) : (someE v (j + 1)).flatMap entC = (someE v j).flatMap entC ++ [.int .i64 ((3 * j : Nat) : Int), .string ⟨(List.replicate v (0 : UInt8)).toArray⟩, .int .i64 0] := by
  simp [someE, List.range_succ, entC]
theorem someE_ok {v N : Nat} (h : N ≤ 100000) : EntsOk v (someE v N) where
  hk i hi := by rw [someE_len] at hi; rw [someE_get hi]; constructor <;> (simp only; omega)
  hs j hj := by rw [someE_len] at hj; rw [someE_get (by omega), someE_get hj]; simp only; omega
  hw i hi := by rw [someE_len] at hi; rw [someE_get hi]; simp
end Go.Proofs.YtbhjgcokpmiopaaGreatDoor
namespace Go.Proofs.YtbhjgcokpmiopaaGreatDoor
open Go.RowKit Go.Extern.Stop Go.Stop Go.Extern
set_option linter.unusedVariables false
attribute [local irreducible] wpList wpAnyH Code.wp Oper.wp Go

theorem Al.mono {B B' ba b g n c : Nat} {pa : Option Addr} {ca f N k : Nat} {l : List UInt8} {w : World} (h : Al B' ba b g n c pa ca f N k l w) (hB : B ≤ B') : Al B ba b g n c pa ca f N k l w := ⟨h.blkA, h.blkI, own_mono h.data hB, own_mono h.nums hB⟩
theorem AlC.mono {B B' ba n c ca f N : Nat} (h : AlC B' ba n c ca f N) (hB : B ≤ B') : AlC B ba n c ca f N := ⟨h.hn, h.hc, h.hca, h.hf, Nat.le_trans hB h.hB⟩
theorem row_at {w : World} {base g n c size : Nat} {e : TypeId} {xs : List Value} (h : w.ownsRow base e size (.slice (some ⟨g, 0, none⟩) n c) n xs) : ∃ cur, w.heap[g]? = some (.cells cur e (0, 0)) := by
  rcases h.2 with ⟨hv, _⟩ | ⟨g2, cap, cur, hv, _, hh, _⟩
  · cases hv
  · simp only [Value.slice.injEq, Option.some.injEq, Addr.mk.injEq] at hv
    obtain ⟨⟨rfl, _, _⟩, _⟩ := hv
    exact ⟨cur, hh⟩
theorem row_lt {w : World} {base g n c size : Nat} {e : TypeId} {xs : List Value} (h : w.ownsRow base e size (.slice (some ⟨g, 0, none⟩) n c) n xs) : g < w.heap.size := by
  obtain ⟨cur, hh⟩ := row_at h
  exact (Array.getElem?_eq_some_iff.1 hh).1
/-- the image of one allocator is no block that another one writes -/
theorem Al.ne {B ba b g n c : Nat} {pa : Option Addr} {ca f N k : Nat} {l : List UInt8} {B2 ba2 b2 g2 n2 c2 : Nat} {pa2 : Option Addr} {ca2 f2 N2 k2 : Nat} {l2 : List UInt8} {w : World} (h : Al B ba b g n c pa ca f N k l w) (h2 : Al B2 ba2 b2 g2 n2 c2 pa2 ca2 f2 N2 k2 l2 w) : b2 ≠ ba ∧ b2 ≠ g := by
  constructor
  · rintro rfl
    exact absurd (h.blkA.ty h2.blkI) (by decide)
  · rintro rfl
    obtain ⟨cur, hh⟩ := row_at h.data
    have h3 : w.heap[b2]? = some (.cells [.slice (some ⟨g2, 0, none⟩) n2 c2].toArray 96 (0, 0)) := h2.blkI
    rw [hh] at h3
    simp only [Option.some.injEq, Obj.cells.injEq] at h3
    exact absurd h3.2.1 (by decide)
theorem Al.apart {B2 ba2 b2 g2 n2 c2 : Nat} {pa2 : Option Addr} {ca2 f2 N2 k2 : Nat} {l2 : List UInt8} {w W : World} {ba g : Nat} (h : Al B2 ba2 b2 g2 n2 c2 pa2 ca2 f2 N2 k2 l2 w) (hC : AlC B2 ba2 n2 c2 ca2 f2 N2) (h1 : ba < B2) (h2 : g < B2) (hne : b2 ≠ ba ∧ b2 ≠ g) (hX : Fr [ba, g] w W) : Al B2 ba2 b2 g2 n2 c2 pa2 ca2 f2 N2 k2 l2 W := by
  have hB := hC.hB
  refine ⟨h.blkA.fr hX (by simp; omega), h.blkI.fr hX (by simp; exact hne), own_fr h.data hX fun k hk => ?_, own_fr h.nums hX fun k hk => ?_⟩
  · have := (h.data.lt k hk).1; simp; omega
  · have := (h.nums.lt k hk).1; simp; omega
theorem build_TreeN (B ba b g nn cc : Nat) (pa : Option Addr) (ca f N k0 : Nat) (bs : List UInt8) (t : Int) (a : Option Addr) (c : Nat) (l : List Ent) (n : Nat) (w : World) (hl : l.length = n) (hC : AlC B ba nn cc ca f N) (hA : Al B ba b g nn cc pa ca f N k0 bs w) (ht1 : 1 ≤ t) (ht2 : t ≤ 5) (E : EntsOk (widN t true) l) (hn : n ≤ 32768) (hf1 : 1 ≤ f) (hkN : k0 ≤ N) (hk : k0 + nodN t n ≤ N) (hin : ∀ W, Below B w W → Only [93, 5, 35] w W → Sts entC W (.slice a l.length c) l) (hBw : B ≤ w.heap.size) :
    Calls Tryz.prog 29 #[.pointer (some ⟨ba, 0, none⟩), .int .i64 t, .slice a n c] w (TreePost B ba b g nn cc pa ca f N k0 bs t l w) := by
  subst hl; exact build_Tree B ba b g nn cc pa ca f N k0 bs t a c l w hC hA ht1 ht2 E hn hf1 hkN hk hin hBw
theorem build_Tree_noneN (B ba b g nn cc : Nat) (pa : Option Addr) (ca f N k0 : Nat) (bs : List UInt8) (t : Int) (a : Option Addr) (c : Nat) (l : List Ent) (n : Nat) (w : World) (hl : l.length = n) (hA : Al B ba b g nn cc pa ca f N k0 bs w) (ht1 : 1 ≤ t) (ht2 : t ≤ 5) (E : EntsOk (widN t true) l) (hn : n ≤ 32768) (hkN : k0 ≤ N) (hk : N < k0 + nodN t n) (h : Sts entC w (.slice a l.length c) l) :
    Calls Tryz.prog 29 #[.pointer (some ⟨ba, 0, none⟩), .int .i64 t, .slice a n c] w (Ret (.tuple #[.int .i64 0, .iface 38 (.int .i64 14)]) w) := by
  subst hl; exact build_Tree_none B ba b g nn cc pa ca f N k0 bs t a c l w hA ht1 ht2 E hn hkN hk h
theorem treeB_root {t : Int} {l : List Ent} {q : Nat} {bs : List UInt8} (hq : 1 ≤ q) : (treeB t l q bs).1 = ((q + nodN t l.length - 1 : Nat) : Int) := by
  have hp := ovN_pos l.length (maxN t true)
  have hg := levs_ge (ovN l.length (maxN t true))
  unfold treeB
  rw [treeUp_root (by rw [upE_len]; exact hp) (by rw [upE_len, upE_get (by omega)]; simp only [upX]; congr 1; omega) (by omega), upE_len]
  unfold nodN levL
  congr 1; omega
theorem ovN_6 {n m : Nat} (hm : 6 ≤ m) (hn : n ≤ 511) : ovN n m ≤ 86 := by
  unfold ovN
  have : (n + m - 1) / m ≤ 86 := by
    rw [Nat.div_le_iff_le_mul_add_pred (by omega)]
    have : 6 * 86 ≤ m * 86 := Nat.mul_le_mul_right 86 hm
    omega
  omega
theorem nodN_511 {t : Int} {n : Nat} (hn : n ≤ 511) : nodN t n ≤ 200 := by
  have hm : 6 ≤ maxN t true := by unfold maxN; repeat' split
                                  all_goals first | decide | simp_all
  have h1 := ovN_6 (m := maxN t true) hm hn
  have h2 := levs_sum (ovN_pos n (maxN t true))
  unfold nodN levL; omega
theorem and511 (x : Int) : ∃ n : Nat, IntKind.i64.wrap (↑(BitVec.ofInt 64 x &&& BitVec.ofInt 64 (511 : Int)).toNat : Int) = (n : Int) ∧ n ≤ 511 := by
  refine ⟨(BitVec.ofInt 64 x &&& BitVec.ofInt 64 (511 : Int)).toNat, ?_, ?_⟩
  · have h : (BitVec.ofInt 64 x &&& BitVec.ofInt 64 (511 : Int)).toNat ≤ 511 := by rw [BitVec.toNat_and]; exact Nat.and_le_right
    exact i64_nat (by omega)
  · rw [BitVec.toNat_and]; exact Nat.and_le_right
theorem nodN_2_13 : nodN 2 13 = 3 := by
  unfold nodN levL
  rw [show ovN 13 (maxN 2 true) = 2 from rfl, levs_more (by decide), show ovN 2 18 = 1 from rfl, levs_one (by decide)]; rfl
end Go.Proofs.YtbhjgcokpmiopaaGreatDoor
namespace Go.Proofs.YtbhjgcokpmiopaaGreatDoor
open Go.RowKit Go.Extern.Stop Go.Stop Go.Extern
set_option linter.unusedVariables false
attribute [local irreducible] wpList wpAnyH Code.wp Oper.wp Go

theorem tally_Split_ok (a : Option Addr) (c : Nat) (l : List Int) (w : World) (h : Sl w (.slice a l.length c) l.length (l.map (Value.int .i64))) (hl : l.length ≤ 65536) (hs : splitE l = 0) : Calls Tryz.prog 24 #[.slice a l.length c] w (fun e w' => ∃ pb cb gs po co, e = .returned (.tuple #[.slice pb (bmN l.length) cb, .slice po (overK l l.length).length co, .int .i64 0]) ∧ Below w.heap.size w w' ∧ Lists w' w.heap.size (.slice pb (bmN l.length) cb) gs (chunksI (smallL l) (bmN l.length)) ∧ w'.ownsRow w.heap.size 99 3 (.slice po (overK l l.length).length co) (overK l l.length).length ((overK l l.length).flatMap entC)) :=
  (tally_Split a c l w h hl).mono fun e w' q => (q.resolve_left fun z => z.1 hs).2
theorem plot_layDN (B ba b g nn cc : Nat) (pa : Option Addr) (ca f N k0 : Nat) (bs : List UInt8) (bl B2 : Nat) (pl : Option Addr) (cl : Nat) (gs : List (Nat × Nat)) (L : List (List Int)) (n : Nat) (hn : L.length = n) (w : World) (hC : AlC B ba nn cc ca f N) (hA : Al B ba b g nn cc pa ca f N k0 bs w) (hL : Lists w B2 (.slice pl n cl) gs L) (hS : ∀ i, i < L.length → Small (L.getD i []) ∧ (L.getD i []).length ≤ 960) (hf1 : 1 ≤ f) (hk : k0 + n ≤ N) (kl : Blk w bl [.slice none 0 0] 60) (hBl : B ≤ bl) (hBw : B ≤ w.heap.size) :
    Calls Tryz.prog 30 #[.pointer (some ⟨ba, 0, none⟩), .slice pl n cl, .func (.func 48) #[] #[.pointer (some ⟨bl, 0, none⟩)]] w (fun e w' => ∃ p c, e = .returned .nilIface ∧ Below B w w' ∧ Only [93, 5, 60, 99] w w' ∧ Fr ([ba, g] ++ [bl]) w w' ∧ Al B ba b g nn cc pa ca f N (k0 + n) (cntsB L (f + k0) bs n) w' ∧ Blk w' bl [.slice p n c] 60 ∧ w'.ownsRow w.heap.size 99 3 (.slice p n c) n ((slotsE L (f + k0) n).flatMap entC)) := by
  subst hn; exact plot_layD B ba b g nn cc pa ca f N k0 bs bl B2 pl cl gs L w hC hA hL hS hf1 hk kl hBl hBw
theorem chunks_small {l : List Int} (h : ∀ k, k < l.length → cntOk (l.getD k 0)) (n : Nat) : ∀ i, i < (chunksI (smallL l) n).length → Small ((chunksI (smallL l) n).getD i []) ∧ ((chunksI (smallL l) n).getD i []).length ≤ 960 := fun i hi => by
  rw [chunksI_len] at hi
  rw [chunksI_get hi]
  exact ⟨chunk_small (small_ok h) i, by rw [chunkI_len]; omega⟩
theorem own_keep {w W : World} {B ba b g nn cc : Nat} {pa : Option Addr} {ca f N k0 bl : Nat} {bs : List UInt8} {cs : List Value} {base n : Nat} {v : Value} {xs : List Value} (k : w.ownsRow base 99 3 v n xs) (hA : Al B ba b g nn cc pa ca f N k0 bs w) (kl : Blk w bl cs 60) (hX : Fr ([ba, g] ++ [bl]) w W) : W.ownsRow base 99 3 v n xs := own_fr k hX fun j hj hm => by
  obtain ⟨cs', kb⟩ := own_blk hA.data
  simp only [List.cons_append, List.nil_append, List.mem_cons, List.not_mem_nil, or_false] at hm
  rcases hm with h | h | h
  · exact own_ty_ne k hA.blkA (by decide) _ hj h
  · exact own_ty_ne k kb (by decide) _ hj h
  · exact own_ty_ne k kl (by decide) _ hj h
def DataP (B ba b g nn cc : Nat) (pa : Option Addr) (ca f N k0 : Nat) (bs : List UInt8) (l : List Int) (w : World) (e : Ending) (w' : World) : Prop :=
  e = .returned (.tuple #[.int .i64 (plotB l (f + k0) bs).1, .int .i64 (plotB l (f + k0) bs).2.1, .nilIface]) ∧ Below B w w' ∧ Only [93, 5, 60, 99, 35] w w' ∧ Fr [ba, g] w w' ∧ Al B ba b g nn cc pa ca f N (k0 + plotN l) (plotB l (f + k0) bs).2.2 w'
set_option maxRecDepth 100000 in
set_option maxHeartbeats 1000000 in
theorem size_Bitmaps (n : Nat) (w : World) (hn : n ≤ 65536) :
    Calls Tryz.prog 26 #[.int .i64 (↑n : Int)] w (Ret (.int .i64 (↑(bmN n) : Int)) w) := by
 refine zin 9 Tryz.func26 ?_
 refine xid 12 ((↑n : Int) < (1 : Int)) (fun hc1 => ?_) (fun hc1 => ?_)
 · exact xe 7 (.int .i64 0) ⟨by rw [show bmN n = 0 from by unfold bmN; omega]; rfl, (Below.refl w.heap.size _)⟩
 refine xwm 5 ((↑n : Int) - 1) (↑(n - 1) : Int) ?_
 refine xq 0 (congrArg (Value.int .i64) (show (IntKind.i64.wrap (Int.tdiv (↑(n - 1) : Int) 960) : Int) = (↑((n - 1) / 960) : Int) from quo_natB (n - 1) 960 (by omega) (by decide))) ?_
 refine xw 0 ((↑((n - 1) / 960) : Int) + 1) ?_
 exact xe 4 (.int .i64 ((↑((n - 1) / 960) : Int) + 1)) ⟨by rw [show bmN n = (n - 1) / 960 + 1 from by unfold bmN; omega, Int.natCast_add]; rfl, (Below.refl w.heap.size _)⟩
set_option maxRecDepth 100000 in
set_option maxHeartbeats 8000000 in
theorem plot_Data (B ba b g nn cc : Nat) (pa : Option Addr) (ca f N k0 : Nat) (bs : List UInt8) (a : Option Addr) (c : Nat) (l : List Int) (w : World) (hC : AlC B ba nn cc ca f N) (hA : Al B ba b g nn cc pa ca f N k0 bs w) (h : Sl w (.slice a l.length c) l.length (l.map (Value.int .i64))) (hl : l.length ≤ 3000) (hs : splitE l = 0) (hf1 : 1 ≤ f) (hkN : k0 ≤ N) (hk : k0 + plotN l ≤ N) (hBw : B ≤ w.heap.size) :
    Calls Tryz.prog 18 #[.pointer (some ⟨ba, 0, none⟩), .slice a l.length c] w (DataP B ba b g nn cc pa ca f N k0 bs l w) := by
 have hcf := hC.hf
 have hcn := hC.hn
 have hbd := plotN_bd hl
 have hsp := splitE_ok hs
 have hol := overK_len l l.length
 have hpn : plotN l = (bmN l.length) + nodN 4 (bmN l.length) + nodN 5 (overK l l.length).length := rfl
 have hn4 := nodN_le 4 (bmN l.length)
 have hn5 := nodN_le 5 (overK l l.length).length
 refine zin 70 Tryz.func18 ?_
 refine xr 11 (args := #[.pointer (some ⟨ba, 0, none⟩)]) (alloc_Image ba b _ _ _ hA.blkA) fun W1 hb1 => ?_
 refine xc 9 (args := #[.slice a l.length c]) (tally_Split_ok a c l _ (h.below hb1) (by omega) hs) ?_
 rintro _ W2 ⟨pb, cb, gs, po, co, rfl, hb2, hL, hov⟩
 have hs2 := (Bl.nextB (Below.refl B w) hBw hb1).size
 have hA'1 := (hA.below hb1).below hb2
 refine xr 23 (args := #[.pointer (some ⟨ba, 0, none⟩)]) (alloc_Left ba b pa N ca k0 _ hA'1.blkA hkN) fun W3 hb3 => ?_
 refine xr 4 (args := #[.int .i64 4, .int .i64 (↑(bmN l.length) : Int)]) (tall_Nodes 4 (bmN l.length) _ (by decide) (by decide) (by omega)) fun W4 hb4 => ?_
 refine xwm 0 ((↑(bmN l.length) : Int) + (↑(nodN 4 (bmN l.length)) : Int)) (↑((bmN l.length) + (nodN 4 (bmN l.length))) : Int) ?_
 refine xr 2 (args := #[.int .i64 5, .int .i64 (↑((overK l l.length).length) : Int)]) (tall_Nodes 5 (overK l l.length).length _ (by decide) (by decide) (by omega)) fun W5 hb5 => ?_
 refine xwm 0 ((↑((bmN l.length) + (nodN 4 (bmN l.length))) : Int) + (↑(nodN 5 (overK l l.length).length) : Int)) (↑(((bmN l.length) + (nodN 4 (bmN l.length))) + (nodN 5 (overK l l.length).length)) : Int) ?_
 refine xk 3 (show (decide ((↑(N - k0) : Int) < (↑(((bmN l.length) + (nodN 4 (bmN l.length))) + (nodN 5 (overK l l.length).length)) : Int)) : Bool) = false from decide_eq_false (by omega)) ?_
 refine xa 4 [.slice none 0 0] 60 fun b6 W6 n6 => ?_
 have hX := (((((show Fr [ba, g] w _ from (Fr.of_below hb1)).trans (Fr.of_below hb2)).trans (Fr.of_below hb3)).trans (Fr.of_below hb4)).trans (Fr.of_below hb5)).trans (Fr.of_below n6.below)
 have hov'1 := own_below (own_below (own_below (own_below (own_mono hov hs2) hb3) hb4) hb5) n6.below
 have hA'2 := (((hA'1.below hb3).below hb4).below hb5).below n6.below
 have hovk := fun (W : World) (hX : Fr ([ba, g] ++ [b6]) _ W) => own_keep hov'1 hA'2 n6.blk hX
 have hL'1 := (((hL.below hb3).below hb4).below hb5).below n6.below
 have g6 := n6.ge0 (Bl.nextB (Bl.nextB (Bl.nextB (Bl.nextB (Bl.nextB (Below.refl B w) hBw hb1) hBw hb2) hBw hb3) hBw hb4) hBw hb5)
 have hB := Bl.nextB (Bl.nextB (Bl.nextB (Bl.nextB (Bl.nextB (Bl.nextB (Below.refl B w) hBw hb1) hBw hb2) hBw hb3) hBw hb4) hBw hb5) hBw n6.below
 refine xc 8 (args := #[.pointer (some ⟨ba, 0, none⟩), .slice pb (bmN l.length) cb, .func (.func 48) #[] #[.pointer (some ⟨b6, 0, none⟩)]]) (plot_layDN B ba b g nn cc pa ca f N k0 bs b6 _ pb cb gs (chunksI (smallL l) (bmN l.length)) (bmN l.length) (chunksI_len _ _) _ hC hA'2 hL'1 (chunks_small hsp.2 _) hf1 (by omega) n6.blk (Nat.le_trans hBw g6) (Nat.le_trans hBw hB.size)) ?_
 rintro _ W7 ⟨p8, c8, rfl, hb7, hO7, hX7, hA, kln, hup⟩
 have hs7 := (Bl.nextB (Bl.nextB (Bl.nextB (Bl.nextB (Bl.nextB (Bl.nextB (Below.refl B w) hBw hb1) hBw hb2) hBw hb3) hBw hb4) hBw hb5) hBw n6.below).size
 replace hov := hovk _ hX7
 refine xb 15 0 kln ?_
 have hup'1 := own_mono hup hs7
 have hB'1 := hB.trans hb7
 refine xc 0 (args := #[.pointer (some ⟨ba, 0, none⟩), .int .i64 4, .slice p8 (bmN l.length) c8]) (build_TreeN B ba b g nn cc pa ca f N (k0 + (bmN l.length)) (cntsB (chunksI (smallL l) (bmN l.length)) (f + k0) bs (bmN l.length)) 4 p8 c8 (slotsE (chunksI (smallL l) (bmN l.length)) (f + k0) (bmN l.length)) (bmN l.length) _ (slotsE_len _ _ _) hC hA (by decide) (by decide) (slots_ents _ _ _ (by omega)) (by omega) hf1 (by omega) (by omega) (fun W _ h2 => by unfold Sts; rw [slotsE_len]; exact own_sl (own_only hup'1 h2 (by decide))) (Nat.le_trans hBw hB'1.size)) ?_
 rintro _ W8 ⟨rfl, hb8, hO8, hX8, hA⟩
 rw [slotsE_len] at hA
 have hov'2 := own_only hov hO8 (by decide)
 have hB'2 := hB'1.trans hb8
 refine xc 21 (args := #[.pointer (some ⟨ba, 0, none⟩), .int .i64 5, .slice po ((overK l l.length).length) co]) (build_TreeN B ba b g nn cc pa ca f N (k0 + (bmN l.length) + nodN 4 (bmN l.length)) (treeB 4 (slotsE (chunksI (smallL l) (bmN l.length)) (f + k0) (bmN l.length)) (f + (k0 + (bmN l.length))) (cntsB (chunksI (smallL l) (bmN l.length)) (f + k0) bs (bmN l.length))).2 5 po co (overK l l.length) (overK l l.length).length _ rfl hC hA (by decide) (by decide) (over_ents _ _ (by omega)) (by omega) hf1 (by omega) (by omega) (fun W _ h2 => own_sl (own_only hov'2 h2 (by decide))) (Nat.le_trans hBw hB'2.size)) ?_
 rintro _ W9 ⟨rfl, hb9, hO9, hX9, hA⟩
 have hB'3 := hB'2.trans hb9
 have hO := ((((((((show Only [93, 5, 60, 99, 35] w _ from (Only.of_below hb1)).trans (Only.of_below hb2)).trans (Only.of_below hb3)).trans (Only.of_below hb4)).trans (Only.of_below hb5)).trans (Only.of_below n6.below)).trans (hO7.wide)).trans (hO8.wide)).trans (hO9.wide)
 have hX'1 := ((Fr.trans_new hX hX7 g6).trans (hX8.mono (by simp))).trans (hX9.mono (by simp))
 refine xe 27 (.tuple #[.int .i64 ((treeB 4 (slotsE (chunksI (smallL l) (bmN l.length)) (f + k0) (bmN l.length)) (f + (k0 + (bmN l.length))) (cntsB (chunksI (smallL l) (bmN l.length)) (f + k0) bs (bmN l.length))).1), .int .i64 ((treeB 5 (overK l l.length) (f + (k0 + (bmN l.length) + nodN 4 (bmN l.length))) (treeB 4 (slotsE (chunksI (smallL l) (bmN l.length)) (f + k0) (bmN l.length)) (f + (k0 + (bmN l.length))) (cntsB (chunksI (smallL l) (bmN l.length)) (f + k0) bs (bmN l.length))).2).1), .nilIface]) ?_
 have e1 : f + (k0 + (bmN l.length)) = f + k0 + (bmN l.length) := by omega
 have e2 : f + (k0 + (bmN l.length) + nodN 4 (bmN l.length)) = f + k0 + (bmN l.length) + nodN 4 (bmN l.length) := by omega
 rw [e2, e1] at hA ⊢
 have e3 : k0 + (bmN l.length) + nodN 4 (bmN l.length) + nodN 5 (overK l l.length).length = k0 + plotN l := by omega
 rw [e3] at hA
 exact ⟨rfl, hB'3, hO, hX'1, hA⟩
set_option maxRecDepth 100000 in
set_option maxHeartbeats 8000000 in
theorem plot_Data_none (B ba b g nn cc : Nat) (pa : Option Addr) (ca f N k0 : Nat) (bs : List UInt8) (a : Option Addr) (c : Nat) (l : List Int) (w : World) (hC : AlC B ba nn cc ca f N) (hA : Al B ba b g nn cc pa ca f N k0 bs w) (h : Sl w (.slice a l.length c) l.length (l.map (Value.int .i64))) (hl : l.length ≤ 3000) (hs : splitE l = 0) (hf1 : 1 ≤ f) (hkN : k0 ≤ N) (hk : N < k0 + plotN l) (hBw : B ≤ w.heap.size) :
    Calls Tryz.prog 18 #[.pointer (some ⟨ba, 0, none⟩), .slice a l.length c] w (Ret (.tuple #[.int .i64 0, .int .i64 0, .iface 38 (.int .i64 14)]) w) := by
 have hcf := hC.hf
 have hcn := hC.hn
 have hbd := plotN_bd hl
 have hsp := splitE_ok hs
 have hol := overK_len l l.length
 have hpn : plotN l = (bmN l.length) + nodN 4 (bmN l.length) + nodN 5 (overK l l.length).length := rfl
 have hn4 := nodN_le 4 (bmN l.length)
 have hn5 := nodN_le 5 (overK l l.length).length
 refine zin 70 Tryz.func18 ?_
 refine xr 11 (args := #[.pointer (some ⟨ba, 0, none⟩)]) (alloc_Image ba b _ _ _ hA.blkA) fun W1 hb1 => ?_
 refine xc 9 (args := #[.slice a l.length c]) (tally_Split_ok a c l _ (h.below hb1) (by omega) hs) ?_
 rintro _ W2 ⟨pb, cb, gs, po, co, rfl, hb2, hL, hov⟩
 have hA'1 := (hA.below hb1).below hb2
 refine xr 23 (args := #[.pointer (some ⟨ba, 0, none⟩)]) (alloc_Left ba b pa N ca k0 _ hA'1.blkA hkN) fun W3 hb3 => ?_
 refine xr 4 (args := #[.int .i64 4, .int .i64 (↑(bmN l.length) : Int)]) (tall_Nodes 4 (bmN l.length) _ (by decide) (by decide) (by omega)) fun W4 hb4 => ?_
 refine xwm 0 ((↑(bmN l.length) : Int) + (↑(nodN 4 (bmN l.length)) : Int)) (↑((bmN l.length) + (nodN 4 (bmN l.length))) : Int) ?_
 refine xr 2 (args := #[.int .i64 5, .int .i64 (↑((overK l l.length).length) : Int)]) (tall_Nodes 5 (overK l l.length).length _ (by decide) (by decide) (by omega)) fun W5 hb5 => ?_
 refine xwm 0 ((↑((bmN l.length) + (nodN 4 (bmN l.length))) : Int) + (↑(nodN 5 (overK l l.length).length) : Int)) (↑(((bmN l.length) + (nodN 4 (bmN l.length))) + (nodN 5 (overK l l.length).length)) : Int) ?_
 refine xk 3 (show (decide ((↑(N - k0) : Int) < (↑(((bmN l.length) + (nodN 4 (bmN l.length))) + (nodN 5 (overK l l.length).length)) : Int)) : Bool) = true from decide_eq_true (by omega)) ?_
 have hB := Bl.next (Bl.next (Bl.next (Bl.next hb1 hb2) hb3) hb4) hb5
 exact xe 10 (.tuple #[.int .i64 0, .int .i64 0, .iface 38 (.int .i64 14)]) ⟨rfl, hB⟩
end Go.Proofs.YtbhjgcokpmiopaaGreatDoor
namespace Go.Proofs.YtbhjgcokpmiopaaGreatDoor
open Go.RowKit Go.Extern.Stop Go.Stop Go.Extern
set_option linter.unusedVariables false
attribute [local irreducible] wpList wpAnyH Code.wp Oper.wp Go

set_option maxRecDepth 100000 in
set_option maxHeartbeats 1000000 in
theorem plot_Meta_nil (x : Value) (w : World) :
    Calls Tryz.prog 8 #[.pointer none, x] w (Ret (.tuple #[.int .i64 0, .int .i64 0, .iface 38 (.int .i64 18)]) w) := by
 refine zin 120 Tryz.func8 ?_
 refine xr 10 (args := #[.pointer none]) (alloc_Image_nil _) fun W1 hb1 => ?_
 exact xe 21 (.tuple #[.int .i64 0, .int .i64 0, .iface 38 (.int .i64 18)]) ⟨rfl, hb1⟩
set_option maxRecDepth 100000 in
set_option maxHeartbeats 1000000 in
theorem plot_Meta_len (B ba b g nn cc : Nat) (pa : Option Addr) (ca f N k0 : Nat) (bs : List UInt8) (a : Option Addr) (c : Nat) (l : List Int) (w : World) (hC : AlC B ba nn cc ca f N) (hA : Al B ba b g nn cc pa ca f N k0 bs w) (h : Sl w (.slice a l.length c) l.length (l.map (Value.int .i64))) (hl : l.length ≤ 3000) (hlen : l.length ≠ nn / 256) :
    Calls Tryz.prog 8 #[.pointer (some ⟨ba, 0, none⟩), .slice a l.length c] w (Ret (.tuple #[.int .i64 0, .int .i64 0, .iface 38 (.int .i64 1)]) w) := by
 refine zin 120 Tryz.func8 ?_
 refine xr 10 (args := #[.pointer (some ⟨ba, 0, none⟩)]) (alloc_Image ba b _ _ _ hA.blkA) fun W1 hb1 => ?_
 have hA'1 := hA.below hb1
 refine xr 19 (args := #[.pointer (some ⟨b, 0, none⟩)]) (image_Blocks b _ nn cc _ hA'1.blkI (by have := hC.hn; omega)) fun W2 hb2 => ?_
 refine xk 3 (show (((↑l.length : Int) != (↑(nn / 256) : Int)) : Bool) = true from by simp; omega) ?_
 have hB := Bl.next hb1 hb2
 exact xe 10 (.tuple #[.int .i64 0, .int .i64 0, .iface 38 (.int .i64 1)]) ⟨rfl, hB⟩
set_option maxRecDepth 100000 in
set_option maxHeartbeats 1000000 in
theorem plot_Meta_bad (B ba b g nn cc : Nat) (pa : Option Addr) (ca f N k0 : Nat) (bs : List UInt8) (a : Option Addr) (c : Nat) (l : List Int) (w : World) (hC : AlC B ba nn cc ca f N) (hA : Al B ba b g nn cc pa ca f N k0 bs w) (h : Sl w (.slice a l.length c) l.length (l.map (Value.int .i64))) (hl : l.length ≤ 3000) (hlen : l.length = nn / 256) (hs : splitE l ≠ 0) :
    Calls Tryz.prog 8 #[.pointer (some ⟨ba, 0, none⟩), .slice a l.length c] w (Ret (.tuple #[.int .i64 0, .int .i64 0, .iface 38 (.int .i64 2)]) w) := by
 refine zin 120 Tryz.func8 ?_
 refine xr 10 (args := #[.pointer (some ⟨ba, 0, none⟩)]) (alloc_Image ba b _ _ _ hA.blkA) fun W1 hb1 => ?_
 have hA'1 := hA.below hb1
 refine xr 19 (args := #[.pointer (some ⟨b, 0, none⟩)]) (image_Blocks b _ nn cc _ hA'1.blkI (by have := hC.hn; omega)) fun W2 hb2 => ?_
 refine xk 3 (show (((↑l.length : Int) != (↑(nn / 256) : Int)) : Bool) = false from by rw [hlen]; simp) ?_
 have hB := Bl.next hb1 hb2
 refine xr 5 (args := #[.slice a l.length c]) ((tally_Split a c l _ (h.below hB) (by omega)).mono (fun _ _ q => (q.resolve_right (fun z => hs z.1)).2)) fun W3 hb3 => ?_
 have hB'1 := Bl.next hB hb3
 exact xe 28 (.tuple #[.int .i64 0, .int .i64 0, .iface 38 (.int .i64 2)]) ⟨rfl, hB'1⟩
set_option maxRecDepth 100000 in
set_option maxHeartbeats 1000000 in
theorem plot_Meta_none (B ba b g nn cc : Nat) (pa : Option Addr) (ca f N k0 : Nat) (bs : List UInt8) (a : Option Addr) (c : Nat) (l : List Int) (w : World) (hC : AlC B ba nn cc ca f N) (hA : Al B ba b g nn cc pa ca f N k0 bs w) (h : Sl w (.slice a l.length c) l.length (l.map (Value.int .i64))) (hl : l.length ≤ 3000) (hlen : l.length = nn / 256) (hs : splitE l = 0) (hkN : k0 ≤ N) (hk : N < k0 + needM l) :
    Calls Tryz.prog 8 #[.pointer (some ⟨ba, 0, none⟩), .slice a l.length c] w (Ret (.tuple #[.int .i64 0, .int .i64 0, .iface 38 (.int .i64 14)]) w) := by
 have hol := overK_len l l.length
 have hpn : needM l = (nodN 5 (overK l l.length).length) + (bmN l.length) + 1 := rfl
 have hn5 := nodN_le 5 (overK l l.length).length
 have hnb : bmN l.length ≤ 4 := by unfold bmN; omega
 refine zin 120 Tryz.func8 ?_
 refine xr 10 (args := #[.pointer (some ⟨ba, 0, none⟩)]) (alloc_Image ba b _ _ _ hA.blkA) fun W1 hb1 => ?_
 have hA'1 := hA.below hb1
 refine xr 19 (args := #[.pointer (some ⟨b, 0, none⟩)]) (image_Blocks b _ nn cc _ hA'1.blkI (by have := hC.hn; omega)) fun W2 hb2 => ?_
 refine xk 3 (show (((↑l.length : Int) != (↑(nn / 256) : Int)) : Bool) = false from by rw [hlen]; simp) ?_
 have hB := Bl.next hb1 hb2
 refine xc 5 (args := #[.slice a l.length c]) (tally_Split_ok a c l _ (h.below hB) (by omega) hs) ?_
 rintro _ W3 ⟨pb, cb, gs, po, co, rfl, hb3, _, _⟩
 refine xr 23 (args := #[.int .i64 5, .int .i64 (↑((overK l l.length).length) : Int)]) (tall_Nodes 5 (overK l l.length).length _ (by decide) (by decide) (by omega)) fun W4 hb4 => ?_
 refine xr 2 (args := #[.int .i64 (↑l.length : Int)]) (size_Bitmaps l.length _ (by omega)) fun W5 hb5 => ?_
 refine xwm 0 ((↑(nodN 5 (overK l l.length).length) : Int) + (↑(bmN l.length) : Int)) (↑((nodN 5 (overK l l.length).length) + (bmN l.length)) : Int) ?_
 refine xwm 0 ((↑((nodN 5 (overK l l.length).length) + (bmN l.length)) : Int) + 1) (↑(((nodN 5 (overK l l.length).length) + (bmN l.length)) + 1) : Int) ?_
 have hA'2 := (((hA'1.below hb2).below hb3).below hb4).below hb5
 refine xr 7 (args := #[.pointer (some ⟨ba, 0, none⟩)]) (alloc_Left ba b pa N ca k0 _ hA'2.blkA hkN) fun W6 hb6 => ?_
 refine xk 4 (show (decide ((↑(N - k0) : Int) < (↑(((nodN 5 (overK l l.length).length) + (bmN l.length)) + 1) : Int)) : Bool) = true from decide_eq_true (by omega)) ?_
 have hB'1 := Bl.next (Bl.next (Bl.next (Bl.next hB hb3) hb4) hb5) hb6
 exact xe 10 (.tuple #[.int .i64 0, .int .i64 0, .iface 38 (.int .i64 14)]) ⟨rfl, hB'1⟩
end Go.Proofs.YtbhjgcokpmiopaaGreatDoor
namespace Go.Proofs.YtbhjgcokpmiopaaGreatDoor
open Go.RowKit Go.Extern.Stop Go.Stop Go.Extern
set_option linter.unusedVariables false
attribute [local irreducible] wpList wpAnyH Code.wp Oper.wp Go

structure Sin (w W : World) : Prop where
  b : Below w.heap.size w W
theorem Sin.below {w W V : World} (h : Sin w W) (hb : Below W.heap.size W V) : Sin w V := ⟨Bl.next h.b hb⟩
theorem Sin.trans {w W V : World} (h : Sin w W) (hb : Below w.heap.size W V) : Sin w V := ⟨h.b.trans hb⟩
theorem Sin.upd {w W V : World} {b : Nat} (h : Sin w W) (u : Upd W b V) (hb : w.heap.size ≤ b) : Sin w V := ⟨u.below h.b hb⟩
def RMetaP (B bc bm : Nat) (pg : Option Addr) (N cg f k0 : Nat) (p : Option Addr) (K c : Nat) (bs : List UInt8) (l : List Int) (w : World) (e : Ending) (w' : World) : Prop :=
  ∃ fa m fc, e = .returned (.tuple #[.int .i64 (metaB l f k0 bs).1, .int .i64 (metaB l f k0 bs).2.1, .agg #[.slice none 0 0, .int .i64 0]]) ∧ Below B w w' ∧ Only [47, 9] w w' ∧ RAl B bc bm pg N cg fa m fc (k0 + needM l) (rngJ f N) w' ∧ RefI B bm p K c (metaB l f k0 bs).2.2 w'
theorem rs_ok {L : List (List Int)} {q n : Nat} (hS : ∀ i, i < L.length → Small (L.getD i []) ∧ (L.getD i []).length ≤ 960) (hn : L.length = n) (h1 : 1 ≤ q) (h2 : q + n ≤ 14400) (h3 : n ≤ 14) : SlotsOk (Rs L q n) := by
  refine ⟨by rw [Rs_len]; exact h3, fun i hi => ?_⟩
  rw [Rs_len] at hi
  rw [Rs_get hi]
  have hc := (hS i (by omega)).2
  exact ⟨by show 1 ≤ q + i; omega, by show q + i ≤ 14399; omega, Nat.le_trans (freeK_le _ _) hc, Nat.le_trans (firstN_le _) hc⟩
theorem ref10_PutN (n : Nat) (a : Option Addr) (c : Nat) (S : List (Nat × Nat × Nat)) (w : World) (hn : S.length = n) (hS : SlotsOk S) (h : Sts rsC w (.slice a S.length c) S) : Calls Tryz.prog 41 #[.slice a n c] w (RetS (fun w' r => ∃ b c, r = .tuple #[.slice (some ⟨b, 0, none⟩) (idxB S).length c, .int .i64 0] ∧ KeptB w' (.slice (some ⟨b, 0, none⟩) (idxB S).length c) (idxB S)) w) := by
  subst hn; exact ref10_Put a c S w hS h
set_option maxRecDepth 100000 in
set_option maxHeartbeats 8000000 in
theorem ref22_Meta (B bc bm : Nat) (pg : Option Addr) (N cg : Nat) (fa : Option Addr) (mf fc f k0 : Nat) (p : Option Addr) (K cI : Nat) (bs : List UInt8) (a : Option Addr) (c : Nat) (l : List Int) (w : World) (hR : RAl B bc bm pg N cg fa mf fc k0 (rngJ f N) w) (h : Sl w (.slice a l.length c) l.length (l.map (Value.int .i64))) (hl : l.length ≤ 3000) (hs : splitE l = 0) (hlen : l.length = K) (hk : k0 + needM l ≤ N) (hf : f + N ≤ K) (hf1 : 1 ≤ f) (hfree : FreeOk l (f : Int)) (hfree2 : FreeOk l ((f + k0 : Nat) : Int)) (hJ : RefI B bm p K cI bs w) (hBw : B ≤ w.heap.size) :
    Calls Tryz.prog 11 #[.pointer (some ⟨bc, 0, none⟩), .slice a l.length c] w (RMetaP B bc bm pg N cg f k0 p K cI bs l w) := by
 have hW : Sin w w := ⟨Below.refl _ _⟩
 have hsp := splitE_ok hs
 have hol := overK_len l l.length
 have hpn : needM l = (nodN 5 (overK l l.length).length) + (bmN l.length) + 1 := rfl
 have hn5 := nodN_le 5 (overK l l.length).length
 have hRm := hR.hm
 have hnb : bmN l.length ≤ 4 := by unfold bmN; omega
 have hsB : splitE (bumpL l (f + k0) (needM l)) = 0 := by unfold splitE; rw [if_neg (by rw [bumpL_len]; omega), if_pos (bumpL_ok hfree2 hsp.2)]
 have hcs := chunks_smallR (bumpL_ok (n := needM l) hfree2 hsp.2) (bmN l.length)
 refine zin 113 Tryz.func11 ?_
 refine xa 4 [.slice none 0 0, .int .i64 0] 31 fun b1 W1 n1 => ?_
 have hW'1 := hW.below n1.below
 refine xl 10 ((hR.below hW'1.b).blk.cell (i := 0) rfl) ?_
 refine xl 2 ((hJ.below hW'1.b).blk.cell (i := 0) rfl) ?_
 refine xk 4 (show (((↑l.length : Int) != (↑K : Int)) : Bool) = false from by rw [hlen]; simp) ?_
 refine xc 5 (args := #[.slice a l.length c]) (ref21_SplitN l.length a c l _ rfl (Sl.below h hW'1.b) (by omega) hs) ?_
 rintro _ W2 ⟨pb0, cb0, gs0, po, co, rfl, hb2, hL0, hov⟩
 have hs2 := (Bl.nextB (Below.refl B w) hBw n1.below).size
 refine xr 23 (args := #[.int .i64 5, .int .i64 (↑((overK l l.length).length) : Int)]) (ref15_Nodes 5 (overK l l.length).length _ (by decide) (by decide) (by omega)) fun W3 hb3 => ?_
 refine xr 2 (args := #[.int .i64 (↑l.length : Int)]) (ref20_Bitmaps l.length _ (by omega)) fun W4 hb4 => ?_
 refine xwm 0 ((↑(nodN 5 (overK l l.length).length) : Int) + (↑(bmN l.length) : Int)) (↑((nodN 5 (overK l l.length).length) + (bmN l.length)) : Int) ?_
 refine xwm 0 ((↑((nodN 5 (overK l l.length).length) + (bmN l.length)) : Int) + 1) (↑(((nodN 5 (overK l l.length).length) + (bmN l.length)) + 1) : Int) ?_
 have hW'2 := ((hW'1.below hb2).below hb3).below hb4
 refine xl 9 ((hR.below hW'2.b).blk.cell (i := 1) rfl) ?_
 refine xk 5 (show (decide ((↑mf : Int) < (↑(((nodN 5 (overK l l.length).length) + (bmN l.length)) + 1) : Int)) : Bool) = false from decide_eq_false (by omega)) ?_
 refine xb0 4 3 fun b5 W5 n5 => ?_
 have o5 := own_of_blk (size := 1) (n := 0) n5.blk (n5.ge0 (Bl.nextB (Bl.nextB (Bl.nextB (Bl.nextB (Below.refl B w) hBw n1.below) hBw hb2) hBw hb3) hBw hb4)) rfl (by decide)
 have hW'3 := hW'2.below n5.below
 have hB := Bl.nextB (Bl.nextB (Bl.nextB (Bl.nextB (Bl.nextB (Below.refl B w) hBw n1.below) hBw hb2) hBw hb3) hBw hb4) hBw n5.below
 refine xbi 1 fun _ _ _ _ zJ zQ zo zx zy zK => op_app (m := l.length) (news := (l.map (Value.int .i64))) (.int .i64 0) 1 8 (l.length) ((l.map (Value.int .i64))) zo Tryz.underlying22 (by kernel_rfl) rfl (by decide) zx o5 zy (Sl.below h hW'3.b) (by simp) (ints_one _) (by unfold maxLen; omega) (by omega) hB.size (by omega) (by rfl) fun px6 cx6 W6 o6 hg6 hb6 => ?_
 refine zK _ _ ?_
 have hW'4 := hW'3.trans hb6
 have hsw := hW'4.b.size
 have hbm0 := o6
 refine xc 7 (args := #[.pointer (some ⟨bc, 0, none⟩), .int .i64 (↑(((nodN 5 (overK l l.length).length) + (bmN l.length)) + 1) : Int)]) (ref_AheadN (needM l) B bc bm pg N cg fa mf fc k0 (rngJ f N) _ (hR.below hW'4.b) (by omega) (by omega)) ?_
 rintro _ W7 ⟨_, rfl, hb7, qa, ca, rfl, hah0⟩
 have hs7 := (hB.trans (hb6.mono hBw)).size
 have hAp := Apart.of_lt hbm0 hah0 (Nat.le_refl _)
 have hah := own_mono hah0 hsw
 have o6'1 := own_below o6 hb7
 obtain ⟨gb, rfl, hgc⟩ := own_someN o6'1 (by omega)
 have hov'1 := own_below (own_grown (own_below (own_below (own_below (own_mono hov hs2) hb3) hb4) n5.below) hg6 o5 (by decide)) hb7
 have hW'5 := hW'4.below hb7
 have hB'1 := Bl.nextB (hB.trans (hb6.mono hBw)) hBw hb7
 have hO := (Only.grown_new (((((show Only [47, 9] w _ from (Only.of_below n1.below)).trans (Only.of_below hb2)).trans (Only.of_below hb3)).trans (Only.of_below hb4)).trans (Only.of_below n5.below)) hg6 o5).trans (Only.of_below hb7)
 have k1 := (((((n1.blk.below hb2).below hb3).below hb4).below n5.below).grown hg6 o5 (by decide)).below hb7
 refine zl 10 113 (fun zm zkv V => ∃ (i : Nat), zkv = [(0, .pointer (some ⟨bc, 0, none⟩)), (4, .int .i64 0), (5, .int .i64 0), (6, .pointer (some ⟨b1, 0, none⟩)), (8, .slice po ((overK l l.length).length) co), (10, .int .i64 (↑(((nodN 5 (overK l l.length).length) + (bmN l.length)) + 1) : Int)), (11, .slice (some ⟨gb, 0, none⟩) l.length cx6), (12, .slice qa (needM l) ca), (13, .int .i64 (↑i : Int))] ∧ zm = needM l - ((↑i : Int)).toNat ∧ Below B w V ∧ Only [47, 9] w V ∧ Blk V b1 ([.slice none 0 0, .int .i64 0]) 31 ∧ V.ownsRow w.heap.size 3 1 (.slice (some ⟨gb, 0, none⟩) l.length cx6) l.length ((bumpL l (f + k0) i).map (Value.int .i64)) ∧ V.ownsRow w.heap.size 3 1 (.slice qa (needM l) ca) (needM l) ((((rngJ f N).drop k0).take (needM l)).map (Value.int .i64)) ∧ V.ownsRow w.heap.size 99 3 (.slice po ((overK l l.length).length) co) ((overK l l.length).length) ((overK l l.length).flatMap entC) ∧ Sin w V ∧ i ≤ needM l) ⟨0, rfl, rfl, hB'1, hO, k1, (by rw [bumpL_zero]; exact o6'1), hah, hov'1, hW'5, Nat.zero_le _⟩ ?_
 rintro _ _ W8 ⟨i, rfl, rfl, hB_8, hO_8, k8_b1, hbm, hah, hov, hW, hi⟩ J8 hJ8 r8
 have hz0 : i < needM l → l.getD (f + k0 + i) 0 = 0 := fun q => (hfree (f + k0 + i) (by omega)).1 (by omega)
 refine xid 8 ((↑i : Int) < (↑(((nodN 5 (overK l l.length).length) + (bmN l.length)) + 1) : Int)) (fun hc9 => ?_) (fun hc9 => ?_)
 · refine xx 8 _ (needM l) i 1 (ahead_elem (own_sl hah) (by omega) (i := i) (by omega)).1 ?_
   refine xl 0 ((ahead_elem (own_sl hah) (by omega) (i := i) (by omega)).2) ?_
   refine xx 0 _ l.length (f + k0 + i) 1 (bump_elem (own_sl hbm) rfl (q := f + k0) (i := i) (by omega)).1 ?_
   refine xl 0 ((bump_elem (own_sl hbm) rfl (q := f + k0) (i := i) (by omega)).2) ?_
   refine xw 0 ((l.getD (f + k0 + i) 0) + 1) ?_
   refine xx 0 _ l.length (f + k0 + i) 1 (bump_elem (own_sl hbm) rfl (q := f + k0) (i := i) (by omega)).1 ?_
   refine xst 0 fun _ _ _ _ zJ zQ zo zx zy zK => op_storeRow (t := 3) (k := (f + k0 + i)) (v := .int .i64 ((l.getD (f + k0 + i) 0) + 1)) zo zx zy (by kernel_rfl) rfl hbm (by omega) fun W10 u10 o10 => ?_
   rw [bumpL_set (l := l) (f := f + k0) (j := i) (by omega)] at o10
   refine zK _ _ ?_
   refine xwm 5 ((↑i : Int) + 1) (↑(i + 1) : Int) ?_
   have hB'2 := u10.below hB_8 (Nat.le_trans hBw (own_ge hbm))
   have hO'1 := (Only.upd_new hO_8 u10 (own_ge hbm))
   have k8_b1'1 := u10.blk k8_b1 (own_blk_ne k8_b1 hbm (by decide))
   have hah'1 := u10.own3 hah (fun j hj e => hAp _ rfl (e ▸ hj))
   have hov'2 := u10.ownRow hov hbm (by decide)
   have hW'6 := hW.upd u10 (own_ge hbm)
   exact ze 2 (hJ8 _ _ _ ⟨i + 1, rfl, rfl, hB'2, hO'1, k8_b1'1, o10, hah'1, hov'2, hW'6, by omega⟩ (by omega))
 refine xc 9 (args := #[.pointer (some ⟨bc, 0, none⟩), .int .i64 5, .slice po ((overK l l.length).length) co]) (ref17_TreeN B bc bm pg N cg _ _ _ f k0 p K cI bs 5 po co (overK l l.length).length (overK l l.length) _ rfl (hR.below hW.b) (by omega) (by decide) (by decide) (over_ents _ _ (by omega)) (by omega) hf (hJ.below hW.b) (fun W _ h2 => own_sl (own_only hov h2 (by decide))) (Nat.le_trans hBw hB_8.size)) ?_
 rintro _ W11 ⟨fa4, mf4, fc4, rfl, hb11, hO11, hR2, hJ2⟩
 refine xa 3 [.slice none 0 0, .int .i64 0] 31 fun b12 W12 n12 => ?_
 have k8_b1'2 := k8_b1.only hO11 (by decide)
 have d12_b1 := n12.ne k8_b1'2
 have hB'3 := hB_8.trans hb11
 have g12 := n12.ge0 hB'3
 refine xsv 1 n12.blk [.slice none 0 0, .int .i64 0] fun W13 u13 k13 => ?_
 have hbm'1 := u13.own2 (own_below (own_only hbm hO11 (by decide)) n12.below) n12.blk (by decide)
 refine xc 5 (args := #[.slice (some ⟨gb, 0, none⟩) l.length cx6]) (ref21_SplitN l.length (some ⟨gb, 0, none⟩) cx6 (bumpL l (f + k0) (needM l)) _ (bumpL_len _ _ _) (by have hh := own_sl hbm'1; rw [show i = needM l by omega] at hh; exact hh) (by omega) hsB) ?_
 rintro _ W14 ⟨pb, cb, gs, po3, co3, rfl, hb14, hL, hov3⟩
 have hR2'1 := ((hR2.below n12.below).only (Only.of_upd (T := [31]) u13 n12.blk (by decide)) (by decide)).below hb14
 have hJ2'1 := ((hJ2.below n12.below).only (Only.of_upd (T := [31]) u13 n12.blk (by decide)) (by decide)).below hb14
 have hB'4 := Bl.nextB (u13.below (Bl.nextB hB'3 hBw n12.below) (Nat.le_trans hBw g12)) hBw hb14
 refine xc 23 (args := #[.pointer (some ⟨bc, 0, none⟩), .slice pb (bmN l.length) cb]) (ref22_layN (bmN l.length) B bc bm pg N cg _ _ _ f (k0 + (nodN 5 (overK l l.length).length)) p K cI (treeB 5 (overK l l.length) (f + k0) bs).2 _ pb cb gs (chunksI (smallL (bumpL l (f + k0) (needM l))) (bmN l.length)) _ (chunksI_len _ _) hR2'1 hJ2'1 hL hcs hf (by omega) (by omega) (Nat.le_trans hBw hB'4.size)) ?_
 rintro _ W15 ⟨a8, c8, fa2, mf2, fc2, rfl, hb15, hO15, hR2, hJ2, hsl⟩
 have hs15 := (Bl.nextB (u13.below (Bl.nextB hB'3 hBw n12.below) (Nat.le_trans hBw g12)) hBw hb14).size
 have hsl'1 := own_mono hsl hs15
 refine xc 0 (args := #[.slice a8 (bmN l.length) c8]) (ref10_PutN (bmN l.length) a8 c8 (Rs (chunksI (smallL (bumpL l (f + k0) (needM l))) (bmN l.length)) (f + (k0 + (nodN 5 (overK l l.length).length))) (bmN l.length)) _ (Rs_len _ _ _) (rs_ok hcs (chunksI_len _ _) (by omega) (by omega) (by omega)) (Rs_sts (own_sl hsl'1))) ?_
 rintro _ W16 ⟨_, rfl, hb16, bz, cz, rfl, hkb⟩
 have hR2'2 := hR2.below hb16
 have hJ2'2 := hJ2.below hb16
 have hO'2 := (((Only.upd_new ((hO_8.trans hO11).trans (Only.of_below n12.below)) u13 g12).trans (Only.of_below hb14)).trans hO15).trans (Only.of_below hb16)
 have hB'5 := Bl.nextB (hB'4.trans hb15) hBw hb16
 refine xc 11 (args := #[.pointer (some ⟨bc, 0, none⟩), .int .i64 4, .slice (some ⟨bz, 0, none⟩) ((idxB (Rs (chunksI (smallL (bumpL l (f + k0) (needM l))) (bmN l.length)) (f + (k0 + (nodN 5 (overK l l.length).length))) (bmN l.length))).length) cz]) (ref_LayK 4 (by decide) (by decide) B bc bm pg N cg _ _ _ f (k0 + (nodN 5 (overK l l.length).length) + (bmN l.length)) p K cI (cntsB (chunksI (smallL (bumpL l (f + k0) (needM l))) (bmN l.length)) (f + (k0 + (nodN 5 (overK l l.length).length))) (treeB 5 (overK l l.length) (f + k0) bs).2 (bmN l.length)) (some ⟨bz, 0, none⟩) cz (idxB (Rs (chunksI (smallL (bumpL l (f + k0) (needM l))) (bmN l.length)) (f + (k0 + (nodN 5 (overK l l.length).length))) (bmN l.length))).length (idxB (Rs (chunksI (smallL (bumpL l (f + k0) (needM l))) (bmN l.length)) (f + (k0 + (nodN 5 (overK l l.length).length))) (bmN l.length))) (f + (k0 + (nodN 5 (overK l l.length).length) + (bmN l.length))) _ rfl rfl (by rw [idxB_len (by rw [Rs_len]; omega)]; decide) (by omega) hf hR2'2 hJ2'2 (fun W _ hO'2 => hkb _ W hO'2 (by decide)) (Nat.le_trans hBw hB'5.size)) ?_
 rintro _ W17 ⟨a9, c9, fa3, mf3, fc3, rfl, hb17, hO17, hR2, hJ2⟩
 refine xa 3 [.slice none 0 0, .int .i64 0] 31 fun b18 W18 n18 => ?_
 have k8_b1'3 := ((((u13.blk (k8_b1'2.below n12.below) (Ne.symm (Ne.symm d12_b1))).below hb14).only hO15 (by decide)).below hb16).only hO17 (by decide)
 have d18_b1 := n18.ne k8_b1'3
 have k13'1 := (((k13.below hb14).only hO15 (by decide)).below hb16).only hO17 (by decide)
 have d18_b12 := n18.ne k13'1
 have hB'6 := hB'5.trans hb17
 have g18 := n18.ge0 hB'6
 refine xsv 1 n18.blk [.slice a9 0 c9, .int .i64 0] fun W19 u19 k19 => ?_
 have k8_b1'4 := u19.blk (k8_b1'3.below n18.below) (Ne.symm (Ne.symm d18_b1))
 refine xsv 9 k8_b1'4 [.slice none 0 0, .int .i64 0] fun W20 u20 k20 => ?_
 have g1 := n1.ge0 (Below.refl B _)
 have hJ2'3 := ((hJ2.below n18.below).only (Only.of_upd (T := [31]) u19 n18.blk (by decide)) (by decide)).only (Only.of_upd (T := [31]) u20 k8_b1'4 (by decide)) (by decide)
 have hR2'3 := ((hR2.below n18.below).only (Only.of_upd (T := [31]) u19 n18.blk (by decide)) (by decide)).only (Only.of_upd (T := [31]) u20 k8_b1'4 (by decide)) (by decide)
 have hB'7 := u20.below (u19.below (Bl.nextB hB'6 hBw n18.below) (Nat.le_trans hBw g18)) (Nat.le_trans hBw g1)
 have hO'3 := (Only.upd_new (Only.upd_new ((hO'2.trans hO17).trans (Only.of_below n18.below)) u19 g18) u20 g1)
 refine xec 3 k20 (.tuple #[.int .i64 (↑(f + (k0 + (nodN 5 (overK l l.length).length) + (bmN l.length))) : Int), .int .i64 ((treeB 5 (overK l l.length) (f + k0) bs).1), .agg #[.slice none 0 0, .int .i64 0]]) ?_
 have e0 : needM l = needM l := rfl
 have e1 : f + (k0 + (nodN 5 (overK l l.length).length) + (bmN l.length)) = f + k0 + (nodN 5 (overK l l.length).length) + (bmN l.length) := by omega
 have e2 : f + (k0 + (nodN 5 (overK l l.length).length)) = f + k0 + (nodN 5 (overK l l.length).length) := by omega
 rw [e1, e2] at hJ2'3
 rw [e1]
 have e3 : k0 + (nodN 5 (overK l l.length).length) + (bmN l.length) + 1 = k0 + needM l := by omega
 rw [e3] at hR2'3
 refine ⟨_, _, _, ?_, hB'7, hO'3, hR2'3, ?_⟩
 · unfold metaB; rw [needM_nb]
 · unfold metaB; rw [needM_nb]; exact hJ2'3
end Go.Proofs.YtbhjgcokpmiopaaGreatDoor
namespace Go.Proofs.YtbhjgcokpmiopaaGreatDoor
open Go.RowKit Go.Extern.Stop Go.Stop Go.Extern
set_option linter.unusedVariables false
attribute [local irreducible] wpList wpAnyH Code.wp Oper.wp Go

theorem alloc_AheadN (j : Nat) (B ba b g nn cc : Nat) (pa : Option Addr) (ca f N k0 : Nat) (bs : List UInt8) (w : World) (hC : AlC B ba nn cc ca f N) (hA : Al B ba b g nn cc pa ca f N k0 bs w) (hk : k0 ≤ N) (hN : N ≤ 1000000) (hj : j ≤ 1000000) (hjn : j ≤ N - k0) :
    Calls Tryz.prog 28 #[.pointer (some ⟨ba, 0, none⟩), .int .i64 (↑j : Int)] w (RetS (fun w' r => ∃ q c2, r = .slice q j c2 ∧ w'.ownsRow w.heap.size 3 1 (.slice q j c2) j ((((rngJ f N).drop k0).take j).map (Value.int .i64))) w) := by
  have h := alloc_Ahead B ba b pa N ca k0 j (rngJ f N) w ⟨hA.blkA, hA.nums, rngJ_len _ _, hC.hB, hN, hk⟩ hj
  rwa [Nat.min_eq_left hjn] at h
theorem tally_SplitN (n : Nat) (a : Option Addr) (c : Nat) (l : List Int) (w : World) (hn : l.length = n) (h : Sl w (.slice a n c) n (l.map (Value.int .i64))) (hl : n ≤ 65536) (hs : splitE l = 0) : Calls Tryz.prog 24 #[.slice a n c] w (fun e w' => ∃ pb cb gs po co, e = .returned (.tuple #[.slice pb (bmN n) cb, .slice po (overK l n).length co, .int .i64 0]) ∧ Below w.heap.size w w' ∧ Lists w' w.heap.size (.slice pb (bmN n) cb) gs (chunksI (smallL l) (bmN n)) ∧ w'.ownsRow w.heap.size 99 3 (.slice po (overK l n).length co) (overK l n).length ((overK l n).flatMap entC)) := by
  subst hn; exact tally_Split_ok a c l w h hl hs
theorem slots_PutN (n : Nat) (a : Option Addr) (c : Nat) (S : List (Nat × Nat × Nat)) (w : World) (hn : S.length = n) (hS : SlotsOk S) (h : Sts rsC w (.slice a S.length c) S) : Calls Tryz.prog 32 #[.slice a n c] w (RetS (fun w' r => ∃ p c, r = .tuple #[.slice p 244 c, .int .i64 0] ∧ w'.ownsRow w.heap.size 5 1 (.slice p 244 c) 244 ((idxB S).map bv)) w) := by
  subst hn; exact slots_Put a c S w hS h
end Go.Proofs.YtbhjgcokpmiopaaGreatDoor
namespace Go.Proofs.YtbhjgcokpmiopaaGreatDoor
open Go.RowKit Go.Extern.Stop Go.Stop Go.Extern
set_option linter.unusedVariables false
attribute [local irreducible] wpList wpAnyH Code.wp Oper.wp Go

theorem plot_layMN (B ba b g nn cc : Nat) (pa : Option Addr) (ca f N k0 : Nat) (bs : List UInt8) (bl B2 : Nat) (pl : Option Addr) (cl : Nat) (gs : List (Nat × Nat)) (L : List (List Int)) (n : Nat) (hn : L.length = n) (w : World) (hC : AlC B ba nn cc ca f N) (hA : Al B ba b g nn cc pa ca f N k0 bs w) (hL : Lists w B2 (.slice pl n cl) gs L) (hS : ∀ i, i < L.length → Small (L.getD i []) ∧ (L.getD i []).length ≤ 960) (hf1 : 1 ≤ f) (hk : k0 + n ≤ N) (kl : Blk w bl [.slice none 0 0] 69) (hBl : B ≤ bl) (hBw : B ≤ w.heap.size) :
    Calls Tryz.prog 30 #[.pointer (some ⟨ba, 0, none⟩), .slice pl n cl, .func (.func 31) #[] #[.pointer (some ⟨bl, 0, none⟩)]] w (fun e w' => ∃ p c, e = .returned .nilIface ∧ Below B w w' ∧ Only [93, 5, 69, 72] w w' ∧ Fr ([ba, g] ++ [bl]) w w' ∧ Al B ba b g nn cc pa ca f N (k0 + n) (cntsB L (f + k0) bs n) w' ∧ Blk w' bl [.slice p n c] 69 ∧ w'.ownsRow w.heap.size 72 3 (.slice p n c) n (rsL L (f + k0) n)) := by
  subst hn; exact plot_layM B ba b g nn cc pa ca f N k0 bs bl B2 pl cl gs L w hC hA hL hS hf1 hk kl hBl hBw
def MetaP (B ba b g nn cc : Nat) (pa : Option Addr) (ca f N k0 : Nat) (bs : List UInt8) (l : List Int) (w : World) (e : Ending) (w' : World) : Prop :=
  e = .returned (.tuple #[.int .i64 (metaB l f k0 bs).1, .int .i64 (metaB l f k0 bs).2.1, .nilIface]) ∧ Below B w w' ∧ Only [93, 5, 69, 72, 35] w w' ∧ Fr [ba, g] w w' ∧ Al B ba b g nn cc pa ca f N (k0 + needM l) (metaB l f k0 bs).2.2 w'
set_option maxRecDepth 100000 in
set_option maxHeartbeats 8000000 in
theorem plot_Meta (B ba b g nn cc : Nat) (pa : Option Addr) (ca f N k0 : Nat) (bs : List UInt8) (a : Addr) (c : Nat) (l : List Int) (w : World) (hC : AlC B ba nn cc ca f N) (hA : Al B ba b g nn cc pa ca f N k0 bs w) (h : Sl w (.slice (some a) l.length c) l.length (l.map (Value.int .i64))) (hl : l.length ≤ 3000) (hlen : l.length = nn / 256) (hs : splitE l = 0) (hkN : k0 ≤ N) (hk : k0 + needM l ≤ N) (hf1 : 1 ≤ f) (hfree : FreeOk l (f : Int)) (hfree2 : FreeOk l ((f + k0 : Nat) : Int)) (hBw : B ≤ w.heap.size) :
    Calls Tryz.prog 8 #[.pointer (some ⟨ba, 0, none⟩), .slice (some a) l.length c] w (MetaP B ba b g nn cc pa ca f N k0 bs l w) := by
 have hW : Sin w w := ⟨Below.refl _ _⟩
 have hcf := hC.hf
 have hcn := hC.hn
 have hsp := splitE_ok hs
 have hol := overK_len l l.length
 have hpn : needM l = (nodN 5 (overK l l.length).length) + (bmN l.length) + 1 := rfl
 have hn5 := nodN_le 5 (overK l l.length).length
 have hnb : bmN l.length ≤ 4 := by unfold bmN; omega
 have hsB : splitE (bumpL l (f + k0) (needM l)) = 0 := by unfold splitE; rw [if_neg (by rw [bumpL_len]; omega), if_pos (bumpL_ok hfree2 hsp.2)]
 have hcs := chunks_small (bumpL_ok (n := needM l) hfree2 hsp.2) (bmN l.length)
 refine zin 120 Tryz.func8 ?_
 refine xr 10 (args := #[.pointer (some ⟨ba, 0, none⟩)]) (alloc_Image ba b _ _ _ (hA.below hW.b).blkA) fun W1 hb1 => ?_
 have hW'1 := hW.below hb1
 refine xr 19 (args := #[.pointer (some ⟨b, 0, none⟩)]) (image_Blocks b _ nn cc _ (hA.below hW'1.b).blkI (by omega)) fun W2 hb2 => ?_
 refine xk 3 (show (((↑l.length : Int) != (↑(nn / 256) : Int)) : Bool) = false from by rw [hlen]; simp) ?_
 have hW'2 := hW'1.below hb2
 refine xc 5 (args := #[.slice (some a) l.length c]) (tally_SplitN l.length (some a) c l _ rfl (Sl.below h hW'2.b) (by omega) hs) ?_
 rintro _ W3 ⟨pb0, cb0, gs0, po, co, rfl, hb3, hL0, hov⟩
 have hs3 := (Bl.nextB (Bl.nextB (Below.refl B w) hBw hb1) hBw hb2).size
 refine xr 23 (args := #[.int .i64 5, .int .i64 (↑((overK l l.length).length) : Int)]) (tall_Nodes 5 (overK l l.length).length _ (by decide) (by decide) (by omega)) fun W4 hb4 => ?_
 refine xr 2 (args := #[.int .i64 (↑l.length : Int)]) (size_Bitmaps l.length _ (by omega)) fun W5 hb5 => ?_
 refine xwm 0 ((↑(nodN 5 (overK l l.length).length) : Int) + (↑(bmN l.length) : Int)) (↑((nodN 5 (overK l l.length).length) + (bmN l.length)) : Int) ?_
 refine xwm 0 ((↑((nodN 5 (overK l l.length).length) + (bmN l.length)) : Int) + 1) (↑(((nodN 5 (overK l l.length).length) + (bmN l.length)) + 1) : Int) ?_
 have hW'3 := ((hW'2.below hb3).below hb4).below hb5
 refine xr 7 (args := #[.pointer (some ⟨ba, 0, none⟩)]) (alloc_Left ba b pa N ca k0 _ (hA.below hW'3.b).blkA hkN) fun W6 hb6 => ?_
 refine xk 4 (show (decide ((↑(N - k0) : Int) < (↑(((nodN 5 (overK l l.length).length) + (bmN l.length)) + 1) : Int)) : Bool) = false from decide_eq_false (by omega)) ?_
 have hW'4 := hW'3.below hb6
 have hsc := hW'4.b.size
 refine xc 5 (args := #[.slice (some a) l.length c]) (clone_cnt a l.length c (l.map (Value.int .i64)) _ (Sl.below h hW'4.b) (by simp) (ints_one _) (by omega)) ?_
 rintro _ W7 ⟨_, rfl, hb7, qb, cq, rfl, hbm0⟩
 have hs7 := (Bl.nextB (Bl.nextB (Bl.nextB (Bl.nextB (Bl.nextB (Bl.nextB (Below.refl B w) hBw hb1) hBw hb2) hBw hb3) hBw hb4) hBw hb5) hBw hb6).size
 have hbm := own_mono hbm0 hsc
 have hW'5 := hW'4.below hb7
 have hsw := hW'5.b.size
 have hbm1 := hbm
 refine xc 8 (args := #[.pointer (some ⟨ba, 0, none⟩), .int .i64 (↑(((nodN 5 (overK l l.length).length) + (bmN l.length)) + 1) : Int)]) (alloc_AheadN (needM l) B ba b g nn cc pa ca f N k0 bs _ hC (hA.below hW'5.b) hkN (by omega) (by omega) (by omega)) ?_
 rintro _ W8 ⟨_, rfl, hb8, qa, ca2, rfl, hah0⟩
 have hs8 := (Bl.nextB (Bl.nextB (Bl.nextB (Bl.nextB (Bl.nextB (Bl.nextB (Bl.nextB (Below.refl B w) hBw hb1) hBw hb2) hBw hb3) hBw hb4) hBw hb5) hBw hb6) hBw hb7).size
 have hAp := Apart.of_lt hbm1 hah0 (Nat.le_refl _)
 have hah := own_mono hah0 hsw
 have hbm'1 := own_below hbm hb8
 obtain ⟨gb, rfl, hgc⟩ := own_someN hbm'1 (by omega)
 have hov'1 := own_below (own_below (own_below (own_below (own_below (own_mono hov hs3) hb4) hb5) hb6) hb7) hb8
 have hW'6 := hW'5.below hb8
 have hB := Bl.nextB (Bl.nextB (Bl.nextB (Bl.nextB (Bl.nextB (Bl.nextB (Bl.nextB (Bl.nextB (Below.refl B w) hBw hb1) hBw hb2) hBw hb3) hBw hb4) hBw hb5) hBw hb6) hBw hb7) hBw hb8
 have hX := (((((((show Fr [ba, g] w _ from (Fr.of_below hb1)).trans (Fr.of_below hb2)).trans (Fr.of_below hb3)).trans (Fr.of_below hb4)).trans (Fr.of_below hb5)).trans (Fr.of_below hb6)).trans (Fr.of_below hb7)).trans (Fr.of_below hb8)
 have hO := (((((((show Only [93, 5, 69, 72, 35] w _ from (Only.of_below hb1)).trans (Only.of_below hb2)).trans (Only.of_below hb3)).trans (Only.of_below hb4)).trans (Only.of_below hb5)).trans (Only.of_below hb6)).trans (Only.of_below hb7)).trans (Only.of_below hb8)
 refine zl 5 120 (fun zm zkv V => ∃ (i : Nat), zkv = [(0, .pointer (some ⟨ba, 0, none⟩)), (4, .int .i64 0), (5, .int .i64 0), (6, .nilIface), (9, .slice po ((overK l l.length).length) co), (10, .int .i64 0), (12, .slice (some ⟨gb, 0, none⟩) l.length cq), (61, .slice qa (needM l) ca2), (62, .int .i64 (↑(needM l) : Int)), (63, .int .i64 (↑i : Int))] ∧ zm = needM l - ((↑i : Int)).toNat ∧ Below B w V ∧ Fr [ba, g] w V ∧ Only [93, 5, 69, 72, 35] w V ∧ V.ownsRow w.heap.size 3 1 (.slice (some ⟨gb, 0, none⟩) l.length cq) l.length ((bumpL l (f + k0) i).map (Value.int .i64)) ∧ V.ownsRow w.heap.size 3 1 (.slice qa (needM l) ca2) (needM l) ((((rngJ f N).drop k0).take (needM l)).map (Value.int .i64)) ∧ V.ownsRow w.heap.size 99 3 (.slice po ((overK l l.length).length) co) ((overK l l.length).length) ((overK l l.length).flatMap entC) ∧ Sin w V ∧ i ≤ needM l) ⟨0, rfl, rfl, hB, hX, hO, (by rw [bumpL_zero]; exact hbm'1), hah, hov'1, hW'6, Nat.zero_le _⟩ ?_
 rintro _ _ W9 ⟨i, rfl, rfl, hB_9, hX_9, hO_9, hbm, hah, hov, hW, hi⟩ J9 hJ9 r9
 have hz0 : i < needM l → l.getD (f + k0 + i) 0 = 0 := fun q => (hfree (f + k0 + i) (by omega)).1 (by omega)
 refine xid 6 ((↑i : Int) < (↑(needM l) : Int)) (fun hc10 => ?_) (fun hc10 => ?_)
 · refine xx 6 _ (needM l) i 1 (ahead_elem (own_sl hah) (by omega) (i := i) (by omega)).1 ?_
   refine xl 0 ((ahead_elem (own_sl hah) (by omega) (i := i) (by omega)).2) ?_
   refine xx 6 _ l.length (f + k0 + i) 1 (bump_elem (own_sl hbm) rfl (q := f + k0) (i := i) (by omega)).1 ?_
   refine xl 0 ((bump_elem (own_sl hbm) rfl (q := f + k0) (i := i) (by omega)).2) ?_
   refine xw 0 ((l.getD (f + k0 + i) 0) + 1) ?_
   refine xx 0 _ l.length (f + k0 + i) 1 (bump_elem (own_sl hbm) rfl (q := f + k0) (i := i) (by omega)).1 ?_
   refine xst 0 fun _ _ _ _ zJ zQ zo zx zy zK => op_storeRow (t := 3) (k := (f + k0 + i)) (v := .int .i64 ((l.getD (f + k0 + i) 0) + 1)) zo zx zy (by kernel_rfl) rfl hbm (by omega) fun W11 u11 o11 => ?_
   rw [bumpL_set (l := l) (f := f + k0) (j := i) (by omega)] at o11
   refine zK _ _ ?_
   refine xwm 4 ((↑i : Int) + 1) (↑(i + 1) : Int) ?_
   have hB'1 := u11.below hB_9 (Nat.le_trans hBw (own_ge hbm))
   have hX'1 := (Fr.upd_new hX_9 u11 (own_ge hbm))
   have hO'1 := (Only.upd_new hO_9 u11 (own_ge hbm))
   have hah'1 := u11.own3 hah (fun j hj e => hAp _ rfl (e ▸ hj))
   have hov'2 := u11.ownRow hov hbm (by decide)
   have hW'7 := hW.upd u11 (own_ge hbm)
   exact ze 2 (hJ9 _ _ _ ⟨i + 1, rfl, rfl, hB'1, hX'1, hO'1, o11, hah'1, hov'2, hW'7, by omega⟩ (by omega))
 refine xc 9 (args := #[.pointer (some ⟨ba, 0, none⟩), .int .i64 5, .slice po ((overK l l.length).length) co]) (build_TreeN B ba b g nn cc pa ca f N k0 bs 5 po co (overK l l.length) (overK l l.length).length _ rfl hC (hA.below hW.b) (by decide) (by decide) (over_ents _ _ (by omega)) (by omega) hf1 (by omega) (by omega) (fun W _ h2 => own_sl (own_only hov h2 (by decide))) (Nat.le_trans hBw hB_9.size)) ?_
 rintro _ W12 ⟨rfl, hb12, hO12, hX12, hA2⟩
 have hbm'2 := own_only hbm hO12 (by decide)
 refine xc 20 (args := #[.slice (some ⟨gb, 0, none⟩) l.length cq]) (tally_SplitN l.length (some ⟨gb, 0, none⟩) cq (bumpL l (f + k0) (needM l)) _ (bumpL_len _ _ _) (by have hh := own_sl hbm'2; rw [show i = needM l by omega] at hh; exact hh) (by omega) hsB) ?_
 rintro _ W13 ⟨pb, cb, gs, po3, co3, rfl, hb13, hL, hov3⟩
 refine xa 21 [.slice none 0 0] 69 fun b14 W14 n14 => ?_
 have hB'2 := Bl.nextB (hB_9.trans hb12) hBw hb13
 have g14 := n14.ge0 hB'2
 have hA2'1 := (hA2.below hb13).below n14.below
 have hL'1 := hL.below n14.below
 have hB'3 := Bl.nextB hB'2 hBw n14.below
 refine xc 8 (args := #[.pointer (some ⟨ba, 0, none⟩), .slice pb (bmN l.length) cb, .func (.func 31) #[] #[.pointer (some ⟨b14, 0, none⟩)]]) (plot_layMN B ba b g nn cc pa ca f N (k0 + (nodN 5 (overK l l.length).length)) (treeB 5 (overK l l.length) (f + k0) bs).2 b14 _ pb cb gs (chunksI (smallL (bumpL l (f + k0) (needM l))) (bmN l.length)) (bmN l.length) (chunksI_len _ _) _ hC hA2'1 hL'1 hcs hf1 (by omega) n14.blk (Nat.le_trans hBw g14) (Nat.le_trans hBw hB'3.size)) ?_
 rintro _ W15 ⟨p8, c8, rfl, hb15, hO15, hX15, hA2, kln, hsl⟩
 have hs15 := (Bl.nextB hB'2 hBw n14.below).size
 refine xb 14 0 kln ?_
 have hsl'1 := own_mono hsl hs15
 refine xc 0 (args := #[.slice p8 (bmN l.length) c8]) (slots_PutN (bmN l.length) p8 c8 (Rs (chunksI (smallL (bumpL l (f + k0) (needM l))) (bmN l.length)) (f + (k0 + (nodN 5 (overK l l.length).length))) (bmN l.length)) _ (Rs_len _ _ _) (rs_ok hcs (chunksI_len _ _) (by omega) (by omega) (by omega)) (Rs_sts (own_sl hsl'1))) ?_
 rintro _ W16 ⟨_, rfl, hb16, pz, cz, rfl, hkb⟩
 have hs16 := (hB'3.trans hb15).size
 have hA2'2 := hA2.below hb16
 have hO'2 := ((((hO_9.trans (hO12.wide)).trans (Only.of_below hb13)).trans (Only.of_below n14.below)).trans (hO15.wide)).trans (Only.of_below hb16)
 have hkb'1 := own_mono hkb hs16
 have hB'4 := Bl.nextB (hB'3.trans hb15) hBw hb16
 refine xc 21 (args := #[.pointer (some ⟨ba, 0, none⟩), .int .i64 4, .slice pz 244 cz]) (alloc_LayQ B ba b g nn cc pa ca f N (k0 + (nodN 5 (overK l l.length).length) + (bmN l.length)) (cntsB (chunksI (smallL (bumpL l (f + k0) (needM l))) (bmN l.length)) (f + (k0 + (nodN 5 (overK l l.length).length))) (treeB 5 (overK l l.length) (f + k0) bs).2 (bmN l.length)) 4 pz cz (idxB (Rs (chunksI (smallL (bumpL l (f + k0) (needM l))) (bmN l.length)) (f + (k0 + (nodN 5 (overK l l.length).length))) (bmN l.length))) (f + (k0 + (nodN 5 (overK l l.length).length) + (bmN l.length))) 244 _ rfl (idxB_len (by rw [Rs_len]; omega)) hC hA2'2 (by omega) (by decide) (by decide) (fun W _ hO'2 => bys_of (own_sl (own_only hkb'1 hO'2 (by decide))) (idxB_len (by rw [Rs_len]; omega))) (by decide) (Nat.le_trans hBw hB'4.size)) ?_
 rintro _ W17 ⟨rfl, hb17, hO17, hX17, hA2⟩
 have hB'5 := hB'4.trans hb17
 have hO'3 := hO'2.trans (hO17.wide)
 have hX'2 := ((Fr.trans_new (((hX_9.trans (hX12.mono (by simp))).trans (Fr.of_below hb13)).trans (Fr.of_below n14.below)) hX15 g14).trans (Fr.of_below hb16)).trans (hX17.mono (by simp))
 refine xe 27 (.tuple #[.int .i64 (↑(f + (k0 + (nodN 5 (overK l l.length).length) + (bmN l.length))) : Int), .int .i64 ((treeB 5 (overK l l.length) (f + k0) bs).1), .nilIface]) ?_
 have e1 : f + (k0 + (nodN 5 (overK l l.length).length) + (bmN l.length)) = f + k0 + (nodN 5 (overK l l.length).length) + (bmN l.length) := by omega
 have e2 : f + (k0 + (nodN 5 (overK l l.length).length)) = f + k0 + (nodN 5 (overK l l.length).length) := by omega
 rw [e1, e2] at hA2
 rw [e1]
 have e3 : k0 + (nodN 5 (overK l l.length).length) + (bmN l.length) + 1 = k0 + needM l := by omega
 rw [e3] at hA2
 refine ⟨?_, hB'5, hO'3, hX'2, ?_⟩
 · unfold metaB; rw [needM_nb]
 · unfold metaB; rw [needM_nb]; exact hA2
end Go.Proofs.YtbhjgcokpmiopaaGreatDoor
namespace Go.Proofs.YtbhjgcokpmiopaaGreatDoor
open Go.RowKit Go.Extern.Stop Go.Stop Go.Extern
set_option linter.unusedVariables false
attribute [local irreducible] wpList wpAnyH Code.wp Oper.wp Go

set_option maxRecDepth 100000 in
set_option maxHeartbeats 1000000 in
theorem ref22_Meta_len (B bc bm : Nat) (pg : Option Addr) (N cg : Nat) (fa : Option Addr) (mf fc f k0 : Nat) (p : Option Addr) (K cI : Nat) (bs : List UInt8) (a : Option Addr) (c : Nat) (l : List Int) (w : World) (hR : RAl B bc bm pg N cg fa mf fc k0 (rngJ f N) w) (h : Sl w (.slice a l.length c) l.length (l.map (Value.int .i64))) (hl : l.length ≤ 3000) (hJ : RefI B bm p K cI bs w) (hlen : l.length ≠ K) :
    Calls Tryz.prog 11 #[.pointer (some ⟨bc, 0, none⟩), .slice a l.length c] w (Ret (.tuple #[.int .i64 0, .int .i64 0, .agg #[.slice none 0 0, .int .i64 1]]) w) := by
 refine zin 113 Tryz.func11 ?_
 refine xa 4 [.slice none 0 0, .int .i64 0] 31 fun b1 W1 n1 => ?_
 have hR'1 := hR.below n1.below
 refine xl 10 (hR'1.blk.cell (i := 0) rfl) ?_
 have hJ'1 := hJ.below n1.below
 refine xl 2 (hJ'1.blk.cell (i := 0) rfl) ?_
 refine xk 4 (show (((↑l.length : Int) != (↑K : Int)) : Bool) = true from by simp; omega) ?_
 refine xr 2 (args := #[.int .i64 1]) (ref22_bad 1 _) fun W2 hb2 => ?_
 have k1 := n1.blk.below hb2
 refine xsv 2 k1 [.slice none 0 0, .int .i64 1] fun W3 u3 k3 => ?_
 have g1 := n1.ge (Below.refl w.heap.size _)
 have hB := u3.below (Bl.next n1.below hb2) g1
 exact xec 4 k3 (.tuple #[.int .i64 0, .int .i64 0, .agg #[.slice none 0 0, .int .i64 1]]) ⟨rfl, hB⟩
set_option maxRecDepth 100000 in
set_option maxHeartbeats 1000000 in
theorem ref22_Meta_bad (B bc bm : Nat) (pg : Option Addr) (N cg : Nat) (fa : Option Addr) (mf fc f k0 : Nat) (p : Option Addr) (K cI : Nat) (bs : List UInt8) (a : Option Addr) (c : Nat) (l : List Int) (w : World) (hR : RAl B bc bm pg N cg fa mf fc k0 (rngJ f N) w) (h : Sl w (.slice a l.length c) l.length (l.map (Value.int .i64))) (hl : l.length ≤ 3000) (hJ : RefI B bm p K cI bs w) (hlen : l.length = K) (hs : splitE l ≠ 0) :
    Calls Tryz.prog 11 #[.pointer (some ⟨bc, 0, none⟩), .slice a l.length c] w (Ret (.tuple #[.int .i64 0, .int .i64 0, .agg #[.slice none 0 0, .int .i64 2]]) w) := by
 refine zin 113 Tryz.func11 ?_
 refine xa 4 [.slice none 0 0, .int .i64 0] 31 fun b1 W1 n1 => ?_
 have hR'1 := hR.below n1.below
 refine xl 10 (hR'1.blk.cell (i := 0) rfl) ?_
 have hJ'1 := hJ.below n1.below
 refine xl 2 (hJ'1.blk.cell (i := 0) rfl) ?_
 refine xk 4 (show (((↑l.length : Int) != (↑K : Int)) : Bool) = false from by rw [hlen]; simp) ?_
 refine xr 5 (args := #[.slice a l.length c]) ((ref21_Split a c l _ (h.below n1.below) (by omega)).mono (fun _ _ q => (q.resolve_right (fun z => hs z.1)).2)) fun W2 hb2 => ?_
 refine xr 20 (args := #[.int .i64 2]) (ref22_bad 2 _) fun W3 hb3 => ?_
 have k1 := (n1.blk.below hb2).below hb3
 refine xsv 2 k1 [.slice none 0 0, .int .i64 2] fun W4 u4 k4 => ?_
 have g1 := n1.ge (Below.refl w.heap.size _)
 have hB'1 := u4.below (Bl.next (Bl.next n1.below hb2) hb3) g1
 exact xec 4 k4 (.tuple #[.int .i64 0, .int .i64 0, .agg #[.slice none 0 0, .int .i64 2]]) ⟨rfl, hB'1⟩
set_option maxRecDepth 100000 in
set_option maxHeartbeats 1000000 in
theorem ref22_Meta_none (B bc bm : Nat) (pg : Option Addr) (N cg : Nat) (fa : Option Addr) (mf fc f k0 : Nat) (p : Option Addr) (K cI : Nat) (bs : List UInt8) (a : Option Addr) (c : Nat) (l : List Int) (w : World) (hR : RAl B bc bm pg N cg fa mf fc k0 (rngJ f N) w) (h : Sl w (.slice a l.length c) l.length (l.map (Value.int .i64))) (hl : l.length ≤ 3000) (hJ : RefI B bm p K cI bs w) (hlen : l.length = K) (hs : splitE l = 0) (hk : N < k0 + needM l) :
    Calls Tryz.prog 11 #[.pointer (some ⟨bc, 0, none⟩), .slice a l.length c] w (Ret (.tuple #[.int .i64 0, .int .i64 0, .agg #[.slice none 0 0, .int .i64 14]]) w) := by
 have hol := overK_len l l.length
 have hpn : needM l = (nodN 5 (overK l l.length).length) + (bmN l.length) + 1 := rfl
 have hn5 := nodN_le 5 (overK l l.length).length
 have hRm := hR.hm
 have hnb : bmN l.length ≤ 4 := by unfold bmN; omega
 refine zin 113 Tryz.func11 ?_
 refine xa 4 [.slice none 0 0, .int .i64 0] 31 fun b1 W1 n1 => ?_
 have hR'1 := hR.below n1.below
 refine xl 10 (hR'1.blk.cell (i := 0) rfl) ?_
 have hJ'1 := hJ.below n1.below
 refine xl 2 (hJ'1.blk.cell (i := 0) rfl) ?_
 refine xk 4 (show (((↑l.length : Int) != (↑K : Int)) : Bool) = false from by rw [hlen]; simp) ?_
 refine xc 5 (args := #[.slice a l.length c]) (ref21_Split_ok a c l _ (h.below n1.below) (by omega) hs) ?_
 rintro _ W2 ⟨pb, cb, gs, po, co, rfl, hb2, _, _⟩
 refine xr 23 (args := #[.int .i64 5, .int .i64 (↑((overK l l.length).length) : Int)]) (ref15_Nodes 5 (overK l l.length).length _ (by decide) (by decide) (by omega)) fun W3 hb3 => ?_
 refine xr 2 (args := #[.int .i64 (↑l.length : Int)]) (ref20_Bitmaps l.length _ (by omega)) fun W4 hb4 => ?_
 refine xwm 0 ((↑(nodN 5 (overK l l.length).length) : Int) + (↑(bmN l.length) : Int)) (↑((nodN 5 (overK l l.length).length) + (bmN l.length)) : Int) ?_
 refine xwm 0 ((↑((nodN 5 (overK l l.length).length) + (bmN l.length)) : Int) + 1) (↑(((nodN 5 (overK l l.length).length) + (bmN l.length)) + 1) : Int) ?_
 have hR'2 := ((hR'1.below hb2).below hb3).below hb4
 refine xl 9 (hR'2.blk.cell (i := 1) rfl) ?_
 refine xk 5 (show (decide ((↑mf : Int) < (↑(((nodN 5 (overK l l.length).length) + (bmN l.length)) + 1) : Int)) : Bool) = true from decide_eq_true (by omega)) ?_
 refine xr 2 (args := #[.int .i64 14]) (ref22_bad 14 _) fun W5 hb5 => ?_
 have k1 := (((n1.blk.below hb2).below hb3).below hb4).below hb5
 refine xsv 2 k1 [.slice none 0 0, .int .i64 14] fun W6 u6 k6 => ?_
 have g1 := n1.ge (Below.refl w.heap.size _)
 have hB'1 := u6.below (Bl.next (Bl.next (Bl.next (Bl.next n1.below hb2) hb3) hb4) hb5) g1
 exact xec 4 k6 (.tuple #[.int .i64 0, .int .i64 0, .agg #[.slice none 0 0, .int .i64 14]]) ⟨rfl, hB'1⟩
end Go.Proofs.YtbhjgcokpmiopaaGreatDoor
