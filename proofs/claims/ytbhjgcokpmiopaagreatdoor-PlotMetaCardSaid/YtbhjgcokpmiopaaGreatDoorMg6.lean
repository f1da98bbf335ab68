/- The document's answer for layer 16: From and New. The document's New at any first block; what Told says of a number. The law PlotRoom, walked. The statement PlotData, walked. The statement PlotMeta, walked. How a slice of bytes that came in reads: as a list of bytes. A slice of structs, each a bool, an int and a slice of bytes: how a law's argument reads. -/
import Derived.Deep.Slices
import Derived.Deep.Fields
import Derived.Deep.Strs
import Derived.ChangeSame
import Derived.Test.YtbhjgcokpmiopaaGreatDoorMg5
namespace Go.Proofs.YtbhjgcokpmiopaaGreatDoor
open Go.RowKit Go.Extern.Stop Go.Stop Go.Extern
set_option linter.unusedVariables false
attribute [local irreducible] wpList wpAnyH Code.wp Oper.wp Go

def RFromP (bm K : Nat) (L : List Int) (w : World) (e : Ending) (w' : World) : Prop :=
  (fromE K L ≠ 0 ∧ e = .returned (.tuple #[.pointer none, .agg #[.slice none 0 0, .int .i64 (fromE K L)]]) ∧ Below w.heap.size w w') ∨
  (fromE K L = 0 ∧ ∃ bc pg cg, e = .returned (.tuple #[.pointer (some ⟨bc, 0, none⟩), .agg #[.slice none 0 0, .int .i64 0]]) ∧ Below w.heap.size w w' ∧ RAl w.heap.size bc bm pg L.length cg pg L.length cg 0 L w')
set_option maxRecDepth 100000 in
set_option maxHeartbeats 4000000 in
theorem ref_From (bm : Nat) (p : Option Addr) (K c : Nat) (aL : Option Addr) (cL : Nat) (L : List Int) (w : World) (hk : Blk w bm [.slice p K c] 57) (hK : K ≤ 14400) (h : Sl w (.slice aL L.length cL) L.length (L.map (Value.int .i64))) (hLn : L.length ≤ 1000000) :
    Calls Tryz.prog 22 #[.pointer (some ⟨bm, 0, none⟩), .slice aL L.length cL] w (RFromP bm K L w) := by
 refine zin 56 Tryz.func22 ?_
 refine xa 3 [.slice none 0 0, .int .i64 0] 31 fun b1 W1 n1 => ?_
 have hk'1 := hk.below n1.below
 refine zl 9 56 (fun zm zkv V => ∃ (i : Nat), zkv = [(0, .pointer (some ⟨bm, 0, none⟩)), (1, .slice aL L.length cL), (5, .pointer (some ⟨b1, 0, none⟩)), (6, .int .i64 (↑i : Int))] ∧ zm = L.length - ((↑i : Int)).toNat ∧ Below w.heap.size w V ∧ Blk V bm ([.slice p K c]) 57 ∧ Blk V b1 ([.slice none 0 0, .int .i64 0]) 31 ∧ i ≤ L.length ∧ (∀ x, x < i → 1 ≤ L.getD x 0 ∧ L.getD x 0 < (K : Int))) ⟨0, rfl, rfl, n1.below, hk'1, n1.blk, Nat.zero_le _, ?_⟩ ?_
 · exact fun x hx => absurd hx (by omega)
 rintro _ _ W2 ⟨i, rfl, rfl, hB_2, k2_bm, k2_b1, hi, hz⟩ J2 hJ2 r2
 refine xid 9 ((↑i : Int) < (↑L.length : Int)) (fun hc3 => ?_) (fun hc3 => ?_)
 · refine xd 5 .z ?_
   refine xx (.e [0, 1] 2) _ L.length i 1 (Ints.elem h (k := i) (by omega)).1 ?_
   have hB'1 := Bl.next hB_2 (below_drew W2)
   refine xl (.e [] 3) ((Ints.elem (h.below hB'1) (k := i) (by omega)).2) ?_
   refine xg (.b [4, 5]) [18, 19] (decide ((L.getD i 0) < (1 : Int))) (fun hc4 => ?_) (fun hc4 => ?_)
   · have hc4 := of_decide_eq_true hc4
     have k2_b1'1 := k2_b1.below (below_drew W2)
     refine xsv (.r [6, 7, 8, 9, 10, 11, 12, 13, 14, 15, 16] 7) k2_b1'1 [.slice none 0 0, .int .i64 1] fun W5 u5 k5 => ?_
     have g1 := n1.ge (Below.refl w.heap.size _)
     have hB'2 := u5.below hB'1 g1
     refine xec 8 k5 (.tuple #[.pointer none, .agg #[.slice none 0 0, .int .i64 1]]) ?_
     have he : fromE K L = 1 := by unfold fromE; rw [goodB_false (j := i) (by omega) (by omega)]; rfl
     exact .inl ⟨by rw [he]; decide, by rw [he], hB'2⟩
   have hc4 := of_decide_eq_false hc4
   refine xx (.e [6, 7] 8) _ L.length i 1 (Ints.elem h (k := i) (by omega)).1 ?_
   refine xl (.e [] 9) ((Ints.elem (h.below hB'1) (k := i) (by omega)).2) ?_
   have k2_bm'1 := k2_bm.below (below_drew W2)
   refine xb (.e [10, 11, 12] 13) 0 k2_bm'1 ?_
   refine xid (.r [14, 15, 16] 2) ((L.getD i 0) ≥ (↑K : Int)) (fun hc6 => ?_) (fun hc6 => ?_)
   · have k2_b1'2 := k2_b1.below (below_drew W2)
     refine xsv 4 k2_b1'2 [.slice none 0 0, .int .i64 1] fun W7 u7 k7 => ?_
     have g1 := n1.ge (Below.refl w.heap.size _)
     have hB'3 := u7.below hB'1 g1
     refine xec 8 k7 (.tuple #[.pointer none, .agg #[.slice none 0 0, .int .i64 1]]) ?_
     have he : fromE K L = 1 := by unfold fromE; rw [goodB_false (j := i) (by omega) (by omega)]; rfl
     exact .inl ⟨by rw [he]; decide, by rw [he], hB'3⟩
   refine xwm 5 ((↑i : Int) + 1) (↑(i + 1) : Int) ?_
   have k2_b1'3 := k2_b1.below (below_drew W2)
   exact ze 2 (hJ2 _ _ _ ⟨i + 1, rfl, rfl, hB'1, k2_bm'1, k2_b1'3, by omega, fun x hx => (Nat.lt_or_ge x i).elim (hz x) (fun q => by obtain rfl : x = i := (by omega); omega)⟩ (by omega))
 refine zl 12 56 (fun zm zkv V => ∃ (j : Nat), zkv = [(0, .pointer (some ⟨bm, 0, none⟩)), (1, .slice aL L.length cL), (5, .pointer (some ⟨b1, 0, none⟩)), (7, .int .i64 (↑j : Int))] ∧ zm = L.length - ((↑j : Int)).toNat ∧ Below w.heap.size w V ∧ Blk V bm ([.slice p K c]) 57 ∧ Blk V b1 ([.slice none 0 0, .int .i64 0]) 31 ∧ 1 ≤ j ∧ j ≤ max 1 L.length ∧ (∀ x, x + 1 < j → L.getD x 0 < L.getD (x + 1) 0)) ⟨1, rfl, rfl, hB_2, k2_bm, k2_b1, Nat.le_refl _, by omega, ?_⟩ ?_
 · exact fun x hx => absurd hx (by omega)
 rintro _ _ W8 ⟨j, rfl, rfl, hB_8, k8_bm, k8_b1, hj0, hj, hz2⟩ J8 hJ8 r8
 refine xid 9 ((↑j : Int) < (↑L.length : Int)) (fun hc9 => ?_) (fun hc9 => ?_)
 · refine xd 5 .z ?_
   refine xx (.e [0, 1] 2) _ L.length j 1 (Ints.elem h (k := j) (by omega)).1 ?_
   have hB'4 := Bl.next hB_8 (below_drew W8)
   refine xl (.e [] 3) ((Ints.elem (h.below hB'4) (k := j) (by omega)).2) ?_
   refine xwm (.e [4, 5] 6) ((↑j : Int) - 1) (↑(j - 1) : Int) ?_
   refine xx (.e [] 7) _ L.length (j - 1) 1 (Ints.elem h (k := (j - 1)) (by omega)).1 ?_
   refine xl (.e [] 8) ((Ints.elem (h.below hB'4) (k := (j - 1)) (by omega)).2) ?_
   refine xid (.r [9] 2) ((L.getD j 0) ≤ (L.getD (j - 1) 0)) (fun hc10 => ?_) (fun hc10 => ?_)
   · have k8_b1'1 := k8_b1.below (below_drew W8)
     refine xsv 4 k8_b1'1 [.slice none 0 0, .int .i64 8] fun W11 u11 k11 => ?_
     have g1 := n1.ge (Below.refl w.heap.size _)
     have hB'5 := u11.below hB'4 g1
     refine xec 8 k11 (.tuple #[.pointer none, .agg #[.slice none 0 0, .int .i64 8]]) ?_
     have hgd : goodB K L = true := goodB_true fun x hx => hz x (by omega)
     have he : fromE K L = 8 := by unfold fromE; rw [if_pos hgd, riseB_false (j := j - 1) (by omega) (by rw [show j - 1 + 1 = j by omega]; omega)]; rfl
     exact .inl ⟨by rw [he]; decide, by rw [he], hB'5⟩
   refine xwm 5 ((↑j : Int) + 1) (↑(j + 1) : Int) ?_
   have k8_bm'1 := k8_bm.below (below_drew W8)
   have k8_b1'2 := k8_b1.below (below_drew W8)
   exact ze 2 (hJ8 _ _ _ ⟨j + 1, rfl, rfl, hB'4, k8_bm'1, k8_b1'2, by omega, by omega, fun x hx => (Nat.lt_or_ge (x + 1) j).elim (hz2 x) (fun q => by obtain rfl : j = x + 1 := (by omega); rw [Nat.add_sub_cancel] at *; omega)⟩ (by omega))
 refine xb0 8 3 fun b12 W12 n12 => ?_
 have o12 := own_of_blk (size := 1) (n := 0) n12.blk (n12.ge hB_8) rfl (by decide)
 have hB'6 := Bl.next hB_8 n12.below
 refine xbi 1 fun _ _ _ _ zJ zQ zo zx zy zK => op_app (m := L.length) (news := L.map (Value.int .i64)) (.int .i64 0) 1 8 (L.length) (L.map (Value.int .i64)) zo Tryz.underlying22 (by kernel_rfl) rfl (by decide) zx o12 zy (h.below hB'6) (by simp) (ints_one L) (by unfold maxLen; omega) (by omega) hB'6.size (by omega) (by rfl) fun p13 c13 W13 o13 hg13 hb13 => ?_
 refine zK _ _ ?_
 refine xa 1 [.pointer (some ⟨bm, 0, none⟩), .slice p13 L.length c13, .int .i64 0] 47 fun b14 W14 n14 => ?_
 have k8_b1'3 := ((k8_b1.below n12.below).grown hg13 o12 (by decide)).below n14.below
 refine xsv 2 k8_b1'3 [.slice none 0 0, .int .i64 0] fun W15 u15 k15 => ?_
 have g1 := n1.ge (Below.refl w.heap.size _)
 have hB'7 := u15.below (Bl.next (hB'6.trans hb13) n14.below) g1
 have k14 := u15.blkT n14.blk k8_b1'3 (by decide)
 have o13'1 := u15.own2 (own_below o13 n14.below) k8_b1'3 (by decide)
 have g14 := n14.ge (hB'6.trans hb13)
 refine xec 3 k15 (.tuple #[.pointer (some ⟨b14, 0, none⟩), .agg #[.slice none 0 0, .int .i64 0]]) ?_
 have hgd : goodB K L = true := goodB_true fun x hx => hz x (by omega)
 exact .inr ⟨by unfold fromE; rw [if_pos hgd, if_pos (riseB_true fun x hx => hz2 x (by omega))], _, _, _, rfl, hB'7, k14, o13'1, fun hp => by obtain ⟨g, rfl, _⟩ := own_someN o13'1 hp; exact ⟨(cutA_zero g _).symm, rfl⟩, rfl, rfl, g14, hLn⟩
set_option maxRecDepth 100000 in
set_option maxHeartbeats 1000000 in
theorem ref_New_bad (bm : Nat) (p : Option Addr) (K c : Nat) (f : Int) (w : World) (hk : Blk w bm [.slice p K c] 57) (hf : ¬ (1 ≤ f ∧ f ≤ (K : Int))) :
    Calls Tryz.prog 7 #[.pointer (some ⟨bm, 0, none⟩), .int .i64 f] w (Ret (.tuple #[.pointer none, .agg #[.slice none 0 0, .int .i64 1]]) w) := by
 refine zin 39 Tryz.func7 ?_
 refine xa 3 [.slice none 0 0, .int .i64 0] 31 fun b1 W1 n1 => ?_
 refine xg 8 [9, 10] (decide (f < (1 : Int))) (fun hc2 => ?_) (fun hc2 => ?_)
 · have hc2 := of_decide_eq_true hc2
   refine xsv 15 n1.blk [.slice none 0 0, .int .i64 1] fun W3 u3 k3 => ?_
   have g1 := n1.ge (Below.refl w.heap.size _)
   have hB := u3.below n1.below g1
   exact xec 4 k3 (.tuple #[.pointer none, .agg #[.slice none 0 0, .int .i64 1]]) ⟨rfl, hB⟩
 have hc2 := of_decide_eq_false hc2
 have hk'1 := hk.below n1.below
 refine xb 4 0 hk'1 ?_
 refine xk 5 (show (decide (f > (↑K : Int)) : Bool) = true from decide_eq_true (by omega)) ?_
 refine xsv 4 n1.blk [.slice none 0 0, .int .i64 1] fun W4 u4 k4 => ?_
 have g1 := n1.ge (Below.refl w.heap.size _)
 have hB := u4.below n1.below g1
 exact xec 4 k4 (.tuple #[.pointer none, .agg #[.slice none 0 0, .int .i64 1]]) ⟨rfl, hB⟩
theorem rng_good {f K : Nat} (h1 : 1 ≤ f) (h2 : f ≤ K) : goodB K (rngJ f (K - f)) = true := goodB_true fun j hj => by rw [rngJ_len] at hj; rw [rngJ_get hj]; omega
theorem rng_rise (f N : Nat) : riseB (rngJ f N) = true := riseB_true fun j hj => by rw [rngJ_len] at hj; rw [rngJ_get (by omega), rngJ_get hj]; omega
theorem rng_from {f K : Nat} (h1 : 1 ≤ f) (h2 : f ≤ K) : fromE K (rngJ f (K - f)) = 0 := by unfold fromE; rw [if_pos (rng_good h1 h2), if_pos (rng_rise f _)]
def RNewP (bm f K : Nat) (w : World) (e : Ending) (w' : World) : Prop :=
  ∃ bc pg cg, e = .returned (.tuple #[.pointer (some ⟨bc, 0, none⟩), .agg #[.slice none 0 0, .int .i64 0]]) ∧ Below w.heap.size w w' ∧ RAl w.heap.size bc bm pg (K - f) cg pg (K - f) cg 0 (rngJ f (K - f)) w'
theorem ref_From_rng (bm : Nat) (p : Option Addr) (f K c N : Nat) (aL : Option Addr) (cL : Nat) (w : World) (hk : Blk w bm [.slice p K c] 57) (hK : K ≤ 14400) (h1 : 1 ≤ f) (h2 : f ≤ K) (hN : K - f = N) (h : Sl w (.slice aL N cL) N ((rngJ f N).map (Value.int .i64))) :
    Calls Tryz.prog 22 #[.pointer (some ⟨bm, 0, none⟩), .slice aL N cL] w (RNewP bm f K w) := by
  subst hN
  have e := rngJ_len f (K - f)
  have h' : Sl w (.slice aL (rngJ f (K - f)).length cL) (rngJ f (K - f)).length ((rngJ f (K - f)).map (Value.int .i64)) := by rw [e]; exact h
  have hc := ref_From bm p K c aL cL (rngJ f (K - f)) w hk hK h' (by rw [e]; omega)
  rw [e] at hc
  refine hc.mono ?_
  rintro q W (⟨h0, _⟩ | ⟨_, bc, pg, cg, rfl, hb, hA⟩)
  · exact absurd (rng_from h1 h2) h0
  · rw [e] at hA
    exact ⟨bc, pg, cg, rfl, hb, hA⟩
set_option maxRecDepth 100000 in
set_option maxHeartbeats 2000000 in
theorem ref_New (bm : Nat) (p : Option Addr) (f K c : Nat) (w : World) (hk : Blk w bm [.slice p K c] 57) (hK : K ≤ 14400) (h1 : 1 ≤ f) (h2 : f ≤ K) :
    Calls Tryz.prog 7 #[.pointer (some ⟨bm, 0, none⟩), .int .i64 (↑f : Int)] w (RNewP bm f K w) := by
 refine zin 39 Tryz.func7 ?_
 refine xa 3 [.slice none 0 0, .int .i64 0] 31 fun b1 W1 n1 => ?_
 refine xgk 8 [9, 10] (show (decide ((↑f : Int) < (1 : Int)) : Bool) = false from decide_eq_false (by omega)) ?_
 have hk'1 := hk.below n1.below
 refine xb 4 0 hk'1 ?_
 refine xk 5 (show (decide ((↑f : Int) > (↑K : Int)) : Bool) = false from decide_eq_false (by omega)) ?_
 refine zl 15 39 (fun zm zkv V => ∃ (j : Nat) (pl : Option Addr) (cl : Nat), zkv = [(0, .pointer (some ⟨bm, 0, none⟩)), (4, .pointer none), (5, .pointer (some ⟨b1, 0, none⟩)), (6, .slice pl j cl), (7, .int .i64 (↑(f + j) : Int))] ∧ zm = K - ((↑(f + j) : Int)).toNat ∧ Below w.heap.size w V ∧ Blk V bm ([.slice p K c]) 57 ∧ Blk V b1 ([.slice none 0 0, .int .i64 0]) 31 ∧ V.ownsRow w.heap.size 3 1 (.slice pl j cl) j ((rngJ f j).map (Value.int .i64)) ∧ f + j ≤ K) ⟨0, _, _, rfl, rfl, n1.below, hk'1, n1.blk, World.ownsRow_nil _ _ _ _, by omega⟩ ?_
 rintro _ _ W3 ⟨j, pl, cl, rfl, rfl, hB_3, k3_bm, k3_b1, ho, hj⟩ J3 hJ3 r3
 refine xb 7 0 k3_bm ?_
 refine xid 4 ((↑(f + j) : Int) < (↑K : Int)) (fun hc4 => ?_) (fun hc4 => ?_)
 · refine xbs 7 1 [.int .i64 (↑(f + j) : Int)] 3 fun b5 W5 n5 => ?_
   have r5_ho := own_ne ho n5
   have ho'1 := own_below ho n5.below
   have hB'1 := Bl.next hB_3 n5.below
   refine xbi 0 fun _ _ _ _ zJ zQ zo zx zy zK => op_app (m := 1) (news := [.int .i64 (↑(f + j) : Int)]) (.int .i64 0) 1 8 (j + 1) ((rngJ f (j + 1)).map (Value.int .i64)) zo Tryz.underlying22 (by kernel_rfl) rfl (by decide) zx ho'1 zy (n5.blk.sl 1 1 (by decide) (by decide)) rfl (by simp [Value.oneCell']) (by unfold maxLen; omega) (by omega) hB'1.size (by rfl) (by rw [rngJ_succ]; simp) fun p6 c6 W6 o6 hg6 hb6 => ?_
   refine zK _ _ ?_
   refine xwm 6 ((↑(f + j) : Int) + 1) (↑((f + j) + 1) : Int) ?_
   have hB'2 := hB'1.trans hb6
   have k3_bm'1 := (k3_bm.below n5.below).grown hg6 ho'1 (by decide)
   have k3_b1'1 := (k3_b1.below n5.below).grown hg6 ho'1 (by decide)
   exact ze 2 (hJ3 _ _ _ ⟨j + 1, _, _, rfl, rfl, hB'2, k3_bm'1, k3_b1'1, o6, by omega⟩ (by omega))
 have hjN : K - f = j := by omega
 have hz9 : w.heap.size ≤ (W3).heap.size := hB_3.size
 refine xc 9 (args := #[.pointer (some ⟨bm, 0, none⟩), .slice pl j cl]) (ref_From_rng bm p f K c j pl cl _ k3_bm hK h1 h2 hjN (own_sl ho)) ?_
 rintro _ W7 ⟨bc, pg, cg, rfl, hb7, hA⟩
 replace hA := hA.mono hz9
 have k3_b1'2 := k3_b1.below hb7
 refine xsv 3 k3_b1'2 [.slice none 0 0, .int .i64 0] fun W8 u8 k8 => ?_
 have g1 := n1.ge (Below.refl w.heap.size _)
 have hB'3 := u8.below (Bl.next hB_3 hb7) g1
 have hA'1 := hA.only (Only.of_upd (T := [31]) u8 k3_b1'2 (by decide)) (by decide)
 exact xec 3 k8 (.tuple #[.pointer (some ⟨bc, 0, none⟩), .agg #[.slice none 0 0, .int .i64 0]]) ⟨_, _, _, rfl, hB'3, hA'1⟩
end Go.Proofs.YtbhjgcokpmiopaaGreatDoor
namespace Go.Proofs.YtbhjgcokpmiopaaGreatDoor
open Go.RowKit Go.Extern.Stop Go.Stop Go.Extern
set_option linter.unusedVariables false
attribute [local irreducible] wpList wpAnyH Code.wp Oper.wp Go

theorem ints_nil0 (w : World) : Ints w (.slice none 0 0) [] := .inl ⟨none, 0, rfl, rfl, rfl⟩
theorem ref_New_badN (bm : Nat) (p : Option Addr) (K c : Nat) (l : List UInt8) (B : Nat) (f : Int) (w : World) (hJ : RefI B bm p K c l w) (hf : ¬ (1 ≤ f ∧ f ≤ (K : Int))) :
    Calls Tryz.prog 7 #[.pointer (some ⟨bm, 0, none⟩), .int .i64 f] w (Ret (.tuple #[.pointer none, .agg #[.slice none 0 0, .int .i64 1]]) w) := ref_New_bad bm p K c f w hJ.blk hf
theorem ref_NewN (bm : Nat) (p : Option Addr) (K c : Nat) (l : List UInt8) (B : Nat) (f : Int) (w : World) (hJ : RefI B bm p K c l w) (hf : 1 ≤ f ∧ f ≤ (K : Int)) :
    Calls Tryz.prog 7 #[.pointer (some ⟨bm, 0, none⟩), .int .i64 f] w (RNewP bm f.toNat K w) := by
  have h := ref_New bm p f.toNat K c w hJ.blk hJ.hk (by omega) (by omega)
  rwa [show ((f.toNat : Nat) : Int) = f by omega] at h
theorem told_z (er : Int) (v : Value) (w : World) (hg : ErrT w) (hv : ErrV w [] (erT er) v) : Calls Tryz.prog 13 #[v] w (RetS (fun w' r => FltV w' r [] er) w) := by
  have := law05_Told (erT er) [] v w (by decide) hg hv
  rwa [show codeOf [] (erT er) = er from (by unfold erT; split <;> simp_all [codeOf, noErr]), show blocksOf ([] : List (Option Int)) = [] from rfl] at this
end Go.Proofs.YtbhjgcokpmiopaaGreatDoor
namespace Go.Proofs.YtbhjgcokpmiopaaGreatDoor
open Go.RowKit Go.Extern.Stop Go.Stop Go.Extern
set_option linter.unusedVariables false
attribute [local irreducible] wpList wpAnyH Code.wp Oper.wp Go

set_option maxRecDepth 100000 in
set_option maxHeartbeats 1000000 in
theorem law22_made (N f : Nat) (w : World) (hN : N ≤ 14400) (h1 : 1 ≤ f) (h2 : f ≤ N) :
    Calls Tryz.prog 5 #[.int .i64 (↑N : Int), .int .i64 (↑f : Int)] w (RetS (fun w' r => ∃ ba b g c pa ca, r = .pointer (some ⟨ba, 0, none⟩) ∧ AlC w.heap.size ba (256 * N) c ca f (N - f) ∧ Al w.heap.size ba b g (256 * N) c pa ca f (N - f) 0 (List.replicate (256 * N) (0 : UInt8)) w') w) := by
 refine zin 17 Tryz.func5 ?_
 refine xwm 8 (256 * (↑N : Int)) (↑(256 * N) : Int) ?_
 refine xmk 0 fun _ _ _ _ zJ zQ zo zx zy zK => op_make (256 * N) (.int .u8 0) 1 1 ((List.replicate (256 * N) (0 : UInt8)).map bv) zo zx zy Tryz.underlying28 (by kernel_rfl) rfl (by omega) (by omega) (zerosB (256 * N)) fun b1 W1 n1 => ?_
 refine zK _ _ ?_
 have o1 := own_of_blk (size := 1) (n := (256 * N)) n1.blk (n1.ge (Below.refl w.heap.size _)) (by rw [List.length_map, List.length_replicate, Nat.mul_one]) (by unfold maxLen; omega)
 refine xc 0 (args := #[.slice (some ⟨b1, 0, none⟩) (256 * N) (256 * N)]) (image_OfN (some ⟨b1, 0, none⟩) (256 * N) (256 * N) (256 * N) (List.replicate (256 * N) (0 : UInt8)) _ List.length_replicate (by omega) (bys_of (own_sl o1) List.length_replicate) (by omega) (Nat.le_refl _)) ?_
 rintro _ W2 ⟨_, rfl, hb2, bi, pi, ci, rfl, gi, ki, hd⟩
 have hd'1 := own_mono hd n1.below.size
 rw [List.take_of_length_le (by rw [List.length_replicate]; omega)] at hd'1
 obtain ⟨g, rfl, hci⟩ := own_someN hd'1 (by omega)
 have hB := Bl.next n1.below hb2
 have hs9 := hB.size
 refine xc 1 (args := #[.pointer (some ⟨bi, 0, none⟩), .int .i64 (↑f : Int)]) (alloc_NewN bi (some ⟨g, 0, none⟩) (256 * N) ci f (N - f) (f : Int) rfl (by omega) _ ki (by omega) h1 (by omega)) ?_
 rintro _ W3 ⟨_, rfl, hb3, ba, pa, ca, rfl, ga, ka, ho⟩
 replace ga := Nat.le_trans hs9 ga
 have ki'1 := ki.below hb3
 have hd'2 := own_below hd'1 hb3
 have ho'1 := own_mono ho hB.size
 have hA : Al w.heap.size ba bi g (256 * N) ci pa ca f (N - f) 0 (List.replicate (256 * N) (0 : UInt8)) _ := ⟨ka, ki'1, hd'2, ho'1⟩
 have hca : N - f ≤ ca := by
   rcases Nat.eq_zero_or_pos (N - f) with q | q
   · omega
   · exact own_cap ho'1 q
 have hC : AlC w.heap.size ba (256 * N) ci ca f (N - f) := ⟨by omega, hci, hca, by omega, ga⟩
 have hB'1 := Bl.next hB hb3
 exact xe 14 (.pointer (some ⟨ba, 0, none⟩)) ⟨_, rfl, hB'1, _, _, _, _, _, _, rfl, hC, hA⟩
theorem madeN22 (N f : Nat) (Ni fi : Int) (hNi : Ni = (N : Int)) (hfi : fi = (f : Int)) (w : World) (hN : N ≤ 14400) (h1 : 1 ≤ f) (h2 : f ≤ N) :
    Calls Tryz.prog 5 #[.int .i64 Ni, .int .i64 fi] w (RetS (fun w' r => ∃ ba b g c pa ca, r = .pointer (some ⟨ba, 0, none⟩) ∧ AlC w.heap.size ba (256 * N) c ca f (N - f) ∧ Al w.heap.size ba b g (256 * N) c pa ca f (N - f) 0 (List.replicate (256 * N) (0 : UInt8)) w') w) := by
  subst hNi hfi; exact law22_made N f w hN h1 h2
theorem nodN_0 (t : Int) (h : 1 ≤ maxN t true) : nodN t 0 = 1 := by
  unfold nodN levL
  rw [show ovN 0 (maxN t true) = 1 from by unfold ovN; rw [Nat.div_eq_of_lt (by omega)]; rfl, levs_one (by decide)]; rfl
theorem plotB_root {l : List Int} {q : Nat} {bs : List UInt8} (hq : 1 ≤ q) : (plotB l q bs).2.1 = ((q + plotN l - 1 : Nat) : Int) := by
  unfold plotB
  simp only
  rw [treeB_root (by omega)]
  unfold plotN
  congr 1; omega
theorem plotB_index {l : List Int} {q : Nat} {bs : List UInt8} (hq : 1 ≤ q) : (plotB l q bs).1 = ((q + bmN l.length + nodN 4 (bmN l.length) - 1 : Nat) : Int) := by
  unfold plotB
  simp only
  rw [treeB_root (by omega), slotsE_len]
theorem bmN_0 : bmN 0 = 0 := rfl
theorem plotN_nil : plotN [] = 2 := by
  unfold plotN
  rw [show bmN ([] : List Int).length = 0 from rfl, nodN_0 4 (by decide), show (overK [] ([] : List Int).length).length = 0 from rfl, nodN_0 5 (by decide)]
set_option maxRecDepth 100000 in
set_option maxHeartbeats 4000000 in
theorem lives22 (w : World) :
    Calls Tryz.prog 4 #[] w (Ret (.bool true) w) := by
 refine zin 29 Tryz.func4 ?_
 have hs1 : w.heap.size ≤ (w).heap.size := (Below.refl w.heap.size _).size
 refine xc 7 (args := #[.int .i64 9, .int .i64 5]) (madeN22 9 5 (9) (5) (by simp) rfl _ (by decide) (by decide) (by decide)) ?_
 rintro _ W1 ⟨_, rfl, hb1, ba, b, g, c, pa, ca, rfl, hC, hA⟩
 have hs1 := Nat.le_refl w.heap.size
 replace hC := hC.mono hs1
 replace hA := hA.mono hs1
 refine xc 16 (args := #[.pointer (some ⟨ba, 0, none⟩), .slice none 0 0]) (plot_Data w.heap.size ba b g _ c pa ca 5 _ 0 (List.replicate (256 * 9) (0 : UInt8)) none 0 [] _ hC hA (.inl ⟨_, _, rfl, rfl, rfl⟩) (by decide) (splitE_good (by decide) fun k hk => absurd hk (by simp)) (by decide) (Nat.zero_le _) (by rw [plotN_nil]; decide) hb1.size) ?_
 rintro _ W2 ⟨rfl, hb2, hO2, hX2, hA⟩
 refine xgk 14 [15, 16] (show (((plotB [] (5 + 0) (List.replicate (256 * 9) (0 : UInt8))).1 == (5 : Int)) : Bool) = true from by rw [plotB_index (by decide), show bmN ([] : List Int).length = 0 from rfl, nodN_0 4 (by decide)]; rfl) ?_
 refine xgk 4 [18, 19, 20] (show (((plotB [] (5 + 0) (List.replicate (256 * 9) (0 : UInt8))).2.1 == (6 : Int)) : Bool) = true from by rw [plotB_root (by decide), plotN_nil]; rfl) ?_
 refine xr 5 (args := #[.pointer (some ⟨ba, 0, none⟩)]) (alloc_Used ba b _ (0 + plotN []) _ hA.blkA) fun W5 hb5 => ?_
 have hB'1 := Bl.next (hb1.trans hb2) hb5
 exact xe 6 (.bool ((↑(0 + plotN []) : Int) == (2 : Int))) ⟨by rw [plotN_nil]; rfl, hB'1⟩
end Go.Proofs.YtbhjgcokpmiopaaGreatDoor
namespace Go.Proofs.YtbhjgcokpmiopaaGreatDoor
open Go.RowKit Go.Extern.Stop Go.Stop Go.Extern
set_option linter.unusedVariables false
attribute [local irreducible] wpList wpAnyH Code.wp Oper.wp Go

set_option maxRecDepth 100000 in
set_option maxHeartbeats 1000000 in
theorem plot_Data_bad (B ba b g nn cc : Nat) (pa : Option Addr) (ca f N k0 : Nat) (bs : List UInt8) (a : Option Addr) (c : Nat) (l : List Int) (w : World) (hC : AlC B ba nn cc ca f N) (hA : Al B ba b g nn cc pa ca f N k0 bs w) (h : Sl w (.slice a l.length c) l.length (l.map (Value.int .i64))) (hl : l.length ≤ 3000) (hs : splitE l ≠ 0) :
    Calls Tryz.prog 18 #[.pointer (some ⟨ba, 0, none⟩), .slice a l.length c] w (Ret (.tuple #[.int .i64 0, .int .i64 0, .iface 38 (.int .i64 2)]) w) := by
 refine zin 70 Tryz.func18 ?_
 refine xr 11 (args := #[.pointer (some ⟨ba, 0, none⟩)]) (alloc_Image ba b _ _ _ hA.blkA) fun W1 hb1 => ?_
 refine xr 9 (args := #[.slice a l.length c]) ((tally_Split a c l _ (h.below hb1) (by omega)).mono (fun _ _ q => (q.resolve_right (fun z => hs z.1)).2)) fun W2 hb2 => ?_
 have hB'1 := Bl.next hb1 hb2
 exact xe 28 (.tuple #[.int .i64 0, .int .i64 0, .iface 38 (.int .i64 2)]) ⟨rfl, hB'1⟩
set_option maxRecDepth 100000 in
set_option maxHeartbeats 1000000 in
theorem plot_Data_nil (x : Value) (w : World) :
    Calls Tryz.prog 18 #[.pointer none, x] w (Ret (.tuple #[.int .i64 0, .int .i64 0, .iface 38 (.int .i64 18)]) w) := by
 refine zin 70 Tryz.func18 ?_
 refine xr 11 (args := #[.pointer none]) (alloc_Image_nil _) fun W1 hb1 => ?_
 exact xe 14 (.tuple #[.int .i64 0, .int .i64 0, .iface 38 (.int .i64 18)]) ⟨rfl, hb1⟩
def dataE (l : List Int) (left : Nat) : Int := if splitE l ≠ 0 then 2 else if left < plotN l then 14 else 0
theorem plot_DataG (B ba b g nn cc : Nat) (pa : Option Addr) (ca f N k0 : Nat) (bs : List UInt8) (a : Option Addr) (c : Nat) (l : List Int) (w : World) (hC : AlC B ba nn cc ca f N) (hA : Al B ba b g nn cc pa ca f N k0 bs w) (h : Sl w (.slice a l.length c) l.length (l.map (Value.int .i64))) (hl : l.length ≤ 3000) (hf1 : 1 ≤ f) (hkN : k0 ≤ N) (hBw : B ≤ w.heap.size) : Calls Tryz.prog 18 #[.pointer (some ⟨ba, 0, none⟩), .slice a l.length c] w (fun e w' =>
    (dataE l (N - k0) ≠ 0 ∧ e = .returned (.tuple #[.int .i64 0, .int .i64 0, .iface 38 (.int .i64 (dataE l (N - k0)))]) ∧ Below w.heap.size w w') ∨ (dataE l (N - k0) = 0 ∧ DataP B ba b g nn cc pa ca f N k0 bs l w e w')) := by
  by_cases hs : splitE l = 0
  · by_cases hk : N - k0 < plotN l
    · have e : dataE l (N - k0) = 14 := by unfold dataE; rw [if_neg (by rw [hs]; decide), if_pos hk]
      refine (plot_Data_none B ba b g nn cc pa ca f N k0 bs a c l w hC hA h hl hs hf1 hkN (by omega) hBw).mono ?_
      rintro _ W ⟨rfl, hb⟩
      exact .inl ⟨by rw [e]; decide, by rw [e], hb⟩
    · have e : dataE l (N - k0) = 0 := by unfold dataE; rw [if_neg (by rw [hs]; decide), if_neg hk]
      exact (plot_Data B ba b g nn cc pa ca f N k0 bs a c l w hC hA h hl hs hf1 hkN (by omega) hBw).mono fun _ _ q => .inr ⟨e, q⟩
  · have e : dataE l (N - k0) = 2 := by unfold dataE; rw [if_pos hs]
    refine (plot_Data_bad B ba b g nn cc pa ca f N k0 bs a c l w hC hA h hl hs).mono ?_
    rintro _ W ⟨rfl, hb⟩
    exact .inl ⟨by rw [e]; decide, by rw [e], hb⟩
theorem dataE_ok {l : List Int} {left : Nat} (h : dataE l left = 0) : splitE l = 0 ∧ plotN l ≤ left := by
  unfold dataE at h
  by_cases hs : splitE l = 0
  · rw [if_neg (by rw [hs]; decide)] at h
    by_cases hk : left < plotN l
    · rw [if_pos hk] at h; cases h
    · exact ⟨hs, by omega⟩
  · rw [if_pos hs] at h; cases h
theorem and63 (x : Int) : ∃ n : Nat, IntKind.i64.wrap (↑(BitVec.ofInt 64 x &&& BitVec.ofInt 64 (63 : Int)).toNat : Int) = (n : Int) ∧ n ≤ 63 := by
  refine ⟨(BitVec.ofInt 64 x &&& BitVec.ofInt 64 (63 : Int)).toNat, ?_, ?_⟩
  · have h : (BitVec.ofInt 64 x &&& BitVec.ofInt 64 (63 : Int)).toNat ≤ 63 := by rw [BitVec.toNat_and]; exact Nat.and_le_right
    exact i64_nat (by omega)
  · rw [BitVec.toNat_and]; exact Nat.and_le_right
set_option maxRecDepth 100000 in
set_option maxHeartbeats 1000000 in
theorem law22_made_bad (N : Nat) (f : Int) (w : World) (hN : N ≤ 14400) (hf : ¬ (1 ≤ f ∧ f ≤ (N : Int))) :
    Calls Tryz.prog 5 #[.int .i64 (↑N : Int), .int .i64 f] w (Ret (.pointer none) w) := by
 refine zin 17 Tryz.func5 ?_
 refine xwm 8 (256 * (↑N : Int)) (↑(256 * N) : Int) ?_
 refine xmk 0 fun _ _ _ _ zJ zQ zo zx zy zK => op_make (256 * N) (.int .u8 0) 1 1 ((List.replicate (256 * N) (0 : UInt8)).map bv) zo zx zy Tryz.underlying28 (by kernel_rfl) rfl (by omega) (by omega) (zerosB (256 * N)) fun b1 W1 n1 => ?_
 refine zK _ _ ?_
 have o1 := own_of_blk (size := 1) (n := (256 * N)) n1.blk (n1.ge (Below.refl w.heap.size _)) (by rw [List.length_map, List.length_replicate, Nat.mul_one]) (by unfold maxLen; omega)
 refine xc 0 (args := #[.slice (some ⟨b1, 0, none⟩) (256 * N) (256 * N)]) (image_OfN (some ⟨b1, 0, none⟩) (256 * N) (256 * N) (256 * N) (List.replicate (256 * N) (0 : UInt8)) _ List.length_replicate (by omega) (bys_of (own_sl o1) List.length_replicate) (by omega) (Nat.le_refl _)) ?_
 rintro _ W2 ⟨_, rfl, hb2, bi, pi, ci, rfl, gi, ki, hd⟩
 refine xr 1 (args := #[.pointer (some ⟨bi, 0, none⟩), .int .i64 f]) (alloc_New_bad bi pi (256 * N) ci f _ ki (by omega) (by omega)) fun W3 hb3 => ?_
 have hB := Bl.next (Bl.next n1.below hb2) hb3
 exact xe 14 (.pointer none) ⟨rfl, hB⟩
/-- law22.made, whatever the first block -/
def Made22P (N : Nat) (f : Int) (w : World) (e : Ending) (w' : World) : Prop :=
  (¬ (1 ≤ f ∧ f ≤ (N : Int)) ∧ e = .returned (.pointer none) ∧ Below w.heap.size w w') ∨
  ((1 ≤ f ∧ f ≤ (N : Int)) ∧ ∃ ba b g c pa ca, e = .returned (.pointer (some ⟨ba, 0, none⟩)) ∧ Below w.heap.size w w' ∧ AlC w.heap.size ba (256 * N) c ca f.toNat (N - f.toNat) ∧ Al w.heap.size ba b g (256 * N) c pa ca f.toNat (N - f.toNat) 0 (List.replicate (256 * N) (0 : UInt8)) w')
theorem law22_madeG (N : Nat) (f : Int) (w : World) (hN : N ≤ 14400) : Calls Tryz.prog 5 #[.int .i64 (N : Int), .int .i64 f] w (Made22P N f w) := by
  by_cases hf : 1 ≤ f ∧ f ≤ (N : Int)
  · refine (madeN22 N f.toNat (N : Int) f rfl (by omega) w hN (by omega) (by omega)).mono ?_
    rintro e W ⟨_, rfl, hb, ba, b, g, c, pa, ca, rfl, hC, hA⟩
    exact .inr ⟨hf, ba, b, g, c, pa, ca, rfl, hb, hC, hA⟩
  · refine (law22_made_bad N f w hN hf).mono ?_
    rintro e W ⟨rfl, hb⟩
    exact .inl ⟨hf, rfl, hb⟩
end Go.Proofs.YtbhjgcokpmiopaaGreatDoor
namespace Go.Proofs.YtbhjgcokpmiopaaGreatDoor
open Go.RowKit Go.Extern.Stop Go.Stop Go.Extern
set_option linter.unusedVariables false
attribute [local irreducible] wpList wpAnyH Code.wp Oper.wp Go

def metaE (l : List Int) (K left : Nat) : Int := if l.length ≠ K then 1 else if splitE l ≠ 0 then 2 else if left < needM l then 14 else 0
theorem metaE_ok {l : List Int} {K left : Nat} (h : metaE l K left = 0) : l.length = K ∧ splitE l = 0 ∧ needM l ≤ left := by
  unfold metaE at h
  by_cases h1 : l.length = K
  · rw [if_neg (fun q => q h1)] at h
    by_cases hs : splitE l = 0
    · rw [if_neg (fun q => q hs)] at h
      by_cases hk : left < needM l
      · rw [if_pos hk] at h; cases h
      · exact ⟨h1, hs, by omega⟩
    · rw [if_pos hs] at h; cases h
  · rw [if_pos h1] at h; cases h
theorem plot_MetaG (B ba b g nn cc : Nat) (pa : Option Addr) (ca f N k0 : Nat) (bs : List UInt8) (a : Option Addr) (c : Nat) (l : List Int) (K : Nat) (w : World) (hK : nn / 256 = K) (hC : AlC B ba nn cc ca f N) (hA : Al B ba b g nn cc pa ca f N k0 bs w) (h : Sl w (.slice a l.length c) l.length (l.map (Value.int .i64))) (hl : l.length ≤ 3000) (hf1 : 1 ≤ f) (hkN : k0 ≤ N) (hfree : FreeOk l (f : Int)) (hfree2 : FreeOk l ((f + k0 : Nat) : Int)) (hBw : B ≤ w.heap.size) : Calls Tryz.prog 8 #[.pointer (some ⟨ba, 0, none⟩), .slice a l.length c] w (fun e w' =>
    (metaE l K (N - k0) ≠ 0 ∧ e = .returned (.tuple #[.int .i64 0, .int .i64 0, .iface 38 (.int .i64 (metaE l K (N - k0)))]) ∧ Below w.heap.size w w') ∨ (metaE l K (N - k0) = 0 ∧ MetaP B ba b g nn cc pa ca f N k0 bs l w e w')) := by
  subst hK
  by_cases h1 : l.length = nn / 256
  · by_cases hs : splitE l = 0
    · by_cases hk : N - k0 < needM l
      · have e : metaE l (nn / 256) (N - k0) = 14 := by unfold metaE; rw [if_neg (fun q => q h1), if_neg (fun q => q hs), if_pos hk]
        refine (plot_Meta_none B ba b g nn cc pa ca f N k0 bs a c l w hC hA h hl h1 hs hkN (by omega)).mono ?_
        rintro _ W ⟨rfl, hb⟩
        exact .inl ⟨by rw [e]; decide, by rw [e], hb⟩
      · have e : metaE l (nn / 256) (N - k0) = 0 := by unfold metaE; rw [if_neg (fun q => q h1), if_neg (fun q => q hs), if_neg hk]
        have hcf := hC.hf
        obtain ⟨p, rfl⟩ : ∃ p, a = some p := by
          rcases Sl.at h with q | ⟨b, off, q, _⟩
          · have h0 := congrArg List.length q
            simp only [List.length_map, List.length_nil] at h0
            omega
          · exact ⟨_, q⟩
        exact (plot_Meta B ba b g nn cc pa ca f N k0 bs p c l w hC hA h hl h1 hs hkN (by omega) hf1 hfree hfree2 hBw).mono fun _ _ q => .inr ⟨e, q⟩
    · have e : metaE l (nn / 256) (N - k0) = 2 := by unfold metaE; rw [if_neg (fun q => q h1), if_pos hs]
      refine (plot_Meta_bad B ba b g nn cc pa ca f N k0 bs a c l w hC hA h hl h1 hs).mono ?_
      rintro _ W ⟨rfl, hb⟩
      exact .inl ⟨by rw [e]; decide, by rw [e], hb⟩
  · have e : metaE l (nn / 256) (N - k0) = 1 := by unfold metaE; rw [if_pos h1]
    refine (plot_Meta_len B ba b g nn cc pa ca f N k0 bs a c l w hC hA h hl h1).mono ?_
    rintro _ W ⟨rfl, hb⟩
    exact .inl ⟨by rw [e]; decide, by rw [e], hb⟩
theorem ref22_MetaE (B bc bm : Nat) (pg : Option Addr) (N cg : Nat) (fa : Option Addr) (mf fc f k0 : Nat) (p : Option Addr) (K cI : Nat) (bs : List UInt8) (a : Option Addr) (c : Nat) (l : List Int) (w : World) (hR : RAl B bc bm pg N cg fa mf fc k0 (rngJ f N) w) (h : Sl w (.slice a l.length c) l.length (l.map (Value.int .i64))) (hl : l.length ≤ 3000) (hJ : RefI B bm p K cI bs w) (he : metaE l K (N - k0) ≠ 0) :
    Calls Tryz.prog 11 #[.pointer (some ⟨bc, 0, none⟩), .slice a l.length c] w (Ret (.tuple #[.int .i64 0, .int .i64 0, .agg #[.slice none 0 0, .int .i64 (metaE l K (N - k0))]]) w) := by
  by_cases h1 : l.length = K
  · by_cases hs : splitE l = 0
    · by_cases hk : N - k0 < needM l
      · have e : metaE l K (N - k0) = 14 := by unfold metaE; rw [if_neg (fun q => q h1), if_neg (fun q => q hs), if_pos hk]
        rw [e]
        exact ref22_Meta_none B bc bm pg N cg fa mf fc f k0 p K cI bs a c l w hR h hl hJ h1 hs (by have := hR.hm; omega)
      · exact absurd (by unfold metaE; rw [if_neg (fun q => q h1), if_neg (fun q => q hs), if_neg hk]) he
    · have e : metaE l K (N - k0) = 2 := by unfold metaE; rw [if_neg (fun q => q h1), if_pos hs]
      rw [e]
      exact ref22_Meta_bad B bc bm pg N cg fa mf fc f k0 p K cI bs a c l w hR h hl hJ h1 hs
  · have e : metaE l K (N - k0) = 1 := by unfold metaE; rw [if_pos h1]
    rw [e]
    exact ref22_Meta_len B bc bm pg N cg fa mf fc f k0 p K cI bs a c l w hR h hl hJ h1
theorem free_cast {l : List Int} {f : Int} (hf : 1 ≤ f) (h : FreeOk l f) : FreeOk l ((f.toNat : Nat) : Int) := by rw [Int.toNat_of_nonneg (by omega)]; exact h
theorem and2047 (x : Int) : ∃ n : Nat, IntKind.i64.wrap (↑(BitVec.ofInt 64 x &&& BitVec.ofInt 64 (2047 : Int)).toNat : Int) = (n : Int) ∧ n ≤ 2047 := by
  refine ⟨(BitVec.ofInt 64 x &&& BitVec.ofInt 64 (2047 : Int)).toNat, ?_, ?_⟩
  · have h : (BitVec.ofInt 64 x &&& BitVec.ofInt 64 (2047 : Int)).toNat ≤ 2047 := by rw [BitVec.toNat_and]; exact Nat.and_le_right
    exact i64_nat (by omega)
  · rw [BitVec.toNat_and]; exact Nat.and_le_right
set_option maxRecDepth 100000 in
set_option maxHeartbeats 8000000 in
theorem plotMeta_law (n0 f : Int) (a : Option Addr) (c : Nat) (l : List Int) (w : World) (hg : ErrT w) (h : Sl w (.slice a l.length c) l.length (l.map (Value.int .i64))) :
    Calls Tryz.prog 3 #[.int .i64 n0, .int .i64 f, .slice a l.length c] w (Ret (.bool true) w) := by
 obtain ⟨N, hN, hN7⟩ := and2047 n0
 refine zin 114 Tryz.func3 ?_
 refine xid 13 ((↑l.length : Int) > (3000 : Int)) (fun hc1 => ?_) (fun hc1 => ?_)
 · refine xr 2 (args := #[]) (lives22 _) fun W2 hb2 => ?_
   exact xe 5 (.bool true) ⟨rfl, hb2⟩
 refine xq 5 (congrArg (Value.int .i64) (show (IntKind.i64.wrap (↑(BitVec.ofInt 64 n0 &&& BitVec.ofInt 64 (2047 : Int)).toNat : Int) : Int) = (↑N : Int) from hN)) ?_
 have hw9 : w.heap.size ≤ (w).heap.size := (Below.refl w.heap.size _).size
 refine xc 7 (args := #[.int .i64 (↑N : Int), .int .i64 f]) (law22_madeG N f _ (by omega)) ?_
 rintro e W3 hq3
 rcases hq3 with ⟨hf, rfl, hb3⟩ | ⟨hf, ba, b, g, c5, pa, ca, rfl, hb3, hC, hA⟩
 · refine xwm 6 (256 * (↑N : Int)) (↑(256 * N) : Int) ?_
   refine xmk 0 fun _ _ _ _ zJ zQ zo zx zy zK => op_make (256 * N) (.int .u8 0) 1 1 ((List.replicate (256 * N) (0 : UInt8)).map bv) zo zx zy Tryz.underlying28 (by kernel_rfl) rfl (by omega) (by omega) (zerosB (256 * N)) fun b4 W4 n4 => ?_
   refine zK _ _ ?_
   have hB := Bl.next hb3 n4.below
   have hw7 : w.heap.size ≤ (W4).heap.size := hB.size
   have o4 := own_of_blk (size := 1) (n := (256 * N)) n4.blk (n4.ge hb3) (by rw [List.length_map, List.length_replicate, Nat.mul_one]) (by unfold maxLen; omega)
   refine xc 0 (args := #[.slice (some ⟨b4, 0, none⟩) (256 * N) (256 * N)]) (ref_OfN (some ⟨b4, 0, none⟩) (256 * N) (256 * N) N (List.replicate (256 * N) (0 : UInt8)) _ List.length_replicate (by omega) (bys_of (own_sl o4) List.length_replicate) (by omega)) ?_
   rintro _ W5 ⟨_, rfl, hb5, bj, pj, cj, rfl, _, hJ⟩
   replace hJ := hJ.mono hw7
   rw [List.take_of_length_le (by rw [List.length_replicate]; omega)] at hJ
   refine xr 7 (args := #[.pointer (some ⟨bj, 0, none⟩), .int .i64 f]) (ref_New_badN bj pj N cj (List.replicate (256 * N) (0 : UInt8)) w.heap.size f _ hJ hf) fun W6 hb6 => ?_
   refine xa 3 [.slice none 0 0, .int .i64 0] 31 fun b7 W7 n7 => ?_
   have hB'1 := Bl.next (Bl.next hB hb5) hb6
   have g7 := n7.ge hB'1
   refine xsv 1 n7.blk [.slice none 0 0, .int .i64 1] fun W8 u8 k8 => ?_
   refine xr 26 (args := #[.pointer none, .slice a l.length c]) (plot_Meta_nil _ _) fun W9 hb9 => ?_
   have hB'2 := Bl.next (u8.below (Bl.next hB'1 n7.below) g7) hb9
   refine xr 12 (args := #[.iface 38 (.int .i64 18)]) (fault_Code (some 18) [] _ _ (hg.below hB'2) rfl) fun W10 hb10 => ?_
   refine xr 2 (args := #[]) (lives22 _) fun W11 hb11 => ?_
   have hB'3 := Bl.next (Bl.next hB'2 hb10) hb11
   exact xe 6 (.bool true) ⟨rfl, hB'3⟩
 replace hC := hC.mono hw9
 replace hA := hA.mono hw9
 refine xwm 6 (256 * (↑N : Int)) (↑(256 * N) : Int) ?_
 refine xmk 0 fun _ _ _ _ zJ zQ zo zx zy zK => op_make (256 * N) (.int .u8 0) 1 1 ((List.replicate (256 * N) (0 : UInt8)).map bv) zo zx zy Tryz.underlying28 (by kernel_rfl) rfl (by omega) (by omega) (zerosB (256 * N)) fun b12 W12 n12 => ?_
 refine zK _ _ ?_
 have hB := Bl.next hb3 n12.below
 have hw7 : w.heap.size ≤ (W12).heap.size := hB.size
 have o12 := own_of_blk (size := 1) (n := (256 * N)) n12.blk (n12.ge hb3) (by rw [List.length_map, List.length_replicate, Nat.mul_one]) (by unfold maxLen; omega)
 refine xc 0 (args := #[.slice (some ⟨b12, 0, none⟩) (256 * N) (256 * N)]) (ref_OfN (some ⟨b12, 0, none⟩) (256 * N) (256 * N) N (List.replicate (256 * N) (0 : UInt8)) _ List.length_replicate (by omega) (bys_of (own_sl o12) List.length_replicate) (by omega)) ?_
 rintro _ W13 ⟨_, rfl, hb13, bj, pj, cj, rfl, _, hJ⟩
 replace hJ := hJ.mono hw7
 rw [List.take_of_length_le (by rw [List.length_replicate]; omega)] at hJ
 have hB'4 := Bl.next hB hb13
 have hw6 : w.heap.size ≤ (W13).heap.size := hB'4.size
 refine xc 7 (args := #[.pointer (some ⟨bj, 0, none⟩), .int .i64 f]) (ref_NewN bj pj N cj (List.replicate (256 * N) (0 : UInt8)) w.heap.size f _ hJ hf) ?_
 rintro _ W14 ⟨bc, pg, cg, rfl, hb14, hR⟩
 replace hR := hR.mono hw6
 refine xa 3 [.slice none 0 0, .int .i64 0] 31 fun b15 W15 n15 => ?_
 have hB'5 := Bl.next hB'4 hb14
 have g15 := n15.ge hB'5
 refine xsv 1 n15.blk [.slice none 0 0, .int .i64 0] fun W16 u16 k16 => ?_
 have hB'6 := u16.below (Bl.next hB'5 n15.below) g15
 refine xc 30 (args := #[.slice a l.length c, .int .i64 f]) (law22_free a c l f _ (h.below hB'6) (by omega)) ?_
 rintro e W17 hq17
 rcases hq17 with ⟨hfree, rfl, hb17⟩ | ⟨rfl, hb17⟩
 · have hfr := free_cast hf.1 hfree
   have hA'1 := (((((hA.below n12.below).below hb13).below hb14).below n15.below).only (Only.of_upd (T := [31]) u16 n15.blk (by decide)) (by decide)).below hb17
   have hB'7 := Bl.next hB'6 hb17
   refine xc 10 (args := #[.pointer (some ⟨ba, 0, none⟩), .slice a l.length c]) (plot_MetaG w.heap.size ba b g (256 * N) c5 pa ca f.toNat (N - f.toNat) 0 (List.replicate (256 * N) (0 : UInt8)) a c l N _ (by omega) hC hA'1 (h.below hB'7) (by omega) (by omega) (Nat.zero_le _) hfr hfr hB'7.size) ?_
   rintro e W18 hq18
   rcases hq18 with ⟨he, rfl, hb18⟩ | ⟨he, rfl, hb18, hO18, hX18, hA⟩
   · have hR'1 := (((hR.below n15.below).only (Only.of_upd (T := [31]) u16 n15.blk (by decide)) (by decide)).below hb17).below hb18
     have hB'8 := Bl.next hB'7 hb18
     have hJ'1 := ((((hJ.below hb14).below n15.below).only (Only.of_upd (T := [31]) u16 n15.blk (by decide)) (by decide)).below hb17).below hb18
     refine xr 13 (args := #[.pointer (some ⟨bc, 0, none⟩), .slice a l.length c]) (ref22_MetaE w.heap.size bc bj pg (N - f.toNat) cg pg (N - f.toNat) cg f.toNat 0 pj N cj (List.replicate (256 * N) (0 : UInt8)) a c l _ hR'1 (h.below hB'8) (by omega) hJ'1 he) fun W19 hb19 => ?_
     refine xa 4 [.slice none 0 0, .int .i64 0] 31 fun b20 W20 n20 => ?_
     have k16'1 := ((k16.below hb17).below hb18).below hb19
     have d20_b15 := n20.ne k16'1
     have hB'9 := Bl.next hB'8 hb19
     have g20 := n20.ge hB'9
     refine xsv 2 n20.blk [.slice none 0 0, .int .i64 (metaE l N (N - f.toNat - 0))] fun W21 u21 k21 => ?_
     refine xd 3 .z ?_
     have k21'1 := k21.below (below_drew W21)
     refine xlv (.e [0, 1, 2, 3, 4, 5, 6, 7, 8, 9] 11) k21'1.rp ?_
     have hB'10 := Bl.next (u21.below (Bl.next hB'9 n20.below) g20) (below_drew W21)
     refine yc (.o [] 10) (args := #[.iface 38 (.int .i64 (metaE l N (N - f.toNat - 0)))]) .z (told_z (metaE l N (N - f.toNat - 0)) _ _ (hg.below hB'10) (by rw [erT, if_neg he]; exact rfl)) ?_
     rintro _ W22 ⟨vt22, rfl, hb22, hq⟩
     refine ⟨hb22, ?_⟩
     refine xr (.o [] 12) (args := #[vt22, .agg #[.slice none 0 0, .int .i64 (metaE l N (N - f.toNat - 0))]]) (ref05_Same [] (metaE l N (N - f.toNat - 0)) vt22 _ _ hq ⟨_, rfl, ints_nil0 _⟩) fun W23 hb23 => ?_
     have hR'2 := (((((hR'1.below hb19).below n20.below).only (Only.of_upd (T := [31]) u21 n20.blk (by decide)) (by decide)).below (below_drew W21)).below hb22).below hb23
     refine xl (.e [13, 14, 15, 17, 18, 19] 20) (hR'2.blk.cell (i := 1) rfl) ?_
     have hA'2 := ((((((hA'1.below hb18).below hb19).below n20.below).only (Only.of_upd (T := [31]) u21 n20.blk (by decide)) (by decide)).below (below_drew W21)).below hb22).below hb23
     refine xr (.o [21] 16) (args := #[.pointer (some ⟨ba, 0, none⟩)]) (alloc_Left ba b pa (N - f.toNat) ca 0 _ hA'2.blkA (by omega)) fun W24 hb24 => ?_
     refine xgk (.b [22, 23, 24]) [99, 100, 101] (show (((↑(N - f.toNat - 0) : Int) == (↑(N - f.toNat) : Int)) : Bool) = true from by simp) ?_
     have hA'3 := hA'2.below hb24
     refine xr (.o [25, 29] 26) (args := #[.pointer (some ⟨ba, 0, none⟩)]) (alloc_Image ba b _ _ _ hA'3.blkA) fun W26 hb26 => ?_
     have hA'4 := hA'3.below hb26
     have hlb : (List.replicate (256 * N) (0 : UInt8)).length = 256 * N := by have h9 := hA'4.data.1; rw [List.length_map] at h9; omega
     refine yc (.o [] 27) (args := #[.pointer (some ⟨b, 0, none⟩)]) .z (image_Bytes b _ (256 * N) c5 (List.replicate (256 * N) (0 : UInt8)) _ hA'4.blkI (bys_of (own_sl hA'4.data) hlb) hlb (by omega)) ?_
     rintro _ W27 ⟨_, rfl, hb27, z1_⟩
     have hs27 := (Bl.next (Bl.next (Bl.next (Bl.next hB'10 hb22) hb23) hb24) hb26).size
     refine ⟨hb27, ?_⟩
     have z1_'1 := own_mono z1_ hs27
     unfold OwnB at z1_'1
     rw [hlb] at z1_'1
     obtain ⟨q1_, d1_, rfl⟩ := (own_sl z1_'1).slice
     refine xcv (.e [] 28) (fun _ _ _ zo zx V hV => run_bstr zo zx (bys_of (own_sl (own_below z1_'1 hV)) hlb) hlb Tryz.underlying28 Tryz.underlying5 Tryz.underlying9) ?_
     have hJ'2 := ((((((((hJ'1.below hb19).below n20.below).only (Only.of_upd (T := [31]) u21 n20.blk (by decide)) (by decide)).below (below_drew W21)).below hb22).below hb23).below hb24).below hb26).below hb27
     refine yc (.o [] 30) (args := #[.pointer (some ⟨bj, 0, none⟩)]) .z (ref_ImgBytes w.heap.size bj pj N cj (List.replicate (256 * N) (0 : UInt8)) _ hJ'2) ?_
     rintro _ W28 ⟨_, rfl, hb28, q2_, d2_, rfl, z2_⟩
     have hs28 := (Bl.next (Bl.next (Bl.next (Bl.next (Bl.next hB'10 hb22) hb23) hb24) hb26) hb27).size
     refine ⟨hb28, ?_⟩
     have z2_'1 := own_mono z2_ hs28
     have hJ'3 := hJ'2.below hb28
     refine xcv (.e [] 31) (fun _ _ _ zo zx V hV => run_bstr zo zx (bys_of (own_sl (own_below z2_'1 hV)) hJ'3.hl) hJ'3.hl Tryz.underlying28 Tryz.underlying5 Tryz.underlying9) ?_
     refine xgk (.b [32, 33, 34]) [109, 110, 111] (show (((⟨(List.replicate (256 * N) (0 : UInt8)).toArray⟩ : ByteArray).toList == (⟨(List.replicate (256 * N) (0 : UInt8)).toArray⟩ : ByteArray).toList) : Bool) = true from by simp) ?_
     refine xr (.o [] 35) (args := #[]) (lives22 _) fun W30 hb30 => ?_
     have hB'11 := Bl.next (Bl.next (Bl.next (Bl.next (Bl.next (Bl.next (Bl.next hB'10 hb22) hb23) hb24) hb26) hb27) hb28) hb30
     exact xe (.r [36, 37] 3) (.bool true) ⟨rfl, hB'11⟩
   have hdo := metaE_ok he
   have hR'3 := (((hR.below n15.below).only (Only.of_upd (T := [31]) u16 n15.blk (by decide)) (by decide)).below hb17).only hO18 (by decide)
   have hB'12 := hB'7.trans hb18
   have hJ'4 := ((((hJ.below hb14).below n15.below).only (Only.of_upd (T := [31]) u16 n15.blk (by decide)) (by decide)).below hb17).only hO18 (by decide)
   refine xc 13 (args := #[.pointer (some ⟨bc, 0, none⟩), .slice a l.length c]) (ref22_Meta w.heap.size bc bj pg (N - f.toNat) cg pg (N - f.toNat) cg f.toNat 0 pj N cj (List.replicate (256 * N) (0 : UInt8)) a c l _ hR'3 (h.below hB'12) (by omega) hdo.2.1 hdo.1 (by have := hdo.2.2; omega) (by omega) (by omega) hfr hfr hJ'4 hB'12.size) ?_
   rintro _ W31 ⟨fa, mf, fc, rfl, hb31, hO31, hR, hJ⟩
   have hRm := hR.hm
   refine xa 4 [.slice none 0 0, .int .i64 0] 31 fun b32 W32 n32 => ?_
   have k16'2 := ((k16.below hb17).only hO18 (by decide)).only hO31 (by decide)
   have d32_b15 := n32.ne k16'2
   have hB'13 := hB'12.trans hb31
   have g32 := n32.ge hB'13
   refine xsv 2 n32.blk [.slice none 0 0, .int .i64 0] fun W33 u33 k33 => ?_
   refine xd 3 .z ?_
   refine xgk (.b [0, 1, 2, 3]) [79, 80] (show (((metaB l f.toNat 0 (List.replicate (256 * N) (0 : UInt8))).1 == (metaB l f.toNat 0 (List.replicate (256 * N) (0 : UInt8))).1) : Bool) = true from by simp) ?_
   refine xgk (.b [4, 5, 6, 7, 8]) [83, 84, 85] (show (((metaB l f.toNat 0 (List.replicate (256 * N) (0 : UInt8))).2.1 == (metaB l f.toNat 0 (List.replicate (256 * N) (0 : UInt8))).2.1) : Bool) = true from by simp) ?_
   have k33'1 := k33.below (below_drew W33)
   refine xlv (.e [9] 11) k33'1.rp ?_
   have hB'14 := Bl.next (u33.below (Bl.next hB'13 n32.below) g32) (below_drew W33)
   refine yc (.o [] 10) (args := #[.nilIface]) .z (told_z 0 .nilIface _ (hg.below hB'14) rfl) ?_
   rintro _ W36 ⟨vt36, rfl, hb36, hq⟩
   refine ⟨hb36, ?_⟩
   refine xr (.o [] 12) (args := #[vt36, .agg #[.slice none 0 0, .int .i64 0]]) (ref05_Same [] 0 vt36 _ _ hq ⟨_, rfl, ints_nil0 _⟩) fun W37 hb37 => ?_
   have hR'4 := ((((hR.below n32.below).only (Only.of_upd (T := [31]) u33 n32.blk (by decide)) (by decide)).below (below_drew W33)).below hb36).below hb37
   refine xl (.e [13, 14, 15, 17, 18, 19] 20) (hR'4.blk.cell (i := 1) rfl) ?_
   have hA'5 := (((((hA.only hO31 (by decide)).below n32.below).only (Only.of_upd (T := [31]) u33 n32.blk (by decide)) (by decide)).below (below_drew W33)).below hb36).below hb37
   refine xr (.o [21] 16) (args := #[.pointer (some ⟨ba, 0, none⟩)]) (alloc_Left ba b pa (N - f.toNat) ca (0 + needM l) _ hA'5.blkA (by have := hdo.2.2; omega)) fun W38 hb38 => ?_
   refine xgk (.b [22, 23, 24]) [99, 100, 101] (show (((↑(N - f.toNat - (0 + needM l)) : Int) == (↑mf : Int)) : Bool) = true from by rw [show N - f.toNat - (0 + needM l) = mf by omega]; simp) ?_
   have hA'6 := hA'5.below hb38
   refine xr (.o [25, 29] 26) (args := #[.pointer (some ⟨ba, 0, none⟩)]) (alloc_Image ba b _ _ _ hA'6.blkA) fun W40 hb40 => ?_
   have hA'7 := hA'6.below hb40
   have hlb : (metaB l f.toNat 0 (List.replicate (256 * N) (0 : UInt8))).2.2.length = 256 * N := by have h9 := hA'7.data.1; rw [List.length_map] at h9; omega
   refine yc (.o [] 27) (args := #[.pointer (some ⟨b, 0, none⟩)]) .z (image_Bytes b _ (256 * N) c5 (metaB l f.toNat 0 (List.replicate (256 * N) (0 : UInt8))).2.2 _ hA'7.blkI (bys_of (own_sl hA'7.data) hlb) hlb (by omega)) ?_
   rintro _ W41 ⟨_, rfl, hb41, z1_⟩
   have hs41 := (Bl.next (Bl.next (Bl.next (Bl.next hB'14 hb36) hb37) hb38) hb40).size
   refine ⟨hb41, ?_⟩
   have z1_'2 := own_mono z1_ hs41
   unfold OwnB at z1_'2
   rw [hlb] at z1_'2
   obtain ⟨q1_, d1_, rfl⟩ := (own_sl z1_'2).slice
   refine xcv (.e [] 28) (fun _ _ _ zo zx V hV => run_bstr zo zx (bys_of (own_sl (own_below z1_'2 hV)) hlb) hlb Tryz.underlying28 Tryz.underlying5 Tryz.underlying9) ?_
   have hJ'5 := (((((((hJ.below n32.below).only (Only.of_upd (T := [31]) u33 n32.blk (by decide)) (by decide)).below (below_drew W33)).below hb36).below hb37).below hb38).below hb40).below hb41
   refine yc (.o [] 30) (args := #[.pointer (some ⟨bj, 0, none⟩)]) .z (ref_ImgBytes w.heap.size bj pj N cj (metaB l f.toNat 0 (List.replicate (256 * N) (0 : UInt8))).2.2 _ hJ'5) ?_
   rintro _ W42 ⟨_, rfl, hb42, q2_, d2_, rfl, z2_⟩
   have hs42 := (Bl.next (Bl.next (Bl.next (Bl.next (Bl.next hB'14 hb36) hb37) hb38) hb40) hb41).size
   refine ⟨hb42, ?_⟩
   have z2_'2 := own_mono z2_ hs42
   have hJ'6 := hJ'5.below hb42
   refine xcv (.e [] 31) (fun _ _ _ zo zx V hV => run_bstr zo zx (bys_of (own_sl (own_below z2_'2 hV)) hJ'6.hl) hJ'6.hl Tryz.underlying28 Tryz.underlying5 Tryz.underlying9) ?_
   refine xgk (.b [32, 33, 34]) [109, 110, 111] (show (((⟨((metaB l f.toNat 0 (List.replicate (256 * N) (0 : UInt8))).2.2).toArray⟩ : ByteArray).toList == (⟨((metaB l f.toNat 0 (List.replicate (256 * N) (0 : UInt8))).2.2).toArray⟩ : ByteArray).toList) : Bool) = true from by simp) ?_
   refine xr (.o [] 35) (args := #[]) (lives22 _) fun W44 hb44 => ?_
   have hB'15 := Bl.next (Bl.next (Bl.next (Bl.next (Bl.next (Bl.next (Bl.next hB'14 hb36) hb37) hb38) hb40) hb41) hb42) hb44
   exact xe (.r [36, 37] 3) (.bool true) ⟨rfl, hB'15⟩
 refine xr 6 (args := #[]) (lives22 _) fun W45 hb45 => ?_
 have hB'16 := Bl.next (Bl.next hB'6 hb17) hb45
 exact xe 5 (.bool true) ⟨rfl, hB'16⟩
end Go.Proofs.YtbhjgcokpmiopaaGreatDoor
namespace Go.Proofs.YtbhjgcokpmiopaaGreatDoor
open Go.ChangeShapes Go.WideShapes Go.ChangeAt Go.RowKit Go.Joins
set_option linter.unusedVariables false
theorem bytes_open {H : Type} {enc : TypeId × Value → H} {P : Program} {W : World} {r : Reach} {b0 : Nat} {t e : TypeId} {v : Value} {d : DataW H} {p : List MemPlace} (ht : P.underlying t = some (.slice e)) (he : P.underlying e = some (.int .u8)) (hC : P.cellsOf e = 1)
    (hv : Value.okWide P W r b0 t v) (h : DataW.Trod enc P W 0 (fun _ => true) true t v d p) : ∃ l, Bys W v l := by
  obtain ⟨a, len, cap, rfl⟩ := okWide_slice ht hv
  obtain ⟨fuel, hf⟩ := h
  rcases open_ints ht he hC hf with ⟨hcs, _⟩ | ⟨x, l, c, zs, hcs, _, hl, hm, hz, _, hcell, hwz⟩
  · simp [Value.cells] at hcs
    obtain ⟨rfl, rfl, rfl⟩ := hcs
    exact ⟨[], .inl ⟨_, _, rfl, rfl, rfl⟩⟩
  · simp [Value.cells] at hcs
    obtain ⟨rfl, rfl, rfl⟩ := hcs
    have hz' : zs.length = cap := by simpa using hz
    by_cases h0 : len = 0
    · subst h0
      exact ⟨[], .inl ⟨_, _, rfl, rfl, rfl⟩⟩
    · obtain ⟨b, off, spot⟩ := x
      have hc := hcell 0 (by omega)
      have hspot : spot = none := by simpa [Addr.add] using World.cell?_spot hc
      subst hspot
      have hlen : ((zs.take len).map fun n => UInt8.ofNat n.toNat).length = len := by simp; omega
      refine ⟨(zs.take len).map fun n => UInt8.ofNat n.toNat, .inr ⟨b, off, cap, by rw [hlen], by omega, hm, fun j x hj => ?_⟩⟩
      have hjl : j < len := by have := (List.getElem?_eq_some_iff.1 hj).1; simp at this; omega
      have e1 : zs[j]? = some zs[j] := List.getElem?_eq_getElem (by omega)
      have hw := hwz zs[j] (List.getElem_mem _)
      have hcj := hcell j (by omega)
      have e2 : zs.getD j 0 = zs[j] := by simp [List.getD, e1]
      rw [e2] at hcj
      have hx : x = .int .u8 zs[j] := by
        rw [List.getElem?_map, List.getElem?_map, List.getElem?_take_of_lt hjl, e1] at hj
        simp only [Option.map_some, Option.some.injEq] at hj
        rw [← hj]
        have hb : 0 ≤ zs[j] ∧ zs[j] ≤ 255 := by simpa [Lit.wf, IntKind.min, IntKind.max, IntKind.signed, IntKind.bits] using hw
        have h3 : (zs[j].toNat % 256 : Nat) = zs[j].toNat := Nat.mod_eq_of_lt (by omega)
        simp only [bv, UInt8.toNat_ofNat']
        rw [show (2 ^ 8 : Nat) = 256 from rfl, h3, Int.toNat_of_nonneg hb.1]
      subst hx
      by_cases hj0 : j = 0
      · subst hj0; simpa [Addr.add] using hcj
      · simpa [Addr.add, hj0] using hcj
end Go.Proofs.YtbhjgcokpmiopaaGreatDoor
namespace Go.Proofs.YtbhjgcokpmiopaaGreatDoor
open Go.ChangeShapes Go.WideShapes Go.ChangeAt Go.RowKit Go.Joins Go.Deep
set_option linter.unusedVariables false

theorem bytes_trod {H : Type} {enc : TypeId × Value → H} {P : Program} {W : World} {t e : TypeId} {v : Value} {y : DataW H × List MemPlace} {fuel : Nat} (ht : P.underlying t = some (.slice e)) (he : P.underlying e = some (.int .u8)) (hC : P.cellsOf e = 1)
    (hf : DataW.trod enc P W 0 (fun _ => true) true fuel t [v] = some y) : ∃ l, Bys W v l := by
  rcases open_ints ht he hC hf with ⟨hcs, _⟩ | ⟨x, len, cap, zs, hcs, _, hl, hm, hz, _, hcell, hwz⟩
  · simp at hcs
    subst hcs
    exact ⟨[], .inl ⟨_, _, rfl, rfl, rfl⟩⟩
  · simp at hcs
    subst hcs
    have hz' : zs.length = cap := by simpa using hz
    by_cases h0 : len = 0
    · subst h0
      exact ⟨[], .inl ⟨_, _, rfl, rfl, rfl⟩⟩
    · obtain ⟨b, off, spot⟩ := x
      have hc := hcell 0 (by omega)
      have hspot : spot = none := by simpa [Addr.add] using World.cell?_spot hc
      subst hspot
      have hlen : ((zs.take len).map fun n => UInt8.ofNat n.toNat).length = len := by simp; omega
      refine ⟨(zs.take len).map fun n => UInt8.ofNat n.toNat, .inr ⟨b, off, cap, by rw [hlen], by omega, hm, fun j x hj => ?_⟩⟩
      have hjl : j < len := by have := (List.getElem?_eq_some_iff.1 hj).1; simp at this; omega
      have e1 : zs[j]? = some zs[j] := List.getElem?_eq_getElem (by omega)
      have hw := hwz zs[j] (List.getElem_mem _)
      have hcj := hcell j (by omega)
      have e2 : zs.getD j 0 = zs[j] := by simp [List.getD, e1]
      rw [e2] at hcj
      have hx : x = .int .u8 zs[j] := by
        rw [List.getElem?_map, List.getElem?_map, List.getElem?_take_of_lt hjl, e1] at hj
        simp only [Option.map_some, Option.some.injEq] at hj
        rw [← hj]
        have hb : 0 ≤ zs[j] ∧ zs[j] ≤ 255 := by simpa [Lit.wf, IntKind.min, IntKind.max, IntKind.signed, IntKind.bits] using hw
        have h3 : (zs[j].toNat % 256 : Nat) = zs[j].toNat := Nat.mod_eq_of_lt (by omega)
        simp only [bv, UInt8.toNat_ofNat']
        rw [show (2 ^ 8 : Nat) = 256 from rfl, h3, Int.toNat_of_nonneg hb.1]
      subst hx
      by_cases hj0 : j = 0
      · subst hj0; simpa [Addr.add] using hcj
      · simpa [Addr.add, hj0] using hcj
theorem ints_nilcap {H : Type} {enc : TypeId × Value → H} {P : Program} {W : World} {r : Reach} {b0 : Nat} {t e : TypeId} {v : Value} {d : DataW H} {p : List MemPlace} (ht : P.underlying t = some (.slice e)) (he : P.underlying e = some (.int .i64)) (hC : P.cellsOf e = 1)
    (hv : Value.okWide P W r b0 t v) (h : DataW.Trod enc P W 0 (fun _ => true) true t v d p) : ∀ n c, v = .slice none n c → c = 0 := by
  obtain ⟨a, len, cap, rfl⟩ := okWide_slice ht hv
  obtain ⟨fuel, hf⟩ := h
  rcases open_ints ht he hC hf with ⟨hcs, _⟩ | ⟨x, l, c, zs, hcs, _, hl, hm, hz, _, hcell, hwz⟩
  · simp [Value.cells] at hcs
    obtain ⟨rfl, rfl, rfl⟩ := hcs
    intro n c e
    cases e; rfl
  · simp [Value.cells] at hcs
    obtain ⟨rfl, rfl, rfl⟩ := hcs
    intro n c e
    cases e
/-- a step: Next, or Lay of bytes as a kind -/
def Steps (w : World) (v : Value) (L : List (Bool × Int × List UInt8)) : Prop :=
  ∃ a c, v = .slice a L.length c ∧ L.length ≤ c ∧ c ≤ maxLen ∧ ∀ i (h : i < L.length), ∃ b off s, a = some ⟨b, off, none⟩ ∧ w.cell? ⟨b, off + i * 3, none⟩ = some (.bool L[i].1) ∧ w.cell? ⟨b, off + i * 3 + 1, none⟩ = some (.int .i64 L[i].2.1) ∧ w.cell? ⟨b, off + i * 3 + 2, none⟩ = some s ∧ Bys w s L[i].2.2
theorem steps_open {H : Type} {enc : TypeId × Value → H} {P : Program} {W : World} {r : Reach} {b0 : Nat} {t e u : TypeId} {f0 f1 f2 : Field} {v : Value} {d : DataW H} {p : List MemPlace} (ht : P.underlying t = some (.slice e)) (he : P.underlying e = some (.struct #[f0, f1, f2]))
    (hone : oneCellFields P #[f0, f1, f2] = true) (hC : P.cellsOf e = 3) (h0 : P.underlying f0.type = some .bool) (h1 : P.underlying f1.type = some (.int .i64)) (h2 : P.underlying f2.type = some (.slice u)) (hu : P.underlying u = some (.int .u8)) (hCu : P.cellsOf u = 1)
    (hv : Value.okWide P W r b0 t v) (h : DataW.Trod enc P W 0 (fun _ => true) true t v d p) : ∃ L, Steps W v L := by
  obtain ⟨a, len, cap, rfl⟩ := okWide_slice ht hv
  obtain ⟨fuel, hf⟩ := h
  rcases open_slice ht hf with ⟨hcs, _⟩ | ⟨x, l, c, m, n, D, Pl, hcs, _, hl, hm, hmm, _, hi⟩
  · simp [Value.cells] at hcs
    obtain ⟨rfl, rfl, rfl⟩ := hcs
    exact ⟨[], _, _, rfl, by simp, by unfold maxLen; omega, fun i hi => absurd hi (by simp)⟩
  · simp [Value.cells] at hcs
    obtain ⟨rfl, rfl, rfl⟩ := hcs
    obtain ⟨b, off, spot⟩ := x
    have hml : len ≤ m := by rw [hmm]; simp; omega
    by_cases hlen : len = 0
    · subst hlen
      exact ⟨[], _, _, rfl, by simp, hm, fun i hi => absurd hi (by simp)⟩
    have hspot : spot = none := by
      obtain ⟨cs, hc, htr⟩ := hi 0 (by omega)
      rw [hC] at hc
      obtain ⟨_, hcl, hat⟩ := World.cells?_some hc
      have a0 := hat 0 (by omega)
      rw [List.getElem?_eq_getElem (by omega)] at a0
      simpa [Addr.add] using World.cell?_spot a0
    subst hspot
    have eA : ∀ o n, (⟨b, o, none⟩ : Addr).add n = ⟨b, o + n, none⟩ := by intro o n; unfold Addr.add; split <;> simp_all
    have each : ∀ i : Fin len, ∃ q : Bool × Int × List UInt8, ∃ s, W.cell? ⟨b, off + i.val * 3, none⟩ = some (.bool q.1) ∧ W.cell? ⟨b, off + i.val * 3 + 1, none⟩ = some (.int .i64 q.2.1) ∧ W.cell? ⟨b, off + i.val * 3 + 2, none⟩ = some s ∧ Bys W s q.2.2 := by
      intro i
      obtain ⟨cs, hc, htr⟩ := hi i.val (by have := i.2; omega)
      rw [hC] at hc
      obtain ⟨_, hcl, hat⟩ := World.cells?_some hc
      obtain ⟨y0, y1, y2, n', _, _, t0, t1, t2⟩ := trod_struct3 he htr
      obtain ⟨o0, k0⟩ := hone_of hone 0 f0 rfl
      obtain ⟨o1, k1⟩ := hone_of hone 1 f1 rfl
      obtain ⟨o2, k2⟩ := hone_of hone 2 f2 rfl
      match cs, hcl with
      | [c0, c1, c2], _ =>
        have a0 := hat 0 (by omega)
        have a1 := hat 1 (by omega)
        have a2 := hat 2 (by omega)
        rw [o0, k0] at t0
        rw [o1, k1] at t1
        rw [o2, k2] at t2
        obtain ⟨bq, hbq, _⟩ := DataW.trod_bool (cs := [c0]) h0 (by simpa using t0)
        obtain ⟨z, hz, _, _⟩ := DataW.trod_int (cs := [c1]) h1 (by simpa using t1)
        obtain ⟨q2, hq2⟩ := bytes_trod (v := c2) h2 hu hCu (by simpa using t2)
        simp only [List.cons.injEq, and_true] at hbq hz
        subst hbq hz
        refine ⟨(bq, z, q2), c2, ?_, ?_, ?_, hq2⟩
        · rw [eA, eA] at a0; exact a0
        · rw [eA, eA] at a1; exact a1
        · rw [eA, eA] at a2; exact a2
    refine ⟨List.ofFn fun i => Classical.choose (each i), _, _, by rw [List.length_ofFn], by rw [List.length_ofFn]; exact hl, hm, fun i hi' => ?_⟩
    have hi2 : i < len := by simpa using hi'
    obtain ⟨s, k1, k2, k3, k4⟩ := Classical.choose_spec (each ⟨i, hi2⟩)
    refine ⟨b, off, s, rfl, ?_, ?_, k3, ?_⟩
    · rw [List.getElem_ofFn]; exact k1
    · rw [List.getElem_ofFn]; exact k2
    · rw [List.getElem_ofFn]; exact k4
/-- a step with the slice that holds its bytes -/
abbrev StT := Bool × Int × Option Addr × Nat × List UInt8
def stC (x : StT) : List Value := [.bool x.1, .int .i64 x.2.1, .slice x.2.2.1 x.2.2.2.2.length x.2.2.2.1]
def stD : StT := (false, 0, none, 0, [])
theorem stC_len (x : StT) : (stC x).length = 3 := rfl
theorem flat3 {α : Type} {f : α → List Value} (hf : ∀ x, (f x).length = 3) : ∀ (T : List α) (j : Nat) (x : Value), (T.flatMap f)[j]? = some x → ∃ i, ∃ h : i < T.length, ∃ r, r < 3 ∧ j = i * 3 + r ∧ (f T[i])[r]? = some x
  | [], j, x, h => by simp at h
  | y :: T, j, x, h => by
    rw [List.flatMap_cons, List.getElem?_append] at h
    by_cases hj : j < 3
    · rw [if_pos (by rw [hf]; exact hj)] at h
      exact ⟨0, by simp, j, hj, by omega, by simpa using h⟩
    · rw [if_neg (by rw [hf]; exact hj), hf] at h
      obtain ⟨i, hi, r, hr, e, hx⟩ := flat3 hf T (j - 3) x h
      exact ⟨i + 1, by simpa using hi, r, hr, by omega, by simpa using hx⟩
theorem flat3_len {α : Type} {f : α → List Value} (hf : ∀ x, (f x).length = 3) (T : List α) : (T.flatMap f).length = T.length * 3 := by
  induction T with
  | nil => rfl
  | cons y T ih => rw [List.flatMap_cons, List.length_append, hf, ih, List.length_cons]; omega
theorem steps_sts {w : World} {v : Value} {L : List (Bool × Int × List UInt8)} (h : Steps w v L) : ∃ T : List StT, ∃ a c, v = .slice a T.length c ∧ Sl w v T.length (T.flatMap stC) ∧ ∀ i, i < T.length → Bys w (.slice (T.getD i stD).2.2.1 (T.getD i stD).2.2.2.2.length (T.getD i stD).2.2.2.1) (T.getD i stD).2.2.2.2 := by
  obtain ⟨a, c, rfl, h1, h2, h3⟩ := h
  have each : ∀ i : Fin L.length, ∃ t : StT, ∃ b off, a = some ⟨b, off, none⟩ ∧ (∀ r x, (stC t)[r]? = some x → w.cell? ⟨b, off + (i.val * 3 + r), none⟩ = some x) ∧ Bys w (.slice t.2.2.1 t.2.2.2.2.length t.2.2.2.1) t.2.2.2.2 := by
    intro i
    obtain ⟨b, off, s, ha, c0, c1, c2, hb⟩ := h3 i.val i.2
    obtain ⟨sa, sc, hs⟩ := Sl.slice hb
    subst hs
    refine ⟨(L[i].1, L[i].2.1, sa, sc, L[i].2.2), b, off, ha, fun r x hr => ?_, hb⟩
    match r, hr with
    | 0, hr => simp only [stC, List.getElem?_cons_zero, Option.some.injEq] at hr; rw [← hr]; exact c0
    | 1, hr => simp only [stC, List.getElem?_cons_succ, List.getElem?_cons_zero, Option.some.injEq] at hr; rw [← hr, ← Nat.add_assoc]; exact c1
    | 2, hr => simp only [stC, List.getElem?_cons_succ, List.getElem?_cons_zero, Option.some.injEq] at hr; rw [← hr, ← Nat.add_assoc]; exact c2
    | r + 3, hr => simp [stC] at hr
  refine ⟨List.ofFn fun i => Classical.choose (each i), a, c, by rw [List.length_ofFn], ?_, fun i hi => ?_⟩
  · rw [List.length_ofFn]
    by_cases hz : L.length = 0
    · refine .inl ⟨a, c, by rw [hz], hz, List.eq_nil_of_length_eq_zero ?_⟩
      rw [flat3_len stC_len, List.length_ofFn, hz]
    · obtain ⟨b, off, ha, _⟩ := Classical.choose_spec (each ⟨0, by omega⟩)
      subst ha
      refine .inr ⟨b, off, c, rfl, h1, h2, fun j x hj => ?_⟩
      obtain ⟨i, hi, r, hr, e, hx⟩ := flat3 stC_len _ j x hj
      have hi2 : i < L.length := by simpa using hi
      obtain ⟨b', off', ha', hc, _⟩ := Classical.choose_spec (each ⟨i, hi2⟩)
      simp only [Option.some.injEq, Addr.mk.injEq] at ha'
      obtain ⟨rfl, rfl, _⟩ := ha'
      rw [List.getElem_ofFn] at hx
      rw [e]
      exact hc r x hx
  · have hi2 : i < L.length := by simpa using hi
    obtain ⟨_, _, _, _, hb⟩ := Classical.choose_spec (each ⟨i, hi2⟩)
    have e : (List.ofFn fun i => Classical.choose (each i)).getD i stD = Classical.choose (each ⟨i, hi2⟩) := by
      simp [List.getD, hi2]
    rw [e]; exact hb
end Go.Proofs.YtbhjgcokpmiopaaGreatDoor
