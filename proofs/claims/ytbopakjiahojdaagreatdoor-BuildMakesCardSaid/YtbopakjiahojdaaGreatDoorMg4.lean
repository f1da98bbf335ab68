/- Package alloc at any numbers: New and From with their errors, Next, Lay, Left, Used, Ahead. Package alloc at any numbers: Next, Lay, Ahead. The document's answer for layer 16: From, New, Take, Lay, Ahead; Same of two lists. The document's answer for layer 17: Right and Tree. The document's answer for layer 16: From and New. The document's New at any first block; what Told says of a number. law17.made: an allocator of a new image. The example of law 17. The statement BuildMakes, walked. How a slice of bytes that came in reads: as a list of bytes. A slice of structs, each a bool, an int and a slice of bytes: how a law's argument reads. A slice of entries (an int, a string, an int): how a law's argument reads. -/
import Derived.Deep.Slices
import Derived.Deep.Fields
import Derived.Deep.Strs
import Derived.ChangeSame
import Derived.Test.YtbopakjiahojdaaGreatDoorMg3
namespace Go.Proofs.YtbopakjiahojdaaGreatDoor
open Go.RowKit Go.Extern.Stop Go.Stop Go.Extern
set_option linter.unusedVariables false
attribute [local irreducible] wpList wpAnyH Code.wp Oper.wp Go

/-- an allocator of the numbers L, k of them handed out, of the image at b -/
structure AlG (B ba b : Nat) (pa : Option Addr) (N ca k : Nat) (L : List Int) (w : World) : Prop where
  blk : Blk w ba [.slice pa N ca, .int .i64 (k : Int), .pointer (some ⟨b, 0, none⟩)] 95
  nums : w.ownsRow B 3 1 (.slice pa N ca) N (L.map (Value.int .i64))
  hL : L.length = N
  hB : B ≤ ba
  hN : N ≤ 1000000
  hk : k ≤ N
theorem AlG.below {B ba b : Nat} {pa : Option Addr} {N ca k : Nat} {L : List Int} {w W : World} (h : AlG B ba b pa N ca k L w) (hb : Below w.heap.size w W) : AlG B ba b pa N ca k L W := ⟨h.blk.below hb, own_below h.nums hb, h.hL, h.hB, h.hN, h.hk⟩
theorem AlG.only {B ba b : Nat} {pa : Option Addr} {N ca k : Nat} {L : List Int} {w W : World} {T : List TypeId} (h : AlG B ba b pa N ca k L w) (hO : Only T w W) (hT : T.contains 95 = false ∧ T.contains 3 = false) : AlG B ba b pa N ca k L W := ⟨h.blk.only hO hT.1, own_only h.nums hO hT.2, h.hL, h.hB, h.hN, h.hk⟩
theorem AlG.mono {B B' ba b : Nat} {pa : Option Addr} {N ca k : Nat} {L : List Int} {w : World} (h : AlG B ba b pa N ca k L w) (hB : B' ≤ B) : AlG B' ba b pa N ca k L w := ⟨h.blk, own_mono h.nums hB, h.hL, Nat.le_trans hB h.hB, h.hN, h.hk⟩
def goodB (K : Nat) (L : List Int) : Bool := L.all fun x => decide (1 ≤ x ∧ x < (K : Int))
def riseB (L : List Int) : Bool := (List.range (L.length - 1)).all fun i => decide (L.getD i 0 < L.getD (i + 1) 0)
/-- the number of From's error -/
def fromE (K : Nat) (L : List Int) : Int := if goodB K L then (if riseB L then 0 else 8) else 1
theorem goodB_true {K : Nat} {L : List Int} (h : ∀ j, j < L.length → 1 ≤ L.getD j 0 ∧ L.getD j 0 < (K : Int)) : goodB K L = true := by
  unfold goodB
  rw [List.all_eq_true]
  intro x hx
  obtain ⟨j, hj, rfl⟩ := List.mem_iff_getElem.1 hx
  have := h j hj
  simpa [List.getD, hj] using this
theorem goodB_get {K : Nat} {L : List Int} (h : goodB K L = true) {j : Nat} (hj : j < L.length) : 1 ≤ L.getD j 0 ∧ L.getD j 0 < (K : Int) := by
  unfold goodB at h
  rw [List.all_eq_true] at h
  have := h L[j] (List.getElem_mem hj)
  simpa [List.getD, hj] using this
theorem goodB_false {K : Nat} {L : List Int} {j : Nat} (hj : j < L.length) (h : ¬ (1 ≤ L.getD j 0 ∧ L.getD j 0 < (K : Int))) : goodB K L = false := by
  cases hg : goodB K L with
  | false => rfl
  | true => exact absurd (goodB_get hg hj) h
theorem riseB_true {L : List Int} (h : ∀ j, j + 1 < L.length → L.getD j 0 < L.getD (j + 1) 0) : riseB L = true := by
  unfold riseB
  rw [List.all_eq_true]
  intro j hj
  exact decide_eq_true (h j (by have := List.mem_range.1 hj; omega))
theorem riseB_false {L : List Int} {j : Nat} (hj : j + 1 < L.length) (h : ¬ L.getD j 0 < L.getD (j + 1) 0) : riseB L = false := by
  unfold riseB
  rw [List.all_eq_false]
  exact ⟨j, List.mem_range.2 (by omega), by simpa using h⟩
theorem ints_one (l : List Int) : ∀ u ∈ l.map (Value.int .i64), u.oneCell' = true := by
  intro u hu
  obtain ⟨x, _, rfl⟩ := List.mem_map.1 hu
  rfl
set_option maxRecDepth 100000 in
set_option maxHeartbeats 1000000 in
theorem alloc_New_bad (b : Nat) (p0 : Option Addr) (n c : Nat) (f : Int) (w : World) (hk : Blk w b [.slice p0 n c] 98) (hn : n ≤ 100000000) (hf : ¬ (1 ≤ f ∧ f ≤ (n / 256 : Nat))) :
    Calls Tryz.prog 22 #[.pointer (some ⟨b, 0, none⟩), .int .i64 f] w (Ret (.tuple #[.pointer none, .iface 40 (.int .i64 1)]) w) := by
 refine zin 37 Tryz.func22 ?_
 refine xg 16 [12, 13, 14] (decide (f < (1 : Int))) (fun hc1 => ?_) (fun hc1 => ?_)
 · have hc1 := of_decide_eq_true hc1
   exact xe 17 (.tuple #[.pointer none, .iface 40 (.int .i64 1)]) ⟨rfl, (Below.refl w.heap.size _)⟩
 have hc1 := of_decide_eq_false hc1
 refine xr 2 (args := #[.pointer (some ⟨b, 0, none⟩)]) (image_Blocks b _ n c _ (hk.below (Below.refl w.heap.size _)) hn) fun W2 hb2 => ?_
 refine xk 4 (show (decide (f > (↑(n / 256) : Int)) : Bool) = true from decide_eq_true (by omega)) ?_
 exact xe 9 (.tuple #[.pointer none, .iface 40 (.int .i64 1)]) ⟨rfl, hb2⟩
set_option maxRecDepth 100000 in
set_option maxHeartbeats 1000000 in
theorem from_1 (bx b : Nat) (p0 : Option Addr) (n c : Nat) (x : Int) (w : World) (kx : Blk w bx [.pointer (some ⟨b, 0, none⟩)] 49) (hk : Blk w b [.slice p0 n c] 98) (hn : n ≤ 100000000) :
    Calls Tryz.prog 54 #[.int .i64 x, .pointer (some ⟨bx, 0, none⟩)] w (Ret (.bool (decide (¬ (1 ≤ x ∧ x < (n / 256 : Nat))))) w) := by
 refine zin 12 Tryz.func54 ?_
 refine xg 10 [5, 6] (decide (x < (1 : Int))) (fun hc1 => ?_) (fun hc1 => ?_)
 · have hc1 := of_decide_eq_true hc1
   exact xe 9 (.bool true) ⟨by rw [show decide (¬ (1 ≤ x ∧ x < (n / 256 : Nat))) = true from decide_eq_true (by omega)], (Below.refl w.heap.size _)⟩
 have hc1 := of_decide_eq_false hc1
 refine xb 1 0 kx ?_
 refine xr 0 (args := #[.pointer (some ⟨b, 0, none⟩)]) (image_Blocks b _ n c _ (hk.below (Below.refl w.heap.size _)) hn) fun W2 hb2 => ?_
 exact xe 6 (.bool (decide (x ≥ (↑(n / 256) : Int)))) ⟨by congr 1; congr 1; exact decide_eq_decide.2 ⟨fun h => by omega, fun h => by omega⟩, hb2⟩
set_option maxRecDepth 100000 in
set_option maxHeartbeats 1000000 in
theorem indexBad (bx b : Nat) (p0 : Option Addr) (n c : Nat) (aL : Option Addr) (cL : Nat) (L : List Int) (w : World) (kx : Blk w bx [.pointer (some ⟨b, 0, none⟩)] 49) (hk : Blk w b [.slice p0 n c] 98) (hn : n ≤ 100000000) (h : Sl w (.slice aL L.length cL) L.length (L.map (Value.int .i64))) (hLn : L.length ≤ 1000000) :
    Calls Tryz.prog 81 #[.slice aL L.length cL, .func (.func 54) #[] #[.pointer (some ⟨bx, 0, none⟩)]] w (fun e w' => (goodB (n / 256) L = true ∧ e = .returned (.int .i64 (-1)) ∧ Below w.heap.size w w') ∨ (goodB (n / 256) L = false ∧ ∃ i : Nat, e = .returned (.int .i64 (i : Int)) ∧ Below w.heap.size w w')) := by
 refine zin 19 Tryz.func81 ?_
 have hB := Below.refl w.heap.size w
 refine zl 14 19 (fun zm zkv V => ∃ (i : Nat), zkv = [(0, .slice aL L.length cL), (1, .func (.func 54) #[] #[.pointer (some ⟨bx, 0, none⟩)]), (7, .int .i64 (↑L.length : Int)), (8, .int .i64 (↑i : Int))] ∧ zm = L.length - ((↑i : Int)).toNat ∧ Below w.heap.size w V ∧ i ≤ L.length ∧ (∀ j, j < i → 1 ≤ L.getD j 0 ∧ L.getD j 0 < ((n / 256 : Nat) : Int))) ⟨0, rfl, rfl, hB, Nat.zero_le _, ?_⟩ ?_
 · exact fun j hj => absurd hj (by omega)
 rintro _ _ W1 ⟨i, rfl, rfl, hB_1, hi, hz⟩ J1 hJ1 r1
 refine xid 6 ((↑i : Int) < (↑L.length : Int)) (fun hc2 => ?_) (fun hc2 => ?_)
 · refine xx 15 _ L.length i 1 (Ints.elem h (k := i) (by omega)).1 ?_
   refine xl 0 ((Ints.elem (h.below hB_1) (k := i) (by omega)).2) ?_
   refine xr 0 (args := #[.int .i64 (L.getD i 0), .pointer (some ⟨bx, 0, none⟩)]) (from_1 bx b p0 n c (L.getD i 0) _ (kx.below hB_1) (hk.below hB_1) hn) fun W3 hb3 => ?_
   refine xid 2 (¬ (1 ≤ (L.getD i 0) ∧ (L.getD i 0) < (↑(n / 256) : Int))) (fun hc4 => ?_) (fun hc4 => ?_)
   · have hB'1 := Bl.next hB_1 hb3
     exact xe 12 (.int .i64 (↑i : Int)) (.inr ⟨goodB_false (j := i) (by omega) (by omega), _, rfl, hB'1⟩)
   refine xwm 4 ((↑i : Int) + 1) (↑(i + 1) : Int) ?_
   have hB'2 := Bl.next hB_1 hb3
   exact ze 2 (hJ1 _ _ _ ⟨i + 1, rfl, rfl, hB'2, by omega, fun j hj => (Nat.lt_or_ge j i).elim (hz j) (fun q => by obtain rfl : j = i := (by omega); omega)⟩ (by omega))
 exact xe 11 (.int .i64 (-1)) (.inl ⟨goodB_true (fun j hj => hz j (by omega)), rfl, hB_1⟩)
set_option maxRecDepth 100000 in
set_option maxHeartbeats 1000000 in
theorem containsBad (bx b : Nat) (p0 : Option Addr) (n c : Nat) (aL : Option Addr) (cL : Nat) (L : List Int) (w : World) (kx : Blk w bx [.pointer (some ⟨b, 0, none⟩)] 49) (hk : Blk w b [.slice p0 n c] 98) (hn : n ≤ 100000000) (h : Sl w (.slice aL L.length cL) L.length (L.map (Value.int .i64))) (hLn : L.length ≤ 1000000) :
    Calls Tryz.prog 53 #[.slice aL L.length cL, .func (.func 54) #[] #[.pointer (some ⟨bx, 0, none⟩)]] w (Ret (.bool (!goodB (n / 256) L)) w) := by
 refine zin 9 Tryz.func53 ?_
 refine xc 9 (args := #[.slice aL L.length cL, .func (.func 54) #[] #[.pointer (some ⟨bx, 0, none⟩)]]) (indexBad bx b p0 n c aL cL L _ (kx.below (Below.refl w.heap.size _)) (hk.below (Below.refl w.heap.size _)) hn (h.below (Below.refl w.heap.size _)) hLn) ?_
 rintro e W1 hq1
 rcases hq1 with ⟨hz, rfl, hb1⟩ | ⟨hz, i0, rfl, hb1⟩
 · refine xe 5 (.bool false) ?_
   rw [hz]; exact ⟨rfl, hb1⟩
 refine xe 5 (.bool (decide ((↑i0 : Int) ≥ (0 : Int)))) ?_
 rw [hz, show decide ((↑i0 : Int) ≥ (0 : Int)) = true from decide_eq_true (by omega)]; exact ⟨rfl, hb1⟩
set_option maxRecDepth 100000 in
set_option maxHeartbeats 1000000 in
theorem clone_ints (p : Addr) (N c : Nat) (xs : List Value) (w : World) (h : Sl w (.slice (some p) N c) N xs) (hl : xs.length = N) (h1 : ∀ u ∈ xs, u.oneCell' = true) (hn : N ≤ 1000000) :
    Calls Tryz.prog 55 #[.slice (some p) N c] w (RetS (fun w' r => ∃ q c2, r = .slice q N c2 ∧ w'.ownsRow w.heap.size 3 1 (.slice q N c2) N xs) w) := by
 refine zin 8 Tryz.func55 ?_
 refine xb0 17 3 fun b1 W1 n1 => ?_
 have o1 := own_of_blk (size := 1) (n := 0) n1.blk (n1.ge (Below.refl w.heap.size _)) rfl (by decide)
 refine xbi 1 fun _ _ _ _ zJ zQ zo zx zy zK => op_app (m := N) (news := xs) (.int .i64 0) 1 8 (N) (xs) zo Tryz.underlying31 (by kernel_rfl) rfl (by decide) zx o1 zy (h.below n1.below) (by rw [hl, Nat.mul_one]) h1 (by unfold maxLen; omega) (by omega) n1.below.size (by omega) (by rfl) fun p2 c2 W2 o2 hg2 hb2 => ?_
 refine zK _ _ ?_
 have hB'1 := n1.below.trans hb2
 exact xe 4 (.slice p2 N c2) ⟨_, rfl, hB'1, _, _, rfl, o2⟩
set_option maxRecDepth 100000 in
set_option maxHeartbeats 1000000 in
theorem clone_ints_nil (w : World) :
    Calls Tryz.prog 55 #[.slice none 0 0] w (Ret (.slice none 0 0) w) := by
 refine zin 8 Tryz.func55 ?_
 exact xe 20 (.slice none 0 0) ⟨rfl, (Below.refl w.heap.size _)⟩
theorem clone_intsG (a : Option Addr) (N c : Nat) (xs : List Value) (w : World) (h : Sl w (.slice a N c) N xs) (hc : a = none → c = 0) (hl : xs.length = N) (h1 : ∀ u ∈ xs, u.oneCell' = true) (hn : N ≤ 1000000) :
    Calls Tryz.prog 55 #[.slice a N c] w (RetS (fun w' r => ∃ q c2, r = .slice q N c2 ∧ w'.ownsRow w.heap.size 3 1 (.slice q N c2) N xs) w) := by
  cases a with
  | some p => exact clone_ints p N c xs w h hl h1 hn
  | none =>
    have hN : N = 0 ∧ xs = [] := by
      rcases h with ⟨a', c', h2, h3, h4⟩ | ⟨b', off, cap, h2, _⟩
      · simp only [Value.slice.injEq] at h2; exact ⟨h2.2.1, h4⟩
      · cases h2
    obtain ⟨rfl, rfl⟩ := hN
    obtain rfl := hc rfl
    refine (clone_ints_nil w).mono ?_
    rintro e W ⟨rfl, hb⟩
    exact ⟨_, rfl, hb, none, 0, rfl, World.ownsRow_nil _ _ _ _⟩
def FromP (b : Nat) (K : Nat) (L : List Int) (w : World) (e : Ending) (w' : World) : Prop :=
  (fromE K L ≠ 0 ∧ e = .returned (.tuple #[.pointer none, .iface 40 (.int .i64 (fromE K L))]) ∧ Below w.heap.size w w') ∨
  (fromE K L = 0 ∧ ∃ ba pa ca, e = .returned (.tuple #[.pointer (some ⟨ba, 0, none⟩), .nilIface]) ∧ Below w.heap.size w w' ∧ AlG w.heap.size ba b pa L.length ca 0 L w')
set_option maxRecDepth 100000 in
set_option maxHeartbeats 4000000 in
theorem alloc_From (b : Nat) (p0 : Option Addr) (n c : Nat) (aL : Option Addr) (cL : Nat) (L : List Int) (w : World) (hk : Blk w b [.slice p0 n c] 98) (hn : n ≤ 100000000) (h : Sl w (.slice aL L.length cL) L.length (L.map (Value.int .i64))) (hac : aL = none → cL = 0) (hLn : L.length ≤ 1000000) :
    Calls Tryz.prog 23 #[.pointer (some ⟨b, 0, none⟩), .slice aL L.length cL] w (FromP b (n / 256) L w) := by
 refine zin 38 Tryz.func23 ?_
 refine xa 2 [.pointer (some ⟨b, 0, none⟩)] 49 fun b1 W1 n1 => ?_
 refine xb 7 0 n1.blk ?_
 refine xr 4 (args := #[.slice aL L.length cL, .func (.func 54) #[] #[.pointer (some ⟨b1, 0, none⟩)]]) (containsBad b1 b p0 n c aL cL L _ n1.blk (hk.below n1.below) hn (h.below n1.below) hLn) fun W2 hb2 => ?_
 refine xi 3 (!goodB (n / 256) L) (fun hc3 => ?_) (fun hc3 => ?_)
 · have hgd : goodB (n / 256) L = false := by simpa using hc3
   have hB'1 := Bl.next n1.below hb2
   refine xe 9 (.tuple #[.pointer none, .iface 40 (.int .i64 1)]) ?_
   have he : fromE (n / 256) L = 1 := by unfold fromE; rw [hgd]; rfl
   exact .inl ⟨by rw [he]; decide, by rw [he], hB'1⟩
 have hgd : goodB (n / 256) L = true := by simpa using hc3
 have hB'2 := Bl.next n1.below hb2
 have k1'1 := n1.blk.below hb2
 refine zl 9 38 (fun zm zkv V => ∃ (j : Nat), zkv = [(1, .slice aL L.length cL), (2, .pointer (some ⟨b1, 0, none⟩)), (6, .int .i64 (↑j : Int))] ∧ zm = L.length - ((↑j : Int)).toNat ∧ Below w.heap.size w V ∧ Blk V b1 ([.pointer (some ⟨b, 0, none⟩)]) 49 ∧ 1 ≤ j ∧ j ≤ max 1 L.length ∧ (∀ i, i + 1 < j → L.getD i 0 < L.getD (i + 1) 0)) ⟨1, rfl, rfl, hB'2, k1'1, Nat.le_refl _, by omega, ?_⟩ ?_
 · exact fun i hi => absurd hi (by omega)
 rintro _ _ W4 ⟨j, rfl, rfl, hB_4, k4_b1, hj0, hj, hz⟩ J4 hJ4 r4
 refine xid 9 ((↑j : Int) < (↑L.length : Int)) (fun hc5 => ?_) (fun hc5 => ?_)
 · refine xd 5 .z ?_
   refine xwm (.e [0, 1] 2) ((↑j : Int) - 1) (↑(j - 1) : Int) ?_
   refine xx (.e [] 3) _ L.length (j - 1) 1 (Ints.elem h (k := (j - 1)) (by omega)).1 ?_
   have hB'3 := Bl.next hB_4 (below_drew W4)
   refine xl (.e [] 4) ((Ints.elem (h.below hB'3) (k := (j - 1)) (by omega)).2) ?_
   refine xx (.e [5, 6] 7) _ L.length j 1 (Ints.elem h (k := j) (by omega)).1 ?_
   refine xl (.e [] 8) ((Ints.elem (h.below hB'3) (k := j) (by omega)).2) ?_
   refine xid (.r [9] 2) ((L.getD (j - 1) 0) ≥ (L.getD j 0)) (fun hc6 => ?_) (fun hc6 => ?_)
   · refine xe 13 (.tuple #[.pointer none, .iface 40 (.int .i64 8)]) ?_
     have he : fromE (n / 256) L = 8 := by unfold fromE; rw [if_pos hgd, riseB_false (j := j - 1) (by omega) (by rw [show j - 1 + 1 = j by omega]; omega)]; rfl
     exact .inl ⟨by rw [he]; decide, by rw [he], hB'3⟩
   refine xwm 5 ((↑j : Int) + 1) (↑(j + 1) : Int) ?_
   have k4_b1'1 := k4_b1.below (below_drew W4)
   exact ze 2 (hJ4 _ _ _ ⟨j + 1, rfl, rfl, hB'3, k4_b1'1, by omega, by omega, fun i hi => (Nat.lt_or_ge (i + 1) j).elim (hz i) (fun q => by obtain rfl : j = i + 1 := (by omega); rw [Nat.add_sub_cancel] at *; omega)⟩ (by omega))
 refine xd 6 .z ?_
 have k4_b1'2 := k4_b1.below (below_drew W4)
 refine xb (.e [0] 3) 0 k4_b1'2 ?_
 have hB'4 := Bl.next hB_4 (below_drew W4)
 refine yc (.o [] 1) (args := #[.slice aL L.length cL]) .z (clone_intsG aL L.length cL (L.map (Value.int .i64)) _ (h.below hB'4) hac (by simp) (ints_one L) hLn) ?_
 rintro _ W7 ⟨_, rfl, hb7, pq, cq, rfl, hq⟩
 have hs7 := (Bl.next hB_4 (below_drew W4)).size
 refine ⟨hb7, ?_⟩
 refine xa (.o [2, 4] 5) [.slice pq L.length cq, .int .i64 0, .pointer (some ⟨b, 0, none⟩)] 95 fun b8 W8 n8 => ?_
 have hB'5 := Bl.next (Bl.next hB'4 hb7) n8.below
 have hq'1 := own_below (own_mono hq hs7) n8.below
 have g8 := n8.ge (Bl.next hB'4 hb7)
 exact xe (.r [6, 7] 3) (.tuple #[.pointer (some ⟨b8, 0, none⟩), .nilIface]) (.inr ⟨by unfold fromE; rw [if_pos hgd, if_pos (riseB_true fun i hi => hz i (by omega))], _, _, _, rfl, hB'5, n8.blk, hq'1, rfl, g8, hLn, Nat.zero_le _⟩)
end Go.Proofs.YtbopakjiahojdaaGreatDoor
namespace Go.Proofs.YtbopakjiahojdaaGreatDoor
open Go.RowKit Go.Extern.Stop Go.Stop Go.Extern
set_option linter.unusedVariables false
attribute [local irreducible] wpList wpAnyH Code.wp Oper.wp Go

theorem sl_cut {w : World} {b : Option Addr} {n c : Nat} {xs : List Value} (h : Sl w (.slice b n c) n xs) (hl : xs.length = n) (k : Nat) (hk : k ≤ n) : Sl w (.slice (cutA b k c 1) (n - k) (c - k)) (n - k) (xs.drop k) := by
  rcases h with ⟨a', c', h1, h2, h3⟩ | ⟨g, off, cap, h1, h2, h3, h4⟩
  · obtain rfl : k = 0 := by omega
    subst h3 h2
    exact .inl ⟨cutA b 0 c 1, c - 0, rfl, rfl, rfl⟩
  · simp only [Value.slice.injEq] at h1
    obtain ⟨rfl, _, rfl⟩ := h1
    by_cases hz : n - k = 0
    · refine .inl ⟨cutA (some ⟨g, off, none⟩) k c 1, c - k, by rw [hz], by omega, ?_⟩
      exact List.drop_eq_nil_of_le (by omega)
    · refine .inr ⟨g, off + k * 1, c - k, ?_, by omega, by omega, fun j x hj => ?_⟩
      · rw [cutA, if_neg (by omega)]; simp [Addr.add]
      · rw [List.getElem?_drop] at hj
        have := h4 (k + j) x hj
        rwa [Nat.mul_one, Nat.add_assoc]
theorem sl_take {w : World} {b : Option Addr} {n c : Nat} {xs : List Value} (h : Sl w (.slice b n c) n xs) (hl : xs.length = n) (m : Nat) (hm : m ≤ n) : Sl w (.slice b m c) m (xs.take m) := Sl.head h hl m hm
def nxV (k N : Nat) (L : List Int) : Int := if k < N then L.getD k 0 else 0
def nxE (k N : Nat) : Int := if k < N then 0 else 14
def nxK (k N : Nat) : Nat := if k < N then k + 1 else k
def NextG (B ba b : Nat) (pa : Option Addr) (N ca k : Nat) (L : List Int) (w : World) (e : Ending) (w' : World) : Prop :=
  ∃ v, e = .returned (.tuple #[.int .i64 (nxV k N L), v]) ∧ Below B w w' ∧ Only [95] w w' ∧ AlG B ba b pa N ca (nxK k N) L w' ∧ ErrV w' [] (erT (nxE k N)) v
theorem alloc_NextG (B ba b : Nat) (pa : Option Addr) (N ca k : Nat) (L : List Int) (w : World) (hA : AlG B ba b pa N ca k L w) (hg : k < N → 0 ≤ L.getD k 0) (hBw : B ≤ w.heap.size) :
    Calls Tryz.prog 25 #[.pointer (some ⟨ba, 0, none⟩)] w (NextG B ba b pa N ca k L w) := by
  by_cases hk : k < N
  · obtain ⟨q, hq⟩ : ∃ q : Nat, L.getD k 0 = q := ⟨(L.getD k 0).toNat, by have := hg hk; omega⟩
    refine (alloc_Next B ba pa N ca k L hA.hL b q hq w hA.blk hA.nums hA.hB hBw hA.hN hk).mono ?_
    rintro e W ⟨rfl, hb, hO, _, hk2, hn2⟩
    have e1 : nxV k N L = (q : Int) := by unfold nxV; rw [if_pos hk, hq]
    have e2 : nxE k N = 0 := if_pos hk
    have e3 : nxK k N = k + 1 := if_pos hk
    exact ⟨_, by rw [e1], hb, hO, by rw [e3]; exact ⟨hk2, hn2, hA.hL, hA.hB, hA.hN, hk⟩, by rw [e2]; exact rfl⟩
  · refine (alloc_Next_none ba b pa N ca k w hA.blk (by omega)).mono ?_
    rintro e W ⟨rfl, hb⟩
    have e1 : nxV k N L = 0 := by unfold nxV; rw [if_neg hk]
    have e2 : nxE k N = 14 := if_neg hk
    have e3 : nxK k N = k := if_neg hk
    exact ⟨_, by rw [e1], hb.mono hBw, Only.of_below hb, by rw [e3]; exact hA.below hb, by rw [e2]; exact rfl⟩
/-- Write, by its two ends -/
def WroteA (B b : Nat) (p : Option Addr) (k n c : Nat) (l : List UInt8) (no kind : Int) (li : List UInt8) (w : World) (e : Ending) (w' : World) : Prop :=
  (wrE kind no k li = 0 ∧ e = .returned .nilIface ∧ Below B w w' ∧ Only [5] w w' ∧ ImgR B b p n c (wrL kind no k li l) w') ∨
  (wrE kind no k li ≠ 0 ∧ ∃ bf, e = .returned (.iface 133 (.pointer (some ⟨bf, 0, none⟩))) ∧ Below B w w' ∧ Only [5] w w' ∧ ImgR B b p n c (wrL kind no k li l) w' ∧ ErrV w' [some no] (some (wrE kind no k li)) (.iface 133 (.pointer (some ⟨bf, 0, none⟩))))
theorem block_WriteA (B b : Nat) (p : Option Addr) (k n c : Nat) (l : List UInt8) (no kind : Int) (a : Option Addr) (ca : Nat) (li : List UInt8) (w : World) (hn : n = k * 256) (hI : ImgR B b p n c l w) (hin : Bys w (.slice a li.length ca) li) (hBw : B ≤ w.heap.size) :
    Calls Tryz.prog 34 #[.pointer (some ⟨b, 0, none⟩), .int .i64 no, .int .i64 kind, .slice a li.length ca] w (WroteA B b p k n c l no kind li w) := by
  refine (block_WriteG B b p k n c l no kind a ca li w hn hI hin hBw).mono ?_
  rintro e W ⟨v, rfl, hb, hO, hI2, hv⟩
  by_cases he : wrE kind no k li = 0
  · rw [he] at hv
    obtain rfl : v = .nilIface := hv
    exact .inl ⟨he, rfl, hb, hO, hI2⟩
  · rw [erL, erT, if_neg he, if_neg he] at hv
    have hq := hv
    obtain ⟨bf, vf, rfl, _, _⟩ := hq
    exact .inr ⟨he, bf, rfl, hb, hO, hI2, hv⟩
def lyE (k N K : Nat) (L : List Int) (kind : Int) (li : List UInt8) : Int := if k < N then wrE kind (L.getD k 0) K li else 14
def lyB (k N K : Nat) (L : List Int) (kind : Int) (li : List UInt8) : List Int := if k < N then fltL (L.getD k 0) (wrE kind (L.getD k 0) K li) else []
def lyV (k N K : Nat) (L : List Int) (kind : Int) (li : List UInt8) : Int := if k < N ∧ wrE kind (L.getD k 0) K li = 0 then L.getD k 0 else 0
def lyK (k N K : Nat) (L : List Int) (kind : Int) (li : List UInt8) : Nat := if k < N ∧ wrE kind (L.getD k 0) K li = 0 then k + 1 else k
def lyL (k N K : Nat) (L : List Int) (kind : Int) (li l : List UInt8) : List UInt8 := if k < N then wrL kind (L.getD k 0) K li l else l
def LayG (B ba b : Nat) (pa : Option Addr) (N ca k : Nat) (L : List Int) (p : Option Addr) (K n c : Nat) (l : List UInt8) (kind : Int) (li : List UInt8) (w : World) (e : Ending) (w' : World) : Prop :=
  ∃ v, e = .returned (.tuple #[.int .i64 (lyV k N K L kind li), v]) ∧ Below B w w' ∧ Only [95, 5] w w' ∧ AlG B ba b pa N ca (lyK k N K L kind li) L w' ∧ ImgR B b p n c (lyL k N K L kind li l) w' ∧ ErrV w' ((lyB k N K L kind li).map some) (erT (lyE k N K L kind li)) v
set_option maxRecDepth 100000 in
set_option maxHeartbeats 1000000 in
theorem alloc_back (B ba : Nat) (v m : Value) (k : Nat) (w : World) (hk : Blk w ba [v, .int .i64 ((k + 1 : Nat) : Int), m] 95) (hB0 : B ≤ ba) (hBw : B ≤ w.heap.size) (hk2 : k ≤ 1000000) :
    Calls Tryz.prog 57 #[.pointer (some ⟨ba, 0, none⟩)] w ((fun e w' => e = .returned (.tuple #[]) ∧ Below B w w' ∧ Only [95] w w' ∧ Blk w' ba [v, .int .i64 (k : Int), m] 95)) := by
 refine zin 9 Tryz.func57 ?_
 refine xb 4 1 hk ?_
 refine xq 0 (congrArg (Value.int .i64) (show IntKind.i64.wrap ((↑(k + 1) : Int) - 1) = (↑k : Int) from (show IntKind.i64.wrap ((↑(k + 1) : Int) - 1) = ((↑(k + 1) : Int) - 1) from by first | exact IntWalk.i64_in _ (by omega) | (simp only [IntKind.wrap]; omega)).trans (by omega))) ?_
 refine xs 2 hk [v, .int .i64 (↑k : Int), m] fun W1 u1 k1 => ?_
 have hB := u1.below (Below.refl B w) hB0
 have hO := (show Only [95] w _ from (Only.of_upd u1 hk (by decide)))
 exact xe 1 (.tuple #[]) ⟨rfl, hB, hO, k1⟩
set_option maxRecDepth 100000 in
set_option maxHeartbeats 4000000 in
theorem alloc_Lay_g (B ba b : Nat) (p0 : Option Addr) (N ca k q : Nat) (L : List Int) (p : Option Addr) (K n c : Nat) (l : List UInt8) (kind : Int) (a : Option Addr) (ci : Nat) (li : List UInt8) (w : World) (hk : Blk w ba [.slice p0 N ca, .int .i64 (k : Int), .pointer (some ⟨b, 0, none⟩)] 95) (ho : w.ownsRow B 3 1 (.slice p0 N ca) N (L.map (Value.int .i64))) (hL : L.length = N) (hB0 : B ≤ ba) (hN : N ≤ 1000000) (hkN : k < N) (hq : L.getD k 0 = (q : Int)) (hn : n = K * 256) (hI : ImgR B b p n c l w) (hin : ∀ W, Below B w W → Bys W (.slice a li.length ci) li) (hBw : B ≤ w.heap.size) :
    Calls Tryz.prog 27 #[.pointer (some ⟨ba, 0, none⟩), .int .i64 kind, .slice a li.length ci] w (LayG B ba b p0 N ca k L p K n c l kind li w) := by
 refine zin 35 Tryz.func27 ?_
 refine xc 9 (args := #[.pointer (some ⟨ba, 0, none⟩)]) (alloc_Next B ba p0 N ca k L hL b q hq _ hk ho hB0 (Nat.le_trans hBw (Below.refl B _).size) hN hkN) ?_
 rintro _ W1 ⟨rfl, hb1, hO1, _, kA, ho⟩
 refine xb 23 2 kA ?_
 have hI'1 := hI.only hO1 (by decide)
 refine xc 3 (args := #[.pointer (some ⟨b, 0, none⟩), .int .i64 (↑q : Int), .int .i64 kind, .slice a li.length ci]) (block_WriteA B b p K n c l (↑q : Int) kind a ci li _ hn hI'1 (hin _ hb1) (Nat.le_trans hBw hb1.size)) ?_
 rintro e W2 hq2
 rcases hq2 with ⟨he, rfl, hb2, hO2, hI⟩ | ⟨he, bf, rfl, hb2, hO2, hI, hv⟩
 · have hB'1 := hb1.trans hb2
   have hO := (show Only [95, 5] w _ from (only_aa hO1)).trans (only_ab hO2)
   have kA'1 := kA.only hO2 (by decide)
   have ho'1 := own_only ho hO2 (by decide)
   refine xe 20 (.tuple #[.int .i64 (↑q : Int), .nilIface]) ?_
   have h2 : k < N ∧ wrE kind (L.getD k 0) K li = 0 := ⟨hkN, by rw [hq]; exact he⟩
   exact ⟨_, by rw [lyV, if_pos h2, hq], hB'1, hO, by rw [lyK, if_pos h2]; exact ⟨kA'1, ho'1, hL, hB0, hN, hkN⟩, by rw [lyL, if_pos hkN, hq]; exact hI, by rw [lyB, lyE, if_pos hkN, if_pos hkN, h2.2]; exact rfl⟩
 have kA'2 := kA.only hO2 (by decide)
 have hB'2 := hb1.trans hb2
 refine xc 15 (args := #[.pointer (some ⟨ba, 0, none⟩)]) (alloc_back B ba _ _ k _ kA'2 hB0 (Nat.le_trans hBw hB'2.size) (by omega)) ?_
 rintro _ W3 ⟨rfl, hb3, hO3, kA2⟩
 have hB'3 := hB'2.trans hb3
 have hO := ((show Only [95, 5] w _ from (only_aa hO1)).trans (only_ab hO2)).trans (only_aa hO3)
 have ho'2 := own_only (own_only ho hO2 (by decide)) hO3 (by decide)
 have hI'2 := hI.only hO3 (by decide)
 have hv'1 := hv.only hO3 (by decide)
 refine xe 11 (.tuple #[.int .i64 0, .iface 133 (.pointer (some ⟨bf, 0, none⟩))]) ?_
 have h2 : ¬ (k < N ∧ wrE kind (L.getD k 0) K li = 0) := fun h => he (by rw [← hq]; exact h.2)
 exact ⟨_, by rw [lyV, if_neg h2], hB'3, hO, by rw [lyK, if_neg h2]; exact ⟨kA2, ho'2, hL, hB0, hN, by omega⟩, by rw [lyL, if_pos hkN, hq]; exact hI'2, by rw [lyB, lyE, if_pos hkN, if_pos hkN, hq, fltL_nz he, erT, if_neg he]; exact hv'1⟩
theorem alloc_LayG (B ba b : Nat) (pa : Option Addr) (N ca k : Nat) (L : List Int) (p : Option Addr) (K n c : Nat) (l : List UInt8) (kind : Int) (a : Option Addr) (ci : Nat) (li : List UInt8) (w : World) (hA : AlG B ba b pa N ca k L w) (hg : k < N → 0 ≤ L.getD k 0) (hn : n = K * 256) (hI : ImgR B b p n c l w) (hin : ∀ W, Below B w W → Bys W (.slice a li.length ci) li) (hBw : B ≤ w.heap.size) :
    Calls Tryz.prog 27 #[.pointer (some ⟨ba, 0, none⟩), .int .i64 kind, .slice a li.length ci] w (LayG B ba b pa N ca k L p K n c l kind li w) := by
  by_cases hk : k < N
  · obtain ⟨q, hq⟩ : ∃ q : Nat, L.getD k 0 = q := ⟨(L.getD k 0).toNat, by have := hg hk; omega⟩
    exact alloc_Lay_g B ba b pa N ca k q L p K n c l kind a ci li w hA.blk hA.nums hA.hL hA.hB hA.hN hk hq hn hI hin hBw
  · refine (alloc_Lay_none ba b pa N ca k _ _ w hA.blk (by omega)).mono ?_
    rintro e W ⟨rfl, hb⟩
    have h2 : ¬ (k < N ∧ wrE kind (L.getD k 0) K li = 0) := fun h => hk h.1
    exact ⟨_, by rw [lyV, if_neg h2], hb.mono hBw, Only.of_below hb, by rw [lyK, if_neg h2]; exact hA.below hb, by rw [lyL, if_neg hk]; exact hI.below hb, by rw [lyB, lyE, if_neg hk, if_neg hk]; exact rfl⟩
theorem aheadSl {w : World} {b : Option Addr} {n c k i : Nat} {L : List Int} (h : Sl w (.slice b n c) n (L.map (Value.int .i64))) (hl : L.length = n) (hk : k ≤ n) : Sl w (.slice (cutA b k c 1) (min i (n - k)) (c - k)) (min i (n - k)) (((L.drop k).take i).map (Value.int .i64)) := by
  have h1 := sl_cut h (by simpa using hl) k hk
  have h2 := sl_take h1 (by simp [hl]) (min i (n - k)) (by omega)
  rw [← List.map_drop, ← List.map_take] at h2
  have e : (L.drop k).take (min i (n - k)) = (L.drop k).take i := by
    rcases Nat.le_total i (n - k) with q | q
    · rw [Nat.min_eq_left q]
    · rw [Nat.min_eq_right q, List.take_of_length_le (by simp [hl]), List.take_of_length_le (by simp [hl]; omega)]
  rw [e] at h2
  exact h2
theorem aheadN {w : World} {B : Nat} {b : Option Addr} {n c k : Nat} {xs : List Value} {e size : Nat} (h : w.ownsRow B e size (.slice b n c) n xs) : cutA b k c 1 = none → c - k = 0 := by
  intro hn
  have hb : b = none := by
    unfold cutA at hn
    split at hn
    · exact hn
    · simpa using hn
  subst hb
  rcases h.2 with ⟨h2, _⟩ | ⟨g, cap, cur, h2, _⟩
  · simp only [Value.slice.injEq] at h2; omega
  · cases h2
set_option maxRecDepth 100000 in
set_option maxHeartbeats 1000000 in
theorem alloc_Ahead (B ba b : Nat) (p0 : Option Addr) (N ca k i : Nat) (L : List Int) (w : World) (hA : AlG B ba b p0 N ca k L w) (hi : i ≤ 1000000) :
    Calls Tryz.prog 31 #[.pointer (some ⟨ba, 0, none⟩), .int .i64 (↑i : Int)] w (RetS (fun w' r => ∃ q c2, r = .slice q (min i (N - k)) c2 ∧ w'.ownsRow w.heap.size 3 1 (.slice q (min i (N - k)) c2) (min i (N - k)) (((L.drop k).take i).map (Value.int .i64))) w) := by
 have hk := hA.blk
 have hkN := hA.hk
 have hL := hA.hL
 have hN := hA.hN
 have hca : N ≤ ca := by
   rcases Nat.eq_zero_or_pos N with q | q
   · omega
   · exact own_cap hA.nums q
 refine zin 23 Tryz.func31 ?_
 refine xr 9 (args := #[.pointer (some ⟨ba, 0, none⟩)]) (alloc_nobody ba b _ _ _ hk) fun W1 hb1 => ?_
 refine xid 6 ((↑i : Int) < (1 : Int)) (fun hc2 => ?_) (fun hc2 => ?_)
 · refine xe 7 (.slice none 0 0) ?_
   obtain rfl : i = 0 := by omega
   exact ⟨_, rfl, hb1, none, 0, by rw [Nat.zero_min], by rw [Nat.zero_min, List.take_zero]; exact World.ownsRow_nil _ _ _ _⟩
 have hk'1 := hk.below hb1
 refine xr 7 (args := #[.pointer (some ⟨ba, 0, none⟩)]) (alloc_left ba p0 N ca k _ _ hk'1 hkN) fun W3 hb3 => ?_
 refine xq 9 (congrArg (Value.int .i64) (show (if (↑(N - k) : Int) < (↑i : Int) then (↑(N - k) : Int) else (↑i : Int) : Int) = (↑(min i (N - k)) : Int) from min_cast i (N - k))) ?_
 refine xsH 0 (fun _ _ _ _ zo zx zy V => run_sliceH (k := (min i (N - k))) (b := (cutA p0 k ca 1)) (n := (N - k)) (c := (ca - k)) (i := (↑(min i (N - k)) : Int)) (ki := .i64) zo zx zy rfl (by omega) Tryz.underlying31 (by kernel_rfl) V) ?_
 have hB := Bl.next hb1 hb3
 refine xc 0 (args := #[.slice (cutA p0 k ca 1) (min i (N - k)) (ca - k)]) (clone_intsG (cutA p0 k ca 1) (min i (N - k)) (ca - k) (((L.drop k).take i).map (Value.int .i64)) _ (aheadSl (own_sl (own_below hA.nums hB)) hL hkN) (aheadN hA.nums) (by simp; omega) (ints_one _) (by omega)) ?_
 rintro _ W4 ⟨_, rfl, hb4, pq, cq, rfl, hq⟩
 have hs4 := (Bl.next hb1 hb3).size
 have hB'1 := Bl.next hB hb4
 have hq'1 := own_mono hq hs4
 exact xe 4 (.slice pq (min i (N - k)) cq) ⟨_, rfl, hB'1, _, _, rfl, hq'1⟩
set_option maxRecDepth 100000 in
set_option maxHeartbeats 1000000 in
theorem allocG_Image (B ba b : Nat) (p0 : Option Addr) (N ca k : Nat) (L : List Int) (w : World) (hA : AlG B ba b p0 N ca k L w) :
    Calls Tryz.prog 17 #[.pointer (some ⟨ba, 0, none⟩)] w (Ret (.pointer (some ⟨b, 0, none⟩)) w) := by
 have hk := hA.blk
 refine zin 9 Tryz.func17 ?_
 refine xr 9 (args := #[.pointer (some ⟨ba, 0, none⟩)]) (alloc_nobody ba b _ _ _ hk) fun W1 hb1 => ?_
 have hk'1 := hk.below hb1
 refine xb 10 2 hk'1 ?_
 exact xe 4 (.pointer (some ⟨b, 0, none⟩)) ⟨rfl, hb1⟩
/-- New, whatever the first block -/
def NewP (b : Nat) (K : Nat) (f : Int) (w : World) (e : Ending) (w' : World) : Prop :=
  (¬ (1 ≤ f ∧ f ≤ (K : Int)) ∧ e = .returned (.tuple #[.pointer none, .iface 40 (.int .i64 1)]) ∧ Below w.heap.size w w') ∨
  ((1 ≤ f ∧ f ≤ (K : Int)) ∧ ∃ ba pa ca, e = .returned (.tuple #[.pointer (some ⟨ba, 0, none⟩), .nilIface]) ∧ Below w.heap.size w w' ∧ AlG w.heap.size ba b pa (K - f.toNat) ca 0 (rngJ f.toNat (K - f.toNat)) w')
theorem alloc_NewP (b : Nat) (p0 : Option Addr) (n c K : Nat) (f : Int) (w : World) (hk : Blk w b [.slice p0 n c] 98) (hn : n ≤ 3686400) (hK : n = K * 256) :
    Calls Tryz.prog 22 #[.pointer (some ⟨b, 0, none⟩), .int .i64 f] w (NewP b K f w) := by
  have e : n / 256 = K := by omega
  by_cases hf : 1 ≤ f ∧ f ≤ (K : Int)
  · refine (alloc_NewN b p0 n c f.toNat (K - f.toNat) f (by omega) (by rw [e]) w hk hn (by omega) (by omega)).mono ?_
    rintro q W ⟨_, rfl, hb, ba, pa, ca, rfl, h1, h2, h3⟩
    exact .inr ⟨hf, ba, pa, ca, rfl, hb, h2, h3, rngJ_len _ _, h1, by omega, Nat.zero_le _⟩
  · refine (alloc_New_bad b p0 n c f w hk (by omega) (by rw [e]; exact hf)).mono ?_
    rintro q W ⟨rfl, hb⟩
    exact .inl ⟨hf, rfl, hb⟩
end Go.Proofs.YtbopakjiahojdaaGreatDoor
namespace Go.Proofs.YtbopakjiahojdaaGreatDoor
open Go.RowKit Go.Extern.Stop Go.Stop Go.Extern
set_option linter.unusedVariables false
attribute [local irreducible] wpList wpAnyH Code.wp Oper.wp Go

structure RAl (B bc bm : Nat) (pg : Option Addr) (N cg : Nat) (fa : Option Addr) (m fc k : Nat) (L : List Int) (w : World) : Prop where
  blk : Blk w bc [.pointer (some ⟨bm, 0, none⟩), .slice fa m fc, .int .i64 (k : Int)] 48
  nums : w.ownsRow B 3 1 (.slice pg N cg) N (L.map (Value.int .i64))
  hfree : 0 < m → fa = cutA pg k cg 1 ∧ fc = cg - k
  hm : m + k = N
  hL : L.length = N
  hB : B ≤ bc
  hN : N ≤ 1000000
theorem RAl.below {B bc bm : Nat} {pg : Option Addr} {N cg : Nat} {fa : Option Addr} {m fc k : Nat} {L : List Int} {w W : World} (h : RAl B bc bm pg N cg fa m fc k L w) (hb : Below w.heap.size w W) : RAl B bc bm pg N cg fa m fc k L W := ⟨h.blk.below hb, own_below h.nums hb, h.hfree, h.hm, h.hL, h.hB, h.hN⟩
theorem RAl.only {B bc bm : Nat} {pg : Option Addr} {N cg : Nat} {fa : Option Addr} {m fc k : Nat} {L : List Int} {w W : World} {T : List TypeId} (h : RAl B bc bm pg N cg fa m fc k L w) (hO : Only T w W) (hT : T.contains 48 = false ∧ T.contains 3 = false) : RAl B bc bm pg N cg fa m fc k L W := ⟨h.blk.only hO hT.1, own_only h.nums hO hT.2, h.hfree, h.hm, h.hL, h.hB, h.hN⟩
theorem RAl.mono {B B' bc bm : Nat} {pg : Option Addr} {N cg : Nat} {fa : Option Addr} {m fc k : Nat} {L : List Int} {w : World} (h : RAl B bc bm pg N cg fa m fc k L w) (hB : B' ≤ B) : RAl B' bc bm pg N cg fa m fc k L w := ⟨h.blk, own_mono h.nums hB, h.hfree, h.hm, h.hL, Nat.le_trans hB h.hB, h.hN⟩
theorem free_sl {w : World} {pg : Option Addr} {N cg : Nat} {fa : Option Addr} {m fc k : Nat} {L : List Int} (h : Sl w (.slice pg N cg) N (L.map (Value.int .i64))) (hf : 0 < m → fa = cutA pg k cg 1 ∧ fc = cg - k) (hm : m + k = N) (hL : L.length = N) : Sl w (.slice fa m fc) m ((L.drop k).map (Value.int .i64)) := by
  rcases Nat.eq_zero_or_pos m with rfl | hp
  · rw [List.drop_eq_nil_of_le (by omega)]; exact .inl ⟨fa, fc, rfl, rfl, rfl⟩
  · obtain ⟨rfl, rfl⟩ := hf hp
    have := sl_cut h (by simpa using hL) k (by omega)
    rw [show N - k = m by omega, ← List.map_drop] at this
    exact this
theorem free_elem {w : World} {fa : Option Addr} {m fc k : Nat} {L : List Int} (h : Sl w (.slice fa m fc) m ((L.drop k).map (Value.int .i64))) (hL : L.length = m + k) {i : Nat} (hi : i < m) : fa.isSome = true ∧ w.cell? (elemAddr fa (i * 1)) = some (.int .i64 (L.getD (k + i) 0)) := by
  have := IntsN.elem h (by simp; omega) hi
  rwa [show (L.drop k).getD i 0 = L.getD (k + i) 0 by simp [List.getD, List.getElem?_drop]] at this
theorem cutA_zero (g c : Nat) : cutA (some ⟨g, 0, none⟩) 0 c 1 = some ⟨g, 0, none⟩ := by
  unfold cutA; split
  · rfl
  · simp [Addr.add]
theorem cutA_step {w : World} {B N cg k : Nat} {pg : Option Addr} {xs : List Value} {e size : Nat} (h : w.ownsRow B e size (.slice pg N cg) N xs) (hk : k + 1 < N) : cutA (cutA pg k cg 1) 1 (cg - k) 1 = cutA pg (k + 1) cg 1 ∧ cg - k - 1 = cg - (k + 1) := by
  have hc := own_cap h (by omega)
  obtain ⟨g, rfl, _⟩ := own_someN h (by omega)
  refine ⟨?_, by omega⟩
  unfold cutA
  rw [if_neg (by omega), if_neg (by omega), if_neg (by omega)]
  by_cases h0 : k = 0
  · subst h0; simp [Addr.add]
  · simp [Addr.add, h0]
set_option maxRecDepth 100000 in
set_option maxHeartbeats 1000000 in
theorem ref_Take_none (B bc bm : Nat) (pg : Option Addr) (N cg : Nat) (fa : Option Addr) (m fc k : Nat) (L : List Int) (w : World) (hA : RAl B bc bm pg N cg fa m fc k L w) (hBw : B ≤ w.heap.size) (h0 : m = 0) :
    Calls Tryz.prog 26 #[.pointer (some ⟨bc, 0, none⟩)] w (Ret (.tuple #[.int .i64 0, .agg #[.slice none 0 0, .int .i64 14]]) w) := by
 have hk := hA.blk
 have hr := hA.nums
 have hm := hA.hm
 have hL := hA.hL
 have hN := hA.hN
 refine zin 35 Tryz.func26 ?_
 refine xa 3 [.slice none 0 0, .int .i64 0] 33 fun b1 W1 n1 => ?_
 have hk'1 := hk.below n1.below
 refine xb 8 1 hk'1 ?_
 refine xk 4 (show (((↑m : Int) == (0 : Int)) : Bool) = true from by subst h0; rfl) ?_
 refine xsv 4 n1.blk [.slice none 0 0, .int .i64 14] fun W2 u2 k2 => ?_
 have g1 := n1.ge (Below.refl w.heap.size _)
 have hB := u2.below n1.below g1
 exact xec 4 k2 (.tuple #[.int .i64 0, .agg #[.slice none 0 0, .int .i64 14]]) ⟨rfl, hB⟩
def Took16 (B bc bm : Nat) (pg : Option Addr) (N cg k : Nat) (L : List Int) (v : Value) (w : World) (e : Ending) (w' : World) : Prop :=
  ∃ fa m fc, e = .returned v ∧ Below B w w' ∧ Only [48] w w' ∧ RAl B bc bm pg N cg fa m fc k L w'
set_option maxRecDepth 100000 in
set_option maxHeartbeats 2000000 in
theorem ref_Take_some (B bc bm : Nat) (pg : Option Addr) (N cg : Nat) (fa : Option Addr) (m fc k : Nat) (L : List Int) (w : World) (hA : RAl B bc bm pg N cg fa m fc k L w) (hBw : B ≤ w.heap.size) (h0 : 0 < m) :
    Calls Tryz.prog 26 #[.pointer (some ⟨bc, 0, none⟩)] w (Took16 B bc bm pg N cg (k + 1) L (.tuple #[.int .i64 (L.getD (k + 0) 0), .agg #[.slice none 0 0, .int .i64 0]]) w) := by
 have hk := hA.blk
 have hr := hA.nums
 have hm := hA.hm
 have hL := hA.hL
 have hN := hA.hN
 refine zin 35 Tryz.func26 ?_
 refine xa 3 [.slice none 0 0, .int .i64 0] 33 fun b1 W1 n1 => ?_
 have hk'1 := hk.below n1.below
 refine xb 8 1 hk'1 ?_
 refine xk 4 (show (((↑m : Int) == (0 : Int)) : Bool) = false from by simp; omega) ?_
 refine xb 7 1 hk'1 ?_
 have hr'1 := own_below hr n1.below
 refine xx 0 _ m 0 1 (free_elem (free_sl (own_sl hr'1) hA.hfree hm hL) (by omega) (i := 0) (by omega)).1 ?_
 refine xl 0 ((free_elem (free_sl (own_sl hr'1) hA.hfree hm hL) (by omega) (i := 0) (by omega)).2) ?_
 refine xb 9 1 hk'1 ?_
 refine xsL 0 (fun _ _ _ _ zo zx zy V => run_sliceLA (k := 1) (b := fa) (n := m) (c := fc) (i := 1) (ki := .i64) 1 zo zx zy rfl (by omega) Tryz.underlying31 (by kernel_rfl) V) ?_
 refine xs 2 hk'1 [.pointer (some ⟨bm, 0, none⟩), .slice (cutA fa 1 fc 1) (m - 1) (fc - 1), .int .i64 (↑k : Int)] fun W2 u2 k2 => ?_
 refine xb 7 2 k2 ?_
 refine xwm 0 ((↑k : Int) + 1) (↑(k + 1) : Int) ?_
 refine xs 2 k2 [.pointer (some ⟨bm, 0, none⟩), .slice (cutA fa 1 fc 1) (m - 1) (fc - 1), .int .i64 (↑(k + 1) : Int)] fun W3 u3 k3 => ?_
 have k1 := u3.blkT (u2.blkT n1.blk hk'1 (by decide)) k2 (by decide)
 refine xsv 7 k1 [.slice none 0 0, .int .i64 0] fun W4 u4 k4 => ?_
 have g1 := n1.ge0 (Below.refl B _)
 have hB := u4.below (u3.below (u2.below (Bl.nextB (Below.refl B w) hBw n1.below) hA.hB) hA.hB) (Nat.le_trans hBw g1)
 have hO := (Only.upd_new (((show Only [48] w _ from (Only.of_below n1.below)).trans (Only.of_upd u2 hk'1 (by decide))).trans (Only.of_upd u3 k2 (by decide))) u4 g1)
 have k3'1 := u4.blkT k3 k1 (by decide)
 have hr'2 := u4.own2 (u3.own2 (u2.own2 hr'1 hk'1 (by decide)) k2 (by decide)) k1 (by decide)
 exact xec 3 k4 (.tuple #[.int .i64 (L.getD (k + 0) 0), .agg #[.slice none 0 0, .int .i64 0]]) ⟨_, _, _, rfl, hB, hO, k3'1, hr'2, fun hp => by rw [(hA.hfree h0).1, (hA.hfree h0).2]; exact cutA_step hr'2 (by omega), by omega, hL, hA.hB, hN⟩
theorem ref_Take (B bc bm : Nat) (pg : Option Addr) (N cg : Nat) (fa : Option Addr) (m fc k : Nat) (L : List Int) (w : World) (hA : RAl B bc bm pg N cg fa m fc k L w) (hBw : B ≤ w.heap.size) :
    Calls Tryz.prog 26 #[.pointer (some ⟨bc, 0, none⟩)] w (Took16 B bc bm pg N cg (nxK k N) L (.tuple #[.int .i64 (nxV k N L), .agg #[.slice none 0 0, .int .i64 (nxE k N)]]) w) := by
  have hm := hA.hm
  rcases Nat.eq_zero_or_pos m with h0 | h0
  · refine (ref_Take_none B bc bm pg N cg fa m fc k L w hA hBw h0).mono ?_
    rintro e W ⟨rfl, hb⟩
    rw [nxV, nxE, nxK, if_neg (by omega), if_neg (by omega), if_neg (by omega)]
    exact ⟨_, _, _, rfl, hb.mono hBw, Only.of_below hb, hA.below hb⟩
  · rw [nxV, nxE, nxK, if_pos (by omega), if_pos (by omega), if_pos (by omega)]
    exact ref_Take_some B bc bm pg N cg fa m fc k L w hA hBw h0
theorem only_r1 {w w' : World} (h : Only [48] w w') : Only [48, 9] w w' := h.mono fun t ht => by simp at ht ⊢; exact ht.1
theorem only_r2 {w w' : World} (h : Only [9] w w') : Only [48, 9] w w' := h.mono fun t ht => by simp at ht ⊢; exact ht.2
def RLayG (B bc bm : Nat) (pg : Option Addr) (N cg k : Nat) (L : List Int) (p : Option Addr) (K c : Nat) (l : List UInt8) (kind : Int) (li : List UInt8) (w : World) (e : Ending) (w' : World) : Prop :=
  ∃ a c2 fa m fc, e = .returned (.tuple #[.int .i64 (lyV k N K L kind li), .agg #[.slice a (lyB k N K L kind li).length c2, .int .i64 (lyE k N K L kind li)]]) ∧ Below B w w' ∧ Only [48, 9] w w' ∧ RAl B bc bm pg N cg fa m fc (lyK k N K L kind li) L w' ∧ RefI B bm p K c (lyL k N K L kind li l) w' ∧
    w'.ownsRow B 3 1 (.slice a (lyB k N K L kind li).length c2) (lyB k N K L kind li).length ((lyB k N K L kind li).map (Value.int .i64))
set_option maxRecDepth 100000 in
set_option maxHeartbeats 1000000 in
theorem ref_Lay_none (B bc bm : Nat) (pg : Option Addr) (N cg : Nat) (fa : Option Addr) (m fc k : Nat) (L : List Int) (p : Option Addr) (K c : Nat) (l : List UInt8) (kind : Int) (a : Option Addr) (ci : Nat) (li : List UInt8) (w : World) (hA : RAl B bc bm pg N cg fa m fc k L w) (hI : RefI B bm p K c l w) (hin : ∀ W, Below B w W → Only [48, 9] w W → Bys W (.slice a li.length ci) li) (hBw : B ≤ w.heap.size) (h0 : m = 0) :
    Calls Tryz.prog 28 #[.pointer (some ⟨bc, 0, none⟩), .int .i64 kind, .slice a li.length ci] w (Ret (.tuple #[.int .i64 0, .agg #[.slice none 0 0, .int .i64 14]]) w) := by
 have hk := hA.blk
 refine zin 37 Tryz.func28 ?_
 refine xa 3 [.slice none 0 0, .int .i64 0] 33 fun b1 W1 n1 => ?_
 have hk'1 := hk.below n1.below
 refine xb 8 1 hk'1 ?_
 refine xk 4 (show (((↑m : Int) == (0 : Int)) : Bool) = true from by subst h0; rfl) ?_
 refine xsv 4 n1.blk [.slice none 0 0, .int .i64 14] fun W2 u2 k2 => ?_
 have g1 := n1.ge (Below.refl w.heap.size _)
 have hB := u2.below n1.below g1
 exact xec 4 k2 (.tuple #[.int .i64 0, .agg #[.slice none 0 0, .int .i64 14]]) ⟨rfl, hB⟩
set_option maxRecDepth 100000 in
set_option maxHeartbeats 4000000 in
theorem ref_Lay_some (B bc bm : Nat) (pg : Option Addr) (N cg : Nat) (fa : Option Addr) (m fc k : Nat) (L : List Int) (p : Option Addr) (K c : Nat) (l : List UInt8) (kind : Int) (a : Option Addr) (ci : Nat) (li : List UInt8) (w : World) (hA : RAl B bc bm pg N cg fa m fc k L w) (hI : RefI B bm p K c l w) (hin : ∀ W, Below B w W → Only [48, 9] w W → Bys W (.slice a li.length ci) li) (hBw : B ≤ w.heap.size) (h0 : 0 < m) :
    Calls Tryz.prog 28 #[.pointer (some ⟨bc, 0, none⟩), .int .i64 kind, .slice a li.length ci] w (RLayG B bc bm pg N cg k L p K c l kind li w) := by
 have hk := hA.blk
 have hr := hA.nums
 have hm := hA.hm
 have hL := hA.hL
 have hN := hA.hN
 have hkN : k < N := by omega
 refine zin 37 Tryz.func28 ?_
 refine xa 3 [.slice none 0 0, .int .i64 0] 33 fun b1 W1 n1 => ?_
 have hk'1 := hk.below n1.below
 refine xb 8 1 hk'1 ?_
 refine xk 4 (show (((↑m : Int) == (0 : Int)) : Bool) = false from by simp; omega) ?_
 refine xd 3 (.t B [9, 33]) ?_
 have hk'2 := hk'1.below (below_drew W1)
 refine xbt (.e [0, 1, 2] 3) 0 B [9, 33] hk'2 ?_
 refine xbt (.e [4, 5, 6] 7) 1 B [9, 33] hk'2 ?_
 have hr'1 := own_below (own_below hr n1.below) (below_drew W1)
 refine xx (.e [] 8) _ m 0 1 (free_elem (free_sl (own_sl hr'1) hA.hfree hm hL) (by omega) (i := 0) (by omega)).1 ?_
 refine xlt (.e [] 9) (.t B [9, 33]) (fun V hV => (free_elem (free_sl (own_sl (own_only hr'1 hV.2 (by decide))) hA.hfree hm hL) (by omega) (i := 0) (by omega)).2) ?_
 refine xm2 (.b [10, 11]) 12 13 ?_ ?_
 · have hB := Bl.nextB (Bl.nextB (Below.refl B w) hBw n1.below) hBw (below_drew W1)
   have hs7 : B ≤ (W1.drew).heap.size := Nat.le_trans hBw hB.size
   have hI'1 := (hI.below n1.below).below (below_drew W1)
   have hO := (show Only [48, 9] w _ from (Only.of_below n1.below)).trans (Only.of_below (below_drew W1))
   refine yc 0 (args := #[.pointer (some ⟨bm, 0, none⟩), .int .i64 (L.getD (k + 0) 0), .int .i64 kind, .slice a li.length ci]) (.t B [9, 33]) (ref11_Write B bm p K c l (L.getD (k + 0) 0) kind a ci li _ hI'1 (hin _ hB hO) (Nat.le_trans hBw hB.size)) ?_
   rintro _ W2 ⟨a5, c5, rfl, hb2, hO2, hI, h5⟩
   refine ⟨(sft_only hb2 hO2), ?_⟩
   replace h5 := own_mono h5 hs7
   refine xa (.o [] 13) [.slice none 0 0, .int .i64 0] 33 fun b3 W3 n3 => ?_
   have k1 := (n1.blk.below (below_drew W1)).only hO2 (by decide)
   have d3_b1 := n3.ne k1
   have g3 := n3.ge0 (hB.trans hb2)
   refine ysv (.o [] 14) n3.blk [.slice a5 ((fltL (L.getD (k + 0) 0) (wrE kind (L.getD (k + 0) 0) K li)).length) c5, .int .i64 (wrE kind (L.getD (k + 0) 0) K li)] (.t B [9, 33]) fun W4 u4 k4 => ⟨(sft_upd u4 n3.blk (Nat.le_trans hBw g3) (by decide)), ?_⟩
   refine xb 6 1 k4 ?_
   refine xin 3 (wrE kind (L.getD (k + 0) 0) K li) (0 : Int) (fun hc5 => ?_) (fun hc5 => ?_)
   · have hne : wrE kind (L.getD k 0) K li ≠ 0 := hc5
     refine xd 1 (.t B [33]) ?_
     have k4'1 := k4.below (below_drew W4)
     refine xlv (.o [1] 0) k4'1.rp ?_
     have k1'1 := (u4.blk (k1.below n3.below) (Ne.symm (Ne.symm d3_b1))).below (below_drew W4)
     have g1 := n1.ge0 (Below.refl B _)
     refine ysv (.o [] 2) k1'1 [.slice a5 ((fltL (L.getD (k + 0) 0) (wrE kind (L.getD (k + 0) 0) K li)).length) c5, .int .i64 (wrE kind (L.getD (k + 0) 0) K li)] (.t B [33]) fun W6 u6 k6 => ⟨(sft_upd u6 k1'1 (Nat.le_trans hBw g1) (by decide)), ?_⟩
     have hB'1 := u6.below (Bl.nextB (u4.below (Bl.nextB (hB.trans hb2) hBw n3.below) (Nat.le_trans hBw g3)) hBw (below_drew W4)) (Nat.le_trans hBw g1)
     have hO'1 := (Only.upd_new ((Only.upd_new ((hO.trans (only_r2 hO2)).trans (Only.of_below n3.below)) u4 g3).trans (Only.of_below (below_drew W4))) u6 g1)
     have hk'3 := u6.blkT ((u4.blkT ((hk'2.only hO2 (by decide)).below n3.below) n3.blk (by decide)).below (below_drew W4)) k1'1 (by decide)
     have hr'2 := u6.own2 (own_below (u4.own2 (own_below (own_only hr'1 hO2 (by decide)) n3.below) n3.blk (by decide)) (below_drew W4)) k1'1 (by decide)
     have hI'2 := (((hI.below n3.below).only (Only.of_upd (T := [33]) u4 n3.blk (by decide)) (by decide)).below (below_drew W4)).only (Only.of_upd (T := [33]) u6 k1'1 (by decide)) (by decide)
     have h5'1 := u6.own2 (own_below (u4.own2 (own_below h5 n3.below) n3.blk (by decide)) (below_drew W4)) k1'1 (by decide)
     refine xec 4 k6 (.tuple #[.int .i64 0, .agg #[.slice a5 ((fltL (L.getD (k + 0) 0) (wrE kind (L.getD (k + 0) 0) K li)).length) c5, .int .i64 (wrE kind (L.getD (k + 0) 0) K li)]]) ?_
     have h2 : ¬ (k < N ∧ wrE kind (L.getD k 0) K li = 0) := fun h => hne h.2
     exact ⟨a5, c5, _, _, _, by rw [lyV, if_neg h2, lyE, if_pos hkN, lyB, if_pos hkN]; rfl, hB'1, hO'1, by rw [lyK, if_neg h2]; exact ⟨hk'3, hr'2, hA.hfree, hm, hL, hA.hB, hN⟩, by rw [lyL, if_pos hkN]; exact hI'2, by rw [lyB, if_pos hkN]; exact h5'1⟩
   have heq : wrE kind (L.getD k 0) K li = 0 := hc5
   have hk'4 := u4.blkT ((hk'2.only hO2 (by decide)).below n3.below) n3.blk (by decide)
   have hr'3 := u4.own2 (own_below (own_only hr'1 hO2 (by decide)) n3.below) n3.blk (by decide)
   have hB'2 := u4.below (Bl.nextB (hB.trans hb2) hBw n3.below) (Nat.le_trans hBw g3)
   refine xc 5 (args := #[.pointer (some ⟨bc, 0, none⟩)]) (ref_Take_some B bc bm pg N cg fa m fc k L _ ⟨hk'4, hr'3, hA.hfree, hm, hL, hA.hB, hN⟩ (Nat.le_trans hBw hB'2.size) (by omega)) ?_
   rintro _ W7 ⟨fa2, m2, fc2, rfl, hb7, hO7, hA2⟩
   have k1'2 := (u4.blk (k1.below n3.below) (Ne.symm (Ne.symm d3_b1))).only hO7 (by decide)
   refine xsv 3 k1'2 [.slice none 0 0, .int .i64 0] fun W8 u8 k8 => ?_
   have g1 := n1.ge0 (Below.refl B _)
   have hB'3 := u8.below (hB'2.trans hb7) (Nat.le_trans hBw g1)
   have hO'2 := (Only.upd_new ((Only.upd_new ((hO.trans (only_r2 hO2)).trans (Only.of_below n3.below)) u4 g3).trans (only_r1 hO7)) u8 g1)
   have hA2'1 := hA2.only (Only.of_upd (T := [33]) u8 k1'2 (by decide)) (by decide)
   have hI'3 := (((hI.below n3.below).only (Only.of_upd (T := [33]) u4 n3.blk (by decide)) (by decide)).only hO7 (by decide)).only (Only.of_upd (T := [33]) u8 k1'2 (by decide)) (by decide)
   refine xec 3 k8 (.tuple #[.int .i64 (L.getD (k + 0) 0), .agg #[.slice none 0 0, .int .i64 0]]) ?_
   have h2 : k < N ∧ wrE kind (L.getD k 0) K li = 0 := ⟨hkN, heq⟩
   have h3 : fltL (L.getD k 0) (wrE kind (L.getD k 0) K li) = [] := by rw [h2.2]; rfl
   exact ⟨none, 0, _, _, _, by rw [lyV, if_pos h2, lyE, if_pos hkN, lyB, if_pos hkN, h3, h2.2]; rfl, hB'3, hO'2, by rw [lyK, if_pos h2]; exact hA2'1, by rw [lyL, if_pos hkN]; exact hI'3, by rw [lyB, if_pos hkN, h3]; exact World.ownsRow_nil _ _ _ _⟩
 refine xa 0 [.slice none 0 0, .int .i64 0] 33 fun b9 W9 n9 => ?_
 have k1 := n1.blk.below (below_drew W1)
 have d9_b1 := n9.ne k1
 have hB := Bl.nextB (Bl.nextB (Bl.nextB (Below.refl B w) hBw n1.below) hBw (below_drew W1)) hBw n9.below
 have hs7 : B ≤ (W9).heap.size := Nat.le_trans hBw hB.size
 have hI'4 := ((hI.below n1.below).below (below_drew W1)).below n9.below
 have hO := ((show Only [48, 9] w _ from (Only.of_below n1.below)).trans (Only.of_below (below_drew W1))).trans (Only.of_below n9.below)
 refine yc (.o [] 12) (args := #[.pointer (some ⟨bm, 0, none⟩), .int .i64 (L.getD (k + 0) 0), .int .i64 kind, .slice a li.length ci]) (.t B [9, 33]) (ref11_Write B bm p K c l (L.getD (k + 0) 0) kind a ci li _ hI'4 (hin _ hB hO) (Nat.le_trans hBw hB.size)) ?_
 rintro _ W10 ⟨a5, c5, rfl, hb10, hO10, hI, h5⟩
 refine ⟨(sft_only hb10 hO10), ?_⟩
 replace h5 := own_mono h5 hs7
 have k9 := n9.blk.only hO10 (by decide)
 have g9 := n9.ge0 (Bl.nextB (Bl.nextB (Below.refl B w) hBw n1.below) hBw (below_drew W1))
 refine ysv (.o [] 14) k9 [.slice a5 ((fltL (L.getD (k + 0) 0) (wrE kind (L.getD (k + 0) 0) K li)).length) c5, .int .i64 (wrE kind (L.getD (k + 0) 0) K li)] (.t B [9, 33]) fun W11 u11 k11 => ⟨(sft_upd u11 k9 (Nat.le_trans hBw g9) (by decide)), ?_⟩
 refine xb 6 1 k11 ?_
 refine xin 3 (wrE kind (L.getD (k + 0) 0) K li) (0 : Int) (fun hc12 => ?_) (fun hc12 => ?_)
 · have hne : wrE kind (L.getD k 0) K li ≠ 0 := hc12
   refine xd 1 (.t B [33]) ?_
   have k11'1 := k11.below (below_drew W11)
   refine xlv (.o [1] 0) k11'1.rp ?_
   have k1'3 := (u11.blk ((k1.below n9.below).only hO10 (by decide)) (Ne.symm (Ne.symm d9_b1))).below (below_drew W11)
   have g1 := n1.ge0 (Below.refl B _)
   refine ysv (.o [] 2) k1'3 [.slice a5 ((fltL (L.getD (k + 0) 0) (wrE kind (L.getD (k + 0) 0) K li)).length) c5, .int .i64 (wrE kind (L.getD (k + 0) 0) K li)] (.t B [33]) fun W13 u13 k13 => ⟨(sft_upd u13 k1'3 (Nat.le_trans hBw g1) (by decide)), ?_⟩
   have hB'4 := u13.below (Bl.nextB (u11.below (hB.trans hb10) (Nat.le_trans hBw g9)) hBw (below_drew W11)) (Nat.le_trans hBw g1)
   have hO'3 := (Only.upd_new ((Only.upd_new (hO.trans (only_r2 hO10)) u11 g9).trans (Only.of_below (below_drew W11))) u13 g1)
   have hk'5 := u13.blkT ((u11.blkT ((hk'2.below n9.below).only hO10 (by decide)) k9 (by decide)).below (below_drew W11)) k1'3 (by decide)
   have hr'4 := u13.own2 (own_below (u11.own2 (own_only (own_below hr'1 n9.below) hO10 (by decide)) k9 (by decide)) (below_drew W11)) k1'3 (by decide)
   have hI'5 := ((hI.only (Only.of_upd (T := [33]) u11 k9 (by decide)) (by decide)).below (below_drew W11)).only (Only.of_upd (T := [33]) u13 k1'3 (by decide)) (by decide)
   have h5'2 := u13.own2 (own_below (u11.own2 h5 k9 (by decide)) (below_drew W11)) k1'3 (by decide)
   refine xec 4 k13 (.tuple #[.int .i64 0, .agg #[.slice a5 ((fltL (L.getD (k + 0) 0) (wrE kind (L.getD (k + 0) 0) K li)).length) c5, .int .i64 (wrE kind (L.getD (k + 0) 0) K li)]]) ?_
   have h2 : ¬ (k < N ∧ wrE kind (L.getD k 0) K li = 0) := fun h => hne h.2
   exact ⟨a5, c5, _, _, _, by rw [lyV, if_neg h2, lyE, if_pos hkN, lyB, if_pos hkN]; rfl, hB'4, hO'3, by rw [lyK, if_neg h2]; exact ⟨hk'5, hr'4, hA.hfree, hm, hL, hA.hB, hN⟩, by rw [lyL, if_pos hkN]; exact hI'5, by rw [lyB, if_pos hkN]; exact h5'2⟩
 have heq : wrE kind (L.getD k 0) K li = 0 := hc12
 have hk'6 := u11.blkT ((hk'2.below n9.below).only hO10 (by decide)) k9 (by decide)
 have hr'5 := u11.own2 (own_only (own_below hr'1 n9.below) hO10 (by decide)) k9 (by decide)
 have hB'5 := u11.below (hB.trans hb10) (Nat.le_trans hBw g9)
 refine xc 5 (args := #[.pointer (some ⟨bc, 0, none⟩)]) (ref_Take_some B bc bm pg N cg fa m fc k L _ ⟨hk'6, hr'5, hA.hfree, hm, hL, hA.hB, hN⟩ (Nat.le_trans hBw hB'5.size) (by omega)) ?_
 rintro _ W14 ⟨fa2, m2, fc2, rfl, hb14, hO14, hA2⟩
 have k1'4 := (u11.blk ((k1.below n9.below).only hO10 (by decide)) (Ne.symm (Ne.symm d9_b1))).only hO14 (by decide)
 refine xsv 3 k1'4 [.slice none 0 0, .int .i64 0] fun W15 u15 k15 => ?_
 have g1 := n1.ge0 (Below.refl B _)
 have hB'6 := u15.below (hB'5.trans hb14) (Nat.le_trans hBw g1)
 have hO'4 := (Only.upd_new ((Only.upd_new (hO.trans (only_r2 hO10)) u11 g9).trans (only_r1 hO14)) u15 g1)
 have hA2'2 := hA2.only (Only.of_upd (T := [33]) u15 k1'4 (by decide)) (by decide)
 have hI'6 := ((hI.only (Only.of_upd (T := [33]) u11 k9 (by decide)) (by decide)).only hO14 (by decide)).only (Only.of_upd (T := [33]) u15 k1'4 (by decide)) (by decide)
 refine xec 3 k15 (.tuple #[.int .i64 (L.getD (k + 0) 0), .agg #[.slice none 0 0, .int .i64 0]]) ?_
 have h2 : k < N ∧ wrE kind (L.getD k 0) K li = 0 := ⟨hkN, heq⟩
 have h3 : fltL (L.getD k 0) (wrE kind (L.getD k 0) K li) = [] := by rw [h2.2]; rfl
 exact ⟨none, 0, _, _, _, by rw [lyV, if_pos h2, lyE, if_pos hkN, lyB, if_pos hkN, h3, h2.2]; rfl, hB'6, hO'4, by rw [lyK, if_pos h2]; exact hA2'2, by rw [lyL, if_pos hkN]; exact hI'6, by rw [lyB, if_pos hkN, h3]; exact World.ownsRow_nil _ _ _ _⟩
theorem ref_Lay (B bc bm : Nat) (pg : Option Addr) (N cg : Nat) (fa : Option Addr) (m fc k : Nat) (L : List Int) (p : Option Addr) (K c : Nat) (l : List UInt8) (kind : Int) (a : Option Addr) (ci : Nat) (li : List UInt8) (w : World) (hA : RAl B bc bm pg N cg fa m fc k L w) (hI : RefI B bm p K c l w) (hin : ∀ W, Below B w W → Only [48, 9] w W → Bys W (.slice a li.length ci) li) (hBw : B ≤ w.heap.size) :
    Calls Tryz.prog 28 #[.pointer (some ⟨bc, 0, none⟩), .int .i64 kind, .slice a li.length ci] w (RLayG B bc bm pg N cg k L p K c l kind li w) := by
  have hm := hA.hm
  rcases Nat.eq_zero_or_pos m with h0 | h0
  · refine (ref_Lay_none B bc bm pg N cg fa m fc k L p K c l kind a ci li w hA hI hin hBw h0).mono ?_
    rintro e W ⟨rfl, hb⟩
    have hk : ¬ k < N := by omega
    have h2 : ¬ (k < N ∧ wrE kind (L.getD k 0) K li = 0) := fun h => hk h.1
    exact ⟨none, 0, _, _, _, by rw [lyV, if_neg h2, lyE, if_neg hk, lyB, if_neg hk]; rfl, hb.mono hBw, Only.of_below hb, by rw [lyK, if_neg h2]; exact hA.below hb, by rw [lyL, if_neg hk]; exact hI.below hb, by rw [lyB, if_neg hk]; exact World.ownsRow_nil _ _ _ _⟩
  · exact ref_Lay_some B bc bm pg N cg fa m fc k L p K c l kind a ci li w hA hI hin hBw h0
set_option maxRecDepth 100000 in
set_option maxHeartbeats 1000000 in
theorem ref_Ahead (B bc bm : Nat) (pg : Option Addr) (N cg : Nat) (fa : Option Addr) (m fc k j : Nat) (L : List Int) (w : World) (hA : RAl B bc bm pg N cg fa m fc k L w) (hj : j ≤ 1000000) :
    Calls Tryz.prog 32 #[.pointer (some ⟨bc, 0, none⟩), .int .i64 (↑j : Int)] w (RetS (fun w' r => ∃ q c2, r = .slice q (min j (N - k)) c2 ∧ w'.ownsRow w.heap.size 3 1 (.slice q (min j (N - k)) c2) (min j (N - k)) (((L.drop k).take j).map (Value.int .i64))) w) := by
 have hk := hA.blk
 have hm := hA.hm
 have hL := hA.hL
 have hN := hA.hN
 have hf := free_sl (own_sl hA.nums) hA.hfree hA.hm hA.hL
 refine zin 32 Tryz.func32 ?_
 have hB := Below.refl w.heap.size w
 refine zl 17 32 (fun zm zkv V => ∃ (i : Nat) (pq : Option Addr) (cq : Nat), zkv = [(0, .pointer (some ⟨bc, 0, none⟩)), (1, .int .i64 (↑j : Int)), (4, .slice none 0 0), (5, .slice pq i cq), (6, .int .i64 (↑i : Int))] ∧ zm = j - ((↑i : Int)).toNat ∧ Below w.heap.size w V ∧ Blk V bc ([.pointer (some ⟨bm, 0, none⟩), .slice fa m fc, .int .i64 (↑k : Int)]) 48 ∧ V.ownsRow w.heap.size 3 1 (.slice pq i cq) i (((L.drop k).take i).map (Value.int .i64)) ∧ i ≤ min j m) ⟨0, _, _, rfl, rfl, hB, hk, World.ownsRow_nil _ _ _ _, Nat.zero_le _⟩ ?_
 rintro _ _ W1 ⟨i, pq, cq, rfl, rfl, hB_1, k1_bc, hq, hi⟩ J1 hJ1 r1
 refine xg 7 [9, 10] (decide ((↑i : Int) < (↑j : Int))) (fun hc2 => ?_) (fun hc2 => ?_)
 · have hc2 := of_decide_eq_true hc2
   refine xb 4 1 k1_bc ?_
   refine xid 5 ((↑i : Int) < (↑m : Int)) (fun hc3 => ?_) (fun hc3 => ?_)
   · refine xb 9 1 k1_bc ?_
     refine xx 1 _ m i 1 (free_elem hf (by omega) (i := i) (by omega)).1 ?_
     refine xl 0 ((free_elem (hf.below hB_1) (by omega) (i := i) (by omega)).2) ?_
     refine xbs 0 1 [.int .i64 (L.getD (k + i) 0)] 3 fun b4 W4 n4 => ?_
     have r4_hq := own_ne hq n4
     have hq'1 := own_below hq n4.below
     have hB'1 := Bl.next hB_1 n4.below
     refine xbi 0 fun _ _ _ _ zJ zQ zo zx zy zK => op_app (m := 1) (news := [.int .i64 (L.getD (k + i) 0)]) (.int .i64 0) 1 8 (i + 1) (((L.drop k).take (i + 1)).map (Value.int .i64)) zo Tryz.underlying31 (by kernel_rfl) rfl (by decide) zx hq'1 zy (n4.blk.sl 1 1 (by decide) (by decide)) rfl (by simp [Value.oneCell']) (by unfold maxLen; omega) (by omega) hB'1.size (by rfl) (by rw [List.take_succ_eq_append_getElem (by simp; omega), List.map_append]; simp [List.getD, List.getElem?_eq_getElem (show k + i < L.length by omega)]) fun p5 c5 W5 o5 hg5 hb5 => ?_
     refine zK _ _ ?_
     refine xwm 6 ((↑i : Int) + 1) (↑(i + 1) : Int) ?_
     have hB'2 := hB'1.trans hb5
     have k1_bc'1 := (k1_bc.below n4.below).grown hg5 hq'1 (by decide)
     exact ze 2 (hJ1 _ _ _ ⟨i + 1, _, _, rfl, rfl, hB'2, k1_bc'1, o5, by omega⟩ (by omega))
   refine xe 12 (.slice pq i cq) ?_
   have hi2 : i = min j m := by omega
   have e1 : min j (N - k) = i := by omega
   have e2 : (L.drop k).take j = (L.drop k).take i := by
     rcases Nat.le_total j m with q | q
     · rw [hi2, Nat.min_eq_left q]
     · rw [List.take_of_length_le (by simp; omega), List.take_of_length_le (by simp; omega)]
   rw [e1, e2]
   exact ⟨_, rfl, hB_1, _, _, rfl, hq⟩
 have hc2 := of_decide_eq_false hc2
 refine xe 23 (.slice pq i cq) ?_
 have hi2 : i = min j m := by omega
 have e1 : min j (N - k) = i := by omega
 have e2 : (L.drop k).take j = (L.drop k).take i := by
   rcases Nat.le_total j m with q | q
   · rw [hi2, Nat.min_eq_left q]
   · rw [List.take_of_length_le (by simp; omega), List.take_of_length_le (by simp; omega)]
 rw [e1, e2]
 exact ⟨_, rfl, hB_1, _, _, rfl, hq⟩
set_option maxRecDepth 100000 in
set_option maxHeartbeats 1000000 in
theorem ref01_Same (a b : Option Addr) (ca cb : Nat) (L : List Int) (w : World) (ha : Sl w (.slice a L.length ca) L.length (L.map (Value.int .i64))) (hb : Sl w (.slice b L.length cb) L.length (L.map (Value.int .i64))) (hL : L.length ≤ 1000000) :
    Calls Tryz.prog 30 #[.slice a L.length ca, .slice b L.length cb] w (Ret (.bool true) w) := by
 refine zin 26 Tryz.func30 ?_
 refine xk 15 (show (((↑L.length : Int) != (↑L.length : Int)) : Bool) = false from by simp) ?_
 have hB := Below.refl w.heap.size w
 refine zl 9 26 (fun zm zkv V => ∃ (i : Nat), zkv = [(0, .slice a L.length ca), (1, .slice b L.length cb), (5, .int .i64 (↑i : Int))] ∧ zm = L.length - ((↑i : Int)).toNat ∧ Below w.heap.size w V ∧ i ≤ L.length) ⟨0, rfl, rfl, hB, Nat.zero_le _⟩ ?_
 rintro _ _ W1 ⟨i, rfl, rfl, hB_1, hi⟩ J1 hJ1 r1
 refine xid 9 ((↑i : Int) < (↑L.length : Int)) (fun hc2 => ?_) (fun hc2 => ?_)
 · refine xd 5 .z ?_
   refine xx (.e [0, 1] 2) _ L.length i 1 (Ints.elem ha (k := i) (by omega)).1 ?_
   have hB'1 := Bl.next hB_1 (below_drew W1)
   refine xl (.e [] 3) ((Ints.elem (ha.below hB'1) (k := i) (by omega)).2) ?_
   refine xx (.e [4, 5] 6) _ L.length i 1 (Ints.elem hb (k := i) (by omega)).1 ?_
   refine xl (.e [] 7) ((Ints.elem (hb.below hB'1) (k := i) (by omega)).2) ?_
   refine xk (.r [8] 2) (show (((L.getD i 0) != (L.getD i 0)) : Bool) = false from by simp) ?_
   refine xwm 5 ((↑i : Int) + 1) (↑(i + 1) : Int) ?_
   exact ze 2 (hJ1 _ _ _ ⟨i + 1, rfl, rfl, hB'1, by omega⟩ (by omega))
 exact xe 11 (.bool true) ⟨rfl, hB_1⟩
end Go.Proofs.YtbopakjiahojdaaGreatDoor
namespace Go.Proofs.YtbopakjiahojdaaGreatDoor
open Go.RowKit Go.Extern.Stop Go.Stop Go.Extern
set_option linter.unusedVariables false
attribute [local irreducible] wpList wpAnyH Code.wp Oper.wp Go

set_option maxRecDepth 100000 in
set_option maxHeartbeats 1000000 in
theorem ref17_Right_o (t : Int) (x : Value) (w : World) (h : ¬ (1 ≤ t ∧ t ≤ 5)) :
    Calls Tryz.prog 43 #[.int .i64 t, x] w (Ret (.bool false) w) := by
 refine zin 63 Tryz.func43 ?_
 refine xr 9 (args := #[.int .i64 t, .bool true]) (ref07_Max_o t true _ h) fun W1 hb1 => ?_
 exact xe 16 (.bool false) ⟨rfl, hb1⟩
set_option maxRecDepth 100000 in
set_option maxHeartbeats 4000000 in
theorem ref17_Right_i (t : Int) (v : Nat) (a : Option Addr) (c : Nat) (l : List Ent) (w : World) (ht1 : 1 ≤ t) (ht2 : t ≤ 5) (hv : widN t true = v) (h : Sts entC w (.slice a l.length c) l) (hn : l.length ≤ 32768) :
    Calls Tryz.prog 43 #[.int .i64 t, .slice a l.length c] w (Ret (.bool (rightB v l)) w) := by
 have hmb := maxN_pos t true
 refine zin 63 Tryz.func43 ?_
 refine xr 9 (args := #[.int .i64 t, .bool true]) (ref07_Max t true _ rfl ht1 ht2 _) fun W1 hb1 => ?_
 refine xgk 2 [8, 9] (show (((↑(maxN t true) : Int) == (0 : Int)) : Bool) = false from by simp; omega) ?_
 refine xk 6 (show (decide ((↑l.length : Int) > (32768 : Int)) : Bool) = false from decide_eq_false (by omega)) ?_
 refine zl 9 63 (fun zm zkv V => ∃ (i : Nat), zkv = [(0, .int .i64 t), (1, .slice a l.length c), (5, .int .i64 (↑i : Int))] ∧ zm = l.length - ((↑i : Int)).toNat ∧ Below w.heap.size w V ∧ i ≤ l.length ∧ (∀ j, j < i → entE v l j)) ⟨0, rfl, rfl, hb1, Nat.zero_le _, ?_⟩ ?_
 · exact fun j hj => absurd hj (by omega)
 rintro _ _ W3 ⟨i, rfl, rfl, hB_3, hi, hz⟩ J3 hJ3 r3
 have hl0 := lastK_ge hz
 have hlp : 0 < i → lastK l i = (l.getD (i - 1) entD).1 := lastK_pos
 have hlz : i = 0 → lastK l i = -1 := lastK_zero
 refine xid 9 ((↑i : Int) < (↑l.length : Int)) (fun hc4 => ?_) (fun hc4 => ?_)
 · refine xd 5 .z ?_
   refine xx (.e [0, 1] 2) _ l.length i 3 (Sts.cell h entC_len entD (k := i) (i := 0) (by omega) rfl).1 ?_
   have hB'1 := Bl.next hB_3 (below_drew W3)
   refine xl (.e [3] 4) ((Sts.cell (h.below hB'1) entC_len entD (k := i) (i := 0) (by omega) rfl).2) ?_
   refine xg (.b [5, 6]) [25, 26] (decide ((l.getD i entD).1 < (0 : Int))) (fun hc5 => ?_) (fun hc5 => ?_)
   · have hc5 := of_decide_eq_true hc5
     exact xe (.r [7, 8, 9, 10, 11, 12, 13, 14, 15, 16, 17, 18, 19, 20, 21, 22, 23, 24, 25, 26, 27, 28, 29, 30, 31, 32, 33, 34, 35, 36, 37, 38, 39, 40, 41, 42] 14) (.bool false) ⟨by rw [rightB_false (i := i) (by omega) (fun hz9 => by unfold entE at hz9; omega)], hB'1⟩
   have hc5 := of_decide_eq_false hc5
   refine xx (.e [7, 8] 9) _ l.length i 3 (Sts.cell h entC_len entD (k := i) (i := 0) (by omega) rfl).1 ?_
   refine xl (.e [10] 11) ((Sts.cell (h.below hB'1) entC_len entD (k := i) (i := 0) (by omega) rfl).2) ?_
   refine xg (.b [12, 13, 14]) [32, 33, 34] (decide ((l.getD i entD).1 > (281474976710655 : Int))) (fun hc6 => ?_) (fun hc6 => ?_)
   · have hc6 := of_decide_eq_true hc6
     exact xe (.r [15, 16, 17, 18, 19, 20, 21, 22, 23, 24, 25, 26, 27, 28, 29, 30, 31, 32, 33, 34, 35, 36, 37, 38, 39, 40, 41, 42] 14) (.bool false) ⟨by rw [rightB_false (i := i) (by omega) (fun hz9 => by unfold entE at hz9; omega)], hB'1⟩
   have hc6 := of_decide_eq_false hc6
   refine xg (.b [15, 16, 17]) [36, 37] (decide ((↑i : Int) > (0 : Int))) (fun hc7 => ?_) (fun hc7 => ?_)
   · have hc7 := of_decide_eq_true hc7
     refine xx (.e [18, 19] 20) _ l.length i 3 (Sts.cell h entC_len entD (k := i) (i := 0) (by omega) rfl).1 ?_
     refine xl (.e [21] 22) ((Sts.cell (h.below hB'1) entC_len entD (k := i) (i := 0) (by omega) rfl).2) ?_
     refine xwm (.e [23, 24] 25) ((↑i : Int) - 1) (↑(i - 1) : Int) ?_
     refine xx (.e [] 26) _ l.length (i - 1) 3 (Sts.cell h entC_len entD (k := (i - 1)) (i := 0) (by omega) rfl).1 ?_
     refine xl (.e [27] 28) ((Sts.cell (h.below hB'1) entC_len entD (k := (i - 1)) (i := 0) (by omega) rfl).2) ?_
     refine xg (.b [29, 30, 31, 32]) [49, 50, 51, 52] (decide ((l.getD i entD).1 ≤ (l.getD (i - 1) entD).1)) (fun hc8 => ?_) (fun hc8 => ?_)
     · have hc8 := of_decide_eq_true hc8
       exact xe (.r [33, 34, 35, 36, 37, 38, 39, 40, 41, 42] 14) (.bool false) ⟨by rw [rightB_false (i := i) (by omega) (fun hz9 => by unfold entE at hz9; omega)], hB'1⟩
     have hc8 := of_decide_eq_false hc8
     refine xx (.e [33, 34] 35) _ l.length i 3 (Sts.cell h entC_len entD (k := i) (i := 0) (by omega) rfl).1 ?_
     refine xl (.e [36] 37) ((Sts.cell (h.below hB'1) entC_len entD (k := i) (i := 1) (by omega) rfl).2) ?_
     refine xr (.o [38, 39] 40) (args := #[.int .i64 t, .bool true]) (ref07_Width t true v hv ht1 ht2 _) fun W9 hb9 => ?_
     refine xin (.r [41, 42] 2) (↑((l.getD i entD).2.1).length : Int) (↑v : Int) (fun hc10 => ?_) (fun hc10 => ?_)
     · have hB'2 := Bl.next hB'1 hb9
       exact xe 11 (.bool false) ⟨by rw [rightB_false (i := i) (by omega) (fun hz9 => by unfold entE at hz9; omega)], hB'2⟩
     refine xwm 5 ((↑i : Int) + 1) (↑(i + 1) : Int) ?_
     have hB'3 := Bl.next hB'1 hb9
     exact ze 2 (hJ3 _ _ _ ⟨i + 1, rfl, rfl, hB'3, by omega, fun j hj => (Nat.lt_or_ge j i).elim (hz j) (fun q => by obtain rfl : j = i := (by omega); unfold entE; omega)⟩ (by omega))
   have hc7 := of_decide_eq_false hc7
   refine xx (.e [18, 19, 20, 21, 22, 23, 24, 25, 26, 27, 28, 29, 30, 31, 32, 33, 34] 35) _ l.length i 3 (Sts.cell h entC_len entD (k := i) (i := 0) (by omega) rfl).1 ?_
   refine xl (.e [36] 37) ((Sts.cell (h.below hB'1) entC_len entD (k := i) (i := 1) (by omega) rfl).2) ?_
   refine xr (.o [38, 39] 40) (args := #[.int .i64 t, .bool true]) (ref07_Width t true v hv ht1 ht2 _) fun W11 hb11 => ?_
   refine xin (.r [41, 42] 2) (↑((l.getD i entD).2.1).length : Int) (↑v : Int) (fun hc12 => ?_) (fun hc12 => ?_)
   · have hB'4 := Bl.next hB'1 hb11
     exact xe 11 (.bool false) ⟨by rw [rightB_false (i := i) (by omega) (fun hz9 => by unfold entE at hz9; omega)], hB'4⟩
   refine xwm 5 ((↑i : Int) + 1) (↑(i + 1) : Int) ?_
   have hB'5 := Bl.next hB'1 hb11
   exact ze 2 (hJ3 _ _ _ ⟨i + 1, rfl, rfl, hB'5, by omega, fun j hj => (Nat.lt_or_ge j i).elim (hz j) (fun q => by obtain rfl : j = i := (by omega); unfold entE; omega)⟩ (by omega))
 exact xe 11 (.bool true) ⟨by rw [rightB_true (fun j hj => hz j (by omega))], hB_3⟩
theorem ref17_Right (t : Int) (a : Option Addr) (c : Nat) (l : List Ent) (w : World) (h : Sts entC w (.slice a l.length c) l) (hn : l.length ≤ 32768) :
    Calls Tryz.prog 43 #[.int .i64 t, .slice a l.length c] w (Ret (.bool (decide (1 ≤ t ∧ t ≤ 5 ∧ rightB (widN t true) l = true))) w) := by
  by_cases ht : 1 ≤ t ∧ t ≤ 5
  · rw [show decide (1 ≤ t ∧ t ≤ 5 ∧ rightB (widN t true) l = true) = rightB (widN t true) l by simp [ht.1, ht.2]]
    exact ref17_Right_i t _ a c l w ht.1 ht.2 rfl h hn
  · rw [show decide (1 ≤ t ∧ t ≤ 5 ∧ rightB (widN t true) l = true) = false from decide_eq_false fun h => ht ⟨h.1, h.2.1⟩]
    exact ref17_Right_o t _ w ht
/-- a node laid by the document's allocator -/
def RLaidQ (B bc bm : Nat) (pg : Option Addr) (N cg f k : Nat) (p : Option Addr) (K c : Nat) (l : List UInt8) (li : List UInt8) (q : Nat) (w : World) (e : Ending) (w' : World) : Prop :=
  ∃ a c2 fa m fc, e = .returned (.tuple #[.int .i64 (q : Int), .agg #[.slice a 0 c2, .int .i64 0]]) ∧ Below B w w' ∧ Only [48, 9] w w' ∧ RAl B bc bm pg N cg fa m fc (k + 1) (rngJ f N) w' ∧ RefI B bm p K c (putB l (q * 256) (sealB 2 (q : Int) li)) w'
theorem ref_LayQ (B bc bm : Nat) (pg : Option Addr) (N cg : Nat) (fa : Option Addr) (m fc f k : Nat) (p : Option Addr) (K c : Nat) (l : List UInt8) (a : Option Addr) (ci n' : Nat) (li : List UInt8) (q : Nat) (w : World) (hq : f + k = q) (hn' : li.length = n') (hl : n' ≤ 244) (hkN : k < N) (hf : f + N ≤ K) (hA : RAl B bc bm pg N cg fa m fc k (rngJ f N) w) (hI : RefI B bm p K c l w) (hin : ∀ W, Below B w W → Only [48, 9] w W → Bys W (.slice a n' ci) li) (hBw : B ≤ w.heap.size) :
    Calls Tryz.prog 28 #[.pointer (some ⟨bc, 0, none⟩), .int .i64 2, .slice a n' ci] w (RLaidQ B bc bm pg N cg f k p K c l li q w) := by
  subst hq hn'
  have hK := hI.hk
  have hL : (rngJ f N).getD k 0 = ((f + k : Nat) : Int) := rngJ_get hkN
  have hs : sealE 2 ((f + k : Nat) : Int) li = 0 := by
    unfold sealE
    rw [if_pos (show knownB 2 ((f + k : Nat) : Int) = true from decide_eq_true (by omega)), if_pos hl]
  have hw : wrE 2 ((rngJ f N).getD k 0) K li = 0 := by
    rw [hL]; unfold wrE; rw [if_pos hs, if_pos (by omega)]
  refine (ref_Lay B bc bm pg N cg fa m fc k (rngJ f N) p K c l 2 a ci li w hA hI hin hBw).mono ?_
  rintro e W ⟨a2, c2, fa2, m2, fc2, rfl, hb, hO, hA2, hI2, h5⟩
  have e1 : lyV k N K (rngJ f N) 2 li = ((f + k : Nat) : Int) := by rw [lyV, if_pos ⟨hkN, hw⟩, hL]
  have e2 : lyE k N K (rngJ f N) 2 li = 0 := by rw [lyE, if_pos hkN, hw]
  have e3 : lyB k N K (rngJ f N) 2 li = [] := by rw [lyB, if_pos hkN, hw]; rfl
  have e4 : lyK k N K (rngJ f N) 2 li = k + 1 := by rw [lyK, if_pos ⟨hkN, hw⟩]
  have e5 : lyL k N K (rngJ f N) 2 li l = putB l ((f + k) * 256) (sealB 2 ((f + k : Nat) : Int) li) := by rw [lyL, if_pos hkN, wrL, if_pos hw, hL]; rfl
  rw [e4] at hA2
  rw [e5] at hI2
  exact ⟨a2, c2, fa2, m2, fc2, by rw [e1, e2, e3]; rfl, hb, hO, hA2, hI2⟩
/-- the levels from one on -/
def treeL (t : Int) (leaf : Bool) (m v : Nat) (l : List Ent) (q : Nat) (bs : List UInt8) : Int × List UInt8 := treeUp t (upE l m q (ovN l.length m)) (q + ovN l.length m) (levB t leaf m v l q bs (ovN l.length m))
theorem from_lt {n m i : Nat} (hm : 1 ≤ m) (h : i * m < n ∨ i = 0) : i < ovN n m := by
  have hp := ovN_pos n m
  rcases h with h | h
  · unfold ovN
    have : i < (n + m - 1) / m := by
      rw [Nat.lt_div_iff_mul_lt (by omega)]; omega
    omega
  · omega
theorem from_end {n m i : Nat} (hm : 1 ≤ m) (hi : i ≤ ovN n m) (h : ¬ i * m < n) (h0 : i * m ≠ 0) : i = ovN n m := by
  rcases Nat.lt_or_ge i (ovN n m) with q | q
  · rcases Nat.eq_zero_or_pos n with hn | hn
    · subst hn
      rw [ovN_small hm (Nat.zero_le _)] at q
      obtain rfl : i = 0 := by omega
      simp at h0
    · exact absurd (siz_lt hm hn q) h
  · omega
def RTreeP (B bc bm : Nat) (pg : Option Addr) (N cg f k0 : Nat) (p : Option Addr) (K c : Nat) (bs : List UInt8) (t : Int) (l : List Ent) (w : World) (e : Ending) (w' : World) : Prop :=
  ∃ fa m fc, e = .returned (.tuple #[.int .i64 (treeB t l (f + k0) bs).1, .agg #[.slice none 0 0, .int .i64 0]]) ∧ Below B w w' ∧ Only [48, 9] w w' ∧ RAl B bc bm pg N cg fa m fc (k0 + nodN t l.length) (rngJ f N) w' ∧ RefI B bm p K c (treeB t l (f + k0) bs).2 w'
set_option maxRecDepth 100000 in
set_option maxHeartbeats 1000000 in
theorem ref17_Tree_w (B bc bm : Nat) (pg : Option Addr) (N cg : Nat) (fa : Option Addr) (mf fc f k0 : Nat) (p : Option Addr) (K cI : Nat) (bs : List UInt8) (t : Int) (a : Option Addr) (c : Nat) (l : List Ent) (w : World) (hR : RAl B bc bm pg N cg fa mf fc k0 (rngJ f N) w) (hn : l.length ≤ 32768) (h : Sts entC w (.slice a l.length c) l) (hr : ¬ (1 ≤ t ∧ t ≤ 5 ∧ rightB (widN t true) l = true)) :
    Calls Tryz.prog 13 #[.pointer (some ⟨bc, 0, none⟩), .int .i64 t, .slice a l.length c] w (Ret (.tuple #[.int .i64 0, .agg #[.slice none 0 0, .int .i64 1]]) w) := by
 refine zin 128 Tryz.func13 ?_
 refine xa 3 [.slice none 0 0, .int .i64 0] 33 fun b1 W1 n1 => ?_
 refine xr 7 (args := #[.int .i64 t, .slice a l.length c]) (ref17_Right t a c l _ (h.below n1.below) hn) fun W2 hb2 => ?_
 refine xk 3 (show (!(decide (1 ≤ t ∧ t ≤ 5 ∧ rightB (widN t true) l = true)) : Bool) = true from by rw [decide_eq_false hr]; rfl) ?_
 have k1 := n1.blk.below hb2
 refine xsv 4 k1 [.slice none 0 0, .int .i64 1] fun W3 u3 k3 => ?_
 have g1 := n1.ge (Below.refl w.heap.size _)
 have hB'1 := u3.below (Bl.next n1.below hb2) g1
 exact xec 4 k3 (.tuple #[.int .i64 0, .agg #[.slice none 0 0, .int .i64 1]]) ⟨rfl, hB'1⟩
set_option maxRecDepth 100000 in
set_option maxHeartbeats 1000000 in
theorem ref17_Tree_n (B bc bm : Nat) (pg : Option Addr) (N cg : Nat) (fa : Option Addr) (mf fc f k0 : Nat) (p : Option Addr) (K cI : Nat) (bs : List UInt8) (t : Int) (a : Option Addr) (c : Nat) (l : List Ent) (w : World) (hR : RAl B bc bm pg N cg fa mf fc k0 (rngJ f N) w) (hn : l.length ≤ 32768) (h : Sts entC w (.slice a l.length c) l) (hr : 1 ≤ t ∧ t ≤ 5 ∧ rightB (widN t true) l = true) (hs : N - k0 < nodN t l.length) :
    Calls Tryz.prog 13 #[.pointer (some ⟨bc, 0, none⟩), .int .i64 t, .slice a l.length c] w (Ret (.tuple #[.int .i64 0, .agg #[.slice none 0 0, .int .i64 14]]) w) := by
 have ht1 := hr.1
 have ht2 := hr.2.1
 have hRm := hR.hm
 refine zin 128 Tryz.func13 ?_
 refine xa 3 [.slice none 0 0, .int .i64 0] 33 fun b1 W1 n1 => ?_
 refine xr 7 (args := #[.int .i64 t, .slice a l.length c]) (ref17_Right t a c l _ (h.below n1.below) hn) fun W2 hb2 => ?_
 refine xk 3 (show (!(decide (1 ≤ t ∧ t ≤ 5 ∧ rightB (widN t true) l = true)) : Bool) = false from by rw [decide_eq_true hr]; rfl) ?_
 refine xd 4 .z ?_
 have hR'1 := ((hR.below n1.below).below hb2).below (below_drew W2)
 refine xl (.e [0, 1, 2] 3) (hR'1.blk.cell (i := 1) rfl) ?_
 refine xr (.o [4, 5, 6, 7] 8) (args := #[.int .i64 t, .int .i64 (↑l.length : Int)]) (ref15_Nodes t l.length _ ht1 ht2 hn) fun W3 hb3 => ?_
 refine xk (.r [9] 2) (show (decide ((↑mf : Int) < (↑(nodN t l.length) : Int)) : Bool) = true from decide_eq_true (by omega)) ?_
 have k1 := ((n1.blk.below hb2).below (below_drew W2)).below hb3
 refine xsv 4 k1 [.slice none 0 0, .int .i64 14] fun W4 u4 k4 => ?_
 have g1 := n1.ge (Below.refl w.heap.size _)
 have hB'1 := u4.below (Bl.next (Bl.next (Bl.next n1.below hb2) (below_drew W2)) hb3) g1
 exact xec 4 k4 (.tuple #[.int .i64 0, .agg #[.slice none 0 0, .int .i64 14]]) ⟨rfl, hB'1⟩
theorem up_at {w : World} {p : Option Addr} {i c m q : Nat} {u : List Ent} (h : Sl w (.slice p i c) i ((upE u m q i).flatMap entC)) (hi : 0 < i) : p.isSome = true ∧ w.cell? ((elemAddr p (0 * 3)).add 2) = some (.int .i64 (upX u m q 0).2.2) := by
  have h2 : Sts entC w (.slice p (upE u m q i).length c) (upE u m q i) := by unfold Sts; rw [upE_len]; exact h
  have := Sts.cell h2 entC_len entD (k := 0) (i := 2) (by rw [upE_len]; exact hi) rfl
  rw [upE_get hi] at this
  exact this
set_option maxRecDepth 100000 in
set_option maxHeartbeats 8000000 in
theorem ref17_Tree_y (B bc bm : Nat) (pg : Option Addr) (N cg : Nat) (fa : Option Addr) (mf fc f k0 : Nat) (p : Option Addr) (K cI : Nat) (bs : List UInt8) (t : Int) (a : Option Addr) (c : Nat) (l : List Ent) (w : World) (hR : RAl B bc bm pg N cg fa mf fc k0 (rngJ f N) w) (hn : l.length ≤ 32768) (hr : 1 ≤ t ∧ t ≤ 5 ∧ rightB (widN t true) l = true) (hs : k0 + nodN t l.length ≤ N) (hf : f + N ≤ K) (hJ : RefI B bm p K cI bs w) (hin : ∀ W, Below B w W → Only [48, 9] w W → Sts entC W (.slice a l.length c) l) (hBw : B ≤ w.heap.size) :
    Calls Tryz.prog 13 #[.pointer (some ⟨bc, 0, none⟩), .int .i64 t, .slice a l.length c] w (RTreeP B bc bm pg N cg f k0 p K cI bs t l w) := by
 have ht1 := hr.1
 have ht2 := hr.2.1
 have hRm := hR.hm
 have hKb := hJ.hk
 have hN := hR.hN
 refine zin 128 Tryz.func13 ?_
 refine xa 3 [.slice none 0 0, .int .i64 0] 33 fun b1 W1 n1 => ?_
 have hB := Bl.nextB (Below.refl B w) hBw n1.below
 have hO := (show Only [48, 9] w _ from (Only.of_below n1.below))
 refine xr 7 (args := #[.int .i64 t, .slice a l.length c]) (ref17_Right t a c l _ (hin _ hB hO) hn) fun W2 hb2 => ?_
 refine xk 3 (show (!(decide (1 ≤ t ∧ t ≤ 5 ∧ rightB (widN t true) l = true)) : Bool) = false from by rw [decide_eq_true hr]; rfl) ?_
 refine xd 4 .z ?_
 have hR'1 := ((hR.below n1.below).below hb2).below (below_drew W2)
 refine xl (.e [0, 1, 2] 3) (hR'1.blk.cell (i := 1) rfl) ?_
 refine xr (.o [4, 5, 6, 7] 8) (args := #[.int .i64 t, .int .i64 (↑l.length : Int)]) (ref15_Nodes t l.length _ ht1 ht2 hn) fun W3 hb3 => ?_
 refine xk (.r [9] 2) (show (decide ((↑mf : Int) < (↑(nodN t l.length) : Int)) : Bool) = false from decide_eq_false (by omega)) ?_
 have hR'2 := hR'1.below hb3
 have hJ'1 := (((hJ.below n1.below).below hb2).below (below_drew W2)).below hb3
 have hB'1 := Bl.nextB (Bl.nextB (Bl.nextB hB hBw hb2) hBw (below_drew W2)) hBw hb3
 have hO'1 := ((hO.trans (Only.of_below hb2)).trans (Only.of_below (below_drew W2))).trans (Only.of_below hb3)
 have k1 := ((n1.blk.below hb2).below (below_drew W2)).below hb3
 refine zl 8 128 (fun zm zkv V => ∃ (u : List Ent) (k m v : Nat) (leaf : Bool) (b2 : List UInt8) (a2 : Option Addr) (c2 : Nat), zkv = [(0, .pointer (some ⟨bc, 0, none⟩)), (1, .int .i64 t), (2, .slice a2 u.length c2), (7, .pointer (some ⟨b1, 0, none⟩)), (8, .bool leaf)] ∧ zm = (if leaf = true then 40000 else u.length) ∧ Below B w V ∧ Only [48, 9] w V ∧ Blk V b1 ([.slice none 0 0, .int .i64 0]) 33 ∧ (∃ fa mf fc, RAl B bc bm pg N cg fa mf fc k (rngJ f N) V) ∧ RefI B bm p K cI b2 V ∧ (∀ W, Below B V W → Only [48, 9] V W → Sts entC W (.slice a2 u.length c2) u) ∧ maxN t leaf = m ∧ widN t leaf = v ∧ EntsOk v u ∧ k + (levs (ovN u.length m)).sum = k0 + nodN t l.length ∧ (leaf = false → 2 ≤ u.length) ∧ u.length ≤ 32768 ∧ treeL t leaf m v u (f + k) b2 = treeB t l (f + k0) bs) ⟨l, k0, (maxN t true), (widN t true), true, bs, a, c, rfl, rfl, hB'1, hO'1, k1, ⟨_, _, _, hR'2⟩, hJ'1, ?_, rfl, rfl, rightB_ok hr.2.2, rfl, (fun h => by cases h), hn, rfl⟩ ?_
 · exact fun W h1 h2 => hin W (hB'1.trans h1) (Only.trans (by first | exact hO'1 | exact Only.refl _ _) h2)
 rintro _ _ W4 ⟨u, k, m, v, leaf, b2, a2, c2, rfl, rfl, hB_4, hO_4, k4_b1, hRx, hJ, hen, hm, hv, hE, hk, hlu, hun, htr⟩ J4 hJ4 r4
 have hs_r4 : B ≤ W4.heap.size := Nat.le_trans hBw hB_4.size
 obtain ⟨fa, mf, fc, hR⟩ := hRx
 have hmb := maxN_pos t leaf
 rw [hm] at hmb
 have hlg := levs_ge (ovN u.length m)
 have hov := ovN_le u.length m hmb.1
 have hop := ovN_pos u.length m
 refine xr 15 (args := #[.int .i64 t, .bool leaf]) (ref07_Max t leaf m hm ht1 ht2 _) fun W5 hb5 => ?_
 refine xv1 5 10 (show (.int .i64 0 : Value) = .int .i64 (↑(0 * m) : Int) from by rw [Nat.zero_mul]; rfl) ?_
 have hR'3 := hR.below hb5
 have hJ'2 := hJ.below hb5
 have hB := Bl.nextB (Below.refl B W4) hs_r4 hb5
 have hO := (show Only [48, 9] W4 _ from (Only.of_below hb5))
 have k4_b1'1 := k4_b1.below hb5
 refine zl 0 128 (fun zm zkv V => ∃ (i : Nat) (p4 : Option Addr) (c4 : Nat) (fa : Option Addr) (mf fc : Nat), zkv = [(0, .pointer (some ⟨bc, 0, none⟩)), (1, .int .i64 t), (2, .slice a2 u.length c2), (7, .pointer (some ⟨b1, 0, none⟩)), (8, .bool leaf), (9, .slice p4 i c4), (10, .int .i64 (↑(i * m) : Int)), (11, .int .i64 (↑m : Int))] ∧ zm = (ovN u.length m) - i ∧ Below B W4 V ∧ Only [48, 9] W4 V ∧ Blk V b1 ([.slice none 0 0, .int .i64 0]) 33 ∧ V.ownsRow W4.heap.size 73 3 (.slice p4 i c4) i ((upE u m (f + k) i).flatMap entC) ∧ RAl B bc bm pg N cg fa mf fc (k + i) (rngJ f N) V ∧ RefI B bm p K cI (levB t leaf m v u (f + k) b2 i) V ∧ i ≤ (ovN u.length m)) ⟨0, none, 0, fa, mf, fc, rfl, rfl, hB, hO, k4_b1'1, World.ownsRow_nil _ _ _ _, hR'3, hJ'2, Nat.zero_le _⟩ ?_
 rintro _ _ W6 ⟨i, p4, c4, fa, mf, fc, rfl, rfl, hB_6, hO_6, k6_b1, hup, hR, hJ, hi⟩ J6 hJ6 r6
 have hlt : (i * m < u.length ∨ i = 0) → i < (ovN u.length m) := from_lt hmb.1
 have him : i * m = 0 → i = 0 := fun h => (Nat.mul_eq_zero.1 h).elim id (fun h => by omega)
 refine xg 8 [41, 42] (decide ((↑(i * m) : Int) < (↑u.length : Int))) (fun hc7 => ?_) (fun hc7 => ?_)
 · have hc7 := of_decide_eq_true hc7
   have hF8 := hB_6
   have hOhF8 := hO_6
   refine xa 14 [.int .i64 0, .bool false, .slice none 0 0, .slice none 0 0] 87 fun b9 W9 n9 => ?_
   refine xsv 0 n9.blk [.int .i64 t, .bool leaf, .slice none 0 0, .slice none 0 0] fun W10 u10 k10 => ?_
   have g9 := n9.ge (Below.refl W6.heap.size _)
   have hB := u10.below n9.below g9
   refine zl 10 128 (fun zm zkv V => ∃ (j : Nat) (kp : Option Addr) (kc : Nat) (vp : Option Addr) (vc : Nat), zkv = [(0, .pointer (some ⟨bc, 0, none⟩)), (1, .int .i64 t), (2, .slice a2 u.length c2), (7, .pointer (some ⟨b1, 0, none⟩)), (8, .bool leaf), (9, .slice p4 i c4), (10, .int .i64 (↑(i * m) : Int)), (11, .int .i64 (↑m : Int)), (12, .pointer (some ⟨b9, 0, none⟩)), (13, .int .i64 (↑(i * m + j) : Int))] ∧ zm = m - j ∧ Below W6.heap.size W6 V ∧ Blk V b9 ([.int .i64 t, .bool leaf, .slice kp j kc, .slice vp j vc]) 87 ∧ V.ownsRow W6.heap.size 3 1 (.slice kp j kc) j (((keysE (chunkE u m i)).take j).map (Value.int .i64)) ∧ V.ownsRow W6.heap.size 9 1 (.slice vp j vc) j (((valsE (chunkE u m i)).take j).map sv) ∧ j ≤ sizN u.length m i) ⟨0, none, 0, none, 0, rfl, rfl, hB, k10, World.ownsRow_nil _ _ _ _, World.ownsRow_nil _ _ _ _, Nat.zero_le _⟩ ?_
   rintro _ _ W11 ⟨j, kp, kc, vp, vc, rfl, rfl, hB_11, k11_b9, hK, hV, hj⟩ J11 hJ11 r11
   have hsz : sizN u.length m i = min m (u.length - i * m) := rfl
   have hcl0 := chunk_len u m i
   have hcg : j < sizN u.length m i → (chunkE u m i).getD j entD = u.getD (i * m + j) entD := chunk_get
   refine xg 8 [53, 54] (decide ((↑(i * m + j) : Int) < (↑u.length : Int))) (fun hc12 => ?_) (fun hc12 => ?_)
   · have hc12 := of_decide_eq_true hc12
     refine xwm 3 ((↑(i * m) : Int) + (↑m : Int)) (↑((i * m) + m) : Int) ?_
     refine xid 4 ((↑(i * m + j) : Int) < (↑((i * m) + m) : Int)) (fun hc13 => ?_) (fun hc13 => ?_)
     · refine xd 5 (.t W6.heap.size [3, 87]) ?_
       have hen_hF8 := hen _ hF8 hOhF8
       refine xx (.e [0, 2, 3] 4) _ u.length (i * m + j) 3 (Sts.cell hen_hF8 entC_len entD (k := (i * m + j)) (i := 0) (by omega) rfl).1 ?_
       have hV'1 := own_below hV (below_drew W11)
       have hB'2 := Bl.next hB_11 (below_drew W11)
       refine xlt (.e [5] 6) (.t W6.heap.size [3, 87]) (fun V hV'1 => (Sts.cell (hen_hF8.below (sft_keep hB'2 hV'1 (Nat.le_refl _))) entC_len entD (k := (i * m + j)) (i := 0) (by omega) rfl).2) ?_
       refine xm2 0 1 7 ?_ ?_
       · have k11_b9'1 := k11_b9.below (below_drew W11)
         refine xb 0 2 k11_b9'1 ?_
         refine xbs (.o [] 7) 1 [.int .i64 ((u.getD (i * m + j) entD).1)] 3 fun b14 W14 n14 => ?_
         have hK'1 := own_below hK (below_drew W11)
         have r14_hK := own_ne hK'1 n14
         have hK'2 := own_below hK'1 n14.below
         have hB'3 := Bl.next hB'2 n14.below
         refine ybi (.o [] 8) (.t W6.heap.size [3, 87]) fun _ _ _ _ zJ zQ zo zx zy zK => op_app (m := 1) (news := [.int .i64 ((u.getD (i * m + j) entD).1)]) (.int .i64 0) 1 8 (j + 1) (((keysE (chunkE u m i)).take (j + 1)).map (Value.int .i64)) zo Tryz.underlying31 (by kernel_rfl) rfl (by decide) zx hK'2 zy (n14.blk.sl 1 1 (by decide) (by decide)) rfl (by simp [Value.oneCell']) (by unfold maxLen; omega) (by omega) hB'3.size (by rfl) (by rw [keys_take (by omega), hcg (by omega)]) fun p15 c15 W15 o15 hg15 hb15 => ?_
         refine zK _ _ (sft_grown hb15 hg15 hK'2 (by decide)) ?_
         have k11_b9'2 := (k11_b9'1.below n14.below).grown hg15 hK'2 (by decide)
         refine ys (.o [9] 10) k11_b9'2 [.int .i64 t, .bool leaf, .slice p15 (j + 1) c15, .slice vp j vc] (.t W6.heap.size [3, 87]) fun W16 u16 k16 => ⟨(sft_upd u16 k11_b9'2 g9 (by decide)), ?_⟩
         refine xd 2 (.t W6.heap.size [9, 87]) ?_
         refine xx (.e [0, 2, 3] 4) _ u.length (i * m + j) 3 (Sts.cell hen_hF8 entC_len entD (k := (i * m + j)) (i := 0) (by omega) rfl).1 ?_
         have hV'2 := own_below (u16.own2 (own_grown (own_below hV'1 n14.below) hg15 hK'2 (by decide)) k11_b9'2 (by decide)) (below_drew W16)
         have hB'4 := Bl.next (u16.below (hB'3.trans hb15) g9) (below_drew W16)
         refine xlt (.e [5] 6) (.t W6.heap.size [9, 87]) (fun V hV'2 => (Sts.cell (hen_hF8.below (sft_keep hB'4 hV'2 (Nat.le_refl _))) entC_len entD (k := (i * m + j)) (i := 1) (by omega) rfl).2) ?_
         refine xm2 0 1 7 ?_ ?_
         · have k16'1 := k16.below (below_drew W16)
           refine xb 0 3 k16'1 ?_
           refine xbs (.o [] 7) 1 [.string ⟨((u.getD (i * m + j) entD).2.1).toArray⟩] 9 fun b17 W17 n17 => ?_
           have r17_hV := own_ne hV'2 n17
           have hV'3 := own_below hV'2 n17.below
           have hB'5 := Bl.next hB'4 n17.below
           refine ybi (.o [] 8) (.t W6.heap.size [9, 87]) fun _ _ _ _ zJ zQ zo zx zy zK => op_app (m := 1) (news := [.string ⟨((u.getD (i * m + j) entD).2.1).toArray⟩]) (.string ⟨#[]⟩) 1 16 (j + 1) (((valsE (chunkE u m i)).take (j + 1)).map sv) zo Tryz.underlying75 (by kernel_rfl) rfl (by decide) zx hV'3 zy (n17.blk.sl 1 1 (by decide) (by decide)) rfl (by simp [Value.oneCell']) (by unfold maxLen; omega) (by omega) hB'5.size (by rfl) (by rw [vals_take (by omega), hcg (by omega)]) fun p18 c18 W18 o18 hg18 hb18 => ?_
           refine zK _ _ (sft_grown hb18 hg18 hV'3 (by decide)) ?_
           have k16'2 := (k16'1.below n17.below).grown hg18 hV'3 (by decide)
           refine ys (.o [9] 10) k16'2 [.int .i64 t, .bool leaf, .slice p15 (j + 1) c15, .slice p18 (j + 1) c18] (.t W6.heap.size [9, 87]) fun W19 u19 k19 => ⟨(sft_upd u19 k16'2 g9 (by decide)), ?_⟩
           refine xwm 5 ((↑(i * m + j) : Int) + 1) (↑((i * m + j) + 1) : Int) ?_
           have hB'6 := u19.below (hB'5.trans hb18) g9
           have o15'1 := u19.own2 (own_grown (own_below (own_below (u16.own2 o15 k11_b9'2 (by decide)) (below_drew W16)) n17.below) hg18 hV'3 (by decide)) k16'2 (by decide)
           have o18'1 := u19.own2 o18 k16'2 (by decide)
           exact ze 2 (hJ11 _ _ _ ⟨j + 1, _, _, _, _, rfl, rfl, hB'6, k19, o15'1, o18'1, by omega⟩ (by omega))
         refine xbs 0 1 [.string ⟨((u.getD (i * m + j) entD).2.1).toArray⟩] 9 fun b20 W20 n20 => ?_
         have r20_hV := own_ne hV'2 n20
         have k16'3 := (k16.below (below_drew W16)).below n20.below
         refine xb (.o [] 1) 3 k16'3 ?_
         have hV'4 := own_below hV'2 n20.below
         have hB'7 := Bl.next hB'4 n20.below
         refine ybi (.o [] 8) (.t W6.heap.size [9, 87]) fun _ _ _ _ zJ zQ zo zx zy zK => op_app (m := 1) (news := [.string ⟨((u.getD (i * m + j) entD).2.1).toArray⟩]) (.string ⟨#[]⟩) 1 16 (j + 1) (((valsE (chunkE u m i)).take (j + 1)).map sv) zo Tryz.underlying75 (by kernel_rfl) rfl (by decide) zx hV'4 zy (n20.blk.sl 1 1 (by decide) (by decide)) rfl (by simp [Value.oneCell']) (by unfold maxLen; omega) (by omega) hB'7.size (by rfl) (by rw [vals_take (by omega), hcg (by omega)]) fun p21 c21 W21 o21 hg21 hb21 => ?_
         refine zK _ _ (sft_grown hb21 hg21 hV'4 (by decide)) ?_
         have k16'4 := k16'3.grown hg21 hV'4 (by decide)
         refine ys (.o [9] 10) k16'4 [.int .i64 t, .bool leaf, .slice p15 (j + 1) c15, .slice p21 (j + 1) c21] (.t W6.heap.size [9, 87]) fun W22 u22 k22 => ⟨(sft_upd u22 k16'4 g9 (by decide)), ?_⟩
         refine xwm 5 ((↑(i * m + j) : Int) + 1) (↑((i * m + j) + 1) : Int) ?_
         have hB'8 := u22.below (hB'7.trans hb21) g9
         have o15'2 := u22.own2 (own_grown (own_below (own_below (u16.own2 o15 k11_b9'2 (by decide)) (below_drew W16)) n20.below) hg21 hV'4 (by decide)) k16'4 (by decide)
         have o21'1 := u22.own2 o21 k16'4 (by decide)
         exact ze 2 (hJ11 _ _ _ ⟨j + 1, _, _, _, _, rfl, rfl, hB'8, k22, o15'2, o21'1, by omega⟩ (by omega))
       refine xbs 0 1 [.int .i64 ((u.getD (i * m + j) entD).1)] 3 fun b23 W23 n23 => ?_
       have hK'3 := own_below hK (below_drew W11)
       have r23_hK := own_ne hK'3 n23
       have k11_b9'3 := (k11_b9.below (below_drew W11)).below n23.below
       refine xb (.o [] 1) 2 k11_b9'3 ?_
       have hK'4 := own_below hK'3 n23.below
       have hB'9 := Bl.next hB'2 n23.below
       refine ybi (.o [] 8) (.t W6.heap.size [3, 87]) fun _ _ _ _ zJ zQ zo zx zy zK => op_app (m := 1) (news := [.int .i64 ((u.getD (i * m + j) entD).1)]) (.int .i64 0) 1 8 (j + 1) (((keysE (chunkE u m i)).take (j + 1)).map (Value.int .i64)) zo Tryz.underlying31 (by kernel_rfl) rfl (by decide) zx hK'4 zy (n23.blk.sl 1 1 (by decide) (by decide)) rfl (by simp [Value.oneCell']) (by unfold maxLen; omega) (by omega) hB'9.size (by rfl) (by rw [keys_take (by omega), hcg (by omega)]) fun p24 c24 W24 o24 hg24 hb24 => ?_
       refine zK _ _ (sft_grown hb24 hg24 hK'4 (by decide)) ?_
       have k11_b9'4 := k11_b9'3.grown hg24 hK'4 (by decide)
       refine ys (.o [9] 10) k11_b9'4 [.int .i64 t, .bool leaf, .slice p24 (j + 1) c24, .slice vp j vc] (.t W6.heap.size [3, 87]) fun W25 u25 k25 => ⟨(sft_upd u25 k11_b9'4 g9 (by decide)), ?_⟩
       refine xd 2 (.t W6.heap.size [9, 87]) ?_
       refine xx (.e [0, 2, 3] 4) _ u.length (i * m + j) 3 (Sts.cell hen_hF8 entC_len entD (k := (i * m + j)) (i := 0) (by omega) rfl).1 ?_
       have hV'5 := own_below (u25.own2 (own_grown (own_below hV'1 n23.below) hg24 hK'4 (by decide)) k11_b9'4 (by decide)) (below_drew W25)
       have hB'10 := Bl.next (u25.below (hB'9.trans hb24) g9) (below_drew W25)
       refine xlt (.e [5] 6) (.t W6.heap.size [9, 87]) (fun V hV'5 => (Sts.cell (hen_hF8.below (sft_keep hB'10 hV'5 (Nat.le_refl _))) entC_len entD (k := (i * m + j)) (i := 1) (by omega) rfl).2) ?_
       refine xm2 0 1 7 ?_ ?_
       · have k25'1 := k25.below (below_drew W25)
         refine xb 0 3 k25'1 ?_
         refine xbs (.o [] 7) 1 [.string ⟨((u.getD (i * m + j) entD).2.1).toArray⟩] 9 fun b26 W26 n26 => ?_
         have r26_hV := own_ne hV'5 n26
         have hV'6 := own_below hV'5 n26.below
         have hB'11 := Bl.next hB'10 n26.below
         refine ybi (.o [] 8) (.t W6.heap.size [9, 87]) fun _ _ _ _ zJ zQ zo zx zy zK => op_app (m := 1) (news := [.string ⟨((u.getD (i * m + j) entD).2.1).toArray⟩]) (.string ⟨#[]⟩) 1 16 (j + 1) (((valsE (chunkE u m i)).take (j + 1)).map sv) zo Tryz.underlying75 (by kernel_rfl) rfl (by decide) zx hV'6 zy (n26.blk.sl 1 1 (by decide) (by decide)) rfl (by simp [Value.oneCell']) (by unfold maxLen; omega) (by omega) hB'11.size (by rfl) (by rw [vals_take (by omega), hcg (by omega)]) fun p27 c27 W27 o27 hg27 hb27 => ?_
         refine zK _ _ (sft_grown hb27 hg27 hV'6 (by decide)) ?_
         have k25'2 := (k25'1.below n26.below).grown hg27 hV'6 (by decide)
         refine ys (.o [9] 10) k25'2 [.int .i64 t, .bool leaf, .slice p24 (j + 1) c24, .slice p27 (j + 1) c27] (.t W6.heap.size [9, 87]) fun W28 u28 k28 => ⟨(sft_upd u28 k25'2 g9 (by decide)), ?_⟩
         refine xwm 5 ((↑(i * m + j) : Int) + 1) (↑((i * m + j) + 1) : Int) ?_
         have hB'12 := u28.below (hB'11.trans hb27) g9
         have o24'1 := u28.own2 (own_grown (own_below (own_below (u25.own2 o24 k11_b9'4 (by decide)) (below_drew W25)) n26.below) hg27 hV'6 (by decide)) k25'2 (by decide)
         have o27'1 := u28.own2 o27 k25'2 (by decide)
         exact ze 2 (hJ11 _ _ _ ⟨j + 1, _, _, _, _, rfl, rfl, hB'12, k28, o24'1, o27'1, by omega⟩ (by omega))
       refine xbs 0 1 [.string ⟨((u.getD (i * m + j) entD).2.1).toArray⟩] 9 fun b29 W29 n29 => ?_
       have r29_hV := own_ne hV'5 n29
       have k25'3 := (k25.below (below_drew W25)).below n29.below
       refine xb (.o [] 1) 3 k25'3 ?_
       have hV'7 := own_below hV'5 n29.below
       have hB'13 := Bl.next hB'10 n29.below
       refine ybi (.o [] 8) (.t W6.heap.size [9, 87]) fun _ _ _ _ zJ zQ zo zx zy zK => op_app (m := 1) (news := [.string ⟨((u.getD (i * m + j) entD).2.1).toArray⟩]) (.string ⟨#[]⟩) 1 16 (j + 1) (((valsE (chunkE u m i)).take (j + 1)).map sv) zo Tryz.underlying75 (by kernel_rfl) rfl (by decide) zx hV'7 zy (n29.blk.sl 1 1 (by decide) (by decide)) rfl (by simp [Value.oneCell']) (by unfold maxLen; omega) (by omega) hB'13.size (by rfl) (by rw [vals_take (by omega), hcg (by omega)]) fun p30 c30 W30 o30 hg30 hb30 => ?_
       refine zK _ _ (sft_grown hb30 hg30 hV'7 (by decide)) ?_
       have k25'4 := k25'3.grown hg30 hV'7 (by decide)
       refine ys (.o [9] 10) k25'4 [.int .i64 t, .bool leaf, .slice p24 (j + 1) c24, .slice p30 (j + 1) c30] (.t W6.heap.size [9, 87]) fun W31 u31 k31 => ⟨(sft_upd u31 k25'4 g9 (by decide)), ?_⟩
       refine xwm 5 ((↑(i * m + j) : Int) + 1) (↑((i * m + j) + 1) : Int) ?_
       have hB'14 := u31.below (hB'13.trans hb30) g9
       have o24'2 := u31.own2 (own_grown (own_below (own_below (u25.own2 o24 k11_b9'4 (by decide)) (below_drew W25)) n29.below) hg30 hV'7 (by decide)) k25'4 (by decide)
       have o30'1 := u31.own2 o30 k25'4 (by decide)
       exact ze 2 (hJ11 _ _ _ ⟨j + 1, _, _, _, _, rfl, rfl, hB'14, k31, o24'2, o30'1, by omega⟩ (by omega))
     refine xlv 7 k11_b9.rp ?_
     have hT32 : Below W6.heap.size W6 W11 := hB_11
     have hs32 : W4.heap.size ≤ W6.heap.size := hF8.size
     have hK'5 := own_mono hK hs32
     have hV'8 := own_mono hV hs32
     have hjs : sizN u.length m i = j := by omega
     have hcl : (chunkE u m i).length = j := by rw [chunk_len, hjs]
     have hck : (keysE (chunkE u m i)).take j = keysE (chunkE u m i) := List.take_of_length_le (by rw [keysE_len]; omega)
     have hcv : (valsE (chunkE u m i)).take j = valsE (chunkE u m i) := List.take_of_length_le (by rw [valsE_len]; omega)
     rw [hck] at hK'5
     rw [hcv] at hV'8
     have hN := chunk_ok hE ht1 ht2 hm hv (fun h => by have := hlu h; omega) (show i < (ovN u.length m) by omega)
     have hlen := nodeE_len hN
     rw [hcl] at hN
     have hnd : nodeP m v (headB t leaf j m v) (keysE (chunkE u m i)) (valsE (chunkE u m i)) j = nodeE t leaf m v (chunkE u m i) := by rw [← hcl]; rfl
     refine xc 0 (args := #[.agg #[.int .i64 t, .bool leaf, .slice kp j kc, .slice vp j vc]]) (ref07_Put t leaf j m v (keysE (chunkE u m i)) (valsE (chunkE u m i)) kp vp kc vc _ hN (own_sl hK'5) (own_sl hV'8)) ?_
     rintro _ W33 ⟨_, rfl, hb33, p6, c6, rfl, h6⟩
     have hs33 := (Bl.nextB hF8 hs_r4 hT32).size
     have h6'1 := own_mono h6 hs33
     rw [hnd] at h6'1
     have hR'4 := (hR.below hT32).below hb33
     have hJ'3 := (hJ.below hT32).below hb33
     have hO := (hOhF8.trans (Only.of_below hT32)).trans (Only.of_below hb33)
     have hB := Bl.nextB (Bl.nextB hF8 hs_r4 hT32) hs_r4 hb33
     refine xc 11 (args := #[.pointer (some ⟨bc, 0, none⟩), .int .i64 2, .slice p6 244 c6]) (ref_LayQ B bc bm pg N cg fa mf fc f (k + i) p K cI (levB t leaf m v u (f + k) b2 i) p6 c6 244 (nodeE t leaf m v (chunkE u m i)) (f + k + i) _ (Nat.add_assoc _ _ _).symm hlen (by decide) (by omega) hf hR'4 hJ'3 (fun W _ hO => bys_of (own_sl (own_only h6'1 hO (by decide))) hlen) (Nat.le_trans hs_r4 hB.size)) ?_
     rintro _ W34 ⟨a9, c9, fa3, mf3, fc3, rfl, hb34, hO34, hR, hJ⟩
     refine xa 3 [.slice none 0 0, .int .i64 0] 33 fun b35 W35 n35 => ?_
     have k6_b1'1 := ((k6_b1.below hT32).below hb33).only hO34 (by decide)
     have d35_b1 := n35.ne k6_b1'1
     refine xsv 1 n35.blk [.slice a9 0 c9, .int .i64 0] fun W36 u36 k36 => ?_
     have g35 := n35.ge0 (hB.trans hb34)
     refine xb 6 1 k36 ?_
     refine xc 9 (args := #[.int .i64 (↑(f + k + i) : Int), .int .i64 4]) (ref_BytesN ((f + k + i : Nat) : Int) 4 4 _ (by omega) (by omega) rfl (by decide)) ?_
     rintro _ W37 ⟨_, rfl, hb37, pk, ck, rfl, h8b⟩
     have hs37 := (u36.below (Bl.nextB (hB.trans hb34) hs_r4 n35.below) (Nat.le_trans hs_r4 g35)).size
     have h8b'1 := own_mono h8b hs37
     refine xcv0 0 (fun _ _ _ zo zx => run_bstr zo zx (bys_of (own_sl h8b'1) (leB_len _ _)) (leB_len _ _) Tryz.underlying29 Tryz.underlying5 Tryz.underlying9) ?_
     refine xa 2 [.int .i64 0, .string ⟨#[]⟩, .int .i64 0] 73 fun b38 W38 n38 => ?_
     have hup'1 := own_below (u36.own2 (own_below (own_only (own_below (own_below hup hT32) hb33) hO34 (by decide)) n35.below) n35.blk (by decide)) hb37
     have r38_hup := own_ne hup'1 n38
     refine xsv 0 n38.blk [.int .i64 0, .string ⟨(leB (↑(f + k + i) : Int) 4).toArray⟩, .int .i64 (↑(f + k + i) : Int)] fun W39 u39 k39 => ?_
     have g38 := n38.ge0 (Bl.nextB (u36.below (Bl.nextB (hB.trans hb34) hs_r4 n35.below) (Nat.le_trans hs_r4 g35)) hs_r4 hb37)
     have k11_b9'5 := u39.blkT (((u36.blkT (((k11_b9.below hb33).only hO34 (by decide)).below n35.below) n35.blk (by decide)).below hb37).below n38.below) n38.blk (by decide)
     refine xb 6 2 k11_b9'5 ?_
     refine xid 4 ((↑j : Int) > (0 : Int)) (fun hc40 => ?_) (fun hc40 => ?_)
     · have hkey : ((keysE (chunkE u m i))).getD 0 0 = ((chunkE u m i).getD 0 entD).1 := chunk_key hjs (by omega)
       refine xb 2 2 k11_b9'5 ?_
       have hK'6 := u39.own2 (own_below (own_below (u36.own2 (own_below (own_only (own_below hK'5 hb33) hO34 (by decide)) n35.below) n35.blk (by decide)) hb37) n38.below) n38.blk (by decide)
       refine xx 0 _ j 0 1 (IntsN.elem (own_sl hK'6) (by rw [keysE_len, hcl]) (k := 0) (by omega)).1 ?_
       refine xl 0 ((IntsN.elem (own_sl hK'6) (by rw [keysE_len, hcl]) (k := 0) (by omega)).2) ?_
       refine xs 1 k39 [.int .i64 ((keysE (chunkE u m i)).getD 0 0), .string ⟨(leB (↑(f + k + i) : Int) 4).toArray⟩, .int .i64 (↑(f + k + i) : Int)] fun W41 u41 k41 => ?_
       refine xlv 5 k41.rp ?_
       refine xbs 0 1 [.int .i64 ((keysE (chunkE u m i)).getD 0 0), .string ⟨(leB (↑(f + k + i) : Int) 4).toArray⟩, .int .i64 (↑(f + k + i) : Int)] 73 fun b42 W42 n42 => ?_
       have d42_b38 := n42.ne k41
       have hB'15 := u41.below (u39.below (Bl.nextB (Bl.nextB (u36.below (Bl.nextB (hB.trans hb34) hs_r4 n35.below) (Nat.le_trans hs_r4 g35)) hs_r4 hb37) hs_r4 n38.below) (Nat.le_trans hs_r4 g38)) (Nat.le_trans hs_r4 g38)
       have hup'2 := u41.own3 (u39.own3 (own_below hup'1 n38.below) r38_hup) r38_hup
       have r42_hup := own_ne hup'2 n42
       have hup'3 := own_below hup'2 n42.below
       have hB'16 := Bl.nextB hB'15 hs_r4 n42.below
       refine xbi 0 fun _ _ _ _ zJ zQ zo zx zy zK => op_app (m := 1) (news := [.int .i64 ((keysE (chunkE u m i)).getD 0 0), .string ⟨(leB (↑(f + k + i) : Int) 4).toArray⟩, .int .i64 (↑(f + k + i) : Int)]) (.agg #[.int .i64 0, .string ⟨#[]⟩, .int .i64 0]) 3 32 (i + 1) ((upE u m (f + k) (i + 1)).flatMap entC) zo Tryz.underlying22 (by kernel_rfl) rfl (by decide) zx hup'3 zy (n42.blk.sl 1 1 (by decide) (by decide)) rfl (by simp [Value.oneCell']) (by unfold maxLen; omega) (by omega) hB'16.size (by rfl) (up_row (by first | exact hkey | exact hkey0)) fun p43 c43 W43 o43 hg43 hb43 => ?_
       refine zK _ _ ?_
       refine xwm 6 ((↑(i * m) : Int) + (↑m : Int)) (↑((i * m) + m) : Int) ?_
       refine xv1 3 10 (show (.int .i64 (↑((i * m) + m) : Int) : Value) = .int .i64 (↑((i + 1) * m) : Int) from by rw [Nat.add_mul, Nat.one_mul]) ?_
       have hR'5 := (((((((hR.below n35.below).only (Only.of_upd (T := [33]) u36 n35.blk (by decide)) (by decide)).below hb37).below n38.below).only (Only.of_upd (T := [73]) u39 n38.blk (by decide)) (by decide)).only (Only.of_upd (T := [73]) u41 k39 (by decide)) (by decide)).below n42.below).only (Only.of_grown (T := [73]) hg43 hup'3 (by decide)) (by decide)
       have hJ'4 := (((((((hJ.below n35.below).only (Only.of_upd (T := [33]) u36 n35.blk (by decide)) (by decide)).below hb37).below n38.below).only (Only.of_upd (T := [73]) u39 n38.blk (by decide)) (by decide)).only (Only.of_upd (T := [73]) u41 k39 (by decide)) (by decide)).below n42.below).only (Only.of_grown (T := [73]) hg43 hup'3 (by decide)) (by decide)
       have hB'17 := hB'16.trans (hb43.mono hs_r4)
       have hO'2 := (Only.grown_new ((Only.upd_new (Only.upd_new (((Only.upd_new ((hO.trans hO34).trans (Only.of_below n35.below)) u36 g35).trans (Only.of_below hb37)).trans (Only.of_below n38.below)) u39 g38) u41 g38).trans (Only.of_below n42.below)) hg43 hup'3)
       have k6_b1'2 := ((u41.blkT (u39.blkT (((u36.blk (k6_b1'1.below n35.below) (Ne.symm (Ne.symm d35_b1))).below hb37).below n38.below) n38.blk (by decide)) k39 (by decide)).below n42.below).grown hg43 hup'3 (by decide)
       exact ze 0 (hJ6 _ _ _ ⟨i + 1, _, _, _, _, _, rfl, rfl, hB'17, hO'2, k6_b1'2, o43, hR'5, hJ'4, by omega⟩ (by omega))
     have hkey0 : (0 : Int) = ((chunkE u m i).getD 0 entD).1 := chunk_nokey hjs (by omega)
     refine xlv 5 k39.rp ?_
     refine xbs 0 1 [.int .i64 0, .string ⟨(leB (↑(f + k + i) : Int) 4).toArray⟩, .int .i64 (↑(f + k + i) : Int)] 73 fun b44 W44 n44 => ?_
     have d44_b38 := n44.ne k39
     have hB'18 := u39.below (Bl.nextB (Bl.nextB (u36.below (Bl.nextB (hB.trans hb34) hs_r4 n35.below) (Nat.le_trans hs_r4 g35)) hs_r4 hb37) hs_r4 n38.below) (Nat.le_trans hs_r4 g38)
     have hup'4 := u39.own3 (own_below hup'1 n38.below) r38_hup
     have r44_hup := own_ne hup'4 n44
     have hup'5 := own_below hup'4 n44.below
     have hB'19 := Bl.nextB hB'18 hs_r4 n44.below
     refine xbi 0 fun _ _ _ _ zJ zQ zo zx zy zK => op_app (m := 1) (news := [.int .i64 0, .string ⟨(leB (↑(f + k + i) : Int) 4).toArray⟩, .int .i64 (↑(f + k + i) : Int)]) (.agg #[.int .i64 0, .string ⟨#[]⟩, .int .i64 0]) 3 32 (i + 1) ((upE u m (f + k) (i + 1)).flatMap entC) zo Tryz.underlying22 (by kernel_rfl) rfl (by decide) zx hup'5 zy (n44.blk.sl 1 1 (by decide) (by decide)) rfl (by simp [Value.oneCell']) (by unfold maxLen; omega) (by omega) hB'19.size (by rfl) (up_row (by first | exact hkey | exact hkey0)) fun p45 c45 W45 o45 hg45 hb45 => ?_
     refine zK _ _ ?_
     refine xwm 6 ((↑(i * m) : Int) + (↑m : Int)) (↑((i * m) + m) : Int) ?_
     refine xv1 3 10 (show (.int .i64 (↑((i * m) + m) : Int) : Value) = .int .i64 (↑((i + 1) * m) : Int) from by rw [Nat.add_mul, Nat.one_mul]) ?_
     have hR'6 := ((((((hR.below n35.below).only (Only.of_upd (T := [33]) u36 n35.blk (by decide)) (by decide)).below hb37).below n38.below).only (Only.of_upd (T := [73]) u39 n38.blk (by decide)) (by decide)).below n44.below).only (Only.of_grown (T := [73]) hg45 hup'5 (by decide)) (by decide)
     have hJ'5 := ((((((hJ.below n35.below).only (Only.of_upd (T := [33]) u36 n35.blk (by decide)) (by decide)).below hb37).below n38.below).only (Only.of_upd (T := [73]) u39 n38.blk (by decide)) (by decide)).below n44.below).only (Only.of_grown (T := [73]) hg45 hup'5 (by decide)) (by decide)
     have hB'20 := hB'19.trans (hb45.mono hs_r4)
     have hO'3 := (Only.grown_new ((Only.upd_new (((Only.upd_new ((hO.trans hO34).trans (Only.of_below n35.below)) u36 g35).trans (Only.of_below hb37)).trans (Only.of_below n38.below)) u39 g38).trans (Only.of_below n44.below)) hg45 hup'5)
     have k6_b1'3 := ((u39.blkT (((u36.blk (k6_b1'1.below n35.below) (Ne.symm (Ne.symm d35_b1))).below hb37).below n38.below) n38.blk (by decide)).below n44.below).grown hg45 hup'5 (by decide)
     exact ze 0 (hJ6 _ _ _ ⟨i + 1, _, _, _, _, _, rfl, rfl, hB'20, hO'3, k6_b1'3, o45, hR'6, hJ'5, by omega⟩ (by omega))
   have hc12 := of_decide_eq_false hc12
   refine xlv 16 k11_b9.rp ?_
   have hT46 : Below W6.heap.size W6 W11 := hB_11
   have hs46 : W4.heap.size ≤ W6.heap.size := hF8.size
   have hK'7 := own_mono hK hs46
   have hV'9 := own_mono hV hs46
   have hjs : sizN u.length m i = j := by omega
   have hcl : (chunkE u m i).length = j := by rw [chunk_len, hjs]
   have hck : (keysE (chunkE u m i)).take j = keysE (chunkE u m i) := List.take_of_length_le (by rw [keysE_len]; omega)
   have hcv : (valsE (chunkE u m i)).take j = valsE (chunkE u m i) := List.take_of_length_le (by rw [valsE_len]; omega)
   rw [hck] at hK'7
   rw [hcv] at hV'9
   have hN := chunk_ok hE ht1 ht2 hm hv (fun h => by have := hlu h; omega) (show i < (ovN u.length m) by omega)
   have hlen := nodeE_len hN
   rw [hcl] at hN
   have hnd : nodeP m v (headB t leaf j m v) (keysE (chunkE u m i)) (valsE (chunkE u m i)) j = nodeE t leaf m v (chunkE u m i) := by rw [← hcl]; rfl
   refine xc 0 (args := #[.agg #[.int .i64 t, .bool leaf, .slice kp j kc, .slice vp j vc]]) (ref07_Put t leaf j m v (keysE (chunkE u m i)) (valsE (chunkE u m i)) kp vp kc vc _ hN (own_sl hK'7) (own_sl hV'9)) ?_
   rintro _ W47 ⟨_, rfl, hb47, p6, c6, rfl, h6⟩
   have hs47 := (Bl.nextB hF8 hs_r4 hT46).size
   have h6'2 := own_mono h6 hs47
   rw [hnd] at h6'2
   have hR'7 := (hR.below hT46).below hb47
   have hJ'6 := (hJ.below hT46).below hb47
   have hO := (hOhF8.trans (Only.of_below hT46)).trans (Only.of_below hb47)
   have hB := Bl.nextB (Bl.nextB hF8 hs_r4 hT46) hs_r4 hb47
   refine xc 11 (args := #[.pointer (some ⟨bc, 0, none⟩), .int .i64 2, .slice p6 244 c6]) (ref_LayQ B bc bm pg N cg fa mf fc f (k + i) p K cI (levB t leaf m v u (f + k) b2 i) p6 c6 244 (nodeE t leaf m v (chunkE u m i)) (f + k + i) _ (Nat.add_assoc _ _ _).symm hlen (by decide) (by omega) hf hR'7 hJ'6 (fun W _ hO => bys_of (own_sl (own_only h6'2 hO (by decide))) hlen) (Nat.le_trans hs_r4 hB.size)) ?_
   rintro _ W48 ⟨a9, c9, fa3, mf3, fc3, rfl, hb48, hO48, hR, hJ⟩
   refine xa 3 [.slice none 0 0, .int .i64 0] 33 fun b49 W49 n49 => ?_
   have k6_b1'4 := ((k6_b1.below hT46).below hb47).only hO48 (by decide)
   have d49_b1 := n49.ne k6_b1'4
   refine xsv 1 n49.blk [.slice a9 0 c9, .int .i64 0] fun W50 u50 k50 => ?_
   have g49 := n49.ge0 (hB.trans hb48)
   refine xb 6 1 k50 ?_
   refine xc 9 (args := #[.int .i64 (↑(f + k + i) : Int), .int .i64 4]) (ref_BytesN ((f + k + i : Nat) : Int) 4 4 _ (by omega) (by omega) rfl (by decide)) ?_
   rintro _ W51 ⟨_, rfl, hb51, pk, ck, rfl, h8b⟩
   have hs51 := (u50.below (Bl.nextB (hB.trans hb48) hs_r4 n49.below) (Nat.le_trans hs_r4 g49)).size
   have h8b'2 := own_mono h8b hs51
   refine xcv0 0 (fun _ _ _ zo zx => run_bstr zo zx (bys_of (own_sl h8b'2) (leB_len _ _)) (leB_len _ _) Tryz.underlying29 Tryz.underlying5 Tryz.underlying9) ?_
   refine xa 2 [.int .i64 0, .string ⟨#[]⟩, .int .i64 0] 73 fun b52 W52 n52 => ?_
   have hup'6 := own_below (u50.own2 (own_below (own_only (own_below (own_below hup hT46) hb47) hO48 (by decide)) n49.below) n49.blk (by decide)) hb51
   have r52_hup := own_ne hup'6 n52
   refine xsv 0 n52.blk [.int .i64 0, .string ⟨(leB (↑(f + k + i) : Int) 4).toArray⟩, .int .i64 (↑(f + k + i) : Int)] fun W53 u53 k53 => ?_
   have g52 := n52.ge0 (Bl.nextB (u50.below (Bl.nextB (hB.trans hb48) hs_r4 n49.below) (Nat.le_trans hs_r4 g49)) hs_r4 hb51)
   have k11_b9'6 := u53.blkT (((u50.blkT (((k11_b9.below hb47).only hO48 (by decide)).below n49.below) n49.blk (by decide)).below hb51).below n52.below) n52.blk (by decide)
   refine xb 6 2 k11_b9'6 ?_
   refine xid 4 ((↑j : Int) > (0 : Int)) (fun hc54 => ?_) (fun hc54 => ?_)
   · have hkey : ((keysE (chunkE u m i))).getD 0 0 = ((chunkE u m i).getD 0 entD).1 := chunk_key hjs (by omega)
     refine xb 2 2 k11_b9'6 ?_
     have hK'8 := u53.own2 (own_below (own_below (u50.own2 (own_below (own_only (own_below hK'7 hb47) hO48 (by decide)) n49.below) n49.blk (by decide)) hb51) n52.below) n52.blk (by decide)
     refine xx 0 _ j 0 1 (IntsN.elem (own_sl hK'8) (by rw [keysE_len, hcl]) (k := 0) (by omega)).1 ?_
     refine xl 0 ((IntsN.elem (own_sl hK'8) (by rw [keysE_len, hcl]) (k := 0) (by omega)).2) ?_
     refine xs 1 k53 [.int .i64 ((keysE (chunkE u m i)).getD 0 0), .string ⟨(leB (↑(f + k + i) : Int) 4).toArray⟩, .int .i64 (↑(f + k + i) : Int)] fun W55 u55 k55 => ?_
     refine xlv 5 k55.rp ?_
     refine xbs 0 1 [.int .i64 ((keysE (chunkE u m i)).getD 0 0), .string ⟨(leB (↑(f + k + i) : Int) 4).toArray⟩, .int .i64 (↑(f + k + i) : Int)] 73 fun b56 W56 n56 => ?_
     have d56_b52 := n56.ne k55
     have hB'21 := u55.below (u53.below (Bl.nextB (Bl.nextB (u50.below (Bl.nextB (hB.trans hb48) hs_r4 n49.below) (Nat.le_trans hs_r4 g49)) hs_r4 hb51) hs_r4 n52.below) (Nat.le_trans hs_r4 g52)) (Nat.le_trans hs_r4 g52)
     have hup'7 := u55.own3 (u53.own3 (own_below hup'6 n52.below) r52_hup) r52_hup
     have r56_hup := own_ne hup'7 n56
     have hup'8 := own_below hup'7 n56.below
     have hB'22 := Bl.nextB hB'21 hs_r4 n56.below
     refine xbi 0 fun _ _ _ _ zJ zQ zo zx zy zK => op_app (m := 1) (news := [.int .i64 ((keysE (chunkE u m i)).getD 0 0), .string ⟨(leB (↑(f + k + i) : Int) 4).toArray⟩, .int .i64 (↑(f + k + i) : Int)]) (.agg #[.int .i64 0, .string ⟨#[]⟩, .int .i64 0]) 3 32 (i + 1) ((upE u m (f + k) (i + 1)).flatMap entC) zo Tryz.underlying22 (by kernel_rfl) rfl (by decide) zx hup'8 zy (n56.blk.sl 1 1 (by decide) (by decide)) rfl (by simp [Value.oneCell']) (by unfold maxLen; omega) (by omega) hB'22.size (by rfl) (up_row (by first | exact hkey | exact hkey0)) fun p57 c57 W57 o57 hg57 hb57 => ?_
     refine zK _ _ ?_
     refine xwm 6 ((↑(i * m) : Int) + (↑m : Int)) (↑((i * m) + m) : Int) ?_
     refine xv1 3 10 (show (.int .i64 (↑((i * m) + m) : Int) : Value) = .int .i64 (↑((i + 1) * m) : Int) from by rw [Nat.add_mul, Nat.one_mul]) ?_
     have hR'8 := (((((((hR.below n49.below).only (Only.of_upd (T := [33]) u50 n49.blk (by decide)) (by decide)).below hb51).below n52.below).only (Only.of_upd (T := [73]) u53 n52.blk (by decide)) (by decide)).only (Only.of_upd (T := [73]) u55 k53 (by decide)) (by decide)).below n56.below).only (Only.of_grown (T := [73]) hg57 hup'8 (by decide)) (by decide)
     have hJ'7 := (((((((hJ.below n49.below).only (Only.of_upd (T := [33]) u50 n49.blk (by decide)) (by decide)).below hb51).below n52.below).only (Only.of_upd (T := [73]) u53 n52.blk (by decide)) (by decide)).only (Only.of_upd (T := [73]) u55 k53 (by decide)) (by decide)).below n56.below).only (Only.of_grown (T := [73]) hg57 hup'8 (by decide)) (by decide)
     have hB'23 := hB'22.trans (hb57.mono hs_r4)
     have hO'4 := (Only.grown_new ((Only.upd_new (Only.upd_new (((Only.upd_new ((hO.trans hO48).trans (Only.of_below n49.below)) u50 g49).trans (Only.of_below hb51)).trans (Only.of_below n52.below)) u53 g52) u55 g52).trans (Only.of_below n56.below)) hg57 hup'8)
     have k6_b1'5 := ((u55.blkT (u53.blkT (((u50.blk (k6_b1'4.below n49.below) (Ne.symm (Ne.symm d49_b1))).below hb51).below n52.below) n52.blk (by decide)) k53 (by decide)).below n56.below).grown hg57 hup'8 (by decide)
     exact ze 0 (hJ6 _ _ _ ⟨i + 1, _, _, _, _, _, rfl, rfl, hB'23, hO'4, k6_b1'5, o57, hR'8, hJ'7, by omega⟩ (by omega))
   have hkey0 : (0 : Int) = ((chunkE u m i).getD 0 entD).1 := chunk_nokey hjs (by omega)
   refine xlv 5 k53.rp ?_
   refine xbs 0 1 [.int .i64 0, .string ⟨(leB (↑(f + k + i) : Int) 4).toArray⟩, .int .i64 (↑(f + k + i) : Int)] 73 fun b58 W58 n58 => ?_
   have d58_b52 := n58.ne k53
   have hB'24 := u53.below (Bl.nextB (Bl.nextB (u50.below (Bl.nextB (hB.trans hb48) hs_r4 n49.below) (Nat.le_trans hs_r4 g49)) hs_r4 hb51) hs_r4 n52.below) (Nat.le_trans hs_r4 g52)
   have hup'9 := u53.own3 (own_below hup'6 n52.below) r52_hup
   have r58_hup := own_ne hup'9 n58
   have hup'10 := own_below hup'9 n58.below
   have hB'25 := Bl.nextB hB'24 hs_r4 n58.below
   refine xbi 0 fun _ _ _ _ zJ zQ zo zx zy zK => op_app (m := 1) (news := [.int .i64 0, .string ⟨(leB (↑(f + k + i) : Int) 4).toArray⟩, .int .i64 (↑(f + k + i) : Int)]) (.agg #[.int .i64 0, .string ⟨#[]⟩, .int .i64 0]) 3 32 (i + 1) ((upE u m (f + k) (i + 1)).flatMap entC) zo Tryz.underlying22 (by kernel_rfl) rfl (by decide) zx hup'10 zy (n58.blk.sl 1 1 (by decide) (by decide)) rfl (by simp [Value.oneCell']) (by unfold maxLen; omega) (by omega) hB'25.size (by rfl) (up_row (by first | exact hkey | exact hkey0)) fun p59 c59 W59 o59 hg59 hb59 => ?_
   refine zK _ _ ?_
   refine xwm 6 ((↑(i * m) : Int) + (↑m : Int)) (↑((i * m) + m) : Int) ?_
   refine xv1 3 10 (show (.int .i64 (↑((i * m) + m) : Int) : Value) = .int .i64 (↑((i + 1) * m) : Int) from by rw [Nat.add_mul, Nat.one_mul]) ?_
   have hR'9 := ((((((hR.below n49.below).only (Only.of_upd (T := [33]) u50 n49.blk (by decide)) (by decide)).below hb51).below n52.below).only (Only.of_upd (T := [73]) u53 n52.blk (by decide)) (by decide)).below n58.below).only (Only.of_grown (T := [73]) hg59 hup'10 (by decide)) (by decide)
   have hJ'8 := ((((((hJ.below n49.below).only (Only.of_upd (T := [33]) u50 n49.blk (by decide)) (by decide)).below hb51).below n52.below).only (Only.of_upd (T := [73]) u53 n52.blk (by decide)) (by decide)).below n58.below).only (Only.of_grown (T := [73]) hg59 hup'10 (by decide)) (by decide)
   have hB'26 := hB'25.trans (hb59.mono hs_r4)
   have hO'5 := (Only.grown_new ((Only.upd_new (((Only.upd_new ((hO.trans hO48).trans (Only.of_below n49.below)) u50 g49).trans (Only.of_below hb51)).trans (Only.of_below n52.below)) u53 g52).trans (Only.of_below n58.below)) hg59 hup'10)
   have k6_b1'6 := ((u53.blkT (((u50.blk (k6_b1'4.below n49.below) (Ne.symm (Ne.symm d49_b1))).below hb51).below n52.below) n52.blk (by decide)).below n58.below).grown hg59 hup'10 (by decide)
   exact ze 0 (hJ6 _ _ _ ⟨i + 1, _, _, _, _, _, rfl, rfl, hB'26, hO'5, k6_b1'6, o59, hR'9, hJ'8, by omega⟩ (by omega))
 have hc7 := of_decide_eq_false hc7
 refine xie 5 (↑(i * m) : Int) (0 : Int) (fun hc60 => ?_) (fun hc60 => ?_)
 · have hF61 := hB_6
   have hOhF61 := hO_6
   refine xa 8 [.int .i64 0, .bool false, .slice none 0 0, .slice none 0 0] 87 fun b62 W62 n62 => ?_
   refine xsv 0 n62.blk [.int .i64 t, .bool leaf, .slice none 0 0, .slice none 0 0] fun W63 u63 k63 => ?_
   have g62 := n62.ge (Below.refl W6.heap.size _)
   have hB := u63.below n62.below g62
   refine zl 10 128 (fun zm zkv V => ∃ (j : Nat) (kp : Option Addr) (kc : Nat) (vp : Option Addr) (vc : Nat), zkv = [(0, .pointer (some ⟨bc, 0, none⟩)), (1, .int .i64 t), (2, .slice a2 u.length c2), (7, .pointer (some ⟨b1, 0, none⟩)), (8, .bool leaf), (9, .slice p4 i c4), (10, .int .i64 (↑(i * m) : Int)), (11, .int .i64 (↑m : Int)), (12, .pointer (some ⟨b62, 0, none⟩)), (13, .int .i64 (↑(i * m + j) : Int))] ∧ zm = m - j ∧ Below W6.heap.size W6 V ∧ Blk V b62 ([.int .i64 t, .bool leaf, .slice kp j kc, .slice vp j vc]) 87 ∧ V.ownsRow W6.heap.size 3 1 (.slice kp j kc) j (((keysE (chunkE u m i)).take j).map (Value.int .i64)) ∧ V.ownsRow W6.heap.size 9 1 (.slice vp j vc) j (((valsE (chunkE u m i)).take j).map sv) ∧ j ≤ sizN u.length m i) ⟨0, none, 0, none, 0, rfl, rfl, hB, k63, World.ownsRow_nil _ _ _ _, World.ownsRow_nil _ _ _ _, Nat.zero_le _⟩ ?_
   rintro _ _ W64 ⟨j, kp, kc, vp, vc, rfl, rfl, hB_64, k64_b62, hK, hV, hj⟩ J64 hJ64 r64
   have hsz : sizN u.length m i = min m (u.length - i * m) := rfl
   have hcl0 := chunk_len u m i
   have hcg : j < sizN u.length m i → (chunkE u m i).getD j entD = u.getD (i * m + j) entD := chunk_get
   refine xg 8 [53, 54] (decide ((↑(i * m + j) : Int) < (↑u.length : Int))) (fun hc65 => ?_) (fun hc65 => ?_)
   · have hc65 := of_decide_eq_true hc65
     refine xwm 3 ((↑(i * m) : Int) + (↑m : Int)) (↑((i * m) + m) : Int) ?_
     refine xid 4 ((↑(i * m + j) : Int) < (↑((i * m) + m) : Int)) (fun hc66 => ?_) (fun hc66 => ?_)
     · refine xd 5 (.t W6.heap.size [3, 87]) ?_
       have hen_hF61 := hen _ hF61 hOhF61
       refine xx (.e [0, 2, 3] 4) _ u.length (i * m + j) 3 (Sts.cell hen_hF61 entC_len entD (k := (i * m + j)) (i := 0) (by omega) rfl).1 ?_
       have hV'10 := own_below hV (below_drew W64)
       have hB'27 := Bl.next hB_64 (below_drew W64)
       refine xlt (.e [5] 6) (.t W6.heap.size [3, 87]) (fun V hV'10 => (Sts.cell (hen_hF61.below (sft_keep hB'27 hV'10 (Nat.le_refl _))) entC_len entD (k := (i * m + j)) (i := 0) (by omega) rfl).2) ?_
       refine xm2 0 1 7 ?_ ?_
       · have k64_b62'1 := k64_b62.below (below_drew W64)
         refine xb 0 2 k64_b62'1 ?_
         refine xbs (.o [] 7) 1 [.int .i64 ((u.getD (i * m + j) entD).1)] 3 fun b67 W67 n67 => ?_
         have hK'9 := own_below hK (below_drew W64)
         have r67_hK := own_ne hK'9 n67
         have hK'10 := own_below hK'9 n67.below
         have hB'28 := Bl.next hB'27 n67.below
         refine ybi (.o [] 8) (.t W6.heap.size [3, 87]) fun _ _ _ _ zJ zQ zo zx zy zK => op_app (m := 1) (news := [.int .i64 ((u.getD (i * m + j) entD).1)]) (.int .i64 0) 1 8 (j + 1) (((keysE (chunkE u m i)).take (j + 1)).map (Value.int .i64)) zo Tryz.underlying31 (by kernel_rfl) rfl (by decide) zx hK'10 zy (n67.blk.sl 1 1 (by decide) (by decide)) rfl (by simp [Value.oneCell']) (by unfold maxLen; omega) (by omega) hB'28.size (by rfl) (by rw [keys_take (by omega), hcg (by omega)]) fun p68 c68 W68 o68 hg68 hb68 => ?_
         refine zK _ _ (sft_grown hb68 hg68 hK'10 (by decide)) ?_
         have k64_b62'2 := (k64_b62'1.below n67.below).grown hg68 hK'10 (by decide)
         refine ys (.o [9] 10) k64_b62'2 [.int .i64 t, .bool leaf, .slice p68 (j + 1) c68, .slice vp j vc] (.t W6.heap.size [3, 87]) fun W69 u69 k69 => ⟨(sft_upd u69 k64_b62'2 g62 (by decide)), ?_⟩
         refine xd 2 (.t W6.heap.size [9, 87]) ?_
         refine xx (.e [0, 2, 3] 4) _ u.length (i * m + j) 3 (Sts.cell hen_hF61 entC_len entD (k := (i * m + j)) (i := 0) (by omega) rfl).1 ?_
         have hV'11 := own_below (u69.own2 (own_grown (own_below hV'10 n67.below) hg68 hK'10 (by decide)) k64_b62'2 (by decide)) (below_drew W69)
         have hB'29 := Bl.next (u69.below (hB'28.trans hb68) g62) (below_drew W69)
         refine xlt (.e [5] 6) (.t W6.heap.size [9, 87]) (fun V hV'11 => (Sts.cell (hen_hF61.below (sft_keep hB'29 hV'11 (Nat.le_refl _))) entC_len entD (k := (i * m + j)) (i := 1) (by omega) rfl).2) ?_
         refine xm2 0 1 7 ?_ ?_
         · have k69'1 := k69.below (below_drew W69)
           refine xb 0 3 k69'1 ?_
           refine xbs (.o [] 7) 1 [.string ⟨((u.getD (i * m + j) entD).2.1).toArray⟩] 9 fun b70 W70 n70 => ?_
           have r70_hV := own_ne hV'11 n70
           have hV'12 := own_below hV'11 n70.below
           have hB'30 := Bl.next hB'29 n70.below
           refine ybi (.o [] 8) (.t W6.heap.size [9, 87]) fun _ _ _ _ zJ zQ zo zx zy zK => op_app (m := 1) (news := [.string ⟨((u.getD (i * m + j) entD).2.1).toArray⟩]) (.string ⟨#[]⟩) 1 16 (j + 1) (((valsE (chunkE u m i)).take (j + 1)).map sv) zo Tryz.underlying75 (by kernel_rfl) rfl (by decide) zx hV'12 zy (n70.blk.sl 1 1 (by decide) (by decide)) rfl (by simp [Value.oneCell']) (by unfold maxLen; omega) (by omega) hB'30.size (by rfl) (by rw [vals_take (by omega), hcg (by omega)]) fun p71 c71 W71 o71 hg71 hb71 => ?_
           refine zK _ _ (sft_grown hb71 hg71 hV'12 (by decide)) ?_
           have k69'2 := (k69'1.below n70.below).grown hg71 hV'12 (by decide)
           refine ys (.o [9] 10) k69'2 [.int .i64 t, .bool leaf, .slice p68 (j + 1) c68, .slice p71 (j + 1) c71] (.t W6.heap.size [9, 87]) fun W72 u72 k72 => ⟨(sft_upd u72 k69'2 g62 (by decide)), ?_⟩
           refine xwm 5 ((↑(i * m + j) : Int) + 1) (↑((i * m + j) + 1) : Int) ?_
           have hB'31 := u72.below (hB'30.trans hb71) g62
           have o68'1 := u72.own2 (own_grown (own_below (own_below (u69.own2 o68 k64_b62'2 (by decide)) (below_drew W69)) n70.below) hg71 hV'12 (by decide)) k69'2 (by decide)
           have o71'1 := u72.own2 o71 k69'2 (by decide)
           exact ze 2 (hJ64 _ _ _ ⟨j + 1, _, _, _, _, rfl, rfl, hB'31, k72, o68'1, o71'1, by omega⟩ (by omega))
         refine xbs 0 1 [.string ⟨((u.getD (i * m + j) entD).2.1).toArray⟩] 9 fun b73 W73 n73 => ?_
         have r73_hV := own_ne hV'11 n73
         have k69'3 := (k69.below (below_drew W69)).below n73.below
         refine xb (.o [] 1) 3 k69'3 ?_
         have hV'13 := own_below hV'11 n73.below
         have hB'32 := Bl.next hB'29 n73.below
         refine ybi (.o [] 8) (.t W6.heap.size [9, 87]) fun _ _ _ _ zJ zQ zo zx zy zK => op_app (m := 1) (news := [.string ⟨((u.getD (i * m + j) entD).2.1).toArray⟩]) (.string ⟨#[]⟩) 1 16 (j + 1) (((valsE (chunkE u m i)).take (j + 1)).map sv) zo Tryz.underlying75 (by kernel_rfl) rfl (by decide) zx hV'13 zy (n73.blk.sl 1 1 (by decide) (by decide)) rfl (by simp [Value.oneCell']) (by unfold maxLen; omega) (by omega) hB'32.size (by rfl) (by rw [vals_take (by omega), hcg (by omega)]) fun p74 c74 W74 o74 hg74 hb74 => ?_
         refine zK _ _ (sft_grown hb74 hg74 hV'13 (by decide)) ?_
         have k69'4 := k69'3.grown hg74 hV'13 (by decide)
         refine ys (.o [9] 10) k69'4 [.int .i64 t, .bool leaf, .slice p68 (j + 1) c68, .slice p74 (j + 1) c74] (.t W6.heap.size [9, 87]) fun W75 u75 k75 => ⟨(sft_upd u75 k69'4 g62 (by decide)), ?_⟩
         refine xwm 5 ((↑(i * m + j) : Int) + 1) (↑((i * m + j) + 1) : Int) ?_
         have hB'33 := u75.below (hB'32.trans hb74) g62
         have o68'2 := u75.own2 (own_grown (own_below (own_below (u69.own2 o68 k64_b62'2 (by decide)) (below_drew W69)) n73.below) hg74 hV'13 (by decide)) k69'4 (by decide)
         have o74'1 := u75.own2 o74 k69'4 (by decide)
         exact ze 2 (hJ64 _ _ _ ⟨j + 1, _, _, _, _, rfl, rfl, hB'33, k75, o68'2, o74'1, by omega⟩ (by omega))
       refine xbs 0 1 [.int .i64 ((u.getD (i * m + j) entD).1)] 3 fun b76 W76 n76 => ?_
       have hK'11 := own_below hK (below_drew W64)
       have r76_hK := own_ne hK'11 n76
       have k64_b62'3 := (k64_b62.below (below_drew W64)).below n76.below
       refine xb (.o [] 1) 2 k64_b62'3 ?_
       have hK'12 := own_below hK'11 n76.below
       have hB'34 := Bl.next hB'27 n76.below
       refine ybi (.o [] 8) (.t W6.heap.size [3, 87]) fun _ _ _ _ zJ zQ zo zx zy zK => op_app (m := 1) (news := [.int .i64 ((u.getD (i * m + j) entD).1)]) (.int .i64 0) 1 8 (j + 1) (((keysE (chunkE u m i)).take (j + 1)).map (Value.int .i64)) zo Tryz.underlying31 (by kernel_rfl) rfl (by decide) zx hK'12 zy (n76.blk.sl 1 1 (by decide) (by decide)) rfl (by simp [Value.oneCell']) (by unfold maxLen; omega) (by omega) hB'34.size (by rfl) (by rw [keys_take (by omega), hcg (by omega)]) fun p77 c77 W77 o77 hg77 hb77 => ?_
       refine zK _ _ (sft_grown hb77 hg77 hK'12 (by decide)) ?_
       have k64_b62'4 := k64_b62'3.grown hg77 hK'12 (by decide)
       refine ys (.o [9] 10) k64_b62'4 [.int .i64 t, .bool leaf, .slice p77 (j + 1) c77, .slice vp j vc] (.t W6.heap.size [3, 87]) fun W78 u78 k78 => ⟨(sft_upd u78 k64_b62'4 g62 (by decide)), ?_⟩
       refine xd 2 (.t W6.heap.size [9, 87]) ?_
       refine xx (.e [0, 2, 3] 4) _ u.length (i * m + j) 3 (Sts.cell hen_hF61 entC_len entD (k := (i * m + j)) (i := 0) (by omega) rfl).1 ?_
       have hV'14 := own_below (u78.own2 (own_grown (own_below hV'10 n76.below) hg77 hK'12 (by decide)) k64_b62'4 (by decide)) (below_drew W78)
       have hB'35 := Bl.next (u78.below (hB'34.trans hb77) g62) (below_drew W78)
       refine xlt (.e [5] 6) (.t W6.heap.size [9, 87]) (fun V hV'14 => (Sts.cell (hen_hF61.below (sft_keep hB'35 hV'14 (Nat.le_refl _))) entC_len entD (k := (i * m + j)) (i := 1) (by omega) rfl).2) ?_
       refine xm2 0 1 7 ?_ ?_
       · have k78'1 := k78.below (below_drew W78)
         refine xb 0 3 k78'1 ?_
         refine xbs (.o [] 7) 1 [.string ⟨((u.getD (i * m + j) entD).2.1).toArray⟩] 9 fun b79 W79 n79 => ?_
         have r79_hV := own_ne hV'14 n79
         have hV'15 := own_below hV'14 n79.below
         have hB'36 := Bl.next hB'35 n79.below
         refine ybi (.o [] 8) (.t W6.heap.size [9, 87]) fun _ _ _ _ zJ zQ zo zx zy zK => op_app (m := 1) (news := [.string ⟨((u.getD (i * m + j) entD).2.1).toArray⟩]) (.string ⟨#[]⟩) 1 16 (j + 1) (((valsE (chunkE u m i)).take (j + 1)).map sv) zo Tryz.underlying75 (by kernel_rfl) rfl (by decide) zx hV'15 zy (n79.blk.sl 1 1 (by decide) (by decide)) rfl (by simp [Value.oneCell']) (by unfold maxLen; omega) (by omega) hB'36.size (by rfl) (by rw [vals_take (by omega), hcg (by omega)]) fun p80 c80 W80 o80 hg80 hb80 => ?_
         refine zK _ _ (sft_grown hb80 hg80 hV'15 (by decide)) ?_
         have k78'2 := (k78'1.below n79.below).grown hg80 hV'15 (by decide)
         refine ys (.o [9] 10) k78'2 [.int .i64 t, .bool leaf, .slice p77 (j + 1) c77, .slice p80 (j + 1) c80] (.t W6.heap.size [9, 87]) fun W81 u81 k81 => ⟨(sft_upd u81 k78'2 g62 (by decide)), ?_⟩
         refine xwm 5 ((↑(i * m + j) : Int) + 1) (↑((i * m + j) + 1) : Int) ?_
         have hB'37 := u81.below (hB'36.trans hb80) g62
         have o77'1 := u81.own2 (own_grown (own_below (own_below (u78.own2 o77 k64_b62'4 (by decide)) (below_drew W78)) n79.below) hg80 hV'15 (by decide)) k78'2 (by decide)
         have o80'1 := u81.own2 o80 k78'2 (by decide)
         exact ze 2 (hJ64 _ _ _ ⟨j + 1, _, _, _, _, rfl, rfl, hB'37, k81, o77'1, o80'1, by omega⟩ (by omega))
       refine xbs 0 1 [.string ⟨((u.getD (i * m + j) entD).2.1).toArray⟩] 9 fun b82 W82 n82 => ?_
       have r82_hV := own_ne hV'14 n82
       have k78'3 := (k78.below (below_drew W78)).below n82.below
       refine xb (.o [] 1) 3 k78'3 ?_
       have hV'16 := own_below hV'14 n82.below
       have hB'38 := Bl.next hB'35 n82.below
       refine ybi (.o [] 8) (.t W6.heap.size [9, 87]) fun _ _ _ _ zJ zQ zo zx zy zK => op_app (m := 1) (news := [.string ⟨((u.getD (i * m + j) entD).2.1).toArray⟩]) (.string ⟨#[]⟩) 1 16 (j + 1) (((valsE (chunkE u m i)).take (j + 1)).map sv) zo Tryz.underlying75 (by kernel_rfl) rfl (by decide) zx hV'16 zy (n82.blk.sl 1 1 (by decide) (by decide)) rfl (by simp [Value.oneCell']) (by unfold maxLen; omega) (by omega) hB'38.size (by rfl) (by rw [vals_take (by omega), hcg (by omega)]) fun p83 c83 W83 o83 hg83 hb83 => ?_
       refine zK _ _ (sft_grown hb83 hg83 hV'16 (by decide)) ?_
       have k78'4 := k78'3.grown hg83 hV'16 (by decide)
       refine ys (.o [9] 10) k78'4 [.int .i64 t, .bool leaf, .slice p77 (j + 1) c77, .slice p83 (j + 1) c83] (.t W6.heap.size [9, 87]) fun W84 u84 k84 => ⟨(sft_upd u84 k78'4 g62 (by decide)), ?_⟩
       refine xwm 5 ((↑(i * m + j) : Int) + 1) (↑((i * m + j) + 1) : Int) ?_
       have hB'39 := u84.below (hB'38.trans hb83) g62
       have o77'2 := u84.own2 (own_grown (own_below (own_below (u78.own2 o77 k64_b62'4 (by decide)) (below_drew W78)) n82.below) hg83 hV'16 (by decide)) k78'4 (by decide)
       have o83'1 := u84.own2 o83 k78'4 (by decide)
       exact ze 2 (hJ64 _ _ _ ⟨j + 1, _, _, _, _, rfl, rfl, hB'39, k84, o77'2, o83'1, by omega⟩ (by omega))
     refine xlv 7 k64_b62.rp ?_
     have hT85 : Below W6.heap.size W6 W64 := hB_64
     have hs85 : W4.heap.size ≤ W6.heap.size := hF61.size
     have hK'13 := own_mono hK hs85
     have hV'17 := own_mono hV hs85
     have hjs : sizN u.length m i = j := by omega
     have hcl : (chunkE u m i).length = j := by rw [chunk_len, hjs]
     have hck : (keysE (chunkE u m i)).take j = keysE (chunkE u m i) := List.take_of_length_le (by rw [keysE_len]; omega)
     have hcv : (valsE (chunkE u m i)).take j = valsE (chunkE u m i) := List.take_of_length_le (by rw [valsE_len]; omega)
     rw [hck] at hK'13
     rw [hcv] at hV'17
     have hN := chunk_ok hE ht1 ht2 hm hv (fun h => by have := hlu h; omega) (show i < (ovN u.length m) by omega)
     have hlen := nodeE_len hN
     rw [hcl] at hN
     have hnd : nodeP m v (headB t leaf j m v) (keysE (chunkE u m i)) (valsE (chunkE u m i)) j = nodeE t leaf m v (chunkE u m i) := by rw [← hcl]; rfl
     refine xc 0 (args := #[.agg #[.int .i64 t, .bool leaf, .slice kp j kc, .slice vp j vc]]) (ref07_Put t leaf j m v (keysE (chunkE u m i)) (valsE (chunkE u m i)) kp vp kc vc _ hN (own_sl hK'13) (own_sl hV'17)) ?_
     rintro _ W86 ⟨_, rfl, hb86, p6, c6, rfl, h6⟩
     have hs86 := (Bl.nextB hF61 hs_r4 hT85).size
     have h6'3 := own_mono h6 hs86
     rw [hnd] at h6'3
     have hR'10 := (hR.below hT85).below hb86
     have hJ'9 := (hJ.below hT85).below hb86
     have hO := (hOhF61.trans (Only.of_below hT85)).trans (Only.of_below hb86)
     have hB := Bl.nextB (Bl.nextB hF61 hs_r4 hT85) hs_r4 hb86
     refine xc 11 (args := #[.pointer (some ⟨bc, 0, none⟩), .int .i64 2, .slice p6 244 c6]) (ref_LayQ B bc bm pg N cg fa mf fc f (k + i) p K cI (levB t leaf m v u (f + k) b2 i) p6 c6 244 (nodeE t leaf m v (chunkE u m i)) (f + k + i) _ (Nat.add_assoc _ _ _).symm hlen (by decide) (by omega) hf hR'10 hJ'9 (fun W _ hO => bys_of (own_sl (own_only h6'3 hO (by decide))) hlen) (Nat.le_trans hs_r4 hB.size)) ?_
     rintro _ W87 ⟨a9, c9, fa3, mf3, fc3, rfl, hb87, hO87, hR, hJ⟩
     refine xa 3 [.slice none 0 0, .int .i64 0] 33 fun b88 W88 n88 => ?_
     have k6_b1'7 := ((k6_b1.below hT85).below hb86).only hO87 (by decide)
     have d88_b1 := n88.ne k6_b1'7
     refine xsv 1 n88.blk [.slice a9 0 c9, .int .i64 0] fun W89 u89 k89 => ?_
     have g88 := n88.ge0 (hB.trans hb87)
     refine xb 6 1 k89 ?_
     refine xc 9 (args := #[.int .i64 (↑(f + k + i) : Int), .int .i64 4]) (ref_BytesN ((f + k + i : Nat) : Int) 4 4 _ (by omega) (by omega) rfl (by decide)) ?_
     rintro _ W90 ⟨_, rfl, hb90, pk, ck, rfl, h8b⟩
     have hs90 := (u89.below (Bl.nextB (hB.trans hb87) hs_r4 n88.below) (Nat.le_trans hs_r4 g88)).size
     have h8b'3 := own_mono h8b hs90
     refine xcv0 0 (fun _ _ _ zo zx => run_bstr zo zx (bys_of (own_sl h8b'3) (leB_len _ _)) (leB_len _ _) Tryz.underlying29 Tryz.underlying5 Tryz.underlying9) ?_
     refine xa 2 [.int .i64 0, .string ⟨#[]⟩, .int .i64 0] 73 fun b91 W91 n91 => ?_
     have hup'11 := own_below (u89.own2 (own_below (own_only (own_below (own_below hup hT85) hb86) hO87 (by decide)) n88.below) n88.blk (by decide)) hb90
     have r91_hup := own_ne hup'11 n91
     refine xsv 0 n91.blk [.int .i64 0, .string ⟨(leB (↑(f + k + i) : Int) 4).toArray⟩, .int .i64 (↑(f + k + i) : Int)] fun W92 u92 k92 => ?_
     have g91 := n91.ge0 (Bl.nextB (u89.below (Bl.nextB (hB.trans hb87) hs_r4 n88.below) (Nat.le_trans hs_r4 g88)) hs_r4 hb90)
     have k64_b62'5 := u92.blkT (((u89.blkT (((k64_b62.below hb86).only hO87 (by decide)).below n88.below) n88.blk (by decide)).below hb90).below n91.below) n91.blk (by decide)
     refine xb 6 2 k64_b62'5 ?_
     refine xid 4 ((↑j : Int) > (0 : Int)) (fun hc93 => ?_) (fun hc93 => ?_)
     · have hkey : ((keysE (chunkE u m i))).getD 0 0 = ((chunkE u m i).getD 0 entD).1 := chunk_key hjs (by omega)
       refine xb 2 2 k64_b62'5 ?_
       have hK'14 := u92.own2 (own_below (own_below (u89.own2 (own_below (own_only (own_below hK'13 hb86) hO87 (by decide)) n88.below) n88.blk (by decide)) hb90) n91.below) n91.blk (by decide)
       refine xx 0 _ j 0 1 (IntsN.elem (own_sl hK'14) (by rw [keysE_len, hcl]) (k := 0) (by omega)).1 ?_
       refine xl 0 ((IntsN.elem (own_sl hK'14) (by rw [keysE_len, hcl]) (k := 0) (by omega)).2) ?_
       refine xs 1 k92 [.int .i64 ((keysE (chunkE u m i)).getD 0 0), .string ⟨(leB (↑(f + k + i) : Int) 4).toArray⟩, .int .i64 (↑(f + k + i) : Int)] fun W94 u94 k94 => ?_
       refine xlv 5 k94.rp ?_
       refine xbs 0 1 [.int .i64 ((keysE (chunkE u m i)).getD 0 0), .string ⟨(leB (↑(f + k + i) : Int) 4).toArray⟩, .int .i64 (↑(f + k + i) : Int)] 73 fun b95 W95 n95 => ?_
       have d95_b91 := n95.ne k94
       have hB'40 := u94.below (u92.below (Bl.nextB (Bl.nextB (u89.below (Bl.nextB (hB.trans hb87) hs_r4 n88.below) (Nat.le_trans hs_r4 g88)) hs_r4 hb90) hs_r4 n91.below) (Nat.le_trans hs_r4 g91)) (Nat.le_trans hs_r4 g91)
       have hup'12 := u94.own3 (u92.own3 (own_below hup'11 n91.below) r91_hup) r91_hup
       have r95_hup := own_ne hup'12 n95
       have hup'13 := own_below hup'12 n95.below
       have hB'41 := Bl.nextB hB'40 hs_r4 n95.below
       refine xbi 0 fun _ _ _ _ zJ zQ zo zx zy zK => op_app (m := 1) (news := [.int .i64 ((keysE (chunkE u m i)).getD 0 0), .string ⟨(leB (↑(f + k + i) : Int) 4).toArray⟩, .int .i64 (↑(f + k + i) : Int)]) (.agg #[.int .i64 0, .string ⟨#[]⟩, .int .i64 0]) 3 32 (i + 1) ((upE u m (f + k) (i + 1)).flatMap entC) zo Tryz.underlying22 (by kernel_rfl) rfl (by decide) zx hup'13 zy (n95.blk.sl 1 1 (by decide) (by decide)) rfl (by simp [Value.oneCell']) (by unfold maxLen; omega) (by omega) hB'41.size (by rfl) (up_row (by first | exact hkey | exact hkey0)) fun p96 c96 W96 o96 hg96 hb96 => ?_
       refine zK _ _ ?_
       refine xwm 6 ((↑(i * m) : Int) + (↑m : Int)) (↑((i * m) + m) : Int) ?_
       refine xv1 3 10 (show (.int .i64 (↑((i * m) + m) : Int) : Value) = .int .i64 (↑((i + 1) * m) : Int) from by rw [Nat.add_mul, Nat.one_mul]) ?_
       have hR'11 := (((((((hR.below n88.below).only (Only.of_upd (T := [33]) u89 n88.blk (by decide)) (by decide)).below hb90).below n91.below).only (Only.of_upd (T := [73]) u92 n91.blk (by decide)) (by decide)).only (Only.of_upd (T := [73]) u94 k92 (by decide)) (by decide)).below n95.below).only (Only.of_grown (T := [73]) hg96 hup'13 (by decide)) (by decide)
       have hJ'10 := (((((((hJ.below n88.below).only (Only.of_upd (T := [33]) u89 n88.blk (by decide)) (by decide)).below hb90).below n91.below).only (Only.of_upd (T := [73]) u92 n91.blk (by decide)) (by decide)).only (Only.of_upd (T := [73]) u94 k92 (by decide)) (by decide)).below n95.below).only (Only.of_grown (T := [73]) hg96 hup'13 (by decide)) (by decide)
       have hB'42 := hB'41.trans (hb96.mono hs_r4)
       have hO'6 := (Only.grown_new ((Only.upd_new (Only.upd_new (((Only.upd_new ((hO.trans hO87).trans (Only.of_below n88.below)) u89 g88).trans (Only.of_below hb90)).trans (Only.of_below n91.below)) u92 g91) u94 g91).trans (Only.of_below n95.below)) hg96 hup'13)
       have k6_b1'8 := ((u94.blkT (u92.blkT (((u89.blk (k6_b1'7.below n88.below) (Ne.symm (Ne.symm d88_b1))).below hb90).below n91.below) n91.blk (by decide)) k92 (by decide)).below n95.below).grown hg96 hup'13 (by decide)
       exact ze 0 (hJ6 _ _ _ ⟨i + 1, _, _, _, _, _, rfl, rfl, hB'42, hO'6, k6_b1'8, o96, hR'11, hJ'10, by omega⟩ (by omega))
     have hkey0 : (0 : Int) = ((chunkE u m i).getD 0 entD).1 := chunk_nokey hjs (by omega)
     refine xlv 5 k92.rp ?_
     refine xbs 0 1 [.int .i64 0, .string ⟨(leB (↑(f + k + i) : Int) 4).toArray⟩, .int .i64 (↑(f + k + i) : Int)] 73 fun b97 W97 n97 => ?_
     have d97_b91 := n97.ne k92
     have hB'43 := u92.below (Bl.nextB (Bl.nextB (u89.below (Bl.nextB (hB.trans hb87) hs_r4 n88.below) (Nat.le_trans hs_r4 g88)) hs_r4 hb90) hs_r4 n91.below) (Nat.le_trans hs_r4 g91)
     have hup'14 := u92.own3 (own_below hup'11 n91.below) r91_hup
     have r97_hup := own_ne hup'14 n97
     have hup'15 := own_below hup'14 n97.below
     have hB'44 := Bl.nextB hB'43 hs_r4 n97.below
     refine xbi 0 fun _ _ _ _ zJ zQ zo zx zy zK => op_app (m := 1) (news := [.int .i64 0, .string ⟨(leB (↑(f + k + i) : Int) 4).toArray⟩, .int .i64 (↑(f + k + i) : Int)]) (.agg #[.int .i64 0, .string ⟨#[]⟩, .int .i64 0]) 3 32 (i + 1) ((upE u m (f + k) (i + 1)).flatMap entC) zo Tryz.underlying22 (by kernel_rfl) rfl (by decide) zx hup'15 zy (n97.blk.sl 1 1 (by decide) (by decide)) rfl (by simp [Value.oneCell']) (by unfold maxLen; omega) (by omega) hB'44.size (by rfl) (up_row (by first | exact hkey | exact hkey0)) fun p98 c98 W98 o98 hg98 hb98 => ?_
     refine zK _ _ ?_
     refine xwm 6 ((↑(i * m) : Int) + (↑m : Int)) (↑((i * m) + m) : Int) ?_
     refine xv1 3 10 (show (.int .i64 (↑((i * m) + m) : Int) : Value) = .int .i64 (↑((i + 1) * m) : Int) from by rw [Nat.add_mul, Nat.one_mul]) ?_
     have hR'12 := ((((((hR.below n88.below).only (Only.of_upd (T := [33]) u89 n88.blk (by decide)) (by decide)).below hb90).below n91.below).only (Only.of_upd (T := [73]) u92 n91.blk (by decide)) (by decide)).below n97.below).only (Only.of_grown (T := [73]) hg98 hup'15 (by decide)) (by decide)
     have hJ'11 := ((((((hJ.below n88.below).only (Only.of_upd (T := [33]) u89 n88.blk (by decide)) (by decide)).below hb90).below n91.below).only (Only.of_upd (T := [73]) u92 n91.blk (by decide)) (by decide)).below n97.below).only (Only.of_grown (T := [73]) hg98 hup'15 (by decide)) (by decide)
     have hB'45 := hB'44.trans (hb98.mono hs_r4)
     have hO'7 := (Only.grown_new ((Only.upd_new (((Only.upd_new ((hO.trans hO87).trans (Only.of_below n88.below)) u89 g88).trans (Only.of_below hb90)).trans (Only.of_below n91.below)) u92 g91).trans (Only.of_below n97.below)) hg98 hup'15)
     have k6_b1'9 := ((u92.blkT (((u89.blk (k6_b1'7.below n88.below) (Ne.symm (Ne.symm d88_b1))).below hb90).below n91.below) n91.blk (by decide)).below n97.below).grown hg98 hup'15 (by decide)
     exact ze 0 (hJ6 _ _ _ ⟨i + 1, _, _, _, _, _, rfl, rfl, hB'45, hO'7, k6_b1'9, o98, hR'12, hJ'11, by omega⟩ (by omega))
   have hc65 := of_decide_eq_false hc65
   refine xlv 16 k64_b62.rp ?_
   have hT99 : Below W6.heap.size W6 W64 := hB_64
   have hs99 : W4.heap.size ≤ W6.heap.size := hF61.size
   have hK'15 := own_mono hK hs99
   have hV'18 := own_mono hV hs99
   have hjs : sizN u.length m i = j := by omega
   have hcl : (chunkE u m i).length = j := by rw [chunk_len, hjs]
   have hck : (keysE (chunkE u m i)).take j = keysE (chunkE u m i) := List.take_of_length_le (by rw [keysE_len]; omega)
   have hcv : (valsE (chunkE u m i)).take j = valsE (chunkE u m i) := List.take_of_length_le (by rw [valsE_len]; omega)
   rw [hck] at hK'15
   rw [hcv] at hV'18
   have hN := chunk_ok hE ht1 ht2 hm hv (fun h => by have := hlu h; omega) (show i < (ovN u.length m) by omega)
   have hlen := nodeE_len hN
   rw [hcl] at hN
   have hnd : nodeP m v (headB t leaf j m v) (keysE (chunkE u m i)) (valsE (chunkE u m i)) j = nodeE t leaf m v (chunkE u m i) := by rw [← hcl]; rfl
   refine xc 0 (args := #[.agg #[.int .i64 t, .bool leaf, .slice kp j kc, .slice vp j vc]]) (ref07_Put t leaf j m v (keysE (chunkE u m i)) (valsE (chunkE u m i)) kp vp kc vc _ hN (own_sl hK'15) (own_sl hV'18)) ?_
   rintro _ W100 ⟨_, rfl, hb100, p6, c6, rfl, h6⟩
   have hs100 := (Bl.nextB hF61 hs_r4 hT99).size
   have h6'4 := own_mono h6 hs100
   rw [hnd] at h6'4
   have hR'13 := (hR.below hT99).below hb100
   have hJ'12 := (hJ.below hT99).below hb100
   have hO := (hOhF61.trans (Only.of_below hT99)).trans (Only.of_below hb100)
   have hB := Bl.nextB (Bl.nextB hF61 hs_r4 hT99) hs_r4 hb100
   refine xc 11 (args := #[.pointer (some ⟨bc, 0, none⟩), .int .i64 2, .slice p6 244 c6]) (ref_LayQ B bc bm pg N cg fa mf fc f (k + i) p K cI (levB t leaf m v u (f + k) b2 i) p6 c6 244 (nodeE t leaf m v (chunkE u m i)) (f + k + i) _ (Nat.add_assoc _ _ _).symm hlen (by decide) (by omega) hf hR'13 hJ'12 (fun W _ hO => bys_of (own_sl (own_only h6'4 hO (by decide))) hlen) (Nat.le_trans hs_r4 hB.size)) ?_
   rintro _ W101 ⟨a9, c9, fa3, mf3, fc3, rfl, hb101, hO101, hR, hJ⟩
   refine xa 3 [.slice none 0 0, .int .i64 0] 33 fun b102 W102 n102 => ?_
   have k6_b1'10 := ((k6_b1.below hT99).below hb100).only hO101 (by decide)
   have d102_b1 := n102.ne k6_b1'10
   refine xsv 1 n102.blk [.slice a9 0 c9, .int .i64 0] fun W103 u103 k103 => ?_
   have g102 := n102.ge0 (hB.trans hb101)
   refine xb 6 1 k103 ?_
   refine xc 9 (args := #[.int .i64 (↑(f + k + i) : Int), .int .i64 4]) (ref_BytesN ((f + k + i : Nat) : Int) 4 4 _ (by omega) (by omega) rfl (by decide)) ?_
   rintro _ W104 ⟨_, rfl, hb104, pk, ck, rfl, h8b⟩
   have hs104 := (u103.below (Bl.nextB (hB.trans hb101) hs_r4 n102.below) (Nat.le_trans hs_r4 g102)).size
   have h8b'4 := own_mono h8b hs104
   refine xcv0 0 (fun _ _ _ zo zx => run_bstr zo zx (bys_of (own_sl h8b'4) (leB_len _ _)) (leB_len _ _) Tryz.underlying29 Tryz.underlying5 Tryz.underlying9) ?_
   refine xa 2 [.int .i64 0, .string ⟨#[]⟩, .int .i64 0] 73 fun b105 W105 n105 => ?_
   have hup'16 := own_below (u103.own2 (own_below (own_only (own_below (own_below hup hT99) hb100) hO101 (by decide)) n102.below) n102.blk (by decide)) hb104
   have r105_hup := own_ne hup'16 n105
   refine xsv 0 n105.blk [.int .i64 0, .string ⟨(leB (↑(f + k + i) : Int) 4).toArray⟩, .int .i64 (↑(f + k + i) : Int)] fun W106 u106 k106 => ?_
   have g105 := n105.ge0 (Bl.nextB (u103.below (Bl.nextB (hB.trans hb101) hs_r4 n102.below) (Nat.le_trans hs_r4 g102)) hs_r4 hb104)
   have k64_b62'6 := u106.blkT (((u103.blkT (((k64_b62.below hb100).only hO101 (by decide)).below n102.below) n102.blk (by decide)).below hb104).below n105.below) n105.blk (by decide)
   refine xb 6 2 k64_b62'6 ?_
   refine xid 4 ((↑j : Int) > (0 : Int)) (fun hc107 => ?_) (fun hc107 => ?_)
   · have hkey : ((keysE (chunkE u m i))).getD 0 0 = ((chunkE u m i).getD 0 entD).1 := chunk_key hjs (by omega)
     refine xb 2 2 k64_b62'6 ?_
     have hK'16 := u106.own2 (own_below (own_below (u103.own2 (own_below (own_only (own_below hK'15 hb100) hO101 (by decide)) n102.below) n102.blk (by decide)) hb104) n105.below) n105.blk (by decide)
     refine xx 0 _ j 0 1 (IntsN.elem (own_sl hK'16) (by rw [keysE_len, hcl]) (k := 0) (by omega)).1 ?_
     refine xl 0 ((IntsN.elem (own_sl hK'16) (by rw [keysE_len, hcl]) (k := 0) (by omega)).2) ?_
     refine xs 1 k106 [.int .i64 ((keysE (chunkE u m i)).getD 0 0), .string ⟨(leB (↑(f + k + i) : Int) 4).toArray⟩, .int .i64 (↑(f + k + i) : Int)] fun W108 u108 k108 => ?_
     refine xlv 5 k108.rp ?_
     refine xbs 0 1 [.int .i64 ((keysE (chunkE u m i)).getD 0 0), .string ⟨(leB (↑(f + k + i) : Int) 4).toArray⟩, .int .i64 (↑(f + k + i) : Int)] 73 fun b109 W109 n109 => ?_
     have d109_b105 := n109.ne k108
     have hB'46 := u108.below (u106.below (Bl.nextB (Bl.nextB (u103.below (Bl.nextB (hB.trans hb101) hs_r4 n102.below) (Nat.le_trans hs_r4 g102)) hs_r4 hb104) hs_r4 n105.below) (Nat.le_trans hs_r4 g105)) (Nat.le_trans hs_r4 g105)
     have hup'17 := u108.own3 (u106.own3 (own_below hup'16 n105.below) r105_hup) r105_hup
     have r109_hup := own_ne hup'17 n109
     have hup'18 := own_below hup'17 n109.below
     have hB'47 := Bl.nextB hB'46 hs_r4 n109.below
     refine xbi 0 fun _ _ _ _ zJ zQ zo zx zy zK => op_app (m := 1) (news := [.int .i64 ((keysE (chunkE u m i)).getD 0 0), .string ⟨(leB (↑(f + k + i) : Int) 4).toArray⟩, .int .i64 (↑(f + k + i) : Int)]) (.agg #[.int .i64 0, .string ⟨#[]⟩, .int .i64 0]) 3 32 (i + 1) ((upE u m (f + k) (i + 1)).flatMap entC) zo Tryz.underlying22 (by kernel_rfl) rfl (by decide) zx hup'18 zy (n109.blk.sl 1 1 (by decide) (by decide)) rfl (by simp [Value.oneCell']) (by unfold maxLen; omega) (by omega) hB'47.size (by rfl) (up_row (by first | exact hkey | exact hkey0)) fun p110 c110 W110 o110 hg110 hb110 => ?_
     refine zK _ _ ?_
     refine xwm 6 ((↑(i * m) : Int) + (↑m : Int)) (↑((i * m) + m) : Int) ?_
     refine xv1 3 10 (show (.int .i64 (↑((i * m) + m) : Int) : Value) = .int .i64 (↑((i + 1) * m) : Int) from by rw [Nat.add_mul, Nat.one_mul]) ?_
     have hR'14 := (((((((hR.below n102.below).only (Only.of_upd (T := [33]) u103 n102.blk (by decide)) (by decide)).below hb104).below n105.below).only (Only.of_upd (T := [73]) u106 n105.blk (by decide)) (by decide)).only (Only.of_upd (T := [73]) u108 k106 (by decide)) (by decide)).below n109.below).only (Only.of_grown (T := [73]) hg110 hup'18 (by decide)) (by decide)
     have hJ'13 := (((((((hJ.below n102.below).only (Only.of_upd (T := [33]) u103 n102.blk (by decide)) (by decide)).below hb104).below n105.below).only (Only.of_upd (T := [73]) u106 n105.blk (by decide)) (by decide)).only (Only.of_upd (T := [73]) u108 k106 (by decide)) (by decide)).below n109.below).only (Only.of_grown (T := [73]) hg110 hup'18 (by decide)) (by decide)
     have hB'48 := hB'47.trans (hb110.mono hs_r4)
     have hO'8 := (Only.grown_new ((Only.upd_new (Only.upd_new (((Only.upd_new ((hO.trans hO101).trans (Only.of_below n102.below)) u103 g102).trans (Only.of_below hb104)).trans (Only.of_below n105.below)) u106 g105) u108 g105).trans (Only.of_below n109.below)) hg110 hup'18)
     have k6_b1'11 := ((u108.blkT (u106.blkT (((u103.blk (k6_b1'10.below n102.below) (Ne.symm (Ne.symm d102_b1))).below hb104).below n105.below) n105.blk (by decide)) k106 (by decide)).below n109.below).grown hg110 hup'18 (by decide)
     exact ze 0 (hJ6 _ _ _ ⟨i + 1, _, _, _, _, _, rfl, rfl, hB'48, hO'8, k6_b1'11, o110, hR'14, hJ'13, by omega⟩ (by omega))
   have hkey0 : (0 : Int) = ((chunkE u m i).getD 0 entD).1 := chunk_nokey hjs (by omega)
   refine xlv 5 k106.rp ?_
   refine xbs 0 1 [.int .i64 0, .string ⟨(leB (↑(f + k + i) : Int) 4).toArray⟩, .int .i64 (↑(f + k + i) : Int)] 73 fun b111 W111 n111 => ?_
   have d111_b105 := n111.ne k106
   have hB'49 := u106.below (Bl.nextB (Bl.nextB (u103.below (Bl.nextB (hB.trans hb101) hs_r4 n102.below) (Nat.le_trans hs_r4 g102)) hs_r4 hb104) hs_r4 n105.below) (Nat.le_trans hs_r4 g105)
   have hup'19 := u106.own3 (own_below hup'16 n105.below) r105_hup
   have r111_hup := own_ne hup'19 n111
   have hup'20 := own_below hup'19 n111.below
   have hB'50 := Bl.nextB hB'49 hs_r4 n111.below
   refine xbi 0 fun _ _ _ _ zJ zQ zo zx zy zK => op_app (m := 1) (news := [.int .i64 0, .string ⟨(leB (↑(f + k + i) : Int) 4).toArray⟩, .int .i64 (↑(f + k + i) : Int)]) (.agg #[.int .i64 0, .string ⟨#[]⟩, .int .i64 0]) 3 32 (i + 1) ((upE u m (f + k) (i + 1)).flatMap entC) zo Tryz.underlying22 (by kernel_rfl) rfl (by decide) zx hup'20 zy (n111.blk.sl 1 1 (by decide) (by decide)) rfl (by simp [Value.oneCell']) (by unfold maxLen; omega) (by omega) hB'50.size (by rfl) (up_row (by first | exact hkey | exact hkey0)) fun p112 c112 W112 o112 hg112 hb112 => ?_
   refine zK _ _ ?_
   refine xwm 6 ((↑(i * m) : Int) + (↑m : Int)) (↑((i * m) + m) : Int) ?_
   refine xv1 3 10 (show (.int .i64 (↑((i * m) + m) : Int) : Value) = .int .i64 (↑((i + 1) * m) : Int) from by rw [Nat.add_mul, Nat.one_mul]) ?_
   have hR'15 := ((((((hR.below n102.below).only (Only.of_upd (T := [33]) u103 n102.blk (by decide)) (by decide)).below hb104).below n105.below).only (Only.of_upd (T := [73]) u106 n105.blk (by decide)) (by decide)).below n111.below).only (Only.of_grown (T := [73]) hg112 hup'20 (by decide)) (by decide)
   have hJ'14 := ((((((hJ.below n102.below).only (Only.of_upd (T := [33]) u103 n102.blk (by decide)) (by decide)).below hb104).below n105.below).only (Only.of_upd (T := [73]) u106 n105.blk (by decide)) (by decide)).below n111.below).only (Only.of_grown (T := [73]) hg112 hup'20 (by decide)) (by decide)
   have hB'51 := hB'50.trans (hb112.mono hs_r4)
   have hO'9 := (Only.grown_new ((Only.upd_new (((Only.upd_new ((hO.trans hO101).trans (Only.of_below n102.below)) u103 g102).trans (Only.of_below hb104)).trans (Only.of_below n105.below)) u106 g105).trans (Only.of_below n111.below)) hg112 hup'20)
   have k6_b1'12 := ((u106.blkT (((u103.blk (k6_b1'10.below n102.below) (Ne.symm (Ne.symm d102_b1))).below hb104).below n105.below) n105.blk (by decide)).below n111.below).grown hg112 hup'20 (by decide)
   exact ze 0 (hJ6 _ _ _ ⟨i + 1, _, _, _, _, _, rfl, rfl, hB'51, hO'9, k6_b1'12, o112, hR'15, hJ'14, by omega⟩ (by omega))
 refine xie 13 (↑i : Int) (1 : Int) (fun hc113 => ?_) (fun hc113 => ?_)
 · refine xx 3 _ i 0 3 (up_at (own_sl hup) (by omega)).1 ?_
   refine xl 1 ((up_at (own_sl hup) (by omega)).2) ?_
   refine xsv 2 k6_b1 [.slice none 0 0, .int .i64 0] fun W114 u114 k114 => ?_
   have g1 := n1.ge0 (Below.refl B _)
   have hB := u114.below (hB_4.trans hB_6) (Nat.le_trans hBw g1)
   have hO := (Only.upd_new (hO_4.trans hO_6) u114 g1)
   have hR'16 := hR.only (Only.of_upd (T := [33]) u114 k6_b1 (by decide)) (by decide)
   have hJ'15 := hJ.only (Only.of_upd (T := [33]) u114 k6_b1 (by decide)) (by decide)
   refine xec 7 k114 (.tuple #[.int .i64 ((upX u m (f + k) 0).2.2), .agg #[.slice none 0 0, .int .i64 0]]) ?_
   have hiv : i = (ovN u.length m) := from_end hmb.1 hi (by omega) (by omega)
   have hi1 : (ovN u.length m) ≤ 1 := by omega
   have e1 : treeL t leaf m v u (f + k) b2 = ((upX u m (f + k) 0).2.2, (levB t leaf m v u (f + k) b2 i)) := by
     unfold treeL; rw [treeUp_one (by rw [upE_len]; exact hi1), upE_get (by omega), hiv]
   have e2 : (levs (ovN u.length m)).sum = (ovN u.length m) := by rw [levs_one hi1]; simp
   rw [htr] at e1
   unfold RTreeP
   rw [e1, show k0 + nodN t l.length = k + i by omega]
   exact ⟨_, _, _, rfl, hB, hO, hR'16, hJ'15⟩
 refine xv1 12 2 (show (.slice p4 i c4 : Value) = .slice p4 ((upE u m (f + k) i).length) c4 from by rw [upE_len]) ?_
 have hiv : i = (ovN u.length m) := from_end hmb.1 hi (by omega) (by omega)
 have hi1 : ¬ (ovN u.length m) ≤ 1 := by omega
 have hlm : (levs (ovN u.length m)).sum = (ovN u.length m) + (levs (ovN (ovN u.length m) 18)).sum := by rw [levs_more hi1]; rfl
 have hB := hB_4.trans hB_6
 have hO := hO_4.trans hO_6
 refine ze 0 (hJ4 _ _ _ ⟨(upE u m (f + k) i), (k + i), 18, 4, _, (levB t leaf m v u (f + k) b2 i), _, _, rfl, rfl, hB, hO, k6_b1, ⟨_, _, _, hR⟩, hJ, fun W _ h2 => by rw [upE_len]; unfold Sts; rw [upE_len]; exact own_sl (own_only hup h2 (by decide)), rfl, rfl, (by rw [hiv]; exact up_ok hE hmb.1), (by rw [upE_len, hiv]; omega), fun _ => by rw [upE_len]; omega, (by rw [upE_len]; omega), (by rw [← htr, hiv]; show _ = treeUp _ _ _ _; rw [treeUp_more (by rw [upE_len]; exact hi1), Nat.add_assoc]; rfl)⟩ ?_)
 rw [if_neg (by decide), upE_len]
 by_cases hlf : leaf = true
 · rw [if_pos hlf]; omega
 · rw [if_neg hlf]
   have hf9 : leaf = false := by simpa using hlf
   have h29 := hlu hf9
   have hm18 : m = 18 := by rw [← hm, hf9]; rfl
   have h18 := ov18 h29
   rw [hm18] at hiv; omega
end Go.Proofs.YtbopakjiahojdaaGreatDoor
namespace Go.Proofs.YtbopakjiahojdaaGreatDoor
open Go.RowKit Go.Extern.Stop Go.Stop Go.Extern
set_option linter.unusedVariables false
attribute [local irreducible] wpList wpAnyH Code.wp Oper.wp Go

def RFromP (bm K : Nat) (L : List Int) (w : World) (e : Ending) (w' : World) : Prop :=
  (fromE K L ≠ 0 ∧ e = .returned (.tuple #[.pointer none, .agg #[.slice none 0 0, .int .i64 (fromE K L)]]) ∧ Below w.heap.size w w') ∨
  (fromE K L = 0 ∧ ∃ bc pg cg, e = .returned (.tuple #[.pointer (some ⟨bc, 0, none⟩), .agg #[.slice none 0 0, .int .i64 0]]) ∧ Below w.heap.size w w' ∧ RAl w.heap.size bc bm pg L.length cg pg L.length cg 0 L w')
set_option maxRecDepth 100000 in
set_option maxHeartbeats 4000000 in
theorem ref_From (bm : Nat) (p : Option Addr) (K c : Nat) (aL : Option Addr) (cL : Nat) (L : List Int) (w : World) (hk : Blk w bm [.slice p K c] 77) (hK : K ≤ 14400) (h : Sl w (.slice aL L.length cL) L.length (L.map (Value.int .i64))) (hLn : L.length ≤ 1000000) :
    Calls Tryz.prog 24 #[.pointer (some ⟨bm, 0, none⟩), .slice aL L.length cL] w (RFromP bm K L w) := by
 refine zin 56 Tryz.func24 ?_
 refine xa 3 [.slice none 0 0, .int .i64 0] 33 fun b1 W1 n1 => ?_
 have hk'1 := hk.below n1.below
 refine zl 9 56 (fun zm zkv V => ∃ (i : Nat), zkv = [(0, .pointer (some ⟨bm, 0, none⟩)), (1, .slice aL L.length cL), (5, .pointer (some ⟨b1, 0, none⟩)), (6, .int .i64 (↑i : Int))] ∧ zm = L.length - ((↑i : Int)).toNat ∧ Below w.heap.size w V ∧ Blk V bm ([.slice p K c]) 77 ∧ Blk V b1 ([.slice none 0 0, .int .i64 0]) 33 ∧ i ≤ L.length ∧ (∀ x, x < i → 1 ≤ L.getD x 0 ∧ L.getD x 0 < (K : Int))) ⟨0, rfl, rfl, n1.below, hk'1, n1.blk, Nat.zero_le _, ?_⟩ ?_
 · exact fun x hx => absurd hx (by omega)
 rintro _ _ W2 ⟨i, rfl, rfl, hB_2, k2_bm, k2_b1, hi, hz⟩ J2 hJ2 r2
 refine xid 9 ((↑i : Int) < (↑L.length : Int)) (fun hc3 => ?_) (fun hc3 => ?_)
 · refine xd 5 .z ?_
   refine xx (.e [0, 1] 2) _ L.length i 1 (Ints.elem h (k := i) (by omega)).1 ?_
   have hB'1 := Bl.next hB_2 (below_drew W2)
   refine xl (.e [] 3) ((Ints.elem (h.below hB'1) (k := i) (by omega)).2) ?_
   refine xg (.b [4, 5]) [18, 19] (decide ((L.getD i 0) < (1 : Int))) (fun hc4 => ?_) (fun hc4 => ?_)
   · have hc4 := of_decide_eq_true hc4
     have k2_b1'1 := k2_b1.below (below_drew W2)
     refine xsv (.r [6, 7, 8, 9, 10, 11, 12, 13, 14, 15, 16] 7) k2_b1'1 [.slice none 0 0, .int .i64 1] fun W5 u5 k5 => ?_
     have g1 := n1.ge (Below.refl w.heap.size _)
     have hB'2 := u5.below hB'1 g1
     refine xec 8 k5 (.tuple #[.pointer none, .agg #[.slice none 0 0, .int .i64 1]]) ?_
     have he : fromE K L = 1 := by unfold fromE; rw [goodB_false (j := i) (by omega) (by omega)]; rfl
     exact .inl ⟨by rw [he]; decide, by rw [he], hB'2⟩
   have hc4 := of_decide_eq_false hc4
   refine xx (.e [6, 7] 8) _ L.length i 1 (Ints.elem h (k := i) (by omega)).1 ?_
   refine xl (.e [] 9) ((Ints.elem (h.below hB'1) (k := i) (by omega)).2) ?_
   have k2_bm'1 := k2_bm.below (below_drew W2)
   refine xb (.e [10, 11, 12] 13) 0 k2_bm'1 ?_
   refine xid (.r [14, 15, 16] 2) ((L.getD i 0) ≥ (↑K : Int)) (fun hc6 => ?_) (fun hc6 => ?_)
   · have k2_b1'2 := k2_b1.below (below_drew W2)
     refine xsv 4 k2_b1'2 [.slice none 0 0, .int .i64 1] fun W7 u7 k7 => ?_
     have g1 := n1.ge (Below.refl w.heap.size _)
     have hB'3 := u7.below hB'1 g1
     refine xec 8 k7 (.tuple #[.pointer none, .agg #[.slice none 0 0, .int .i64 1]]) ?_
     have he : fromE K L = 1 := by unfold fromE; rw [goodB_false (j := i) (by omega) (by omega)]; rfl
     exact .inl ⟨by rw [he]; decide, by rw [he], hB'3⟩
   refine xwm 5 ((↑i : Int) + 1) (↑(i + 1) : Int) ?_
   have k2_b1'3 := k2_b1.below (below_drew W2)
   exact ze 2 (hJ2 _ _ _ ⟨i + 1, rfl, rfl, hB'1, k2_bm'1, k2_b1'3, by omega, fun x hx => (Nat.lt_or_ge x i).elim (hz x) (fun q => by obtain rfl : x = i := (by omega); omega)⟩ (by omega))
 refine zl 12 56 (fun zm zkv V => ∃ (j : Nat), zkv = [(0, .pointer (some ⟨bm, 0, none⟩)), (1, .slice aL L.length cL), (5, .pointer (some ⟨b1, 0, none⟩)), (7, .int .i64 (↑j : Int))] ∧ zm = L.length - ((↑j : Int)).toNat ∧ Below w.heap.size w V ∧ Blk V bm ([.slice p K c]) 77 ∧ Blk V b1 ([.slice none 0 0, .int .i64 0]) 33 ∧ 1 ≤ j ∧ j ≤ max 1 L.length ∧ (∀ x, x + 1 < j → L.getD x 0 < L.getD (x + 1) 0)) ⟨1, rfl, rfl, hB_2, k2_bm, k2_b1, Nat.le_refl _, by omega, ?_⟩ ?_
 · exact fun x hx => absurd hx (by omega)
 rintro _ _ W8 ⟨j, rfl, rfl, hB_8, k8_bm, k8_b1, hj0, hj, hz2⟩ J8 hJ8 r8
 refine xid 9 ((↑j : Int) < (↑L.length : Int)) (fun hc9 => ?_) (fun hc9 => ?_)
 · refine xd 5 .z ?_
   refine xx (.e [0, 1] 2) _ L.length j 1 (Ints.elem h (k := j) (by omega)).1 ?_
   have hB'4 := Bl.next hB_8 (below_drew W8)
   refine xl (.e [] 3) ((Ints.elem (h.below hB'4) (k := j) (by omega)).2) ?_
   refine xwm (.e [4, 5] 6) ((↑j : Int) - 1) (↑(j - 1) : Int) ?_
   refine xx (.e [] 7) _ L.length (j - 1) 1 (Ints.elem h (k := (j - 1)) (by omega)).1 ?_
   refine xl (.e [] 8) ((Ints.elem (h.below hB'4) (k := (j - 1)) (by omega)).2) ?_
   refine xid (.r [9] 2) ((L.getD j 0) ≤ (L.getD (j - 1) 0)) (fun hc10 => ?_) (fun hc10 => ?_)
   · have k8_b1'1 := k8_b1.below (below_drew W8)
     refine xsv 4 k8_b1'1 [.slice none 0 0, .int .i64 8] fun W11 u11 k11 => ?_
     have g1 := n1.ge (Below.refl w.heap.size _)
     have hB'5 := u11.below hB'4 g1
     refine xec 8 k11 (.tuple #[.pointer none, .agg #[.slice none 0 0, .int .i64 8]]) ?_
     have hgd : goodB K L = true := goodB_true fun x hx => hz x (by omega)
     have he : fromE K L = 8 := by unfold fromE; rw [if_pos hgd, riseB_false (j := j - 1) (by omega) (by rw [show j - 1 + 1 = j by omega]; omega)]; rfl
     exact .inl ⟨by rw [he]; decide, by rw [he], hB'5⟩
   refine xwm 5 ((↑j : Int) + 1) (↑(j + 1) : Int) ?_
   have k8_bm'1 := k8_bm.below (below_drew W8)
   have k8_b1'2 := k8_b1.below (below_drew W8)
   exact ze 2 (hJ8 _ _ _ ⟨j + 1, rfl, rfl, hB'4, k8_bm'1, k8_b1'2, by omega, by omega, fun x hx => (Nat.lt_or_ge (x + 1) j).elim (hz2 x) (fun q => by obtain rfl : j = x + 1 := (by omega); rw [Nat.add_sub_cancel] at *; omega)⟩ (by omega))
 refine xb0 8 3 fun b12 W12 n12 => ?_
 have o12 := own_of_blk (size := 1) (n := 0) n12.blk (n12.ge hB_8) rfl (by decide)
 have hB'6 := Bl.next hB_8 n12.below
 refine xbi 1 fun _ _ _ _ zJ zQ zo zx zy zK => op_app (m := L.length) (news := L.map (Value.int .i64)) (.int .i64 0) 1 8 (L.length) (L.map (Value.int .i64)) zo Tryz.underlying31 (by kernel_rfl) rfl (by decide) zx o12 zy (h.below hB'6) (by simp) (ints_one L) (by unfold maxLen; omega) (by omega) hB'6.size (by omega) (by rfl) fun p13 c13 W13 o13 hg13 hb13 => ?_
 refine zK _ _ ?_
 refine xa 1 [.pointer (some ⟨bm, 0, none⟩), .slice p13 L.length c13, .int .i64 0] 48 fun b14 W14 n14 => ?_
 have k8_b1'3 := ((k8_b1.below n12.below).grown hg13 o12 (by decide)).below n14.below
 refine xsv 2 k8_b1'3 [.slice none 0 0, .int .i64 0] fun W15 u15 k15 => ?_
 have g1 := n1.ge (Below.refl w.heap.size _)
 have hB'7 := u15.below (Bl.next (hB'6.trans hb13) n14.below) g1
 have k14 := u15.blkT n14.blk k8_b1'3 (by decide)
 have o13'1 := u15.own2 (own_below o13 n14.below) k8_b1'3 (by decide)
 have g14 := n14.ge (hB'6.trans hb13)
 refine xec 3 k15 (.tuple #[.pointer (some ⟨b14, 0, none⟩), .agg #[.slice none 0 0, .int .i64 0]]) ?_
 have hgd : goodB K L = true := goodB_true fun x hx => hz x (by omega)
 exact .inr ⟨by unfold fromE; rw [if_pos hgd, if_pos (riseB_true fun x hx => hz2 x (by omega))], _, _, _, rfl, hB'7, k14, o13'1, fun hp => by obtain ⟨g, rfl, _⟩ := own_someN o13'1 hp; exact ⟨(cutA_zero g _).symm, rfl⟩, rfl, rfl, g14, hLn⟩
set_option maxRecDepth 100000 in
set_option maxHeartbeats 1000000 in
theorem ref_New_bad (bm : Nat) (p : Option Addr) (K c : Nat) (f : Int) (w : World) (hk : Blk w bm [.slice p K c] 77) (hf : ¬ (1 ≤ f ∧ f ≤ (K : Int))) :
    Calls Tryz.prog 10 #[.pointer (some ⟨bm, 0, none⟩), .int .i64 f] w (Ret (.tuple #[.pointer none, .agg #[.slice none 0 0, .int .i64 1]]) w) := by
 refine zin 39 Tryz.func10 ?_
 refine xa 3 [.slice none 0 0, .int .i64 0] 33 fun b1 W1 n1 => ?_
 refine xg 8 [9, 10] (decide (f < (1 : Int))) (fun hc2 => ?_) (fun hc2 => ?_)
 · have hc2 := of_decide_eq_true hc2
   refine xsv 15 n1.blk [.slice none 0 0, .int .i64 1] fun W3 u3 k3 => ?_
   have g1 := n1.ge (Below.refl w.heap.size _)
   have hB := u3.below n1.below g1
   exact xec 4 k3 (.tuple #[.pointer none, .agg #[.slice none 0 0, .int .i64 1]]) ⟨rfl, hB⟩
 have hc2 := of_decide_eq_false hc2
 have hk'1 := hk.below n1.below
 refine xb 4 0 hk'1 ?_
 refine xk 5 (show (decide (f > (↑K : Int)) : Bool) = true from decide_eq_true (by omega)) ?_
 refine xsv 4 n1.blk [.slice none 0 0, .int .i64 1] fun W4 u4 k4 => ?_
 have g1 := n1.ge (Below.refl w.heap.size _)
 have hB := u4.below n1.below g1
 exact xec 4 k4 (.tuple #[.pointer none, .agg #[.slice none 0 0, .int .i64 1]]) ⟨rfl, hB⟩
theorem rng_good {f K : Nat} (h1 : 1 ≤ f) (h2 : f ≤ K) : goodB K (rngJ f (K - f)) = true := goodB_true fun j hj => by rw [rngJ_len] at hj; rw [rngJ_get hj]; omega
theorem rng_rise (f N : Nat) : riseB (rngJ f N) = true := riseB_true fun j hj => by rw [rngJ_len] at hj; rw [rngJ_get (by omega), rngJ_get hj]; omega
theorem rng_from {f K : Nat} (h1 : 1 ≤ f) (h2 : f ≤ K) : fromE K (rngJ f (K - f)) = 0 := by unfold fromE; rw [if_pos (rng_good h1 h2), if_pos (rng_rise f _)]
def RNewP (bm f K : Nat) (w : World) (e : Ending) (w' : World) : Prop :=
  ∃ bc pg cg, e = .returned (.tuple #[.pointer (some ⟨bc, 0, none⟩), .agg #[.slice none 0 0, .int .i64 0]]) ∧ Below w.heap.size w w' ∧ RAl w.heap.size bc bm pg (K - f) cg pg (K - f) cg 0 (rngJ f (K - f)) w'
theorem ref_From_rng (bm : Nat) (p : Option Addr) (f K c N : Nat) (aL : Option Addr) (cL : Nat) (w : World) (hk : Blk w bm [.slice p K c] 77) (hK : K ≤ 14400) (h1 : 1 ≤ f) (h2 : f ≤ K) (hN : K - f = N) (h : Sl w (.slice aL N cL) N ((rngJ f N).map (Value.int .i64))) :
    Calls Tryz.prog 24 #[.pointer (some ⟨bm, 0, none⟩), .slice aL N cL] w (RNewP bm f K w) := by
  subst hN
  have e := rngJ_len f (K - f)
  have h' : Sl w (.slice aL (rngJ f (K - f)).length cL) (rngJ f (K - f)).length ((rngJ f (K - f)).map (Value.int .i64)) := by rw [e]; exact h
  have hc := ref_From bm p K c aL cL (rngJ f (K - f)) w hk hK h' (by rw [e]; omega)
  rw [e] at hc
  refine hc.mono ?_
  rintro q W (⟨h0, _⟩ | ⟨_, bc, pg, cg, rfl, hb, hA⟩)
  · exact absurd (rng_from h1 h2) h0
  · rw [e] at hA
    exact ⟨bc, pg, cg, rfl, hb, hA⟩
set_option maxRecDepth 100000 in
set_option maxHeartbeats 2000000 in
theorem ref_New (bm : Nat) (p : Option Addr) (f K c : Nat) (w : World) (hk : Blk w bm [.slice p K c] 77) (hK : K ≤ 14400) (h1 : 1 ≤ f) (h2 : f ≤ K) :
    Calls Tryz.prog 10 #[.pointer (some ⟨bm, 0, none⟩), .int .i64 (↑f : Int)] w (RNewP bm f K w) := by
 refine zin 39 Tryz.func10 ?_
 refine xa 3 [.slice none 0 0, .int .i64 0] 33 fun b1 W1 n1 => ?_
 refine xgk 8 [9, 10] (show (decide ((↑f : Int) < (1 : Int)) : Bool) = false from decide_eq_false (by omega)) ?_
 have hk'1 := hk.below n1.below
 refine xb 4 0 hk'1 ?_
 refine xk 5 (show (decide ((↑f : Int) > (↑K : Int)) : Bool) = false from decide_eq_false (by omega)) ?_
 refine zl 15 39 (fun zm zkv V => ∃ (j : Nat) (pl : Option Addr) (cl : Nat), zkv = [(0, .pointer (some ⟨bm, 0, none⟩)), (4, .pointer none), (5, .pointer (some ⟨b1, 0, none⟩)), (6, .slice pl j cl), (7, .int .i64 (↑(f + j) : Int))] ∧ zm = K - ((↑(f + j) : Int)).toNat ∧ Below w.heap.size w V ∧ Blk V bm ([.slice p K c]) 77 ∧ Blk V b1 ([.slice none 0 0, .int .i64 0]) 33 ∧ V.ownsRow w.heap.size 3 1 (.slice pl j cl) j ((rngJ f j).map (Value.int .i64)) ∧ f + j ≤ K) ⟨0, _, _, rfl, rfl, n1.below, hk'1, n1.blk, World.ownsRow_nil _ _ _ _, by omega⟩ ?_
 rintro _ _ W3 ⟨j, pl, cl, rfl, rfl, hB_3, k3_bm, k3_b1, ho, hj⟩ J3 hJ3 r3
 refine xb 7 0 k3_bm ?_
 refine xid 4 ((↑(f + j) : Int) < (↑K : Int)) (fun hc4 => ?_) (fun hc4 => ?_)
 · refine xbs 7 1 [.int .i64 (↑(f + j) : Int)] 3 fun b5 W5 n5 => ?_
   have r5_ho := own_ne ho n5
   have ho'1 := own_below ho n5.below
   have hB'1 := Bl.next hB_3 n5.below
   refine xbi 0 fun _ _ _ _ zJ zQ zo zx zy zK => op_app (m := 1) (news := [.int .i64 (↑(f + j) : Int)]) (.int .i64 0) 1 8 (j + 1) ((rngJ f (j + 1)).map (Value.int .i64)) zo Tryz.underlying31 (by kernel_rfl) rfl (by decide) zx ho'1 zy (n5.blk.sl 1 1 (by decide) (by decide)) rfl (by simp [Value.oneCell']) (by unfold maxLen; omega) (by omega) hB'1.size (by rfl) (by rw [rngJ_succ]; simp) fun p6 c6 W6 o6 hg6 hb6 => ?_
   refine zK _ _ ?_
   refine xwm 6 ((↑(f + j) : Int) + 1) (↑((f + j) + 1) : Int) ?_
   have hB'2 := hB'1.trans hb6
   have k3_bm'1 := (k3_bm.below n5.below).grown hg6 ho'1 (by decide)
   have k3_b1'1 := (k3_b1.below n5.below).grown hg6 ho'1 (by decide)
   exact ze 2 (hJ3 _ _ _ ⟨j + 1, _, _, rfl, rfl, hB'2, k3_bm'1, k3_b1'1, o6, by omega⟩ (by omega))
 have hjN : K - f = j := by omega
 have hz9 : w.heap.size ≤ (W3).heap.size := hB_3.size
 refine xc 9 (args := #[.pointer (some ⟨bm, 0, none⟩), .slice pl j cl]) (ref_From_rng bm p f K c j pl cl _ k3_bm hK h1 h2 hjN (own_sl ho)) ?_
 rintro _ W7 ⟨bc, pg, cg, rfl, hb7, hA⟩
 replace hA := hA.mono hz9
 have k3_b1'2 := k3_b1.below hb7
 refine xsv 3 k3_b1'2 [.slice none 0 0, .int .i64 0] fun W8 u8 k8 => ?_
 have g1 := n1.ge (Below.refl w.heap.size _)
 have hB'3 := u8.below (Bl.next hB_3 hb7) g1
 have hA'1 := hA.only (Only.of_upd (T := [33]) u8 k3_b1'2 (by decide)) (by decide)
 exact xec 3 k8 (.tuple #[.pointer (some ⟨bc, 0, none⟩), .agg #[.slice none 0 0, .int .i64 0]]) ⟨_, _, _, rfl, hB'3, hA'1⟩
end Go.Proofs.YtbopakjiahojdaaGreatDoor
namespace Go.Proofs.YtbopakjiahojdaaGreatDoor
open Go.RowKit Go.Extern.Stop Go.Stop Go.Extern
set_option linter.unusedVariables false
attribute [local irreducible] wpList wpAnyH Code.wp Oper.wp Go

theorem ints_nil0 (w : World) : Ints w (.slice none 0 0) [] := .inl ⟨none, 0, rfl, rfl, rfl⟩
theorem ref_New_badN (bm : Nat) (p : Option Addr) (K c : Nat) (l : List UInt8) (B : Nat) (f : Int) (w : World) (hJ : RefI B bm p K c l w) (hf : ¬ (1 ≤ f ∧ f ≤ (K : Int))) :
    Calls Tryz.prog 10 #[.pointer (some ⟨bm, 0, none⟩), .int .i64 f] w (Ret (.tuple #[.pointer none, .agg #[.slice none 0 0, .int .i64 1]]) w) := ref_New_bad bm p K c f w hJ.blk hf
theorem ref_NewN (bm : Nat) (p : Option Addr) (K c : Nat) (l : List UInt8) (B : Nat) (f : Int) (w : World) (hJ : RefI B bm p K c l w) (hf : 1 ≤ f ∧ f ≤ (K : Int)) :
    Calls Tryz.prog 10 #[.pointer (some ⟨bm, 0, none⟩), .int .i64 f] w (RNewP bm f.toNat K w) := by
  have h := ref_New bm p f.toNat K c w hJ.blk hJ.hk (by omega) (by omega)
  rwa [show ((f.toNat : Nat) : Int) = f by omega] at h
theorem told_z (er : Int) (v : Value) (w : World) (hg : ErrT w) (hv : ErrV w [] (erT er) v) : Calls Tryz.prog 15 #[v] w (RetS (fun w' r => FltV w' r [] er) w) := by
  have := law05_Told (erT er) [] v w (by decide) hg hv
  rwa [show codeOf [] (erT er) = er from (by unfold erT; split <;> simp_all [codeOf, noErr]), show blocksOf ([] : List (Option Int)) = [] from rfl] at this
end Go.Proofs.YtbopakjiahojdaaGreatDoor
namespace Go.Proofs.YtbopakjiahojdaaGreatDoor
open Go.RowKit Go.Extern.Stop Go.Stop Go.Extern
set_option linter.unusedVariables false
attribute [local irreducible] wpList wpAnyH Code.wp Oper.wp Go

set_option maxRecDepth 100000 in
set_option maxHeartbeats 1000000 in
theorem law17_made (N f : Nat) (w : World) (hN : N ≤ 14400) (h1 : 1 ≤ f) (h2 : f ≤ N) :
    Calls Tryz.prog 8 #[.int .i64 (↑N : Int), .int .i64 (↑f : Int)] w (RetS (fun w' r => ∃ ba b g c pa ca, r = .pointer (some ⟨ba, 0, none⟩) ∧ AlC w.heap.size ba (256 * N) c ca f (N - f) ∧ Al w.heap.size ba b g (256 * N) c pa ca f (N - f) 0 (List.replicate (256 * N) (0 : UInt8)) w') w) := by
 refine zin 17 Tryz.func8 ?_
 refine xwm 8 (256 * (↑N : Int)) (↑(256 * N) : Int) ?_
 refine xmk 0 fun _ _ _ _ zJ zQ zo zx zy zK => op_make (256 * N) (.int .u8 0) 1 1 ((List.replicate (256 * N) (0 : UInt8)).map bv) zo zx zy Tryz.underlying29 (by kernel_rfl) rfl (by omega) (by omega) (zerosB (256 * N)) fun b1 W1 n1 => ?_
 refine zK _ _ ?_
 have o1 := own_of_blk (size := 1) (n := (256 * N)) n1.blk (n1.ge (Below.refl w.heap.size _)) (by rw [List.length_map, List.length_replicate, Nat.mul_one]) (by unfold maxLen; omega)
 refine xc 0 (args := #[.slice (some ⟨b1, 0, none⟩) (256 * N) (256 * N)]) (image_OfN (some ⟨b1, 0, none⟩) (256 * N) (256 * N) (256 * N) (List.replicate (256 * N) (0 : UInt8)) _ List.length_replicate (by omega) (bys_of (own_sl o1) List.length_replicate) (by omega) (Nat.le_refl _)) ?_
 rintro _ W2 ⟨_, rfl, hb2, bi, pi, ci, rfl, gi, ki, hd⟩
 have hd'1 := own_mono hd n1.below.size
 rw [List.take_of_length_le (by rw [List.length_replicate]; omega)] at hd'1
 obtain ⟨g, rfl, hci⟩ := own_someN hd'1 (by omega)
 have hB := Bl.next n1.below hb2
 have hs9 := hB.size
 refine xc 1 (args := #[.pointer (some ⟨bi, 0, none⟩), .int .i64 (↑f : Int)]) (alloc_NewN bi (some ⟨g, 0, none⟩) (256 * N) ci f (N - f) (f : Int) rfl (by omega) _ ki (by omega) h1 (by omega)) ?_
 rintro _ W3 ⟨_, rfl, hb3, ba, pa, ca, rfl, ga, ka, ho⟩
 replace ga := Nat.le_trans hs9 ga
 have ki'1 := ki.below hb3
 have hd'2 := own_below hd'1 hb3
 have ho'1 := own_mono ho hB.size
 have hA : Al w.heap.size ba bi g (256 * N) ci pa ca f (N - f) 0 (List.replicate (256 * N) (0 : UInt8)) _ := ⟨ka, ki'1, hd'2, ho'1⟩
 have hca : N - f ≤ ca := by
   rcases Nat.eq_zero_or_pos (N - f) with q | q
   · omega
   · exact own_cap ho'1 q
 have hC : AlC w.heap.size ba (256 * N) ci ca f (N - f) := ⟨by omega, hci, hca, by omega, ga⟩
 have hB'1 := Bl.next hB hb3
 exact xe 14 (.pointer (some ⟨ba, 0, none⟩)) ⟨_, rfl, hB'1, _, _, _, _, _, _, rfl, hC, hA⟩
/-- the law's entries: keys 0, 3, 6 .., values of v zero bytes -/
def someE (v N : Nat) : List Ent := (List.range N).map fun i => (((3 * i : Nat) : Int), List.replicate v 0, 0)
theorem someE_len (v N : Nat) : (someE v N).length = N := by simp [someE]
theorem someE_get {v N i : Nat} (h : i < N) : (someE v N).getD i entD = (((3 * i : Nat) : Int), List.replicate v 0, 0) := by simp [someE, List.getD, List.getElem?_range h]
theorem someE_succ (v j : Nat) : (someE v (j + 1)).flatMap entC = (someE v j).flatMap entC ++ [.int .i64 ((3 * j : Nat) : Int), .string ⟨(List.replicate v (0 : UInt8)).toArray⟩, .int .i64 0] := by
  simp [someE, List.range_succ, entC]
theorem someE_ok {v N : Nat} (h : N ≤ 100000) : EntsOk v (someE v N) where
  hk i hi := by rw [someE_len] at hi; rw [someE_get hi]; constructor <;> (simp only; omega)
  hs j hj := by rw [someE_len] at hj; rw [someE_get (by omega), someE_get hj]; simp only; omega
  hw i hi := by rw [someE_len] at hi; rw [someE_get hi]; simp
set_option maxRecDepth 100000 in
set_option maxHeartbeats 4000000 in
theorem law17_some1 (N : Nat) (w : World) (hN : N ≤ 32768) :
    Calls Tryz.prog 37 #[.int .i64 (↑N : Int), .int .i64 1] w (RetS (fun w' r => ∃ p c, r = .slice p N c ∧ w'.ownsRow w.heap.size 73 3 (.slice p N c) N ((someE 4 N).flatMap entC)) w) := by
 refine zin 25 Tryz.func37 ?_
 have hB := Below.refl w.heap.size w
 refine zl 17 25 (fun zm zkv V => ∃ (j : Nat) (p : Option Addr) (c : Nat), zkv = [(0, .int .i64 (↑N : Int)), (1, .int .i64 1), (4, .slice none 0 0), (5, .slice p j c), (6, .int .i64 (↑j : Int))] ∧ zm = N - ((↑j : Int)).toNat ∧ Below w.heap.size w V ∧ V.ownsRow w.heap.size 73 3 (.slice p j c) j ((someE 4 j).flatMap entC) ∧ j ≤ N) ⟨0, _, _, rfl, rfl, hB, World.ownsRow_nil _ _ _ _, Nat.zero_le _⟩ ?_
 rintro _ _ W1 ⟨j, p, c, rfl, rfl, hB_1, ho, hj⟩ J1 hJ1 r1
 refine xid 8 ((↑j : Int) < (↑N : Int)) (fun hc2 => ?_) (fun hc2 => ?_)
 · refine xwm 7 (3 * (↑j : Int)) (↑(3 * j) : Int) ?_
   refine xbs 0 6 [.int .i64 0, .int .i64 4, .int .i64 8, .int .i64 24, .int .i64 16, .int .i64 4] 3 fun b3 W3 n3 => ?_
   refine xb 2 1 n3.blk ?_
   refine xmk 0 fun _ _ _ _ zJ zQ zo zx zy zK => op_make 4 (.int .u8 0) 1 1 ((List.replicate 4 (0 : UInt8)).map bv) zo zx zy Tryz.underlying29 (by kernel_rfl) rfl (by omega) (by omega) (zerosB 4) fun b4 W4 n4 => ?_
   refine zK _ _ ?_
   have o4 := own_of_blk (size := 1) (n := 4) n4.blk (n4.ge (Bl.next hB_1 n3.below)) (by rw [List.length_map, List.length_replicate]) (by unfold maxLen; omega)
   refine xcv0 0 (fun _ _ _ zo zx => run_bstr zo zx (bys_of (own_sl o4) List.length_replicate) List.length_replicate Tryz.underlying29 Tryz.underlying5 Tryz.underlying9) ?_
   refine xbs 1 1 [.int .i64 (↑(3 * j) : Int), .string ⟨(List.replicate 4 (0 : UInt8)).toArray⟩, .int .i64 0] 73 fun b5 W5 n5 => ?_
   have ho'1 := own_below (own_below ho n3.below) n4.below
   have r5_ho := own_ne ho'1 n5
   have ho'2 := own_below ho'1 n5.below
   have hB'1 := Bl.next (Bl.next (Bl.next hB_1 n3.below) n4.below) n5.below
   refine xbi 0 fun _ _ _ _ zJ zQ zo zx zy zK => op_app (m := 1) (news := [.int .i64 (↑(3 * j) : Int), .string ⟨(List.replicate 4 (0 : UInt8)).toArray⟩, .int .i64 0]) (.agg #[.int .i64 0, .string ⟨#[]⟩, .int .i64 0]) 3 32 (j + 1) ((someE 4 (j + 1)).flatMap entC) zo Tryz.underlying22 (by kernel_rfl) rfl (by decide) zx ho'2 zy (n5.blk.sl 1 1 (by decide) (by decide)) rfl (by simp [Value.oneCell']) (by unfold maxLen; omega) (by omega) hB'1.size (by rfl) ((someE_succ 4 j).symm) fun p6 c6 W6 o6 hg6 hb6 => ?_
   refine zK _ _ ?_
   refine xwm 6 ((↑j : Int) + 1) (↑(j + 1) : Int) ?_
   have hB'2 := hB'1.trans hb6
   exact ze 2 (hJ1 _ _ _ ⟨j + 1, _, _, rfl, rfl, hB'2, o6, by omega⟩ (by omega))
 refine xe 12 (.slice p j c) ?_
 obtain rfl : j = N := by omega
 exact ⟨_, rfl, hB_1, _, _, rfl, ho⟩
set_option maxRecDepth 100000 in
set_option maxHeartbeats 4000000 in
theorem law17_some2 (N : Nat) (w : World) (hN : N ≤ 32768) :
    Calls Tryz.prog 37 #[.int .i64 (↑N : Int), .int .i64 2] w (RetS (fun w' r => ∃ p c, r = .slice p N c ∧ w'.ownsRow w.heap.size 73 3 (.slice p N c) N ((someE 8 N).flatMap entC)) w) := by
 refine zin 25 Tryz.func37 ?_
 have hB := Below.refl w.heap.size w
 refine zl 17 25 (fun zm zkv V => ∃ (j : Nat) (p : Option Addr) (c : Nat), zkv = [(0, .int .i64 (↑N : Int)), (1, .int .i64 2), (4, .slice none 0 0), (5, .slice p j c), (6, .int .i64 (↑j : Int))] ∧ zm = N - ((↑j : Int)).toNat ∧ Below w.heap.size w V ∧ V.ownsRow w.heap.size 73 3 (.slice p j c) j ((someE 8 j).flatMap entC) ∧ j ≤ N) ⟨0, _, _, rfl, rfl, hB, World.ownsRow_nil _ _ _ _, Nat.zero_le _⟩ ?_
 rintro _ _ W1 ⟨j, p, c, rfl, rfl, hB_1, ho, hj⟩ J1 hJ1 r1
 refine xid 8 ((↑j : Int) < (↑N : Int)) (fun hc2 => ?_) (fun hc2 => ?_)
 · refine xwm 7 (3 * (↑j : Int)) (↑(3 * j) : Int) ?_
   refine xbs 0 6 [.int .i64 0, .int .i64 4, .int .i64 8, .int .i64 24, .int .i64 16, .int .i64 4] 3 fun b3 W3 n3 => ?_
   refine xb 2 2 n3.blk ?_
   refine xmk 0 fun _ _ _ _ zJ zQ zo zx zy zK => op_make 8 (.int .u8 0) 1 1 ((List.replicate 8 (0 : UInt8)).map bv) zo zx zy Tryz.underlying29 (by kernel_rfl) rfl (by omega) (by omega) (zerosB 8) fun b4 W4 n4 => ?_
   refine zK _ _ ?_
   have o4 := own_of_blk (size := 1) (n := 8) n4.blk (n4.ge (Bl.next hB_1 n3.below)) (by rw [List.length_map, List.length_replicate]) (by unfold maxLen; omega)
   refine xcv0 0 (fun _ _ _ zo zx => run_bstr zo zx (bys_of (own_sl o4) List.length_replicate) List.length_replicate Tryz.underlying29 Tryz.underlying5 Tryz.underlying9) ?_
   refine xbs 1 1 [.int .i64 (↑(3 * j) : Int), .string ⟨(List.replicate 8 (0 : UInt8)).toArray⟩, .int .i64 0] 73 fun b5 W5 n5 => ?_
   have ho'1 := own_below (own_below ho n3.below) n4.below
   have r5_ho := own_ne ho'1 n5
   have ho'2 := own_below ho'1 n5.below
   have hB'1 := Bl.next (Bl.next (Bl.next hB_1 n3.below) n4.below) n5.below
   refine xbi 0 fun _ _ _ _ zJ zQ zo zx zy zK => op_app (m := 1) (news := [.int .i64 (↑(3 * j) : Int), .string ⟨(List.replicate 8 (0 : UInt8)).toArray⟩, .int .i64 0]) (.agg #[.int .i64 0, .string ⟨#[]⟩, .int .i64 0]) 3 32 (j + 1) ((someE 8 (j + 1)).flatMap entC) zo Tryz.underlying22 (by kernel_rfl) rfl (by decide) zx ho'2 zy (n5.blk.sl 1 1 (by decide) (by decide)) rfl (by simp [Value.oneCell']) (by unfold maxLen; omega) (by omega) hB'1.size (by rfl) ((someE_succ 8 j).symm) fun p6 c6 W6 o6 hg6 hb6 => ?_
   refine zK _ _ ?_
   refine xwm 6 ((↑j : Int) + 1) (↑(j + 1) : Int) ?_
   have hB'2 := hB'1.trans hb6
   exact ze 2 (hJ1 _ _ _ ⟨j + 1, _, _, rfl, rfl, hB'2, o6, by omega⟩ (by omega))
 refine xe 12 (.slice p j c) ?_
 obtain rfl : j = N := by omega
 exact ⟨_, rfl, hB_1, _, _, rfl, ho⟩
set_option maxRecDepth 100000 in
set_option maxHeartbeats 4000000 in
theorem law17_some3 (N : Nat) (w : World) (hN : N ≤ 32768) :
    Calls Tryz.prog 37 #[.int .i64 (↑N : Int), .int .i64 3] w (RetS (fun w' r => ∃ p c, r = .slice p N c ∧ w'.ownsRow w.heap.size 73 3 (.slice p N c) N ((someE 24 N).flatMap entC)) w) := by
 refine zin 25 Tryz.func37 ?_
 have hB := Below.refl w.heap.size w
 refine zl 17 25 (fun zm zkv V => ∃ (j : Nat) (p : Option Addr) (c : Nat), zkv = [(0, .int .i64 (↑N : Int)), (1, .int .i64 3), (4, .slice none 0 0), (5, .slice p j c), (6, .int .i64 (↑j : Int))] ∧ zm = N - ((↑j : Int)).toNat ∧ Below w.heap.size w V ∧ V.ownsRow w.heap.size 73 3 (.slice p j c) j ((someE 24 j).flatMap entC) ∧ j ≤ N) ⟨0, _, _, rfl, rfl, hB, World.ownsRow_nil _ _ _ _, Nat.zero_le _⟩ ?_
 rintro _ _ W1 ⟨j, p, c, rfl, rfl, hB_1, ho, hj⟩ J1 hJ1 r1
 refine xid 8 ((↑j : Int) < (↑N : Int)) (fun hc2 => ?_) (fun hc2 => ?_)
 · refine xwm 7 (3 * (↑j : Int)) (↑(3 * j) : Int) ?_
   refine xbs 0 6 [.int .i64 0, .int .i64 4, .int .i64 8, .int .i64 24, .int .i64 16, .int .i64 4] 3 fun b3 W3 n3 => ?_
   refine xb 2 3 n3.blk ?_
   refine xmk 0 fun _ _ _ _ zJ zQ zo zx zy zK => op_make 24 (.int .u8 0) 1 1 ((List.replicate 24 (0 : UInt8)).map bv) zo zx zy Tryz.underlying29 (by kernel_rfl) rfl (by omega) (by omega) (zerosB 24) fun b4 W4 n4 => ?_
   refine zK _ _ ?_
   have o4 := own_of_blk (size := 1) (n := 24) n4.blk (n4.ge (Bl.next hB_1 n3.below)) (by rw [List.length_map, List.length_replicate]) (by unfold maxLen; omega)
   refine xcv0 0 (fun _ _ _ zo zx => run_bstr zo zx (bys_of (own_sl o4) List.length_replicate) List.length_replicate Tryz.underlying29 Tryz.underlying5 Tryz.underlying9) ?_
   refine xbs 1 1 [.int .i64 (↑(3 * j) : Int), .string ⟨(List.replicate 24 (0 : UInt8)).toArray⟩, .int .i64 0] 73 fun b5 W5 n5 => ?_
   have ho'1 := own_below (own_below ho n3.below) n4.below
   have r5_ho := own_ne ho'1 n5
   have ho'2 := own_below ho'1 n5.below
   have hB'1 := Bl.next (Bl.next (Bl.next hB_1 n3.below) n4.below) n5.below
   refine xbi 0 fun _ _ _ _ zJ zQ zo zx zy zK => op_app (m := 1) (news := [.int .i64 (↑(3 * j) : Int), .string ⟨(List.replicate 24 (0 : UInt8)).toArray⟩, .int .i64 0]) (.agg #[.int .i64 0, .string ⟨#[]⟩, .int .i64 0]) 3 32 (j + 1) ((someE 24 (j + 1)).flatMap entC) zo Tryz.underlying22 (by kernel_rfl) rfl (by decide) zx ho'2 zy (n5.blk.sl 1 1 (by decide) (by decide)) rfl (by simp [Value.oneCell']) (by unfold maxLen; omega) (by omega) hB'1.size (by rfl) ((someE_succ 24 j).symm) fun p6 c6 W6 o6 hg6 hb6 => ?_
   refine zK _ _ ?_
   refine xwm 6 ((↑j : Int) + 1) (↑(j + 1) : Int) ?_
   have hB'2 := hB'1.trans hb6
   exact ze 2 (hJ1 _ _ _ ⟨j + 1, _, _, rfl, rfl, hB'2, o6, by omega⟩ (by omega))
 refine xe 12 (.slice p j c) ?_
 obtain rfl : j = N := by omega
 exact ⟨_, rfl, hB_1, _, _, rfl, ho⟩
set_option maxRecDepth 100000 in
set_option maxHeartbeats 4000000 in
theorem law17_some4 (N : Nat) (w : World) (hN : N ≤ 32768) :
    Calls Tryz.prog 37 #[.int .i64 (↑N : Int), .int .i64 4] w (RetS (fun w' r => ∃ p c, r = .slice p N c ∧ w'.ownsRow w.heap.size 73 3 (.slice p N c) N ((someE 16 N).flatMap entC)) w) := by
 refine zin 25 Tryz.func37 ?_
 have hB := Below.refl w.heap.size w
 refine zl 17 25 (fun zm zkv V => ∃ (j : Nat) (p : Option Addr) (c : Nat), zkv = [(0, .int .i64 (↑N : Int)), (1, .int .i64 4), (4, .slice none 0 0), (5, .slice p j c), (6, .int .i64 (↑j : Int))] ∧ zm = N - ((↑j : Int)).toNat ∧ Below w.heap.size w V ∧ V.ownsRow w.heap.size 73 3 (.slice p j c) j ((someE 16 j).flatMap entC) ∧ j ≤ N) ⟨0, _, _, rfl, rfl, hB, World.ownsRow_nil _ _ _ _, Nat.zero_le _⟩ ?_
 rintro _ _ W1 ⟨j, p, c, rfl, rfl, hB_1, ho, hj⟩ J1 hJ1 r1
 refine xid 8 ((↑j : Int) < (↑N : Int)) (fun hc2 => ?_) (fun hc2 => ?_)
 · refine xwm 7 (3 * (↑j : Int)) (↑(3 * j) : Int) ?_
   refine xbs 0 6 [.int .i64 0, .int .i64 4, .int .i64 8, .int .i64 24, .int .i64 16, .int .i64 4] 3 fun b3 W3 n3 => ?_
   refine xb 2 4 n3.blk ?_
   refine xmk 0 fun _ _ _ _ zJ zQ zo zx zy zK => op_make 16 (.int .u8 0) 1 1 ((List.replicate 16 (0 : UInt8)).map bv) zo zx zy Tryz.underlying29 (by kernel_rfl) rfl (by omega) (by omega) (zerosB 16) fun b4 W4 n4 => ?_
   refine zK _ _ ?_
   have o4 := own_of_blk (size := 1) (n := 16) n4.blk (n4.ge (Bl.next hB_1 n3.below)) (by rw [List.length_map, List.length_replicate]) (by unfold maxLen; omega)
   refine xcv0 0 (fun _ _ _ zo zx => run_bstr zo zx (bys_of (own_sl o4) List.length_replicate) List.length_replicate Tryz.underlying29 Tryz.underlying5 Tryz.underlying9) ?_
   refine xbs 1 1 [.int .i64 (↑(3 * j) : Int), .string ⟨(List.replicate 16 (0 : UInt8)).toArray⟩, .int .i64 0] 73 fun b5 W5 n5 => ?_
   have ho'1 := own_below (own_below ho n3.below) n4.below
   have r5_ho := own_ne ho'1 n5
   have ho'2 := own_below ho'1 n5.below
   have hB'1 := Bl.next (Bl.next (Bl.next hB_1 n3.below) n4.below) n5.below
   refine xbi 0 fun _ _ _ _ zJ zQ zo zx zy zK => op_app (m := 1) (news := [.int .i64 (↑(3 * j) : Int), .string ⟨(List.replicate 16 (0 : UInt8)).toArray⟩, .int .i64 0]) (.agg #[.int .i64 0, .string ⟨#[]⟩, .int .i64 0]) 3 32 (j + 1) ((someE 16 (j + 1)).flatMap entC) zo Tryz.underlying22 (by kernel_rfl) rfl (by decide) zx ho'2 zy (n5.blk.sl 1 1 (by decide) (by decide)) rfl (by simp [Value.oneCell']) (by unfold maxLen; omega) (by omega) hB'1.size (by rfl) ((someE_succ 16 j).symm) fun p6 c6 W6 o6 hg6 hb6 => ?_
   refine zK _ _ ?_
   refine xwm 6 ((↑j : Int) + 1) (↑(j + 1) : Int) ?_
   have hB'2 := hB'1.trans hb6
   exact ze 2 (hJ1 _ _ _ ⟨j + 1, _, _, rfl, rfl, hB'2, o6, by omega⟩ (by omega))
 refine xe 12 (.slice p j c) ?_
 obtain rfl : j = N := by omega
 exact ⟨_, rfl, hB_1, _, _, rfl, ho⟩
set_option maxRecDepth 100000 in
set_option maxHeartbeats 4000000 in
theorem law17_some5 (N : Nat) (w : World) (hN : N ≤ 32768) :
    Calls Tryz.prog 37 #[.int .i64 (↑N : Int), .int .i64 5] w (RetS (fun w' r => ∃ p c, r = .slice p N c ∧ w'.ownsRow w.heap.size 73 3 (.slice p N c) N ((someE 4 N).flatMap entC)) w) := by
 refine zin 25 Tryz.func37 ?_
 have hB := Below.refl w.heap.size w
 refine zl 17 25 (fun zm zkv V => ∃ (j : Nat) (p : Option Addr) (c : Nat), zkv = [(0, .int .i64 (↑N : Int)), (1, .int .i64 5), (4, .slice none 0 0), (5, .slice p j c), (6, .int .i64 (↑j : Int))] ∧ zm = N - ((↑j : Int)).toNat ∧ Below w.heap.size w V ∧ V.ownsRow w.heap.size 73 3 (.slice p j c) j ((someE 4 j).flatMap entC) ∧ j ≤ N) ⟨0, _, _, rfl, rfl, hB, World.ownsRow_nil _ _ _ _, Nat.zero_le _⟩ ?_
 rintro _ _ W1 ⟨j, p, c, rfl, rfl, hB_1, ho, hj⟩ J1 hJ1 r1
 refine xid 8 ((↑j : Int) < (↑N : Int)) (fun hc2 => ?_) (fun hc2 => ?_)
 · refine xwm 7 (3 * (↑j : Int)) (↑(3 * j) : Int) ?_
   refine xbs 0 6 [.int .i64 0, .int .i64 4, .int .i64 8, .int .i64 24, .int .i64 16, .int .i64 4] 3 fun b3 W3 n3 => ?_
   refine xb 2 5 n3.blk ?_
   refine xmk 0 fun _ _ _ _ zJ zQ zo zx zy zK => op_make 4 (.int .u8 0) 1 1 ((List.replicate 4 (0 : UInt8)).map bv) zo zx zy Tryz.underlying29 (by kernel_rfl) rfl (by omega) (by omega) (zerosB 4) fun b4 W4 n4 => ?_
   refine zK _ _ ?_
   have o4 := own_of_blk (size := 1) (n := 4) n4.blk (n4.ge (Bl.next hB_1 n3.below)) (by rw [List.length_map, List.length_replicate]) (by unfold maxLen; omega)
   refine xcv0 0 (fun _ _ _ zo zx => run_bstr zo zx (bys_of (own_sl o4) List.length_replicate) List.length_replicate Tryz.underlying29 Tryz.underlying5 Tryz.underlying9) ?_
   refine xbs 1 1 [.int .i64 (↑(3 * j) : Int), .string ⟨(List.replicate 4 (0 : UInt8)).toArray⟩, .int .i64 0] 73 fun b5 W5 n5 => ?_
   have ho'1 := own_below (own_below ho n3.below) n4.below
   have r5_ho := own_ne ho'1 n5
   have ho'2 := own_below ho'1 n5.below
   have hB'1 := Bl.next (Bl.next (Bl.next hB_1 n3.below) n4.below) n5.below
   refine xbi 0 fun _ _ _ _ zJ zQ zo zx zy zK => op_app (m := 1) (news := [.int .i64 (↑(3 * j) : Int), .string ⟨(List.replicate 4 (0 : UInt8)).toArray⟩, .int .i64 0]) (.agg #[.int .i64 0, .string ⟨#[]⟩, .int .i64 0]) 3 32 (j + 1) ((someE 4 (j + 1)).flatMap entC) zo Tryz.underlying22 (by kernel_rfl) rfl (by decide) zx ho'2 zy (n5.blk.sl 1 1 (by decide) (by decide)) rfl (by simp [Value.oneCell']) (by unfold maxLen; omega) (by omega) hB'1.size (by rfl) ((someE_succ 4 j).symm) fun p6 c6 W6 o6 hg6 hb6 => ?_
   refine zK _ _ ?_
   refine xwm 6 ((↑j : Int) + 1) (↑(j + 1) : Int) ?_
   have hB'2 := hB'1.trans hb6
   exact ze 2 (hJ1 _ _ _ ⟨j + 1, _, _, rfl, rfl, hB'2, o6, by omega⟩ (by omega))
 refine xe 12 (.slice p j c) ?_
 obtain rfl : j = N := by omega
 exact ⟨_, rfl, hB_1, _, _, rfl, ho⟩
end Go.Proofs.YtbopakjiahojdaaGreatDoor
namespace Go.Proofs.YtbopakjiahojdaaGreatDoor
open Go.RowKit Go.Extern.Stop Go.Stop Go.Extern
set_option linter.unusedVariables false
attribute [local irreducible] wpList wpAnyH Code.wp Oper.wp Go

theorem Al.mono {B B' ba b g n c : Nat} {pa : Option Addr} {ca f N k : Nat} {l : List UInt8} {w : World} (h : Al B' ba b g n c pa ca f N k l w) (hB : B ≤ B') : Al B ba b g n c pa ca f N k l w := ⟨h.blkA, h.blkI, own_mono h.data hB, own_mono h.nums hB⟩
theorem AlC.mono {B B' ba n c ca f N : Nat} (h : AlC B' ba n c ca f N) (hB : B ≤ B') : AlC B ba n c ca f N := ⟨h.hn, h.hc, h.hca, h.hf, Nat.le_trans hB h.hB⟩
theorem row_at {w : World} {base g n c size : Nat} {e : TypeId} {xs : List Value} (h : w.ownsRow base e size (.slice (some ⟨g, 0, none⟩) n c) n xs) : ∃ cur, w.heap[g]? = some (.cells cur e (0, 0)) := by
  rcases h.2 with ⟨hv, _⟩ | ⟨g2, cap, cur, hv, _, hh, _⟩
  · cases hv
  · simp only [Value.slice.injEq, Option.some.injEq, Addr.mk.injEq] at hv
    obtain ⟨⟨rfl, _, _⟩, _⟩ := hv
    exact ⟨cur, hh⟩
theorem row_lt {w : World} {base g n c size : Nat} {e : TypeId} {xs : List Value} (h : w.ownsRow base e size (.slice (some ⟨g, 0, none⟩) n c) n xs) : g < w.heap.size := by
  obtain ⟨cur, hh⟩ := row_at h
  exact (Array.getElem?_eq_some_iff.1 hh).1
/-- the image of one allocator is no block that another one writes -/
theorem Al.ne {B ba b g n c : Nat} {pa : Option Addr} {ca f N k : Nat} {l : List UInt8} {B2 ba2 b2 g2 n2 c2 : Nat} {pa2 : Option Addr} {ca2 f2 N2 k2 : Nat} {l2 : List UInt8} {w : World} (h : Al B ba b g n c pa ca f N k l w) (h2 : Al B2 ba2 b2 g2 n2 c2 pa2 ca2 f2 N2 k2 l2 w) : b2 ≠ ba ∧ b2 ≠ g := by
  constructor
  · rintro rfl
    exact absurd (h.blkA.ty h2.blkI) (by decide)
  · rintro rfl
    obtain ⟨cur, hh⟩ := row_at h.data
    have h3 : w.heap[b2]? = some (.cells [.slice (some ⟨g2, 0, none⟩) n2 c2].toArray 98 (0, 0)) := h2.blkI
    rw [hh] at h3
    simp only [Option.some.injEq, Obj.cells.injEq] at h3
    exact absurd h3.2.1 (by decide)
theorem Al.apart {B2 ba2 b2 g2 n2 c2 : Nat} {pa2 : Option Addr} {ca2 f2 N2 k2 : Nat} {l2 : List UInt8} {w W : World} {ba g : Nat} (h : Al B2 ba2 b2 g2 n2 c2 pa2 ca2 f2 N2 k2 l2 w) (hC : AlC B2 ba2 n2 c2 ca2 f2 N2) (h1 : ba < B2) (h2 : g < B2) (hne : b2 ≠ ba ∧ b2 ≠ g) (hX : Fr [ba, g] w W) : Al B2 ba2 b2 g2 n2 c2 pa2 ca2 f2 N2 k2 l2 W := by
  have hB := hC.hB
  refine ⟨h.blkA.fr hX (by simp; omega), h.blkI.fr hX (by simp; exact hne), own_fr h.data hX fun k hk => ?_, own_fr h.nums hX fun k hk => ?_⟩
  · have := (h.data.lt k hk).1; simp; omega
  · have := (h.nums.lt k hk).1; simp; omega
theorem madeN (N f : Nat) (Ni fi : Int) (hNi : Ni = (N : Int)) (hfi : fi = (f : Int)) (w : World) (hN : N ≤ 14400) (h1 : 1 ≤ f) (h2 : f ≤ N) :
    Calls Tryz.prog 8 #[.int .i64 Ni, .int .i64 fi] w (RetS (fun w' r => ∃ ba b g c pa ca, r = .pointer (some ⟨ba, 0, none⟩) ∧ AlC w.heap.size ba (256 * N) c ca f (N - f) ∧ Al w.heap.size ba b g (256 * N) c pa ca f (N - f) 0 (List.replicate (256 * N) (0 : UInt8)) w') w) := by
  subst hNi hfi; exact law17_made N f w hN h1 h2
theorem law17_some (t : Int) (N : Nat) (Ni : Int) (hNi : Ni = (N : Int)) (w : World) (h1 : 1 ≤ t) (h2 : t ≤ 5) (hN : N ≤ 32768) :
    Calls Tryz.prog 37 #[.int .i64 Ni, .int .i64 t] w (RetS (fun w' r => ∃ p c, r = .slice p N c ∧ w'.ownsRow w.heap.size 73 3 (.slice p N c) N ((someE (widN t true) N).flatMap entC)) w) := by
  subst hNi
  obtain rfl | rfl | rfl | rfl | rfl : t = 1 ∨ t = 2 ∨ t = 3 ∨ t = 4 ∨ t = 5 := by omega
  · exact law17_some1 N w hN
  · exact law17_some2 N w hN
  · exact law17_some3 N w hN
  · exact law17_some4 N w hN
  · exact law17_some5 N w hN
theorem build_TreeN (B ba b g nn cc : Nat) (pa : Option Addr) (ca f N k0 : Nat) (bs : List UInt8) (t : Int) (a : Option Addr) (c : Nat) (l : List Ent) (n : Nat) (w : World) (hl : l.length = n) (hC : AlC B ba nn cc ca f N) (hA : Al B ba b g nn cc pa ca f N k0 bs w) (ht1 : 1 ≤ t) (ht2 : t ≤ 5) (E : EntsOk (widN t true) l) (hn : n ≤ 32768) (hf1 : 1 ≤ f) (hkN : k0 ≤ N) (hk : k0 + nodN t n ≤ N) (hin : ∀ W, Below B w W → Only [95, 5, 37] w W → Sts entC W (.slice a l.length c) l) (hBw : B ≤ w.heap.size) :
    Calls Tryz.prog 11 #[.pointer (some ⟨ba, 0, none⟩), .int .i64 t, .slice a n c] w (TreePost B ba b g nn cc pa ca f N k0 bs t l w) := by
  subst hl; exact build_Tree B ba b g nn cc pa ca f N k0 bs t a c l w hC hA ht1 ht2 E hn hf1 hkN hk hin hBw
theorem build_Tree_noneN (B ba b g nn cc : Nat) (pa : Option Addr) (ca f N k0 : Nat) (bs : List UInt8) (t : Int) (a : Option Addr) (c : Nat) (l : List Ent) (n : Nat) (w : World) (hl : l.length = n) (hA : Al B ba b g nn cc pa ca f N k0 bs w) (ht1 : 1 ≤ t) (ht2 : t ≤ 5) (E : EntsOk (widN t true) l) (hn : n ≤ 32768) (hkN : k0 ≤ N) (hk : N < k0 + nodN t n) (h : Sts entC w (.slice a l.length c) l) :
    Calls Tryz.prog 11 #[.pointer (some ⟨ba, 0, none⟩), .int .i64 t, .slice a n c] w (Ret (.tuple #[.int .i64 0, .iface 40 (.int .i64 14)]) w) := by
  subst hl; exact build_Tree_none B ba b g nn cc pa ca f N k0 bs t a c l w hA ht1 ht2 E hn hkN hk h
theorem treeB_root {t : Int} {l : List Ent} {q : Nat} {bs : List UInt8} (hq : 1 ≤ q) : (treeB t l q bs).1 = ((q + nodN t l.length - 1 : Nat) : Int) := by
  have hp := ovN_pos l.length (maxN t true)
  have hg := levs_ge (ovN l.length (maxN t true))
  unfold treeB
  rw [treeUp_root (by rw [upE_len]; exact hp) (by rw [upE_len, upE_get (by omega)]; simp only [upX]; congr 1; omega) (by omega), upE_len]
  unfold nodN levL
  congr 1; omega
theorem ovN_6 {n m : Nat} (hm : 6 ≤ m) (hn : n ≤ 511) : ovN n m ≤ 86 := by
  unfold ovN
  have : (n + m - 1) / m ≤ 86 := by
    rw [Nat.div_le_iff_le_mul_add_pred (by omega)]
    have : 6 * 86 ≤ m * 86 := Nat.mul_le_mul_right 86 hm
    omega
  omega
theorem nodN_511 {t : Int} {n : Nat} (hn : n ≤ 511) : nodN t n ≤ 200 := by
  have hm : 6 ≤ maxN t true := by unfold maxN; repeat' split
                                  all_goals first | decide | simp_all
  have h1 := ovN_6 (m := maxN t true) hm hn
  have h2 := levs_sum (ovN_pos n (maxN t true))
  unfold nodN levL; omega
theorem and511 (x : Int) : ∃ n : Nat, IntKind.i64.wrap (↑(BitVec.ofInt 64 x &&& BitVec.ofInt 64 (511 : Int)).toNat : Int) = (n : Int) ∧ n ≤ 511 := by
  refine ⟨(BitVec.ofInt 64 x &&& BitVec.ofInt 64 (511 : Int)).toNat, ?_, ?_⟩
  · have h : (BitVec.ofInt 64 x &&& BitVec.ofInt 64 (511 : Int)).toNat ≤ 511 := by rw [BitVec.toNat_and]; exact Nat.and_le_right
    exact i64_nat (by omega)
  · rw [BitVec.toNat_and]; exact Nat.and_le_right
theorem nodN_2_13 : nodN 2 13 = 3 := by
  unfold nodN levL
  rw [show ovN 13 (maxN 2 true) = 2 from rfl, levs_more (by decide), show ovN 2 18 = 1 from rfl, levs_one (by decide)]; rfl
set_option maxRecDepth 100000 in
set_option maxHeartbeats 4000000 in
theorem lives17 (w : World) :
    Calls Tryz.prog 7 #[] w (Ret (.bool true) w) := by
 refine zin 24 Tryz.func7 ?_
 have hs1 : w.heap.size ≤ (w).heap.size := (Below.refl w.heap.size _).size
 refine xc 7 (args := #[.int .i64 9, .int .i64 5]) (madeN 9 5 (9) (5) (by simp) rfl _ (by decide) (by decide) (by decide)) ?_
 rintro _ W1 ⟨_, rfl, hb1, ba, b, g, c, pa, ca, rfl, hC, hA⟩
 have hs1 := Nat.le_refl w.heap.size
 replace hC := hC.mono hs1
 replace hA := hA.mono hs1
 refine xc 16 (args := #[.int .i64 13, .int .i64 2]) (law17_some 2 13 (13) rfl _ (by decide) (by decide) (by omega)) ?_
 rintro _ W2 ⟨_, rfl, hb2, p1, c1, rfl, hr⟩
 have hA'1 := hA.below hb2
 have hr'1 := own_mono hr hb1.size
 have hB := Bl.next hb1 hb2
 refine xc 0 (args := #[.pointer (some ⟨ba, 0, none⟩), .int .i64 2, .slice p1 13 c1]) (build_TreeN w.heap.size ba b g _ c pa ca 5 _ 0 (List.replicate (256 * 9) (0 : UInt8)) 2 p1 c1 (someE (widN 2 true) 13) 13 _ (someE_len _ _) hC hA'1 (by decide) (by decide) (someE_ok (by omega)) (by omega) (by decide) (Nat.zero_le _) (by rw [nodN_2_13]; decide) (fun W _ h2 => by unfold Sts; rw [someE_len]; exact own_sl (own_only hr'1 h2 (by decide))) hB.size) ?_
 rintro _ W3 ⟨rfl, hb3, hO3, hX3, hA⟩
 refine xgk 12 [14, 15] (show (((treeB 2 (someE (widN 2 true) 13) (5 + 0) (List.replicate (256 * 9) (0 : UInt8))).1 == (7 : Int)) : Bool) = true from by rw [treeB_root (by decide), someE_len, nodN_2_13]; rfl) ?_
 refine xr 5 (args := #[.pointer (some ⟨ba, 0, none⟩)]) (alloc_Used ba b _ (0 + nodN 2 (someE (widN 2 true) 13).length) _ hA.blkA) fun W5 hb5 => ?_
 have hB'1 := Bl.next (hB.trans hb3) hb5
 exact xe 6 (.bool ((↑(0 + nodN 2 (someE (widN 2 true) 13).length) : Int) == (3 : Int))) ⟨by rw [someE_len, nodN_2_13]; rfl, hB'1⟩
end Go.Proofs.YtbopakjiahojdaaGreatDoor
namespace Go.Proofs.YtbopakjiahojdaaGreatDoor
open Go.RowKit Go.Extern.Stop Go.Stop Go.Extern
set_option linter.unusedVariables false
attribute [local irreducible] wpList wpAnyH Code.wp Oper.wp Go

set_option maxRecDepth 100000 in
set_option maxHeartbeats 1000000 in
theorem law17_few (a : Option Addr) (c : Nat) (l : List Ent) (w : World) (h : Sts entC w (.slice a l.length c) l) :
    Calls Tryz.prog 6 #[.slice a l.length c] w (fun e w' => ∃ b, e = .returned (.bool b) ∧ (b = true → l.length ≤ 500) ∧ Below w.heap.size w w') := by
 refine zin 30 Tryz.func6 ?_
 have hB := Below.refl w.heap.size w
 refine zl 17 30 (fun zm zkv V => ∃ (i : Nat) (n : Int), zkv = [(0, .slice a l.length c), (2, .bool false), (3, .int .i64 n), (4, .int .i64 (↑i : Int))] ∧ zm = 501 - ((↑i : Int)).toNat ∧ Below w.heap.size w V ∧ i ≤ 501) ⟨0, 0, rfl, rfl, hB, by decide⟩ ?_
 rintro _ _ W1 ⟨i, n, rfl, rfl, hB_1, hi⟩ J1 hJ1 r1
 refine xg 8 [8, 9] (decide ((↑i : Int) < (↑l.length : Int))) (fun hc2 => ?_) (fun hc2 => ?_)
 · have hc2 := of_decide_eq_true hc2
   refine xid 5 ((↑i : Int) < (501 : Int)) (fun hc3 => ?_) (fun hc3 => ?_)
   · refine xx 8 _ l.length i 3 (Sts.cell h entC_len entD (k := i) (i := 0) (by omega) rfl).1 ?_
     refine xl 1 ((Sts.cell (h.below hB_1) entC_len entD (k := i) (i := 1) (by omega) rfl).2) ?_
     refine xwm 8 ((↑i : Int) + 1) (↑(i + 1) : Int) ?_
     exact ze 2 (hJ1 _ _ _ ⟨i + 1, (IntKind.i64.wrap (n + (↑((l.getD i entD).2.1).length : Int))), rfl, rfl, hB_1, by omega⟩ (by omega))
   refine xg 11 [25, 26] (decide ((↑l.length : Int) ≤ (500 : Int))) (fun hc4 => ?_) (fun hc4 => ?_)
   · have hc4 := of_decide_eq_true hc4
     exact xe 7 (.bool (decide (n ≤ (13000 : Int)))) ⟨_, rfl, fun h9 => by first | omega | (cases h9), hB_1⟩
   have hc4 := of_decide_eq_false hc4
   exact xe 7 (.bool false) ⟨_, rfl, fun h9 => by first | omega | (cases h9), hB_1⟩
 have hc2 := of_decide_eq_false hc2
 refine xg 17 [25, 26] (decide ((↑l.length : Int) ≤ (500 : Int))) (fun hc5 => ?_) (fun hc5 => ?_)
 · have hc5 := of_decide_eq_true hc5
   exact xe 7 (.bool (decide (n ≤ (13000 : Int)))) ⟨_, rfl, fun h9 => by first | omega | (cases h9), hB_1⟩
 have hc5 := of_decide_eq_false hc5
 exact xe 7 (.bool false) ⟨_, rfl, fun h9 => by first | omega | (cases h9), hB_1⟩
set_option maxRecDepth 100000 in
set_option maxHeartbeats 1000000 in
theorem law17_made_bad (N : Nat) (f : Int) (w : World) (hN : N ≤ 14400) (hf : ¬ (1 ≤ f ∧ f ≤ (N : Int))) :
    Calls Tryz.prog 8 #[.int .i64 (↑N : Int), .int .i64 f] w (Ret (.pointer none) w) := by
 refine zin 17 Tryz.func8 ?_
 refine xwm 8 (256 * (↑N : Int)) (↑(256 * N) : Int) ?_
 refine xmk 0 fun _ _ _ _ zJ zQ zo zx zy zK => op_make (256 * N) (.int .u8 0) 1 1 ((List.replicate (256 * N) (0 : UInt8)).map bv) zo zx zy Tryz.underlying29 (by kernel_rfl) rfl (by omega) (by omega) (zerosB (256 * N)) fun b1 W1 n1 => ?_
 refine zK _ _ ?_
 have o1 := own_of_blk (size := 1) (n := (256 * N)) n1.blk (n1.ge (Below.refl w.heap.size _)) (by rw [List.length_map, List.length_replicate, Nat.mul_one]) (by unfold maxLen; omega)
 refine xc 0 (args := #[.slice (some ⟨b1, 0, none⟩) (256 * N) (256 * N)]) (image_OfN (some ⟨b1, 0, none⟩) (256 * N) (256 * N) (256 * N) (List.replicate (256 * N) (0 : UInt8)) _ List.length_replicate (by omega) (bys_of (own_sl o1) List.length_replicate) (by omega) (Nat.le_refl _)) ?_
 rintro _ W2 ⟨_, rfl, hb2, bi, pi, ci, rfl, gi, ki, hd⟩
 refine xr 1 (args := #[.pointer (some ⟨bi, 0, none⟩), .int .i64 f]) (alloc_New_bad bi pi (256 * N) ci f _ ki (by omega) (by omega)) fun W3 hb3 => ?_
 have hB := Bl.next (Bl.next n1.below hb2) hb3
 exact xe 14 (.pointer none) ⟨rfl, hB⟩
/-- law17.made, whatever the first block -/
def MadeP (N : Nat) (f : Int) (w : World) (e : Ending) (w' : World) : Prop :=
  (¬ (1 ≤ f ∧ f ≤ (N : Int)) ∧ e = .returned (.pointer none) ∧ Below w.heap.size w w') ∨
  ((1 ≤ f ∧ f ≤ (N : Int)) ∧ ∃ ba b g c pa ca, e = .returned (.pointer (some ⟨ba, 0, none⟩)) ∧ Below w.heap.size w w' ∧ AlC w.heap.size ba (256 * N) c ca f.toNat (N - f.toNat) ∧ Al w.heap.size ba b g (256 * N) c pa ca f.toNat (N - f.toNat) 0 (List.replicate (256 * N) (0 : UInt8)) w')
theorem law17_madeG (N : Nat) (f : Int) (w : World) (hN : N ≤ 14400) : Calls Tryz.prog 8 #[.int .i64 (N : Int), .int .i64 f] w (MadeP N f w) := by
  by_cases hf : 1 ≤ f ∧ f ≤ (N : Int)
  · refine (madeN N f.toNat (N : Int) f rfl (by omega) w hN (by omega) (by omega)).mono ?_
    rintro e W ⟨_, rfl, hb, ba, b, g, c, pa, ca, rfl, hC, hA⟩
    exact .inr ⟨hf, ba, b, g, c, pa, ca, rfl, hb, hC, hA⟩
  · refine (law17_made_bad N f w hN hf).mono ?_
    rintro e W ⟨rfl, hb⟩
    exact .inl ⟨hf, rfl, hb⟩
theorem and127 (x : Int) : ∃ n : Nat, IntKind.i64.wrap (↑(BitVec.ofInt 64 x &&& BitVec.ofInt 64 (127 : Int)).toNat : Int) = (n : Int) ∧ n ≤ 127 := by
  refine ⟨(BitVec.ofInt 64 x &&& BitVec.ofInt 64 (127 : Int)).toNat, ?_, ?_⟩
  · have h : (BitVec.ofInt 64 x &&& BitVec.ofInt 64 (127 : Int)).toNat ≤ 127 := by rw [BitVec.toNat_and]; exact Nat.and_le_right
    exact i64_nat (by omega)
  · rw [BitVec.toNat_and]; exact Nat.and_le_right
theorem ref17_TreeE (B bc bm : Nat) (pg : Option Addr) (N cg : Nat) (fa : Option Addr) (mf fc f k0 : Nat) (p : Option Addr) (K cI : Nat) (bs : List UInt8) (t : Int) (a : Option Addr) (c : Nat) (l : List Ent) (w : World) (hR : RAl B bc bm pg N cg fa mf fc k0 (rngJ f N) w) (hn : l.length ≤ 32768) (h : Sts entC w (.slice a l.length c) l) (he : treeE t l (N - k0) ≠ 0) :
    Calls Tryz.prog 13 #[.pointer (some ⟨bc, 0, none⟩), .int .i64 t, .slice a l.length c] w (Ret (.tuple #[.int .i64 0, .agg #[.slice none 0 0, .int .i64 (treeE t l (N - k0))]]) w) := by
  by_cases hr : 1 ≤ t ∧ t ≤ 5 ∧ rightB (widN t true) l = true
  · have e0 : treeE t l (N - k0) = if N - k0 < nodN t l.length then 14 else 0 := if_pos hr
    by_cases hs : N - k0 < nodN t l.length
    · rw [e0, if_pos hs]
      exact ref17_Tree_n B bc bm pg N cg fa mf fc f k0 p K cI bs t a c l w hR hn h hr hs
    · rw [e0, if_neg hs] at he
      exact absurd rfl he
  · have e1 : treeE t l (N - k0) = 1 := if_neg hr
    rw [e1]
    exact ref17_Tree_w B bc bm pg N cg fa mf fc f k0 p K cI bs t a c l w hR hn h hr
theorem ref17_TreeY (B bc bm : Nat) (pg : Option Addr) (N cg : Nat) (fa : Option Addr) (mf fc f k0 : Nat) (p : Option Addr) (K cI : Nat) (bs : List UInt8) (t : Int) (a : Option Addr) (c : Nat) (l : List Ent) (w : World) (hR : RAl B bc bm pg N cg fa mf fc k0 (rngJ f N) w) (hk : k0 ≤ N) (hn : l.length ≤ 32768) (he : treeE t l (N - k0) = 0) (hf : f + N ≤ K) (hJ : RefI B bm p K cI bs w) (hin : ∀ W, Below B w W → Only [48, 9] w W → Sts entC W (.slice a l.length c) l) (hBw : B ≤ w.heap.size) :
    Calls Tryz.prog 13 #[.pointer (some ⟨bc, 0, none⟩), .int .i64 t, .slice a l.length c] w (RTreeP B bc bm pg N cg f k0 p K cI bs t l w) := by
  by_cases hr : 1 ≤ t ∧ t ≤ 5 ∧ rightB (widN t true) l = true
  · have e0 : treeE t l (N - k0) = if N - k0 < nodN t l.length then 14 else 0 := if_pos hr
    by_cases hs : N - k0 < nodN t l.length
    · rw [e0, if_pos hs] at he; cases he
    · exact ref17_Tree_y B bc bm pg N cg fa mf fc f k0 p K cI bs t a c l w hR hn hr (by omega) hf hJ hin hBw
  · rw [show treeE t l (N - k0) = 1 from if_neg hr] at he; cases he
set_option maxRecDepth 100000 in
set_option maxHeartbeats 8000000 in
theorem buildMakes_law (n0 f t : Int) (a : Option Addr) (c : Nat) (l : List Ent) (w : World) (hg : ErrT w) (h : Sts entC w (.slice a l.length c) l) :
    Calls Tryz.prog 3 #[.int .i64 n0, .int .i64 f, .int .i64 t, .slice a l.length c] w (Ret (.bool true) w) := by
 obtain ⟨N, hN, hN7⟩ := and127 n0
 refine zin 103 Tryz.func3 ?_
 refine xc 9 (args := #[.slice a l.length c]) (law17_few a c l _ (h.below (Below.refl w.heap.size _))) ?_
 rintro _ W1 ⟨bf, rfl, hl5, hb1⟩
 refine xi 3 (!bf) (fun hc2 => ?_) (fun hc2 => ?_)
 · refine xr 2 (args := #[]) (lives17 _) fun W3 hb3 => ?_
   have hB := Bl.next hb1 hb3
   exact xe 5 (.bool true) ⟨rfl, hB⟩
 have hl5 := hl5 (by simpa using hc2)
 refine xq 5 (congrArg (Value.int .i64) (show (IntKind.i64.wrap (↑(BitVec.ofInt 64 n0 &&& BitVec.ofInt 64 (127 : Int)).toNat : Int) : Int) = (↑N : Int) from hN)) ?_
 have hw9 : w.heap.size ≤ (W1).heap.size := hb1.size
 refine xc 7 (args := #[.int .i64 (↑N : Int), .int .i64 f]) (law17_madeG N f _ (by omega)) ?_
 rintro e W4 hq4
 rcases hq4 with ⟨hf, rfl, hb4⟩ | ⟨hf, ba, b, g, c5, pa, ca, rfl, hb4, hC, hA⟩
 · refine xwm 6 (256 * (↑N : Int)) (↑(256 * N) : Int) ?_
   refine xmk 0 fun _ _ _ _ zJ zQ zo zx zy zK => op_make (256 * N) (.int .u8 0) 1 1 ((List.replicate (256 * N) (0 : UInt8)).map bv) zo zx zy Tryz.underlying29 (by kernel_rfl) rfl (by omega) (by omega) (zerosB (256 * N)) fun b5 W5 n5 => ?_
   refine zK _ _ ?_
   have hB'1 := Bl.next (Bl.next hb1 hb4) n5.below
   have hw7 : w.heap.size ≤ (W5).heap.size := hB'1.size
   have o5 := own_of_blk (size := 1) (n := (256 * N)) n5.blk (n5.ge (Bl.next hb1 hb4)) (by rw [List.length_map, List.length_replicate, Nat.mul_one]) (by unfold maxLen; omega)
   refine xc 0 (args := #[.slice (some ⟨b5, 0, none⟩) (256 * N) (256 * N)]) (ref_OfN (some ⟨b5, 0, none⟩) (256 * N) (256 * N) N (List.replicate (256 * N) (0 : UInt8)) _ List.length_replicate (by omega) (bys_of (own_sl o5) List.length_replicate) (by omega)) ?_
   rintro _ W6 ⟨_, rfl, hb6, bj, pj, cj, rfl, _, hJ⟩
   replace hJ := hJ.mono hw7
   rw [List.take_of_length_le (by rw [List.length_replicate]; omega)] at hJ
   refine xr 7 (args := #[.pointer (some ⟨bj, 0, none⟩), .int .i64 f]) (ref_New_badN bj pj N cj (List.replicate (256 * N) (0 : UInt8)) w.heap.size f _ hJ hf) fun W7 hb7 => ?_
   refine xa 3 [.slice none 0 0, .int .i64 0] 33 fun b8 W8 n8 => ?_
   refine xsv 1 n8.blk [.slice none 0 0, .int .i64 1] fun W9 u9 k9 => ?_
   have g8 := n8.ge (Bl.next (Bl.next hB'1 hb6) hb7)
   refine xr 28 (args := #[.pointer none, .int .i64 t, .slice a l.length c]) (build_Tree_nil t _ _) fun W10 hb10 => ?_
   have hB'2 := Bl.next (u9.below (Bl.next (Bl.next (Bl.next hB'1 hb6) hb7) n8.below) g8) hb10
   refine xr 10 (args := #[.iface 40 (.int .i64 18)]) (fault_Code (some 18) [] _ _ (hg.below hB'2) rfl) fun W11 hb11 => ?_
   refine xr 2 (args := #[]) (lives17 _) fun W12 hb12 => ?_
   have hB'3 := Bl.next (Bl.next hB'2 hb11) hb12
   exact xe 6 (.bool true) ⟨rfl, hB'3⟩
 replace hC := hC.mono hw9
 replace hA := hA.mono hw9
 refine xwm 6 (256 * (↑N : Int)) (↑(256 * N) : Int) ?_
 refine xmk 0 fun _ _ _ _ zJ zQ zo zx zy zK => op_make (256 * N) (.int .u8 0) 1 1 ((List.replicate (256 * N) (0 : UInt8)).map bv) zo zx zy Tryz.underlying29 (by kernel_rfl) rfl (by omega) (by omega) (zerosB (256 * N)) fun b13 W13 n13 => ?_
 refine zK _ _ ?_
 have hB'4 := Bl.next (Bl.next hb1 hb4) n13.below
 have hw7 : w.heap.size ≤ (W13).heap.size := hB'4.size
 have o13 := own_of_blk (size := 1) (n := (256 * N)) n13.blk (n13.ge (Bl.next hb1 hb4)) (by rw [List.length_map, List.length_replicate, Nat.mul_one]) (by unfold maxLen; omega)
 refine xc 0 (args := #[.slice (some ⟨b13, 0, none⟩) (256 * N) (256 * N)]) (ref_OfN (some ⟨b13, 0, none⟩) (256 * N) (256 * N) N (List.replicate (256 * N) (0 : UInt8)) _ List.length_replicate (by omega) (bys_of (own_sl o13) List.length_replicate) (by omega)) ?_
 rintro _ W14 ⟨_, rfl, hb14, bj, pj, cj, rfl, _, hJ⟩
 replace hJ := hJ.mono hw7
 rw [List.take_of_length_le (by rw [List.length_replicate]; omega)] at hJ
 have hB'5 := Bl.next hB'4 hb14
 have hw6 : w.heap.size ≤ (W14).heap.size := hB'5.size
 refine xc 7 (args := #[.pointer (some ⟨bj, 0, none⟩), .int .i64 f]) (ref_NewN bj pj N cj (List.replicate (256 * N) (0 : UInt8)) w.heap.size f _ hJ hf) ?_
 rintro _ W15 ⟨bc, pg, cg, rfl, hb15, hR⟩
 replace hR := hR.mono hw6
 refine xa 3 [.slice none 0 0, .int .i64 0] 33 fun b16 W16 n16 => ?_
 refine xsv 1 n16.blk [.slice none 0 0, .int .i64 0] fun W17 u17 k17 => ?_
 have g16 := n16.ge (Bl.next hB'5 hb15)
 have hA'1 := ((((hA.below n13.below).below hb14).below hb15).below n16.below).only (Only.of_upd (T := [33]) u17 n16.blk (by decide)) (by decide)
 have hB'6 := u17.below (Bl.next (Bl.next hB'5 hb15) n16.below) g16
 refine xc 30 (args := #[.pointer (some ⟨ba, 0, none⟩), .int .i64 t, .slice a l.length c]) (build_TreeG w.heap.size ba b g (256 * N) c5 pa ca f.toNat (N - f.toNat) 0 (List.replicate (256 * N) (0 : UInt8)) t a c l _ hC hA'1 (by omega) (by omega) (Nat.zero_le _) (fun W hb _ => h.below (hB'6.trans hb)) hB'6.size) ?_
 rintro e W18 hq18
 rcases hq18 with ⟨he, rfl, hb18⟩ | ⟨he, rfl, hb18, hO18, hX18, hA⟩
 · have hR'1 := ((hR.below n16.below).only (Only.of_upd (T := [33]) u17 n16.blk (by decide)) (by decide)).below hb18
   have hB'7 := Bl.next hB'6 hb18
   refine xr 12 (args := #[.pointer (some ⟨bc, 0, none⟩), .int .i64 t, .slice a l.length c]) (ref17_TreeE w.heap.size bc bj pg (N - f.toNat) cg pg (N - f.toNat) cg f.toNat 0 pj N cj (List.replicate (256 * N) (0 : UInt8)) t a c l _ hR'1 (by omega) (h.below hB'7) he) fun W19 hb19 => ?_
   refine xa 3 [.slice none 0 0, .int .i64 0] 33 fun b20 W20 n20 => ?_
   have k17'1 := (k17.below hb18).below hb19
   have d20_b16 := n20.ne k17'1
   refine xsv 1 n20.blk [.slice none 0 0, .int .i64 (treeE t l (N - f.toNat - 0))] fun W21 u21 k21 => ?_
   have g20 := n20.ge (Bl.next hB'7 hb19)
   refine xd 3 .z ?_
   have k21'1 := k21.below (below_drew W21)
   refine xlv (.e [0, 1, 2, 3, 4] 6) k21'1.rp ?_
   have hB'8 := Bl.next (u21.below (Bl.next (Bl.next hB'7 hb19) n20.below) g20) (below_drew W21)
   refine yc (.o [] 5) (args := #[.iface 40 (.int .i64 (treeE t l (N - f.toNat - 0)))]) .z (told_z (treeE t l (N - f.toNat - 0)) _ _ (hg.below hB'8) (by rw [erT, if_neg he]; exact rfl)) ?_
   rintro _ W22 ⟨vt22, rfl, hb22, hq⟩
   refine ⟨hb22, ?_⟩
   refine xr (.o [] 7) (args := #[vt22, .agg #[.slice none 0 0, .int .i64 (treeE t l (N - f.toNat - 0))]]) (ref05_Same [] (treeE t l (N - f.toNat - 0)) vt22 _ _ hq ⟨_, rfl, ints_nil0 _⟩) fun W23 hb23 => ?_
   have hR'2 := (((((hR'1.below hb19).below n20.below).only (Only.of_upd (T := [33]) u21 n20.blk (by decide)) (by decide)).below (below_drew W21)).below hb22).below hb23
   refine xl (.e [8, 9, 10, 12, 13, 14] 15) (hR'2.blk.cell (i := 2) rfl) ?_
   have hA'2 := ((((((hA'1.below hb18).below hb19).below n20.below).only (Only.of_upd (T := [33]) u21 n20.blk (by decide)) (by decide)).below (below_drew W21)).below hb22).below hb23
   refine xr (.o [] 11) (args := #[.pointer (some ⟨ba, 0, none⟩)]) (alloc_Used ba b _ 0 _ hA'2.blkA) fun W24 hb24 => ?_
   refine xgk (.b [16, 17, 18]) [88, 89, 90] (show (((↑(0 : Nat) : Int) == (↑(0 : Nat) : Int)) : Bool) = true from by simp) ?_
   have hA'3 := hA'2.below hb24
   refine xr (.o [19, 23] 20) (args := #[.pointer (some ⟨ba, 0, none⟩)]) (alloc_Image ba b _ _ _ hA'3.blkA) fun W26 hb26 => ?_
   have hA'4 := hA'3.below hb26
   have hlb : (List.replicate (256 * N) (0 : UInt8)).length = 256 * N := by have h9 := hA'4.data.1; rw [List.length_map] at h9; omega
   refine yc (.o [] 21) (args := #[.pointer (some ⟨b, 0, none⟩)]) .z (image_Bytes b _ (256 * N) c5 (List.replicate (256 * N) (0 : UInt8)) _ hA'4.blkI (bys_of (own_sl hA'4.data) hlb) hlb (by omega)) ?_
   rintro _ W27 ⟨_, rfl, hb27, z1_⟩
   have hs27 := (Bl.next (Bl.next (Bl.next (Bl.next hB'8 hb22) hb23) hb24) hb26).size
   refine ⟨hb27, ?_⟩
   have z1_'1 := own_mono z1_ hs27
   unfold OwnB at z1_'1
   rw [hlb] at z1_'1
   obtain ⟨q1_, d1_, rfl⟩ := (own_sl z1_'1).slice
   refine xcv (.e [] 22) (fun _ _ _ zo zx V hV => run_bstr zo zx (bys_of (own_sl (own_below z1_'1 hV)) hlb) hlb Tryz.underlying29 Tryz.underlying5 Tryz.underlying9) ?_
   have hJ'1 := ((((((((((((hJ.below hb15).below n16.below).only (Only.of_upd (T := [33]) u17 n16.blk (by decide)) (by decide)).below hb18).below hb19).below n20.below).only (Only.of_upd (T := [33]) u21 n20.blk (by decide)) (by decide)).below (below_drew W21)).below hb22).below hb23).below hb24).below hb26).below hb27
   refine yc (.o [] 24) (args := #[.pointer (some ⟨bj, 0, none⟩)]) .z (ref_ImgBytes w.heap.size bj pj N cj (List.replicate (256 * N) (0 : UInt8)) _ hJ'1) ?_
   rintro _ W28 ⟨_, rfl, hb28, q2_, d2_, rfl, z2_⟩
   have hs28 := (Bl.next (Bl.next (Bl.next (Bl.next (Bl.next hB'8 hb22) hb23) hb24) hb26) hb27).size
   refine ⟨hb28, ?_⟩
   have z2_'1 := own_mono z2_ hs28
   have hJ'2 := hJ'1.below hb28
   refine xcv (.e [] 25) (fun _ _ _ zo zx V hV => run_bstr zo zx (bys_of (own_sl (own_below z2_'1 hV)) hJ'2.hl) hJ'2.hl Tryz.underlying29 Tryz.underlying5 Tryz.underlying9) ?_
   refine xgk (.b [26, 27, 28]) [98, 99, 100] (show (((⟨(List.replicate (256 * N) (0 : UInt8)).toArray⟩ : ByteArray).toList == (⟨(List.replicate (256 * N) (0 : UInt8)).toArray⟩ : ByteArray).toList) : Bool) = true from by simp) ?_
   refine xr (.o [] 29) (args := #[]) (lives17 _) fun W30 hb30 => ?_
   have hB'9 := Bl.next (Bl.next (Bl.next (Bl.next (Bl.next (Bl.next (Bl.next hB'8 hb22) hb23) hb24) hb26) hb27) hb28) hb30
   exact xe (.r [30, 31] 3) (.bool true) ⟨rfl, hB'9⟩
 have hR'3 := ((hR.below n16.below).only (Only.of_upd (T := [33]) u17 n16.blk (by decide)) (by decide)).only hO18 (by decide)
 have hJ'3 := (((hJ.below hb15).below n16.below).only (Only.of_upd (T := [33]) u17 n16.blk (by decide)) (by decide)).only hO18 (by decide)
 have hB'10 := hB'6.trans hb18
 refine xc 12 (args := #[.pointer (some ⟨bc, 0, none⟩), .int .i64 t, .slice a l.length c]) (ref17_TreeY w.heap.size bc bj pg (N - f.toNat) cg pg (N - f.toNat) cg f.toNat 0 pj N cj (List.replicate (256 * N) (0 : UInt8)) t a c l _ hR'3 (Nat.zero_le _) (by omega) he (by omega) hJ'3 (fun W hb _ => h.below (hB'10.trans hb)) hB'10.size) ?_
 rintro _ W31 ⟨fa, mf, fc, rfl, hb31, hO31, hR, hJ⟩
 refine xa 3 [.slice none 0 0, .int .i64 0] 33 fun b32 W32 n32 => ?_
 have k17'2 := (k17.only hO18 (by decide)).only hO31 (by decide)
 have d32_b16 := n32.ne k17'2
 refine xsv 1 n32.blk [.slice none 0 0, .int .i64 0] fun W33 u33 k33 => ?_
 have g32 := n32.ge (hB'10.trans hb31)
 refine xd 3 .z ?_
 refine xgk (.b [0, 1, 2, 3]) [74, 75] (show (((treeB t l (f.toNat + 0) (List.replicate (256 * N) (0 : UInt8))).1 == (treeB t l (f.toNat + 0) (List.replicate (256 * N) (0 : UInt8))).1) : Bool) = true from by simp) ?_
 have k33'1 := k33.below (below_drew W33)
 refine xlv (.e [4] 6) k33'1.rp ?_
 have hB'11 := Bl.next (u33.below (Bl.next (hB'10.trans hb31) n32.below) g32) (below_drew W33)
 refine yc (.o [] 5) (args := #[.nilIface]) .z (told_z 0 .nilIface _ (hg.below hB'11) rfl) ?_
 rintro _ W35 ⟨vt35, rfl, hb35, hq⟩
 refine ⟨hb35, ?_⟩
 refine xr (.o [] 7) (args := #[vt35, .agg #[.slice none 0 0, .int .i64 0]]) (ref05_Same [] 0 vt35 _ _ hq ⟨_, rfl, ints_nil0 _⟩) fun W36 hb36 => ?_
 have hR'4 := ((((hR.below n32.below).only (Only.of_upd (T := [33]) u33 n32.blk (by decide)) (by decide)).below (below_drew W33)).below hb35).below hb36
 refine xl (.e [8, 9, 10, 12, 13, 14] 15) (hR'4.blk.cell (i := 2) rfl) ?_
 have hA'5 := (((((hA.only hO31 (by decide)).below n32.below).only (Only.of_upd (T := [33]) u33 n32.blk (by decide)) (by decide)).below (below_drew W33)).below hb35).below hb36
 refine xr (.o [] 11) (args := #[.pointer (some ⟨ba, 0, none⟩)]) (alloc_Used ba b _ (0 + nodN t l.length) _ hA'5.blkA) fun W37 hb37 => ?_
 refine xgk (.b [16, 17, 18]) [88, 89, 90] (show (((↑(0 + nodN t l.length) : Int) == (↑(0 + nodN t l.length) : Int)) : Bool) = true from by simp) ?_
 have hA'6 := hA'5.below hb37
 refine xr (.o [19, 23] 20) (args := #[.pointer (some ⟨ba, 0, none⟩)]) (alloc_Image ba b _ _ _ hA'6.blkA) fun W39 hb39 => ?_
 have hA'7 := hA'6.below hb39
 have hlb : (treeB t l (f.toNat + 0) (List.replicate (256 * N) (0 : UInt8))).2.length = 256 * N := by have h9 := hA'7.data.1; rw [List.length_map] at h9; omega
 refine yc (.o [] 21) (args := #[.pointer (some ⟨b, 0, none⟩)]) .z (image_Bytes b _ (256 * N) c5 (treeB t l (f.toNat + 0) (List.replicate (256 * N) (0 : UInt8))).2 _ hA'7.blkI (bys_of (own_sl hA'7.data) hlb) hlb (by omega)) ?_
 rintro _ W40 ⟨_, rfl, hb40, z1_⟩
 have hs40 := (Bl.next (Bl.next (Bl.next (Bl.next hB'11 hb35) hb36) hb37) hb39).size
 refine ⟨hb40, ?_⟩
 have z1_'2 := own_mono z1_ hs40
 unfold OwnB at z1_'2
 rw [hlb] at z1_'2
 obtain ⟨q1_, d1_, rfl⟩ := (own_sl z1_'2).slice
 refine xcv (.e [] 22) (fun _ _ _ zo zx V hV => run_bstr zo zx (bys_of (own_sl (own_below z1_'2 hV)) hlb) hlb Tryz.underlying29 Tryz.underlying5 Tryz.underlying9) ?_
 have hJ'4 := (((((((hJ.below n32.below).only (Only.of_upd (T := [33]) u33 n32.blk (by decide)) (by decide)).below (below_drew W33)).below hb35).below hb36).below hb37).below hb39).below hb40
 refine yc (.o [] 24) (args := #[.pointer (some ⟨bj, 0, none⟩)]) .z (ref_ImgBytes w.heap.size bj pj N cj (treeB t l (f.toNat + 0) (List.replicate (256 * N) (0 : UInt8))).2 _ hJ'4) ?_
 rintro _ W41 ⟨_, rfl, hb41, q2_, d2_, rfl, z2_⟩
 have hs41 := (Bl.next (Bl.next (Bl.next (Bl.next (Bl.next hB'11 hb35) hb36) hb37) hb39) hb40).size
 refine ⟨hb41, ?_⟩
 have z2_'2 := own_mono z2_ hs41
 have hJ'5 := hJ'4.below hb41
 refine xcv (.e [] 25) (fun _ _ _ zo zx V hV => run_bstr zo zx (bys_of (own_sl (own_below z2_'2 hV)) hJ'5.hl) hJ'5.hl Tryz.underlying29 Tryz.underlying5 Tryz.underlying9) ?_
 refine xgk (.b [26, 27, 28]) [98, 99, 100] (show (((⟨((treeB t l (f.toNat + 0) (List.replicate (256 * N) (0 : UInt8))).2).toArray⟩ : ByteArray).toList == (⟨((treeB t l (f.toNat + 0) (List.replicate (256 * N) (0 : UInt8))).2).toArray⟩ : ByteArray).toList) : Bool) = true from by simp) ?_
 refine xr (.o [] 29) (args := #[]) (lives17 _) fun W43 hb43 => ?_
 have hB'12 := Bl.next (Bl.next (Bl.next (Bl.next (Bl.next (Bl.next (Bl.next hB'11 hb35) hb36) hb37) hb39) hb40) hb41) hb43
 exact xe (.r [30, 31] 3) (.bool true) ⟨rfl, hB'12⟩
end Go.Proofs.YtbopakjiahojdaaGreatDoor
namespace Go.Proofs.YtbopakjiahojdaaGreatDoor
open Go.ChangeShapes Go.WideShapes Go.ChangeAt Go.RowKit Go.Joins
set_option linter.unusedVariables false
theorem bytes_open {H : Type} {enc : TypeId × Value → H} {P : Program} {W : World} {r : Reach} {b0 : Nat} {t e : TypeId} {v : Value} {d : DataW H} {p : List MemPlace} (ht : P.underlying t = some (.slice e)) (he : P.underlying e = some (.int .u8)) (hC : P.cellsOf e = 1)
    (hv : Value.okWide P W r b0 t v) (h : DataW.Trod enc P W 0 (fun _ => true) true t v d p) : ∃ l, Bys W v l := by
  obtain ⟨a, len, cap, rfl⟩ := okWide_slice ht hv
  obtain ⟨fuel, hf⟩ := h
  rcases open_ints ht he hC hf with ⟨hcs, _⟩ | ⟨x, l, c, zs, hcs, _, hl, hm, hz, _, hcell, hwz⟩
  · simp [Value.cells] at hcs
    obtain ⟨rfl, rfl, rfl⟩ := hcs
    exact ⟨[], .inl ⟨_, _, rfl, rfl, rfl⟩⟩
  · simp [Value.cells] at hcs
    obtain ⟨rfl, rfl, rfl⟩ := hcs
    have hz' : zs.length = cap := by simpa using hz
    by_cases h0 : len = 0
    · subst h0
      exact ⟨[], .inl ⟨_, _, rfl, rfl, rfl⟩⟩
    · obtain ⟨b, off, spot⟩ := x
      have hc := hcell 0 (by omega)
      have hspot : spot = none := by simpa [Addr.add] using World.cell?_spot hc
      subst hspot
      have hlen : ((zs.take len).map fun n => UInt8.ofNat n.toNat).length = len := by simp; omega
      refine ⟨(zs.take len).map fun n => UInt8.ofNat n.toNat, .inr ⟨b, off, cap, by rw [hlen], by omega, hm, fun j x hj => ?_⟩⟩
      have hjl : j < len := by have := (List.getElem?_eq_some_iff.1 hj).1; simp at this; omega
      have e1 : zs[j]? = some zs[j] := List.getElem?_eq_getElem (by omega)
      have hw := hwz zs[j] (List.getElem_mem _)
      have hcj := hcell j (by omega)
      have e2 : zs.getD j 0 = zs[j] := by simp [List.getD, e1]
      rw [e2] at hcj
      have hx : x = .int .u8 zs[j] := by
        rw [List.getElem?_map, List.getElem?_map, List.getElem?_take_of_lt hjl, e1] at hj
        simp only [Option.map_some, Option.some.injEq] at hj
        rw [← hj]
        have hb : 0 ≤ zs[j] ∧ zs[j] ≤ 255 := by simpa [Lit.wf, IntKind.min, IntKind.max, IntKind.signed, IntKind.bits] using hw
        have h3 : (zs[j].toNat % 256 : Nat) = zs[j].toNat := Nat.mod_eq_of_lt (by omega)
        simp only [bv, UInt8.toNat_ofNat']
        rw [show (2 ^ 8 : Nat) = 256 from rfl, h3, Int.toNat_of_nonneg hb.1]
      subst hx
      by_cases hj0 : j = 0
      · subst hj0; simpa [Addr.add] using hcj
      · simpa [Addr.add, hj0] using hcj
end Go.Proofs.YtbopakjiahojdaaGreatDoor
namespace Go.Proofs.YtbopakjiahojdaaGreatDoor
open Go.ChangeShapes Go.WideShapes Go.ChangeAt Go.RowKit Go.Joins Go.Deep
set_option linter.unusedVariables false

theorem bytes_trod {H : Type} {enc : TypeId × Value → H} {P : Program} {W : World} {t e : TypeId} {v : Value} {y : DataW H × List MemPlace} {fuel : Nat} (ht : P.underlying t = some (.slice e)) (he : P.underlying e = some (.int .u8)) (hC : P.cellsOf e = 1)
    (hf : DataW.trod enc P W 0 (fun _ => true) true fuel t [v] = some y) : ∃ l, Bys W v l := by
  rcases open_ints ht he hC hf with ⟨hcs, _⟩ | ⟨x, len, cap, zs, hcs, _, hl, hm, hz, _, hcell, hwz⟩
  · simp at hcs
    subst hcs
    exact ⟨[], .inl ⟨_, _, rfl, rfl, rfl⟩⟩
  · simp at hcs
    subst hcs
    have hz' : zs.length = cap := by simpa using hz
    by_cases h0 : len = 0
    · subst h0
      exact ⟨[], .inl ⟨_, _, rfl, rfl, rfl⟩⟩
    · obtain ⟨b, off, spot⟩ := x
      have hc := hcell 0 (by omega)
      have hspot : spot = none := by simpa [Addr.add] using World.cell?_spot hc
      subst hspot
      have hlen : ((zs.take len).map fun n => UInt8.ofNat n.toNat).length = len := by simp; omega
      refine ⟨(zs.take len).map fun n => UInt8.ofNat n.toNat, .inr ⟨b, off, cap, by rw [hlen], by omega, hm, fun j x hj => ?_⟩⟩
      have hjl : j < len := by have := (List.getElem?_eq_some_iff.1 hj).1; simp at this; omega
      have e1 : zs[j]? = some zs[j] := List.getElem?_eq_getElem (by omega)
      have hw := hwz zs[j] (List.getElem_mem _)
      have hcj := hcell j (by omega)
      have e2 : zs.getD j 0 = zs[j] := by simp [List.getD, e1]
      rw [e2] at hcj
      have hx : x = .int .u8 zs[j] := by
        rw [List.getElem?_map, List.getElem?_map, List.getElem?_take_of_lt hjl, e1] at hj
        simp only [Option.map_some, Option.some.injEq] at hj
        rw [← hj]
        have hb : 0 ≤ zs[j] ∧ zs[j] ≤ 255 := by simpa [Lit.wf, IntKind.min, IntKind.max, IntKind.signed, IntKind.bits] using hw
        have h3 : (zs[j].toNat % 256 : Nat) = zs[j].toNat := Nat.mod_eq_of_lt (by omega)
        simp only [bv, UInt8.toNat_ofNat']
        rw [show (2 ^ 8 : Nat) = 256 from rfl, h3, Int.toNat_of_nonneg hb.1]
      subst hx
      by_cases hj0 : j = 0
      · subst hj0; simpa [Addr.add] using hcj
      · simpa [Addr.add, hj0] using hcj
theorem ints_nilcap {H : Type} {enc : TypeId × Value → H} {P : Program} {W : World} {r : Reach} {b0 : Nat} {t e : TypeId} {v : Value} {d : DataW H} {p : List MemPlace} (ht : P.underlying t = some (.slice e)) (he : P.underlying e = some (.int .i64)) (hC : P.cellsOf e = 1)
    (hv : Value.okWide P W r b0 t v) (h : DataW.Trod enc P W 0 (fun _ => true) true t v d p) : ∀ n c, v = .slice none n c → c = 0 := by
  obtain ⟨a, len, cap, rfl⟩ := okWide_slice ht hv
  obtain ⟨fuel, hf⟩ := h
  rcases open_ints ht he hC hf with ⟨hcs, _⟩ | ⟨x, l, c, zs, hcs, _, hl, hm, hz, _, hcell, hwz⟩
  · simp [Value.cells] at hcs
    obtain ⟨rfl, rfl, rfl⟩ := hcs
    intro n c e
    cases e; rfl
  · simp [Value.cells] at hcs
    obtain ⟨rfl, rfl, rfl⟩ := hcs
    intro n c e
    cases e
/-- a step: Next, or Lay of bytes as a kind -/
def Steps (w : World) (v : Value) (L : List (Bool × Int × List UInt8)) : Prop :=
  ∃ a c, v = .slice a L.length c ∧ L.length ≤ c ∧ c ≤ maxLen ∧ ∀ i (h : i < L.length), ∃ b off s, a = some ⟨b, off, none⟩ ∧ w.cell? ⟨b, off + i * 3, none⟩ = some (.bool L[i].1) ∧ w.cell? ⟨b, off + i * 3 + 1, none⟩ = some (.int .i64 L[i].2.1) ∧ w.cell? ⟨b, off + i * 3 + 2, none⟩ = some s ∧ Bys w s L[i].2.2
theorem steps_open {H : Type} {enc : TypeId × Value → H} {P : Program} {W : World} {r : Reach} {b0 : Nat} {t e u : TypeId} {f0 f1 f2 : Field} {v : Value} {d : DataW H} {p : List MemPlace} (ht : P.underlying t = some (.slice e)) (he : P.underlying e = some (.struct #[f0, f1, f2]))
    (hone : oneCellFields P #[f0, f1, f2] = true) (hC : P.cellsOf e = 3) (h0 : P.underlying f0.type = some .bool) (h1 : P.underlying f1.type = some (.int .i64)) (h2 : P.underlying f2.type = some (.slice u)) (hu : P.underlying u = some (.int .u8)) (hCu : P.cellsOf u = 1)
    (hv : Value.okWide P W r b0 t v) (h : DataW.Trod enc P W 0 (fun _ => true) true t v d p) : ∃ L, Steps W v L := by
  obtain ⟨a, len, cap, rfl⟩ := okWide_slice ht hv
  obtain ⟨fuel, hf⟩ := h
  rcases open_slice ht hf with ⟨hcs, _⟩ | ⟨x, l, c, m, n, D, Pl, hcs, _, hl, hm, hmm, _, hi⟩
  · simp [Value.cells] at hcs
    obtain ⟨rfl, rfl, rfl⟩ := hcs
    exact ⟨[], _, _, rfl, by simp, by unfold maxLen; omega, fun i hi => absurd hi (by simp)⟩
  · simp [Value.cells] at hcs
    obtain ⟨rfl, rfl, rfl⟩ := hcs
    obtain ⟨b, off, spot⟩ := x
    have hml : len ≤ m := by rw [hmm]; simp; omega
    by_cases hlen : len = 0
    · subst hlen
      exact ⟨[], _, _, rfl, by simp, hm, fun i hi => absurd hi (by simp)⟩
    have hspot : spot = none := by
      obtain ⟨cs, hc, htr⟩ := hi 0 (by omega)
      rw [hC] at hc
      obtain ⟨_, hcl, hat⟩ := World.cells?_some hc
      have a0 := hat 0 (by omega)
      rw [List.getElem?_eq_getElem (by omega)] at a0
      simpa [Addr.add] using World.cell?_spot a0
    subst hspot
    have eA : ∀ o n, (⟨b, o, none⟩ : Addr).add n = ⟨b, o + n, none⟩ := by intro o n; unfold Addr.add; split <;> simp_all
    have each : ∀ i : Fin len, ∃ q : Bool × Int × List UInt8, ∃ s, W.cell? ⟨b, off + i.val * 3, none⟩ = some (.bool q.1) ∧ W.cell? ⟨b, off + i.val * 3 + 1, none⟩ = some (.int .i64 q.2.1) ∧ W.cell? ⟨b, off + i.val * 3 + 2, none⟩ = some s ∧ Bys W s q.2.2 := by
      intro i
      obtain ⟨cs, hc, htr⟩ := hi i.val (by have := i.2; omega)
      rw [hC] at hc
      obtain ⟨_, hcl, hat⟩ := World.cells?_some hc
      obtain ⟨y0, y1, y2, n', _, _, t0, t1, t2⟩ := trod_struct3 he htr
      obtain ⟨o0, k0⟩ := hone_of hone 0 f0 rfl
      obtain ⟨o1, k1⟩ := hone_of hone 1 f1 rfl
      obtain ⟨o2, k2⟩ := hone_of hone 2 f2 rfl
      match cs, hcl with
      | [c0, c1, c2], _ =>
        have a0 := hat 0 (by omega)
        have a1 := hat 1 (by omega)
        have a2 := hat 2 (by omega)
        rw [o0, k0] at t0
        rw [o1, k1] at t1
        rw [o2, k2] at t2
        obtain ⟨bq, hbq, _⟩ := DataW.trod_bool (cs := [c0]) h0 (by simpa using t0)
        obtain ⟨z, hz, _, _⟩ := DataW.trod_int (cs := [c1]) h1 (by simpa using t1)
        obtain ⟨q2, hq2⟩ := bytes_trod (v := c2) h2 hu hCu (by simpa using t2)
        simp only [List.cons.injEq, and_true] at hbq hz
        subst hbq hz
        refine ⟨(bq, z, q2), c2, ?_, ?_, ?_, hq2⟩
        · rw [eA, eA] at a0; exact a0
        · rw [eA, eA] at a1; exact a1
        · rw [eA, eA] at a2; exact a2
    refine ⟨List.ofFn fun i => Classical.choose (each i), _, _, by rw [List.length_ofFn], by rw [List.length_ofFn]; exact hl, hm, fun i hi' => ?_⟩
    have hi2 : i < len := by simpa using hi'
    obtain ⟨s, k1, k2, k3, k4⟩ := Classical.choose_spec (each ⟨i, hi2⟩)
    refine ⟨b, off, s, rfl, ?_, ?_, k3, ?_⟩
    · rw [List.getElem_ofFn]; exact k1
    · rw [List.getElem_ofFn]; exact k2
    · rw [List.getElem_ofFn]; exact k4
/-- a step with the slice that holds its bytes -/
abbrev StT := Bool × Int × Option Addr × Nat × List UInt8
def stC (x : StT) : List Value := [.bool x.1, .int .i64 x.2.1, .slice x.2.2.1 x.2.2.2.2.length x.2.2.2.1]
def stD : StT := (false, 0, none, 0, [])
theorem stC_len (x : StT) : (stC x).length = 3 := rfl
theorem flat3 {α : Type} {f : α → List Value} (hf : ∀ x, (f x).length = 3) : ∀ (T : List α) (j : Nat) (x : Value), (T.flatMap f)[j]? = some x → ∃ i, ∃ h : i < T.length, ∃ r, r < 3 ∧ j = i * 3 + r ∧ (f T[i])[r]? = some x
  | [], j, x, h => by simp at h
  | y :: T, j, x, h => by
    rw [List.flatMap_cons, List.getElem?_append] at h
    by_cases hj : j < 3
    · rw [if_pos (by rw [hf]; exact hj)] at h
      exact ⟨0, by simp, j, hj, by omega, by simpa using h⟩
    · rw [if_neg (by rw [hf]; exact hj), hf] at h
      obtain ⟨i, hi, r, hr, e, hx⟩ := flat3 hf T (j - 3) x h
      exact ⟨i + 1, by simpa using hi, r, hr, by omega, by simpa using hx⟩
theorem flat3_len {α : Type} {f : α → List Value} (hf : ∀ x, (f x).length = 3) (T : List α) : (T.flatMap f).length = T.length * 3 := by
  induction T with
  | nil => rfl
  | cons y T ih => rw [List.flatMap_cons, List.length_append, hf, ih, List.length_cons]; omega
theorem steps_sts {w : World} {v : Value} {L : List (Bool × Int × List UInt8)} (h : Steps w v L) : ∃ T : List StT, ∃ a c, v = .slice a T.length c ∧ Sl w v T.length (T.flatMap stC) ∧ ∀ i, i < T.length → Bys w (.slice (T.getD i stD).2.2.1 (T.getD i stD).2.2.2.2.length (T.getD i stD).2.2.2.1) (T.getD i stD).2.2.2.2 := by
  obtain ⟨a, c, rfl, h1, h2, h3⟩ := h
  have each : ∀ i : Fin L.length, ∃ t : StT, ∃ b off, a = some ⟨b, off, none⟩ ∧ (∀ r x, (stC t)[r]? = some x → w.cell? ⟨b, off + (i.val * 3 + r), none⟩ = some x) ∧ Bys w (.slice t.2.2.1 t.2.2.2.2.length t.2.2.2.1) t.2.2.2.2 := by
    intro i
    obtain ⟨b, off, s, ha, c0, c1, c2, hb⟩ := h3 i.val i.2
    obtain ⟨sa, sc, hs⟩ := Sl.slice hb
    subst hs
    refine ⟨(L[i].1, L[i].2.1, sa, sc, L[i].2.2), b, off, ha, fun r x hr => ?_, hb⟩
    match r, hr with
    | 0, hr => simp only [stC, List.getElem?_cons_zero, Option.some.injEq] at hr; rw [← hr]; exact c0
    | 1, hr => simp only [stC, List.getElem?_cons_succ, List.getElem?_cons_zero, Option.some.injEq] at hr; rw [← hr, ← Nat.add_assoc]; exact c1
    | 2, hr => simp only [stC, List.getElem?_cons_succ, List.getElem?_cons_zero, Option.some.injEq] at hr; rw [← hr, ← Nat.add_assoc]; exact c2
    | r + 3, hr => simp [stC] at hr
  refine ⟨List.ofFn fun i => Classical.choose (each i), a, c, by rw [List.length_ofFn], ?_, fun i hi => ?_⟩
  · rw [List.length_ofFn]
    by_cases hz : L.length = 0
    · refine .inl ⟨a, c, by rw [hz], hz, List.eq_nil_of_length_eq_zero ?_⟩
      rw [flat3_len stC_len, List.length_ofFn, hz]
    · obtain ⟨b, off, ha, _⟩ := Classical.choose_spec (each ⟨0, by omega⟩)
      subst ha
      refine .inr ⟨b, off, c, rfl, h1, h2, fun j x hj => ?_⟩
      obtain ⟨i, hi, r, hr, e, hx⟩ := flat3 stC_len _ j x hj
      have hi2 : i < L.length := by simpa using hi
      obtain ⟨b', off', ha', hc, _⟩ := Classical.choose_spec (each ⟨i, hi2⟩)
      simp only [Option.some.injEq, Addr.mk.injEq] at ha'
      obtain ⟨rfl, rfl, _⟩ := ha'
      rw [List.getElem_ofFn] at hx
      rw [e]
      exact hc r x hx
  · have hi2 : i < L.length := by simpa using hi
    obtain ⟨_, _, _, _, hb⟩ := Classical.choose_spec (each ⟨i, hi2⟩)
    have e : (List.ofFn fun i => Classical.choose (each i)).getD i stD = Classical.choose (each ⟨i, hi2⟩) := by
      simp [List.getD, hi2]
    rw [e]; exact hb
end Go.Proofs.YtbopakjiahojdaaGreatDoor
namespace Go.Proofs.YtbopakjiahojdaaGreatDoor
open Go.ChangeShapes Go.WideShapes Go.ChangeAt Go.RowKit Go.Joins Go.Deep
set_option linter.unusedVariables false
attribute [local irreducible] wpList wpAnyH Code.wp Oper.wp Go

theorem ents_open {H : Type} {enc : TypeId × Value → H} {P : Program} {W : World} {r : Reach} {b0 : Nat} {t e : TypeId} {f0 f1 f2 : Field} {v : Value} {d : DataW H} {p : List MemPlace} (ht : P.underlying t = some (.slice e)) (he : P.underlying e = some (.struct #[f0, f1, f2]))
    (hone : oneCellFields P #[f0, f1, f2] = true) (hC : P.cellsOf e = 3) (h0 : P.underlying f0.type = some (.int .i64)) (h1 : P.underlying f1.type = some .string) (h2 : P.underlying f2.type = some (.int .i64))
    (hv : Value.okWide P W r b0 t v) (h : DataW.Trod enc P W 0 (fun _ => true) true t v d p) : ∃ (L : List Ent) (a : Option Addr) (c : Nat), v = .slice a L.length c ∧ Sts entC W (.slice a L.length c) L := by
  obtain ⟨a, len, cap, rfl⟩ := okWide_slice ht hv
  obtain ⟨fuel, hf⟩ := h
  rcases open_slice ht hf with ⟨hcs, _⟩ | ⟨x, l, c, m, n, D, Pl, hcs, _, hl, hm, hmm, _, hi⟩
  · simp [Value.cells] at hcs
    obtain ⟨rfl, rfl, rfl⟩ := hcs
    exact ⟨[], none, 0, rfl, .inl ⟨none, 0, rfl, rfl, rfl⟩⟩
  · simp [Value.cells] at hcs
    obtain ⟨rfl, rfl, rfl⟩ := hcs
    obtain ⟨b, off, spot⟩ := x
    have hml : len ≤ m := by rw [hmm]; simp; omega
    by_cases hlen : len = 0
    · subst hlen
      exact ⟨[], _, _, rfl, .inl ⟨_, _, rfl, rfl, rfl⟩⟩
    have hspot : spot = none := by
      obtain ⟨cs, hc, htr⟩ := hi 0 (by omega)
      rw [hC] at hc
      obtain ⟨_, hcl, hat⟩ := World.cells?_some hc
      have a0 := hat 0 (by omega)
      rw [List.getElem?_eq_getElem (by omega)] at a0
      simpa [Addr.add] using World.cell?_spot a0
    subst hspot
    have eA : ∀ o n, (⟨b, o, none⟩ : Addr).add n = ⟨b, o + n, none⟩ := by intro o n; unfold Addr.add; split <;> simp_all
    have each : ∀ i : Fin len, ∃ q : Ent, ∀ r x, (entC q)[r]? = some x → W.cell? ⟨b, off + (i.val * 3 + r), none⟩ = some x := by
      intro i
      obtain ⟨cs, hc, htr⟩ := hi i.val (by have := i.2; omega)
      rw [hC] at hc
      obtain ⟨_, hcl, hat⟩ := World.cells?_some hc
      obtain ⟨y0, y1, y2, n', _, _, t0, t1, t2⟩ := trod_struct3 he htr
      obtain ⟨o0, k0⟩ := hone_of hone 0 f0 rfl
      obtain ⟨o1, k1⟩ := hone_of hone 1 f1 rfl
      obtain ⟨o2, k2⟩ := hone_of hone 2 f2 rfl
      match cs, hcl with
      | [c0, c1, c2], _ =>
        have a0 := hat 0 (by omega)
        have a1 := hat 1 (by omega)
        have a2 := hat 2 (by omega)
        rw [o0, k0] at t0
        rw [o1, k1] at t1
        rw [o2, k2] at t2
        obtain ⟨z0, hz0, _, _⟩ := DataW.trod_int (cs := [c0]) h0 (by simpa using t0)
        obtain ⟨s1, hs1, _, _⟩ := DataW.trod_string (cs := [c1]) h1 (by simpa using t1)
        obtain ⟨z2, hz2, _, _⟩ := DataW.trod_int (cs := [c2]) h2 (by simpa using t2)
        simp only [List.cons.injEq, and_true] at hz0 hs1 hz2
        subst hz0 hs1 hz2
        refine ⟨(z0, s1.data.toList, z2), fun r x hr => ?_⟩
        match r, hr with
        | 0, hr => simp only [entC, List.getElem?_cons_zero, Option.some.injEq] at hr; rw [← hr]; rw [eA, eA] at a0; exact a0
        | 1, hr => simp only [entC, List.getElem?_cons_succ, List.getElem?_cons_zero, Option.some.injEq] at hr; rw [← hr, ← Nat.add_assoc]; rw [eA, eA] at a1; exact a1
        | 2, hr => simp only [entC, List.getElem?_cons_succ, List.getElem?_cons_zero, Option.some.injEq] at hr; rw [← hr, ← Nat.add_assoc]; rw [eA, eA] at a2; exact a2
        | r + 3, hr => simp [entC] at hr
    refine ⟨List.ofFn fun i => Classical.choose (each i), some ⟨b, off, none⟩, cap, by rw [List.length_ofFn], ?_⟩
    unfold Sts
    rw [List.length_ofFn]
    refine .inr ⟨b, off, cap, rfl, hl, hm, fun j x hj => ?_⟩
    obtain ⟨i, hi, r, hr, e, hx⟩ := flat3 entC_len _ j x hj
    rw [List.getElem_ofFn] at hx
    rw [e]
    exact Classical.choose_spec (each ⟨i, by simpa using hi⟩) r x hx
end Go.Proofs.YtbopakjiahojdaaGreatDoor
