/- bits.Read. Errors that lie in memory stay what they are while a block of another type is written. Blocks of an image that are read: (*Image).Read, whatever the number. block.Node, whatever lies in the image. What was sealed opens: a plain law on lists of bytes. Further steps of a walk: append of a string to a row of the call's own, a store into a place of such a row, and where an appended row lies. value.ReadRoot, whatever the string. What was put as a node is read as that node: a plain law on lists of bytes. node.Put at any node, node.Same at equal nodes; a block asked for as another kind. image.New, with room. errors.As at a *api.Fault, where the error is a fault itself. block.Bits, whatever lies in the image. image.Of and block.Write at an image in a row of its own. append(s, make([]byte, k)...) at a literal s. An error's text, as contracts. The lives of law 11, and its statement BlockNobody. Strings compared, and the bytes of a number that was read. No program is named here. Package value: put and read, for any parts. A string cut at its head or its end. No program is named here. value.ReadSlot, slots.Read and block.Index, whatever the bytes. The statement BlockBack, walked. How a slice of bytes that came in reads: as a list of bytes. A slice of structs, each a bool, an int and a slice of bytes: how a law's argument reads. -/
import Derived.Lib.AppendStr
import Derived.Laws.IdiomStrings
import Derived.Lib.AppendZerosOnto
import Derived.Lib.ItoaNum
import Derived.Deep.Slices
import Derived.Deep.Fields
import Derived.Deep.Strs
import Derived.ChangeSame
import Derived.Test.YtinegkldgjhnpaaGreatDoorMg2
namespace Go.Proofs.YtinegkldgjhnpaaGreatDoor
open Go.RowKit Go.Extern.Stop Go.Stop Go.Extern
set_option linter.unusedVariables false
attribute [local irreducible] wpList wpAnyH Code.wp Oper.wp Go

section
variable {P : Program} {a : Act}
theorem run_shrU8 {o : Oper} {t t2 : TypeId} {x y : Operand} {n s : Nat} {j : Int} {kj : IntKind} (ho : o.op = .binOp .shr t x y t2) (hx : a.eval x = .int .u8 (n : Int)) (hy : a.eval y = .int kj j) (hj : j = (s : Int)) (hs : s ≤ 8) (w : World) : (execOp a.eval o).run P w = .ok (.value (.int .u8 ((n / 2 ^ s : Nat) : Int))) w := by
  subst hj
  have e := shift_shr_u8 kj (n : Int) (s : Int) (Int.natCast_nonneg s) (by omega)
  simp only [execOp, ho, hx, hy, eqGuard_shr, binOp_shr, e]
  simp
end
theorem Get_okN (a : Option Addr) (n c k w : Nat) (ki wi : Int) (l : List UInt8) (W : World) (hn : l.length = n) (hki : ki = (k : Int)) (hwi : wi = (w : Int)) (hw : w = 1 ∨ w = 2 ∨ w = 4) (hk : k + w ≤ n) (hl : n ≤ 100000000) (h : Bys W (.slice a n c) l) :
    Calls Tryz.prog 103 #[.slice a n c, .int .i64 ki, .int .i64 wi] W (Ret (.tuple #[.int .i64 (rawN l k w : Int), .int .i64 0]) W) := by
  subst hn hki hwi; exact Get_ok a c k w l W (by omega) hk hl h (by have := rawN_lt4 l k w (by omega); omega)
/-- the i-th count of a block of bits -/
def bitN (l : List UInt8) (i : Nat) : Nat := (l.getD (4 + i / 4) 0).toNat / 2 ^ (i % 4 * 2) % 4
theorem i64_and3 {n : Nat} (h : n < 9223372036854775808) : IntKind.i64.wrap (↑(BitVec.ofInt 64 (n : Int) &&& BitVec.ofInt 64 (3 : Int)).toNat : Int) = ((n % 4 : Nat) : Int) := by
  rw [show (3 : Int) = ((3 : Nat) : Int) from rfl, BitVec.ofInt_natCast, BitVec.ofInt_natCast, BitVec.toNat_and, BitVec.toNat_ofNat, BitVec.toNat_ofNat, Nat.mod_eq_of_lt (by omega), Nat.mod_eq_of_lt (by omega)]
  rw [show n &&& 3 = n % 4 from Nat.and_two_pow_sub_one_eq_mod n 2]
  exact i64_nat (by omega)
theorem quo_natB (n k : Nat) (hn : n < 9223372036854775808) (hk : 0 < k) : IntKind.i64.wrap (Int.tdiv (n : Int) (k : Int)) = ((n / k : Nat) : Int) := by
  rw [Int.tdiv_eq_ediv_of_nonneg (Int.natCast_nonneg _), ← Int.natCast_ediv]
  exact i64_nat (Nat.lt_of_le_of_lt (Nat.div_le_self _ _) hn)
theorem tmod_natB (n k : Nat) : Int.tmod (n : Int) (k : Int) = ((n % k : Nat) : Int) := by
  rw [Int.tmod_eq_emod_of_nonneg (Int.natCast_nonneg _), ← Int.natCast_emod]
theorem shr_lt (l : List UInt8) (k s : Nat) : (l.getD k 0).toNat / 2 ^ s < 256 := Nat.lt_of_le_of_lt (Nat.div_le_self _ _) (l.getD k 0).toNat_lt
def bitsL (l : List UInt8) (n : Nat) : List Nat := (List.range n).map (bitN l)
theorem bitsL_snoc (l : List UInt8) (n : Nat) : bitsL l (n + 1) = bitsL l n ++ [bitN l n] := by simp [bitsL, List.range_succ]
/-- whether bytes are a block of counts -/
def bitsOk (l : List UInt8) : Prop := l.length = 244 ∧ rawN l 0 4 ≤ 960 ∧ ∀ i, i < 960 → rawN l 0 4 ≤ i → bitN l i = 0
def BitsP (l : List UInt8) (w : World) (e : Ending) (w' : World) : Prop :=
  (¬ bitsOk l ∧ e = .returned (.tuple #[.slice none 0 0, .int .i64 7]) ∧ Below w.heap.size w w') ∨
  (bitsOk l ∧ ∃ p c, e = .returned (.tuple #[.slice p (rawN l 0 4) c, .int .i64 0]) ∧ Below w.heap.size w w' ∧ w'.ownsRow w.heap.size 3 1 (.slice p (rawN l 0 4) c) (rawN l 0 4) ((bitsL l (rawN l 0 4)).map nv))
set_option maxRecDepth 100000 in
set_option maxHeartbeats 2000000 in
theorem bits_Read (a : Option Addr) (c : Nat) (l : List UInt8) (w : World) (hl : l.length ≤ 100000000) (h : Bys w (.slice a l.length c) l) :
    Calls Tryz.prog 60 #[.slice a l.length c] w (BitsP l w) := by
 refine zin 47 Tryz.func60 ?_
 refine xin 14 (↑l.length : Int) (244 : Int) (fun hc1 => ?_) (fun hc1 => ?_)
 · exact xe 8 (.tuple #[.slice none 0 0, .int .i64 7]) (.inl ⟨fun h => by have := h.1; omega, rfl, (Below.refl w.heap.size _)⟩)
 refine xr 5 (args := #[.slice a l.length c, .int .i64 0, .int .i64 4]) (Get_okN a l.length c 0 4 0 4 l _ rfl rfl rfl (by decide) (by omega) hl (h.below (Below.refl w.heap.size _))) fun W2 hb2 => ?_
 refine xid 14 ((↑(rawN l 0 4) : Int) > (960 : Int)) (fun hc3 => ?_) (fun hc3 => ?_)
 · exact xe 8 (.tuple #[.slice none 0 0, .int .i64 7]) (.inl ⟨fun h => by have := h.2.1; omega, rfl, hb2⟩)
 refine zl 14 47 (fun zm zkv V => ∃ (i m : Nat) (p : Option Addr) (c2 : Nat), zkv = [(0, .slice a l.length c), (4, .int .i64 (↑(rawN l 0 4) : Int)), (6, .slice p m c2), (19, .int .i64 (↑i : Int))] ∧ zm = 960 - ((↑i : Int)).toNat ∧ Below w.heap.size w V ∧ V.ownsRow w.heap.size 3 1 (.slice p m c2) m ((bitsL l m).map nv) ∧ i ≤ 960 ∧ m = min i (rawN l 0 4) ∧ (∀ j, j < i → rawN l 0 4 ≤ j → bitN l j = 0)) ⟨0, 0, _, _, rfl, rfl, hb2, World.ownsRow_nil _ _ _ _, Nat.zero_le _, by omega, ?_⟩ ?_
 · exact fun j hj => absurd hj (by omega)
 rintro _ _ W4 ⟨i, m, p, c2, rfl, rfl, hB_4, ho, hi, hm, hz⟩ J4 hJ4 r4
 refine xid 6 ((↑i : Int) < (960 : Int)) (fun hc5 => ?_) (fun hc5 => ?_)
 · refine xq 14 (congrArg (Value.int .i64) (show (IntKind.i64.wrap (Int.tdiv (↑i : Int) 4) : Int) = (↑(i / 4) : Int) from quo_natB i 4 (by omega) (by decide))) ?_
   refine xwm 0 (4 + (↑(i / 4) : Int)) (↑(4 + (i / 4)) : Int) ?_
   refine xx 0 _ l.length (4 + (i / 4)) 1 (Bys.elem h (k := (4 + (i / 4))) (by omega)).1 ?_
   refine xl 0 ((Bys.elem (h.below hB_4) (k := (4 + (i / 4))) (by omega)).2) ?_
   refine xq 1 (congrArg (Value.int .i64) (show (Int.tmod (↑i : Int) 4 : Int) = (↑(i % 4) : Int) from tmod_natB i 4)) ?_
   refine xwm 0 ((↑(i % 4) : Int) * 2) (↑((i % 4) * 2) : Int) ?_
   refine xbo 0 (t := 5) (t2 := 3) (fun _ _ _ _ zo zx zy V hV => run_shrU8 (n := ((l.getD (4 + (i / 4)) 0).toNat)) (s := ((i % 4) * 2)) (kj := .i64) (j := (↑((i % 4) * 2) : Int)) zo zx zy rfl (by omega) V) ?_
   refine xq 0 (congrArg (Value.int .i64) (show (IntKind.i64.wrap (↑((l.getD (4 + (i / 4)) 0).toNat / 2 ^ ((i % 4) * 2)) : Int) : Int) = (↑((l.getD (4 + (i / 4)) 0).toNat / 2 ^ ((i % 4) * 2)) : Int) from i64_nat (by have := shr_lt l (4 + i / 4) (i % 4 * 2); omega))) ?_
   refine xq 0 (congrArg (Value.int .i64) (show (IntKind.i64.wrap (↑(BitVec.ofInt 64 (↑((l.getD (4 + (i / 4)) 0).toNat / 2 ^ ((i % 4) * 2)) : Int) &&& BitVec.ofInt 64 (3 : Int)).toNat : Int) : Int) = (↑(bitN l i) : Int) from i64_and3 (by have := shr_lt l (4 + i / 4) (i % 4 * 2); omega))) ?_
   refine xid 12 ((↑i : Int) < (↑(rawN l 0 4) : Int)) (fun hc6 => ?_) (fun hc6 => ?_)
   · refine xbs 3 1 [.int .i64 (↑(bitN l i) : Int)] 3 fun b7 W7 n7 => ?_
     have r7_ho := own_ne ho n7
     have ho'1 := own_below ho n7.below
     have hB'1 := Bl.next hB_4 n7.below
     refine xbi 0 fun _ _ _ _ zJ zQ zo zx zy zK => op_app (m := 1) (news := [.int .i64 (↑(bitN l i) : Int)]) (.int .i64 0) 1 8 (m + 1) ((bitsL l (m + 1)).map nv) zo Tryz.underlying26 (by kernel_rfl) rfl (by decide) zx ho'1 zy (n7.blk.sl 1 1 (by decide) (by decide)) rfl (by simp [Value.oneCell']) (by unfold maxLen; omega) (by omega) hB'1.size (by rfl) (by rw [bitsL_snoc, List.map_append, show m = i by omega]; rfl) fun p8 c8 W8 o8 hg8 hb8 => ?_
     refine zK _ _ ?_
     refine xwm 6 ((↑i : Int) + 1) (↑(i + 1) : Int) ?_
     have hB'2 := hB'1.trans hb8
     exact ze 2 (hJ4 _ _ _ ⟨i + 1, m + 1, _, _, rfl, rfl, hB'2, o8, by omega, by omega, fun j hj hc => (Nat.lt_or_ge j i).elim (fun q => hz j q hc) (fun q => by obtain rfl : j = i := (by omega); omega)⟩ (by omega))
   refine xin 7 (↑(bitN l i) : Int) (0 : Int) (fun hc9 => ?_) (fun hc9 => ?_)
   · exact xe 13 (.tuple #[.slice none 0 0, .int .i64 7]) (.inl ⟨fun h => by have := h.2.2 i (by omega) (by omega); omega, rfl, hB_4⟩)
   refine xwm 5 ((↑i : Int) + 1) (↑(i + 1) : Int) ?_
   exact ze 2 (hJ4 _ _ _ ⟨i + 1, m, _, _, rfl, rfl, hB_4, ho, by omega, by omega, fun j hj hc => (Nat.lt_or_ge j i).elim (fun q => hz j q hc) (fun q => by obtain rfl : j = i := (by omega); omega)⟩ (by omega))
 refine xe 13 (.tuple #[.slice p m c2, .int .i64 0]) ?_
 obtain rfl : m = rawN l 0 4 := by omega
 exact .inr ⟨⟨by omega, by omega, fun j hj hc => hz j (by omega) hc⟩, _, _, rfl, hB_4, ho⟩
end Go.Proofs.YtinegkldgjhnpaaGreatDoor
namespace Go.Proofs.YtinegkldgjhnpaaGreatDoor
open Go.RowKit
theorem Blk.ty {w : World} {b : Nat} {cs cs' : List Value} {t t' : TypeId} (k : Blk w b cs t) (q : Blk w b cs' t') : t = t' := by
  have h1 : w.heap[b]? = some (.cells cs.toArray t (0, 0)) := k
  have h2 : w.heap[b]? = some (.cells cs'.toArray t' (0, 0)) := q
  rw [h1] at h2
  simp only [Option.some.injEq, Obj.cells.injEq] at h2
  exact h2.2.1
theorem ErrV.upd {w W : World} {b : Nat} {cs : List Value} {t : TypeId} {l : List (Option Int)} {c : Option Int} {v : Value} (h : ErrV w l c v) (u : Upd w b W) (k : Blk w b cs t) (hne : t ≠ 72) : ErrV W l c v :=
  h.kept fun _ _ q => u.blk q (by rintro rfl; exact hne (k.ty q))
theorem ErrV.grown {w W : World} {e : TypeId} {base size n : Nat} {s : Value} {xs : List Value} {l : List (Option Int)} {c : Option Int} {v : Value} (h : ErrV w l c v) (hg : w.grownBy W s.ownBlock) (hown : w.ownsRow base e size s n xs) (hne : e ≠ 72) : ErrV W l c v :=
  h.kept fun _ _ q => q.grown hg hown hne
theorem ErrV.only {T : List TypeId} {w W : World} {l : List (Option Int)} {c : Option Int} {v : Value} (h : ErrV w l c v) (k : Only T w W) (hne : T.contains 72 = false) : ErrV W l c v := h.kept fun _ _ q => q.only k hne
end Go.Proofs.YtinegkldgjhnpaaGreatDoor
namespace Go.Proofs.YtinegkldgjhnpaaGreatDoor
open Go.RowKit Go.Extern.Stop Go.Stop Go.Extern
set_option linter.unusedVariables false
attribute [local irreducible] wpList wpAnyH Code.wp Oper.wp Go

/-- an image at block b, its bytes l in a row of its own -/
structure ImgR (B b : Nat) (p : Option Addr) (n c : Nat) (l : List UInt8) (w : World) : Prop where
  blk : Blk w b [.slice p n c] 100
  row : w.ownsRow B 5 1 (.slice p n c) n (l.map bv)
  hn : n ≤ 3686400
theorem ImgR.below {B b : Nat} {p : Option Addr} {n c : Nat} {l : List UInt8} {w W : World} (h : ImgR B b p n c l w) (hb : Below w.heap.size w W) : ImgR B b p n c l W := ⟨h.blk.below hb, own_below h.row hb, h.hn⟩
theorem ImgR.only {B b : Nat} {p : Option Addr} {n c : Nat} {l : List UInt8} {w W : World} {T : List TypeId} (h : ImgR B b p n c l w) (hO : Only T w W) (hT : T.contains 100 = false ∧ T.contains 5 = false) : ImgR B b p n c l W := ⟨h.blk.only hO hT.1, own_only h.row hO hT.2, h.hn⟩
theorem ImgR.len {B b : Nat} {p : Option Addr} {n c : Nat} {l : List UInt8} {w : World} (h : ImgR B b p n c l w) : l.length = n := by have := h.row.1; simpa using this
theorem ImgR.base {B b : Nat} {p : Option Addr} {n c : Nat} {l : List UInt8} {w : World} (h : ImgR B b p n c l w) (hn : 0 < n) : ∃ g, p = some ⟨g, 0, none⟩ ∧ n ≤ c := by
  rcases h.row.2 with ⟨_, h0⟩ | ⟨g, cap, cur, hv, _, _, hc, _⟩
  · omega
  · simp only [Value.slice.injEq] at hv
    obtain ⟨rfl, _, rfl⟩ := hv
    exact ⟨g, rfl, hc⟩
/-- the bytes of a block -/
def blkB (l : List UInt8) (j : Nat) : List UInt8 := (l.drop (j * 256)).take 256
theorem blkB_len {l : List UInt8} {j : Nat} (h : j < l.length / 256) : (blkB l j).length = 256 := by simp [blkB]; omega
theorem Bys.mid {w : World} {g off n c : Nat} {l : List UInt8} (h : Bys w (.slice (some ⟨g, off, none⟩) n c) l) (hl : l.length = n) (k m : Nat) (hm : 0 < m) (hk : k + m ≤ n) : Bys w (.slice (some ⟨g, off + k, none⟩) m m) ((l.drop k).take m) := by
  have hlen : ((l.drop k).take m).length = m := by simp; omega
  rcases h with ⟨a', c', h1, h2, h3⟩ | ⟨g', off', cap, h1, h2, h3, h4⟩
  · omega
  · simp only [Value.slice.injEq, Option.some.injEq, Addr.mk.injEq] at h1
    obtain ⟨⟨rfl, rfl, _⟩, _, rfl⟩ := h1
    refine .inr ⟨g, off + k, m, by rw [hlen], by omega, by omega, fun j x hj => ?_⟩
    rw [List.getElem?_map, List.getElem?_take] at hj
    split at hj
    · rw [List.getElem?_drop] at hj
      have := h4 (k + j) x (by rw [List.getElem?_map]; exact hj)
      rwa [← Nat.add_assoc] at this
    · cases hj
theorem ImgR.part {B b g : Nat} {n c : Nat} {l : List UInt8} {w : World} (h : ImgR B b (some ⟨g, 0, none⟩) n c l w) {j : Nat} (hj : j < n / 256) : Bys w (.slice (some ⟨g, j * 256, none⟩) 256 256) (blkB l j) := by
  have := Bys.mid (bys_of (own_sl h.row) h.len) h.len (j * 256) 256 (by decide) (by omega)
  rwa [Nat.zero_add] at this
/-- what Read hands back -/
def ReadP (n : Nat) (l : List UInt8) (k : Int) (w : World) (e : Ending) (w' : World) : Prop :=
  (¬ (0 ≤ k ∧ k < (n / 256 : Nat)) ∧ ∃ v, e = .returned (.tuple #[v, .int .i64 3]) ∧ Below w.heap.size w w') ∨
  (∃ j : Nat, k = (j : Int) ∧ j < n / 256 ∧ ∃ p c, e = .returned (.tuple #[.slice p 256 c, .int .i64 0]) ∧ Below w.heap.size w w' ∧ w'.ownsRow w.heap.size 5 1 (.slice p 256 c) 256 ((blkB l j).map bv))
set_option maxRecDepth 100000 in
set_option maxHeartbeats 1000000 in
theorem image_block_out (b : Nat) (p : Option Addr) (n c : Nat) (k : Int) (w : World) (hk : Blk w b [.slice p n c] 100) (hn : n ≤ 100000000) (ho : ¬ (0 ≤ k ∧ k < (n / 256 : Nat))) :
    Calls Tryz.prog 97 #[.pointer (some ⟨b, 0, none⟩), .int .i64 k] w (Ret (.tuple #[.slice none 0 0, .int .i64 3]) w) := by
 refine zin 33 Tryz.func97 ?_
 refine xg 21 [13, 14] (decide (k < (0 : Int))) (fun hc1 => ?_) (fun hc1 => ?_)
 · have hc1 := of_decide_eq_true hc1
   exact xe 18 (.tuple #[.slice none 0 0, .int .i64 3]) ⟨rfl, (Below.refl w.heap.size _)⟩
 have hc1 := of_decide_eq_false hc1
 refine xr 2 (args := #[.pointer (some ⟨b, 0, none⟩)]) (image_Blocks b _ n c _ (hk.below (Below.refl w.heap.size _)) hn) fun W2 hb2 => ?_
 refine xk 5 (show (decide (k ≥ (↑(n / 256) : Int)) : Bool) = true from decide_eq_true (by omega)) ?_
 exact xe 9 (.tuple #[.slice none 0 0, .int .i64 3]) ⟨rfl, hb2⟩
set_option maxRecDepth 100000 in
set_option maxHeartbeats 1000000 in
theorem image_block_nil (k : Int) (w : World) :
    Calls Tryz.prog 97 #[.pointer none, .int .i64 k] w (Ret (.tuple #[.slice none 0 0, .int .i64 18]) w) := by
 refine zin 33 Tryz.func97 ?_
 exact xe 25 (.tuple #[.slice none 0 0, .int .i64 18]) ⟨rfl, (Below.refl w.heap.size _)⟩
set_option maxRecDepth 100000 in
set_option maxHeartbeats 1000000 in
theorem image_Read_nilp (k : Int) (w : World) :
    Calls Tryz.prog 99 #[.pointer none, .int .i64 k] w (RetS (fun _ r => ∃ v, r = .tuple #[v, .int .i64 18]) w) := by
 refine zin 17 Tryz.func99 ?_
 refine xr 10 (args := #[.pointer none, .int .i64 k]) (image_block_nil k _) fun W1 hb1 => ?_
 refine xc 10 (args := #[.slice none 0 0]) (clone_nil 0 _) ?_
 rintro _ W2 ⟨v2, rfl, hb2, _⟩
 have hB := Bl.next hb1 hb2
 exact xe 6 (.tuple #[v2, .int .i64 18]) ⟨_, rfl, hB, _, rfl⟩
set_option maxRecDepth 100000 in
set_option maxHeartbeats 1000000 in
theorem image_Read_out (B b : Nat) (p : Option Addr) (n c : Nat) (l : List UInt8) (k : Int) (w : World) (hI : ImgR B b p n c l w) (ho : ¬ (0 ≤ k ∧ k < (n / 256 : Nat))) :
    Calls Tryz.prog 99 #[.pointer (some ⟨b, 0, none⟩), .int .i64 k] w (RetS (fun _ r => ∃ v, r = .tuple #[v, .int .i64 3]) w) := by
 refine zin 17 Tryz.func99 ?_
 refine xr 10 (args := #[.pointer (some ⟨b, 0, none⟩), .int .i64 k]) (image_block_out b p n c k _ (hI.below (Below.refl w.heap.size _)).blk (by have := hI.hn; omega) ho) fun W1 hb1 => ?_
 refine xc 10 (args := #[.slice none 0 0]) (clone_nil 0 _) ?_
 rintro _ W2 ⟨v2, rfl, hb2, _⟩
 have hB := Bl.next hb1 hb2
 exact xe 6 (.tuple #[v2, .int .i64 3]) ⟨_, rfl, hB, _, rfl⟩
set_option maxRecDepth 100000 in
set_option maxHeartbeats 1000000 in
theorem image_Read_in (B b g : Nat) (n c : Nat) (l : List UInt8) (j : Nat) (w : World) (hI : ImgR B b (some ⟨g, 0, none⟩) n c l w) (hj : j < n / 256) (hc : n ≤ c) :
    Calls Tryz.prog 99 #[.pointer (some ⟨b, 0, none⟩), .int .i64 (↑j : Int)] w (RetS (fun w' r => ∃ p2 c3, r = .tuple #[.slice p2 256 c3, .int .i64 0] ∧ w'.ownsRow w.heap.size 5 1 (.slice p2 256 c3) 256 ((blkB l j).map bv)) w) := by
 have hlj := blkB_len (l := l) (j := j) (by rw [hI.len]; exact hj)
 refine zin 17 Tryz.func99 ?_
 refine xr 10 (args := #[.pointer (some ⟨b, 0, none⟩), .int .i64 (↑j : Int)]) (image_block b g n c j _ (hI.below (Below.refl w.heap.size _)).blk (by have := hI.hn; omega) hc hj) fun W1 hb1 => ?_
 refine xc 10 (args := #[.slice (some ⟨g, (j * 256), none⟩) 256 256]) (clone_bytesN (some ⟨g, (j * 256), none⟩) 256 256 (blkB l j) _ hlj ((hI.below hb1).part hj) (by decide)) ?_
 rintro _ W2 ⟨_, rfl, hb2, ho⟩
 have ho'1 := own_mono ho hb1.size
 unfold OwnB at ho'1
 rw [hlj] at ho'1
 obtain ⟨p2, c3, rfl⟩ := (own_sl ho'1).slice
 have hB'1 := Bl.next hb1 hb2
 exact xe 6 (.tuple #[.slice p2 256 c3, .int .i64 0]) ⟨_, rfl, hB'1, _, _, rfl, ho'1⟩
theorem image_Read (B b : Nat) (p : Option Addr) (n c : Nat) (l : List UInt8) (k : Int) (w : World) (hI : ImgR B b p n c l w) :
    Calls Tryz.prog 99 #[.pointer (some ⟨b, 0, none⟩), .int .i64 k] w (ReadP n l k w) := by
  by_cases h : 0 ≤ k ∧ k < (n / 256 : Nat)
  · obtain ⟨g, rfl, hc⟩ := hI.base (by omega)
    obtain ⟨j, rfl⟩ : ∃ j : Nat, k = j := ⟨k.toNat, by omega⟩
    refine (image_Read_in B b g n c l j w hI (by omega) hc).mono ?_
    rintro e W ⟨_, rfl, hb, p2, c3, rfl, ho⟩
    exact .inr ⟨j, rfl, by omega, _, _, rfl, hb, ho⟩
  · refine (image_Read_out B b p n c l k w hI h).mono ?_
    rintro e W ⟨_, rfl, hb, v, rfl⟩
    exact .inl ⟨h, _, rfl, hb⟩
/-- what a block of a kind has within: the error's number -/
def inE (l : List UInt8) (kind no : Int) : Int := if 0 ≤ no ∧ no < (l.length / 256 : Nat) then openE kind no (blkB l no.toNat) else 3
/-- and the bytes -/
def inB (l : List UInt8) (no : Int) : List UInt8 := ((blkB l no.toNat).drop 8).take 244
theorem inE_out {l : List UInt8} {kind no : Int} {n : Nat} (hl : l.length = n) (h : ¬ (0 ≤ no ∧ no < (n / 256 : Nat))) : inE l kind no = 3 := by subst hl; exact if_neg h
theorem inE_in {l : List UInt8} {kind no : Int} {n j : Nat} (hl : l.length = n) (hk : no = (j : Int)) (h : j < n / 256) : inE l kind no = openE kind no (blkB l j) := by
  subst hl hk; rw [inE, if_pos ⟨by omega, by omega⟩]; rfl
theorem inB_in {l : List UInt8} {no : Int} {j : Nat} (hk : no = (j : Int)) : inB l no = ((blkB l j).drop 8).take 244 := by subst hk; rfl
theorem inB_len {l : List UInt8} {no : Int} {n j : Nat} (hl : l.length = n) (hk : no = (j : Int)) (h : j < n / 256) : (inB l no).length = 244 := by
  subst hl hk; have := blkB_len h; simp [inB, this]
end Go.Proofs.YtinegkldgjhnpaaGreatDoor
namespace Go.Proofs.YtinegkldgjhnpaaGreatDoor
open Go.RowKit Go.Extern.Stop Go.Stop Go.Extern
set_option linter.unusedVariables false
attribute [local irreducible] wpList wpAnyH Code.wp Oper.wp Go

theorem seal_OpenN (kind no : Int) (a : Option Addr) (n c : Nat) (l : List UInt8) (w : World) (hn : l.length = n) (h : Bys w (.slice a n c) l) : Calls Tryz.prog 100 #[.slice a n c, .int .i64 kind, .int .i64 no] w (OpenP kind no l w) := by
  subst hn; exact seal_Open kind no a c l w h
/-- a node, asked as a tree's: the error's number -/
def nodeTE (l : List UInt8) (tree : Int) : Int := if nodeE l = 0 then (if tree = 0 ∨ nodT l = tree then 0 else 6) else nodeE l
/-- what package block has for a node -/
def nodeErr (l : List UInt8) (no tree : Int) : Int := if inE l 2 no = 0 then nodeTE (inB l no) tree else inE l 2 no
def nodeV (l : List UInt8) (kp vp : Option Addr) (kc vc : Nat) : Value := .agg #[.int .i64 (nodT l), .bool (nodL l), .slice kp (nodC l) kc, .slice vp (nodC l) vc]
def Node1P (l : List UInt8) (tree : Int) (w : World) (e : Ending) (w' : World) : Prop :=
  (nodeTE l tree ≠ 0 ∧ ∃ a b kp n1 kc vp n2 vc, e = .returned (.tuple #[.agg #[.int .i64 a, .bool b, .slice kp n1 kc, .slice vp n2 vc], .int .i64 (nodeTE l tree)]) ∧ Below w.heap.size w w') ∨
  (nodeTE l tree = 0 ∧ ∃ kp kc vp vc, e = .returned (.tuple #[.agg #[.int .i64 (nodT l), .bool (nodL l), .slice kp (nodC l) kc, .slice vp (nodC l) vc], .int .i64 0]) ∧ Below w.heap.size w w' ∧
    w'.ownsRow w.heap.size 3 1 (.slice kp (nodC l) kc) (nodC l) ((keysI l (nodC l)).map (Value.int .i64)) ∧ w'.ownsRow w.heap.size 9 1 (.slice vp (nodC l) vc) (nodC l) ((valsL l (nodC l)).map sv))
def BlkNodeP (l : List UInt8) (no tree : Int) (w : World) (e : Ending) (w' : World) : Prop :=
  (nodeErr l no tree ≠ 0 ∧ ∃ b, e = .returned (.tuple #[.agg #[.int .i64 0, .bool false, .slice none 0 0, .slice none 0 0], .iface 67 (.pointer (some ⟨b, 0, none⟩))]) ∧ Below w.heap.size w w' ∧ ErrV w' [some no] (some (nodeErr l no tree)) (.iface 67 (.pointer (some ⟨b, 0, none⟩)))) ∨
  (nodeErr l no tree = 0 ∧ ∃ kp kc vp vc, e = .returned (.tuple #[.agg #[.int .i64 (nodT (inB l no)), .bool (nodL (inB l no)), .slice kp (nodC (inB l no)) kc, .slice vp (nodC (inB l no)) vc], .nilIface]) ∧ Below w.heap.size w w' ∧
    w'.ownsRow w.heap.size 3 1 (.slice kp (nodC (inB l no)) kc) (nodC (inB l no)) ((keysI (inB l no) (nodC (inB l no))).map (Value.int .i64)) ∧ w'.ownsRow w.heap.size 9 1 (.slice vp (nodC (inB l no)) vc) (nodC (inB l no)) ((valsL (inB l no) (nodC (inB l no))).map sv))
set_option maxRecDepth 100000 in
set_option maxHeartbeats 1000000 in
theorem node_1 (tree : Int) (bt : Nat) (a : Option Addr) (c : Nat) (l : List UInt8) (w : World) (kt : Blk w bt [.int .i64 tree] 3) (hl : l.length = 244) (h : Bys w (.slice a 244 c) l) :
    Calls Tryz.prog 57 #[.slice a 244 c, .pointer (some ⟨bt, 0, none⟩)] w (Node1P l tree w) := by
 refine zin 27 Tryz.func57 ?_
 refine xa 2 [.int .i64 0, .bool false, .slice none 0 0, .slice none 0 0] 52 fun b1 W1 n1 => ?_
 refine xc 6 (args := #[.slice a 244 c]) (node_Read a c l _ hl (h.below n1.below)) ?_
 rintro e W2 hq2
 rcases hq2 with ⟨hz, rfl, hb2⟩ | ⟨hz, kp, kc, vp, vc, rfl, hb2, hk, hv_⟩
 · refine xa 3 [.int .i64 0, .bool false, .slice none 0 0, .slice none 0 0] 52 fun b3 W3 n3 => ?_
   have k1 := n1.blk.below hb2
   have d3_b1 := n3.ne k1
   have hB'1 := Bl.next n1.below hb2
   have g3 := n3.ge hB'1
   refine xsv 0 n3.blk [.int .i64 0, .bool false, .slice none 0 0, .slice none 0 0] fun W4 u4 k4 => ?_
   refine xgk 9 [13, 14] (show (((nodeE l) == (0 : Int)) : Bool) = false from beq_false_of_ne hz) ?_
   refine xlv 16 k4.rp ?_
   have k1'1 := u4.blk (k1.below n3.below) (Ne.symm (Ne.symm d3_b1))
   refine xsv 1 k1'1 [.int .i64 0, .bool false, .slice none 0 0, .slice none 0 0] fun W6 u6 k6 => ?_
   have g1 := n1.ge (Below.refl w.heap.size _)
   have hB'2 := u6.below (u4.below (Bl.next hB'1 n3.below) g3) g1
   exact xec 4 k6 (.tuple #[.agg #[.int .i64 0, .bool false, .slice none 0 0, .slice none 0 0], .int .i64 (nodeE l)]) (.inl ⟨by unfold nodeTE; rw [if_neg hz]; exact hz, _, _, _, _, _, _, _, _, by unfold nodeTE; rw [if_neg hz], hB'2⟩)
 refine xa 3 [.int .i64 0, .bool false, .slice none 0 0, .slice none 0 0] 52 fun b7 W7 n7 => ?_
 have k1 := n1.blk.below hb2
 have d7_b1 := n7.ne k1
 have hB'3 := Bl.next n1.below hb2
 have g7 := n7.ge hB'3
 refine xsv 0 n7.blk [.int .i64 (nodT l), .bool (nodL l), .slice kp (nodC l) kc, .slice vp (nodC l) vc] fun W8 u8 k8 => ?_
 have kt'1 := u8.blkT (((kt.below n1.below).below hb2).below n7.below) n7.blk (by decide)
 refine xb 9 0 kt'1 ?_
 refine xg 3 [16, 17, 18] (tree != (0 : Int)) (fun hc9 => ?_) (fun hc9 => ?_)
 · have hc9 := ne_of_bne hc9
   refine xb 1 0 k8 ?_
   refine xb 0 0 kt'1 ?_
   refine xin 4 (nodT l) tree (fun hc10 => ?_) (fun hc10 => ?_)
   · refine xlv 2 k8.rp ?_
     have k1'2 := u8.blk (k1.below n7.below) (Ne.symm (Ne.symm d7_b1))
     refine xsv 0 k1'2 [.int .i64 (nodT l), .bool (nodL l), .slice kp (nodC l) kc, .slice vp (nodC l) vc] fun W11 u11 k11 => ?_
     have g1 := n1.ge (Below.refl w.heap.size _)
     have hB'4 := u11.below (u8.below (Bl.next hB'3 n7.below) g7) g1
     exact xec 5 k11 (.tuple #[.agg #[.int .i64 (nodT l), .bool (nodL l), .slice kp (nodC l) kc, .slice vp (nodC l) vc], .int .i64 6]) (.inl ⟨by unfold nodeTE; rw [if_pos hz, if_neg (by omega)]; decide, _, _, _, _, _, _, _, _, by unfold nodeTE; rw [if_pos hz, if_neg (by omega)], hB'4⟩)
   refine xlv 4 k8.rp ?_
   have k1'3 := u8.blk (k1.below n7.below) (Ne.symm (Ne.symm d7_b1))
   refine xsv 1 k1'3 [.int .i64 (nodT l), .bool (nodL l), .slice kp (nodC l) kc, .slice vp (nodC l) vc] fun W12 u12 k12 => ?_
   have g1 := n1.ge (Below.refl w.heap.size _)
   have hB'5 := u12.below (u8.below (Bl.next hB'3 n7.below) g7) g1
   have hk'1 := u12.own2 (u8.own2 (own_below (own_mono hk n1.below.size) n7.below) n7.blk (by decide)) k1'3 (by decide)
   have hv_'1 := u12.own2 (u8.own2 (own_below (own_mono hv_ n1.below.size) n7.below) n7.blk (by decide)) k1'3 (by decide)
   exact xec 4 k12 (.tuple #[.agg #[.int .i64 (nodT l), .bool (nodL l), .slice kp (nodC l) kc, .slice vp (nodC l) vc], .int .i64 0]) (.inr ⟨by unfold nodeTE; rw [if_pos hz, if_pos (by omega)], _, _, _, _, rfl, hB'5, hk'1, hv_'1⟩)
 have hc9 := eq_of_bne_false hc9
 refine xlv 12 k8.rp ?_
 have k1'4 := u8.blk (k1.below n7.below) (Ne.symm (Ne.symm d7_b1))
 refine xsv 1 k1'4 [.int .i64 (nodT l), .bool (nodL l), .slice kp (nodC l) kc, .slice vp (nodC l) vc] fun W13 u13 k13 => ?_
 have g1 := n1.ge (Below.refl w.heap.size _)
 have hB'6 := u13.below (u8.below (Bl.next hB'3 n7.below) g7) g1
 have hk'2 := u13.own2 (u8.own2 (own_below (own_mono hk n1.below.size) n7.below) n7.blk (by decide)) k1'4 (by decide)
 have hv_'2 := u13.own2 (u8.own2 (own_below (own_mono hv_ n1.below.size) n7.below) n7.blk (by decide)) k1'4 (by decide)
 exact xec 4 k13 (.tuple #[.agg #[.int .i64 (nodT l), .bool (nodL l), .slice kp (nodC l) kc, .slice vp (nodC l) vc], .int .i64 0]) (.inr ⟨by unfold nodeTE; rw [if_pos hz, if_pos (by omega)], _, _, _, _, rfl, hB'6, hk'2, hv_'2⟩)
set_option maxRecDepth 100000 in
set_option maxHeartbeats 1000000 in
theorem readNode (B b : Nat) (p : Option Addr) (n c : Nat) (l : List UInt8) (no tree : Int) (w : World) (hI : ImgR B b p n c l w) (bt : Nat) (kt : Blk w bt [.int .i64 tree] 3) :
    Calls Tryz.prog 56 #[.pointer (some ⟨b, 0, none⟩), .int .i64 no, .int .i64 2, .func (.func 57) #[] #[.pointer (some ⟨bt, 0, none⟩)]] w (BlkNodeP l no tree w) := by
 refine zin 56 Tryz.func56 ?_
 refine xa 2 [.int .i64 0, .bool false, .slice none 0 0, .slice none 0 0] 52 fun b1 W1 n1 => ?_
 refine xa 5 [.int .i64 0, .bool false, .slice none 0 0, .slice none 0 0] 52 fun b2 W2 n2 => ?_
 have d2_b1 := n2.ne n1.blk
 have hB := Bl.next n1.below n2.below
 refine xc 6 (args := #[.pointer (some ⟨b, 0, none⟩), .int .i64 no]) (image_Read B b p n c l no _ (hI.below hB)) ?_
 rintro e W3 hq3
 rcases hq3 with ⟨ho, vr, rfl, hb3⟩ | ⟨j, hk, hj, p2, c2, rfl, hb3, ho⟩
 · refine xd 16 (.t w.heap.size [52]) ?_
   refine xm2 (.b [1, 2, 3]) 0 4 ?_ ?_
   · have k2 := (n2.blk.below hb3).below (below_drew W3)
     refine xlv 0 k2.rp ?_
     refine yc (.o [] 4) (args := #[.int .i64 no, .iface 53 (.int .i64 3)]) (.t w.heap.size [52]) (block_told no 3 _) ?_
     rintro _ W4 ⟨_, rfl, hb4, hv4⟩
     refine ⟨(SF.of_below _ hb4), ?_⟩
     rw [if_neg (by decide), if_neg (by decide)] at hv4
     have hq4 := hv4
     obtain ⟨bf4, vf4, rfl, _, _⟩ := hq4
     have k1'1 := (((n1.blk.below n2.below).below hb3).below (below_drew W3)).below hb4
     have g1 := n1.ge (Below.refl w.heap.size _)
     refine ysv (.o [] 5) k1'1 [.int .i64 0, .bool false, .slice none 0 0, .slice none 0 0] (.t w.heap.size [52]) fun W5 u5 k5 => ⟨(sft_upd u5 k1'1 g1 (by decide)), ?_⟩
     have hB'1 := u5.below (Bl.next (Bl.next (Bl.next hB hb3) (below_drew W3)) hb4) g1
     have hv4'1 := hv4.upd u5 k1'1 (by decide)
     refine xec (.r [6] 4) k5 (.tuple #[.agg #[.int .i64 0, .bool false, .slice none 0 0, .slice none 0 0], .iface 67 (.pointer (some ⟨bf4, 0, none⟩))]) ?_
     have he : nodeErr l no tree = 3 := by unfold nodeErr; rw [inE_out hI.len ho]; rfl
     exact .inl ⟨by rw [he]; decide, _, rfl, hB'1, by rw [he]; exact hv4'1⟩
   refine yc 0 (args := #[.int .i64 no, .iface 53 (.int .i64 3)]) (.t w.heap.size [52]) (block_told no 3 _) ?_
   rintro _ W6 ⟨_, rfl, hb6, hv6⟩
   refine ⟨(SF.of_below _ hb6), ?_⟩
   rw [if_neg (by decide), if_neg (by decide)] at hv6
   have hq6 := hv6
   obtain ⟨bf6, vf6, rfl, _, _⟩ := hq6
   have k2 := ((n2.blk.below hb3).below (below_drew W3)).below hb6
   refine xlv (.o [] 0) k2.rp ?_
   have k1'2 := (((n1.blk.below n2.below).below hb3).below (below_drew W3)).below hb6
   have g1 := n1.ge (Below.refl w.heap.size _)
   refine ysv (.o [] 5) k1'2 [.int .i64 0, .bool false, .slice none 0 0, .slice none 0 0] (.t w.heap.size [52]) fun W7 u7 k7 => ⟨(sft_upd u7 k1'2 g1 (by decide)), ?_⟩
   have hB'2 := u7.below (Bl.next (Bl.next (Bl.next hB hb3) (below_drew W3)) hb6) g1
   have hv6'1 := hv6.upd u7 k1'2 (by decide)
   refine xec (.r [6] 4) k7 (.tuple #[.agg #[.int .i64 0, .bool false, .slice none 0 0, .slice none 0 0], .iface 67 (.pointer (some ⟨bf6, 0, none⟩))]) ?_
   have he : nodeErr l no tree = 3 := by unfold nodeErr; rw [inE_out hI.len ho]; rfl
   exact .inl ⟨by rw [he]; decide, _, rfl, hB'2, by rw [he]; exact hv6'1⟩
 have hs3 := (Bl.next n1.below n2.below).size
 have hj2 : j < l.length / 256 := by rw [hI.len]; exact hj
 have hlj := blkB_len hj2
 have he2 := inE_in (l := l) (kind := 2) hI.len hk hj
 have ho'1 := own_mono ho hs3
 refine xc 22 (args := #[.slice p2 256 c2, .int .i64 2, .int .i64 no]) (seal_OpenN 2 no p2 256 c2 (blkB l j) _ hlj (bys_of (own_sl ho'1) hlj)) ?_
 rintro e W8 hq8
 rcases hq8 with ⟨hs, rfl, hb8⟩ | ⟨hs, p3, c3, rfl, hb8, h3⟩
 · refine xk 14 (show (((openE 2 no (blkB l j)) != (0 : Int)) : Bool) = true from bne_iff_ne.2 hs) ?_
   refine xd 1 (.t w.heap.size [52]) ?_
   refine xm2 (.b [1, 2, 3]) 0 4 ?_ ?_
   · have k2 := ((n2.blk.below hb3).below hb8).below (below_drew W8)
     refine xlv 0 k2.rp ?_
     refine yc (.o [] 4) (args := #[.int .i64 no, .iface 53 (.int .i64 (openE 2 no (blkB l j)))]) (.t w.heap.size [52]) (block_told no (openE 2 no (blkB l j)) _) ?_
     rintro _ W9 ⟨_, rfl, hb9, hv9⟩
     refine ⟨(SF.of_below _ hb9), ?_⟩
     rw [if_neg hs, if_neg hs] at hv9
     have hq9 := hv9
     obtain ⟨bf9, vf9, rfl, _, _⟩ := hq9
     have k1'3 := ((((n1.blk.below n2.below).below hb3).below hb8).below (below_drew W8)).below hb9
     have g1 := n1.ge (Below.refl w.heap.size _)
     refine ysv (.o [] 5) k1'3 [.int .i64 0, .bool false, .slice none 0 0, .slice none 0 0] (.t w.heap.size [52]) fun W10 u10 k10 => ⟨(sft_upd u10 k1'3 g1 (by decide)), ?_⟩
     have hB'3 := u10.below (Bl.next (Bl.next (Bl.next (Bl.next hB hb3) hb8) (below_drew W8)) hb9) g1
     have hv9'1 := hv9.upd u10 k1'3 (by decide)
     refine xec (.r [6] 4) k10 (.tuple #[.agg #[.int .i64 0, .bool false, .slice none 0 0, .slice none 0 0], .iface 67 (.pointer (some ⟨bf9, 0, none⟩))]) ?_
     have he : nodeErr l no tree = openE 2 no (blkB l j) := by unfold nodeErr; rw [he2, if_neg hs]
     exact .inl ⟨by rw [he]; exact hs, _, rfl, hB'3, by rw [he]; exact hv9'1⟩
   refine yc 0 (args := #[.int .i64 no, .iface 53 (.int .i64 (openE 2 no (blkB l j)))]) (.t w.heap.size [52]) (block_told no (openE 2 no (blkB l j)) _) ?_
   rintro _ W11 ⟨_, rfl, hb11, hv11⟩
   refine ⟨(SF.of_below _ hb11), ?_⟩
   rw [if_neg hs, if_neg hs] at hv11
   have hq11 := hv11
   obtain ⟨bf11, vf11, rfl, _, _⟩ := hq11
   have k2 := (((n2.blk.below hb3).below hb8).below (below_drew W8)).below hb11
   refine xlv (.o [] 0) k2.rp ?_
   have k1'4 := ((((n1.blk.below n2.below).below hb3).below hb8).below (below_drew W8)).below hb11
   have g1 := n1.ge (Below.refl w.heap.size _)
   refine ysv (.o [] 5) k1'4 [.int .i64 0, .bool false, .slice none 0 0, .slice none 0 0] (.t w.heap.size [52]) fun W12 u12 k12 => ⟨(sft_upd u12 k1'4 g1 (by decide)), ?_⟩
   have hB'4 := u12.below (Bl.next (Bl.next (Bl.next (Bl.next hB hb3) hb8) (below_drew W8)) hb11) g1
   have hv11'1 := hv11.upd u12 k1'4 (by decide)
   refine xec (.r [6] 4) k12 (.tuple #[.agg #[.int .i64 0, .bool false, .slice none 0 0, .slice none 0 0], .iface 67 (.pointer (some ⟨bf11, 0, none⟩))]) ?_
   have he : nodeErr l no tree = openE 2 no (blkB l j) := by unfold nodeErr; rw [he2, if_neg hs]
   exact .inl ⟨by rw [he]; exact hs, _, rfl, hB'4, by rw [he]; exact hv11'1⟩
 have hs8 := (Bl.next hB hb3).size
 have h3'1 := own_mono h3 hs8
 have hin : ((blkB l j).drop 8).take 244 = inB l no := (inB_in hk).symm
 have hil := inB_len hI.len hk hj
 rw [hin] at h3'1
 have hB'5 := Bl.next (Bl.next hB hb3) hb8
 refine xc 21 (args := #[.slice p3 244 c3, .pointer (some ⟨bt, 0, none⟩)]) (node_1 tree bt p3 c3 (inB l no) _ (kt.below hB'5) hil (bys_of (own_sl h3'1) hil)) ?_
 rintro e W13 hq13
 rcases hq13 with ⟨hz, a5, b5, kp, m1, kc, vp, m2, vc, rfl, hb13⟩ | ⟨hz, kp, kc, vp, vc, rfl, hb13, hk, hv_⟩
 · refine xa 3 [.int .i64 0, .bool false, .slice none 0 0, .slice none 0 0] 52 fun b14 W14 n14 => ?_
   have k1'5 := (((n1.blk.below n2.below).below hb3).below hb8).below hb13
   have d14_b1 := n14.ne k1'5
   have k2 := ((n2.blk.below hb3).below hb8).below hb13
   have d14_b2 := n14.ne k2
   have hB'6 := Bl.next hB'5 hb13
   have g14 := n14.ge hB'6
   refine xsv 0 n14.blk [.int .i64 a5, .bool b5, .slice kp m1 kc, .slice vp m2 vc] fun W15 u15 k15 => ?_
   refine xk 10 (show (((nodeTE (inB l no) tree) != (0 : Int)) : Bool) = true from bne_iff_ne.2 hz) ?_
   refine xd 1 (.t w.heap.size [52]) ?_
   refine xm2 (.b [1, 2, 3]) 0 4 ?_ ?_
   · have k2'1 := (u15.blk (k2.below n14.below) (Ne.symm (Ne.symm d14_b2))).below (below_drew W15)
     refine xlv 0 k2'1.rp ?_
     refine yc (.o [] 4) (args := #[.int .i64 no, .iface 53 (.int .i64 (nodeTE (inB l no) tree))]) (.t w.heap.size [52]) (block_told no (nodeTE (inB l no) tree) _) ?_
     rintro _ W16 ⟨_, rfl, hb16, hv16⟩
     refine ⟨(SF.of_below _ hb16), ?_⟩
     rw [if_neg hz, if_neg hz] at hv16
     have hq16 := hv16
     obtain ⟨bf16, vf16, rfl, _, _⟩ := hq16
     have k1'6 := ((u15.blk (k1'5.below n14.below) (Ne.symm (Ne.symm d14_b1))).below (below_drew W15)).below hb16
     have g1 := n1.ge (Below.refl w.heap.size _)
     refine ysv (.o [] 5) k1'6 [.int .i64 0, .bool false, .slice none 0 0, .slice none 0 0] (.t w.heap.size [52]) fun W17 u17 k17 => ⟨(sft_upd u17 k1'6 g1 (by decide)), ?_⟩
     have hB'7 := u17.below (Bl.next (Bl.next (u15.below (Bl.next hB'6 n14.below) g14) (below_drew W15)) hb16) g1
     have hv16'1 := hv16.upd u17 k1'6 (by decide)
     refine xec (.r [6] 4) k17 (.tuple #[.agg #[.int .i64 0, .bool false, .slice none 0 0, .slice none 0 0], .iface 67 (.pointer (some ⟨bf16, 0, none⟩))]) ?_
     have he : nodeErr l no tree = nodeTE (inB l no) tree := by unfold nodeErr; rw [he2, if_pos hs]
     exact .inl ⟨by rw [he]; exact hz, _, rfl, hB'7, by rw [he]; exact hv16'1⟩
   refine yc 0 (args := #[.int .i64 no, .iface 53 (.int .i64 (nodeTE (inB l no) tree))]) (.t w.heap.size [52]) (block_told no (nodeTE (inB l no) tree) _) ?_
   rintro _ W18 ⟨_, rfl, hb18, hv18⟩
   refine ⟨(SF.of_below _ hb18), ?_⟩
   rw [if_neg hz, if_neg hz] at hv18
   have hq18 := hv18
   obtain ⟨bf18, vf18, rfl, _, _⟩ := hq18
   have k2'2 := ((u15.blk (k2.below n14.below) (Ne.symm (Ne.symm d14_b2))).below (below_drew W15)).below hb18
   refine xlv (.o [] 0) k2'2.rp ?_
   have k1'7 := ((u15.blk (k1'5.below n14.below) (Ne.symm (Ne.symm d14_b1))).below (below_drew W15)).below hb18
   have g1 := n1.ge (Below.refl w.heap.size _)
   refine ysv (.o [] 5) k1'7 [.int .i64 0, .bool false, .slice none 0 0, .slice none 0 0] (.t w.heap.size [52]) fun W19 u19 k19 => ⟨(sft_upd u19 k1'7 g1 (by decide)), ?_⟩
   have hB'8 := u19.below (Bl.next (Bl.next (u15.below (Bl.next hB'6 n14.below) g14) (below_drew W15)) hb18) g1
   have hv18'1 := hv18.upd u19 k1'7 (by decide)
   refine xec (.r [6] 4) k19 (.tuple #[.agg #[.int .i64 0, .bool false, .slice none 0 0, .slice none 0 0], .iface 67 (.pointer (some ⟨bf18, 0, none⟩))]) ?_
   have he : nodeErr l no tree = nodeTE (inB l no) tree := by unfold nodeErr; rw [he2, if_pos hs]
   exact .inl ⟨by rw [he]; exact hz, _, rfl, hB'8, by rw [he]; exact hv18'1⟩
 have hs13 := (Bl.next (Bl.next hB hb3) hb8).size
 refine xa 3 [.int .i64 0, .bool false, .slice none 0 0, .slice none 0 0] 52 fun b20 W20 n20 => ?_
 have k1'8 := (((n1.blk.below n2.below).below hb3).below hb8).below hb13
 have d20_b1 := n20.ne k1'8
 have k2 := ((n2.blk.below hb3).below hb8).below hb13
 have d20_b2 := n20.ne k2
 have hB'9 := Bl.next hB'5 hb13
 have g20 := n20.ge hB'9
 refine xsv 0 n20.blk [.int .i64 (nodT (inB l no)), .bool (nodL (inB l no)), .slice kp (nodC (inB l no)) kc, .slice vp (nodC (inB l no)) vc] fun W21 u21 k21 => ?_
 refine xlv 15 k21.rp ?_
 have k1'9 := u21.blk (k1'8.below n20.below) (Ne.symm (Ne.symm d20_b1))
 refine xsv 0 k1'9 [.int .i64 (nodT (inB l no)), .bool (nodL (inB l no)), .slice kp (nodC (inB l no)) kc, .slice vp (nodC (inB l no)) vc] fun W22 u22 k22 => ?_
 have g1 := n1.ge (Below.refl w.heap.size _)
 have hB'10 := u22.below (u21.below (Bl.next hB'9 n20.below) g20) g1
 have hk'1 := u22.own2 (u21.own2 (own_below (own_mono hk hs13) n20.below) n20.blk (by decide)) k1'9 (by decide)
 have hv_'1 := u22.own2 (u21.own2 (own_below (own_mono hv_ hs13) n20.below) n20.blk (by decide)) k1'9 (by decide)
 exact xec 4 k22 (.tuple #[.agg #[.int .i64 (nodT (inB l no)), .bool (nodL (inB l no)), .slice kp (nodC (inB l no)) kc, .slice vp (nodC (inB l no)) vc], .nilIface]) (.inr ⟨by unfold nodeErr; rw [he2, if_pos hs, hz], _, _, _, _, rfl, hB'10, hk'1, hv_'1⟩)
set_option maxRecDepth 100000 in
set_option maxHeartbeats 1000000 in
theorem block_Node (B b : Nat) (p : Option Addr) (n c : Nat) (l : List UInt8) (no tree : Int) (w : World) (hI : ImgR B b p n c l w) :
    Calls Tryz.prog 21 #[.pointer (some ⟨b, 0, none⟩), .int .i64 no, .int .i64 tree] w (BlkNodeP l no tree w) := by
 refine zin 14 Tryz.func21 ?_
 refine xa 2 [.int .i64 tree] 3 fun b1 W1 n1 => ?_
 refine xa 0 [.int .i64 0, .bool false, .slice none 0 0, .slice none 0 0] 52 fun b2 W2 n2 => ?_
 have hB := Bl.next n1.below n2.below
 have k1 := n1.blk.below n2.below
 refine xc 8 (args := #[.pointer (some ⟨b, 0, none⟩), .int .i64 no, .int .i64 2, .func (.func 57) #[] #[.pointer (some ⟨b1, 0, none⟩)]]) (readNode B b p n c l no tree _ (hI.below hB) b1 k1) ?_
 rintro e W3 hq3
 rcases hq3 with ⟨he, bf, rfl, hb3, hv⟩ | ⟨he, kp, kc, vp, vc, rfl, hb3, hk, hv_⟩
 · have k2 := n2.blk.below hb3
   refine xsv 2 k2 [.int .i64 0, .bool false, .slice none 0 0, .slice none 0 0] fun W4 u4 k4 => ?_
   have g2 := n2.ge n1.below
   have hB'1 := u4.below (Bl.next hB hb3) g2
   have hv'1 := hv.upd u4 k2 (by decide)
   exact xec 4 k4 (.tuple #[.agg #[.int .i64 0, .bool false, .slice none 0 0, .slice none 0 0], .iface 67 (.pointer (some ⟨bf, 0, none⟩))]) (.inl ⟨he, _, rfl, hB'1, hv'1⟩)
 have hs3 := (Bl.next n1.below n2.below).size
 have k2 := n2.blk.below hb3
 refine xsv 2 k2 [.int .i64 (nodT (inB l no)), .bool (nodL (inB l no)), .slice kp (nodC (inB l no)) kc, .slice vp (nodC (inB l no)) vc] fun W5 u5 k5 => ?_
 have g2 := n2.ge n1.below
 have hB'2 := u5.below (Bl.next hB hb3) g2
 have hk'1 := u5.own2 (own_mono hk hs3) k2 (by decide)
 have hv_'1 := u5.own2 (own_mono hv_ hs3) k2 (by decide)
 exact xec 4 k5 (.tuple #[.agg #[.int .i64 (nodT (inB l no)), .bool (nodL (inB l no)), .slice kp (nodC (inB l no)) kc, .slice vp (nodC (inB l no)) vc], .nilIface]) (.inr ⟨he, _, _, _, _, rfl, hB'2, hk'1, hv_'1⟩)
end Go.Proofs.YtinegkldgjhnpaaGreatDoor
namespace Go.Proofs.YtinegkldgjhnpaaGreatDoor
open Go.RowKit Go.Extern.Stop Go.Stop Go.Extern
set_option linter.unusedVariables false
attribute [local irreducible] wpList wpAnyH Code.wp Oper.wp Go

theorem ext_getD {l l' : List UInt8} (h : l.length = l'.length) (h2 : ∀ j, j < l.length → l.getD j 0 = l'.getD j 0) : l = l' := by
  apply List.ext_getElem h
  intro j h3 h4
  have := h2 j h3
  simpa [List.getD, h3, h4] using this
theorem putB_get {l : List UInt8} {k : Nat} {x : List UInt8} (h : k + x.length ≤ l.length) (j : Nat) : (putB l k x).getD j 0 = if k ≤ j ∧ j < k + x.length then x.getD (j - k) 0 else l.getD j 0 := by
  unfold putB
  simp only [List.getD]
  rw [List.append_assoc, List.getElem?_append, List.getElem?_append]
  have e : (l.take k).length = k := by simp; omega
  rw [e]
  by_cases h1 : j < k
  · rw [if_pos h1, if_neg (by omega), List.getElem?_take, if_pos h1]
  · rw [if_neg h1]
    by_cases h2 : j - k < x.length
    · rw [if_pos h2, if_pos (by omega)]
    · rw [if_neg h2, if_neg (by omega), List.getElem?_drop, show k + x.length + (j - k - x.length) = j by omega]
theorem rawN_congr {l l' : List UInt8} : ∀ (w k : Nat), (∀ j, k ≤ j → j < k + w → l.getD j 0 = l'.getD j 0) → rawN l k w = rawN l' k w
  | 0, k, h => rfl
  | w + 1, k, h => by rw [rawN, rawN, h k (by omega) (by omega), rawN_congr w (k + 1) fun j h1 h2 => h j (by omega) (by omega)]
theorem rawN_bytes {l : List UInt8} : ∀ (w k m : Nat), (∀ i, i < w → l.getD (k + i) 0 = UInt8.ofNat (m / 256 ^ i)) → rawN l k w = m % 256 ^ w
  | 0, k, m, h => by simp [rawN, Nat.mod_one]
  | w + 1, k, m, h => by
    have h0 := h 0 (by omega)
    simp only [Nat.add_zero, Nat.pow_zero, Nat.div_one] at h0
    have h1 := rawN_bytes (l := l) w (k + 1) (m / 256) fun i hi => by
      have := h (i + 1) (by omega)
      rw [Nat.pow_succ, Nat.mul_comm, ← Nat.div_div_eq_div_mul] at this
      rw [show k + 1 + i = k + (i + 1) by omega]; exact this
    rw [rawN, h0, h1, Nat.pow_succ, Nat.mul_comm (256 ^ w) 256, Nat.mod_mul]
    congr 1
theorem rawN_put {l : List UInt8} {k w : Nat} {n : Int} (h : k + w ≤ l.length) (h0 : 0 ≤ n) (hb : n.toNat < 256 ^ w) : (rawN (putB l k (leB n w)) k w : Int) = n := by
  rw [rawN_bytes w k n.toNat, Nat.mod_eq_of_lt hb]
  · omega
  · intro i hi
    rw [putB_get (by rw [leB_len]; exact h), if_pos (by rw [leB_len]; omega), show k + i - k = i by omega]
    simp [leB, byteAt, List.getD, List.getElem?_range hi]
theorem rawN_put_other {l x : List UInt8} {k j w : Nat} (h : k + x.length ≤ l.length) (hd : j + w ≤ k ∨ k + x.length ≤ j) : rawN (putB l k x) j w = rawN l j w :=
  rawN_congr w j fun i h1 h2 => by rw [putB_get h, if_neg (by omega)]
theorem rawN_zero {l : List UInt8} {k w : Nat} (h : ∀ j, k ≤ j → j < k + w → l.getD j 0 = 0) : rawN l k w = 0 := by
  have := rawN_bytes (l := l) w k 0 fun i hi => by rw [h (k + i) (by omega) (by omega)]; simp
  simpa using this
theorem sumB_put {l x : List UInt8} {kind : Int} (h : 252 ≤ l.length) : sumB (putB l 252 x) kind = sumB l kind := by
  unfold sumB putB
  rw [List.append_assoc, List.take_append_of_le_length (by simp; omega), List.take_take]; rfl
theorem zeros_get (n j : Nat) : (List.replicate n (0 : UInt8)).getD j 0 = 0 := by
  simp [List.getD, List.getElem?_replicate]; split <;> rfl
/-- what lies within a sealed block -/
def inSeal (li : List UInt8) : List UInt8 := li ++ List.replicate (244 - li.length) 0
theorem open_seal {kind no : Int} {li : List UInt8} (h1 : 1 ≤ kind) (h2 : kind ≤ 4) (h3 : 0 ≤ no) (h4 : no < 14400) (hl : li.length ≤ 244) : openE kind no (sealB kind no li) = 0 := by
  have l1 := seal1_len hl
  have l2 := seal2_len (no := no) hl
  have l3 := seal3_len (kind := kind) (no := no) hl
  have l4 := sealB_len (kind := kind) (no := no) hl
  have a0 : askB kind no (sealB kind no li) 0 = false := by simp only [askB]; rw [show knownB kind no = true from decide_eq_true (by omega)]; rfl
  have a1 : askB kind no (sealB kind no li) 1 = false := by simp only [askB, l4]; rfl
  have a2 : askB kind no (sealB kind no li) 2 = false := by
    have hs : sumB (sealB kind no li) kind = sumB (seal3 kind no li) kind := by unfold sealB; exact sumB_put (by omega)
    have hr : (rawN (sealB kind no li) 252 4 : Int) = (sumB (seal3 kind no li) kind : Int) := by
      unfold sealB
      exact rawN_put (by omega) (by omega) (by have := sumB_lt (seal3 kind no li) kind; simpa using this)
    simp only [askB, hr, hs]; simp
  have a3 : askB kind no (sealB kind no li) 3 = false := by
    have hr : (rawN (sealB kind no li) 0 4 : Int) = no := by
      unfold sealB
      rw [rawN_put_other (by rw [leB_len]; omega) (.inl (by omega))]
      unfold seal3
      rw [rawN_put_other (by rw [leB_len]; omega) (.inl (by omega))]
      unfold seal2
      exact rawN_put (by omega) (by omega) (by omega)
    simp only [askB, hr]; simp
  have a4 : askB kind no (sealB kind no li) 4 = false := by
    have hr : (rawN (sealB kind no li) 4 2 : Int) = kind := by
      unfold sealB
      rw [rawN_put_other (by rw [leB_len]; omega) (.inl (by omega))]
      unfold seal3
      exact rawN_put (by omega) (by omega) (by omega)
    simp only [askB, hr]; simp
  have a5 : askB kind no (sealB kind no li) 5 = false := by
    have hr : rawN (sealB kind no li) 6 2 = 0 := by
      unfold sealB
      rw [rawN_put_other (by rw [leB_len]; omega) (.inl (by omega))]
      unfold seal3
      rw [rawN_put_other (by rw [leB_len]; omega) (.inr (by rw [leB_len]; omega))]
      unfold seal2
      rw [rawN_put_other (by rw [leB_len]; omega) (.inr (by rw [leB_len]; omega))]
      unfold seal1
      rw [rawN_put_other (by rw [List.length_replicate]; omega) (.inl (by omega))]
      exact rawN_zero fun j _ _ => zeros_get 256 j
    simp only [askB, hr]; rfl
  simp [openE, a0, a1, a2, a3, a4, a5]
theorem in_seal {kind no : Int} {li : List UInt8} (hl : li.length ≤ 244) : ((sealB kind no li).drop 8).take 244 = inSeal li := by
  have l1 := seal1_len hl
  have l2 := seal2_len (no := no) hl
  have l3 := seal3_len (kind := kind) (no := no) hl
  have l4 := sealB_len (kind := kind) (no := no) hl
  apply ext_getD
  · simp [inSeal, l4]; omega
  · intro j hj
    have hj2 : j < 244 := by simp [l4] at hj; omega
    have e : (((sealB kind no li).drop 8).take 244).getD j 0 = (sealB kind no li).getD (8 + j) 0 := by
      simp only [List.getD]; rw [List.getElem?_take, if_pos hj2, List.getElem?_drop]
    rw [e]
    unfold sealB
    rw [putB_get (by rw [leB_len]; omega), if_neg (by rw [leB_len]; omega)]
    unfold seal3
    rw [putB_get (by rw [leB_len]; omega), if_neg (by rw [leB_len]; omega)]
    unfold seal2
    rw [putB_get (by rw [leB_len]; omega), if_neg (by rw [leB_len]; omega)]
    unfold seal1
    rw [putB_get (by rw [List.length_replicate]; omega), zeros_get]
    unfold inSeal
    simp only [List.getD]
    rw [List.getElem?_append]
    by_cases h : j < li.length
    · rw [if_pos ⟨by omega, by omega⟩, if_pos h, show 8 + j - 8 = j by omega]
    · rw [if_neg (by omega), if_neg h]
      have := zeros_get (244 - li.length) (j - li.length)
      simp only [List.getD] at this
      exact this.symm
/-- a block that was written stands in the image -/
theorem blkB_put {l x : List UInt8} {k : Nat} (hx : x.length = 256) (hk : k < l.length / 256) : blkB (putB l (k * 256) x) k = x := by
  have hkl : k * 256 + 256 ≤ l.length := by omega
  have hp := putB_len (l := l) (k := k * 256) (x := x) (by omega)
  apply ext_getD
  · rw [blkB_len (by rw [hp]; exact hk), hx]
  · intro j hj
    rw [blkB_len (by rw [hp]; exact hk)] at hj
    have e : (blkB (putB l (k * 256) x) k).getD j 0 = (putB l (k * 256) x).getD (k * 256 + j) 0 := by
      simp only [blkB, List.getD]; rw [List.getElem?_take, if_pos hj, List.getElem?_drop]
    rw [e, putB_get (by omega), if_pos (by omega), show k * 256 + j - k * 256 = j by omega]
theorem blkB_put_other {l x : List UInt8} {k i : Nat} (hx : x.length = 256) (hk : k < l.length / 256) (hne : i ≠ k) (hi : i < l.length / 256) : blkB (putB l (k * 256) x) i = blkB l i := by
  have hkl : k * 256 + 256 ≤ l.length := by omega
  have hp := putB_len (l := l) (k := k * 256) (x := x) (by omega)
  apply ext_getD
  · rw [blkB_len (by rw [hp]; exact hi), blkB_len hi]
  · intro j hj
    rw [blkB_len (by rw [hp]; exact hi)] at hj
    have e : ∀ l : List UInt8, (blkB l i).getD j 0 = l.getD (i * 256 + j) 0 := fun l => by
      simp only [blkB, List.getD]; rw [List.getElem?_take, if_pos hj, List.getElem?_drop]
    rw [e, e, putB_get (by omega), if_neg (by omega)]
end Go.Proofs.YtinegkldgjhnpaaGreatDoor
namespace Go.Proofs.YtinegkldgjhnpaaGreatDoor
open Go.RowKit Go.Extern.Stop Go.Stop Go.Extern
set_option linter.unusedVariables false
section
variable {P : Program} {a : Act} {w : World} {K : Act → World → Prop} {Q : Exit → Act → World → Prop}
theorem strCells_bv (l : List UInt8) : Lib.strCells ⟨l.toArray⟩ = l.map bv := by
  unfold Lib.strCells bv
  simp
theorem op_appS {o : Oper} {s x : Operand} {t u e : TypeId} {base : Nat} {v : Value} {n : Nat} {xs : List Value} (l : List UInt8) (n' : Nat) (xs' : List Value) (ho : o.op = .call { callee := .builtin .append, args := #[s, x], argTypes := #[t, u] })
    (ht : P.underlying t = some (.slice e)) (hu : P.underlying u = some .string) (hi : (P.info? e).map (fun i => (i.zero, i.size, i.bytes)) = some (some (.int .u8 0), 1, 1)) (hs : a.eval s = v) (hown : w.ownsRow base e 1 v n xs) (hx : a.eval x = .string ⟨l.toArray⟩)
    (hb : n + l.length ≤ 100000000) (hbase : base ≤ w.heap.size) (hn : n + l.length = n') (hxs : xs ++ l.map bv = xs')
    (h : ∀ b c W, W.ownsRow base e 1 (.slice b n' c) n' xs' → w.grownBy W v.ownBlock → Below base w W → K (a.put o.dst (.slice b n' c)) W) : o.wp P a w K Q := by
  cases hq : P.info? e with
  | none => simp [hq] at hi
  | some i =>
    simp only [hq, Option.map_some, Option.some.injEq, Prod.mk.injEq] at hi
    have hsz : (⟨l.toArray⟩ : ByteArray).size = l.length := by simp [ByteArray.size]
    obtain ⟨v', W, hr, h2, h3, _⟩ := Lib.run_append_own_string (P := P) w base t u o.type e i ht hu hq hi.1 hi.2.1 hi.2.2 v n xs hown ⟨l.toArray⟩ (by rw [hsz]; unfold maxLen; omega) (by rw [hsz]; omega) hbase
    rw [hsz, strCells_bv] at h2
    subst hn hxs
    obtain ⟨b, c, rfl⟩ := (own_sl h2).slice
    unfold Oper.wp execOp
    simp only [ho, resolve, invoke, builtin, Sem.run_bind, Sem.run_pure, Result.andThen_ok, List.map_toArray, List.map_cons, List.map_nil, hs, hx, hr]
    exact h b c W h2 h3 (grown_below h3 hown (Nat.le_refl _) hbase)
theorem elemAddr_own (g k : Nat) : elemAddr (some ⟨g, 0, none⟩) (k * 1) = ⟨g, k, none⟩ := by
  simp [elemAddr, Addr.add]; exact fun h => h.symm
theorem op_storeRow {o : Oper} {t e : TypeId} {x y : Operand} {g n c k base : Nat} {xs : List Value} {v : Value} (ho : o.op = .store t x y) (hx : a.eval x = .pointer (some (elemAddr (some ⟨g, 0, none⟩) (k * 1)))) (hy : a.eval y = v)
    (hi : (P.info? t).map (·.size) = some 1) (h1 : v.oneCell' = true) (hown : w.ownsRow base e 1 (.slice (some ⟨g, 0, none⟩) n c) n xs) (hk : k < n)
    (h : ∀ W, Upd w g W → W.ownsRow base e 1 (.slice (some ⟨g, 0, none⟩) n c) n (xs.set k v) → K (a.put o.dst undef) W) : o.wp P a w K Q := by
  obtain ⟨hl, h2⟩ := hown
  rcases h2 with ⟨h2, _⟩ | ⟨g', cap, cur, hv, hg, hh, hc, hm, hsz, htk⟩
  · cases h2
  · simp only [Value.slice.injEq, Option.some.injEq, Addr.mk.injEq] at hv
    obtain ⟨⟨rfl, _⟩, _, rfl⟩ := hv
    have hb : Blk w g cur.toList e := by unfold Blk; simpa using hh
    rw [elemAddr_own] at hx
    refine op_store ho hx hy hi h1 hb (by simp; omega) fun W hu hW => h W hu ⟨by simpa using hl, .inr ⟨g, c, (cur.toList.set k v).toArray, rfl, hg, hW, hc, hm, by simpa using hsz, ?_⟩⟩
    rw [← htk]
    simp [List.take_set]
end
section
variable {P : Program} {ops : Array Oper} {Q : Exit → Act → World → Prop} {a a' : Act} {w : World} {S : World → Prop} {md : Region.Mode} {L L' : Array Bool} {fuel : Nat}
theorem h_three {o o2 o3 : Oper} (i j m fuel : Nat) {f0 : Nat} (hf : f0 = fuel + 1) (hr : Region.ready md ops L = [i, j, m]) (ho : ops.toList[i]? = some o) (ho2 : ops.toList[j]? = some o2) (ho3 : ops.toList[m]? = some o3) (hw : Region.wanted o (yielded ops a.tmps) = true) (hw2 : Region.wanted o2 (yielded ops a.tmps) = true) (hw3 : Region.wanted o3 (yielded ops a.tmps) = true)
    (h : o.wp P a w (fun a' w' => S w' ∧ wpAnyH P md ops Q S fuel (L.setIfInBounds i true) a' w') Q) (h2 : o2.wp P a w (fun a' w' => S w' ∧ wpAnyH P md ops Q S fuel (L.setIfInBounds j true) a' w') Q) (h3 : o3.wp P a w (fun a' w' => S w' ∧ wpAnyH P md ops Q S fuel (L.setIfInBounds m true) a' w') Q) : wpAnyH P md ops Q S f0 L a w := by
  subst hf
  refine wpAnyH_all hr (by simp) fun k hk => ?_
  have ho' : ops[i]? = some o := by rw [← ho]; simp
  have ho2' : ops[j]? = some o2 := by rw [← ho2]; simp
  have ho3' : ops[m]? = some o3 := by rw [← ho3]; simp
  rcases List.mem_cons.1 hk with rfl | hk
  · unfold wpOp; simp only [ho', hw, if_true]; exact .inl h
  · rcases List.mem_cons.1 hk with rfl | hk
    · unfold wpOp; simp only [ho2', hw2, if_true]; exact .inl h2
    · obtain rfl : k = m := by simpa using hk
      unfold wpOp; simp only [ho3', hw3, if_true]; exact .inl h3
end
theorem res_tc {P : Program} {fn : Func} {tmps : Array Value} {w : World} {k j : Nat} {t : TypeId} {b off : Nat} {cs : List Value} {d : TypeDesc} {u : Value} (hfn : fn.results = #[.tmp j, .cell k t]) (e : tmps.getD k undef = .pointer (some ⟨b, off, none⟩)) (e2 : tmps.getD j undef = u) (hc : w.rangeAt b off cs)
    (hu : P.underlying t = some d) (hd : d.isRow = true) (hi : (P.info? t).map (·.size) = some cs.length) : (results fn tmps).run P w = .ok (.tuple #[u, .agg cs.toArray]) w := by
  have h := run_loadVar_mid w b off t cs d hc hu hd hi
  have e' : tmps[k]?.getD undef = .pointer (some ⟨b, off, none⟩) := by simpa using e
  have e2' : tmps[j]?.getD undef = u := by simpa using e2
  simp [results, hfn, e', e2', asAddr, h]
theorem own_ge {w : World} {base e size g n c : Nat} {xs : List Value} (h : w.ownsRow base e size (.slice (some ⟨g, 0, none⟩) n c) n xs) : base ≤ g := (h.lt g rfl).1
theorem own_blk {w : World} {base e size g n c : Nat} {xs : List Value} (h : w.ownsRow base e size (.slice (some ⟨g, 0, none⟩) n c) n xs) : ∃ cs, Blk w g cs e := by
  rcases h.2 with ⟨h2, _⟩ | ⟨g', cap, cur, hv, hg, hh, _⟩
  · cases h2
  · simp only [Value.slice.injEq, Option.some.injEq, Addr.mk.injEq] at hv
    obtain ⟨⟨rfl, _⟩, _⟩ := hv
    exact ⟨cur.toList, by unfold Blk; simpa using hh⟩
theorem own_blk_ne {w : World} {base e size g n c b : Nat} {t : TypeId} {xs cs : List Value} (k : Blk w b cs t) (h : w.ownsRow base e size (.slice (some ⟨g, 0, none⟩) n c) n xs) (hne : t ≠ e) : b ≠ g := by
  rintro rfl
  obtain ⟨cs', k'⟩ := own_blk h
  have h1 : w.heap[b]? = some (.cells cs.toArray t (0, 0)) := k
  rw [show w.heap[b]? = some (.cells cs'.toArray e (0, 0)) from k'] at h1
  simp only [Option.some.injEq, Obj.cells.injEq] at h1
  exact hne h1.2.1.symm
theorem Only.of_updRow {T : List TypeId} {w W : World} {base e size g n c : Nat} {xs : List Value} (u : Upd w g W) (h : w.ownsRow base e size (.slice (some ⟨g, 0, none⟩) n c) n xs) (hT : T.contains e = true) : Only T w W := by
  obtain ⟨cs, k⟩ := own_blk h
  exact Only.of_upd u k hT
theorem Upd.ownRow {w W : World} {base base2 e e2 size size2 g n c n2 : Nat} {v : Value} {xs ys : List Value} (u : Upd w g W) (h : w.ownsRow base2 e2 size2 v n2 ys) (o : w.ownsRow base e size (.slice (some ⟨g, 0, none⟩) n c) n xs) (hne : e2 ≠ e) : W.ownsRow base2 e2 size2 v n2 ys := by
  obtain ⟨cs, k⟩ := own_blk o
  exact u.own2 h k hne
end Go.Proofs.YtinegkldgjhnpaaGreatDoor
namespace Go.Proofs.YtinegkldgjhnpaaGreatDoor
open Go.RowKit Go.Extern.Stop Go.Stop Go.Extern
set_option linter.unusedVariables false
attribute [local irreducible] wpList wpAnyH Code.wp Oper.wp Go

theorem op_strBytes {P : Program} {a : Act} {w : World} {K : Act → World → Prop} {Q : Exit → Act → World → Prop} {o : Oper} {src dst e : TypeId} {x : Operand} (l : List UInt8) (ho : o.op = .convert src dst x) (hx : a.eval x = .string ⟨l.toArray⟩)
    (hs : P.underlying src = some .string) (hd : P.underlying dst = some (.slice e)) (he : P.underlying e = some (.int .u8)) (hl : l.length ≤ 1000000)
    (k : ∀ b c W, Below w.heap.size w W → Bys W (.slice (some ⟨b, 0, none⟩) l.length c) l → K (a.put o.dst (.slice (some ⟨b, 0, none⟩) l.length c)) W) : o.wp P a w K Q := by
  have hr := run_bytes_of_string (P := P) w src dst e ⟨l.toArray⟩ hs hd he
  have hsz : (⟨l.toArray⟩ : ByteArray).size = l.length := by simp [ByteArray.size]
  rw [hsz] at hr
  obtain ⟨W1, hW1⟩ : ∃ W1, W1 = w.drew.alloc (.cells (bytesRow ⟨l.toArray⟩ (grownCap w l.length 0 e)) e ((bytesRow ⟨l.toArray⟩ (grownCap w l.length 0 e)).size, (bytesRow ⟨l.toArray⟩ (grownCap w l.length 0 e)).size + 1)) := ⟨_, rfl⟩
  rw [← hW1] at hr
  have h2 : (execOp a.eval o).run P w = .ok (.value (.slice (some ⟨w.heap.size, 0, none⟩) l.length (grownCap w l.length 0 e))) W1 := by
    simp only [execOp, ho, hx, Sem.run_bind, hr]; rfl
  refine op_val h2 (k _ _ _ (by rw [hW1]; exact (below_drew w).trans (show Below w.drew.heap.size w.drew _ from Bl.box w.drew _)) (.inr ⟨w.heap.size, 0, _, rfl, grownCap_ge w l.length 0 e, grownCap_le_maxLen w l.length 0 e (by unfold maxLen; omega), fun j y hj => ?_⟩))
  have hjl : j < l.length := by have := (List.getElem?_eq_some_iff.1 hj).1; simpa using this
  have hb := bytesRow_at ⟨l.toArray⟩ (grownCap w l.length 0 e) j (by simpa using hjl)
  have hy : y = .int .u8 ((l.toArray[j]'(by simpa using hjl)).toNat : Int) := by
    rw [List.getElem?_map, List.getElem?_eq_getElem hjl] at hj
    simp only [Option.map_some, Option.some.injEq] at hj
    rw [← hj]; rfl
  have hh : W1.heap[w.heap.size]? = some (.cells (bytesRow ⟨l.toArray⟩ (grownCap w l.length 0 e)) e ((bytesRow ⟨l.toArray⟩ (grownCap w l.length 0 e)).size, (bytesRow ⟨l.toArray⟩ (grownCap w l.length 0 e)).size + 1)) := by rw [hW1]; exact heap_alloc_new w.drew _
  rw [hy]
  simp [World.cell?, hh, hb]
/-- a root's number, by the four bytes of a value -/
def rootE (s : List UInt8) : Int := if s.length = 4 then (if 1 ≤ rawN s 0 4 ∧ rawN s 0 4 ≤ 14399 then 0 else 2) else 7
def rootN (s : List UInt8) : Nat := if rootE s = 0 then rawN s 0 4 else 0
theorem loop_len (bs : ByteArray) (i : Nat) (r : List UInt8) (h : i ≤ bs.size) : (ByteArray.toList.loop bs i r).length = r.length + (bs.size - i) := by
  rw [ByteArray.toList.loop]
  split
  · rename_i h2
    rw [loop_len bs (i + 1) _ (by omega)]
    simp; omega
  · simp; omega
termination_by bs.size - i
theorem toList_len (bs : ByteArray) : bs.toList.length = bs.size := by
  unfold ByteArray.toList; rw [loop_len _ _ _ (Nat.zero_le _)]; simp
theorem four_ne (n : Int) : ((⟨(leB n 4).toArray⟩ : ByteArray).toList == (⟨#[]⟩ : ByteArray).toList) = false := by
  cases hq : ((⟨(leB n 4).toArray⟩ : ByteArray).toList == (⟨#[]⟩ : ByteArray).toList) with
  | false => rfl
  | true =>
    have e := congrArg List.length (eq_of_beq hq)
    rw [toList_len, toList_len] at e
    simp [ByteArray.size, leB_len] at e
set_option maxRecDepth 100000 in
set_option maxHeartbeats 1000000 in
theorem value_rootR (w : World) :
    Calls Tryz.prog 161 #[] w (RetS (fun w' r => ∃ b, r = .slice (some ⟨b, 0, none⟩) 1 1 ∧ w.heap.size ≤ b ∧ Blk w' b [.int .i64 4, .int .i64 1, .int .i64 14399] 266) w) := by
 refine zin 3 Tryz.func161 ?_
 refine xbs 8 1 [.int .i64 4, .int .i64 1, .int .i64 14399] 266 fun b1 W1 n1 => ?_
 have g1 := n1.ge (Below.refl w.heap.size _)
 exact xe 4 (.slice (some ⟨b1, 0, none⟩) 1 1) ⟨_, rfl, n1.below, _, rfl, g1, n1.blk⟩
set_option maxRecDepth 100000 in
set_option maxHeartbeats 1000000 in
theorem value_putR (gl : Nat) (an : Option Addr) (cn : Nat) (n : Int) (w : World) (hl : Blk w gl [.int .i64 4, .int .i64 1, .int .i64 14399] 266) (hn : Sl w (.slice an 1 cn) 1 [.int .i64 n]) (h1 : 1 ≤ n) (h2 : n ≤ 14399) :
    Calls Tryz.prog 164 #[.slice (some ⟨gl, 0, none⟩) 1 1, .slice an 1 cn] w (Ret (.string ⟨(leB n 4).toArray⟩) w) := by
 have hlo := h1
 have hhi := h2
 clear h2
 refine zin 51 Tryz.func164 ?_
 refine xu 19 2 ?_
 refine xlv 15 hl.rp ?_
 refine xa 0 [.int .i64 0, .int .i64 0, .int .i64 0] 266 fun b1 W1 n1 => ?_
 have d1_gl := n1.ne hl
 refine xsv 1 n1.blk [.int .i64 4, .int .i64 1, .int .i64 14399] fun W2 u2 k2 => ?_
 have g1 := n1.ge (Below.refl w.heap.size _)
 refine xd 4 .z ?_
 refine xx (.e [0, 1] 2) _ 1 0 1 (Ints.elem (l := [n]) hn (k := 0) (by simp)).1 ?_
 have hB := Bl.next (u2.below n1.below g1) (below_drew W2)
 refine xl (.e [] 3) ((Ints.elem (l := [n]) (hn.below hB) (k := 0) (by simp)).2) ?_
 have k2'1 := k2.below (below_drew W2)
 refine xb (.e [4] 5) 1 k2'1 ?_
 refine xgk (.b [6, 7]) [23, 24] (show (decide (n < (1 : Int)) : Bool) = false from decide_eq_false (by omega)) ?_
 refine xx (.e [8, 9] 10) _ 1 0 1 (Ints.elem (l := [n]) hn (k := 0) (by simp)).1 ?_
 refine xl (.e [] 11) ((Ints.elem (l := [n]) (hn.below hB) (k := 0) (by simp)).2) ?_
 refine xb (.e [12] 13) 2 k2'1 ?_
 refine xk (.r [14, 15] 2) (show (decide (n > (14399 : Int)) : Bool) = false from decide_eq_false (by omega)) ?_
 refine xd 3 .z ?_
 have k2'2 := k2'1.below (below_drew W2.drew)
 refine xb (.e [0] 1) 0 k2'2 ?_
 refine xx (.e [2, 3] 4) _ 1 0 1 (Ints.elem (l := [n]) hn (k := 0) (by simp)).1 ?_
 have hB'1 := Bl.next hB (below_drew W2.drew)
 refine xl (.e [] 5) ((Ints.elem (l := [n]) (hn.below hB'1) (k := 0) (by simp)).2) ?_
 refine xbs (.o [6] 7) 1 [.int .i64 4, .int .i64 n] 122 fun b4 W4 n4 => ?_
 have g4 := n4.ge hB'1
 refine yc (.o [] 8) (args := #[.slice (some ⟨b4, 0, none⟩) 1 1]) .z (Pack_4 b4 n (by omega) (by omega) _ n4.blk) ?_
 rintro _ W5 ⟨_, rfl, hb5, p2, c2, rfl, h2⟩
 have hs5 := (Bl.next hB'1 n4.below).size
 refine ⟨hb5, ?_⟩
 have o6 := World.ownsRow_nil W5 w.heap.size 5 1
 have h2'1 := own_mono h2 hs5
 have hB'2 := Bl.next (Bl.next hB'1 n4.below) hb5
 refine xbi (.r [9, 10, 11, 12, 13] 5) fun _ _ _ _ zJ zQ zo zx zy zK => op_app (m := 4) (news := (leB n 4).map bv) (.int .u8 0) 1 1 (4) ((leB n 4).map bv) zo Tryz.underlying22 (by kernel_rfl) rfl (by decide) zx o6 zy (own_sl h2'1) (by simp [leB_len]) (bv_one _) (by unfold maxLen; omega) (by omega) hB'2.size (by rfl) (by simp) fun p7 c7 W7 o7 hg7 hb7 => ?_
 refine zK _ _ ?_
 refine xcv0 24 (fun _ _ _ zo zx => run_bstr zo zx (bys_of (own_sl o7) (leB_len _ _)) (leB_len _ _) Tryz.underlying22 Tryz.underlying5 Tryz.underlying9) ?_
 have hB'3 := hB'2.trans hb7
 exact xe 4 (.string ⟨(leB n 4).toArray⟩) ⟨rfl, hB'3⟩
set_option maxRecDepth 100000 in
set_option maxHeartbeats 1000000 in
theorem value_putX (gl : Nat) (an : Option Addr) (cn : Nat) (n : Int) (w : World) (hl : Blk w gl [.int .i64 4, .int .i64 1, .int .i64 14399] 266) (hn : Sl w (.slice an 1 cn) 1 [.int .i64 n]) (h : ¬ (1 ≤ n ∧ n ≤ 14399)) :
    Calls Tryz.prog 164 #[.slice (some ⟨gl, 0, none⟩) 1 1, .slice an 1 cn] w (Ret (.string ⟨#[]⟩) w) := by
 refine zin 51 Tryz.func164 ?_
 refine xu 19 2 ?_
 refine xlv 15 hl.rp ?_
 refine xa 0 [.int .i64 0, .int .i64 0, .int .i64 0] 266 fun b1 W1 n1 => ?_
 have d1_gl := n1.ne hl
 refine xsv 1 n1.blk [.int .i64 4, .int .i64 1, .int .i64 14399] fun W2 u2 k2 => ?_
 have g1 := n1.ge (Below.refl w.heap.size _)
 refine xd 4 .z ?_
 refine xx (.e [0, 1] 2) _ 1 0 1 (Ints.elem (l := [n]) hn (k := 0) (by simp)).1 ?_
 have hB := Bl.next (u2.below n1.below g1) (below_drew W2)
 refine xl (.e [] 3) ((Ints.elem (l := [n]) (hn.below hB) (k := 0) (by simp)).2) ?_
 have k2'1 := k2.below (below_drew W2)
 refine xb (.e [4] 5) 1 k2'1 ?_
 refine xg (.b [6, 7]) [23, 24] (decide (n < (1 : Int))) (fun hc3 => ?_) (fun hc3 => ?_)
 · have hc3 := of_decide_eq_true hc3
   exact xe (.r [8, 9, 10, 11, 12, 13, 14, 15] 15) (.string ⟨#[]⟩) ⟨rfl, hB⟩
 have hc3 := of_decide_eq_false hc3
 refine xx (.e [8, 9] 10) _ 1 0 1 (Ints.elem (l := [n]) hn (k := 0) (by simp)).1 ?_
 refine xl (.e [] 11) ((Ints.elem (l := [n]) (hn.below hB) (k := 0) (by simp)).2) ?_
 refine xb (.e [12] 13) 2 k2'1 ?_
 refine xk (.r [14, 15] 2) (show (decide (n > (14399 : Int)) : Bool) = true from decide_eq_true (by omega)) ?_
 exact xe 12 (.string ⟨#[]⟩) ⟨rfl, hB⟩
set_option maxRecDepth 100000 in
set_option maxHeartbeats 1000000 in
theorem value_read_len (gl : Nat) (s : List UInt8) (w : World) (hl : Blk w gl [.int .i64 4, .int .i64 1, .int .i64 14399] 266) (hs : s.length ≤ 1000) (h4 : s.length ≠ 4) :
    Calls Tryz.prog 145 #[.slice (some ⟨gl, 0, none⟩) 1 1, .string ⟨s.toArray⟩] w (RetS (fun w' r => ∃ p c, r = .tuple #[.slice p 1 c, .int .i64 7] ∧ w'.ownsRow w.heap.size 3 1 (.slice p 1 c) 1 [.int .i64 0]) w) := by
 refine zin 54 Tryz.func145 ?_
 refine xu 25 2 ?_
 refine xlv 14 hl.rp ?_
 refine xa 0 [.int .i64 0, .int .i64 0, .int .i64 0] 266 fun b1 W1 n1 => ?_
 have d1_gl := n1.ne hl
 refine xsv 0 n1.blk [.int .i64 4, .int .i64 1, .int .i64 14399] fun W2 u2 k2 => ?_
 have g1 := n1.ge (Below.refl w.heap.size _)
 refine xb 6 0 k2 ?_
 refine xbs 0 1 [.int .i64 4] 3 fun b3 W3 n3 => ?_
 have o4 := World.ownsRow_nil W3 w.heap.size 3 1
 have hB := Bl.next (u2.below n1.below g1) n3.below
 refine xbi 0 fun _ _ _ _ zJ zQ zo zx zy zK => op_app (m := 1) (news := [.int .i64 4]) (.int .i64 0) 1 8 (1) ([Value.int .i64 4]) zo Tryz.underlying26 (by kernel_rfl) rfl (by decide) zx o4 zy (n3.blk.sl 1 1 (by decide) (by decide)) rfl (by simp [Value.oneCell']) (by unfold maxLen; omega) (by omega) hB.size (by rfl) (by rfl) fun p5 c5 W5 o5 hg5 hb5 => ?_
 refine zK _ _ ?_
 have k2'1 := (k2.below n3.below).grown hg5 o4 (by decide)
 refine xb 6 0 k2'1 ?_
 refine xk 31 (show (((↑s.length : Int) != (4 : Int)) : Bool) = true from bne_iff_ne.2 (by omega)) ?_
 refine xmk 4 fun _ _ _ _ zJ zQ zo zx zy zK => op_make 1 (.int .i64 0) 1 8 [Value.int .i64 0] zo zx zy Tryz.underlying26 (by kernel_rfl) rfl (by omega) (by omega) (rfl) fun b6 W6 n6 => ?_
 have hB'1 := hB.trans hb5
 have g6 := n6.ge hB'1
 have r6_o5 := own_ne o5 n6
 refine zK _ _ ?_
 have hB'2 := Bl.next hB'1 n6.below
 have o6 := own_of_blk (size := 1) (n := 1) n6.blk g6 (rfl) (by unfold maxLen; omega)
 exact xe 6 (.tuple #[.slice (some ⟨b6, 0, none⟩) 1 1, .int .i64 7]) ⟨_, rfl, hB'2, _, _, rfl, o6⟩
set_option maxRecDepth 100000 in
set_option maxHeartbeats 1000000 in
theorem value_read_ok (gl : Nat) (s : List UInt8) (w : World) (hl : Blk w gl [.int .i64 4, .int .i64 1, .int .i64 14399] 266) (hs : s.length ≤ 1000) (h4 : s.length = 4) (h1 : 1 ≤ rawN s 0 4) (h2 : rawN s 0 4 ≤ 14399) :
    Calls Tryz.prog 145 #[.slice (some ⟨gl, 0, none⟩) 1 1, .string ⟨s.toArray⟩] w (RetS (fun w' r => ∃ p c, r = .tuple #[.slice p 1 c, .int .i64 0] ∧ w'.ownsRow w.heap.size 3 1 (.slice p 1 c) 1 [.int .i64 (↑(rawN s 0 4) : Int)]) w) := by
 refine zin 54 Tryz.func145 ?_
 refine xu 25 2 ?_
 refine xlv 14 hl.rp ?_
 refine xa 0 [.int .i64 0, .int .i64 0, .int .i64 0] 266 fun b1 W1 n1 => ?_
 have d1_gl := n1.ne hl
 refine xsv 0 n1.blk [.int .i64 4, .int .i64 1, .int .i64 14399] fun W2 u2 k2 => ?_
 have g1 := n1.ge (Below.refl w.heap.size _)
 refine xb 6 0 k2 ?_
 refine xbs 0 1 [.int .i64 4] 3 fun b3 W3 n3 => ?_
 have o4 := World.ownsRow_nil W3 w.heap.size 3 1
 have hB := Bl.next (u2.below n1.below g1) n3.below
 refine xbi 0 fun _ _ _ _ zJ zQ zo zx zy zK => op_app (m := 1) (news := [.int .i64 4]) (.int .i64 0) 1 8 (1) ([Value.int .i64 4]) zo Tryz.underlying26 (by kernel_rfl) rfl (by decide) zx o4 zy (n3.blk.sl 1 1 (by decide) (by decide)) rfl (by simp [Value.oneCell']) (by unfold maxLen; omega) (by omega) hB.size (by rfl) (by rfl) fun p5 c5 W5 o5 hg5 hb5 => ?_
 refine zK _ _ ?_
 have k2'1 := (k2.below n3.below).grown hg5 o4 (by decide)
 refine xb 6 0 k2'1 ?_
 refine xk 31 (show (((↑s.length : Int) != (4 : Int)) : Bool) = false from by rw [h4]; rfl) ?_
 refine xcf 5 fun _ _ _ zJ zQ zo zx zK => op_strBytes s zo zx Tryz.underlying9 Tryz.underlying22 Tryz.underlying5 (by omega) ?_
 intro bz cz W6 hb6 hbz
 refine zK _ _ ?_
 have o5'1 := own_below o5 hb6
 refine xc 1 (args := #[.slice (some ⟨bz, 0, none⟩) s.length cz, .slice p5 1 c5]) (Unpack_okN (some ⟨bz, 0, none⟩) s.length cz s p5 c5 1 [4] [rawN s 0 4] _ rfl rfl rfl (by decide) (by simp; omega) (by omega) (by decide) hbz (own_sl o5'1) (fun i hi => by obtain rfl : i = 0 := (by simpa using hi); have := rawN_lt4 s 0 4 (by decide); simp [unpL]; omega)) ?_
 rintro _ W7 ⟨_, rfl, hb7, p5, c5, rfl, h5⟩
 have hs7 := (Bl.next (hB.trans hb5) hb6).size
 have hl'1 := ((((u2.blk (hl.below n1.below) (Ne.symm (Ne.symm d1_gl))).below n3.below).grown hg5 o4 (by decide)).below hb6).below hb7
 have h5'1 := own_mono h5 hs7
 refine xr 15 (args := #[.slice (some ⟨gl, 0, none⟩) 1 1, .slice p5 1 c5]) (value_putR gl p5 c5 (↑(rawN s 0 4) : Int) _ hl'1 (own_sl h5'1) (by omega) (by omega)) fun W8 hb8 => ?_
 refine xk 4 (show (((⟨(leB (↑(rawN s 0 4) : Int) 4).toArray⟩ : ByteArray).toList == (⟨#[]⟩ : ByteArray).toList) : Bool) = false from four_ne _) ?_
 have hB'1 := Bl.next (Bl.next (Bl.next (hB.trans hb5) hb6) hb7) hb8
 have h5'2 := own_below h5'1 hb8
 exact xe 10 (.tuple #[.slice p5 1 c5, .int .i64 0]) ⟨_, rfl, hB'1, _, _, rfl, h5'2⟩
set_option maxRecDepth 100000 in
set_option maxHeartbeats 1000000 in
theorem value_read_bad (gl : Nat) (s : List UInt8) (w : World) (hl : Blk w gl [.int .i64 4, .int .i64 1, .int .i64 14399] 266) (hs : s.length ≤ 1000) (h4 : s.length = 4) (h1 : ¬ (1 ≤ (rawN s 0 4 : Int) ∧ (rawN s 0 4 : Int) ≤ 14399)) :
    Calls Tryz.prog 145 #[.slice (some ⟨gl, 0, none⟩) 1 1, .string ⟨s.toArray⟩] w (RetS (fun w' r => ∃ p c, r = .tuple #[.slice p 1 c, .int .i64 2] ∧ w'.ownsRow w.heap.size 3 1 (.slice p 1 c) 1 [.int .i64 0]) w) := by
 refine zin 54 Tryz.func145 ?_
 refine xu 25 2 ?_
 refine xlv 14 hl.rp ?_
 refine xa 0 [.int .i64 0, .int .i64 0, .int .i64 0] 266 fun b1 W1 n1 => ?_
 have d1_gl := n1.ne hl
 refine xsv 0 n1.blk [.int .i64 4, .int .i64 1, .int .i64 14399] fun W2 u2 k2 => ?_
 have g1 := n1.ge (Below.refl w.heap.size _)
 refine xb 6 0 k2 ?_
 refine xbs 0 1 [.int .i64 4] 3 fun b3 W3 n3 => ?_
 have o4 := World.ownsRow_nil W3 w.heap.size 3 1
 have hB := Bl.next (u2.below n1.below g1) n3.below
 refine xbi 0 fun _ _ _ _ zJ zQ zo zx zy zK => op_app (m := 1) (news := [.int .i64 4]) (.int .i64 0) 1 8 (1) ([Value.int .i64 4]) zo Tryz.underlying26 (by kernel_rfl) rfl (by decide) zx o4 zy (n3.blk.sl 1 1 (by decide) (by decide)) rfl (by simp [Value.oneCell']) (by unfold maxLen; omega) (by omega) hB.size (by rfl) (by rfl) fun p5 c5 W5 o5 hg5 hb5 => ?_
 refine zK _ _ ?_
 have k2'1 := (k2.below n3.below).grown hg5 o4 (by decide)
 refine xb 6 0 k2'1 ?_
 refine xk 31 (show (((↑s.length : Int) != (4 : Int)) : Bool) = false from by rw [h4]; rfl) ?_
 refine xcf 5 fun _ _ _ zJ zQ zo zx zK => op_strBytes s zo zx Tryz.underlying9 Tryz.underlying22 Tryz.underlying5 (by omega) ?_
 intro bz cz W6 hb6 hbz
 refine zK _ _ ?_
 have o5'1 := own_below o5 hb6
 refine xc 1 (args := #[.slice (some ⟨bz, 0, none⟩) s.length cz, .slice p5 1 c5]) (Unpack_okN (some ⟨bz, 0, none⟩) s.length cz s p5 c5 1 [4] [rawN s 0 4] _ rfl rfl rfl (by decide) (by simp; omega) (by omega) (by decide) hbz (own_sl o5'1) (fun i hi => by obtain rfl : i = 0 := (by simpa using hi); have := rawN_lt4 s 0 4 (by decide); simp [unpL]; omega)) ?_
 rintro _ W7 ⟨_, rfl, hb7, p5, c5, rfl, h5⟩
 have hs7 := (Bl.next (hB.trans hb5) hb6).size
 have hl'1 := ((((u2.blk (hl.below n1.below) (Ne.symm (Ne.symm d1_gl))).below n3.below).grown hg5 o4 (by decide)).below hb6).below hb7
 have h5'1 := own_mono h5 hs7
 refine xr 15 (args := #[.slice (some ⟨gl, 0, none⟩) 1 1, .slice p5 1 c5]) (value_putX gl p5 c5 (↑(rawN s 0 4) : Int) _ hl'1 (own_sl h5'1) (by omega)) fun W8 hb8 => ?_
 refine xmk 9 fun _ _ _ _ zJ zQ zo zx zy zK => op_make 1 (.int .i64 0) 1 8 [Value.int .i64 0] zo zx zy Tryz.underlying26 (by kernel_rfl) rfl (by omega) (by omega) (rfl) fun b9 W9 n9 => ?_
 have hB'1 := Bl.next (Bl.next (Bl.next (hB.trans hb5) hb6) hb7) hb8
 have g9 := n9.ge hB'1
 have o5'2 := own_below (own_below o5'1 hb7) hb8
 have r9_o5 := own_ne o5'2 n9
 have h5'2 := own_below h5'1 hb8
 have r9_h5 := own_ne h5'2 n9
 refine zK _ _ ?_
 have hB'2 := Bl.next hB'1 n9.below
 have o9 := own_of_blk (size := 1) (n := 1) n9.blk g9 (rfl) (by unfold maxLen; omega)
 exact xe 6 (.tuple #[.slice (some ⟨b9, 0, none⟩) 1 1, .int .i64 2]) ⟨_, rfl, hB'2, _, _, rfl, o9⟩
theorem value_readR (gl : Nat) (s : List UInt8) (w : World) (hl : Blk w gl [.int .i64 4, .int .i64 1, .int .i64 14399] 266) (hs : s.length ≤ 1000) : Calls Tryz.prog 145 #[.slice (some ⟨gl, 0, none⟩) 1 1, .string ⟨s.toArray⟩] w (RetS (fun w' r => ∃ p c, r = .tuple #[.slice p 1 c, .int .i64 (rootE s)] ∧ w'.ownsRow w.heap.size 3 1 (.slice p 1 c) 1 [.int .i64 (rootN s : Int)]) w) := by
  by_cases h4 : s.length = 4
  · by_cases h1 : 1 ≤ rawN s 0 4 ∧ rawN s 0 4 ≤ 14399
    · have he : rootE s = 0 := by unfold rootE; rw [if_pos h4, if_pos h1]
      rw [he, rootN, if_pos he]
      exact value_read_ok gl s w hl hs h4 h1.1 h1.2
    · have he : rootE s = 2 := by unfold rootE; rw [if_pos h4, if_neg h1]
      rw [he, rootN, if_neg (by rw [he]; decide)]
      exact value_read_bad gl s w hl hs h4 (by omega)
  · have he : rootE s = 7 := by unfold rootE; rw [if_neg h4]
    rw [he, rootN, if_neg (by rw [he]; decide)]
    exact value_read_len gl s w hl hs h4
set_option maxRecDepth 100000 in
set_option maxHeartbeats 1000000 in
theorem value_ReadRoot (s : List UInt8) (w : World) (hs : s.length ≤ 1000) :
    Calls Tryz.prog 128 #[.string ⟨s.toArray⟩] w (Ret (.tuple #[.int .i64 (rootN s : Int), .int .i64 (rootE s)]) w) := by
 refine zin 16 Tryz.func128 ?_
 refine xc 8 (args := #[]) (value_rootR _) ?_
 rintro _ W1 ⟨_, rfl, hb1, gl, rfl, gg, kl⟩
 refine xc 1 (args := #[.slice (some ⟨gl, 0, none⟩) 1 1, .string ⟨s.toArray⟩]) (value_readR gl s _ kl hs) ?_
 rintro _ W2 ⟨_, rfl, hb2, p5, c5, rfl, h5⟩
 have h5'1 := own_mono h5 hb1.size
 refine xx 10 _ 1 0 1 (Ints.elem (l := [(rootN s : Int)]) (own_sl h5'1) (k := 0) (by simp)).1 ?_
 refine xl 0 ((Ints.elem (l := [(rootN s : Int)]) (own_sl h5'1) (k := 0) (by simp)).2) ?_
 have hB := Bl.next hb1 hb2
 exact xe 6 (.tuple #[.int .i64 (↑(rootN s) : Int), .int .i64 (rootE s)]) ⟨rfl, hB⟩
end Go.Proofs.YtinegkldgjhnpaaGreatDoor
namespace Go.Proofs.YtinegkldgjhnpaaGreatDoor
open Go.RowKit Go.Extern.Stop Go.Stop Go.Extern
set_option linter.unusedVariables false
attribute [local irreducible] wpList wpAnyH Code.wp Oper.wp Go

theorem getD_app {P Q : List UInt8} {k i : Nat} (hk : P.length = k) : (P ++ Q).getD (k + i) 0 = Q.getD i 0 := by
  subst hk
  simp [List.getD, List.getElem?_append_right]
theorem getD_hd {P Q : List UInt8} {i : Nat} (hi : i < P.length) : (P ++ Q).getD i 0 = P.getD i 0 := by
  simp [List.getD, List.getElem?_append_left hi]
theorem rawN_mid {P Q : List UInt8} {k w : Nat} {x : Int} (hk : P.length = k) (h0 : 0 ≤ x) (hb : x.toNat < 256 ^ w) : (rawN (P ++ (leB x w ++ Q)) k w : Int) = x := by
  rw [rawN_bytes w k x.toNat, Nat.mod_eq_of_lt hb]
  · omega
  · intro i hi
    rw [getD_app hk, getD_hd (by rw [leB_len]; exact hi)]
    simp [leB, byteAt, List.getD, List.getElem?_range hi]
theorem drop_app {P Q : List UInt8} {k : Nat} (hk : P.length = k) : (P ++ Q).drop k = Q := List.drop_left' hk
theorem zeroB_rep (n m : Nat) : zeroB ((List.replicate n (0 : UInt8)).take m) = true := by
  unfold zeroB; rw [List.all_eq_true]
  intro x hx
  have := List.mem_of_mem_take hx
  rw [(List.mem_replicate.1 this).2]; rfl
theorem keyPad_more (K : List Int) (n j : Nat) : ∀ d, ∃ X, keyPad K n (j + d) = keyPad K n j ++ X
  | 0 => ⟨[], by simp⟩
  | d + 1 => by
    obtain ⟨X, hX⟩ := keyPad_more K n j d
    exact ⟨_, by rw [← Nat.add_assoc, keyPad_succ, hX, List.append_assoc]⟩
theorem valPad_more (Vs : List (List UInt8)) (j : Nat) : ∀ d, ∃ X, valPad Vs (j + d) = valPad Vs j ++ X
  | 0 => ⟨[], by simp⟩
  | d + 1 => by
    obtain ⟨X, hX⟩ := valPad_more Vs j d
    exact ⟨_, by rw [← Nat.add_assoc, valPad_succ, hX, List.append_assoc]⟩
theorem keysErr_zero {l : List UInt8} : ∀ {n : Nat}, (∀ i, i < n → keyE l i = 0) → keysErr l n = 0
  | 0, _ => rfl
  | n + 1, h => keysErr_next (keysErr_zero fun i hi => h i (by omega)) (h n (by omega))
theorem getD_ext {l l' : List Int} (h : l.length = l'.length) (h2 : ∀ j, j < l.length → l.getD j 0 = l'.getD j 0) : l = l' := by
  apply List.ext_getElem h
  intro j h3 h4
  have := h2 j h3
  simpa [List.getD, h3, h4] using this
theorem getD_extV {l l' : List (List UInt8)} (h : l.length = l'.length) (h2 : ∀ j, j < l.length → l.getD j [] = l'.getD j []) : l = l' := by
  apply List.ext_getElem h
  intro j h3 h4
  have := h2 j h3
  simpa [List.getD, h3, h4] using this
/-- a node's bytes are read as that node -/
structure NodBack (b : List UInt8) (t : Int) (leaf : Bool) (n m v : Nat) (K : List Int) (Vs : List (List UInt8)) : Prop where
  len : b.length = 244
  e : nodeE b = 0
  t : nodT b = t
  l : nodL b = leaf
  c : nodC b = n
  k : keysI b n = K
  v : valsL b n = Vs
theorem nod_back {t : Int} {leaf : Bool} {n m v : Nat} {K : List Int} {Vs : List (List UInt8)} (N : NodeOk t leaf n m v K Vs) : NodBack (nodeP m v (headB t leaf n m v) K Vs n) t leaf n m v K Vs := by
  have hmb := maxN_pos t leaf
  rw [N.hm] at hmb
  have hwb := widN_bd t leaf
  rw [N.hv] at hwb
  have hfit := fitN t leaf
  rw [N.hm, N.hv] at hfit
  have ht1 := N.ht1
  have ht2 := N.ht2
  have hnm := N.hn
  have hform := nodeP_form (H := headB t leaf n m v) (K := K) (Vs := Vs) (headB_len _ _ _ _ _) hfit hnm (fun j hj => N.hw j hj)
  have hlen := nodeP_len (H := headB t leaf n m v) (K := K) (Vs := Vs) (headB_len _ _ _ _ _) hfit hnm (fun j hj => N.hw j hj)
  generalize nodeP m v (headB t leaf n m v) K Vs n = b at hform hlen
  obtain ⟨R, hR⟩ : ∃ R, b = headB t leaf n m v ++ R := ⟨_, by rw [hform, List.append_assoc, List.append_assoc]⟩
  have hfl := flagN_bd leaf
  have r0 : (rawN b 0 1 : Int) = flagN leaf := by
    rw [hR, headB]; simp only [List.append_assoc]
    exact rawN_mid (P := []) (k := 0) (w := 1) (x := flagN leaf) rfl hfl.1 (Nat.lt_of_le_of_lt (show (flagN leaf).toNat ≤ 255 by omega) (by decide))
  have r1 : (rawN b 1 1 : Int) = t := by
    rw [hR, headB]; simp only [List.append_assoc]
    exact rawN_mid (P := leB (flagN leaf) 1) (by rw [leB_len]) (by omega) (by omega)
  have r2 : (rawN b 2 2 : Int) = (n : Int) := by
    rw [hR, headB]; simp only [List.append_assoc]
    rw [← List.append_assoc]
    exact rawN_mid (P := leB (flagN leaf) 1 ++ leB t 1) (by simp [leB_len]) (by omega) (by omega)
  have r4 : (rawN b 4 2 : Int) = (v : Int) := by
    rw [hR, headB]; simp only [List.append_assoc]
    rw [← List.append_assoc, ← List.append_assoc]
    exact rawN_mid (P := leB (flagN leaf) 1 ++ leB t 1 ++ leB (n : Int) 2) (by simp [leB_len]) (by omega) (by omega)
  have r6 : (rawN b 6 2 : Int) = (m : Int) := by
    rw [hR, headB]; simp only [List.append_assoc]
    rw [← List.append_assoc, ← List.append_assoc, ← List.append_assoc]
    exact rawN_mid (P := leB (flagN leaf) 1 ++ leB t 1 ++ leB (n : Int) 2 ++ leB (v : Int) 2) (by simp [leB_len]) (by omega) (by omega)
  have r8 : (rawN b 8 4 : Int) = 0 := by
    rw [hR, headB]; simp only [List.append_assoc]
    rw [← List.append_assoc, ← List.append_assoc, ← List.append_assoc, ← List.append_assoc]
    exact rawN_mid (P := leB (flagN leaf) 1 ++ leB t 1 ++ leB (n : Int) 2 ++ leB (v : Int) 2 ++ leB (m : Int) 2) (by simp [leB_len]) (by omega) (by decide)
  have eT : nodT b = t := r1
  have eL : nodL b = leaf := by
    unfold nodL; rw [r0]; cases leaf <;> rfl
  have eC : nodC b = n := by unfold nodC; omega
  have eW : nodW b = v := by unfold nodW; rw [eT, eL, widG, if_pos ⟨ht1, ht2⟩]; exact N.hv
  have eM : nodM b = m := by unfold nodM; rw [eT, eL, maxG, if_pos ⟨ht1, ht2⟩]; exact N.hm
  have hkey : ∀ i, i < n → (keyN b i : Int) = K.getD i 0 := by
    intro i hi
    obtain ⟨X, hX⟩ := keyPad_more K n (i + 1) (m - (i + 1))
    rw [show i + 1 + (m - (i + 1)) = m by omega, keyPad_succ, if_pos hi] at hX
    unfold keyN
    rw [hform, hX]
    have hk := N.hk0 i hi
    have := rawN_mid (P := headB t leaf n m v ++ keyPad K n i) (Q := X ++ (valPad Vs n ++ List.replicate (232 - m * 8 - n * v) 0)) (k := 12 + i * 8) (w := 8) (x := K.getD i 0) (by rw [List.length_append, headB_len, keyPad_len]) hk.1 (Nat.lt_of_le_of_lt (show (K.getD i 0).toNat ≤ 281474976710655 by omega) (by decide))
    simp only [List.append_assoc] at this ⊢
    exact this
  have hval : ∀ i, i < n → valN b i = Vs.getD i [] := by
    intro i hi
    obtain ⟨X, hX⟩ := valPad_more Vs (i + 1) (n - (i + 1))
    rw [show i + 1 + (n - (i + 1)) = n by omega, valPad_succ] at hX
    have hvl : (valPad Vs i).length = i * v := valPad_len fun j hj => N.hw j (by omega)
    unfold valN
    rw [eM, eW, hform, hX]
    have := drop_app (P := headB t leaf n m v ++ keyPad K n m ++ valPad Vs i) (Q := Vs.getD i [] ++ (X ++ List.replicate (232 - m * 8 - n * v) 0)) (k := 12 + m * 8 + i * v) (by rw [List.length_append, List.length_append, headB_len, keyPad_len, hvl])
    simp only [List.append_assoc] at this ⊢
    rw [this]
    exact List.take_left' (N.hw i hi)
  have hmv : n * v ≤ m * v := Nat.mul_le_mul_right v hnm
  refine ⟨hlen, ?_, eT, eL, eC, ?_, ?_⟩
  · have hs : shapeB b = true := by
      unfold shapeB
      rw [eW, eM]
      refine decide_eq_true ⟨?_, by omega, by omega, by omega, by omega, by omega, ?_⟩
      · cases leaf <;> simp only [flagN] at r0 <;> simp at r0 <;> omega
      · cases leaf with
        | true => left; simp only [flagN] at r0; simp at r0; omega
        | false => right; have := N.hl rfl; omega
    have hz : nodeZ b = true := by
      unfold nodeZ node2 node1 node0
      rw [eC, eM, eW, Bool.and_eq_true]
      constructor
      · have hk := keyPad_zero K n (m - n)
        rw [show n + (m - n) = m by omega] at hk
        have := drop_app (P := headB t leaf n m v ++ keyPad K n n) (Q := List.replicate ((m - n) * 8) 0 ++ (valPad Vs n ++ List.replicate (232 - m * 8 - n * v) 0)) (k := 12 + n * 8) (by rw [List.length_append, headB_len, keyPad_len])
        rw [hform, hk]
        simp only [List.append_assoc] at this ⊢
        rw [this, List.take_append_of_le_length (by rw [List.length_replicate]; omega)]
        exact zeroB_rep _ _
      · have hvl : (valPad Vs n).length = n * v := valPad_len fun j hj => N.hw j hj
        have := drop_app (P := headB t leaf n m v ++ keyPad K n m ++ valPad Vs n) (Q := List.replicate (232 - m * 8 - n * v) 0) (k := 12 + m * 8 + n * v) (by rw [List.length_append, List.length_append, headB_len, keyPad_len, hvl])
        rw [hform, this]
        exact zeroB_rep _ _
    unfold nodeE
    rw [if_pos hs, if_pos hz, eC]
    refine keysErr_zero fun i hi => ?_
    have h1 := hkey i hi
    have h2 := N.hk0 i hi
    unfold keyE
    rw [if_neg (by omega), if_neg ?_]
    rintro ⟨h3, h4⟩
    have h5 := hkey (i - 1) (by omega)
    have h6 := N.hk1 (i - 1) (by omega)
    rw [show i - 1 + 1 = i by omega] at h6
    omega
  · exact getD_ext (by rw [keysI_len, N.hK]) fun j hj => by rw [keysI_len] at hj; rw [keysI_get b hj]; exact hkey j hj
  · exact getD_extV (by rw [valsL_len, N.hV]) fun j hj => by rw [valsL_len] at hj; rw [valsL_get b hj]; exact hval j hj
/-- and so in the block where it was written -/
theorem blk_back {t : Int} {leaf : Bool} {n m v : Nat} {K : List Int} {Vs : List (List UInt8)} (N : NodeOk t leaf n m v K Vs) {l : List UInt8} {j len : Nat} (hl : l.length = len) (hj : j < len / 256) (h4 : j < 14400) (hb : blkB l j = sealB 2 (j : Int) (nodeP m v (headB t leaf n m v) K Vs n)) (tree : Int) (ht : tree = 0 ∨ t = tree) :
    nodeErr l (j : Int) tree = 0 ∧ inB l (j : Int) = nodeP m v (headB t leaf n m v) K Vs n := by
  have B := nod_back N
  have hin : inB l (j : Int) = nodeP m v (headB t leaf n m v) K Vs n := by
    rw [inB_in (no := (j : Int)) (j := j) rfl, hb, in_seal (by rw [B.len]; decide)]
    unfold inSeal; rw [B.len]; simp
  refine ⟨?_, hin⟩
  unfold nodeErr
  rw [inE_in (no := (j : Int)) (j := j) hl rfl hj, hb, if_pos (open_seal (by decide) (by decide) (by omega) (by omega) (by rw [B.len]; decide)), hin]
  unfold nodeTE
  rw [if_pos B.e, if_pos (by rw [B.t]; exact ht)]
theorem root_leB {q : Nat} (h1 : 1 ≤ q) (h2 : q ≤ 14399) : rootE (leB (q : Int) 4) = 0 ∧ (rootN (leB (q : Int) 4) : Int) = (q : Int) := by
  have hr : (rawN (leB (q : Int) 4) 0 4 : Int) = (q : Int) := by
    have := rawN_mid (P := []) (Q := []) (k := 0) (w := 4) (x := (q : Int)) rfl (by omega) (Nat.lt_of_le_of_lt (show (q : Int).toNat ≤ 14399 by omega) (by decide))
    simpa using this
  have he : rootE (leB (q : Int) 4) = 0 := by
    unfold rootE; rw [if_pos (leB_len _ _), if_pos (by omega)]
  exact ⟨he, by unfold rootN; rw [if_pos he]; exact hr⟩
end Go.Proofs.YtinegkldgjhnpaaGreatDoor
namespace Go.Proofs.YtinegkldgjhnpaaGreatDoor
open Go.RowKit Go.Extern.Stop Go.Stop Go.Extern
set_option linter.unusedVariables false
attribute [local irreducible] wpList wpAnyH Code.wp Oper.wp Go

/-- a node that may be put -/
def PutOk (t : Int) (leaf : Bool) (n nv : Nat) (K : List Int) (Vs : List (List UInt8)) : Prop := nv = n ∧ NodeOk t leaf n (maxN t leaf) (widN t leaf) K Vs
set_option maxRecDepth 100000 in
set_option maxHeartbeats 1000000 in
theorem node_Put_bad (t : Int) (leaf : Bool) (n nv : Nat) (K : List Int) (Vs : List (List UInt8)) (ak av : Option Addr) (ck cv : Nat) (w : World) (hK : K.length = n) (hV : Vs.length = nv) (hKs : Sl w (.slice ak n ck) n (K.map (Value.int .i64))) (hVs : Sl w (.slice av nv cv) nv (Vs.map sv)) (hN : ¬ PutOk t leaf n nv K Vs) :
    Calls Tryz.prog 17 #[.agg #[.int .i64 t, .bool leaf, .slice ak n ck, .slice av nv cv]] w (Ret (.tuple #[.slice none 0 0, .int .i64 1]) w) := by
 refine zin 90 Tryz.func17 ?_
 refine xa 2 [.int .i64 t, .bool leaf, .slice ak n ck, .slice av nv cv] 52 fun b1 W1 n1 => ?_
 refine xlv 7 n1.blk.rp ?_
 refine xr 0 (args := #[.agg #[.int .i64 t, .bool leaf, .slice ak n ck, .slice av nv cv]]) ((node_RightG t leaf n nv K Vs ak av ck cv _ hK hV (hKs.below n1.below) (hVs.below n1.below)).mono (fun _ _ h => h.resolve_left (fun q => hN ⟨q.1, q.2.1⟩))) fun W2 hb2 => ?_
 have hB'1 := Bl.next n1.below hb2
 exact xe 12 (.tuple #[.slice none 0 0, .int .i64 1]) ⟨rfl, hB'1⟩
def NPutP (t : Int) (leaf : Bool) (n nv : Nat) (K : List Int) (Vs : List (List UInt8)) (w : World) (e : Ending) (w' : World) : Prop :=
  (PutOk t leaf n nv K Vs ∧ ∃ p c, e = .returned (.tuple #[.slice p 244 c, .int .i64 0]) ∧ Below w.heap.size w w' ∧ w'.ownsRow w.heap.size 5 1 (.slice p 244 c) 244 ((nodeP (maxN t leaf) (widN t leaf) (headB t leaf n (maxN t leaf) (widN t leaf)) K Vs n).map bv)) ∨
  (¬ PutOk t leaf n nv K Vs ∧ e = .returned (.tuple #[.slice none 0 0, .int .i64 1]) ∧ Below w.heap.size w w')
theorem node_PutG (t : Int) (leaf : Bool) (n nv : Nat) (K : List Int) (Vs : List (List UInt8)) (ak av : Option Addr) (ck cv : Nat) (w : World) (hK : K.length = n) (hV : Vs.length = nv) (hKs : Sl w (.slice ak n ck) n (K.map (Value.int .i64))) (hVs : Sl w (.slice av nv cv) nv (Vs.map sv)) : Calls Tryz.prog 17 #[.agg #[.int .i64 t, .bool leaf, .slice ak n ck, .slice av nv cv]] w (NPutP t leaf n nv K Vs w) := by
  by_cases hN : PutOk t leaf n nv K Vs
  · obtain ⟨hnv, N⟩ := hN
    subst hnv
    refine (node_Put t leaf _ _ _ K Vs ak av ck cv w N hKs hVs).mono ?_
    rintro e W ⟨_, rfl, hb, p, c, rfl, ho⟩
    exact .inl ⟨⟨rfl, N⟩, p, c, rfl, hb, ho⟩
  · refine (node_Put_bad t leaf n nv K Vs ak av ck cv w hK hV hKs hVs hN).mono ?_
    rintro e W ⟨rfl, hb⟩
    exact .inr ⟨hN, rfl, hb⟩
theorem open_other {k2 no : Int} {li : List UInt8} (h2 : k2 = 3 ∨ k2 = 4) (h3 : 0 ≤ no) (h5 : no < 14400) (hl : li.length ≤ 244) : openE k2 no (sealB 2 no li) = 4 := by
  have l3 := seal3_len (kind := 2) (no := no) hl
  have l4 := sealB_len (kind := 2) (no := no) hl
  have a0 : askB k2 no (sealB 2 no li) 0 = false := by simp only [askB]; rw [show knownB k2 no = true from by unfold knownB; exact decide_eq_true (by omega)]; rfl
  have a1 : askB k2 no (sealB 2 no li) 1 = false := by simp only [askB, l4]; rfl
  have a2 : askB k2 no (sealB 2 no li) 2 = true := by
    have hs : sumB (sealB 2 no li) k2 = sumB (seal3 2 no li) k2 := by unfold sealB; exact sumB_put (by omega)
    have hr : (rawN (sealB 2 no li) 252 4 : Int) = (sumB (seal3 2 no li) 2 : Int) := by
      unfold sealB
      exact rawN_put (by omega) (by omega) (by have := sumB_lt (seal3 2 no li) 2; simpa using this)
    simp only [askB, hr, hs]
    have hne : sumB (seal3 2 no li) 2 ≠ sumB (seal3 2 no li) k2 := by
      unfold sumB
      intro q
      have q2 := congrArg (fun x => crcSum ((seal3 2 no li).take 252) ^^^ x) q
      simp only [← Nat.xor_assoc, Nat.xor_self, Nat.zero_xor] at q2
      rcases h2 with rfl | rfl
      · exact absurd q2 (by decide)
      · exact absurd q2 (by decide)
    rw [bne_iff_ne]
    omega
  unfold openE
  rw [a0, a1, a2]
  rfl
set_option maxRecDepth 100000 in
set_option maxHeartbeats 1000000 in
theorem slices_EqualI (K : List Int) (n : Nat) (a b : Option Addr) (c d : Nat) (w : World) (hK : K.length = n) (h1 : Sl w (.slice a n c) n (K.map (Value.int .i64))) (h2 : Sl w (.slice b n d) n (K.map (Value.int .i64))) :
    Calls Tryz.prog 63 #[.slice a n c, .slice b n d] w (Ret (.bool true) w) := by
 have hLa := h1.len
 refine zin 26 Tryz.func63 ?_
 refine xk 15 (show (((↑n : Int) != (↑n : Int)) : Bool) = false from by simp) ?_
 have hB := Below.refl w.heap.size w
 refine zl 11 26 (fun zm zkv V => ∃ (i : Nat), zkv = [(0, .slice a n c), (1, .slice b n d), (12, .int .i64 (↑n : Int)), (13, .int .i64 (↑i : Int))] ∧ zm = n - ((↑i : Int)).toNat ∧ Below w.heap.size w V ∧ i ≤ n) ⟨0, rfl, rfl, hB, Nat.zero_le _⟩ ?_
 rintro _ _ W1 ⟨i, rfl, rfl, hB_1, hi⟩ J1 hJ1 r1
 refine xid 6 ((↑i : Int) < (↑n : Int)) (fun hc2 => ?_) (fun hc2 => ?_)
 · refine xd 11 .z ?_
   refine xx (.e [0, 1] 2) _ n i 1 (IntsN.elem h1 hK (k := i) (by omega)).1 ?_
   have hB'1 := Bl.next hB_1 (below_drew W1)
   refine xl (.e [] 3) ((IntsN.elem (h1.below hB'1) hK (k := i) (by omega)).2) ?_
   refine xx (.e [4, 5] 6) _ n i 1 (IntsN.elem h2 hK (k := i) (by omega)).1 ?_
   refine xl (.e [] 7) ((IntsN.elem (h2.below hB'1) hK (k := i) (by omega)).2) ?_
   refine xk (.r [8] 2) (show (((K.getD i 0) != (K.getD i 0)) : Bool) = false from by simp) ?_
   refine xwm 4 ((↑i : Int) + 1) (↑(i + 1) : Int) ?_
   exact ze 2 (hJ1 _ _ _ ⟨i + 1, rfl, rfl, hB'1, by omega⟩ (by omega))
 exact xe 11 (.bool true) ⟨rfl, hB_1⟩
set_option maxRecDepth 100000 in
set_option maxHeartbeats 1000000 in
theorem slices_EqualS (Vs : List (List UInt8)) (n : Nat) (a b : Option Addr) (c d : Nat) (w : World) (hV : Vs.length = n) (h1 : Sl w (.slice a n c) n (Vs.map sv)) (h2 : Sl w (.slice b n d) n (Vs.map sv)) :
    Calls Tryz.prog 64 #[.slice a n c, .slice b n d] w (Ret (.bool true) w) := by
 have hLa := h1.len
 refine zin 26 Tryz.func64 ?_
 refine xk 15 (show (((↑n : Int) != (↑n : Int)) : Bool) = false from by simp) ?_
 have hB := Below.refl w.heap.size w
 refine zl 11 26 (fun zm zkv V => ∃ (i : Nat), zkv = [(0, .slice a n c), (1, .slice b n d), (12, .int .i64 (↑n : Int)), (13, .int .i64 (↑i : Int))] ∧ zm = n - ((↑i : Int)).toNat ∧ Below w.heap.size w V ∧ i ≤ n) ⟨0, rfl, rfl, hB, Nat.zero_le _⟩ ?_
 rintro _ _ W1 ⟨i, rfl, rfl, hB_1, hi⟩ J1 hJ1 r1
 refine xid 6 ((↑i : Int) < (↑n : Int)) (fun hc2 => ?_) (fun hc2 => ?_)
 · refine xd 11 .z ?_
   refine xx (.e [0, 1] 2) _ n i 1 (Strs.elem h1 hV (k := i) (by omega)).1 ?_
   have hB'1 := Bl.next hB_1 (below_drew W1)
   refine xl (.e [] 3) ((Strs.elem (h1.below hB'1) hV (k := i) (by omega)).2) ?_
   refine xx (.e [4, 5] 6) _ n i 1 (Strs.elem h2 hV (k := i) (by omega)).1 ?_
   refine xl (.e [] 7) ((Strs.elem (h2.below hB'1) hV (k := i) (by omega)).2) ?_
   refine xk (.r [8] 2) (show (!((⟨(Vs.getD i []).toArray⟩ : ByteArray).toList == (⟨(Vs.getD i []).toArray⟩ : ByteArray).toList) : Bool) = false from by simp) ?_
   refine xwm 4 ((↑i : Int) + 1) (↑(i + 1) : Int) ?_
   exact ze 2 (hJ1 _ _ _ ⟨i + 1, rfl, rfl, hB'1, by omega⟩ (by omega))
 exact xe 11 (.bool true) ⟨rfl, hB_1⟩
set_option maxRecDepth 100000 in
set_option maxHeartbeats 4000000 in
theorem node_Same (t : Int) (leaf : Bool) (n : Nat) (K : List Int) (Vs : List (List UInt8)) (kp vp kp2 vp2 : Option Addr) (kc vc kc2 vc2 : Nat) (w : World) (hK : K.length = n) (hV : Vs.length = n) (h1 : Sl w (.slice kp n kc) n (K.map (Value.int .i64))) (h2 : Sl w (.slice vp n vc) n (Vs.map sv)) (h3 : Sl w (.slice kp2 n kc2) n (K.map (Value.int .i64))) (h4 : Sl w (.slice vp2 n vc2) n (Vs.map sv)) :
    Calls Tryz.prog 24 #[.agg #[.int .i64 t, .bool leaf, .slice kp n kc, .slice vp n vc], .agg #[.int .i64 t, .bool leaf, .slice kp2 n kc2, .slice vp2 n vc2]] w (Ret (.bool true) w) := by
 refine zin 31 Tryz.func24 ?_
 refine xa 2 [.int .i64 t, .bool leaf, .slice kp n kc, .slice vp n vc] 52 fun b1 W1 n1 => ?_
 refine xa 0 [.int .i64 t, .bool leaf, .slice kp2 n kc2, .slice vp2 n vc2] 52 fun b2 W2 n2 => ?_
 have d2_b1 := n2.ne n1.blk
 have k1'1 := n1.blk.below n2.below
 refine xb 6 0 k1'1 ?_
 refine xb 1 0 n2.blk ?_
 refine xgk 2 [9, 10] (show ((t == t) : Bool) = true from by simp) ?_
 refine xb 1 1 k1'1 ?_
 refine xb 1 1 n2.blk ?_
 refine xgk 3 [15, 16, 17] (show ((leaf == leaf) : Bool) = true from by simp) ?_
 refine xb 1 2 k1'1 ?_
 refine xb 1 2 n2.blk ?_
 have hB := Bl.next n1.below n2.below
 refine xr 0 (args := #[.slice kp n kc, .slice kp2 n kc2]) (slices_EqualI K n kp kp2 kc kc2 _ hK (h1.below hB) (h3.below hB)) fun W5 hb5 => ?_
 have k1'2 := k1'1.below hb5
 refine xb 3 3 k1'2 ?_
 have k2'1 := n2.blk.below hb5
 refine xb 1 3 k2'1 ?_
 have hB'1 := Bl.next hB hb5
 refine xr 0 (args := #[.slice vp n vc, .slice vp2 n vc2]) (slices_EqualS Vs n vp vp2 vc vc2 _ hV (h2.below hB'1) (h4.below hB'1)) fun W6 hb6 => ?_
 have hB'2 := Bl.next hB'1 hb6
 exact xe 5 (.bool true) ⟨rfl, hB'2⟩
end Go.Proofs.YtinegkldgjhnpaaGreatDoor
namespace Go.Proofs.YtinegkldgjhnpaaGreatDoor
open Go.RowKit Go.Extern.Stop Go.Stop Go.Extern
set_option linter.unusedVariables false
attribute [local irreducible] wpList wpAnyH Code.wp Oper.wp Go

set_option maxRecDepth 100000 in
set_option maxHeartbeats 1000000 in
theorem image_NewR (k : Nat) (w : World) (hk : k ≤ 14400) :
    Calls Tryz.prog 19 #[.int .i64 (↑k : Int)] w (RetS (fun w' r => ∃ b p c, r = .tuple #[.pointer (some ⟨b, 0, none⟩), .int .i64 0] ∧ w.heap.size ≤ b ∧ ImgR w.heap.size b p (k * 256) c (List.replicate (k * 256) (0 : UInt8)) w') w) := by
 refine zin 15 Tryz.func19 ?_
 refine xgk 12 [5, 6] (show (decide ((↑k : Int) < (0 : Int)) : Bool) = false from decide_eq_false (by omega)) ?_
 refine xk 5 (show (decide ((↑k : Int) > (14400 : Int)) : Bool) = false from decide_eq_false (by omega)) ?_
 refine xwm 5 ((↑k : Int) * 256) (↑(k * 256) : Int) ?_
 refine xmk 0 fun _ _ _ _ zJ zQ zo zx zy zK => op_make (k * 256) (.int .u8 0) 1 1 ((List.replicate (k * 256) (0 : UInt8)).map bv) zo zx zy Tryz.underlying22 (by kernel_rfl) rfl (by omega) (by omega) (zerosB (k * 256)) fun b2 W2 n2 => ?_
 refine zK _ _ ?_
 refine xa 1 [.slice (some ⟨b2, 0, none⟩) (k * 256) (k * 256)] 100 fun b3 W3 n3 => ?_
 have hB := Bl.next n2.below n3.below
 have g3 := n3.ge n2.below
 have o2 := own_below (own_of_blk (size := 1) (n := (k * 256)) n2.blk (n2.ge (Below.refl w.heap.size _)) (by rw [List.length_map, List.length_replicate, Nat.mul_one]) (by unfold maxLen; omega)) n3.below
 exact xe 5 (.tuple #[.pointer (some ⟨b3, 0, none⟩), .int .i64 0]) ⟨_, rfl, hB, _, _, _, rfl, g3, ⟨n3.blk, o2, by omega⟩⟩
end Go.Proofs.YtinegkldgjhnpaaGreatDoor
namespace Go.Proofs.YtinegkldgjhnpaaGreatDoor
open Go.RowKit Go.Extern.Stop Go.Stop Go.Extern
set_option linter.unusedVariables false

theorem Tryz.valueOfPQ (t : Addr) (w : World) : (ReflectliteValue.unpack (.iface 70 (.pointer (some t)))).run Tryz.prog w
    = .ok (.agg #[.pointer (some ⟨4, 70, none⟩), .pointer (some ⟨w.heap.size, 0, none⟩), .int .u64 150]) (w.alloc (.cells #[.pointer (some t)] 70)) := by kernel_rfl
theorem Tryz.typePQ (a : Addr) (w : World) : (ReflectliteValue.methodAny (ReflectliteValue.valueError "reflectlite.Value.Type" 0) (fun t _ _ _ => ReflectliteType.toType t) #[.agg #[.pointer (some ⟨4, 70, none⟩), .pointer (some a), .int .u64 150]]).run Tryz.prog w
    = .ok (.iface 200 (.agg #[.pointer (some ⟨4, 70, none⟩)])) w := by kernel_rfl
theorem Tryz.kindPQ (w : World) : ((ReflectliteType.abiMethod fun t => (fun a : Nat => Value.int IntKind.u8 (a : Int)) <$> Rtype.kind t) #[.pointer (some ⟨4, 70, none⟩)]).run Tryz.prog w = .ok (.int .u8 22) w := by kernel_rfl
theorem Tryz.kindQ (w : World) : ((ReflectliteType.abiMethod fun t => (fun a : Nat => Value.int IntKind.u8 (a : Int)) <$> Rtype.kind t) #[.pointer (some ⟨4, 67, none⟩)]).run Tryz.prog w = .ok (.int .u8 22) w := by kernel_rfl
theorem Tryz.partsPQ (a : Addr) (w : World) : (ReflectliteValue.parts (.agg #[.pointer (some ⟨4, 70, none⟩), .pointer (some a), .int .u64 150])).run Tryz.prog w = .ok (some (70, a, 150)) w := by kernel_rfl
theorem Tryz.isNilPQ (a p : Addr) (W : World) (ha : W.cell? a = some (.pointer (some p))) :
    (ReflectliteValue.method (ReflectliteValue.valueError "reflectlite.Value.IsNil" 0) ReflectliteValue.isNil #[.agg #[.pointer (some ⟨4, 70, none⟩), .pointer (some a), .int .u64 150]]).run Tryz.prog W = .ok (.bool false) W := by
  rw [as_rlm]
  simp only [Sem.run_bind, Tryz.partsPQ, Result.andThen]
  simp [ReflectliteValue.isNil, loadVar, isAgg, underlying, Tryz.underlying70, ha, Result.andThen]
theorem Tryz.elemPQ (w : World) : (ReflectliteType.method ReflectliteType.elem #[.agg #[.pointer (some ⟨4, 70, none⟩)]]).run Tryz.prog w = .ok (.iface 200 (.agg #[.pointer (some ⟨4, 67, none⟩)])) w := by kernel_rfl
theorem Tryz.implementsQ (w : World) : (ReflectliteType.relation "Implements" ReflectliteType.implements_ #[.agg #[.pointer (some ⟨4, 67, none⟩)], .iface 200 (.agg #[.pointer (some ⟨4, 41, none⟩)])]).run Tryz.prog w = .ok (.bool true) w := by kernel_rfl
theorem Tryz.assignQ (w : World) : (ReflectliteType.relation "AssignableTo" ReflectliteType.assignableTo #[.agg #[.pointer (some ⟨4, 67, none⟩)], .iface 200 (.agg #[.pointer (some ⟨4, 67, none⟩)])]).run Tryz.prog w = .ok (.bool true) w := by kernel_rfl
theorem Tryz.valueOfQ (p : Addr) (w : World) : (ReflectliteValue.unpack (.iface 67 (.pointer (some p)))).run Tryz.prog w
    = .ok (.agg #[.pointer (some ⟨4, 67, none⟩), .pointer (some ⟨w.heap.size, 0, none⟩), .int .u64 150]) (w.alloc (.cells #[.pointer (some p)] 67)) := by kernel_rfl
theorem Tryz.elemOfPQ (w : World) : (Rtype.elem? 70).run Tryz.prog w = .ok (some 67) w := by kernel_rfl
theorem Tryz.mkQ (p : Addr) (w : World) : (ReflectliteValue.mk 67 p ReflectliteValue.flagAddr).run Tryz.prog w = .ok (.agg #[.pointer (some ⟨4, 67, none⟩), .pointer (some p), .int .u64 406]) w := by kernel_rfl
theorem Tryz.elemVPQ (a p : Addr) (W : World) (ha : W.cell? a = some (.pointer (some p))) :
    (ReflectliteValue.method (ReflectliteValue.valueError "reflectlite.Value.Elem" 0) ReflectliteValue.elem #[.agg #[.pointer (some ⟨4, 70, none⟩), .pointer (some a), .int .u64 150]]).run Tryz.prog W
      = .ok (.agg #[.pointer (some ⟨4, 67, none⟩), .pointer (some p), .int .u64 406]) W := by
  rw [as_rlm]
  simp only [Sem.run_bind, Tryz.partsPQ, Result.andThen]
  simp [ReflectliteValue.elem, loadVar, isAgg, underlying, Tryz.underlying70, ha, Result.andThen, Tryz.elemOfPQ, Tryz.mkQ]
theorem Tryz.partsQa (a : Addr) (w : World) : (ReflectliteValue.parts (.agg #[.pointer (some ⟨4, 67, none⟩), .pointer (some a), .int .u64 406])).run Tryz.prog w = .ok (some (67, a, 406)) w := by kernel_rfl
theorem Tryz.partsQ (a : Addr) (w : World) : (ReflectliteValue.parts (.agg #[.pointer (some ⟨4, 67, none⟩), .pointer (some a), .int .u64 150])).run Tryz.prog w = .ok (some (67, a, 150)) w := by kernel_rfl
theorem Tryz.directQ (w : World) : (Rtype.directlyAssignable 67 67).run Tryz.prog w = .ok true w := by kernel_rfl
theorem Tryz.setQ (ta b p : Addr) (old : Value) (W : World) (hb : W.cell? b = some (.pointer (some p))) (ht : W.cell? ta = some old) (hf : W.frozen? ta = false) :
    (ReflectliteValue.set #[.agg #[.pointer (some ⟨4, 67, none⟩), .pointer (some ta), .int .u64 406], .agg #[.pointer (some ⟨4, 67, none⟩), .pointer (some b), .int .u64 150]]).run Tryz.prog W
      = .ok (.tuple #[]) (W.setCell ta (.pointer (some p))) := by
  rw [as_rls]
  simp only [Sem.run_bind, Tryz.partsQa, Tryz.partsQ, Result.andThen]
  simp [ReflectliteValue.flagAddr, loadVar, isAgg, underlying, Tryz.underlying67, hb, Result.andThen, Tryz.directQ, storeVar, Value.cells, storeCells, Addr.add]
  rw [run_store Tryz.prog W ta _ _ (by rfl)]
  simp [ht, hf]
def refTQ (a : Nat) : Value := .agg #[.pointer (some ⟨4, 70, none⟩), .pointer (some ⟨a, 0, none⟩), .int .u64 150]
def AsPostQ (T bf : Nat) (w : World) (e : Ending) (w' : World) : Prop := e = .returned (.bool true) ∧ ∃ w1, Below w.heap.size w w1 ∧ w' = w1.setCell ⟨T, 0, none⟩ (.pointer (some ⟨bf, 0, none⟩))
set_option maxRecDepth 100000 in
set_option maxHeartbeats 4000000 in
theorem errors_asQ (T bV bf : Nat) (old : Value) (w : World) (hT : Blk w T [old] 67) (hV : w.cell? ⟨bV, 0, none⟩ = some (.pointer (some ⟨T, 0, none⟩))) :
    Calls Tryz.prog 68 #[.iface 67 (.pointer (some ⟨bf, 0, none⟩)), .iface 70 (.pointer (some ⟨T, 0, none⟩)), refTQ bV, .iface 200 (.agg #[.pointer (some ⟨4, 67, none⟩)])] w (AsPostQ T bf w) := by
  have x45 := @run_callFunc_extern Tryz.prog 65 _ (fun args => ReflectliteValue.unpack (args.getD 0 (.tuple #[]))) Tryz.func65 (by kernel_rfl) (by kernel_rfl) (by kernel_rfl) (by kernel_rfl)
  have x66 := @run_callFunc_extern Tryz.prog 106 _ ReflectliteType.typeOf Tryz.func106 (by kernel_rfl) (by kernel_rfl) (by kernel_rfl) (by kernel_rfl)
  have x35 := @run_callFunc_extern Tryz.prog 210 _ (ReflectliteType.relation "AssignableTo" ReflectliteType.assignableTo) Tryz.func210 (by kernel_rfl) (by kernel_rfl) (by kernel_rfl) (by kernel_rfl)
  have x11 := @run_callFunc_extern Tryz.prog 107 _ (ReflectliteValue.method (ReflectliteValue.valueError "reflectlite.Value.Elem" 0) ReflectliteValue.elem) Tryz.func107 (by kernel_rfl) (by kernel_rfl) (by kernel_rfl) (by kernel_rfl)
  have x12 := @run_callFunc_extern Tryz.prog 108 _ ReflectliteValue.set Tryz.func108 (by kernel_rfl) (by kernel_rfl) (by kernel_rfl) (by kernel_rfl)
  have y2 := Tryz.typeOfF
  have y5 := Tryz.assignQ
  have y7 := Tryz.methAssign
  have y8 := Tryz.valueOfQ
  unfold refTQ
  go_enter Tryz.func68, Tryz.ntmps68
  go_wp2_with fail
  have kV := Blk.new w [.pointer (some ⟨4, 70, none⟩), .pointer (some ⟨bV, 0, none⟩), .int .u64 150] 139
  have hB := Bl.box w (.cells #[.pointer (some ⟨4, 70, none⟩), .pointer (some ⟨bV, 0, none⟩), .int .u64 150] 139)
  obtain ⟨W, hW⟩ : ∃ W, w.alloc (.cells #[.pointer (some ⟨4, 70, none⟩), .pointer (some ⟨bV, 0, none⟩), .int .u64 150] 139) = W := ⟨_, rfl⟩
  change Blk (w.alloc (.cells #[.pointer (some ⟨4, 70, none⟩), .pointer (some ⟨bV, 0, none⟩), .int .u64 150] 139)) _ _ _ at kV
  rw [hW] at kV hB ⊢
  have hT1 := hT.below hB
  have hV1 := getC hB hV
  clear hW hT hV
  go_loopg [0] 0 (fun k x wr => x = .iface 67 (.pointer (some ⟨bf, 0, none⟩)) ∧ Below W.heap.size W wr)
  case atStart => exact ⟨rfl, Below.refl _ _⟩
  case round =>
    obtain ⟨hx, hbr⟩ := hrel
    have kT := hT1.below hbr
    have kW := kV.below hbr
    have cV := getC hbr hV1
    have cT := kT.cell (i := 0) rfl
    have fT := kT.frozen 0
    have c60 := kW.cell (i := 0) rfl
    have c61 := kW.cell (i := 1) rfl
    have c62 := kW.cell (i := 2) rfl
    obtain rfl : u0 = _ := hx
    have z1 := Tryz.elemVPQ ⟨bV, 0, none⟩ ⟨T, 0, none⟩ wr cV
    have z2 := Tryz.setQ ⟨T, 0, none⟩ ⟨wr.heap.size, 0, none⟩ ⟨bf, 0, none⟩ old (wr.alloc (.cells #[.pointer (some ⟨bf, 0, none⟩)] 67)) ((Blk.new wr [.pointer (some ⟨bf, 0, none⟩)] 67).cell (i := 0) rfl) (getA _ cT) ((kT.alloc _).frozen 0)
    go_wp2_with fail
    go_ret
    exact ⟨rfl, _, Bl.next hB (Bl.next hbr (Bl.box _ _)), rfl⟩
set_option maxRecDepth 100000 in
set_option maxHeartbeats 4000000 in
theorem errors_AsQ (T bf : Nat) (old : Value) (w : World) (hg : ErrT w) (hT : Blk w T [old] 67) :
    Calls Tryz.prog 26 #[.iface 67 (.pointer (some ⟨bf, 0, none⟩)), .iface 70 (.pointer (some ⟨T, 0, none⟩))] w (AsPostQ T bf w) := by
  have h1 := @run_callFunc_extern Tryz.prog 65 _ (fun args => ReflectliteValue.unpack (args.getD 0 (.tuple #[]))) Tryz.func65 (by kernel_rfl) (by kernel_rfl) (by kernel_rfl) (by kernel_rfl)
  have h2 := @run_callFunc_extern Tryz.prog 66 _ (ReflectliteValue.methodAny (ReflectliteValue.valueError "reflectlite.Value.Type" 0) (fun t _ _ _ => ReflectliteType.toType t)) Tryz.func66 (by kernel_rfl) (by kernel_rfl) (by kernel_rfl) (by kernel_rfl)
  have h3 := @run_callFunc_extern Tryz.prog 67 _ (ReflectliteValue.method (ReflectliteValue.valueError "reflectlite.Value.IsNil" 0) ReflectliteValue.isNil) Tryz.func67 (by kernel_rfl) (by kernel_rfl) (by kernel_rfl) (by kernel_rfl)
  have h4 := @run_callFunc_extern Tryz.prog 185 _ (ReflectliteType.abiMethod fun t => do pure (.int .u8 (← Rtype.kind t))) Tryz.func185 (by kernel_rfl) (by kernel_rfl) (by kernel_rfl) (by kernel_rfl)
  have h5 := @run_callFunc_extern Tryz.prog 212 _ (ReflectliteType.method ReflectliteType.elem) Tryz.func212 (by kernel_rfl) (by kernel_rfl) (by kernel_rfl) (by kernel_rfl)
  have h6 := @run_callFunc_extern Tryz.prog 213 _ (ReflectliteType.relation "Implements" ReflectliteType.implements_) Tryz.func213 (by kernel_rfl) (by kernel_rfl) (by kernel_rfl) (by kernel_rfl)
  have f1 := Tryz.valueOfPQ
  have f2 := Tryz.typePQ
  have f3 := Tryz.methKind
  have f4 := Tryz.methElem
  have f5 := Tryz.methImplements
  have f6 := Tryz.kindPQ
  have f7 := Tryz.kindQ
  have f8 := Tryz.elemPQ
  have f9 := Tryz.implementsQ
  have hV : Blk (w.alloc (.cells #[.pointer (some ⟨T, 0, none⟩)] 70)) w.heap.size [.pointer (some ⟨T, 0, none⟩)] 70 := Blk.new w _ _
  obtain ⟨O, hO⟩ : ∃ O : Obj, O = .cells #[.pointer (some ⟨4, 70, none⟩), .pointer (some ⟨w.heap.size, 0, none⟩), .int .u64 150] 139 := ⟨_, rfl⟩
  have hV2 := (hV.alloc O).cell (i := 0) rfl
  have n8 := Tryz.isNilPQ ⟨w.heap.size, 0, none⟩ ⟨T, 0, none⟩ ((w.alloc (.cells #[.pointer (some ⟨T, 0, none⟩)] 70)).alloc O) hV2
  have hB : Below w.heap.size w ((w.alloc (.cells #[.pointer (some ⟨T, 0, none⟩)] 70)).alloc O) := Bl.next (Bl.box _ _) (Bl.box _ _)
  have g2 := hg.below hB
  have hcall := errors_asQ T w.heap.size bf old _ (hT.below hB) hV2
  subst hO
  unfold ErrT at g2
  unfold refTQ at hcall
  clear hV hV2 hg hT
  go_enter Tryz.func26, Tryz.ntmps26
  go_wp2_with fail
  refine hcall.mono ?_
  intro e w' h
  obtain ⟨rfl, w1, h1, rfl⟩ := h
  go_wp2_with fail
  go_ret
  exact ⟨rfl, w1, Bl.next hB h1, rfl⟩
/-- .. where the target is a block of the call's own -/
theorem errors_AsB (B T bf : Nat) (old : Value) (w : World) (hg : ErrT w) (hB : B ≤ w.heap.size) (hBT : B ≤ T) (hT : Blk w T [old] 67) :
    Calls Tryz.prog 26 #[.iface 67 (.pointer (some ⟨bf, 0, none⟩)), .iface 70 (.pointer (some ⟨T, 0, none⟩))] w (fun e w' => e = .returned (.bool true) ∧ Below B w w' ∧ Only [67] w w' ∧ Blk w' T [.pointer (some ⟨bf, 0, none⟩)] 67) := by
  refine (errors_AsQ T bf old w hg hT).mono ?_
  rintro e W ⟨rfl, w1, hb, rfl⟩
  have k1 := hT.below hb
  exact ⟨rfl, (Upd.setCell w1 T 0 _).below (hb.mono hB) hBT, (Only.of_below hb).trans (Only.of_upd (Upd.setCell w1 T 0 _) k1 (by decide)), k1.set 0 _⟩
end Go.Proofs.YtinegkldgjhnpaaGreatDoor
namespace Go.Proofs.YtinegkldgjhnpaaGreatDoor
open Go.RowKit Go.Extern.Stop Go.Stop Go.Extern
set_option linter.unusedVariables false
attribute [local irreducible] wpList wpAnyH Code.wp Oper.wp Go

theorem seal_OpenNb (kind no : Int) (a : Option Addr) (n c : Nat) (l : List UInt8) (w : World) (hn : l.length = n) (h : Bys w (.slice a n c) l) : Calls Tryz.prog 100 #[.slice a n c, .int .i64 kind, .int .i64 no] w (OpenP kind no l w) := by
  subst hn; exact seal_Open kind no a c l w h
theorem bits_ReadN (a : Option Addr) (n c : Nat) (l : List UInt8) (w : World) (hn : l.length = n) (hl : n ≤ 100000000) (h : Bys w (.slice a n c) l) : Calls Tryz.prog 60 #[.slice a n c] w (BitsP l w) := by
  subst hn; exact bits_Read a c l w hl h
def bitsOkB (l : List UInt8) : Bool := decide (l.length = 244) && decide (rawN l 0 4 ≤ 960) && (List.range 960).all fun i => decide (i < rawN l 0 4) || bitN l i == 0
theorem bitsOkB_iff (l : List UInt8) : bitsOkB l = true ↔ bitsOk l := by
  unfold bitsOkB bitsOk
  simp only [Bool.and_eq_true, decide_eq_true_eq, List.all_eq_true, List.mem_range, Bool.or_eq_true, beq_iff_eq]
  constructor
  · rintro ⟨⟨h1, h2⟩, h3⟩
    exact ⟨h1, h2, fun i hi hc => (h3 i hi).resolve_left (by omega)⟩
  · rintro ⟨h1, h2, h3⟩
    exact ⟨⟨h1, h2⟩, fun i hi => by by_cases h : i < rawN l 0 4; exact .inl h; exact .inr (h3 i hi (by omega))⟩
/-- the number of Bits' error -/
def bitsErr (l : List UInt8) (no : Int) : Int := if inE l 3 no = 0 then (if bitsOkB (inB l no) then 0 else 7) else inE l 3 no
def BlkBitsP (l : List UInt8) (no : Int) (w : World) (e : Ending) (w' : World) : Prop :=
  (bitsErr l no ≠ 0 ∧ ∃ b, e = .returned (.tuple #[.slice none 0 0, .iface 67 (.pointer (some ⟨b, 0, none⟩))]) ∧ Below w.heap.size w w' ∧ ErrV w' [some no] (some (bitsErr l no)) (.iface 67 (.pointer (some ⟨b, 0, none⟩)))) ∨
  (bitsErr l no = 0 ∧ ∃ p c, e = .returned (.tuple #[.slice p (rawN (inB l no) 0 4) c, .nilIface]) ∧ Below w.heap.size w w' ∧ w'.ownsRow w.heap.size 3 1 (.slice p (rawN (inB l no) 0 4) c) (rawN (inB l no) 0 4) ((bitsL (inB l no) (rawN (inB l no) 0 4)).map nv))
set_option maxRecDepth 100000 in
set_option maxHeartbeats 1000000 in
theorem readB (B b : Nat) (p : Option Addr) (n c : Nat) (l : List UInt8) (no : Int) (w : World) (hI : ImgR B b p n c l w) :
    Calls Tryz.prog 59 #[.pointer (some ⟨b, 0, none⟩), .int .i64 no, .int .i64 3, .func (.func 60) #[] #[]] w (BlkBitsP l no w) := by
 refine zin 56 Tryz.func59 ?_
 refine xc 15 (args := #[.pointer (some ⟨b, 0, none⟩), .int .i64 no]) (image_Read B b p n c l no _ (hI.below (Below.refl w.heap.size _))) ?_
 rintro e W1 hq1
 rcases hq1 with ⟨ho, vr, rfl, hb1⟩ | ⟨j, hk, hj, p2, c2, rfl, hb1, ho⟩
 · refine xc 21 (args := #[.int .i64 no, .iface 53 (.int .i64 3)]) (block_told no 3 _) ?_
   rintro _ W2 ⟨_, rfl, hb2, hv2⟩
   rw [if_neg (by decide), if_neg (by decide)] at hv2
   have hq2 := hv2
   obtain ⟨bf2, vf2, rfl, _, _⟩ := hq2
   have hB := Bl.next hb1 hb2
   refine xe 6 (.tuple #[.slice none 0 0, .iface 67 (.pointer (some ⟨bf2, 0, none⟩))]) ?_
   have he : bitsErr l no = 3 := by unfold bitsErr; rw [inE_out hI.len ho]; rfl
   exact .inl ⟨by rw [he]; decide, _, rfl, hB, by rw [he]; exact hv2⟩
 have hs1 := Nat.le_refl w.heap.size
 have hj2 : j < l.length / 256 := by rw [hI.len]; exact hj
 have hlj := blkB_len hj2
 have he2 := inE_in (l := l) (kind := 3) hI.len hk hj
 have ho'1 := own_mono ho hs1
 refine xc 22 (args := #[.slice p2 256 c2, .int .i64 3, .int .i64 no]) (seal_OpenNb 3 no p2 256 c2 (blkB l j) _ hlj (bys_of (own_sl ho'1) hlj)) ?_
 rintro e W3 hq3
 rcases hq3 with ⟨hs, rfl, hb3⟩ | ⟨hs, p3, c3, rfl, hb3, h3⟩
 · refine xk 14 (show (((openE 3 no (blkB l j)) != (0 : Int)) : Bool) = true from bne_iff_ne.2 hs) ?_
   refine xc 6 (args := #[.int .i64 no, .iface 53 (.int .i64 (openE 3 no (blkB l j)))]) (block_told no (openE 3 no (blkB l j)) _) ?_
   rintro _ W4 ⟨_, rfl, hb4, hv4⟩
   rw [if_neg hs, if_neg hs] at hv4
   have hq4 := hv4
   obtain ⟨bf4, vf4, rfl, _, _⟩ := hq4
   have hB := Bl.next (Bl.next hb1 hb3) hb4
   refine xe 6 (.tuple #[.slice none 0 0, .iface 67 (.pointer (some ⟨bf4, 0, none⟩))]) ?_
   have he : bitsErr l no = openE 3 no (blkB l j) := by unfold bitsErr; rw [he2, if_neg hs]
   exact .inl ⟨by rw [he]; exact hs, _, rfl, hB, by rw [he]; exact hv4⟩
 have h3'1 := own_mono h3 hb1.size
 have hin : ((blkB l j).drop 8).take 244 = inB l no := (inB_in hk).symm
 have hil := inB_len hI.len hk hj
 rw [hin] at h3'1
 refine xc 21 (args := #[.slice p3 244 c3]) (bits_ReadN p3 244 c3 (inB l no) _ hil (by decide) (bys_of (own_sl h3'1) hil)) ?_
 rintro e W5 hq5
 rcases hq5 with ⟨hb0, rfl, hb5⟩ | ⟨hb0, p4, c4, rfl, hb5, h4⟩
 · refine xc 21 (args := #[.int .i64 no, .iface 53 (.int .i64 7)]) (block_told no 7 _) ?_
   rintro _ W6 ⟨_, rfl, hb6, hv6⟩
   rw [if_neg (by decide), if_neg (by decide)] at hv6
   have hq6 := hv6
   obtain ⟨bf6, vf6, rfl, _, _⟩ := hq6
   have hB := Bl.next (Bl.next (Bl.next hb1 hb3) hb5) hb6
   refine xe 6 (.tuple #[.slice none 0 0, .iface 67 (.pointer (some ⟨bf6, 0, none⟩))]) ?_
   have he : bitsErr l no = 7 := by unfold bitsErr; rw [he2, if_pos hs, if_neg (by rw [bitsOkB_iff]; exact hb0)]
   exact .inl ⟨by rw [he]; decide, _, rfl, hB, by rw [he]; exact hv6⟩
 have hs5 := (Bl.next hb1 hb3).size
 have hB := Bl.next (Bl.next hb1 hb3) hb5
 have h4'1 := own_mono h4 hs5
 exact xe 25 (.tuple #[.slice p4 (rawN (inB l no) 0 4) c4, .nilIface]) (.inr ⟨by unfold bitsErr; rw [he2, if_pos hs, if_pos ((bitsOkB_iff _).2 hb0)], _, _, rfl, hB, h4'1⟩)
set_option maxRecDepth 100000 in
set_option maxHeartbeats 1000000 in
theorem block_Bits (B b : Nat) (p : Option Addr) (n c : Nat) (l : List UInt8) (no : Int) (w : World) (hI : ImgR B b p n c l w) :
    Calls Tryz.prog 22 #[.pointer (some ⟨b, 0, none⟩), .int .i64 no] w (BlkBitsP l no w) := by
 refine zin 11 Tryz.func22 ?_
 refine xc 10 (args := #[.pointer (some ⟨b, 0, none⟩), .int .i64 no, .int .i64 3, .func (.func 60) #[] #[]]) (readB B b p n c l no _ (hI.below (Below.refl w.heap.size _))) ?_
 rintro e W1 hq1
 rcases hq1 with ⟨he, bf, rfl, hb1, hv⟩ | ⟨he, p4, c4, rfl, hb1, h4⟩
 · exact xe 7 (.tuple #[.slice none 0 0, .iface 67 (.pointer (some ⟨bf, 0, none⟩))]) (.inl ⟨he, _, rfl, hb1, hv⟩)
 have hs1 := Nat.le_refl w.heap.size
 have h4'1 := own_mono h4 hs1
 exact xe 7 (.tuple #[.slice p4 (rawN (inB l no) 0 4) c4, .nilIface]) (.inr ⟨he, _, _, rfl, hb1, h4'1⟩)
end Go.Proofs.YtinegkldgjhnpaaGreatDoor
namespace Go.Proofs.YtinegkldgjhnpaaGreatDoor
open Go.RowKit Go.Extern.Stop Go.Stop Go.Extern
set_option linter.unusedVariables false
attribute [local irreducible] wpList wpAnyH Code.wp Oper.wp Go

theorem ImgR.mono {B B' b : Nat} {p : Option Addr} {n c : Nat} {l : List UInt8} {w : World} (h : ImgR B b p n c l w) (hB : B' ≤ B) : ImgR B' b p n c l w := ⟨h.blk, own_mono h.row hB, h.hn⟩
theorem image_OfR (a : Option Addr) (c n m : Nat) (l : List UInt8) (w : World) (hn : l.length = n) (hm : min (n / 256) 14400 * 256 = m) (h : Bys w (.slice a n c) l) (hl : n ≤ 100000000) (hc : n ≤ c) :
    Calls Tryz.prog 10 #[.slice a n c] w (RetS (fun w' r => ∃ b p c2, r = .pointer (some ⟨b, 0, none⟩) ∧ w.heap.size ≤ b ∧ ImgR w.heap.size b p m c2 (l.take m) w') w) := by
  subst hn hm
  refine (image_Of a c l w h hl hc).mono ?_
  rintro e W ⟨_, rfl, hb, b, p, c2, rfl, h1, h2, h3⟩
  exact ⟨_, rfl, hb, b, p, c2, rfl, h1, h2, h3, by omega⟩
def WroteR (B b : Nat) (p : Option Addr) (n c : Nat) (l : List UInt8) (w : World) (e : Ending) (w' : World) : Prop :=
  e = .returned .nilIface ∧ Below B w w' ∧ Only [5] w w' ∧ ImgR B b p n c l w'
theorem block_WriteR (B b : Nat) (p : Option Addr) (n c k : Nat) (ki : Int) (l : List UInt8) (kind : Int) (a : Option Addr) (ca m : Nat) (li : List UInt8) (w : World) (hki : ki = (k : Int)) (hm : li.length = m) (hI : ImgR B b p n c l w) (hk : k < n / 256) (h1 : 1 ≤ kind) (h2 : kind ≤ 4) (hin : Bys w (.slice a m ca) li) (hl : m ≤ 244) (hBw : B ≤ w.heap.size) :
    Calls Tryz.prog 20 #[.pointer (some ⟨b, 0, none⟩), .int .i64 ki, .int .i64 kind, .slice a m ca] w (WroteR B b p n c (putB l (k * 256) (sealB kind k li)) w) := by
  subst hki hm
  obtain ⟨g, rfl, hc⟩ := hI.base (by omega)
  refine (block_Write B b g n c k l kind a ca li w hI.blk hI.row hI.hn hc hk h1 h2 hin hl hBw).mono ?_
  rintro e W ⟨rfl, hb, hO, _, ho⟩
  exact ⟨rfl, hb, hO, hI.blk.only hO (by decide), ho, hI.hn⟩
end Go.Proofs.YtinegkldgjhnpaaGreatDoor
namespace Go.Proofs.YtinegkldgjhnpaaGreatDoor
open Go.RowKit Go.Extern.Stop Go.Stop Go.Extern
set_option linter.unusedVariables false
attribute [local irreducible] wpList wpAnyH Code.wp Oper.wp Go

theorem zeroCells_u8 (k : Nat) : Builtin.zeroCells #[Value.int .u8 0] k = (List.replicate k (Value.int .u8 0)).toArray := by
  apply Array.ext'
  unfold Builtin.zeroCells
  simp only [List.size_toArray, List.length_cons, List.length_nil, Nat.zero_add, Nat.mul_one, Nat.mod_one]
  rw [Array.toList_map]
  simp only [Array.toList_range]
  apply List.ext_getElem?
  intro i
  simp only [List.getElem?_map, List.getElem?_replicate]
  by_cases h : i < k
  · rw [List.getElem?_range h, if_pos h]; rfl
  · rw [if_neg h, List.getElem?_eq_none (by simpa using h)]; rfl
theorem op_appZ {P : Program} {a : Act} {w : World} {K : Act → World → Prop} {Q : Exit → Act → World → Prop} {o : Oper} {s x : Operand} {t tn e te : TypeId} {kq kn : IntKind} (b n k : Nat) (cs : List Value)
    (ho : o.op = .call { callee := .builtin .append, args := #[s, x], argTypes := #[t, tn] }) (ht : P.underlying t = some (.slice e)) (htn : P.underlying tn = some (.int kn)) (hi : (P.info? e).map (fun i => (i.zero, i.size, i.bytes)) = some (some (.int .u8 0), 1, 1))
    (hs : a.eval s = .slice (some ⟨b, 0, none⟩) n n) (hb : Blk w b cs te) (hl : cs.length = n) (hx : a.eval x = .int kq (k : Int)) (h0 : 0 < k) (hk : n + k ≤ 1000000)
    (h : ∀ g c W, W.ownsRow w.heap.size e 1 (.slice (some ⟨g, 0, none⟩) (n + k) c) (n + k) (cs ++ List.replicate k (.int .u8 0)) → Below w.heap.size w W → K (a.put o.dst (.slice (some ⟨g, 0, none⟩) (n + k) c)) W) : o.wp P a w K Q := by
  cases hq : P.info? e with
  | none => simp [hq] at hi
  | some i =>
    simp only [hq, Option.map_some, Option.some.injEq, Prod.mk.injEq] at hi
    obtain ⟨hz, h1, h2⟩ := hi
    have hb' : Blk w.drew b cs te := hb
    have hold := run_firstCells_some (P := P) (w := w.drew) i.size n ⟨b, 0, none⟩ n n cs (by rw [hl, h1, Nat.mul_one]) (fun j v hj => by
      have := hb'.cell hj
      by_cases h : j = 0
      · subst h; simpa [Addr.add] using this
      · simpa [Addr.add, h] using this)
    have hr := Lib.run_append_grow_zeros (P := P) w t tn o.type e i (.int .u8 0) kq kn ht htn hq hz (some ⟨b, 0, none⟩) n n cs hold k h0 (by omega) (by omega) (by omega) (by rw [h2]; omega) (growslice_fits (by omega) (by rw [h2]; omega))
    unfold Oper.wp execOp
    simp only [ho, resolve, invoke, builtin, Sem.run_bind, Sem.run_pure, Result.andThen_ok, List.map_toArray, List.map_cons, List.map_nil, hs, hx, hr]
    have hge := grownCap_ge w (n + k) n e
    have hcm : grownCap w (n + k) n e ≤ maxLen := grownCap_le_maxLen w (n + k) n e (by unfold maxLen; omega)
    refine h _ _ _ ⟨by simp [hl], .inr ⟨w.heap.size, _, _, rfl, Nat.le_refl _, heap_alloc_new w.drew _, hge, hcm, ?_, ?_⟩⟩ ((below_drew w).trans (show Below w.drew.heap.size w.drew _ from Bl.box w.drew _))
    · rw [show (Value.int .u8 0).cells = #[Value.int .u8 0] from rfl, zeroCells_u8, zeroCells_u8]; simp [hl]; omega
    · rw [show (Value.int .u8 0).cells = #[Value.int .u8 0] from rfl, zeroCells_u8, zeroCells_u8]
      simp only [Array.toList_append, List.append_assoc, Nat.mul_one]
      rw [← List.append_assoc, show n + k = (cs ++ List.replicate k (Value.int .u8 0)).length by simp [hl]]
      exact List.take_left
theorem run_append_room_zeros {P : Program} (w : World) (t tn ty e : TypeId) (i : TypeInfo) (kq kn : IntKind) (ht : P.underlying t = some (.slice e)) (htn : P.underlying tn = some (.int kn)) (hi : P.info? e = some i) (hz : i.zero = some (.int .u8 0)) (hs1 : i.size = 1) (hb1 : i.bytes = 1)
    (g n c k : Nat) (cur : Array Value) (hg : w.heap[g]? = some (.cells cur e (0, 0))) (h0 : 0 < k) (hroom : n + k ≤ c) (hfit : n + k ≤ cur.size) (hk : n + k ≤ 1000000) :
    (Builtin.append_ #[t, tn] ty #[.slice (some ⟨g, 0, none⟩) n c, .int kq k]).run P w =
      .ok (.slice (some ⟨g, 0, none⟩) (n + k) c) (w.setRow g (cur.toList.take n ++ List.replicate k (Value.int .u8 0) ++ cur.toList.drop (n + k)).toArray) := by
  have hk0 : k ≠ 0 := by omega
  have hw : IntKind.i64.wrap (k : Int) = k := by rw [IntKind.wrap_i64]; omega
  have h48i : ¬ (281474976710656 < (k : Int)) := by omega
  have hneg : ¬ ((k : Int) < 0) := by omega
  have hst := run_storeCells_at P g n e (List.replicate k (.int .u8 0)) 0 cur w hg (by simpa using hfit) (by intro u hu; rw [(List.mem_replicate.1 hu).2]; rfl)
  simp only [Nat.add_zero, List.length_replicate] at hst
  simp [Builtin.append_, run_underlying ht, run_underlying htn, sizeOf, typeInfo, zeroValue, hi, hz, hs1, hb1, asInt, asIntOf, hw, hneg, h48i, hk0, hroom, Addr.add_lit, show (Value.int IntKind.u8 0).cells = #[Value.int .u8 0] from rfl, zeroCells_u8, hst]
/-- append(s, make([]byte, k)...) onto a row of the call's own -/
theorem op_appZo {P : Program} {a : Act} {w : World} {K : Act → World → Prop} {Q : Exit → Act → World → Prop} {o : Oper} {s x : Operand} {t tn e : TypeId} {kq kn : IntKind} {base : Nat} {v : Value} {n : Nat} {xs : List Value} (k n' : Nat) (xs' : List Value)
    (ho : o.op = .call { callee := .builtin .append, args := #[s, x], argTypes := #[t, tn] }) (ht : P.underlying t = some (.slice e)) (htn : P.underlying tn = some (.int kn)) (hi : (P.info? e).map (fun i => (i.zero, i.size, i.bytes)) = some (some (.int .u8 0), 1, 1))
    (hs : a.eval s = v) (hown : w.ownsRow base e 1 v n xs) (hx : a.eval x = .int kq (k : Int)) (h0 : 0 < k) (hk : n + k ≤ 1000000) (hbase : base ≤ w.heap.size) (hn : n + k = n') (hxs : xs ++ List.replicate k (.int .u8 0) = xs')
    (h : ∀ b c' W, W.ownsRow base e 1 (.slice b n' c') n' xs' → w.grownBy W v.ownBlock → Below base w W → K (a.put o.dst (.slice b n' c')) W) : o.wp P a w K Q := by
  subst hn hxs
  cases hq : P.info? e with
  | none => simp [hq] at hi
  | some i =>
    simp only [hq, Option.map_some, Option.some.injEq, Prod.mk.injEq] at hi
    obtain ⟨hz, h1, h2⟩ := hi
    have hxl : xs.length = n := by simpa using hown.1
    have hlen : (xs ++ List.replicate k (Value.int .u8 0)).length = (n + k) * 1 := by simp [hxl]
    rcases hown.2 with ⟨rfl, rfl⟩ | ⟨g, c, cur, rfl, hbg, hg, hnc, hcm, hcs, htake⟩
    · obtain rfl : xs = [] := List.eq_nil_of_length_eq_zero hxl
      have hr := Lib.run_append_nil_zeros (P := P) w t tn o.type e i (.int .u8 0) kq kn ht htn hq hz k h0 (by omega) (by omega) (by rw [h2]; omega)
      unfold Oper.wp execOp
      simp only [ho, resolve, invoke, builtin, Sem.run_bind, Sem.run_pure, Result.andThen_ok, List.map_toArray, List.map_cons, List.map_nil, hs, hx, hr]
      have hge := grownCap_ge w k 0 e
      have hcm : grownCap w k 0 e ≤ maxLen := grownCap_le_maxLen w k 0 e (by unfold maxLen; omega)
      simp only [Nat.zero_add, List.nil_append] at h
      refine h _ _ _ ⟨by simp, .inr ⟨w.heap.size, _, _, rfl, hbase, heap_alloc_new w.drew _, hge, hcm, ?_, ?_⟩⟩ ⟨rfl, rfl, rfl, by simp, fun k hk _ => by first | exact heap_alloc_old w.drew _ k hk | exact heap_alloc_old w.drew _ hk⟩ (((below_drew w).trans (show Below w.drew.heap.size w.drew _ from Bl.box w.drew _)).mono hbase)
      · rw [show (Value.int .u8 0).cells = #[Value.int .u8 0] from rfl, zeroCells_u8, zeroCells_u8]; simp; omega
      · rw [show (Value.int .u8 0).cells = #[Value.int .u8 0] from rfl, zeroCells_u8, zeroCells_u8]
        simp only [Array.toList_append, Nat.mul_one]
        exact List.take_left' (by simp)
    by_cases hroom : n + k ≤ c
    · have hcs' : cur.size = c := by simpa using hcs
      have hr := run_append_room_zeros (P := P) w t tn o.type e i kq kn ht htn hq hz h1 h2 g n c k cur hg h0 hroom (by omega) hk
      unfold Oper.wp execOp
      simp only [ho, resolve, invoke, builtin, Sem.run_bind, Sem.run_pure, Result.andThen_ok, List.map_toArray, List.map_cons, List.map_nil, hs, hx, hr]
      have hgr : w.grownBy (w.setRow g (cur.toList.take n ++ List.replicate k (Value.int .u8 0) ++ cur.toList.drop (n + k)).toArray) (Value.ownBlock (.slice (some ⟨g, 0, none⟩) n c)) := ⟨rfl, rfl, rfl, by simp, fun k' _ hk' => setRow_other w g k' _ (fun e => hk' (by simp [Value.ownBlock, e]))⟩
      refine h _ _ _ ⟨hlen, .inr ⟨g, c, _, rfl, hbg, setRow_heap w g cur _ e _ hg, hroom, hcm, ?_, ?_⟩⟩ hgr (grown_below hgr hown (Nat.le_refl _) hbase)
      · simp only [List.size_toArray, List.length_append, List.length_take, List.length_drop, Array.length_toList, List.length_replicate]
        omega
      · have ht' : cur.toList.take n = xs := by simpa using htake
        rw [ht', ← hlen]
        exact List.take_left
    · have holds : ∀ j u, xs[j]? = some u → w.cell? ((⟨g, 0, none⟩ : Addr).add j) = some u := hown.cells (g := g) rfl
      have hold := run_firstCells_some (P := P) (w := w.drew) i.size n ⟨g, 0, none⟩ n c xs (by rw [hxl, h1, Nat.mul_one]) (by simpa using holds)
      have hr := Lib.run_append_grow_zeros (P := P) w t tn o.type e i (.int .u8 0) kq kn ht htn hq hz (some ⟨g, 0, none⟩) n c xs hold k h0 (by omega) (by omega) (by omega) (by rw [h2]; omega) (by rw [h2]; exact growslice_fits (by omega) (by omega))
      unfold Oper.wp execOp
      simp only [ho, resolve, invoke, builtin, Sem.run_bind, Sem.run_pure, Result.andThen_ok, List.map_toArray, List.map_cons, List.map_nil, hs, hx, hr]
      have hge := grownCap_ge w (n + k) c e
      have hcm : grownCap w (n + k) c e ≤ maxLen := grownCap_le_maxLen w (n + k) c e (by unfold maxLen; omega)
      refine h _ _ _ ⟨hlen, .inr ⟨w.heap.size, _, _, rfl, hbase, heap_alloc_new w.drew _, hge, hcm, ?_, ?_⟩⟩ ⟨rfl, rfl, rfl, by simp, fun k hk _ => by first | exact heap_alloc_old w.drew _ k hk | exact heap_alloc_old w.drew _ hk⟩ (((below_drew w).trans (show Below w.drew.heap.size w.drew _ from Bl.box w.drew _)).mono hbase)
      · rw [show (Value.int .u8 0).cells = #[Value.int .u8 0] from rfl, zeroCells_u8, zeroCells_u8]; simp [hxl]; omega
      · rw [show (Value.int .u8 0).cells = #[Value.int .u8 0] from rfl, zeroCells_u8, zeroCells_u8]
        simp only [Array.toList_append, List.append_assoc]
        rw [← List.append_assoc, ← hlen]
        exact List.take_left
end Go.Proofs.YtinegkldgjhnpaaGreatDoor
namespace Go.Proofs.YtinegkldgjhnpaaGreatDoor
open Go.RowKit Go.Extern.Stop Go.Stop Go.Extern
set_option linter.unusedVariables false

set_option maxHeartbeats 1000000 in
/-- strconv.Itoa at a number of one digit (no table is read) -/
theorem Tryz.itoa_small (i : Nat) (hi : i < 10) (w : World) : Calls Tryz.prog 190 #[.int .i64 i] w fun e w' => e = .returned (.string ⟨(Lib.decDigits i).toArray⟩) ∧ w' = w := by
  have : i = 0 ∨ i = 1 ∨ i = 2 ∨ i = 3 ∨ i = 4 ∨ i = 5 ∨ i = 6 ∨ i = 7 ∨ i = 8 ∨ i = 9 := by omega
  rcases this with rfl | rfl | rfl | rfl | rfl | rfl | rfl | rfl | rfl | rfl <;> (
    go_enter Tryz.func190, Tryz.ntmps190
    go_wp2
    go_ret
    exact ⟨by simp [Lib.decDigits]; rfl, rfl⟩)

/-- the numbers whose text Itoa prints, whatever has been added to this world -/
def Itoas (w : World) (n : Int) : Prop := ∀ W, Below w.heap.size w W → Calls Tryz.prog 190 #[.int .i64 n] W (Ret (.string ⟨(Lib.itoa n).toArray⟩) W)
theorem Itoas.below {w W : World} {n : Int} (h : Itoas w n) (hb : Below w.heap.size w W) : Itoas W n := fun X hX => h X (Bl.next hb hX)
theorem Itoas.small {n : Nat} (hn : n < 10) (w : World) : Itoas w n := fun W _ => by
  refine (Tryz.itoa_small n hn W).mono ?_
  rintro e w' ⟨rfl, rfl⟩
  refine ⟨?_, Below.refl _ _⟩
  simp [Lib.itoa]

def sBlock : ByteArray := ⟨#[98, 108, 111, 99, 107, 32]⟩
def sColon : ByteArray := ⟨#[58, 32]⟩
def sError : ByteArray := ⟨#[101, 114, 114, 111, 114, 32]⟩
def sOther : ByteArray := ⟨#[111, 116, 104, 101, 114]⟩
def numB (n : Int) : ByteArray := ⟨(Lib.itoa n).toArray⟩
/-- an error's text -/
def textB : List (Option Int) → Option Int → ByteArray
  | [], none => ⟨#[]⟩
  | [], some c => sError ++ numB c
  | some b :: r, t => sBlock ++ numB b ++ sColon ++ textB r t
  | none :: r, t => sOther
theorem Tryz.methErrorN (v : Value) (w : World) : (Go.method 413 53 v "Error").run Tryz.prog w = .ok (189, v) w := by kernel_rfl
theorem Tryz.methErrorF (v : Value) (w : World) : (Go.method 413 67 v "Error").run Tryz.prog w = .ok (204, v) w := by kernel_rfl
theorem Tryz.nilErrorF (a : Addr) (w : World) : (nilAhead 413 67 (.pointer (some a)) "Error").run Tryz.prog w = .ok (some false) w := by kernel_rfl

theorem errno_error (c : Int) (w : World) (hI : Itoas w c) (hs : (numB c).size ≤ 100) : Calls Tryz.prog 189 #[.int .i64 c] w (Ret (.string (sError ++ numB c)) w) := by
  have hc := hI w (Below.refl _ _)
  change Calls _ _ _ _ (Ret (.string (numB c)) w) at hc
  generalize numB c = x at hs hc ⊢
  unfold sError
  go_enter Tryz.func189, Tryz.ntmps189
  go_wp2_with fail
  refine hc.mono ?_
  rintro e w' ⟨rfl, hb⟩
  have hz : ¬ ((6 : Nat) + x.size > 9223372036854775807) := by omega
  go_wp2_with fail
  go_ret
  exact ⟨rfl, hb⟩
set_option maxRecDepth 100000 in
set_option maxHeartbeats 1000000 in
theorem fault_error_n (blk : Nat) (b : Int) (c : Int) (s : ByteArray) (w : World) (c0 : w.cell? ⟨blk, 0, none⟩ = some (.int .i64 b)) (c1 : w.cell? ⟨blk, 1, none⟩ = some (.iface 53 (.int .i64 c))) (hI : Itoas w b) (hs : (numB b).size ≤ 100) (ht : s.size ≤ 8000000)
    (hcall : ∀ W, Below w.heap.size w W → Calls Tryz.prog 189 #[(.int .i64 c)] W (Ret (.string s) W)) :
    Calls Tryz.prog 204 #[.pointer (some ⟨blk, 0, none⟩)] w (Ret (.string (sBlock ++ numB b ++ sColon ++ s)) w) := by
  have f1 := Tryz.methErrorN
  have hc : ∀ z : Ext w, Calls Tryz.prog 190 #[.int .i64 b] z.val (Ret (.string (numB b)) z.val) := fun z => hI z.val z.below
  have hd : ∀ z : Ext w, Calls Tryz.prog 189 #[(.int .i64 c)] z.val (Ret (.string s) z.val) := fun z => hcall z.val z.below
  generalize numB b = x at hs hc ⊢
  have e0 : ∀ z : Ext w, z.val.cell? ⟨blk, 0, none⟩ = some (.int .i64 b) := fun z => z.get c0
  have e1 : ∀ z : Ext w, z.val.cell? ⟨blk, 1, none⟩ = some (.iface 53 (.int .i64 c)) := fun z => z.get c1
  unfold sBlock sColon
  go_enter Tryz.func204, Tryz.ntmps204
  go_wp2_with fail
  refine wp_region_ext (by kernel_rfl) (by kernel_rfl) ?_
  repeat (go_big_quiet_step (first | (go_at_call 190; exact Ret.ext (hc _)) | (go_at_call 189; exact Ret.ext (hd _))))
  refine wpQuiet_nil ?_
  intro wx
  go_wp2_with fail
  go_ret
  exact ⟨rfl, wx.below⟩
set_option maxRecDepth 100000 in
set_option maxHeartbeats 1000000 in
theorem fault_error_f (blk : Nat) (b : Int) (k : Nat) (s : ByteArray) (w : World) (c0 : w.cell? ⟨blk, 0, none⟩ = some (.int .i64 b)) (c1 : w.cell? ⟨blk, 1, none⟩ = some (.iface 67 (.pointer (some ⟨k, 0, none⟩)))) (hI : Itoas w b) (hs : (numB b).size ≤ 100) (ht : s.size ≤ 8000000)
    (hcall : ∀ W, Below w.heap.size w W → Calls Tryz.prog 204 #[(.pointer (some ⟨k, 0, none⟩))] W (Ret (.string s) W)) :
    Calls Tryz.prog 204 #[.pointer (some ⟨blk, 0, none⟩)] w (Ret (.string (sBlock ++ numB b ++ sColon ++ s)) w) := by
  have f1 := Tryz.methErrorF
  have f2 := Tryz.nilErrorF
  have hc : ∀ z : Ext w, Calls Tryz.prog 190 #[.int .i64 b] z.val (Ret (.string (numB b)) z.val) := fun z => hI z.val z.below
  have hd : ∀ z : Ext w, Calls Tryz.prog 204 #[(.pointer (some ⟨k, 0, none⟩))] z.val (Ret (.string s) z.val) := fun z => hcall z.val z.below
  generalize numB b = x at hs hc ⊢
  have e0 : ∀ z : Ext w, z.val.cell? ⟨blk, 0, none⟩ = some (.int .i64 b) := fun z => z.get c0
  have e1 : ∀ z : Ext w, z.val.cell? ⟨blk, 1, none⟩ = some (.iface 67 (.pointer (some ⟨k, 0, none⟩))) := fun z => z.get c1
  unfold sBlock sColon
  go_enter Tryz.func204, Tryz.ntmps204
  go_wp2_with fail
  refine wp_region_ext (by kernel_rfl) (by kernel_rfl) ?_
  repeat (go_big_quiet_step (first | (go_at_call 190; exact Ret.ext (hc _)) | (go_at_call 204; exact Ret.ext (hd _))))
  refine wpQuiet_nil ?_
  intro wx
  go_wp2_with fail
  go_ret
  exact ⟨rfl, wx.below⟩

/-- how long a text may become -/
theorem textB_size {l : List (Option Int)} {t : Option Int} (h : ∀ b, (some b ∈ l ∨ t = some b) → (numB b).size ≤ 100) : (textB l t).size ≤ 108 * l.length + 108 := by
  induction l with
  | nil =>
    cases t with
    | none => exact Nat.zero_le _
    | some c =>
      have := h c (.inr rfl)
      simp only [textB, ByteArray.size_append, sError, ByteArray.size_mk']; simp; omega
  | cons x r ih =>
    cases x with
    | none => simp only [textB, sOther, ByteArray.size_mk']; simp; try omega
    | some b =>
      have h1 := h b (.inl (by simp))
      have h2 := ih (fun b hb => h b (hb.imp (List.mem_cons_of_mem _) id))
      simp only [textB, ByteArray.size_append, sBlock, sColon, ByteArray.size_mk', List.length_cons]; simp; omega
/-- the method Error of the value returns this string -/
def Says (v : Value) (s : ByteArray) (w : World) : Prop :=
  (∃ c, v = .iface 53 (.int .i64 c) ∧ Calls Tryz.prog 189 #[.int .i64 c] w (Ret (.string s) w)) ∨
  (∃ k, v = .iface 67 (.pointer (some ⟨k, 0, none⟩)) ∧ Calls Tryz.prog 204 #[.pointer (some ⟨k, 0, none⟩)] w (Ret (.string s) w))
  ∨ False
/-- no Fault wraps nothing -/
def okE : List (Option Int) → Option Int → Bool
  | [], t => t.isSome
  | some _ :: r, t => okE r t
  | none :: r, t => true
theorem err_says (t : Option Int) : ∀ (l : List (Option Int)) (v : Value) (w : World), l.length ≤ 10000 → ErrV w l t v → okE l t = true → (∀ b, (some b ∈ l ∨ t = some b) → Itoas w b ∧ (numB b).size ≤ 100) → Says v (textB l t) w
  | [], v, w, hlen, hv, hn, hI => by
    cases t with
    | none => exact nomatch hn
    | some c =>
      obtain rfl : v = _ := hv
      exact .inl ⟨c, rfl, errno_error c w (hI c (.inr rfl)).1 (hI c (.inr rfl)).2⟩
  | some b :: r, v, w, hlen, hv, hn, hI => by
    obtain ⟨blk, v', rfl, hk, h3⟩ := hv
    have h1 := hk.cell (i := 0) rfl
    have h2 := hk.cell (i := 1) rfl
    simp only [List.length_cons] at hlen
    have hI' : ∀ b, (some b ∈ r ∨ t = some b) → Itoas w b ∧ (numB b).size ≤ 100 := fun b hb => hI b (hb.imp (List.mem_cons_of_mem _) id)
    have hz : (textB r t).size ≤ 8000000 := by have := textB_size (fun b hb => (hI' b hb).2); omega
    have ih : ∀ W, Below w.heap.size w W → Says v' (textB r t) W := fun W hW => err_says t r v' W (by omega) (h3.below hW) hn (fun b hb => ⟨(hI' b hb).1.below hW, (hI' b hb).2⟩)
    have hb := hI b (.inl (by simp))
    refine .inr (.inl ⟨blk, rfl, ?_⟩)
    rcases ih w (Below.refl _ _) with ⟨c, rfl, _⟩ | ⟨k, rfl, _⟩ | hO
    · exact fault_error_n blk b c _ w h1 h2 hb.1 hb.2 hz (fun W hW => by rcases ih W hW with ⟨c, h, hc⟩ | ⟨k, h, _⟩ | hO <;> first | (cases h; exact hc) | exact nomatch h | exact hO.elim | (obtain ⟨u, h, _⟩ := hO; exact nomatch h))
    · exact fault_error_f blk b k _ w h1 h2 hb.1 hb.2 hz (fun W hW => by rcases ih W hW with ⟨c, h, hc⟩ | ⟨k, h, hc⟩ | hO <;> first | (cases h; exact hc) | exact nomatch h | exact hO.elim | (obtain ⟨u, h, _⟩ := hO; exact nomatch h))
    · exact hO.elim
  | none :: r, v, w, hlen, hv, hn, hI => hv.elim

set_option maxHeartbeats 400000 in
theorem fault_Text (t : Option Int) (l : List (Option Int)) (v : Value) (w : World) (hlen : l.length ≤ 10000) (hv : ErrV w l t v) (hn : noErr l t = false → okE l t = true) (hI : ∀ b, (some b ∈ l ∨ t = some b) → Itoas w b ∧ (numB b).size ≤ 100) :
    Calls Tryz.prog 52 #[v] w (Ret (.string (textB l t)) w) := by
  rcases hv.nil_or with ⟨hz, rfl⟩ | ⟨hz, _, _, _⟩
  · obtain ⟨rfl, rfl⟩ := noErr_true hz
    unfold textB
    go_enter Tryz.func52, Tryz.ntmps52
    go_wp2_with fail
    go_ret
    exact ⟨rfl, Below.refl _ _⟩
  have hs := err_says t l v w hlen hv (hn hz) hI
  generalize textB l t = s at hs ⊢
  clear hv hI hn hz
  have f1 := Tryz.methErrorN
  have f2 := Tryz.methErrorF
  have f3 := Tryz.nilErrorF
  rcases hs with ⟨c, rfl, hc⟩ | ⟨k, rfl, hc⟩ | hO
  · go_enter Tryz.func52, Tryz.ntmps52
    go_wp2_with fail
    refine hc.mono ?_
    rintro e w' ⟨rfl, hb⟩
    go_wp2_with fail
    go_ret
    exact ⟨rfl, hb⟩
  · go_enter Tryz.func52, Tryz.ntmps52
    go_wp2_with fail
    refine hc.mono ?_
    rintro e w' ⟨rfl, hb⟩
    go_wp2_with fail
    go_ret
    exact ⟨rfl, hb⟩
  · exact hO.elim
end Go.Proofs.YtinegkldgjhnpaaGreatDoor
namespace Go.Proofs.YtinegkldgjhnpaaGreatDoor
open Go.RowKit Go.Extern.Stop Go.Stop Go.Extern
set_option linter.unusedVariables false
attribute [local irreducible] wpList wpAnyH Code.wp Oper.wp Go

theorem block_Bits_ok (B b : Nat) (p : Option Addr) (n c : Nat) (l : List UInt8) (no : Int) (w : World) (hI : ImgR B b p n c l w) (he : bitsErr l no = 0) (m : Nat) (hm : rawN (inB l no) 0 4 = m) (xs : List Value) (hx : (bitsL (inB l no) m).map nv = xs) :
    Calls Tryz.prog 22 #[.pointer (some ⟨b, 0, none⟩), .int .i64 no] w (RetS (fun w' r => ∃ p c, r = .tuple #[.slice p m c, .nilIface] ∧ w'.ownsRow w.heap.size 3 1 (.slice p m c) m xs) w) := by
  subst hm hx
  refine (block_Bits B b p n c l no w hI).mono ?_
  rintro e W (⟨h, _⟩ | ⟨_, p4, c4, rfl, hb, h4⟩)
  · exact absurd he h
  · exact ⟨_, rfl, hb, p4, c4, rfl, h4⟩
def li11 : List UInt8 := [1, 0, 0, 0, 2] ++ List.replicate 239 0
def im11 : List UInt8 := putB (List.replicate 512 0) (1 * 256) (sealB 3 1 li11)
theorem li11_len : li11.length = 244 := by decide +kernel
theorem li11_ok : bitsOkB li11 = true := by decide +kernel
theorem im11_blk : blkB im11 1 = sealB 3 1 li11 := blkB_put (sealB_len (by rw [li11_len]; decide)) (by rw [List.length_replicate]; decide)
theorem im11_len : im11.length = 512 := by unfold im11; rw [putB_len (by rw [sealB_len (by rw [li11_len]; decide), List.length_replicate]; decide), List.length_replicate]
theorem im11_in : inB im11 1 = li11 := by
  rw [inB_in (no := 1) (j := 1) rfl, im11_blk, in_seal (by rw [li11_len]; decide)]
  unfold inSeal; rw [li11_len]; exact List.append_nil _
theorem im11_ok : bitsErr im11 1 = 0 := by
  unfold bitsErr
  rw [inE_in (no := 1) (j := 1) im11_len rfl (by decide), im11_blk, if_pos (open_seal (by decide) (by decide) (by decide) (by decide) (by rw [li11_len]; decide)), im11_in, if_pos li11_ok]
theorem im11_n : rawN (inB im11 1) 0 4 = 1 := by rw [im11_in]; decide +kernel
theorem im11_l : (bitsL (inB im11 1) 1).map nv = [.int .i64 2] := by rw [im11_in]; have : bitN li11 0 = 2 := by decide +kernel
                                                                     simp [bitsL, this, nv]
theorem text93 : textB [some 9] (some 3) = ⟨#[98, 108, 111, 99, 107, 32, 57, 58, 32, 101, 114, 114, 111, 114, 32, 51]⟩ := by
  have h9 : numB 9 = ⟨#[57]⟩ := by unfold numB; rw [show (Lib.itoa 9).toArray = #[57] by decide +kernel]
  have h3 : numB 3 = ⟨#[51]⟩ := by unfold numB; rw [show (Lib.itoa 3).toArray = #[51] by decide +kernel]
  unfold textB textB; rw [h9, h3]; rfl
theorem fault_Text93 (v : Value) (w : World) (hv : ErrV w [some 9] (some 3) v) : Calls Tryz.prog 52 #[v] w (Ret (.string ⟨#[98, 108, 111, 99, 107, 32, 57, 58, 32, 101, 114, 114, 111, 114, 32, 51]⟩) w) := by
  have := fault_Text (some 3) [some 9] v w (by decide) hv (fun _ => rfl) (fun b hb => by
    have hb' : b = 9 ∨ b = 3 := by
      rcases hb with hb | hb
      · left; simpa using hb
      · right; injection hb with h; exact h.symm
    rcases hb' with rfl | rfl
    · exact ⟨Itoas.small (n := 9) (by decide) w, by unfold numB; decide +kernel⟩
    · exact ⟨Itoas.small (n := 3) (by decide) w, by unfold numB; decide +kernel⟩)
  rwa [text93] at this
set_option maxRecDepth 100000 in
set_option maxHeartbeats 1000000 in
theorem readN_out (k : Nat) (B b : Nat) (p : Option Addr) (n c : Nat) (l : List UInt8) (no : Int) (w : World) (hI : ImgR B b p n c l w) (ho : ¬ (0 ≤ no ∧ no < (n / 256 : Nat))) :
    Calls Tryz.prog 56 #[.pointer (some ⟨b, 0, none⟩), .int .i64 no, .int .i64 2, .func (.func 57) #[] #[.pointer (some ⟨k, 0, none⟩)]] w (RetS (fun w' r => ∃ b, r = .tuple #[.agg #[.int .i64 0, .bool false, .slice none 0 0, .slice none 0 0], .iface 67 (.pointer (some ⟨b, 0, none⟩))] ∧ ErrV w' [some no] (some 3) (.iface 67 (.pointer (some ⟨b, 0, none⟩)))) w) := by
 refine zin 56 Tryz.func56 ?_
 refine xa 2 [.int .i64 0, .bool false, .slice none 0 0, .slice none 0 0] 52 fun b1 W1 n1 => ?_
 refine xa 5 [.int .i64 0, .bool false, .slice none 0 0, .slice none 0 0] 52 fun b2 W2 n2 => ?_
 have d2_b1 := n2.ne n1.blk
 have hB := Bl.next n1.below n2.below
 refine xc 6 (args := #[.pointer (some ⟨b, 0, none⟩), .int .i64 no]) (image_Read_out B b p n c l no _ (hI.below hB) ho) ?_
 rintro _ W3 ⟨_, rfl, hb3, vr, rfl⟩
 refine xd 16 (.t w.heap.size [52]) ?_
 refine xm2 (.b [1, 2, 3]) 0 4 ?_ ?_
 · have k2 := (n2.blk.below hb3).below (below_drew W3)
   refine xlv 0 k2.rp ?_
   refine yc (.o [] 4) (args := #[.int .i64 no, .iface 53 (.int .i64 3)]) (.t w.heap.size [52]) (block_told no 3 _) ?_
   rintro _ W4 ⟨_, rfl, hb4, hv4⟩
   refine ⟨(SF.of_below _ hb4), ?_⟩
   rw [if_neg (by decide), if_neg (by decide)] at hv4
   have hq4 := hv4
   obtain ⟨bf4, vf4, rfl, _, _⟩ := hq4
   have k1'1 := (((n1.blk.below n2.below).below hb3).below (below_drew W3)).below hb4
   have g1 := n1.ge (Below.refl w.heap.size _)
   refine ysv (.o [] 5) k1'1 [.int .i64 0, .bool false, .slice none 0 0, .slice none 0 0] (.t w.heap.size [52]) fun W5 u5 k5 => ⟨(sft_upd u5 k1'1 g1 (by decide)), ?_⟩
   have hB'1 := u5.below (Bl.next (Bl.next (Bl.next hB hb3) (below_drew W3)) hb4) g1
   have hv4'1 := hv4.upd u5 k1'1 (by decide)
   exact xec (.r [6] 4) k5 (.tuple #[.agg #[.int .i64 0, .bool false, .slice none 0 0, .slice none 0 0], .iface 67 (.pointer (some ⟨bf4, 0, none⟩))]) ⟨_, rfl, hB'1, _, rfl, hv4'1⟩
 refine yc 0 (args := #[.int .i64 no, .iface 53 (.int .i64 3)]) (.t w.heap.size [52]) (block_told no 3 _) ?_
 rintro _ W6 ⟨_, rfl, hb6, hv6⟩
 refine ⟨(SF.of_below _ hb6), ?_⟩
 rw [if_neg (by decide), if_neg (by decide)] at hv6
 have hq6 := hv6
 obtain ⟨bf6, vf6, rfl, _, _⟩ := hq6
 have k2 := ((n2.blk.below hb3).below (below_drew W3)).below hb6
 refine xlv (.o [] 0) k2.rp ?_
 have k1'2 := (((n1.blk.below n2.below).below hb3).below (below_drew W3)).below hb6
 have g1 := n1.ge (Below.refl w.heap.size _)
 refine ysv (.o [] 5) k1'2 [.int .i64 0, .bool false, .slice none 0 0, .slice none 0 0] (.t w.heap.size [52]) fun W7 u7 k7 => ⟨(sft_upd u7 k1'2 g1 (by decide)), ?_⟩
 have hB'2 := u7.below (Bl.next (Bl.next (Bl.next hB hb3) (below_drew W3)) hb6) g1
 have hv6'1 := hv6.upd u7 k1'2 (by decide)
 exact xec (.r [6] 4) k7 (.tuple #[.agg #[.int .i64 0, .bool false, .slice none 0 0, .slice none 0 0], .iface 67 (.pointer (some ⟨bf6, 0, none⟩))]) ⟨_, rfl, hB'2, _, rfl, hv6'1⟩
set_option maxRecDepth 100000 in
set_option maxHeartbeats 1000000 in
theorem block_Node_out (tree : Int) (B b : Nat) (p : Option Addr) (n c : Nat) (l : List UInt8) (no : Int) (w : World) (hI : ImgR B b p n c l w) (ho : ¬ (0 ≤ no ∧ no < (n / 256 : Nat))) :
    Calls Tryz.prog 21 #[.pointer (some ⟨b, 0, none⟩), .int .i64 no, .int .i64 tree] w (RetS (fun w' r => ∃ b, r = .tuple #[.agg #[.int .i64 0, .bool false, .slice none 0 0, .slice none 0 0], .iface 67 (.pointer (some ⟨b, 0, none⟩))] ∧ ErrV w' [some no] (some 3) (.iface 67 (.pointer (some ⟨b, 0, none⟩)))) w) := by
 refine zin 14 Tryz.func21 ?_
 refine xa 2 [.int .i64 tree] 3 fun b1 W1 n1 => ?_
 refine xa 0 [.int .i64 0, .bool false, .slice none 0 0, .slice none 0 0] 52 fun b2 W2 n2 => ?_
 have hB := Bl.next n1.below n2.below
 refine xc 8 (args := #[.pointer (some ⟨b, 0, none⟩), .int .i64 no, .int .i64 2, .func (.func 57) #[] #[.pointer (some ⟨b1, 0, none⟩)]]) (readN_out b1 B b p n c l no _ (hI.below hB) ho) ?_
 rintro _ W3 ⟨_, rfl, hb3, bf, rfl, hv⟩
 have k2 := n2.blk.below hb3
 refine xsv 2 k2 [.int .i64 0, .bool false, .slice none 0 0, .slice none 0 0] fun W4 u4 k4 => ?_
 have g2 := n2.ge n1.below
 have hB'1 := u4.below (Bl.next hB hb3) g2
 have hv'1 := hv.upd u4 k2 (by decide)
 exact xec 4 k4 (.tuple #[.agg #[.int .i64 0, .bool false, .slice none 0 0, .slice none 0 0], .iface 67 (.pointer (some ⟨bf, 0, none⟩))]) ⟨_, rfl, hB'1, _, rfl, hv'1⟩
set_option maxRecDepth 100000 in
set_option maxHeartbeats 4000000 in
theorem lives11 (w : World) :
    Calls Tryz.prog 18 #[] w (Ret (.bool true) w) := by
 refine zin 45 Tryz.func18 ?_
 refine xmk 7 fun _ _ _ _ zJ zQ zo zx zy zK => op_make 512 (.int .u8 0) 1 1 ((List.replicate 512 (0 : UInt8)).map bv) zo zx zy Tryz.underlying22 (by kernel_rfl) rfl (by omega) (by omega) (zerosB 512) fun b1 W1 n1 => ?_
 refine zK _ _ ?_
 have hs8 : w.heap.size ≤ (W1).heap.size := n1.below.size
 have o1 := own_of_blk (size := 1) (n := 512) n1.blk (n1.ge (Below.refl w.heap.size _)) (by rw [List.length_map, List.length_replicate]) (by unfold maxLen; omega)
 refine xc 0 (args := #[.slice (some ⟨b1, 0, none⟩) 512 512]) (image_OfR (some ⟨b1, 0, none⟩) 512 512 512 (List.replicate 512 (0 : UInt8)) _ List.length_replicate (by decide) (bys_of (own_sl o1) List.length_replicate) (by decide) (by decide)) ?_
 rintro _ W2 ⟨_, rfl, hb2, bi, pi, ci, rfl, _, hI⟩
 replace hI := hI.mono hs8
 rw [List.take_of_length_le (by simp)] at hI
 refine xc 6 (args := #[.pointer (some ⟨bi, 0, none⟩), .int .i64 9, .int .i64 0]) (block_Node_out 0 w.heap.size bi pi 512 ci _ 9 _ hI (by decide)) ?_
 rintro _ W3 ⟨_, rfl, hb3, bf, rfl, hv⟩
 refine xa 3 [.int .i64 0, .bool false, .slice none 0 0, .slice none 0 0] 52 fun b4 W4 n4 => ?_
 refine xsv 0 n4.blk [.int .i64 0, .bool false, .slice none 0 0, .slice none 0 0] fun W5 u5 k5 => ?_
 have g4 := n4.ge (Bl.next (Bl.next n1.below hb2) hb3)
 refine xbs 6 5 [.int .u8 1, .int .u8 0, .int .u8 0, .int .u8 0, .int .u8 2] 5 fun b6 W6 n6 => ?_
 have hB'1 := Bl.next (u5.below (Bl.next (Bl.next (Bl.next n1.below hb2) hb3) n4.below) g4) n6.below
 have hs7 : w.heap.size ≤ (W6).heap.size := hB'1.size
 refine xbi 0 (t2 := 3) fun _ _ _ _ zJ zQ zo zx zy zK => op_appZ (kq := .i64) b6 5 239 [.int .u8 1, .int .u8 0, .int .u8 0, .int .u8 0, .int .u8 2] zo Tryz.underlying22 Tryz.underlying3 (by kernel_rfl) zx n6.blk rfl zy (by decide) (by decide) ?_
 intro gz cz W7 oz hb7
 replace oz := own_mono oz hs7
 replace oz : W7.ownsRow w.heap.size 5 1 (.slice (some ⟨gz, 0, none⟩) 244 cz) 244 (li11.map bv) := oz
 refine zK _ _ ?_
 have hI'1 := ((((hI.below hb3).below n4.below).only (Only.of_upd (T := [52]) u5 n4.blk (by decide)) (by decide)).below n6.below).below hb7
 have hB'2 := Bl.next hB'1 hb7
 refine xc 0 (args := #[.pointer (some ⟨bi, 0, none⟩), .int .i64 1, .int .i64 3, .slice (some ⟨gz, 0, none⟩) 244 cz]) (block_WriteR w.heap.size bi pi 512 ci 1 1 (List.replicate 512 (0 : UInt8)) 3 (some ⟨gz, 0, none⟩) cz 244 li11 _ rfl li11_len hI'1 (by decide) (by decide) (by decide) (bys_of (own_sl oz) li11_len) (by decide) hB'2.size) ?_
 rintro _ W8 ⟨rfl, hb8, hO8, hI⟩
 rw [show putB (List.replicate 512 (0 : UInt8)) (1 * 256) (sealB 3 (1 : Nat) li11) = im11 from rfl] at hI
 refine xc 6 (args := #[.pointer (some ⟨bi, 0, none⟩), .int .i64 1]) (block_Bits_ok w.heap.size bi pi 512 ci im11 1 _ hI im11_ok 1 im11_n _ im11_l) ?_
 rintro _ W9 ⟨_, rfl, hb9, p4, c4, rfl, h4⟩
 have hs9 := (hB'2.trans hb8).size
 have hv'1 := (((((hv.below n4.below).upd u5 n4.blk (by decide)).below n6.below).below hb7).only hO8 (by decide)).below hb9
 refine xr 10 (args := #[.iface 67 (.pointer (some ⟨bf, 0, none⟩))]) (fault_Text93 _ _ hv'1) fun W10 hb10 => ?_
 have h4'1 := own_below (own_mono h4 hs9) hb10
 refine xx 16 _ 1 0 1 (Ints.elem (l := [2]) (own_sl h4'1) (k := 0) (by decide)).1 ?_
 refine xl 0 ((Ints.elem (l := [2]) (own_sl h4'1) (k := 0) (by decide)).2) ?_
 have hB'3 := Bl.next (Bl.next (hB'2.trans hb8) hb9) hb10
 exact xe 6 (.bool true) ⟨rfl, hB'3⟩
end Go.Proofs.YtinegkldgjhnpaaGreatDoor
namespace Go.Proofs.YtinegkldgjhnpaaGreatDoor
open Go.RowKit
set_option linter.unusedVariables false
theorem loop_eq (bs : ByteArray) (i : Nat) (r : List UInt8) : ByteArray.toList.loop bs i r = r.reverse ++ bs.data.toList.drop i := by
  have hs : bs.data.toList.length = bs.size := by rw [Array.length_toList]; rfl
  rw [ByteArray.toList.loop]
  split
  · rename_i h
    have h' : i < bs.data.toList.length := by omega
    rw [loop_eq bs (i + 1) _, List.drop_eq_getElem_cons h']
    have e : bs.get! i = bs.data.toList[i] := by
      have h2 : i < bs.data.size := by rw [← Array.length_toList]; exact h'
      show bs.data[i]! = _
      rw [getElem!_pos bs.data i h2]; simp
    rw [e]; simp
  · rename_i h
    rw [List.drop_eq_nil_of_le (by omega)]; simp
termination_by bs.size - i
theorem str_list (a : List UInt8) : (⟨a.toArray⟩ : ByteArray).toList = a := by
  unfold ByteArray.toList; rw [loop_eq]; simp
theorem str_beq (a b : List UInt8) : ((⟨a.toArray⟩ : ByteArray).toList == (⟨b.toArray⟩ : ByteArray).toList) = (a == b) := by rw [str_list, str_list]
theorem byte_at_raw (l : List UInt8) : ∀ (w k i : Nat), i < w → rawN l k w / 256 ^ i % 256 = (l.getD (k + i) 0).toNat
  | 0, k, i, h => absurd h (by omega)
  | w + 1, k, 0, _ => by
    have := (l.getD k 0).toNat_lt
    rw [rawN]; simp only [Nat.pow_zero, Nat.div_one, Nat.add_zero]; omega
  | w + 1, k, i + 1, h => by
    have := (l.getD k 0).toNat_lt
    have ih := byte_at_raw l w (k + 1) i (by omega)
    rw [rawN, Nat.pow_succ, Nat.mul_comm (256 ^ i) 256, ← Nat.div_div_eq_div_mul, show ((l.getD k 0).toNat + 256 * rawN l (k + 1) w) / 256 = rawN l (k + 1) w by omega, ih, show k + 1 + i = k + (i + 1) by omega]
/-- the bytes of a number that was read are the bytes that were read -/
theorem leB_raw {l : List UInt8} {k w : Nat} (h : k + w ≤ l.length) : leB (rawN l k w : Int) w = (l.drop k).take w := by
  apply List.ext_getElem
  · simp [leB_len]; omega
  intro i h1 h2
  have hw : i < w := by simpa [leB_len] using h1
  have e := byte_at_raw l w k i hw
  apply UInt8.toNat_inj.1
  simp only [leB, List.getElem_map, List.getElem_range, byteAt, Int.toNat_natCast, UInt8.toNat_ofNat', List.getElem_take, List.getElem_drop]
  have e2 : l.getD (k + i) 0 = l[k + i]'(by omega) := by simp [List.getD, show k + i < l.length by omega]
  rw [e2] at e
  rw [← e]
theorem leB_inj {m n w : Nat} (hm : m < 256 ^ w) (hn : n < 256 ^ w) (h : leB (m : Int) w = leB (n : Int) w) : m = n := by
  have e : ∀ i, i < w → m / 256 ^ i % 256 = n / 256 ^ i % 256 := fun i hi => by
    have := congrArg (fun l => (l.getD i 0).toNat) h
    simpa [leB, byteAt, List.getD, List.getElem?_range hi, UInt8.toNat_ofNat'] using this
  clear h
  induction w generalizing m n with
  | zero => simp at hm hn; omega
  | succ w ih =>
    have h0 := e 0 (by omega)
    have h1 : m / 256 = n / 256 := ih (by rw [Nat.pow_succ] at hm; omega) (by rw [Nat.pow_succ] at hn; omega) fun i hi => by
      have := e (i + 1) (by omega)
      rw [Nat.pow_succ, Nat.mul_comm (256 ^ i) 256, ← Nat.div_div_eq_div_mul, ← Nat.div_div_eq_div_mul] at this
      exact this
    simp only [Nat.pow_zero, Nat.div_one] at h0
    omega
theorem str_bne (a b : List UInt8) : (!((⟨a.toArray⟩ : ByteArray).toList == (⟨b.toArray⟩ : ByteArray).toList)) = !(a == b) := by rw [str_beq]
theorem not_t {b : Bool} (h : (!b) = true) : b = false := by simpa using h
theorem not_f {b : Bool} (h : (!b) = false) : b = true := by simpa using h
end Go.Proofs.YtinegkldgjhnpaaGreatDoor
namespace Go.Proofs.YtinegkldgjhnpaaGreatDoor
open Go.RowKit Go.Extern.Stop Go.Stop Go.Extern
set_option linter.unusedVariables false
attribute [local irreducible] wpList wpAnyH Code.wp Oper.wp Go

/-- a part of a value: its width, from where to where -/
abbrev Part := Nat × Int × Int
def partC (p : Part) : List Value := [.int .i64 (p.1 : Int), .int .i64 p.2.1, .int .i64 p.2.2]
theorem partC_len (p : Part) : (partC p).length = 3 := rfl
def part0 : Part := (4, 0, 0)
/-- parts whose numbers have room -/
def PartsOk (ps : List Part) : Prop := ps.length ≤ 1000 ∧ ∀ i, i < ps.length → ((ps.getD i part0).1 = 4 ∨ (ps.getD i part0).1 = 8) ∧ 0 ≤ (ps.getD i part0).2.1 ∧ (ps.getD i part0).2.2 < 9223372036854775808 ∧ ((ps.getD i part0).1 = 4 → (ps.getD i part0).2.2 < 4294967296)
def inP (p : Part) (n : Int) : Bool := decide (p.2.1 ≤ n ∧ n ≤ p.2.2)
def allIn (ps : List Part) (N : List Int) (k : Nat) : Bool := (List.range k).all fun i => inP (ps.getD i part0) (N.getD i 0)
theorem allIn_succ (ps : List Part) (N : List Int) (k : Nat) : allIn ps N (k + 1) = (allIn ps N k && inP (ps.getD k part0) (N.getD k 0)) := by simp [allIn, List.range_succ]
theorem allIn_stop {ps : List Part} {N : List Int} {i k : Nat} (hi : i < k) (h : inP (ps.getD i part0) (N.getD i 0) = false) : allIn ps N k = false := by
  unfold allIn
  rw [List.all_eq_false]
  exact ⟨i, List.mem_range.2 hi, by rw [h]; decide⟩
def putL (ps : List Part) (N : List Int) (k : Nat) : List UInt8 := (List.range k).flatMap fun i => leB (N.getD i 0) (ps.getD i part0).1
theorem putL_succ (ps : List Part) (N : List Int) (k : Nat) : putL ps N (k + 1) = putL ps N k ++ leB (N.getD k 0) (ps.getD k part0).1 := by simp [putL, List.range_succ]
def wids (ps : List Part) (k : Nat) : List Nat := (List.range k).map fun i => (ps.getD i part0).1
theorem wids_succ (ps : List Part) (k : Nat) : wids ps (k + 1) = wids ps k ++ [(ps.getD k part0).1] := by simp [wids, List.range_succ]
theorem wids_len (ps : List Part) (k : Nat) : (wids ps k).length = k := by simp [wids]
theorem wids_get (ps : List Part) {k i : Nat} (h : i < k) : (wids ps k).getD i 0 = (ps.getD i part0).1 := by simp [wids, List.getD, List.getElem?_range h]
theorem putL_len (ps : List Part) (N : List Int) (k : Nat) : (putL ps N k).length = (wids ps k).sum := by
  induction k with
  | zero => rfl
  | succ k ih => rw [putL_succ, wids_succ, List.length_append, leB_len, ih]; simp
theorem Pack_48 (g w : Nat) (n : Int) (W : World) (hw : w = 4 ∨ w = 8) (h0 : 0 ≤ n) (hb : w = 4 → n < 4294967296) (hk : Blk W g [.int .i64 (w : Int), .int .i64 n] 122) : Calls Tryz.prog 50 #[.slice (some ⟨g, 0, none⟩) 1 1] W (RetS (fun w' r => ∃ p c, r = .tuple #[.slice p w c, .int .i64 0] ∧ w'.ownsRow W.heap.size 5 1 (.slice p w c) w ((leB n w).map bv)) W) := by
  rcases hw with rfl | rfl
  · exact Pack_4 g n h0 (hb rfl) W hk
  · exact Pack_8 g n h0 W hk
def ValPutP (ps : List Part) (N : List Int) (w : World) (e : Ending) (w' : World) : Prop :=
  (allIn ps N ps.length = false ∧ e = .returned (.string ⟨#[]⟩) ∧ Below w.heap.size w w') ∨ (allIn ps N ps.length = true ∧ e = .returned (.string ⟨(putL ps N ps.length).toArray⟩) ∧ Below w.heap.size w w')
set_option maxRecDepth 100000 in
set_option maxHeartbeats 4000000 in
theorem value_putG (ps : List Part) (N : List Int) (gl gn : Option Addr) (cl cn : Nat) (w : World) (hps : PartsOk ps) (hNl : N.length = ps.length) (hP : Sts partC w (.slice gl ps.length cl) ps) (hN : Sl w (.slice gn ps.length cn) ps.length (N.map (Value.int .i64))) :
    Calls Tryz.prog 164 #[.slice gl ps.length cl, .slice gn ps.length cn] w (ValPutP ps N w) := by
 have hpl := hps.1
 refine zin 51 Tryz.func164 ?_
 have hB := Below.refl w.heap.size w
 refine zl 19 51 (fun zm zkv V => ∃ (i m : Nat) (q : Option Addr) (d : Nat), zkv = [(1, .slice gn ps.length cn), (5, .slice q m d), (10, .slice gl ps.length cl), (11, .int .i64 (↑ps.length : Int)), (12, .int .i64 (↑i : Int))] ∧ zm = ps.length - ((↑i : Int)).toNat ∧ Below w.heap.size w V ∧ V.ownsRow w.heap.size 5 1 (.slice q m d) m ((putL ps N i).map bv) ∧ i ≤ ps.length ∧ m = (wids ps i).sum ∧ m ≤ i * 8 ∧ allIn ps N i = true) ⟨0, 0, _, _, rfl, rfl, hB, World.ownsRow_nil _ _ _ _, Nat.zero_le _, rfl, Nat.zero_le _, rfl⟩ ?_
 rintro _ _ W1 ⟨i, m, q, d, rfl, rfl, hB_1, ho, hi, hm, hm2, hall⟩ J1 hJ1 r1
 refine xid 6 ((↑i : Int) < (↑ps.length : Int)) (fun hc2 => ?_) (fun hc2 => ?_)
 · refine xx 7 _ ps.length i 3 (Sts.cell hP partC_len part0 (k := i) (i := 0) (by omega) rfl).1 ?_
   refine xlv 0 (Sts.rp (k := i) (hP.below hB_1) partC_len part0 (by omega) (by decide)) ?_
   refine xa 0 [.int .i64 0, .int .i64 0, .int .i64 0] 266 fun b3 W3 n3 => ?_
   have g3 := n3.ge hB_1
   refine xsv 1 n3.blk [.int .i64 (↑(ps.getD i part0).1 : Int), .int .i64 ((ps.getD i part0).2.1), .int .i64 ((ps.getD i part0).2.2)] fun W4 u4 k4 => ?_
   refine xd 4 .z ?_
   refine xx (.e [0, 1] 2) _ ps.length i 1 (IntsN.elem hN hNl (k := i) (by omega)).1 ?_
   have hB'1 := Bl.next (u4.below (Bl.next hB_1 n3.below) g3) (below_drew W4)
   refine xl (.e [] 3) ((IntsN.elem (hN.below hB'1) hNl (k := i) (by omega)).2) ?_
   have k4'1 := k4.below (below_drew W4)
   refine xb (.e [4] 5) 1 k4'1 ?_
   refine xg (.b [6, 7]) [23, 24] (decide ((N.getD i 0) < (ps.getD i part0).2.1)) (fun hc5 => ?_) (fun hc5 => ?_)
   · have hc5 := of_decide_eq_true hc5
     exact xe (.r [8, 9, 10, 11, 12, 13, 14, 15] 15) (.string ⟨#[]⟩) (.inl ⟨allIn_stop (i := i) (by omega) (decide_eq_false (by omega)), rfl, hB'1⟩)
   have hc5 := of_decide_eq_false hc5
   refine xx (.e [8, 9] 10) _ ps.length i 1 (IntsN.elem hN hNl (k := i) (by omega)).1 ?_
   refine xl (.e [] 11) ((IntsN.elem (hN.below hB'1) hNl (k := i) (by omega)).2) ?_
   refine xb (.e [12] 13) 2 k4'1 ?_
   refine xid (.r [14, 15] 2) ((N.getD i 0) > (ps.getD i part0).2.2) (fun hc6 => ?_) (fun hc6 => ?_)
   · exact xe 12 (.string ⟨#[]⟩) (.inl ⟨allIn_stop (i := i) (by omega) (decide_eq_false (by omega)), rfl, hB'1⟩)
   refine xd 3 .z ?_
   have k4'2 := k4'1.below (below_drew W4.drew)
   refine xb (.e [0] 1) 0 k4'2 ?_
   refine xx (.e [2, 3] 4) _ ps.length i 1 (IntsN.elem hN hNl (k := i) (by omega)).1 ?_
   have hB'2 := Bl.next hB'1 (below_drew W4.drew)
   refine xl (.e [] 5) ((IntsN.elem (hN.below hB'2) hNl (k := i) (by omega)).2) ?_
   refine xbs (.o [6] 7) 1 [.int .i64 (↑(ps.getD i part0).1 : Int), .int .i64 (N.getD i 0)] 122 fun b7 W7 n7 => ?_
   have g7 := n7.ge hB'2
   refine yc (.o [] 8) (args := #[.slice (some ⟨b7, 0, none⟩) 1 1]) .z (Pack_48 b7 (ps.getD i part0).1 (N.getD i 0) _ (hps.2 i (by omega)).1 (by have := (hps.2 i (by omega)).2.1; omega) (fun q => by have := (hps.2 i (by omega)).2.2.2 q; omega) n7.blk) ?_
   rintro _ W8 ⟨_, rfl, hb8, p2, c2, rfl, h2⟩
   have hs8 := (Bl.next hB'2 n7.below).size
   refine ⟨hb8, ?_⟩
   have ho'1 := own_below (own_below (own_below (own_below (u4.own2 (own_below ho n3.below) n3.blk (by decide)) (below_drew W4)) (below_drew W4.drew)) n7.below) hb8
   have h2'1 := own_mono h2 hs8
   have hB'3 := Bl.next (Bl.next hB'2 n7.below) hb8
   refine xbi (.r [9, 10, 11, 12, 13] 5) fun _ _ _ _ zJ zQ zo zx zy zK => op_app (m := (ps.getD i part0).1) (news := (leB (N.getD i 0) (ps.getD i part0).1).map bv) (.int .u8 0) 1 1 ((m + (ps.getD i part0).1)) (((putL ps N (i + 1)).map bv)) zo Tryz.underlying22 (by kernel_rfl) rfl (by decide) zx ho'1 zy (own_sl h2'1) (by simp [leB_len]) (bv_one _) (by unfold maxLen; have := (hps.2 i (by omega)).1; omega) (by have := (hps.2 i (by omega)).1; omega) hB'3.size (by rfl) (by rw [putL_succ, List.map_append]) fun px9 cx9 W9 o9 hg9 hb9 => ?_
   refine zK _ _ ?_
   refine xwm 5 ((↑i : Int) + 1) (↑(i + 1) : Int) ?_
   have hB'4 := hB'3.trans hb9
   exact ze 2 (hJ1 _ _ _ ⟨i + 1, _, _, _, rfl, rfl, hB'4, o9, by omega, by rw [wids_succ, hm]; simp, by have := (hps.2 i (by omega)).1; omega, by rw [allIn_succ, hall]; exact decide_eq_true ⟨by omega, by omega⟩⟩ (by omega))
 refine xcv0 8 (fun _ _ _ zo zx => run_bstr zo zx (bys_of (own_sl ho) (by rw [putL_len]; exact hm.symm)) (by rw [putL_len]; exact hm.symm) Tryz.underlying22 Tryz.underlying5 Tryz.underlying9) ?_
 refine xe 4 (.string ⟨(putL ps N i).toArray⟩) ?_
 obtain rfl : i = ps.length := by omega
 exact .inr ⟨hall, rfl, hB_1⟩
/-- what stands in a value: the numbers, one behind the other -/
def rawsL (ps : List Part) (s : List UInt8) : List Nat := unpL s 0 (wids ps ps.length)
theorem rawsL_len (ps : List Part) (s : List UInt8) : (rawsL ps s).length = ps.length := by rw [rawsL, unpL_len, wids_len]
def readOk (ps : List Part) (s : List UInt8) : Bool := allIn ps ((rawsL ps s).map fun n : Nat => (n : Int)) ps.length
def readE (ps : List Part) (s : List UInt8) : Int := if s.length = (wids ps ps.length).sum then (if readOk ps s then 0 else 2) else 7
def readV (ps : List Part) (s : List UInt8) : List Nat := if readE ps s = 0 then rawsL ps s else List.replicate ps.length 0
theorem readV_len (ps : List Part) (s : List UInt8) : (readV ps s).length = ps.length := by
  unfold readV; split
  · exact rawsL_len ps s
  · simp
theorem readOk_lt {ps : List Part} {s : List UInt8} (hp : PartsOk ps) (h : readOk ps s = true) : ∀ i, i < (wids ps ps.length).length → (unpL s 0 (wids ps ps.length)).getD i 0 < 9223372036854775808 := by
  intro i hi
  rw [wids_len] at hi
  unfold readOk allIn at h
  rw [List.all_eq_true] at h
  have h1 := of_decide_eq_true (h i (List.mem_range.2 hi))
  have h2 := (hp.2 i hi).2.2.1
  rw [show ((rawsL ps s).map fun n : Nat => (n : Int)).getD i 0 = (((rawsL ps s).getD i 0 : Nat) : Int) by simp [List.getD, show i < (rawsL ps s).length by rw [rawsL_len]; exact hi]] at h1
  change (rawsL ps s).getD i 0 < _
  omega
theorem map_nv (l : List Nat) : l.map nv = (l.map fun n : Nat => (n : Int)).map (Value.int .i64) := by simp [nv]
theorem putL_ne {ps : List Part} {N : List Int} (hp : PartsOk ps) (h0 : 0 < ps.length) : ((⟨(putL ps N ps.length).toArray⟩ : ByteArray).toList == (⟨#[]⟩ : ByteArray).toList) = false := by
  rw [show (⟨#[]⟩ : ByteArray) = ⟨([] : List UInt8).toArray⟩ from rfl, str_beq]
  apply beq_false_of_ne
  intro q
  have h1 := congrArg List.length q
  obtain ⟨k, hk⟩ : ∃ k, ps.length = k + 1 := ⟨ps.length - 1, by omega⟩
  rw [hk, putL_succ, List.length_append, leB_len] at h1
  rw [List.length_nil] at h1
  have := (hp.2 k (by omega)).1
  omega
theorem zeros_nv (n : Nat) : zeros (Value.int .i64 0).cells.toList n = (List.replicate n 0).map nv := by
  rw [show (Value.int .i64 0).cells.toList = [Value.int .i64 0] from rfl, zeros, List.map_replicate]
  induction n with
  | zero => rfl
  | succ n ih => rw [List.replicate_succ, List.flatten_cons, ih, List.replicate_succ]; rfl
set_option maxRecDepth 100000 in
set_option maxHeartbeats 1000000 in
theorem value_readG_len (ps : List Part) (s : List UInt8) (gl : Option Addr) (cl : Nat) (w : World) (hps : PartsOk ps) (h0 : 0 < ps.length) (hs : s.length ≤ 100000) (hP : Sts partC w (.slice gl ps.length cl) ps) (hsl : s.length ≠ (wids ps ps.length).sum) :
    Calls Tryz.prog 145 #[.slice gl ps.length cl, .string ⟨s.toArray⟩] w (RetS (fun w' r => ∃ p c, r = .tuple #[.slice p ps.length c, .int .i64 (readE ps s)] ∧ w'.ownsRow w.heap.size 3 1 (.slice p ps.length c) ps.length ((readV ps s).map nv)) w) := by
 have hpl := hps.1
 refine zin 54 Tryz.func145 ?_
 have hB := Below.refl w.heap.size w
 refine zl 25 54 (fun zm zkv V => ∃ (i : Nat) (q : Option Addr) (d : Nat), zkv = [(0, .slice gl ps.length cl), (1, .string ⟨s.toArray⟩), (4, .slice none 0 0), (5, .int .i64 0), (6, .slice q i d), (7, .int .i64 (↑(wids ps i).sum : Int)), (12, .slice gl ps.length cl), (13, .int .i64 (↑ps.length : Int)), (14, .int .i64 (↑i : Int))] ∧ zm = ps.length - ((↑i : Int)).toNat ∧ Below w.heap.size w V ∧ V.ownsRow w.heap.size 3 1 (.slice q i d) i ((wids ps i).map nv) ∧ i ≤ ps.length ∧ (wids ps i).sum ≤ i * 8) ⟨0, _, _, rfl, rfl, hB, World.ownsRow_nil _ _ _ _, Nat.zero_le _, Nat.zero_le _⟩ ?_
 rintro _ _ W1 ⟨i, q, d, rfl, rfl, hB_1, ho, hi, hm2⟩ J1 hJ1 r1
 have hwd : i < ps.length → (ps.getD i part0).1 ≤ 8 := fun q => by have := (hps.2 i q).1; omega
 refine xid 6 ((↑i : Int) < (↑ps.length : Int)) (fun hc2 => ?_) (fun hc2 => ?_)
 · refine xx 6 _ ps.length i 3 (Sts.cell hP partC_len part0 (k := i) (i := 0) (by omega) rfl).1 ?_
   refine xlv 0 (Sts.rp (k := i) (hP.below hB_1) partC_len part0 (by omega) (by decide)) ?_
   refine xa 0 [.int .i64 0, .int .i64 0, .int .i64 0] 266 fun b3 W3 n3 => ?_
   have g3 := n3.ge hB_1
   refine xsv 0 n3.blk [.int .i64 (↑(ps.getD i part0).1 : Int), .int .i64 ((ps.getD i part0).2.1), .int .i64 ((ps.getD i part0).2.2)] fun W4 u4 k4 => ?_
   refine xb 6 0 k4 ?_
   refine xbs 0 1 [.int .i64 (↑(ps.getD i part0).1 : Int)] 3 fun b5 W5 n5 => ?_
   have hB'1 := u4.below (Bl.next hB_1 n3.below) g3
   have g5 := n5.ge hB'1
   have ho'1 := u4.own2 (own_below ho n3.below) n3.blk (by decide)
   have r5_ho := own_ne ho'1 n5
   have ho'2 := own_below ho'1 n5.below
   have hB'2 := Bl.next hB'1 n5.below
   refine xbi 0 fun _ _ _ _ zJ zQ zo zx zy zK => op_app (m := 1) (news := [.int .i64 (↑(ps.getD i part0).1 : Int)]) (.int .i64 0) 1 8 (i + 1) (((wids ps (i + 1)).map nv)) zo Tryz.underlying26 (by kernel_rfl) rfl (by decide) zx ho'2 zy (n5.blk.sl 1 1 (by decide) (by decide)) rfl (by simp [Value.oneCell']) (by unfold maxLen; omega) (by omega) hB'2.size (by rfl) (by rw [wids_succ, List.map_append]; rfl) fun px6 cx6 W6 o6 hg6 hb6 => ?_
   refine zK _ _ ?_
   have k4'1 := (k4.below n5.below).grown hg6 ho'2 (by decide)
   refine xb 6 0 k4'1 ?_
   refine xwm 0 ((↑(wids ps i).sum : Int) + (↑(ps.getD i part0).1 : Int)) (↑((wids ps i).sum + ((ps.getD i part0).1)) : Int) ?_
   refine xwm 5 ((↑i : Int) + 1) (↑(i + 1) : Int) ?_
   refine xv1 2 7 (show (.int .i64 (↑((wids ps i).sum + ((ps.getD i part0).1)) : Int) : Value) = .int .i64 (↑(wids ps (i + 1)).sum : Int) from by rw [wids_succ]; simp) ?_
   have hB'3 := hB'2.trans hb6
   exact ze 0 (hJ1 _ _ _ ⟨i + 1, _, _, rfl, rfl, hB'3, o6, by omega, by rw [wids_succ, List.sum_append, List.sum_cons, List.sum_nil]; have := hwd (by omega); omega⟩ (by omega))
 refine xk 14 (show (((↑s.length : Int) != (↑(wids ps i).sum : Int)) : Bool) = true from bne_iff_ne.2 (by rw [show i = ps.length by omega]; omega)) ?_
 refine xmk 4 fun _ _ _ _ zJ zQ zo zx zy zK => op_make ps.length (.int .i64 0) 1 8 ((List.replicate ps.length 0).map nv) zo zx zy Tryz.underlying26 (by kernel_rfl) rfl (by omega) (by omega) (zeros_nv _) fun b7 W7 n7 => ?_
 have g7 := n7.ge hB_1
 have r7_ho := own_ne ho n7
 refine zK _ _ ?_
 have hB'4 := Bl.next hB_1 n7.below
 have o7 := own_of_blk (size := 1) (n := ps.length) n7.blk g7 (by simp) (by unfold maxLen; omega)
 refine xe 6 (.tuple #[.slice (some ⟨b7, 0, none⟩) ps.length ps.length, .int .i64 7]) ?_
 have he : readE ps s = 7 := if_neg hsl
 exact ⟨_, rfl, hB'4, _, _, by rw [he], by rw [readV, if_neg (by rw [he]; decide)]; exact o7⟩
theorem sl_w {w : World} {v : Value} {n m : Nat} {xs : List Value} (h : Sl w v n xs) (e : m = n) : Sl w v m xs := by subst e; exact h
def UnpP (s : List UInt8) (ws : List Nat) (n : Nat) (W : World) (e : Ending) (w' : World) : Prop :=
  ((¬ ∀ i, i < ws.length → (unpL s 0 ws).getD i 0 < 9223372036854775808) ∧ e = .returned (.tuple #[.slice none 0 0, .int .i64 2]) ∧ Below W.heap.size W w') ∨
  ((∀ i, i < ws.length → (unpL s 0 ws).getD i 0 < 9223372036854775808) ∧ ∃ p c, e = .returned (.tuple #[.slice p n c, .int .i64 0]) ∧ Below W.heap.size W w' ∧ w'.ownsRow W.heap.size 3 1 (.slice p n c) n ((unpL s 0 ws).map nv))
theorem Unpack_P (a : Option Addr) (n c m : Nat) (s : List UInt8) (aw : Option Addr) (cw : Nat) (ws : List Nat) (W : World) (hn : s.length = n) (hm : ws.length = m) (hk : ∀ i, i < ws.length → ws.getD i 0 = 1 ∨ ws.getD i 0 = 2 ∨ ws.getD i 0 = 4 ∨ ws.getD i 0 = 8) (hs : ws.sum ≤ n) (hl : n ≤ 100000000) (hw : m ≤ 1000) (h : Bys W (.slice a n c) s) (hws : Sl W (.slice aw m cw) m (ws.map nv)) :
    Calls Tryz.prog 142 #[.slice a n c, .slice aw m cw] W (UnpP s ws m W) := by
  subst hn hm
  by_cases hq : ∀ i, i < ws.length → (unpL s 0 ws).getD i 0 < 9223372036854775808
  · refine (Unpack_ok a c s aw cw ws W hk hs hl hw h hws hq).mono ?_
    rintro e V ⟨_, rfl, hb, p, c2, rfl, ho⟩
    exact .inr ⟨hq, p, c2, rfl, hb, ho⟩
  · refine (Unpack_bad a c s aw cw ws W hk hs hl hw h hws hq).mono ?_
    rintro e V ⟨rfl, hb⟩
    exact .inl ⟨hq, rfl, hb⟩
theorem rawsI_len (ps : List Part) (s : List UInt8) (k : Nat) : ((unpL s 0 (wids ps k)).map fun n : Nat => (n : Int)).length = k := by rw [List.length_map, unpL_len, wids_len]
theorem value_putR2 (ps : List Part) (N : List Int) (gl gn : Option Addr) (cl cn n : Nat) (w : World) (hps : PartsOk ps) (hn : n = ps.length) (hNl : N.length = n) (hP : Sts partC w (.slice gl ps.length cl) ps) (hN : Sl w (.slice gn n cn) n (N.map (Value.int .i64))) :
    Calls Tryz.prog 164 #[.slice gl ps.length cl, .slice gn n cn] w (fun e w' => (allIn ps N n = false ∧ e = .returned (.string ⟨#[]⟩) ∧ Below w.heap.size w w') ∨ (allIn ps N n = true ∧ e = .returned (.string ⟨(putL ps N ps.length).toArray⟩) ∧ Below w.heap.size w w')) := by
  subst hn; exact value_putG ps N gl gn cl cn w hps hNl hP hN
set_option maxRecDepth 100000 in
set_option maxHeartbeats 4000000 in
theorem value_readG_in (ps : List Part) (s : List UInt8) (gl : Option Addr) (cl : Nat) (w : World) (hps : PartsOk ps) (h0 : 0 < ps.length) (hs : s.length ≤ 100000) (hP : Sts partC w (.slice gl ps.length cl) ps) (hsl : s.length = (wids ps ps.length).sum) :
    Calls Tryz.prog 145 #[.slice gl ps.length cl, .string ⟨s.toArray⟩] w (RetS (fun w' r => ∃ p c, r = .tuple #[.slice p ps.length c, .int .i64 (readE ps s)] ∧ w'.ownsRow w.heap.size 3 1 (.slice p ps.length c) ps.length ((readV ps s).map nv)) w) := by
 have hpl := hps.1
 refine zin 54 Tryz.func145 ?_
 have hB := Below.refl w.heap.size w
 refine zl 25 54 (fun zm zkv V => ∃ (i : Nat) (q : Option Addr) (d : Nat), zkv = [(0, .slice gl ps.length cl), (1, .string ⟨s.toArray⟩), (4, .slice none 0 0), (5, .int .i64 0), (6, .slice q i d), (7, .int .i64 (↑(wids ps i).sum : Int)), (12, .slice gl ps.length cl), (13, .int .i64 (↑ps.length : Int)), (14, .int .i64 (↑i : Int))] ∧ zm = ps.length - ((↑i : Int)).toNat ∧ Below w.heap.size w V ∧ V.ownsRow w.heap.size 3 1 (.slice q i d) i ((wids ps i).map nv) ∧ i ≤ ps.length ∧ (wids ps i).sum ≤ i * 8) ⟨0, _, _, rfl, rfl, hB, World.ownsRow_nil _ _ _ _, Nat.zero_le _, Nat.zero_le _⟩ ?_
 rintro _ _ W1 ⟨i, q, d, rfl, rfl, hB_1, ho, hi, hm2⟩ J1 hJ1 r1
 have hwd : i < ps.length → (ps.getD i part0).1 ≤ 8 := fun q => by have := (hps.2 i q).1; omega
 refine xid 6 ((↑i : Int) < (↑ps.length : Int)) (fun hc2 => ?_) (fun hc2 => ?_)
 · refine xx 6 _ ps.length i 3 (Sts.cell hP partC_len part0 (k := i) (i := 0) (by omega) rfl).1 ?_
   refine xlv 0 (Sts.rp (k := i) (hP.below hB_1) partC_len part0 (by omega) (by decide)) ?_
   refine xa 0 [.int .i64 0, .int .i64 0, .int .i64 0] 266 fun b3 W3 n3 => ?_
   have g3 := n3.ge hB_1
   refine xsv 0 n3.blk [.int .i64 (↑(ps.getD i part0).1 : Int), .int .i64 ((ps.getD i part0).2.1), .int .i64 ((ps.getD i part0).2.2)] fun W4 u4 k4 => ?_
   refine xb 6 0 k4 ?_
   refine xbs 0 1 [.int .i64 (↑(ps.getD i part0).1 : Int)] 3 fun b5 W5 n5 => ?_
   have hB'1 := u4.below (Bl.next hB_1 n3.below) g3
   have g5 := n5.ge hB'1
   have ho'1 := u4.own2 (own_below ho n3.below) n3.blk (by decide)
   have r5_ho := own_ne ho'1 n5
   have ho'2 := own_below ho'1 n5.below
   have hB'2 := Bl.next hB'1 n5.below
   refine xbi 0 fun _ _ _ _ zJ zQ zo zx zy zK => op_app (m := 1) (news := [.int .i64 (↑(ps.getD i part0).1 : Int)]) (.int .i64 0) 1 8 (i + 1) (((wids ps (i + 1)).map nv)) zo Tryz.underlying26 (by kernel_rfl) rfl (by decide) zx ho'2 zy (n5.blk.sl 1 1 (by decide) (by decide)) rfl (by simp [Value.oneCell']) (by unfold maxLen; omega) (by omega) hB'2.size (by rfl) (by rw [wids_succ, List.map_append]; rfl) fun px6 cx6 W6 o6 hg6 hb6 => ?_
   refine zK _ _ ?_
   have k4'1 := (k4.below n5.below).grown hg6 ho'2 (by decide)
   refine xb 6 0 k4'1 ?_
   refine xwm 0 ((↑(wids ps i).sum : Int) + (↑(ps.getD i part0).1 : Int)) (↑((wids ps i).sum + ((ps.getD i part0).1)) : Int) ?_
   refine xwm 5 ((↑i : Int) + 1) (↑(i + 1) : Int) ?_
   refine xv1 2 7 (show (.int .i64 (↑((wids ps i).sum + ((ps.getD i part0).1)) : Int) : Value) = .int .i64 (↑(wids ps (i + 1)).sum : Int) from by rw [wids_succ]; simp) ?_
   have hB'3 := hB'2.trans hb6
   exact ze 0 (hJ1 _ _ _ ⟨i + 1, _, _, rfl, rfl, hB'3, o6, by omega, by rw [wids_succ, List.sum_append, List.sum_cons, List.sum_nil]; have := hwd (by omega); omega⟩ (by omega))
 refine xk 14 (show (((↑s.length : Int) != (↑(wids ps i).sum : Int)) : Bool) = false from by rw [show i = ps.length by omega, hsl]; simp) ?_
 refine xcf 5 fun _ _ _ zJ zQ zo zx zK => op_strBytes s zo zx Tryz.underlying9 Tryz.underlying22 Tryz.underlying5 (by omega) ?_
 intro bz cz W7 hb7 hbz
 refine zK _ _ ?_
 have ho'3 := own_below ho hb7
 refine xc 1 (args := #[.slice (some ⟨bz, 0, none⟩) s.length cz, .slice q i d]) (Unpack_P (some ⟨bz, 0, none⟩) s.length cz i s q d (wids ps i) _ rfl (wids_len ps i) (fun j hj => by rw [wids_len] at hj; rw [wids_get ps hj]; have := (hps.2 j (by omega)).1; omega) (by rw [show i = ps.length by omega]; omega) (by omega) (by omega) hbz (own_sl ho'3)) ?_
 rintro e W8 hq8
 rcases hq8 with ⟨hq, rfl, hb8⟩ | ⟨hq, p5, c5, rfl, hb8, h5⟩
 · have hie : i = ps.length := by omega
   have hno : readOk ps s = false := by rw [← Bool.not_eq_true]; intro q; exact hq (by rw [hie]; exact readOk_lt hps q)
   refine xmk 25 fun _ _ _ _ zJ zQ zo zx zy zK => op_make ps.length (.int .i64 0) 1 8 ((List.replicate ps.length 0).map nv) zo zx zy Tryz.underlying26 (by kernel_rfl) rfl (by omega) (by omega) (zeros_nv _) fun b9 W9 n9 => ?_
   have hB'4 := Bl.next (Bl.next hB_1 hb7) hb8
   have g9 := n9.ge hB'4
   have ho'4 := own_below ho'3 hb8
   have r9_ho := own_ne ho'4 n9
   refine zK _ _ ?_
   have hB'5 := Bl.next hB'4 n9.below
   have o9 := own_of_blk (size := 1) (n := ps.length) n9.blk g9 (by simp) (by unfold maxLen; omega)
   refine xe 6 (.tuple #[.slice (some ⟨b9, 0, none⟩) ps.length ps.length, .int .i64 2]) ?_
   have he : readE ps s = 2 := by unfold readE; rw [if_pos hsl, if_neg (by rw [hno]; decide)]
   exact ⟨_, rfl, hB'5, _, _, by rw [he], by rw [readV, if_neg (by rw [he]; decide)]; exact o9⟩
 have hs8 := (Bl.next hB_1 hb7).size
 have hie : i = ps.length := by omega
 have h5'1 := own_mono h5 hs8
 have hN5 : Sl (W8) (.slice p5 i c5) i (((unpL s 0 (wids ps i)).map fun n : Nat => (n : Int)).map (Value.int .i64)) := by have q := own_sl h5'1; rw [map_nv] at q; exact q
 have hB'6 := Bl.next (Bl.next hB_1 hb7) hb8
 refine xc 15 (args := #[.slice gl ps.length cl, .slice p5 i c5]) (value_putR2 ps ((unpL s 0 (wids ps i)).map fun n : Nat => (n : Int)) gl p5 cl c5 i _ hps hie (rawsI_len ps s i) (hP.below hB'6) hN5) ?_
 rintro e W10 hq10
 rcases hq10 with ⟨hin, rfl, hb10⟩ | ⟨hin, rfl, hb10⟩
 · have hno : readOk ps s = false := by unfold readOk rawsL; rw [← hie]; exact hin
   refine xmk 9 fun _ _ _ _ zJ zQ zo zx zy zK => op_make ps.length (.int .i64 0) 1 8 ((List.replicate ps.length 0).map nv) zo zx zy Tryz.underlying26 (by kernel_rfl) rfl (by omega) (by omega) (zeros_nv _) fun b11 W11 n11 => ?_
   have hB'7 := Bl.next hB'6 hb10
   have g11 := n11.ge hB'7
   have ho'5 := own_below (own_below ho'3 hb8) hb10
   have r11_ho := own_ne ho'5 n11
   have h5'2 := own_below h5'1 hb10
   have r11_h5 := own_ne h5'2 n11
   refine zK _ _ ?_
   have hB'8 := Bl.next hB'7 n11.below
   have o11 := own_of_blk (size := 1) (n := ps.length) n11.blk g11 (by simp) (by unfold maxLen; omega)
   refine xe 6 (.tuple #[.slice (some ⟨b11, 0, none⟩) ps.length ps.length, .int .i64 2]) ?_
   have he : readE ps s = 2 := by unfold readE; rw [if_pos hsl, if_neg (by rw [hno]; decide)]
   exact ⟨_, rfl, hB'8, _, _, by rw [he], by rw [readV, if_neg (by rw [he]; decide)]; exact o11⟩
 have hyes : readOk ps s = true := by unfold readOk rawsL; rw [← hie]; exact hin
 refine xk 4 (show (((⟨(putL ps ((unpL s 0 (wids ps i)).map fun n : Nat => (n : Int)) ps.length).toArray⟩ : ByteArray).toList == (⟨#[]⟩ : ByteArray).toList) : Bool) = false from putL_ne hps h0) ?_
 have hB'9 := Bl.next hB'6 hb10
 have h5'3 := own_below h5'1 hb10
 refine xe 10 (.tuple #[.slice p5 i c5, .int .i64 0]) ?_
 have he : readE ps s = 0 := by unfold readE; rw [if_pos hsl, if_pos hyes]
 subst hie
 exact ⟨_, rfl, hB'9, _, _, by rw [he], by rw [readV, if_pos he]; exact h5'3⟩
theorem value_readG (ps : List Part) (s : List UInt8) (gl : Option Addr) (cl : Nat) (w : World) (hps : PartsOk ps) (h0 : 0 < ps.length) (hs : s.length ≤ 100000) (hP : Sts partC w (.slice gl ps.length cl) ps) :
    Calls Tryz.prog 145 #[.slice gl ps.length cl, .string ⟨s.toArray⟩] w (RetS (fun w' r => ∃ p c, r = .tuple #[.slice p ps.length c, .int .i64 (readE ps s)] ∧ w'.ownsRow w.heap.size 3 1 (.slice p ps.length c) ps.length ((readV ps s).map nv)) w) := by
  by_cases h : s.length = (wids ps ps.length).sum
  · exact value_readG_in ps s gl cl w hps h0 hs hP h
  · exact value_readG_len ps s gl cl w hps h0 hs hP h
end Go.Proofs.YtinegkldgjhnpaaGreatDoor
namespace Go.Proofs.YtinegkldgjhnpaaGreatDoor
open Go.RowKit
set_option linter.unusedVariables false
section
variable {P : Program} {a : Act}
theorem str_ext (l : List UInt8) (b c : Nat) : (ByteArray.mk l.toArray).extract b c = ByteArray.mk ((l.drop b).take (c - b)).toArray := ByteArray.extract_mk l b c
theorem run_strH {o : Oper} {t : TypeId} {x y : Operand} {l : List UInt8} {k : Nat} {j : Int} {kj : IntKind} (ho : o.op = .slice t x none (some y) none) (hx : a.eval x = .string ⟨l.toArray⟩) (hy : a.eval y = .int kj j) (hj : j = (k : Int)) (hk : k ≤ l.length)
    (ht : P.underlying t = some .string) (w : World) : (execOp a.eval o).run P w = .ok (.value (.string ⟨(l.take k).toArray⟩)) w := by
  subst hj
  have hs : ((k : Int)) ≤ ((⟨l.toArray⟩ : ByteArray).size : Int) := by simp [ByteArray.size]; omega
  have h := run_slice_string_h (P := P) (w := w) (t := t) (s := ⟨l.toArray⟩) ht kj (k : Int) (by omega) hs
  rw [str_ext, List.drop_zero, Int.toNat_natCast, Nat.sub_zero] at h
  simp only [execOp, ho, hx, Option.map_some, Option.map_none, hy]
  simp [run_sliceAt_string, ht, h]
theorem run_strL {o : Oper} {t : TypeId} {x y : Operand} {l : List UInt8} {k : Nat} {j : Int} {kj : IntKind} (ho : o.op = .slice t x (some y) none none) (hx : a.eval x = .string ⟨l.toArray⟩) (hy : a.eval y = .int kj j) (hj : j = (k : Int)) (hk : k ≤ l.length)
    (ht : P.underlying t = some .string) (w : World) : (execOp a.eval o).run P w = .ok (.value (.string ⟨(l.drop k).toArray⟩)) w := by
  subst hj
  have hs : ((k : Int)) ≤ ((⟨l.toArray⟩ : ByteArray).size : Int) := by simp [ByteArray.size]; omega
  have h := run_slice_string_l (P := P) (w := w) (t := t) (s := ⟨l.toArray⟩) ht kj (k : Int) (by omega) hs
  rw [str_ext, Int.toNat_natCast, show (⟨l.toArray⟩ : ByteArray).size = l.length by simp [ByteArray.size], List.take_of_length_le (by simp)] at h
  simp only [execOp, ho, hx, Option.map_some, Option.map_none, hy]
  simp [run_sliceAt_string, ht, h]
end
end Go.Proofs.YtinegkldgjhnpaaGreatDoor
namespace Go.Proofs.YtinegkldgjhnpaaGreatDoor
open Go.RowKit Go.Extern.Stop Go.Stop Go.Extern
set_option linter.unusedVariables false
attribute [local irreducible] wpList wpAnyH Code.wp Oper.wp Go

def slotP : List Part := [(8, 1, 14399), (4, 0, 960), (4, 0, 960)]
theorem slotP_ok : PartsOk slotP := by
  refine ⟨by decide, fun i hi => ?_⟩
  have hi' : i < 3 := hi
  obtain rfl | rfl | rfl : i = 0 ∨ i = 1 ∨ i = 2 := by omega
  all_goals simp [slotP, List.getD]
/-- a slot of an index: the number of bytes before it -/
def slotS (l : List UInt8) (i : Nat) : List UInt8 := (l.drop (4 + i * 16)).take 16
def slotK (l : List UInt8) (i k : Nat) : Nat := (readV slotP (slotS l i)).getD k 0
def sltC (x : Nat × Nat × Nat) : List Value := [.int .i64 (x.1 : Int), .int .i64 (x.2.1 : Int), .int .i64 (x.2.2 : Int)]
theorem sltC_len (x : Nat × Nat × Nat) : (sltC x).length = 3 := rfl
def sltX (l : List UInt8) (i : Nat) : Nat × Nat × Nat := (slotK l i 0, slotK l i 1, slotK l i 2)
def sltsL (l : List UInt8) (n : Nat) : List (Nat × Nat × Nat) := (List.range n).map (sltX l)
theorem sltsL_snoc (l : List UInt8) (n : Nat) : sltsL l (n + 1) = sltsL l n ++ [sltX l n] := by simp [sltsL, List.range_succ]
theorem sltsL_len (l : List UInt8) (n : Nat) : (sltsL l n).length = n := by simp [sltsL]
/-- the first number that is wrong -/
def sltsE (l : List UInt8) : Nat → Int
  | 0 => 0
  | i + 1 => if sltsE l i ≠ 0 then sltsE l i else readE slotP (slotS l i)
theorem sltsE_stop {l : List UInt8} {i : Nat} (h : sltsE l i ≠ 0) : ∀ n, i ≤ n → sltsE l n = sltsE l i
  | 0, h2 => by obtain rfl : i = 0 := by omega
                rfl
  | n + 1, h2 => by
    by_cases e : i = n + 1
    · rw [e]
    · have ih := sltsE_stop h n (by omega)
      rw [sltsE, if_pos (by rw [ih]; exact h), ih]
theorem sltsE_at {l : List UInt8} {i n : Nat} (h : sltsE l i = 0) (he : readE slotP (slotS l i) ≠ 0) (hi : i < n) : sltsE l n = readE slotP (slotS l i) := by
  have e : sltsE l (i + 1) = readE slotP (slotS l i) := by rw [sltsE, if_neg (by rw [h]; decide)]
  rw [sltsE_stop (by rw [e]; exact he) n hi, e]
theorem sltsE_next {l : List UInt8} {i : Nat} (h : sltsE l i = 0) (he : readE slotP (slotS l i) = 0) : sltsE l (i + 1) = 0 := by rw [sltsE, if_neg (by rw [h]; decide), he]
theorem slotS_len {l : List UInt8} {i : Nat} (hl : l.length = 244) (hi : i < 15) : (slotS l i).length = 16 := by simp [slotS]; omega
/-- a slot has room: it is right, or out of range -/
theorem slot_two {l : List UInt8} {i : Nat} (hl : l.length = 244) (hi : i < 15) : readE slotP (slotS l i) = 0 ∨ readE slotP (slotS l i) = 2 := by
  unfold readE
  rw [if_pos (by rw [slotS_len hl hi]; rfl)]
  split
  · exact .inl rfl
  · exact .inr rfl
/-- whether bytes are an index's, but for its slots -/
def idxOk (l : List UInt8) : Bool := decide (rawN l 0 4 ≤ 15) && zeroB (l.drop (4 + rawN l 0 4 * 16))
def idxE (l : List UInt8) : Int := if idxOk l then sltsE l (rawN l 0 4) else 7
def SlotsP (l : List UInt8) (w : World) (e : Ending) (w' : World) : Prop :=
  (idxE l ≠ 0 ∧ e = .returned (.tuple #[.slice none 0 0, .int .i64 (idxE l)]) ∧ Below w.heap.size w w') ∨
  (idxE l = 0 ∧ ∃ p c, e = .returned (.tuple #[.slice p (rawN l 0 4) c, .int .i64 0]) ∧ Below w.heap.size w w' ∧ w'.ownsRow w.heap.size 163 3 (.slice p (rawN l 0 4) c) (rawN l 0 4) ((sltsL l (rawN l 0 4)).flatMap sltC))
set_option maxRecDepth 100000 in
set_option maxHeartbeats 1000000 in
theorem value_slotR (w : World) :
    Calls Tryz.prog 146 #[] w (RetS (fun w' r => ∃ b, r = .slice (some ⟨b, 0, none⟩) 3 3 ∧ w.heap.size ≤ b ∧ Blk w' b [.int .i64 8, .int .i64 1, .int .i64 14399, .int .i64 4, .int .i64 0, .int .i64 960, .int .i64 4, .int .i64 0, .int .i64 960] 266) w) := by
 refine zin 5 Tryz.func146 ?_
 refine xbs 10 3 [.int .i64 8, .int .i64 1, .int .i64 14399, .int .i64 4, .int .i64 0, .int .i64 960, .int .i64 4, .int .i64 0, .int .i64 960] 266 fun b1 W1 n1 => ?_
 have g1 := n1.ge (Below.refl w.heap.size _)
 exact xe 4 (.slice (some ⟨b1, 0, none⟩) 3 3) ⟨_, rfl, n1.below, _, rfl, g1, n1.blk⟩
set_option maxRecDepth 100000 in
set_option maxHeartbeats 1000000 in
theorem value_ReadSlot (s : List UInt8) (w : World) (hs : s.length ≤ 1000) :
    Calls Tryz.prog 105 #[.string ⟨s.toArray⟩] w (Ret (.tuple #[.agg #[.int .i64 (↑((readV slotP s).getD 0 0) : Int), .int .i64 (↑((readV slotP s).getD 1 0) : Int), .int .i64 (↑((readV slotP s).getD 2 0) : Int)], .int .i64 (readE slotP s)]) w) := by
 refine zin 23 Tryz.func105 ?_
 refine xa 2 [.int .i64 0, .int .i64 0, .int .i64 0] 163 fun b1 W1 n1 => ?_
 refine xc 5 (args := #[]) (value_slotR _) ?_
 rintro _ W2 ⟨_, rfl, hb2, gl, rfl, gg, kl⟩
 refine xc 1 (args := #[.slice (some ⟨gl, 0, none⟩) 3 3, .string ⟨s.toArray⟩]) (value_readG slotP s (some ⟨gl, 0, none⟩) 3 _ slotP_ok (by decide) (by omega) (kl.sl 3 3 (by decide) (by decide))) ?_
 rintro _ W3 ⟨_, rfl, hb3, p5, c5, rfl, h5⟩
 have hs3 := (Bl.next n1.below hb2).size
 refine xd 8 (.t w.heap.size [163]) ?_
 have h5'1 := own_below (own_mono h5 hs3) (below_drew W3)
 refine xx (.e [0] 1) _ 3 0 1 (nv_elem (l := readV slotP s) (own_sl h5'1) (readV_len _ _) (k := 0) (by decide)).1 ?_
 refine xlt (.e [] 2) (.t w.heap.size [163]) (fun V hV => (nv_elem (l := readV slotP s) (own_sl (own_only h5'1 hV.2 (by decide))) (readV_len _ _) (k := 0) (by decide)).2) ?_
 refine xx (.e [3] 4) _ 3 1 1 (nv_elem (l := readV slotP s) (own_sl h5'1) (readV_len _ _) (k := 1) (by decide)).1 ?_
 refine xlt (.e [] 5) (.t w.heap.size [163]) (fun V hV => (nv_elem (l := readV slotP s) (own_sl (own_only h5'1 hV.2 (by decide))) (readV_len _ _) (k := 1) (by decide)).2) ?_
 refine xx (.e [6] 7) _ 3 2 1 (nv_elem (l := readV slotP s) (own_sl h5'1) (readV_len _ _) (k := 2) (by decide)).1 ?_
 refine xlt (.e [] 8) (.t w.heap.size [163]) (fun V hV => (nv_elem (l := readV slotP s) (own_sl (own_only h5'1 hV.2 (by decide))) (readV_len _ _) (k := 2) (by decide)).2) ?_
 have k1 := ((n1.blk.below hb2).below hb3).below (below_drew W3)
 have g1 := n1.ge (Below.refl w.heap.size _)
 refine ysv (.o [9, 10] 11) k1 [.int .i64 (↑((readV slotP s).getD 0 0) : Int), .int .i64 (↑((readV slotP s).getD 1 0) : Int), .int .i64 (↑((readV slotP s).getD 2 0) : Int)] (.t w.heap.size [163]) fun W4 u4 k4 => ⟨(sft_upd u4 k1 g1 (by decide)), ?_⟩
 have hB := u4.below (Bl.next (Bl.next (Bl.next n1.below hb2) hb3) (below_drew W3)) g1
 exact xec (.r [12] 3) k4 (.tuple #[.agg #[.int .i64 (↑((readV slotP s).getD 0 0) : Int), .int .i64 (↑((readV slotP s).getD 1 0) : Int), .int .i64 (↑((readV slotP s).getD 2 0) : Int)], .int .i64 (readE slotP s)]) ⟨rfl, hB⟩
set_option maxRecDepth 100000 in
set_option maxHeartbeats 1000000 in
theorem slots_next (B bt : Nat) (x : List UInt8) (w : World) (hBw : B ≤ w.heap.size) (hBt : B ≤ bt) (kt : Blk w bt [.string ⟨x.toArray⟩] 9) (hx : 16 ≤ x.length) :
    Calls Tryz.prog 104 #[.pointer (some ⟨bt, 0, none⟩)] w ((fun e w' => e = .returned (.string ⟨(x.take 16).toArray⟩) ∧ Below B w w' ∧ Only [9] w w' ∧ Blk w' bt [.string ⟨(x.drop 16).toArray⟩] 9)) := by
 refine zin 8 Tryz.func104 ?_
 refine xb 7 0 kt ?_
 refine xsH 0 (fun _ _ _ _ zo zx zy V => run_strH (k := 16) (j := 16) (kj := .i64) zo zx zy rfl hx Tryz.underlying9 V) ?_
 refine xb 5 0 kt ?_
 refine xsL 0 (fun _ _ _ _ zo zx zy V => run_strL (k := 16) (j := 16) (kj := .i64) zo zx zy rfl hx Tryz.underlying9 V) ?_
 refine xs 0 kt [.string ⟨(x.drop 16).toArray⟩] fun W1 u1 k1 => ?_
 have hB := u1.below (Below.refl B w) hBt
 have hO := (show Only [9] w _ from (Only.of_upd u1 kt (by decide)))
 exact xe 9 (.string ⟨(x.take 16).toArray⟩) ⟨rfl, hB, hO, k1⟩
theorem value_ReadSlotP (l : List UInt8) (i : Nat) (w : World) (hs : (slotS l i).length ≤ 1000) : Calls Tryz.prog 105 #[.string ⟨(slotS l i).toArray⟩] w (fun e w' =>
    (readE slotP (slotS l i) = 0 ∧ e = .returned (.tuple #[.agg #[.int .i64 (slotK l i 0 : Int), .int .i64 (slotK l i 1 : Int), .int .i64 (slotK l i 2 : Int)], .int .i64 0]) ∧ Below w.heap.size w w') ∨
    (readE slotP (slotS l i) ≠ 0 ∧ e = .returned (.tuple #[.agg #[.int .i64 (slotK l i 0 : Int), .int .i64 (slotK l i 1 : Int), .int .i64 (slotK l i 2 : Int)], .int .i64 (readE slotP (slotS l i))]) ∧ Below w.heap.size w w')) := by
  refine (value_ReadSlot (slotS l i) w hs).mono ?_
  rintro e W ⟨rfl, hb⟩
  by_cases h : readE slotP (slotS l i) = 0
  · exact .inl ⟨h, by rw [h]; rfl, hb⟩
  · exact .inr ⟨h, rfl, hb⟩
theorem bysK {w : World} {a : Option Addr} {c k : Nat} {l : List UInt8} (h : Bys w (.slice a 244 c) l) (hl : l.length = 244) (hk : k ≤ 244) : Bys w (.slice (cutA a k c 1) (244 - k) (c - k)) (l.drop k) := by
  have := Bys.cut h hl k 244 hk (by decide)
  rwa [List.take_of_length_le (by simp; omega)] at this
set_option maxRecDepth 100000 in
set_option maxHeartbeats 4000000 in
theorem slots_Read (a : Option Addr) (c : Nat) (l : List UInt8) (w : World) (hl : l.length = 244) (h : Bys w (.slice a 244 c) l) :
    Calls Tryz.prog 62 #[.slice a 244 c] w (SlotsP l w) := by
 have hcap := Bys.cap h hl
 refine zin 52 Tryz.func62 ?_
 refine xr 20 (args := #[.slice a 244 c, .int .i64 0, .int .i64 4]) (Get_okN a 244 c 0 4 0 4 l _ hl rfl rfl (by decide) (by decide) (by decide) (h.below (Below.refl w.heap.size _))) fun W1 hb1 => ?_
 refine xg 13 [20, 21] (decide ((↑(rawN l 0 4) : Int) > (15 : Int))) (fun hc2 => ?_) (fun hc2 => ?_)
 · have hc2 := of_decide_eq_true hc2
   refine xe 19 (.tuple #[.slice none 0 0, .int .i64 7]) ?_
   have he : idxE l = 7 := by unfold idxE idxOk; rw [decide_eq_false (by omega), Bool.false_and, if_neg (by decide)]
   exact .inl ⟨by rw [he]; decide, by rw [he], hb1⟩
 have hc2 := of_decide_eq_false hc2
 refine xwm 2 ((↑(rawN l 0 4) : Int) * 16) (↑((rawN l 0 4) * 16) : Int) ?_
 refine xwm 0 (4 + (↑((rawN l 0 4) * 16) : Int)) (↑(4 + ((rawN l 0 4) * 16)) : Int) ?_
 refine xsL 0 (fun _ _ _ _ zo zx zy V => run_sliceLA (k := (4 + ((rawN l 0 4) * 16))) (b := a) (n := 244) (c := c) (i := (↑(4 + ((rawN l 0 4) * 16)) : Int)) (ki := .i64) 1 zo zx zy rfl (by omega) Tryz.underlying22 (by kernel_rfl) V) ?_
 refine xr 0 (args := #[.slice (cutA a (4 + ((rawN l 0 4) * 16)) c 1) (244 - (4 + ((rawN l 0 4) * 16))) (c - (4 + ((rawN l 0 4) * 16)))]) (code_ZeroN (cutA a (4 + ((rawN l 0 4) * 16)) c 1) (244 - (4 + ((rawN l 0 4) * 16))) (c - (4 + ((rawN l 0 4) * 16))) (l.drop (4 + rawN l 0 4 * 16)) _ (by simp; omega) (by omega) ((bysK (k := 4 + rawN l 0 4 * 16) h hl (by omega)).below hb1)) fun W3 hb3 => ?_
 refine xi 4 (!(zeroB (l.drop (4 + rawN l 0 4 * 16)))) (fun hc4 => ?_) (fun hc4 => ?_)
 · have hze : zeroB (l.drop (4 + rawN l 0 4 * 16)) = false := not_t hc4
   have hB'1 := Bl.next hb1 hb3
   refine xe 8 (.tuple #[.slice none 0 0, .int .i64 7]) ?_
   have he : idxE l = 7 := by unfold idxE idxOk; rw [hze, Bool.and_false, if_neg (by decide)]
   exact .inl ⟨by rw [he]; decide, by rw [he], hB'1⟩
 have hze : zeroB (l.drop (4 + rawN l 0 4 * 16)) = true := not_f hc4
 refine xsL 5 (fun _ _ _ _ zo zx zy V => run_sliceLA (k := 4) (b := a) (n := 244) (c := c) (i := 4) (ki := .i64) 1 zo zx zy rfl (by omega) Tryz.underlying22 (by kernel_rfl) V) ?_
 have hB'2 := Bl.next hb1 hb3
 refine xcv0 0 (fun _ _ _ zo zx => run_bstr zo zx ((bysK (k := 4) h hl (by decide)).below hB'2) (by simp; omega) Tryz.underlying22 Tryz.underlying5 Tryz.underlying9) ?_
 refine xa 0 [.string ⟨#[]⟩] 9 fun b5 W5 n5 => ?_
 have g5 := n5.ge hB'2
 refine xs 0 n5.blk [.string ⟨(l.drop 4).toArray⟩] fun W6 u6 k6 => ?_
 have kt0 : Blk _ _ [.string ⟨((l.drop (4 + 0 * 16))).toArray⟩] _ := k6
 have hB'3 := u6.below (Bl.next hB'2 n5.below) g5
 refine zl 21 52 (fun zm zkv V => ∃ (i : Nat) (q : Option Addr) (d : Nat), zkv = [(7, .func (.func 104) #[] #[.pointer (some ⟨b5, 0, none⟩)]), (8, .slice q i d), (34, .int .i64 (↑(rawN l 0 4) : Int)), (35, .int .i64 (↑i : Int))] ∧ zm = (rawN l 0 4) - ((↑i : Int)).toNat ∧ Below w.heap.size w V ∧ Blk V b5 ([.string ⟨(l.drop (4 + i * 16)).toArray⟩]) 9 ∧ V.ownsRow w.heap.size 163 3 (.slice q i d) i ((sltsL l i).flatMap sltC) ∧ i ≤ (rawN l 0 4) ∧ sltsE l i = 0) ⟨0, _, _, rfl, rfl, hB'3, kt0, World.ownsRow_nil _ _ _ _, Nat.zero_le _, rfl⟩ ?_
 rintro _ _ W7 ⟨i, q, d, rfl, rfl, hB_7, k7_b5, ho, hi, hz⟩ J7 hJ7 r7
 refine xid 6 ((↑i : Int) < (↑(rawN l 0 4) : Int)) (fun hc8 => ?_) (fun hc8 => ?_)
 · refine xc 7 (args := #[.pointer (some ⟨b5, 0, none⟩)]) (slots_next w.heap.size b5 (l.drop (4 + i * 16)) _ hB_7.size g5 k7_b5 (by simp; omega)) ?_
   rintro _ W9 ⟨rfl, hb9, hO9, kN9⟩
   rw [List.drop_drop, show 4 + i * 16 + 16 = 4 + (i + 1) * 16 by omega] at kN9
   refine xc 0 (args := #[.string ⟨(slotS l i).toArray⟩]) (value_ReadSlotP l i _ (by rw [slotS_len hl (by omega)]; decide)) ?_
   rintro e W10 hq10
   rcases hq10 with ⟨hz0, rfl, hb10⟩ | ⟨hz0, rfl, hb10⟩
   · refine xa 3 [.int .i64 0, .int .i64 0, .int .i64 0] 163 fun b11 W11 n11 => ?_
     have hB'4 := Bl.next (hB_7.trans hb9) hb10
     have g11 := n11.ge hB'4
     have ho'1 := own_below (own_only ho hO9 (by decide)) hb10
     have r11_ho := own_ne ho'1 n11
     refine xsv 0 n11.blk [.int .i64 (↑(slotK l i 0) : Int), .int .i64 (↑(slotK l i 1) : Int), .int .i64 (↑(slotK l i 2) : Int)] fun W12 u12 k12 => ?_
     refine xlv 15 k12.rp ?_
     refine xbs 0 1 [.int .i64 (↑(slotK l i 0) : Int), .int .i64 (↑(slotK l i 1) : Int), .int .i64 (↑(slotK l i 2) : Int)] 163 fun b13 W13 n13 => ?_
     have d13_b11 := n13.ne k12
     have hB'5 := u12.below (Bl.next hB'4 n11.below) g11
     have g13 := n13.ge hB'5
     have ho'2 := u12.own3 (own_below ho'1 n11.below) r11_ho
     have r13_ho := own_ne ho'2 n13
     have ho'3 := own_below ho'2 n13.below
     have hB'6 := Bl.next hB'5 n13.below
     refine xbi 0 fun _ _ _ _ zJ zQ zo zx zy zK => op_app (m := 1) (news := [.int .i64 (↑(slotK l i 0) : Int), .int .i64 (↑(slotK l i 1) : Int), .int .i64 (↑(slotK l i 2) : Int)]) (.agg #[.int .i64 0, .int .i64 0, .int .i64 0]) 3 24 (i + 1) (((sltsL l (i + 1)).flatMap sltC)) zo Tryz.underlying63 (by kernel_rfl) rfl (by decide) zx ho'3 zy (n13.blk.sl 1 1 (by decide) (by decide)) rfl (by simp [Value.oneCell']) (by unfold maxLen; omega) (by omega) hB'6.size (by rfl) (by rw [sltsL_snoc, List.flatMap_append]; rfl) fun px14 cx14 W14 o14 hg14 hb14 => ?_
     refine zK _ _ ?_
     refine xwm 5 ((↑i : Int) + 1) (↑(i + 1) : Int) ?_
     have hB'7 := hB'6.trans hb14
     have kN9'1 := ((u12.blkT ((kN9.below hb10).below n11.below) n11.blk (by decide)).below n13.below).grown hg14 ho'3 (by decide)
     exact ze 2 (hJ7 _ _ _ ⟨i + 1, _, _, rfl, rfl, hB'7, kN9'1, o14, by omega, sltsE_next hz hz0⟩ (by omega))
   refine xa 3 [.int .i64 0, .int .i64 0, .int .i64 0] 163 fun b15 W15 n15 => ?_
   have hB'8 := Bl.next (hB_7.trans hb9) hb10
   have g15 := n15.ge hB'8
   have ho'4 := own_below (own_only ho hO9 (by decide)) hb10
   have r15_ho := own_ne ho'4 n15
   refine xsv 0 n15.blk [.int .i64 (↑(slotK l i 0) : Int), .int .i64 (↑(slotK l i 1) : Int), .int .i64 (↑(slotK l i 2) : Int)] fun W16 u16 k16 => ?_
   refine xk 10 (show (((readE slotP (slotS l i)) != (0 : Int)) : Bool) = true from bne_iff_ne.2 hz0) ?_
   have hB'9 := u16.below (Bl.next hB'8 n15.below) g15
   refine xe 14 (.tuple #[.slice none 0 0, .int .i64 (readE slotP (slotS l i))]) ?_
   have hok : idxOk l = true := by unfold idxOk; rw [hze, decide_eq_true (by omega)]; rfl
   have he : idxE l = readE slotP (slotS l i) := by unfold idxE; rw [if_pos hok, sltsE_at hz hz0 (by omega)]
   exact .inl ⟨by rw [he]; exact hz0, by rw [he], hB'9⟩
 refine xe 13 (.tuple #[.slice q i d, .int .i64 0]) ?_
 have hok : idxOk l = true := by unfold idxOk; rw [hze, decide_eq_true (by omega)]; rfl
 obtain rfl : i = rawN l 0 4 := by omega
 exact .inr ⟨by unfold idxE; rw [if_pos hok, hz], _, _, rfl, hB_7, ho⟩
def idxErr (l : List UInt8) (no : Int) : Int := if inE l 4 no = 0 then idxE (inB l no) else inE l 4 no
def BlkIdxP (l : List UInt8) (no : Int) (w : World) (e : Ending) (w' : World) : Prop :=
  (idxErr l no ≠ 0 ∧ ∃ b, e = .returned (.tuple #[.slice none 0 0, .iface 67 (.pointer (some ⟨b, 0, none⟩))]) ∧ Below w.heap.size w w' ∧ ErrV w' [some no] (some (idxErr l no)) (.iface 67 (.pointer (some ⟨b, 0, none⟩)))) ∨
  (idxErr l no = 0 ∧ ∃ p c, e = .returned (.tuple #[.slice p (rawN (inB l no) 0 4) c, .nilIface]) ∧ Below w.heap.size w w' ∧ w'.ownsRow w.heap.size 163 3 (.slice p (rawN (inB l no) 0 4) c) (rawN (inB l no) 0 4) ((sltsL (inB l no) (rawN (inB l no) 0 4)).flatMap sltC))
set_option maxRecDepth 100000 in
set_option maxHeartbeats 1000000 in
theorem readIdx (B b : Nat) (p : Option Addr) (n c : Nat) (l : List UInt8) (no : Int) (w : World) (hI : ImgR B b p n c l w) :
    Calls Tryz.prog 61 #[.pointer (some ⟨b, 0, none⟩), .int .i64 no, .int .i64 4, .func (.func 62) #[] #[]] w (BlkIdxP l no w) := by
 refine zin 56 Tryz.func61 ?_
 refine xc 15 (args := #[.pointer (some ⟨b, 0, none⟩), .int .i64 no]) (image_Read B b p n c l no _ (hI.below (Below.refl w.heap.size _))) ?_
 rintro e W1 hq1
 rcases hq1 with ⟨ho, vr, rfl, hb1⟩ | ⟨j, hk, hj, p2, c2, rfl, hb1, ho⟩
 · refine xc 21 (args := #[.int .i64 no, .iface 53 (.int .i64 3)]) (block_told no 3 _) ?_
   rintro _ W2 ⟨_, rfl, hb2, hv2⟩
   rw [if_neg (by decide), if_neg (by decide)] at hv2
   have hq2 := hv2
   obtain ⟨bf2, vf2, rfl, _, _⟩ := hq2
   have hB := Bl.next hb1 hb2
   refine xe 6 (.tuple #[.slice none 0 0, .iface 67 (.pointer (some ⟨bf2, 0, none⟩))]) ?_
   have he : idxErr l no = 3 := by unfold idxErr; rw [inE_out hI.len ho]; rfl
   exact .inl ⟨by rw [he]; decide, _, rfl, hB, by rw [he]; exact hv2⟩
 have hs1 := Nat.le_refl w.heap.size
 have hj2 : j < l.length / 256 := by rw [hI.len]; exact hj
 have hlj := blkB_len hj2
 have he2 := inE_in (l := l) (kind := 4) hI.len hk hj
 have ho'1 := own_mono ho hs1
 refine xc 22 (args := #[.slice p2 256 c2, .int .i64 4, .int .i64 no]) (seal_OpenN 4 no p2 256 c2 (blkB l j) _ hlj (bys_of (own_sl ho'1) hlj)) ?_
 rintro e W3 hq3
 rcases hq3 with ⟨hs, rfl, hb3⟩ | ⟨hs, p3, c3, rfl, hb3, h3⟩
 · refine xk 14 (show (((openE 4 no (blkB l j)) != (0 : Int)) : Bool) = true from bne_iff_ne.2 hs) ?_
   refine xc 6 (args := #[.int .i64 no, .iface 53 (.int .i64 (openE 4 no (blkB l j)))]) (block_told no (openE 4 no (blkB l j)) _) ?_
   rintro _ W4 ⟨_, rfl, hb4, hv4⟩
   rw [if_neg hs, if_neg hs] at hv4
   have hq4 := hv4
   obtain ⟨bf4, vf4, rfl, _, _⟩ := hq4
   have hB := Bl.next (Bl.next hb1 hb3) hb4
   refine xe 6 (.tuple #[.slice none 0 0, .iface 67 (.pointer (some ⟨bf4, 0, none⟩))]) ?_
   have he : idxErr l no = openE 4 no (blkB l j) := by unfold idxErr; rw [he2, if_neg hs]
   exact .inl ⟨by rw [he]; exact hs, _, rfl, hB, by rw [he]; exact hv4⟩
 have h3'1 := own_mono h3 hb1.size
 have hin : ((blkB l j).drop 8).take 244 = inB l no := (inB_in hk).symm
 have hil := inB_len hI.len hk hj
 rw [hin] at h3'1
 refine xc 21 (args := #[.slice p3 244 c3]) (slots_Read p3 c3 (inB l no) _ hil (bys_of (own_sl h3'1) hil)) ?_
 rintro e W5 hq5
 rcases hq5 with ⟨hz, rfl, hb5⟩ | ⟨hz, p4, c4, rfl, hb5, h4⟩
 · refine xk 14 (show (((idxE (inB l no)) != (0 : Int)) : Bool) = true from bne_iff_ne.2 hz) ?_
   refine xc 6 (args := #[.int .i64 no, .iface 53 (.int .i64 (idxE (inB l no)))]) (block_told no (idxE (inB l no)) _) ?_
   rintro _ W6 ⟨_, rfl, hb6, hv6⟩
   rw [if_neg hz, if_neg hz] at hv6
   have hq6 := hv6
   obtain ⟨bf6, vf6, rfl, _, _⟩ := hq6
   have hB := Bl.next (Bl.next (Bl.next hb1 hb3) hb5) hb6
   refine xe 6 (.tuple #[.slice none 0 0, .iface 67 (.pointer (some ⟨bf6, 0, none⟩))]) ?_
   have he : idxErr l no = idxE (inB l no) := by unfold idxErr; rw [he2, if_pos hs]
   exact .inl ⟨by rw [he]; exact hz, _, rfl, hB, by rw [he]; exact hv6⟩
 have hs5 := (Bl.next hb1 hb3).size
 have hB := Bl.next (Bl.next hb1 hb3) hb5
 have h4'1 := own_mono h4 hs5
 exact xe 25 (.tuple #[.slice p4 (rawN (inB l no) 0 4) c4, .nilIface]) (.inr ⟨by unfold idxErr; rw [he2, if_pos hs, hz], _, _, rfl, hB, h4'1⟩)
set_option maxRecDepth 100000 in
set_option maxHeartbeats 1000000 in
theorem block_Index (B b : Nat) (p : Option Addr) (n c : Nat) (l : List UInt8) (no : Int) (w : World) (hI : ImgR B b p n c l w) :
    Calls Tryz.prog 23 #[.pointer (some ⟨b, 0, none⟩), .int .i64 no] w (BlkIdxP l no w) := by
 refine zin 11 Tryz.func23 ?_
 refine xc 10 (args := #[.pointer (some ⟨b, 0, none⟩), .int .i64 no, .int .i64 4, .func (.func 62) #[] #[]]) (readIdx B b p n c l no _ (hI.below (Below.refl w.heap.size _))) ?_
 rintro e W1 hq1
 rcases hq1 with ⟨he, bf, rfl, hb1, hv⟩ | ⟨he, p4, c4, rfl, hb1, h4⟩
 · exact xe 7 (.tuple #[.slice none 0 0, .iface 67 (.pointer (some ⟨bf, 0, none⟩))]) (.inl ⟨he, _, rfl, hb1, hv⟩)
 have hs1 := Nat.le_refl w.heap.size
 have h4'1 := own_mono h4 hs1
 exact xe 7 (.tuple #[.slice p4 (rawN (inB l no) 0 4) c4, .nilIface]) (.inr ⟨he, _, _, rfl, hb1, h4'1⟩)
end Go.Proofs.YtinegkldgjhnpaaGreatDoor
namespace Go.Proofs.YtinegkldgjhnpaaGreatDoor
open Go.RowKit Go.Extern.Stop Go.Stop Go.Extern
set_option linter.unusedVariables false
attribute [local irreducible] wpList wpAnyH Code.wp Oper.wp Go

theorem and_15i (x : Int) : ∃ m : Nat, IntKind.i64.wrap (↑(BitVec.ofInt 64 x &&& BitVec.ofInt 64 (15 : Int)).toNat : Int) = (m : Int) ∧ m ≤ 15 := by
  have h : (BitVec.ofInt 64 x &&& BitVec.ofInt 64 (15 : Int)).toNat ≤ 15 := by
    rw [BitVec.toNat_and]
    exact Nat.le_trans Nat.and_le_right (by decide)
  exact ⟨_, i64_nat (by omega), h⟩
theorem rem_m (x : Int) (m : Nat) : ∃ r : Int, Int.tmod x (↑(1 + m) : Int) = r ∧ -(m : Int) ≤ r ∧ r ≤ (m : Int) := by
  refine ⟨_, rfl, ?_⟩
  have h1 := Int.tmod_lt_of_pos x (show (0 : Int) < (↑(1 + m) : Int) by omega)
  have h2 := Int.lt_tmod_of_pos x (show (0 : Int) < (↑(1 + m) : Int) by omega)
  omega
theorem rem_n (s m : Nat) : ∃ j : Nat, Int.tmod (s : Int) (↑(1 + m) : Int) = (j : Int) ∧ j < 1 + m := ⟨s % (1 + m), (Int.ofNat_tmod s (1 + m)).symm, Nat.mod_lt _ (by omega)⟩
theorem add_m {r : Int} {m : Nat} (h1 : -(m : Int) ≤ r) (h2 : r ≤ (m : Int)) (h3 : m ≤ 15) : ∃ s : Nat, r + (↑(1 + m) : Int) = (s : Int) ∧ s ≤ 31 := ⟨(r + (↑(1 + m) : Int)).toNat, by omega, by omega⟩
theorem tree_next {t : Int} (h1 : 1 ≤ t) (h2 : t ≤ 5) : Int.tmod t 5 + 1 ≠ 0 ∧ t ≠ Int.tmod t 5 + 1 ∧ 0 ≤ Int.tmod t 5 ∧ Int.tmod t 5 ≤ 5 := by
  obtain rfl | rfl | rfl | rfl | rfl : t = 1 ∨ t = 2 ∨ t = 3 ∨ t = 4 ∨ t = 5 := by omega
  all_goals exact ⟨by decide, by decide, by decide, by decide⟩
/-- a node that is read as itself -/
theorem node_is {l NB : List UInt8} {no tree t : Int} {leaf : Bool} {n m v : Nat} {K : List Int} {Vs : List (List UInt8)} (B : NodBack NB t leaf n m v K Vs) (he : nodeErr l no tree = 0) (hi : inB l no = NB) {w : World} {e : Ending} {w' : World} (h : BlkNodeP l no tree w e w') :
    ∃ kp kc vp vc, e = .returned (.tuple #[.agg #[.int .i64 t, .bool leaf, .slice kp n kc, .slice vp n vc], .nilIface]) ∧ Below w.heap.size w w' ∧ w'.ownsRow w.heap.size 3 1 (.slice kp n kc) n (K.map (Value.int .i64)) ∧ w'.ownsRow w.heap.size 9 1 (.slice vp n vc) n (Vs.map sv) := by
  rcases h with ⟨q, _⟩ | ⟨_, kp, kc, vp, vc, rfl, hb, h1, h2⟩
  · exact absurd he q
  · subst hi
    rw [B.c, B.k] at h1
    rw [B.c, B.v] at h2
    exact ⟨kp, kc, vp, vc, by rw [B.t, B.l, B.c], hb, h1, h2⟩
theorem node_not {l : List UInt8} {no tree er : Int} (he : nodeErr l no tree = er) (hz : er ≠ 0) {w : World} {e : Ending} {w' : World} (h : BlkNodeP l no tree w e w') :
    ∃ b vf, e = .returned (.tuple #[.agg #[.int .i64 0, .bool false, .slice none 0 0, .slice none 0 0], .iface 67 (.pointer (some ⟨b, 0, none⟩))]) ∧ Below w.heap.size w w' ∧ Blk w' b [.int .i64 no, vf] 72 ∧ ErrV w' [some no] (some er) (.iface 67 (.pointer (some ⟨b, 0, none⟩))) := by
  subst he
  rcases h with ⟨_, b, rfl, hb, hv⟩ | ⟨q, _⟩
  · obtain ⟨b2, vf, hq, kf, _⟩ := id hv
    obtain rfl : b = b2 := by injection hq with _ hq; injection hq with hq; injection hq with hq; injection hq
    exact ⟨b, vf, rfl, hb, kf, hv⟩
  · exact absurd q hz
theorem bits_not {l : List UInt8} {no er : Int} (he : bitsErr l no = er) (hz : er ≠ 0) {w : World} {e : Ending} {w' : World} (h : BlkBitsP l no w e w') :
    ∃ b, e = .returned (.tuple #[.slice none 0 0, .iface 67 (.pointer (some ⟨b, 0, none⟩))]) ∧ Below w.heap.size w w' ∧ ErrV w' [some no] (some er) (.iface 67 (.pointer (some ⟨b, 0, none⟩))) := by
  subst he
  rcases h with ⟨_, b, rfl, hb, hv⟩ | ⟨q, _⟩
  · exact ⟨b, rfl, hb, hv⟩
  · exact absurd q hz
theorem idx_not {l : List UInt8} {no er : Int} (he : idxErr l no = er) (hz : er ≠ 0) {w : World} {e : Ending} {w' : World} (h : BlkIdxP l no w e w') :
    ∃ b, e = .returned (.tuple #[.slice none 0 0, .iface 67 (.pointer (some ⟨b, 0, none⟩))]) ∧ Below w.heap.size w w' ∧ ErrV w' [some no] (some er) (.iface 67 (.pointer (some ⟨b, 0, none⟩))) := by
  subst he
  rcases h with ⟨_, b, rfl, hb, hv⟩ | ⟨q, _⟩
  · exact ⟨b, rfl, hb, hv⟩
  · exact absurd q hz
theorem fault_Code1 (no c : Int) (v : Value) (w : World) (hg : ErrT w) (hv : ErrV w [some no] (some c) v) : Calls Tryz.prog 25 #[v] w (Ret (.int .i64 c) w) := fault_Code (some c) [some no] v w hg hv
theorem node_SameN (t : Int) (leaf : Bool) (n nv : Nat) (K : List Int) (Vs : List (List UInt8)) (kp vp kp2 vp2 : Option Addr) (kc vc kc2 vc2 : Nat) (w : World) (hnv : nv = n) (hK : K.length = n) (hV : Vs.length = nv) (h1 : Sl w (.slice kp n kc) n (K.map (Value.int .i64))) (h2 : Sl w (.slice vp n vc) n (Vs.map sv)) (h3 : Sl w (.slice kp2 n kc2) n (K.map (Value.int .i64))) (h4 : Sl w (.slice vp2 nv vc2) nv (Vs.map sv)) :
    Calls Tryz.prog 24 #[.agg #[.int .i64 t, .bool leaf, .slice kp n kc, .slice vp n vc], .agg #[.int .i64 t, .bool leaf, .slice kp2 n kc2, .slice vp2 nv vc2]] w (Ret (.bool true) w) := by
  subst hnv; exact node_Same t leaf _ K Vs kp vp kp2 vp2 kc vc kc2 vc2 w hK hV h1 h2 h3 h4
/-- an image with a node in it -/
structure Held (l : List UInt8) (j : Nat) (NB : List UInt8) (t : Int) (leaf : Bool) (n m v : Nat) (K : List Int) (Vs : List (List UInt8)) : Prop where
  back : NodBack NB t leaf n m v K Vs
  own : ∀ tree, tree = 0 ∨ t = tree → nodeErr l (j : Int) tree = 0
  inb : inB l (j : Int) = NB
  other : ∀ u, u ≠ 0 → t ≠ u → nodeErr l (j : Int) u = 6
  bits : bitsErr l (j : Int) = 4
  idx : idxErr l (j : Int) = 4
theorem held {t : Int} {leaf : Bool} {n m v : Nat} {K : List Int} {Vs : List (List UInt8)} (N : NodeOk t leaf n m v K Vs) {z : List UInt8} {k j : Nat} (hz : z.length = k * 256) (hk : k ≤ 14400) (hj : j < k) :
    Held (putB z (j * 256) (sealB 2 (j : Int) (nodeP m v (headB t leaf n m v) K Vs n))) j (nodeP m v (headB t leaf n m v) K Vs n) t leaf n m v K Vs := by
  have B := nod_back N
  have l4 := sealB_len (kind := 2) (no := (j : Int)) (li := nodeP m v (headB t leaf n m v) K Vs n) (by rw [B.len]; decide)
  have hlen : (putB z (j * 256) (sealB 2 (j : Int) (nodeP m v (headB t leaf n m v) K Vs n))).length = k * 256 := by rw [putB_len (by omega), hz]
  have hbk := blkB_put (l := z) (k := j) l4 (by omega)
  have hjk : j < k * 256 / 256 := by omega
  have hin := (blk_back N hlen hjk (by omega) hbk 0 (.inl rfl)).2
  have ho3 : inE (putB z (j * 256) (sealB 2 (j : Int) (nodeP m v (headB t leaf n m v) K Vs n))) 3 (j : Int) = 4 := by
    rw [inE_in (no := (j : Int)) (j := j) hlen rfl hjk, hbk]; exact open_other (.inl rfl) (by omega) (by omega) (by rw [B.len]; decide)
  have ho4 : inE (putB z (j * 256) (sealB 2 (j : Int) (nodeP m v (headB t leaf n m v) K Vs n))) 4 (j : Int) = 4 := by
    rw [inE_in (no := (j : Int)) (j := j) hlen rfl hjk, hbk]; exact open_other (.inr rfl) (by omega) (by omega) (by rw [B.len]; decide)
  refine ⟨B, fun tree ht => (blk_back N hlen hjk (by omega) hbk tree ht).1, hin, fun u h0 ht => ?_, ?_, ?_⟩
  · unfold nodeErr
    rw [inE_in (no := (j : Int)) (j := j) hlen rfl hjk, hbk, if_pos (open_seal (by decide) (by decide) (by omega) (by omega) (by rw [B.len]; decide)), hin]
    unfold nodeTE
    rw [if_pos B.e, if_neg (by rw [B.t]; rintro (q | q); exact h0 q; exact ht q)]
  · unfold bitsErr; rw [ho3, if_neg (by decide)]
  · unfold idxErr; rw [ho4, if_neg (by decide)]
set_option maxRecDepth 100000 in
set_option maxHeartbeats 8000000 in
theorem blockBack_law (t : Int) (leaf : Bool) (K : List Int) (Vs : List (List UInt8)) (ak av : Option Addr) (ck cv : Nat) (no nb : Int) (w : World) (hKs : Ints w (.slice ak K.length ck) K) (hVs : Sl w (.slice av Vs.length cv) Vs.length (Vs.map sv)) (hg : ErrT w) :
    Calls Tryz.prog 5 #[.agg #[.int .i64 t, .bool leaf, .slice ak K.length ck, .slice av Vs.length cv], .int .i64 no, .int .i64 nb] w (Ret (.bool true) w) := by
 obtain ⟨m, hm, hm15⟩ := and_15i nb
 obtain ⟨r1, hr1, hr1a, hr1b⟩ := rem_m no m
 obtain ⟨s1, hs1, hs1b⟩ := add_m hr1a hr1b hm15
 obtain ⟨j, hj, hj2⟩ := rem_n s1 m
 rw [← hs1] at hj
 refine zin 137 Tryz.func5 ?_
 refine xa 2 [.int .i64 t, .bool leaf, .slice ak K.length ck, .slice av Vs.length cv] 52 fun b1 W1 n1 => ?_
 refine xq 6 (congrArg (Value.int .i64) (show (IntKind.i64.wrap (↑(BitVec.ofInt 64 nb &&& BitVec.ofInt 64 (15 : Int)).toNat : Int) : Int) = (↑m : Int) from hm)) ?_
 refine xwm 0 (1 + (↑m : Int)) (↑(1 + m) : Int) ?_
 refine xbo 7 (t := 3) (t2 := 3) (fun _ _ _ _ zo zx zy V hV => run_rem (k := .i64) (p := no) (q := (↑(1 + m) : Int)) (r := r1) zo zx zy (by omega) hr1 V) ?_
 refine xw 1 (r1 + (↑(1 + m) : Int)) ?_
 refine xbo 1 (t := 3) (t2 := 3) (fun _ _ _ _ zo zx zy V hV => run_rem (k := .i64) (p := r1 + (↑(1 + m) : Int)) (q := (↑(1 + m) : Int)) (r := (↑j : Int)) zo zx zy (by omega) hj V) ?_
 refine xlv 5 n1.blk.rp ?_
 refine xc 0 (args := #[.agg #[.int .i64 t, .bool leaf, .slice ak K.length ck, .slice av Vs.length cv]]) (node_PutG t leaf K.length Vs.length K Vs ak av ck cv _ rfl rfl (Sl.below hKs n1.below) (Sl.below hVs n1.below)) ?_
 rintro e W2 hq2
 rcases hq2 with ⟨hP, p7, c7, rfl, hb2, h7⟩ | ⟨hP, rfl, hb2⟩
 · have hnv : Vs.length = K.length := hP.1
   have N := hP.2
   obtain ⟨hu0, hut, hu1, hu5⟩ := tree_next N.ht1 N.ht2
   have hB'1 := Bl.next n1.below hb2
   have hs8 : w.heap.size ≤ (W2).heap.size := hB'1.size
   refine xc 20 (args := #[.int .i64 (↑(1 + m) : Int)]) (image_NewR (1 + m) _ (by omega)) ?_
   rintro _ W3 ⟨_, rfl, hb3, bi, pi, ci, rfl, _, hI⟩
   replace hI := hI.mono hs8
   have h7'1 := own_below (own_mono h7 n1.below.size) hb3
   have hB'2 := Bl.next hB'1 hb3
   refine xc 16 (args := #[.pointer (some ⟨bi, 0, none⟩), .int .i64 (↑j : Int), .int .i64 2, .slice p7 244 c7]) (block_WriteR w.heap.size bi pi ((1 + m) * 256) ci j (↑j : Int) _ 2 p7 c7 244 (nodeP (maxN t leaf) (widN t leaf) (headB t leaf K.length (maxN t leaf) (widN t leaf)) K Vs K.length) _ rfl (nod_back N).len hI (by omega) (by decide) (by decide) (bys_of (own_sl h7'1) (nod_back N).len) (by decide) hB'2.size) ?_
   rintro _ W4 ⟨rfl, hb4, hO4, hI⟩
   have hH := held N (z := List.replicate ((1 + m) * 256) (0 : UInt8)) (k := 1 + m) (j := j) List.length_replicate (by omega) hj2
   refine xc 11 (args := #[.pointer (some ⟨bi, 0, none⟩), .int .i64 (↑j : Int), .int .i64 0]) ((block_Node _ bi pi _ ci (putB (List.replicate ((1 + m) * 256) (0 : UInt8)) (j * 256) (sealB 2 (↑j : Int) (nodeP (maxN t leaf) (widN t leaf) (headB t leaf K.length (maxN t leaf) (widN t leaf)) K Vs K.length))) (↑j : Int) 0 _ hI).mono (fun _ _ q => node_is hH.back (hH.own 0 (.inl rfl)) hH.inb q)) ?_
   rintro _ W5 ⟨kp, kc, vp, vc, rfl, hb5, hn1, hn2⟩
   have hs5 := (hB'2.trans hb4).size
   refine xa 3 [.int .i64 0, .bool false, .slice none 0 0, .slice none 0 0] 52 fun b6 W6 n6 => ?_
   have k1'1 := (((n1.blk.below hb2).below hb3).only hO4 (by decide)).below hb5
   have d6_b1 := n6.ne k1'1
   have hB'3 := Bl.next (hB'2.trans hb4) hb5
   have g6 := n6.ge hB'3
   refine xsv 0 n6.blk [.int .i64 t, .bool leaf, .slice kp K.length kc, .slice vp K.length vc] fun W7 u7 k7 => ?_
   have k1'2 := u7.blk (k1'1.below n6.below) (Ne.symm (Ne.symm d6_b1))
   refine xb 8 0 k1'2 ?_
   have hI'1 := ((hI.below hb5).below n6.below).only (Only.of_upd (T := [52]) u7 n6.blk (by decide)) (by decide)
   refine xc 0 (args := #[.pointer (some ⟨bi, 0, none⟩), .int .i64 (↑j : Int), .int .i64 t]) ((block_Node _ bi pi _ ci (putB (List.replicate ((1 + m) * 256) (0 : UInt8)) (j * 256) (sealB 2 (↑j : Int) (nodeP (maxN t leaf) (widN t leaf) (headB t leaf K.length (maxN t leaf) (widN t leaf)) K Vs K.length))) (↑j : Int) t _ hI'1).mono (fun _ _ q => node_is hH.back (hH.own t (.inr rfl)) hH.inb q)) ?_
   rintro _ W8 ⟨kp2, kc2, vp2, vc2, rfl, hb8, hn3, hn4⟩
   have hs8 := (u7.below (Bl.next hB'3 n6.below) g6).size
   refine xa 3 [.int .i64 0, .bool false, .slice none 0 0, .slice none 0 0] 52 fun b9 W9 n9 => ?_
   have k1'3 := k1'2.below hb8
   have d9_b1 := n9.ne k1'3
   have k7'1 := k7.below hb8
   have d9_b6 := n9.ne k7'1
   have hB'4 := Bl.next (u7.below (Bl.next hB'3 n6.below) g6) hb8
   have g9 := n9.ge hB'4
   refine xsv 0 n9.blk [.int .i64 t, .bool leaf, .slice kp2 K.length kc2, .slice vp2 K.length vc2] fun W10 u10 k10 => ?_
   have k1'4 := u10.blk (k1'3.below n9.below) (Ne.symm (Ne.symm d9_b1))
   refine xb 8 0 k1'4 ?_
   refine xw 1 (Int.tmod t 5 + 1) ?_
   have hI'2 := ((hI'1.below hb8).below n9.below).only (Only.of_upd (T := [52]) u10 n9.blk (by decide)) (by decide)
   refine xc 0 (args := #[.pointer (some ⟨bi, 0, none⟩), .int .i64 (↑j : Int), .int .i64 (Int.tmod t 5 + 1)]) ((block_Node _ bi pi _ ci (putB (List.replicate ((1 + m) * 256) (0 : UInt8)) (j * 256) (sealB 2 (↑j : Int) (nodeP (maxN t leaf) (widN t leaf) (headB t leaf K.length (maxN t leaf) (widN t leaf)) K Vs K.length))) (↑j : Int) (Int.tmod t 5 + 1) _ hI'2).mono (fun _ _ q => node_not (hH.other (Int.tmod t 5 + 1) hu0 hut) (by decide) q)) ?_
   rintro _ W11 ⟨bf, vf, rfl, hb11, kbf, hv6⟩
   refine xa 3 [.int .i64 0, .bool false, .slice none 0 0, .slice none 0 0] 52 fun b12 W12 n12 => ?_
   have k1'5 := k1'4.below hb11
   have d12_b1 := n12.ne k1'5
   have k7'2 := (u10.blk (k7'1.below n9.below) (Ne.symm (Ne.symm d9_b6))).below hb11
   have d12_b6 := n12.ne k7'2
   have k10'1 := k10.below hb11
   have d12_b9 := n12.ne k10'1
   have hB'5 := Bl.next (u10.below (Bl.next hB'4 n9.below) g9) hb11
   have g12 := n12.ge hB'5
   refine xsv 0 n12.blk [.int .i64 0, .bool false, .slice none 0 0, .slice none 0 0] fun W13 u13 k13 => ?_
   have hI'3 := ((hI'2.below hb11).below n12.below).only (Only.of_upd (T := [52]) u13 n12.blk (by decide)) (by decide)
   refine xc 7 (args := #[.pointer (some ⟨bi, 0, none⟩), .int .i64 (↑j : Int)]) ((block_Bits _ bi pi _ ci (putB (List.replicate ((1 + m) * 256) (0 : UInt8)) (j * 256) (sealB 2 (↑j : Int) (nodeP (maxN t leaf) (widN t leaf) (headB t leaf K.length (maxN t leaf) (widN t leaf)) K Vs K.length))) (↑j : Int) _ hI'3).mono (fun _ _ q => bits_not hH.bits (by decide) q)) ?_
   rintro _ W14 ⟨b3, rfl, hb14, hv3⟩
   have hI'4 := hI'3.below hb14
   refine xc 11 (args := #[.pointer (some ⟨bi, 0, none⟩), .int .i64 (↑j : Int)]) ((block_Index _ bi pi _ ci (putB (List.replicate ((1 + m) * 256) (0 : UInt8)) (j * 256) (sealB 2 (↑j : Int) (nodeP (maxN t leaf) (widN t leaf) (headB t leaf K.length (maxN t leaf) (widN t leaf)) K Vs K.length))) (↑j : Int) _ hI'4).mono (fun _ _ q => idx_not hH.idx (by decide) q)) ?_
   rintro _ W15 ⟨b4, rfl, hb15, hv4⟩
   have k7'3 := ((u13.blk (k7'2.below n12.below) (Ne.symm (Ne.symm d12_b6))).below hb14).below hb15
   refine xlv 17 k7'3.rp ?_
   have k1'6 := ((u13.blk (k1'5.below n12.below) (Ne.symm (Ne.symm d12_b1))).below hb14).below hb15
   refine xlv 0 k1'6.rp ?_
   have hn1'1 := own_below (own_below (u13.own2 (own_below (own_below (u10.own2 (own_below (own_below (u7.own2 (own_below (own_mono hn1 hs5) n6.below) n6.blk (by decide)) hb8) n9.below) n9.blk (by decide)) hb11) n12.below) n12.blk (by decide)) hb14) hb15
   have hn2'1 := own_below (own_below (u13.own2 (own_below (own_below (u10.own2 (own_below (own_below (u7.own2 (own_below (own_mono hn2 hs5) n6.below) n6.blk (by decide)) hb8) n9.below) n9.blk (by decide)) hb11) n12.below) n12.blk (by decide)) hb14) hb15
   have hB'6 := Bl.next (Bl.next (u13.below (Bl.next hB'5 n12.below) g12) hb14) hb15
   refine xr 0 (args := #[.agg #[.int .i64 t, .bool leaf, .slice kp K.length kc, .slice vp K.length vc], .agg #[.int .i64 t, .bool leaf, .slice ak K.length ck, .slice av Vs.length cv]]) (node_SameN t leaf K.length Vs.length K Vs kp vp ak av kc vc ck cv _ hnv rfl rfl (own_sl hn1'1) (own_sl hn2'1) (Sl.below hKs hB'6) (Sl.below hVs hB'6)) fun W16 hb16 => ?_
   have k10'2 := (((u13.blk (k10'1.below n12.below) (Ne.symm (Ne.symm d12_b9))).below hb14).below hb15).below hb16
   refine xlv 3 k10'2.rp ?_
   have k1'7 := k1'6.below hb16
   refine xlv 0 k1'7.rp ?_
   have hn3'1 := own_below (own_below (own_below (u13.own2 (own_below (own_below (u10.own2 (own_below (own_mono hn3 hs8) n9.below) n9.blk (by decide)) hb11) n12.below) n12.blk (by decide)) hb14) hb15) hb16
   have hn4'1 := own_below (own_below (own_below (u13.own2 (own_below (own_below (u10.own2 (own_below (own_mono hn4 hs8) n9.below) n9.blk (by decide)) hb11) n12.below) n12.blk (by decide)) hb14) hb15) hb16
   have hB'7 := Bl.next hB'6 hb16
   refine xr 0 (args := #[.agg #[.int .i64 t, .bool leaf, .slice kp2 K.length kc2, .slice vp2 K.length vc2], .agg #[.int .i64 t, .bool leaf, .slice ak K.length ck, .slice av Vs.length cv]]) (node_SameN t leaf K.length Vs.length K Vs kp2 vp2 ak av kc2 vc2 ck cv _ hnv rfl rfl (own_sl hn3'1) (own_sl hn4'1) (Sl.below hKs hB'7) (Sl.below hVs hB'7)) fun W17 hb17 => ?_
   refine xa 9 [.pointer none] 67 fun b18 W18 n18 => ?_
   have hB'8 := Bl.next hB'7 hb17
   have g18 := n18.ge hB'8
   have hB'9 := Bl.next hB'8 n18.below
   have hv6'1 := ((((((hv6.below n12.below).only (Only.of_upd (T := [52]) u13 n12.blk (by decide)) (by decide)).below hb14).below hb15).below hb16).below hb17).below n18.below
   refine xr 5 (args := #[.iface 67 (.pointer (some ⟨bf, 0, none⟩))]) (fault_Code1 (↑j : Int) 6 _ _ (hg.below hB'9) hv6'1) fun W19 hb19 => ?_
   have hB'10 := Bl.next hB'9 hb19
   have k18 := n18.blk.below hb19
   refine xc 4 (args := #[.iface 67 (.pointer (some ⟨bf, 0, none⟩)), .iface 70 (.pointer (some ⟨b18, 0, none⟩))]) (errors_AsB w.heap.size b18 bf _ _ (hg.below hB'10) hB'10.size g18 k18) ?_
   rintro _ W20 ⟨rfl, hb20, hO20, kT⟩
   refine xb 2 0 kT ?_
   have kbf'1 := (((((((u13.blkT (kbf.below n12.below) n12.blk (by decide)).below hb14).below hb15).below hb16).below hb17).below n18.below).below hb19).only hO20 (by decide)
   refine xb 2 0 kbf'1 ?_
   refine xgk 4 [122, 123, 124] (show (((↑j : Int) == (↑j : Int)) : Bool) = true from by simp) ?_
   have hB'11 := hB'10.trans hb20
   have hv3'1 := (((((hv3.below hb15).below hb16).below hb17).below n18.below).below hb19).only hO20 (by decide)
   refine xr 1 (args := #[.iface 67 (.pointer (some ⟨b3, 0, none⟩))]) (fault_Code1 (↑j : Int) 4 _ _ (hg.below hB'11) hv3'1) fun W22 hb22 => ?_
   have hB'12 := Bl.next hB'11 hb22
   have hv4'1 := (((((hv4.below hb16).below hb17).below n18.below).below hb19).only hO20 (by decide)).below hb22
   refine xr 4 (args := #[.iface 67 (.pointer (some ⟨b4, 0, none⟩))]) (fault_Code1 (↑j : Int) 4 _ _ (hg.below hB'12) hv4'1) fun W23 hb23 => ?_
   refine xr 3 (args := #[]) (lives11 _) fun W24 hb24 => ?_
   have hB'13 := Bl.next (Bl.next hB'12 hb23) hb24
   exact xe 5 (.bool true) ⟨rfl, hB'13⟩
 refine xr 17 (args := #[]) (lives11 _) fun W25 hb25 => ?_
 have hB'14 := Bl.next (Bl.next n1.below hb2) hb25
 exact xe 5 (.bool true) ⟨rfl, hB'14⟩
end Go.Proofs.YtinegkldgjhnpaaGreatDoor
namespace Go.Proofs.YtinegkldgjhnpaaGreatDoor
open Go.ChangeShapes Go.WideShapes Go.ChangeAt Go.RowKit Go.Joins
set_option linter.unusedVariables false
theorem bytes_open {H : Type} {enc : TypeId × Value → H} {P : Program} {W : World} {r : Reach} {b0 : Nat} {t e : TypeId} {v : Value} {d : DataW H} {p : List MemPlace} (ht : P.underlying t = some (.slice e)) (he : P.underlying e = some (.int .u8)) (hC : P.cellsOf e = 1)
    (hv : Value.okWide P W r b0 t v) (h : DataW.Trod enc P W 0 (fun _ => true) true t v d p) : ∃ l, Bys W v l := by
  obtain ⟨a, len, cap, rfl⟩ := okWide_slice ht hv
  obtain ⟨fuel, hf⟩ := h
  rcases open_ints ht he hC hf with ⟨hcs, _⟩ | ⟨x, l, c, zs, hcs, _, hl, hm, hz, _, hcell, hwz⟩
  · simp [Value.cells] at hcs
    obtain ⟨rfl, rfl, rfl⟩ := hcs
    exact ⟨[], .inl ⟨_, _, rfl, rfl, rfl⟩⟩
  · simp [Value.cells] at hcs
    obtain ⟨rfl, rfl, rfl⟩ := hcs
    have hz' : zs.length = cap := by simpa using hz
    by_cases h0 : len = 0
    · subst h0
      exact ⟨[], .inl ⟨_, _, rfl, rfl, rfl⟩⟩
    · obtain ⟨b, off, spot⟩ := x
      have hc := hcell 0 (by omega)
      have hspot : spot = none := by simpa [Addr.add] using World.cell?_spot hc
      subst hspot
      have hlen : ((zs.take len).map fun n => UInt8.ofNat n.toNat).length = len := by simp; omega
      refine ⟨(zs.take len).map fun n => UInt8.ofNat n.toNat, .inr ⟨b, off, cap, by rw [hlen], by omega, hm, fun j x hj => ?_⟩⟩
      have hjl : j < len := by have := (List.getElem?_eq_some_iff.1 hj).1; simp at this; omega
      have e1 : zs[j]? = some zs[j] := List.getElem?_eq_getElem (by omega)
      have hw := hwz zs[j] (List.getElem_mem _)
      have hcj := hcell j (by omega)
      have e2 : zs.getD j 0 = zs[j] := by simp [List.getD, e1]
      rw [e2] at hcj
      have hx : x = .int .u8 zs[j] := by
        rw [List.getElem?_map, List.getElem?_map, List.getElem?_take_of_lt hjl, e1] at hj
        simp only [Option.map_some, Option.some.injEq] at hj
        rw [← hj]
        have hb : 0 ≤ zs[j] ∧ zs[j] ≤ 255 := by simpa [Lit.wf, IntKind.min, IntKind.max, IntKind.signed, IntKind.bits] using hw
        have h3 : (zs[j].toNat % 256 : Nat) = zs[j].toNat := Nat.mod_eq_of_lt (by omega)
        simp only [bv, UInt8.toNat_ofNat']
        rw [show (2 ^ 8 : Nat) = 256 from rfl, h3, Int.toNat_of_nonneg hb.1]
      subst hx
      by_cases hj0 : j = 0
      · subst hj0; simpa [Addr.add] using hcj
      · simpa [Addr.add, hj0] using hcj
end Go.Proofs.YtinegkldgjhnpaaGreatDoor
namespace Go.Proofs.YtinegkldgjhnpaaGreatDoor
open Go.ChangeShapes Go.WideShapes Go.ChangeAt Go.RowKit Go.Joins Go.Deep
set_option linter.unusedVariables false

theorem bytes_trod {H : Type} {enc : TypeId × Value → H} {P : Program} {W : World} {t e : TypeId} {v : Value} {y : DataW H × List MemPlace} {fuel : Nat} (ht : P.underlying t = some (.slice e)) (he : P.underlying e = some (.int .u8)) (hC : P.cellsOf e = 1)
    (hf : DataW.trod enc P W 0 (fun _ => true) true fuel t [v] = some y) : ∃ l, Bys W v l := by
  rcases open_ints ht he hC hf with ⟨hcs, _⟩ | ⟨x, len, cap, zs, hcs, _, hl, hm, hz, _, hcell, hwz⟩
  · simp at hcs
    subst hcs
    exact ⟨[], .inl ⟨_, _, rfl, rfl, rfl⟩⟩
  · simp at hcs
    subst hcs
    have hz' : zs.length = cap := by simpa using hz
    by_cases h0 : len = 0
    · subst h0
      exact ⟨[], .inl ⟨_, _, rfl, rfl, rfl⟩⟩
    · obtain ⟨b, off, spot⟩ := x
      have hc := hcell 0 (by omega)
      have hspot : spot = none := by simpa [Addr.add] using World.cell?_spot hc
      subst hspot
      have hlen : ((zs.take len).map fun n => UInt8.ofNat n.toNat).length = len := by simp; omega
      refine ⟨(zs.take len).map fun n => UInt8.ofNat n.toNat, .inr ⟨b, off, cap, by rw [hlen], by omega, hm, fun j x hj => ?_⟩⟩
      have hjl : j < len := by have := (List.getElem?_eq_some_iff.1 hj).1; simp at this; omega
      have e1 : zs[j]? = some zs[j] := List.getElem?_eq_getElem (by omega)
      have hw := hwz zs[j] (List.getElem_mem _)
      have hcj := hcell j (by omega)
      have e2 : zs.getD j 0 = zs[j] := by simp [List.getD, e1]
      rw [e2] at hcj
      have hx : x = .int .u8 zs[j] := by
        rw [List.getElem?_map, List.getElem?_map, List.getElem?_take_of_lt hjl, e1] at hj
        simp only [Option.map_some, Option.some.injEq] at hj
        rw [← hj]
        have hb : 0 ≤ zs[j] ∧ zs[j] ≤ 255 := by simpa [Lit.wf, IntKind.min, IntKind.max, IntKind.signed, IntKind.bits] using hw
        have h3 : (zs[j].toNat % 256 : Nat) = zs[j].toNat := Nat.mod_eq_of_lt (by omega)
        simp only [bv, UInt8.toNat_ofNat']
        rw [show (2 ^ 8 : Nat) = 256 from rfl, h3, Int.toNat_of_nonneg hb.1]
      subst hx
      by_cases hj0 : j = 0
      · subst hj0; simpa [Addr.add] using hcj
      · simpa [Addr.add, hj0] using hcj
theorem ints_nilcap {H : Type} {enc : TypeId × Value → H} {P : Program} {W : World} {r : Reach} {b0 : Nat} {t e : TypeId} {v : Value} {d : DataW H} {p : List MemPlace} (ht : P.underlying t = some (.slice e)) (he : P.underlying e = some (.int .i64)) (hC : P.cellsOf e = 1)
    (hv : Value.okWide P W r b0 t v) (h : DataW.Trod enc P W 0 (fun _ => true) true t v d p) : ∀ n c, v = .slice none n c → c = 0 := by
  obtain ⟨a, len, cap, rfl⟩ := okWide_slice ht hv
  obtain ⟨fuel, hf⟩ := h
  rcases open_ints ht he hC hf with ⟨hcs, _⟩ | ⟨x, l, c, zs, hcs, _, hl, hm, hz, _, hcell, hwz⟩
  · simp [Value.cells] at hcs
    obtain ⟨rfl, rfl, rfl⟩ := hcs
    intro n c e
    cases e; rfl
  · simp [Value.cells] at hcs
    obtain ⟨rfl, rfl, rfl⟩ := hcs
    intro n c e
    cases e
/-- a step: Next, or Lay of bytes as a kind -/
def Steps (w : World) (v : Value) (L : List (Bool × Int × List UInt8)) : Prop :=
  ∃ a c, v = .slice a L.length c ∧ L.length ≤ c ∧ c ≤ maxLen ∧ ∀ i (h : i < L.length), ∃ b off s, a = some ⟨b, off, none⟩ ∧ w.cell? ⟨b, off + i * 3, none⟩ = some (.bool L[i].1) ∧ w.cell? ⟨b, off + i * 3 + 1, none⟩ = some (.int .i64 L[i].2.1) ∧ w.cell? ⟨b, off + i * 3 + 2, none⟩ = some s ∧ Bys w s L[i].2.2
theorem steps_open {H : Type} {enc : TypeId × Value → H} {P : Program} {W : World} {r : Reach} {b0 : Nat} {t e u : TypeId} {f0 f1 f2 : Field} {v : Value} {d : DataW H} {p : List MemPlace} (ht : P.underlying t = some (.slice e)) (he : P.underlying e = some (.struct #[f0, f1, f2]))
    (hone : oneCellFields P #[f0, f1, f2] = true) (hC : P.cellsOf e = 3) (h0 : P.underlying f0.type = some .bool) (h1 : P.underlying f1.type = some (.int .i64)) (h2 : P.underlying f2.type = some (.slice u)) (hu : P.underlying u = some (.int .u8)) (hCu : P.cellsOf u = 1)
    (hv : Value.okWide P W r b0 t v) (h : DataW.Trod enc P W 0 (fun _ => true) true t v d p) : ∃ L, Steps W v L := by
  obtain ⟨a, len, cap, rfl⟩ := okWide_slice ht hv
  obtain ⟨fuel, hf⟩ := h
  rcases open_slice ht hf with ⟨hcs, _⟩ | ⟨x, l, c, m, n, D, Pl, hcs, _, hl, hm, hmm, _, hi⟩
  · simp [Value.cells] at hcs
    obtain ⟨rfl, rfl, rfl⟩ := hcs
    exact ⟨[], _, _, rfl, by simp, by unfold maxLen; omega, fun i hi => absurd hi (by simp)⟩
  · simp [Value.cells] at hcs
    obtain ⟨rfl, rfl, rfl⟩ := hcs
    obtain ⟨b, off, spot⟩ := x
    have hml : len ≤ m := by rw [hmm]; simp; omega
    by_cases hlen : len = 0
    · subst hlen
      exact ⟨[], _, _, rfl, by simp, hm, fun i hi => absurd hi (by simp)⟩
    have hspot : spot = none := by
      obtain ⟨cs, hc, htr⟩ := hi 0 (by omega)
      rw [hC] at hc
      obtain ⟨_, hcl, hat⟩ := World.cells?_some hc
      have a0 := hat 0 (by omega)
      rw [List.getElem?_eq_getElem (by omega)] at a0
      simpa [Addr.add] using World.cell?_spot a0
    subst hspot
    have eA : ∀ o n, (⟨b, o, none⟩ : Addr).add n = ⟨b, o + n, none⟩ := by intro o n; unfold Addr.add; split <;> simp_all
    have each : ∀ i : Fin len, ∃ q : Bool × Int × List UInt8, ∃ s, W.cell? ⟨b, off + i.val * 3, none⟩ = some (.bool q.1) ∧ W.cell? ⟨b, off + i.val * 3 + 1, none⟩ = some (.int .i64 q.2.1) ∧ W.cell? ⟨b, off + i.val * 3 + 2, none⟩ = some s ∧ Bys W s q.2.2 := by
      intro i
      obtain ⟨cs, hc, htr⟩ := hi i.val (by have := i.2; omega)
      rw [hC] at hc
      obtain ⟨_, hcl, hat⟩ := World.cells?_some hc
      obtain ⟨y0, y1, y2, n', _, _, t0, t1, t2⟩ := trod_struct3 he htr
      obtain ⟨o0, k0⟩ := hone_of hone 0 f0 rfl
      obtain ⟨o1, k1⟩ := hone_of hone 1 f1 rfl
      obtain ⟨o2, k2⟩ := hone_of hone 2 f2 rfl
      match cs, hcl with
      | [c0, c1, c2], _ =>
        have a0 := hat 0 (by omega)
        have a1 := hat 1 (by omega)
        have a2 := hat 2 (by omega)
        rw [o0, k0] at t0
        rw [o1, k1] at t1
        rw [o2, k2] at t2
        obtain ⟨bq, hbq, _⟩ := DataW.trod_bool (cs := [c0]) h0 (by simpa using t0)
        obtain ⟨z, hz, _, _⟩ := DataW.trod_int (cs := [c1]) h1 (by simpa using t1)
        obtain ⟨q2, hq2⟩ := bytes_trod (v := c2) h2 hu hCu (by simpa using t2)
        simp only [List.cons.injEq, and_true] at hbq hz
        subst hbq hz
        refine ⟨(bq, z, q2), c2, ?_, ?_, ?_, hq2⟩
        · rw [eA, eA] at a0; exact a0
        · rw [eA, eA] at a1; exact a1
        · rw [eA, eA] at a2; exact a2
    refine ⟨List.ofFn fun i => Classical.choose (each i), _, _, by rw [List.length_ofFn], by rw [List.length_ofFn]; exact hl, hm, fun i hi' => ?_⟩
    have hi2 : i < len := by simpa using hi'
    obtain ⟨s, k1, k2, k3, k4⟩ := Classical.choose_spec (each ⟨i, hi2⟩)
    refine ⟨b, off, s, rfl, ?_, ?_, k3, ?_⟩
    · rw [List.getElem_ofFn]; exact k1
    · rw [List.getElem_ofFn]; exact k2
    · rw [List.getElem_ofFn]; exact k4
/-- a step with the slice that holds its bytes -/
abbrev StT := Bool × Int × Option Addr × Nat × List UInt8
def stC (x : StT) : List Value := [.bool x.1, .int .i64 x.2.1, .slice x.2.2.1 x.2.2.2.2.length x.2.2.2.1]
def stD : StT := (false, 0, none, 0, [])
theorem stC_len (x : StT) : (stC x).length = 3 := rfl
theorem flat3 {α : Type} {f : α → List Value} (hf : ∀ x, (f x).length = 3) : ∀ (T : List α) (j : Nat) (x : Value), (T.flatMap f)[j]? = some x → ∃ i, ∃ h : i < T.length, ∃ r, r < 3 ∧ j = i * 3 + r ∧ (f T[i])[r]? = some x
  | [], j, x, h => by simp at h
  | y :: T, j, x, h => by
    rw [List.flatMap_cons, List.getElem?_append] at h
    by_cases hj : j < 3
    · rw [if_pos (by rw [hf]; exact hj)] at h
      exact ⟨0, by simp, j, hj, by omega, by simpa using h⟩
    · rw [if_neg (by rw [hf]; exact hj), hf] at h
      obtain ⟨i, hi, r, hr, e, hx⟩ := flat3 hf T (j - 3) x h
      exact ⟨i + 1, by simpa using hi, r, hr, by omega, by simpa using hx⟩
theorem flat3_len {α : Type} {f : α → List Value} (hf : ∀ x, (f x).length = 3) (T : List α) : (T.flatMap f).length = T.length * 3 := by
  induction T with
  | nil => rfl
  | cons y T ih => rw [List.flatMap_cons, List.length_append, hf, ih, List.length_cons]; omega
theorem steps_sts {w : World} {v : Value} {L : List (Bool × Int × List UInt8)} (h : Steps w v L) : ∃ T : List StT, ∃ a c, v = .slice a T.length c ∧ Sl w v T.length (T.flatMap stC) ∧ ∀ i, i < T.length → Bys w (.slice (T.getD i stD).2.2.1 (T.getD i stD).2.2.2.2.length (T.getD i stD).2.2.2.1) (T.getD i stD).2.2.2.2 := by
  obtain ⟨a, c, rfl, h1, h2, h3⟩ := h
  have each : ∀ i : Fin L.length, ∃ t : StT, ∃ b off, a = some ⟨b, off, none⟩ ∧ (∀ r x, (stC t)[r]? = some x → w.cell? ⟨b, off + (i.val * 3 + r), none⟩ = some x) ∧ Bys w (.slice t.2.2.1 t.2.2.2.2.length t.2.2.2.1) t.2.2.2.2 := by
    intro i
    obtain ⟨b, off, s, ha, c0, c1, c2, hb⟩ := h3 i.val i.2
    obtain ⟨sa, sc, hs⟩ := Sl.slice hb
    subst hs
    refine ⟨(L[i].1, L[i].2.1, sa, sc, L[i].2.2), b, off, ha, fun r x hr => ?_, hb⟩
    match r, hr with
    | 0, hr => simp only [stC, List.getElem?_cons_zero, Option.some.injEq] at hr; rw [← hr]; exact c0
    | 1, hr => simp only [stC, List.getElem?_cons_succ, List.getElem?_cons_zero, Option.some.injEq] at hr; rw [← hr, ← Nat.add_assoc]; exact c1
    | 2, hr => simp only [stC, List.getElem?_cons_succ, List.getElem?_cons_zero, Option.some.injEq] at hr; rw [← hr, ← Nat.add_assoc]; exact c2
    | r + 3, hr => simp [stC] at hr
  refine ⟨List.ofFn fun i => Classical.choose (each i), a, c, by rw [List.length_ofFn], ?_, fun i hi => ?_⟩
  · rw [List.length_ofFn]
    by_cases hz : L.length = 0
    · refine .inl ⟨a, c, by rw [hz], hz, List.eq_nil_of_length_eq_zero ?_⟩
      rw [flat3_len stC_len, List.length_ofFn, hz]
    · obtain ⟨b, off, ha, _⟩ := Classical.choose_spec (each ⟨0, by omega⟩)
      subst ha
      refine .inr ⟨b, off, c, rfl, h1, h2, fun j x hj => ?_⟩
      obtain ⟨i, hi, r, hr, e, hx⟩ := flat3 stC_len _ j x hj
      have hi2 : i < L.length := by simpa using hi
      obtain ⟨b', off', ha', hc, _⟩ := Classical.choose_spec (each ⟨i, hi2⟩)
      simp only [Option.some.injEq, Addr.mk.injEq] at ha'
      obtain ⟨rfl, rfl, _⟩ := ha'
      rw [List.getElem_ofFn] at hx
      rw [e]
      exact hc r x hx
  · have hi2 : i < L.length := by simpa using hi
    obtain ⟨_, _, _, _, hb⟩ := Classical.choose_spec (each ⟨i, hi2⟩)
    have e : (List.ofFn fun i => Classical.choose (each i)).getD i stD = Classical.choose (each ⟨i, hi2⟩) := by
      simp [List.getD, hi2]
    rw [e]; exact hb
end Go.Proofs.YtinegkldgjhnpaaGreatDoor
