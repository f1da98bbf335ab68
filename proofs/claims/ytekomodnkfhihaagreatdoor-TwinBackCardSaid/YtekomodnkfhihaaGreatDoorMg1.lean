/- General words for all walks of this seat: what a call returns while everything that lay there before is unchanged ('Ret'), slices as lists ('Sl', 'Ints'), and one rule for a region that draws its order while its operations read, or call what returns one value ('wp_region_ext'). No program is named here. -/
import Derived.WalkKit
import Derived.WalkSpells
import Derived.WalkLawsBesides
import Derived.Deep.QuietTactic
import Derived.BigQuiet
import Derived.Lib.Hide
import Derived.RangeFuncNested
import Derived.RangeFuncBound
import Derived.RangeFuncCalls
import Derived.RangeFuncLeaves
import Derived.Shelf.Abstract
import Derived.Shelf.RegionOpen
import Derived.OwnWalkIn
import Derived.TacticsInMore
import Derived.LoopNIn
import Derived.LoopIn
import Derived.Test.YtekomodnkfhihaaGreatDoorProg
import Derived.LaidEql
import Derived.Stop.Asserts
import Derived.RowKitTokens
import Derived.Deep.LoopGhost
import Derived.Test.YtekomodnkfhihaaGreatDoorRows
import Derived.ChangeSame
import Derived.ChangeVars
import Derived.JoinedOf
import Derived.RowKit
import Derived.LaidLaws
import Derived.LaidHandle
import Derived.Stop.Joined
import Derived.SevenTiedAt
import Derived.Shelf.Strings.BuilderK
import Derived.Shelf.LaysM
import Derived.Shelf.Strconv.Itoa3
import Derived.Maps.AppendAt
import Derived.Deep.AppendLies
import Derived.Deep.RegionHeld3
import Derived.Deep.MidRow
import Derived.Deep.RegionHeld
import Derived.IntWalk
import Derived.LoopN
import Derived.ProofKit
import Derived.OpenShut
import Derived.ShutString
import Derived.ChangeOld
import Derived.Below
import Derived.Lib.SmallJoins
import Derived.Lib.ItoaNum
import Derived.StillTailTactics
import Derived.Laws.StructEq
import Derived.Defers
import Derived.Recover
import Derived.ArgAppend
import Derived.Deep.Slices
import Derived.Deep.Fields
import Derived.Deep.Strs
namespace Go.Proofs.YtekomodnkfhihaaGreatDoor
set_option maxHeartbeats 8000000
open Prod (fst)
open List (range replicate getD)
set_option maxRecDepth 100000
set_option linter.unusedVariables false
section
open Go.RowKit
abbrev V1:=World
abbrev V2:=Value
abbrev V3:=TypeId
abbrev V4:=Program
abbrev V5:=Ending
abbrev V6.{u}(α:Type u):=List α
abbrev V7:=@if_neg
abbrev V8:=@if_pos
abbrev V9:=@decide_eq_false
abbrev U0:=@decide_eq_true
abbrev U1:=@of_decide_eq_true
abbrev U2:=@of_decide_eq_false
abbrev U3:=@Below.refl
abbrev V0(z:Int):V2:=.int .i64 z
abbrev S1:V2:=.slice none 0 0
abbrev P0(b:Nat):V2:=.pointer (some ⟨b,0,none⟩)
abbrev S3(b:Nat):Option Addr:=some ⟨b,0,none⟩
abbrev Bl:=V6 UInt8
abbrev O0:=Option Addr
abbrev C0:=Calls Tryz.prog
abbrev B3(w:V1):V1→Prop:=Below w.heap.size w
theorem B4(w:V1):Below w.heap.size w w:=U3 _ _
abbrev At:=@Nat.le_refl
abbrev A0:=@Option.some.injEq
abbrev A1:=@List.length_append
abbrev A3:=@List.length_map
abbrev A4:=@List.append_assoc
abbrev A5:=@Nat.zero_le
abbrev A6:=@List.map_append
abbrev A7:=@List.mem_range
abbrev A8:=@World.ownsRow_nil
abbrev A9:=@List.getElem?_eq_getElem
abbrev B5:=@List.take_succ_eq_append_getElem
abbrev B6:=@List.mem_cons
abbrev B7:=@List.length_replicate
abbrev B8:=@List.range_succ
abbrev B9:=@List.take_of_length_le
abbrev C1:=@List.getElem?_range
abbrev C2:=@Value.slice.injEq
abbrev C3:=@List.getElem?_map
abbrev C4:=@List.getElem?_eq_none
abbrev C5:=@List.length_cons
abbrev C6:=@Eq.trans
abbrev C7:=@List.flatMap_append
abbrev C8:=@List.not_mem_nil
abbrev C9:=@Sem.run_bind
abbrev D0:=@List.mem_singleton
abbrev D3:=@Option.map_some
abbrev D4:=@Eq.symm
abbrev D5:=@Nat.lt_of_lt_of_le
abbrev D6:=@List.mem_cons_self
abbrev D7:=@List.map_cons
abbrev D8:=@List.length_take
abbrev D9:=@Prod.mk.injEq
abbrev E0:=@Result.andThen_ok
abbrev E1:=@List.mem_cons_of_mem
abbrev E2:=@Bool.and_eq_true
abbrev E3:=@List.drop_eq_nil_of_le
abbrev E4:=@List.length_nil
abbrev E5:=@Nat.mod_eq_of_lt
abbrev E6:=@BitVec.ofInt_natCast
abbrev E7:=@List.flatMap_cons
abbrev E8:=@List.sum_append
abbrev E9:=@BitVec.toNat_ofNat
abbrev F0:=@Nat.lt_or_ge
abbrev F1:=@Nat.mul_le_mul_right
abbrev F2:=@Nat.add_assoc
abbrev F3:=@List.getElem_mem
abbrev F4:=@List.append_nil
abbrev F5:=@Nat.zero_add
abbrev F6:=@List.ext_getElem
abbrev F7:=@List.nil_append
abbrev F8:=@List.drop_eq_getElem_cons
abbrev F9:=@List.map_congr_left
abbrev Ge:=@List.cons_append
abbrev Gt:=@List.size_toArray
abbrev G0:=@List.getElem?_drop
abbrev G3:=@List.sum_cons
abbrev G4:=@Nat.add_zero
abbrev G5:=@List.getElem?_append_left
abbrev G6:=@Int.toNat_natCast
abbrev G7:=@Nat.mul_one
abbrev G8:=@Nat.add_mul
abbrev G9:=@List.take_append_drop
abbrev H0:=@List.map_nil
abbrev H1:=@List.eq_nil_of_length_eq_zero
abbrev H2:=@List.getElem?_take
abbrev H3:=@List.ext_getElem?
abbrev H4:=@World.putObj_heap_other
abbrev H5:=@Sem.run_pure
abbrev H6:=@Nat.xor_lt_two_pow
abbrev H7:=@List.getElem?_set_ne
abbrev H8:=@Nat.eq_zero_or_pos
abbrev H9:=@Array.replicate_succ
abbrev Id:=@Array.replicate_zero
abbrev If:=@List.mem_append_left
abbrev I0:=@List.all_eq_true
abbrev I1:=@Nat.one_mul
abbrev I2:=@List.append_toArray
abbrev I3:=@List.getElem?_take_of_lt
abbrev I4:=@Nat.min_eq_left
abbrev I5:=@List.cons.injEq
abbrev I6:=@Nat.lt_of_le_of_lt
abbrev I7:=@Array.toArray_toList
abbrev I8:=@List.map_take
abbrev I9:=@List.push_toArray
abbrev K1:=@Nat.eq_of_beq_eq_true
abbrev K2:=@Option.getD_some
abbrev K3:=@Int.natCast_nonneg
abbrev K4:=@World.alloc_heap_new
abbrev K5:=@Bool.or_eq_false_iff
abbrev K6:=@Nat.min_le_left
abbrev K7:=@List.replicate_succ
abbrev K8:=@List.getElem?_set_self
abbrev K9:=@List.flatMap_nil
abbrev Le:=@List.getElem?_toArray
abbrev Lt:=@Nat.div_le_iff_le_mul_add_pred
abbrev L0:=@List.find?_range_eq_some
abbrev L1:=@List.getElem?_replicate
abbrev L3:=@List.length_drop
abbrev L4:=@List.take_length
abbrev L5:=@List.map_map
abbrev L6:=@List.Perm.append_left
abbrev L7:=@List.perm_append_comm
abbrev L8:=@List.getElem?_append_right
abbrev L9:=@List.map_drop
abbrev M1:=@List.mem_of_mem_take
abbrev M2:=@List.map_toArray
abbrev M3:=@Nat.pow_succ
abbrev M4:=@Nat.mul_comm
abbrev M5:=@Nat.le_add_right
abbrev M6:=@World.grownBy_alloc
abbrev M7:=@List.take_left'
abbrev M8:=@List.drop_left'
abbrev M9:=@Nat.and_two_pow_sub_one_eq_mod
abbrev N1:=@Nat.add_sub_cancel
abbrev N3:=@List.find?_eq_none
abbrev N4:=@Nat.div_div_eq_div_mul
abbrev N5:=@Int.le_refl
abbrev N6:=@Nat.succ_mul
abbrev N7:=@Nat.le_of_eq
abbrev N8:=@List.drop_drop
abbrev N9:=@List.sum_nil
abbrev O1:=@List.length_filter_le
abbrev O2:=@List.take_zero
abbrev O3:=@List.getElem?_append
abbrev O4:=@Int.fdiv_eq_ediv_of_nonneg
abbrev O5:=@Array.length_toList
abbrev O6:=@List.getElem_of_mem
abbrev O7:=@List.getD_cons_succ
abbrev O8:=@Nat.div_le_self
abbrev O9:=@List.map_replicate
abbrev P1:=@List.range_add
abbrev P2:=@Bool.and_false
abbrev P3:=@List.flatten_cons
abbrev P4:=@List.sum_replicate_nat
abbrev P5:=@BitVec.toNat_and
abbrev P6:=@List.take_eq_take_iff
abbrev P7:=@Option.map_none
abbrev P8:=@List.take_take
abbrev P9:=@Bool.false_eq_true
abbrev R0:=@Nat.add_comm
theorem Do{p:Prop}(h:p:=by decide):p:=h
theorem Y2{p:Prop}(h:p:=by unfold maxLen;omega):p:=h
theorem Y3{p:Prop}(h:p:=by assumption):p:=h
theorem Y4{p:Prop}(h:p:=by simp[Value.oneCell']):p:=h
theorem Y5{p:Prop}(h:p:=by simp):p:=h
theorem Y6{p:Prop}(h:p:=by rfl):p:=h
theorem Y7{p:Prop}(h:p:=by(unfold Yy;(repeat' split)<;>first|rfl|assumption|decide|omega|exact absurd (C6 (D4 ‹Kl _ _=true›) ‹Kl _ _=false›) Do|(rename_i q;exact absurd ⟨by assumption,by assumption,by assumption⟩ q)|(rename_i q;obtain⟨q1,q2,q3⟩:=q;exact absurd (C6 (D4 q1) ‹Yg _=false›) Do)|(rename_i q;obtain⟨q1,q2,q3⟩:=q;omega))):p:=h
theorem K0{p:Prop}(h:p:=by kernel_rfl):p:=h
theorem M0{p:Prop}(h:p:=by omega):p:=h
theorem N0{a b c:Nat}(h:a≤b)(k:b≤c):a≤c:=Nat.le_trans h k
theorem S4{α:Sort _}{a b:α}(h:a≠b):b≠a:=h.symm
def Ret (v:V2)(w:V1)(e:V5)(w':V1):Prop:=e=.returned v∧B3 w w'
theorem Fh{W w1:V1}(hb:B3 W w1){p:Addr}{v:V2}(h:W.cell? p=some v):w1.cell? p=some v :=
 (hb.cell (World.block_lt_of_cell? W p h)).trans h
theorem ltC{w:V1}{p:Addr}{v:V2}(h:w.cell? p=some v):p.block<w.heap.size:=World.block_lt_of_cell? w p h
theorem ltB{W w1:V1}(hb:B3 W w1){b:Nat}(h:b<W.heap.size):b<w1.heap.size:=D5 h hb.size
theorem getA{w:V1}{p:Addr}{v:V2}(o:Obj)(h:w.cell? p=some v):(w.alloc o).cell? p=some v:=by
 rw[World.cell?_alloc_lt _ _ _ (ltC h)];exact h
theorem blD{B:Nat}{a w:V1}(h:Below B a w)(n:Nat):Below B a (w.drewN n):=⟨h.os,h.tape,h.output,h.size,h.block⟩
theorem bln{a w w':V1}(h:Below a.heap.size a w)(k:B3 w w'):Below a.heap.size a w':=h.trans (k.mono h.size)
theorem blx(w:V1)(o:Obj):B3 w (w.alloc o):=(U3 _ _).alloc (At _) _
def Sl (w:V1)(v:V2)(n:Nat)(xs:V6 V2):Prop :=
 (∃ a c,v=.slice a 0 c∧n=0∧xs=[])∨∃ b off cap,v=.slice (some ⟨b,off,none⟩) n cap∧n≤cap∧cap≤maxLen∧∀ j x,xs[j]? = some x→w.cell? ⟨b,off+j,none⟩=some x
def Ints(w:V1)(v:V2)(l:V6 Int):Prop:=Sl w v l.length (l.map V0)
theorem Sl.i{w w':V1}{v:V2}{n:Nat}{xs:V6 V2}(h:Sl w v n xs)(hb:B3 w w'):Sl w' v n xs:=by
 rcases h with h|⟨b,a1,a0,h1,h2,h3,h4⟩
 ·exact .inl h
 ·exact .inr ⟨b,a1,a0,h1,h2,h3,fun j x hj=>Fh hb (h4 j x hj)⟩
theorem Ints.i{w w':V1}{v:V2}{l:V6 Int}(h:Ints w v l)(hb:B3 w w'):Ints w' v l:=Sl.i h hb
theorem Ints.blk{w:V1}{v:V2}{l:V6 Int}(h:Ints w v l)(hl:l.length≠0){b off n cap:Nat}(hv:v=.slice (some ⟨b,off,none⟩) n cap):b<w.heap.size:=by
 rcases h with ⟨_,_,h1,h2,h3⟩|⟨b',a1,a0,h1,h2,h3,h4⟩
 ·exact absurd h2 hl
 ·rw[hv] at h1;simp only[C2,A0,Addr.mk.injEq] at h1;obtain⟨⟨rfl,rfl,_⟩,_,_⟩:=h1;exact ltC (h4 0 (V0 l[0]) Y5)
theorem Ints.slice{w:V1}{v:V2}{l:V6 Int}(h:Ints w v l):∃ a c,v=.slice a l.length c:=by
 rcases h with ⟨_,_,rfl,h,_⟩|⟨b,a1,a0,rfl,_⟩
 ·rw[h];exact⟨_,_,rfl⟩
 ·exact⟨_,_,rfl⟩
def Kd(R:V1→V2→Prop)(w:V1)(e:V5)(w':V1):Prop:=∃ r,e=.returned r∧B3 w w'∧R w' r
def Cs(l:V6 (Int×Int)):V6 V2:=l.flatMap fun p=>[V0 p.1,V0 p.2]
def Pairs(w:V1)(v:V2)(l:V6 (Int×Int)):Prop:=Sl w v l.length (Cs l)
theorem Tf(l:V6 (Int×Int)):(Cs l).length=l.length*2:=by
 induction l with
 | nil=>rfl
 | cons x l ih=>simp only[Cs,E7,A1] at ih ⊢;rw[ih];simp;omega
theorem Se(l:V6 (Int×Int)):∀ i:Nat,(Cs l)[i*2]? = l[i]?.map fun p=>V0 p.1:=by
 induction l with
 | nil=>intro i;simp[Cs]
 | cons x l ih =>
  intro i;cases i with
  | zero=>simp[Cs]
  | succ i=>have:=ih i;simp only[Cs,E7] at this ⊢;rw[N6];simpa using this
theorem Zi5(l:V6 (Int×Int)):∀ i:Nat,(Cs l)[i*2+1]? = l[i]?.map fun p=>V0 p.2:=by
 induction l with
 | nil=>intro i;simp[Cs]
 | cons x l ih =>
  intro i;cases i with
  | zero=>simp[Cs]
  | succ i =>
   have:=ih i;simp only[Cs,E7] at this ⊢;rw[N6,show i*2+2+1=i*2+1+2 from by omega];simpa using this
theorem Sl.slice{w:V1}{v:V2}{n:Nat}{xs:V6 V2}(h:Sl w v n xs):∃ a c,v=.slice a n c:=by
 rcases h with ⟨_,_,rfl,h,_⟩|⟨b,a1,a0,rfl,_⟩
 ·rw[h];exact⟨_,_,rfl⟩
 ·exact⟨_,_,rfl⟩
theorem Sl.at{w:V1}{a:O0}{n c:Nat}{xs:V6 V2}(h:Sl w (.slice a n c) n xs):xs=[]∨∃ b off,a=some ⟨b,off,none⟩∧∀ j x,xs[j]? = some x→w.cell? ⟨b,off+j,none⟩=some x:=by
 rcases h with ⟨_,_,_,_,h2⟩|⟨b,off,a0,h1,_,_,h4⟩
 ·exact .inl h2
 ·simp only[C2] at h1;exact .inr ⟨b,off,h1.1,h4⟩
theorem Sl.len{w:V1}{v:V2}{n:Nat}{xs:V6 V2}(h:Sl w v n xs):n≤9223372036854775807:=by
 rcases h with ⟨_,_,_,h,_⟩|⟨b,a1,a0,_,h1,h2,_⟩
 ·omega
 ·unfold maxLen at h2;omega
theorem Pairs.at{w:V1}{a:O0}{c:Nat}{l:V6 (Int×Int)}(h:Pairs w (.slice a l.length c) l)(k:Nat)(p:Int×Int)(hk:l[k]? = some p) :
 ∃ b off,a=some ⟨b,off,none⟩∧w.cell? ⟨b,off+k*2,none⟩=some (V0 p.1)∧w.cell? ⟨b,off+k*2+1,none⟩=some (V0 p.2):=by
 rcases Sl.at h with h2|⟨b,off,h1,h2⟩
 ·have:=Se l k;rw[h2,hk] at this;simp at this
 ·exact⟨b,off,h1,h2 _ _ (by rw[Se,hk];rfl),by rw[F2];exact h2 _ _ (by rw[Zi5,hk];rfl)⟩
def Stop(p:Prop):Prop:=p
theorem Stop.go{p:Prop}(h:Stop p):p:=h
theorem Zb{w w':V1}{base:Nat}{e:V3}{size:Nat}{v:V2}{n:Nat}{xs:V6 V2}(h:w.ownsRow base e size v n xs)(hb:B3 w w'):w'.ownsRow base e size v n xs :=
 h.kept (row:=none) ⟨hb.os,hb.tape,hb.output,hb.size,fun k hk _=>hb.block k hk⟩ (by cases v.ownBlock<;>simp)
theorem Zf{w:V1}{base:Nat}{e:V3}{size:Nat}{v:V2}{n:Nat}{xs:V6 V2}(h:w.ownsRow base e size v n xs):Sl w v n xs:=by
 have hx:=h.1;rcases h.2 with ⟨rfl,rfl⟩|⟨g,a0,a1,rfl,_,hg,h2,h3,_,h5⟩
 ·exact .inl ⟨_,_,rfl,rfl,H1 (by simpa using hx)⟩
 ·refine .inr ⟨g,0,a0,rfl,h2,h3,fun j x hj=>?_⟩;have hc:=h.cells (g:=g) rfl j x hj;rw[F5];by_cases h0:j=0
  ·subst h0;simpa [Addr.add] using hc
  ·simpa [Addr.add,h0] using hc
theorem Gr{B:Nat}{w w':V1}{v:V2}{base:Nat}{e:V3}{size n:Nat}{xs:V6 V2}(hg:w.grownBy w' v.ownBlock)(h:w.ownsRow base e size v n xs)(hB:B≤base)(hw:B≤w.heap.size):Below B w w' :=
 (U3 B w).grown hg hw (fun k e=>N0 hB (h.lt k e).1)
def Gw(cs:V6 V2)(n:Nat):V6 V2:=(replicate n cs).flatten
theorem Zo5(cs:V6 V2)(n:Nat):Gw cs (n+1)=Gw cs n++cs:=by simp[Gw,List.replicate_succ']
theorem Sx(cs:V6 V2)(n:Nat):(Gw cs n).length=n*cs.length:=by simp[Gw]
theorem Zo0(cs:V6 V2)(n:Nat):madeCells cs.toArray (n*cs.length)=(Gw cs n).toArray:=by
 have h:((range (n*cs.length)).map fun j=>cs.toArray[j%cs.toArray.size]!)=Gw cs n:=by
  induction n with
  | zero=>simp[Gw]
  | succ n ih =>
   rw[N6,P1,A6,ih,Zo5,L5];congr 1;apply F6
   ·simp
   ·intro i h1 h2;simp[E5 h2,h2]
 rw[←h];apply Array.ext
 ·simp[madeCells]
 ·intro i h1 h2;simp[madeCells]
theorem Zc0{P:V4}{t e:V3}{i:TypeInfo}{z:V2}(cs:V6 V2)(ht:P.underlying t=some (.slice e))(hi:P.info? e=some i)(hz:i.zero=some z)(hc:z.cells=cs.toArray)(hs:i.size=cs.length){k:Nat}(hk:i.bytes=k)
 (n:Nat) (hb:k*n≤281474976710656) (hn:n≤9223372036854775807) (w:V1) :
 (Instr.makeSlice t (V0 (n:Int)) (V0 (n:Int))).run P w=.ok (.slice (some ⟨w.heap.size,0,none⟩) n n) (w.alloc (.cells (Gw cs n).toArray e)):=by
 have a0:(i.bytes:Int)*(n:Int)≤281474976710656:=by
  have h:((i.bytes*n:Nat):Int)≤281474976710656:=by rw[hk];omega
  rwa [Int.natCast_mul] at h
 have hr:=run_make (P:=P) w t e i z ht hi hz .i64 .i64 n n M0 M0 a0 M0
 simp only[G6] at hr
 rw[hr,hc,hs,Zo0]
structure Ext(W:V1) where
 val:V1
 i:Below W.heap.size W val
instance (W:V1):Nonempty (Ext W):=⟨⟨W,U3 _ _⟩⟩
theorem Ext.get{W:V1}(z:Ext W){p:Addr}{v:V2}(h:W.cell? p=some v):z.val.cell? p=some v:=Fh z.i h
theorem Ext.lt{W:V1}(z:Ext W){b:Nat}(h:b<W.heap.size):b<z.val.heap.size:=ltB z.i h
theorem Wf{P:V4}{id:Nat}{Q:Exit→Act→V1→Prop}{a:Act}{w:V1}{l:V6 Oper}(hm:P.follows .mixedOrders=true)(hB:Region.lexB .any l.toArray=true)
 (h:wpQuiet P l.toArray (fun w'=>∃ x:Ext w,w'=x.val) (fun a'=>∀ x:Ext w,Q .normal a' x.val) l a):(Code.region id l.toArray true).wp P Q a w :=
 wp_region_quiet (C:=fun w'=>∃ x:Ext w,w'=x.val) hm hB ⟨⟨_,(U3 _ w).drew⟩,rfl⟩ (by
  have e:(fun a'=>∀ x:Ext w,Q .normal a' x.val)=(fun a'=>∀ w',(∃ x:Ext w,w'=x.val)→Q .normal a' w'):=by
   funext a';apply propext;exact⟨fun h w' ⟨x,hx⟩=>hx▸h x,fun h x=>h _ ⟨x,rfl⟩⟩
  rw[e] at h;simpa using h)
theorem Ret.ext{P:V4}{f:FuncId}{args:Array V2}{w:V1}{v:V2}{x:Ext w}(h:Calls P f args x.val (Ret v x.val)) :
 Calls P f args x.val fun e w''=>e=.returned v∧∃ y:Ext w,w''=y.val :=
 h.mono fun _ w'' ⟨he,hb⟩=>⟨he,⟨w'',x.i.trans (hb.mono x.i.size)⟩,rfl⟩
def Blk (W:V1)(b:Nat)(cs:V6 V2)(t:V3):Prop:=W.heap[b]? = some (.cells cs.toArray t (0,0))
theorem Blk.lt{W:V1}{b:Nat}{cs:V6 V2}{t:V3}(h:Blk W b cs t):b<W.heap.size:=(Array.getElem?_eq_some_iff.1 h).1
theorem Blk.cell{W:V1}{b:Nat}{cs:V6 V2}{t:V3}(h:Blk W b cs t){i:Nat}{v:V2}(hv:cs[i]? = some v):W.cell? ⟨b,i,none⟩=some v:=by
 simp[World.cell?,show W.heap[b]? = _ from h,hv]
theorem Blk.frozen{W:V1}{b:Nat}{cs:V6 V2}{t:V3}(h:Blk W b cs t)(i:Nat):W.frozen? ⟨b,i,none⟩=false:=by
 simp[World.frozen?,show W.heap[b]? = _ from h]
theorem X0(W:V1)(cs:V6 V2)(t:V3):Blk (W.alloc (.cells cs.toArray t)) W.heap.size cs t:=K4 W _
theorem Blk.kept{W W':V1}{row:Option Nat}{b:Nat}{cs:V6 V2}{t:V3}(h:Blk W b cs t)(hg:W.grownBy W' row)(hne:some b≠row):Blk W' b cs t:=(hg.block b h.lt hne).trans h
theorem Blk.alloc{W:V1}{b:Nat}{cs:V6 V2}{t:V3}(h:Blk W b cs t)(o:Obj):Blk (W.alloc o) b cs t:=h.kept (M6 W o none) Y5
theorem Blk.i{W W':V1}{b:Nat}{cs:V6 V2}{t:V3}(h:Blk W b cs t)(hb:B3 W W'):Blk W' b cs t:=(hb.block b h.lt).trans h
theorem Blk.h2{B:Nat}{W W':V1}{b:Nat}{cs:V6 V2}{t:V3}(h:Blk W b cs t)(hb:Below B W W')(hB:b<B):Blk W' b cs t:=(hb.block b hB).trans h
theorem Blk.d9{W:V1}{b:Nat}{cs:V6 V2}{t:V3}(h:Blk W b cs t){p:Addr}(hp:b≠p.block)(u:V2):Blk (W.setCell p u) b cs t :=
 (Below.heap_setCell W p u b hp).trans h
theorem Blk.set{W:V1}{b:Nat}{cs:V6 V2}{t:V3}(h:Blk W b cs t)(i:Nat)(u:V2):Blk (W.setCell ⟨b,i,none⟩ u) b (cs.set i u) t:=by
 obtain⟨a0,hk⟩:=Array.getElem?_eq_some_iff.1 h;show(W.heap.modify b _)[b]? = _;rw[Array.getElem?_eq_getElem (by rw[Array.size_modify];exact a0),Array.getElem_modify_self,hk];simp
theorem Blk.own{β:Type}(b:Nat)(t:V3)(f:β→V6 V2):Own (fun s W=>Blk W b (f s) t):=fun s X Y a1 hs hg a0 =>
 hs.kept hg (fun e'=>by obtain⟨o,ho,hc⟩:=a0 b e'.symm;rw[show X.heap[b]? = _ from hs] at ho;cases ho;cases hc)
theorem Blk.a6{A B:V1}{row:Option Nat}{b:Nat}{cs:V6 V2}{t:V3}(h:Blk A b cs t)(hg:A.grownBy B row)(hr:∀ r,row=some r→∃ o:Obj,A.heap[r]? = some o∧o.isCells=false):Blk B b cs t :=
 h.kept hg (fun e'=>by obtain⟨o,ho,hc⟩:=hr b e'.symm;rw[show A.heap[b]? = _ from h] at ho;cases ho;cases hc)
theorem Blk.put{W:V1}{b l:Nat}{cs:V6 V2}{t:V3}(h:Blk W b cs t){o:Obj}(hl:W.heap[l]? = some o)(ho:o.isCells=false)(o':Obj):Blk (W.putObj l o') b cs t :=
 h.a6 (grownBy_putObj' W l o') (fun r e=>by cases e;exact⟨o,hl,ho⟩)
theorem Ztu{W0 W:V1}(h:B3 W0 W){l:Nat}(hl:W0.heap.size≤l)(hlt:l<W.heap.size)(o':Obj):B3 W0 (W.putObj l o') :=
 h.grown (grownBy_putObj' W l o') h.size (fun k e=>by cases e;exact hl)
theorem Zja{β:Type}{B n:Nat}:OwnFrom B (fun(_:β) W=>n≤W.heap.size):=fun _ _ _ _ h hg _=>N0 h hg.size
structure Keeps(p:Nat→Prop)(W W':V1):Prop where
 size:W.heap.size≤W'.heap.size
 block:∀ b,p b→W'.heap[b]? = W.heap[b]?
theorem Keeps.refl(p:Nat→Prop)(W:V1):Keeps p W W:=⟨At _,fun _ _=>rfl⟩
theorem Keeps.trans{p:Nat→Prop}{A B C:V1}(h:Keeps p A B)(k:Keeps p B C):Keeps p A C:=⟨N0 h.size k.size,fun b hb=>(k.block b hb).trans (h.block b hb)⟩
theorem X4{p:Nat→Prop}{B:Nat}{W W':V1}(h:Below B W W')(hp:∀ b,p b→b<B):Keeps p W W':=⟨h.size,fun b hb=>h.block b (hp b hb)⟩
theorem Keeps.setCell{p:Nat→Prop}{A W:V1}(h:Keeps p A W){a:Addr}(ha:¬ p a.block)(u:V2):Keeps p A (W.setCell a u) :=
 h.trans ⟨by simp[World.setCell],fun b hb=>Below.heap_setCell W a u b (fun e=>ha (e▸hb))⟩
theorem Keeps.cell{p:Nat→Prop}{W W':V1}(h:Keeps p W W'){a:Addr}(hb:p a.block):W'.cell? a=W.cell? a:=World.cell?_of_block (h.block a.block hb)
theorem Oe{p:Nat→Prop}{B:Nat}(hp:∀ b,p b→b<B)(W:V1)(l:Nat)(o o':Obj)(hl:B≤l)(h:W.heap[l]? = some o)(_:o.isCells=false)(_:o.isWalk=false):Keeps p W (W.putObj l o') :=
 ⟨(grownBy_putObj' W l o').size,fun b hb=>H4 (by have:=hp b hb;omega)⟩
theorem Jm{P:V4}{f:FuncId}{fn:Func}{c:Code}{args:Array V2}{w:V1}{R:V5→V1→Prop}(hf:P.funcs[f]? = some fn)(hb:fn.body=some c)
 (h:c.wp P (bodyPostM Fence.wide 4 P fn R) { tmps:=args++Array.replicate (fn.ntmps-args.size) undef,defers:=[] } w):Calls P f args w R :=
 callsIn_wide.1 (callsIn_of_wp_marks hf hb trivial (wpIn_wide.2 h))
theorem Zfr{α:Type}{P:V4}{g:Operand}{ps:Array Tmp}{assign body:Code}{Q:Exit→Act→V1→Prop}{a:Act}{w:V1}{gf:Nat}{lb:Array V2}
  (hg:a.eval g=.func (.func gf) #[] lb) (eg:∀ args w,(callFunc gf args).run P w=.ok (.enter gf args) w) {encs:α→Array V2} {S Sp:V6 α→Prop} {N:Nat} (p:Nat→Prop) (hp:∀ b,p b→b<w.heap.size)
  (hseq:SeqStopsK Fence.wide 3 P gf lb encs (Keeps p) S Sp N w) (hps:∀ x,(encs x).size=ps.size)
  (I:V6 α→V1→Prop) (Ix:Code→V6 α→V1→Prop) (hI:OwnFrom w.heap.size I) (hIx:∀ c,OwnFrom w.heap.size (Ix c)) (h0:I [] w) (Ax:α→Act→V1→Prop) (hAx:∀ x a',OwnFrom w.heap.size (fun(_:Unit) W=>Ax x a' W))
  (hassign:∀ (l:Nat) (pre:V6 α) (x:α) (W:V1) (K:Act→V1→Prop),I pre W→(∀ a' W',KeepsFrom w.heap.size W W'→Keeps p W W'→I pre W'→Ax x a' W'→K a' W') →
   assign.wpIn (Fence.wide.inRound l) 2 P (Exit.then K (fun _ _ _=>False)) { tmps:=(ps.zip (encs x)).foldl (fun t (p,v)=>t.setIfInBounds p v) a.tmps,defers:=[] } W)
  (hbody:∀ (l:Nat) (pre:V6 α) (x:α) (a':Act) (W:V1),w.heap.size≤l→I pre W→Ax x a' W→pre.length<N→body.wpIn (Fence.wide.inRound l) 2 P (ownPostG w.heap.size (Keeps p) I Ix (pre++[x]) W) a' W)
  (hdone:∀ (D:Nat) (xs:V6 α) (W:V1),w.heap.size≤D→S xs→I xs W→W.heap[D]? = some (.deferred (some []))→Q .normal { a with defers:={ target:=.collected D,args:=#[] }::a.defers } W)
  (hstop:∀ (D:Nat) (c:Code) (pre:V6 α) (W:V1),w.heap.size≤D→Sp pre→Ix c pre W→W.heap[D]? = some (.deferred (some []))→c.wp P Q { a with defers:={ target:=.collected D,args:=#[] }::a.defers } W) :
  (Code.rangeFunc g ps assign body).wp P Q a w :=
 (wpIn_wide (n:=4)).1 (wpIn_rangeFunc_ownH (F:=Fence.wide) (n:=4) rfl M0 hg trivial eg hseq (fun h k=>h.trans k) (Oe hp) (U3 _ _) hps I Ix hI hIx h0 Ax hAx hassign
  (fun l pre x a' W hl _ h1 h2 h3=>hbody l pre x a' W hl h1 h2 h3) hdone (fun D c pre W h1 h2 h3 h4=>wpIn_wide.2 (hstop D c pre W h1 h2 h3 h4)))
end
section
open Go.RowKit Go.Extern.Stop Go.Stop Go.Extern
def Kx(w:V1):V6 (Option Int)→Option Int→V2→Prop
 | [],none,v=>v=.nilIface
 | [],some c,v=>v=.iface 33 (V0 c)
 | some b::r,t,v=>∃ blk v',v=.iface 201 (P0 blk)∧Blk w blk [V0 b,v'] 204∧Kx w r t v'
 | none::r,t,v=>False
theorem Kx.kept{w w':V1}(hb:∀ blk cs,Blk w blk cs 204→Blk w' blk cs 204):∀ {l:V6 (Option Int)} {t:Option Int} {v:V2},Kx w l t v→Kx w' l t v
 | [],none,v,h=>h
 | [],some c,v,h=>h
 | some b::r,t,v,⟨blk,v',h1,h2,h4⟩=>⟨blk,v',h1,hb _ _ h2,Kx.kept hb h4⟩
 | none::r,t,v,h=>h.elim
theorem Kx.i{w w':V1}(hb:B3 w w'){l:V6 (Option Int)}{t:Option Int}{v:V2}(h:Kx w l t v):Kx w' l t v:=h.kept fun _ _ k=>k.i hb
def Fp(l:V6 (Option Int))(t:Option Int):Bool:=l.isEmpty&&t.isNone
theorem Kx.a5{w:V1}{l:V6 (Option Int)}{t:Option Int}{v:V2}(h:Kx w l t v):(Fp l t=true∧v=.nilIface)∨(Fp l t=false∧∃ ty x,v=.iface ty x):=by
 match l,t,h with
 | [],none,h=>exact .inl ⟨rfl,h⟩
 | [],some c,h=>exact .inr ⟨rfl,_,_,h⟩
 | some b::r,t,⟨_,_,h,_⟩=>exact .inr ⟨rfl,_,_,h⟩
 | none::r,t,h=>exact h.elim
theorem Zsb{l:V6 (Option Int)}{t:Option Int}(h:Fp l t=true):l=[]∧t=none:=by
 cases l<;>cases t<;>simp_all [Fp]
theorem Tryz.e1(t:Addr)(w:V1):(ReflectliteValue.unpack (.iface 152 (.pointer (some t)))).run Tryz.prog w
 = .ok (.agg #[.pointer (some ⟨4,152,none⟩),.pointer (some ⟨w.heap.size,0,none⟩),.int .u64 150]) (w.alloc (.cells #[.pointer (some t)] 152)):=K0
theorem Tryz.h0 (a : Addr) (w : V1) : (ReflectliteValue.methodAny (ReflectliteValue.valueError "reflectlite.Value.Type" 0) (fun t _ _ _ => ReflectliteType.toType t) #[.agg #[.pointer (some ⟨4, 152, none⟩), .pointer (some a), .int .u64 150]]).run Tryz.prog w
 = .ok (.iface 311 (.agg #[.pointer (some ⟨4,152,none⟩)])) w:=K0
theorem Tryz.h1(w:V1):((ReflectliteType.abiMethod fun t=>(fun a:Nat=>Value.int IntKind.u8 (a:Int)) <$> Rtype.kind t) #[.pointer (some ⟨4,152,none⟩)]).run Tryz.prog w=.ok (.int .u8 22) w:=K0
theorem Tryz.i4(w:V1):((ReflectliteType.abiMethod fun t=>(fun a:Nat=>Value.int IntKind.u8 (a:Int)) <$> Rtype.kind t) #[.pointer (some ⟨4,33,none⟩)]).run Tryz.prog w=.ok (.int .u8 2) w:=K0
theorem as_rlm(z:Sem V2)(f:V3→Addr→Nat→Nat→Sem V2)(v:V2) :
 ReflectliteValue.method z f #[v]=(do match ←ReflectliteValue.parts v with|none=>z|some (t,a,fl)=>f t a fl (fl%32)):=rfl
theorem X8(a:Addr)(w:V1):(ReflectliteValue.parts (.agg #[.pointer (some ⟨4,152,none⟩),.pointer (some a),.int .u64 150])).run Tryz.prog w=.ok (some (152,a,150)) w:=K0
theorem Tryz.f6(a p:Addr)(W:V1)(ha:W.cell? a=some (.pointer (some p))) :
 (ReflectliteValue.method (ReflectliteValue.valueError "reflectlite.Value.IsNil" 0) ReflectliteValue.isNil #[.agg #[.pointer (some ⟨4, 152, none⟩), .pointer (some a), .int .u64 150]]).run Tryz.prog W = .ok (.bool false) W := by
 rw[as_rlm]
 simp only[C9,X8,Result.andThen]
 simp[ReflectliteValue.isNil,loadVar,isAgg,underlying,Tryz.underlying152,ha,Result.andThen]
theorem Tryz.h3(w:V1):(ReflectliteType.method ReflectliteType.elem #[.agg #[.pointer (some ⟨4,152,none⟩)]]).run Tryz.prog w=.ok (.iface 311 (.agg #[.pointer (some ⟨4,33,none⟩)])) w:=K0
theorem Tryz.c5 (w : V1) : (ReflectliteType.relation "Implements" ReflectliteType.implements_ #[.agg #[.pointer (some ⟨4, 33, none⟩)], .iface 311 (.agg #[.pointer (some ⟨4, 39, none⟩)])]).run Tryz.prog w = .ok (.bool true) w := by kernel_rfl
theorem X7(v:V2)(w:V1):(ReflectliteType.typeOf #[.iface 33 v]).run Tryz.prog w=.ok (.iface 311 (.agg #[.pointer (some ⟨4,33,none⟩)])) w:=K0
theorem Tryz.g6(v:V2)(w:V1):(ReflectliteType.typeOf #[.iface 201 v]).run Tryz.prog w=.ok (.iface 311 (.agg #[.pointer (some ⟨4,201,none⟩)])) w:=K0
theorem Tryz.f8 (w : V1) : (ReflectliteType.relation "AssignableTo" ReflectliteType.assignableTo #[.agg #[.pointer (some ⟨4, 33, none⟩)], .iface 311 (.agg #[.pointer (some ⟨4, 33, none⟩)])]).run Tryz.prog w = .ok (.bool true) w := by kernel_rfl
theorem Tryz.g8 (w : V1) : (ReflectliteType.relation "AssignableTo" ReflectliteType.assignableTo #[.agg #[.pointer (some ⟨4, 201, none⟩)], .iface 311 (.agg #[.pointer (some ⟨4, 33, none⟩)])]).run Tryz.prog w = .ok (.bool false) w := by kernel_rfl
theorem Tryz.f1(c:Int)(w:V1):(ReflectliteValue.unpack (.iface 33 (V0 c))).run Tryz.prog w
 = .ok (.agg #[.pointer (some ⟨4,33,none⟩),.pointer (some ⟨w.heap.size,0,none⟩),.int .u64 130]) (w.alloc (.cells #[V0 c] 33)):=K0
theorem Tryz.e5(w:V1):(Rtype.elem? 152).run Tryz.prog w=.ok (some 33) w:=K0
theorem Tryz.j8(p:Addr)(w:V1):(ReflectliteValue.mk 33 p ReflectliteValue.flagAddr).run Tryz.prog w=.ok (.agg #[.pointer (some ⟨4,33,none⟩),.pointer (some p),.int .u64 386]) w:=K0
theorem Tryz.g0(a p:Addr)(W:V1)(ha:W.cell? a=some (.pointer (some p))) :
 (ReflectliteValue.method (ReflectliteValue.valueError "reflectlite.Value.Elem" 0) ReflectliteValue.elem #[.agg #[.pointer (some ⟨4, 152, none⟩), .pointer (some a), .int .u64 150]]).run Tryz.prog W
 = .ok (.agg #[.pointer (some ⟨4,33,none⟩),.pointer (some p),.int .u64 386]) W:=by
 rw[as_rlm]
 simp only[C9,X8,Result.andThen]
 simp[ReflectliteValue.elem,loadVar,isAgg,underlying,Tryz.underlying152,ha,Result.andThen,Tryz.e5,Tryz.j8]
theorem as_rls(v x:V2):ReflectliteValue.set #[v,x]=(do
 let (some (dst,a,fl),some (src,b,_)):=(←ReflectliteValue.parts v,←ReflectliteValue.parts x)
  | unsupported (.noEntry "extern/(internal/reflectlite.Value).Set.zeroValue")
 if fl / ReflectliteValue.flagAddr % 2 == 0 then unsupported (.noEntry "extern/(internal/reflectlite.Value).Set.unaddressable")
 let val ←loadVar src b
 if ←Rtype.directlyAssignable dst src then storeVar dst a val
 else if ←Rtype.implements dst src then
  if(←Rtype.kind src)==20 then
   match val with
   | .nilIface => unsupported (.noEntry "extern/reflectlite: a nil value of one interface type handed on as a value of another")
   | _=>storeVar dst a val
  else storeVar dst a (.iface src val)
 else panicString ("reflectlite.Set: value of type " ++ (← Rtype.spelt src) ++ " is not assignable to type " ++ (← Rtype.spelt dst))
 pure (.tuple #[])):=rfl
theorem Tryz.f9(a:Addr)(w:V1):(ReflectliteValue.parts (.agg #[.pointer (some ⟨4,33,none⟩),.pointer (some a),.int .u64 386])).run Tryz.prog w=.ok (some (33,a,386)) w:=K0
theorem Tryz.h5(a:Addr)(w:V1):(ReflectliteValue.parts (.agg #[.pointer (some ⟨4,33,none⟩),.pointer (some a),.int .u64 130])).run Tryz.prog w=.ok (some (33,a,130)) w:=K0
theorem Tryz.g7(w:V1):(Rtype.directlyAssignable 33 33).run Tryz.prog w=.ok true w:=K0
theorem Tryz.j0(ta b:Addr)(c:Int)(old:V2)(W:V1)(hb:W.cell? b=some (V0 c))(ht:W.cell? ta=some old)(hf:W.frozen? ta=false) :
 (ReflectliteValue.set #[.agg #[.pointer (some ⟨4,33,none⟩),.pointer (some ta),.int .u64 386],.agg #[.pointer (some ⟨4,33,none⟩),.pointer (some b),.int .u64 130]]).run Tryz.prog W
 = .ok (.tuple #[]) (W.setCell ta (V0 c)):=by
 rw[as_rls]
 simp only[C9,Tryz.f9,Tryz.h5,Result.andThen]
 simp[ReflectliteValue.flagAddr,loadVar,isAgg,underlying,Tryz.underlying33,hb,Result.andThen,Tryz.g7,storeVar,Value.cells,storeCells,Addr.add]
 rw[run_store Tryz.prog W ta _ _ Y6]
 simp[ht,hf]
theorem Tryz.i5(v:V2)(xT:V3)(w:V1):(Instr.typeAssert (.iface 201 v) xT 316 true).run Tryz.prog w=.ok (.tuple #[.nilIface,.bool false]) w:=run_typeAssert_lacksB Tryz.underlying316 K0 K0 v xT w
theorem Tryz.c9(v:V2)(xT:V3)(w:V1):(Instr.typeAssert (.iface 201 v) xT 278 true).run Tryz.prog w=.ok (.tuple #[.iface 201 v,.bool true]) w:=run_typeAssert_hasB Tryz.underlying278 K0 v xT w
theorem Tryz.i2(v:V2)(xT:V3)(w:V1):(Instr.typeAssert (.iface 33 v) xT 369 true).run Tryz.prog w=.ok (.tuple #[.nilIface,.bool false]) w:=run_typeAssert_lacksB Tryz.underlying369 K0 K0 v xT w
theorem Tryz.e0(v:V2)(xT:V3)(w:V1):(Instr.typeAssert (.iface 33 v) xT 278 true).run Tryz.prog w=.ok (.tuple #[.nilIface,.bool false]) w:=run_typeAssert_lacksB Tryz.underlying278 K0 K0 v xT w
theorem Tryz.c8(v:V2)(xT:V3)(w:V1):(Instr.typeAssert (.iface 33 v) xT 319 true).run Tryz.prog w=.ok (.tuple #[.nilIface,.bool false]) w:=run_typeAssert_lacksB Tryz.underlying319 K0 K0 v xT w
theorem Tryz.c3 (v : V2) (w : V1) : (Go.method 523 201 v "Unwrap").run Tryz.prog w = .ok (311, v) w := by kernel_rfl
theorem Zfs(blk:Nat)(v':V2)(w:V1)(h:w.cell? ⟨blk,1,none⟩=some v') :
 C0 311 #[P0 blk] w fun e w'=>e=.returned v'∧w'=w:=by
 go_enter Tryz.func311,Tryz.ntmps311
 go_wp2_with fail
 go_ret
 exact⟨rfl,rfl⟩
theorem Tryz.d5 (h : V2) (w : V1) : (Go.method 523 311 (.agg #[h]) "AssignableTo").run Tryz.prog w = .ok (316, .agg #[h]) w := by kernel_rfl
theorem Tryz.e6 (h : V2) (w : V1) : (Go.method 523 311 (.agg #[h]) "Kind").run Tryz.prog w = .ok (304, h) w := by kernel_rfl
theorem Tryz.f0 (h : V2) (w : V1) : (Go.method 523 311 (.agg #[h]) "Elem").run Tryz.prog w = .ok (318, .agg #[h]) w := by kernel_rfl
theorem X5 (h : V2) (w : V1) : (Go.method 523 311 (.agg #[h]) "Implements").run Tryz.prog w = .ok (319, .agg #[h]) w := by kernel_rfl
def refTV(a:Nat):V2:=.agg #[.pointer (some ⟨4,152,none⟩),P0 a,.int .u64 150]
def AsPost(T:Nat)(t:Option Int)(w:V1)(e:V5)(w':V1):Prop :=
 match t with
 | some c=>e=.returned (.bool true)∧∃ w1,B3 w w1∧w'=w1.setCell ⟨T,0,none⟩ (V0 c)
 | none=>e=.returned (.bool false)∧B3 w w'
theorem Zqp(T bV:Nat)(old:Int)(t:Option Int)(l:V6 (Option Int))(v:V2)(w:V1)(hv:Kx w l t v)(hn:Fp l t=false)
 (hT:Blk w T [V0 old] 33) (hV:w.cell? ⟨bV,0,none⟩=some (P0 T)) :
 C0 141 #[v,.iface 152 (P0 T),refTV bV,.iface 311 (.agg #[.pointer (some ⟨4,33,none⟩)])] w (AsPost T t w):=by
 have b2:=@run_callFunc_extern Tryz.prog 138 _ (fun a2=>ReflectliteValue.unpack (a2.getD 0 (.tuple #[]))) Tryz.func138 K0 K0 K0 K0
 have b6:=@run_callFunc_extern Tryz.prog 208 _ ReflectliteType.typeOf Tryz.func208 K0 K0 K0 K0
 have a6 := @run_callFunc_extern Tryz.prog 316 _ (ReflectliteType.relation "AssignableTo" ReflectliteType.assignableTo) Tryz.func316 K0 K0 K0 K0
 have b1 := @run_callFunc_extern Tryz.prog 209 _ (ReflectliteValue.method (ReflectliteValue.valueError "reflectlite.Value.Elem" 0) ReflectliteValue.elem) Tryz.func209 K0 K0 K0 K0
 have b0:=@run_callFunc_extern Tryz.prog 210 _ ReflectliteValue.set Tryz.func210 K0 K0 K0 K0
 have y1:=X7
 have y2:=Tryz.g6
 have y4:=Tryz.f8
 have y5:=Tryz.g8
 have y7:=Tryz.d5
 have y8:=Tryz.f1
 have y9:=Tryz.i5
 have a8:=Tryz.c9
 have a9:=Tryz.c3
 unfold refTV
 go_enter Tryz.func141,Tryz.ntmps141
 go_wp2_with fail
 have kV:=X0 w [.pointer (some ⟨4,152,none⟩),P0 bV,.int .u64 150] 236
 have hB:=blx w (.cells #[.pointer (some ⟨4,152,none⟩),P0 bV,.int .u64 150] 236)
 obtain⟨W,hW⟩:∃ W,w.alloc (.cells #[.pointer (some ⟨4,152,none⟩),P0 bV,.int .u64 150] 236)=W:=⟨_,rfl⟩
 change Blk (w.alloc (.cells #[.pointer (some ⟨4,152,none⟩),P0 bV,.int .u64 150] 236)) _ _ _ at kV
 rw[hW] at kV hB ⊢
 have a4:=hT.i hB
 have a3:=Fh hB hV
 have a5:=hv.i hB
 clear hW hT hV hv
 go_loopg [0] l.length (fun k x wr=>∃ l',l'.length=k∧Kx wr l' t x∧Fp l' t=false∧B3 W wr)
 case atStart=>exact⟨l,rfl,a5,hn,U3 _ _⟩
 case round =>
  obtain⟨l',hk,hx,a1,a0⟩:=hrel
  have kT:=a4.i a0
  have kW:=kV.i a0
  have cV:=Fh a0 a3
  have cT:=kT.cell (i:=0) rfl
  have fT:=kT.frozen 0
  have a7:=kW.cell (i:=0) rfl
  have b4:=kW.cell (i:=1) rfl
  have b3:=kW.cell (i:=2) rfl
  have HK:=Lib.hid hk;clear hk
  match l',hx,a1 with
  | [],hx,a1 =>
   cases t with
   | none=>simp[Fp] at a1
   | some c =>
    obtain rfl:u0=_:=hx
    have z1:=Tryz.g0 ⟨bV,0,none⟩ ⟨T,0,none⟩ wr cV
    have z2:=Tryz.j0 ⟨T,0,none⟩ ⟨wr.heap.size,0,none⟩ c (V0 old) (wr.alloc (.cells #[V0 c] 33)) ((X0 wr [V0 c] 33).cell (i:=0) rfl) (getA _ cT) ((kT.alloc _).frozen 0)
    go_wp2_with fail
    go_ret
    exact⟨rfl,_,bln hB (bln a0 (blx _ _)),rfl⟩
  | some b::r,hx,_ =>
   obtain⟨b5,v',rfl,hk,h3⟩:=hx
   have h1:=hk.cell (i:=0) rfl
   have h2:=hk.cell (i:=1) rfl
   go_wp2_with fail
   refine(Zfs _ _ _ h2).mono ?_
   rintro e w' ⟨rfl,rfl⟩
   rcases h3.a5 with ⟨hz,rfl⟩|⟨hz,ty,x,rfl⟩
   ·obtain⟨rfl,rfl⟩:=Zsb hz
    go_wp2_with fail
    go_ret
    exact⟨rfl,bln hB a0⟩
   ·go_wp2_with fail
    change _=_ at HK
    go_roundg r.length
    case measure=>rw[←HK];simp
    case rel=>exact⟨r,rfl,h3,hz,a0⟩
  | none::r,hx,_=>exact hx.elim
def Zs3(w:V1):Prop:=w.cell? ⟨0,0,none⟩=some (.iface 311 (.agg #[.pointer (some ⟨4,39,none⟩)]))
theorem Zs3.i{w w':V1}(h:Zs3 w)(hb:B3 w w'):Zs3 w':=Fh hb h
def Ztg(l:V6 (Option Int))(t:Option Int):Int:=if Fp l t then 0 else t.getD 18
theorem Zsm(T:Nat)(old:Int)(t:Option Int)(l:V6 (Option Int))(v:V2)(w:V1)(hg:Zs3 w)(hv:Kx w l t v)(hn:Fp l t=false)
 (hT:Blk w T [V0 old] 33) :
 C0 75 #[v,.iface 152 (P0 T)] w (AsPost T t w):=by
 have h1:=@run_callFunc_extern Tryz.prog 138 _ (fun a2=>ReflectliteValue.unpack (a2.getD 0 (.tuple #[]))) Tryz.func138 K0 K0 K0 K0
 have h2 := @run_callFunc_extern Tryz.prog 139 _ (ReflectliteValue.methodAny (ReflectliteValue.valueError "reflectlite.Value.Type" 0) (fun t _ _ _ => ReflectliteType.toType t)) Tryz.func139 K0 K0 K0 K0
 have h3 := @run_callFunc_extern Tryz.prog 140 _ (ReflectliteValue.method (ReflectliteValue.valueError "reflectlite.Value.IsNil" 0) ReflectliteValue.isNil) Tryz.func140 K0 K0 K0 K0
 have h4:=@run_callFunc_extern Tryz.prog 304 _ (ReflectliteType.abiMethod fun t=>do pure (.int .u8 (←Rtype.kind t))) Tryz.func304 K0 K0 K0 K0
 have h5:=@run_callFunc_extern Tryz.prog 318 _ (ReflectliteType.method ReflectliteType.elem) Tryz.func318 K0 K0 K0 K0
 have h6 := @run_callFunc_extern Tryz.prog 319 _ (ReflectliteType.relation "Implements" ReflectliteType.implements_) Tryz.func319 K0 K0 K0 K0
 have f1:=Tryz.e1
 have f2:=Tryz.h0
 have f3:=Tryz.e6
 have f4:=Tryz.f0
 have f5:=X5
 have f6:=Tryz.h1
 have f7:=Tryz.i4
 have f8:=Tryz.h3
 have f9:=Tryz.c5
 have hV:Blk (w.alloc (.cells #[P0 T] 152)) w.heap.size [P0 T] 152:=X0 w _ _
 obtain⟨O,hO⟩:∃ O:Obj,O=.cells #[.pointer (some ⟨4,152,none⟩),.pointer (some ⟨w.heap.size,0,none⟩),.int .u64 150] 236:=⟨_,rfl⟩
 have a1:=(hV.alloc O).cell (i:=0) rfl
 have n8:=Tryz.f6 ⟨w.heap.size,0,none⟩ ⟨T,0,none⟩ ((w.alloc (.cells #[P0 T] 152)).alloc O) a1
 have hB:B3 w ((w.alloc (.cells #[P0 T] 152)).alloc O):=bln (blx _ _) (blx _ _)
 have g2:=hg.i hB
 have a0:=Zqp T w.heap.size old t l v _ (hv.i hB) hn (hT.i hB) a1
 subst hO
 unfold Zs3 at g2
 unfold refTV at a0
 clear hV a1 hg hT
 rcases hv.a5 with ⟨hz,_⟩|⟨_,ty,x,rfl⟩
 ·rw[hz] at hn;exact nomatch hn
 go_enter Tryz.func75,Tryz.ntmps75
 go_wp2_with fail
 refine a0.mono ?_
 intro e w' h
 cases t with
 | some c =>
  obtain⟨rfl,w1,h1,rfl⟩:=h
  go_wp2_with fail
  go_ret
  exact⟨rfl,w1,bln hB h1,rfl⟩
 | none =>
  obtain⟨rfl,h1⟩:=h
  go_wp2_with fail
  go_ret
  exact⟨rfl,bln hB h1⟩
theorem Zps(t:Option Int)(l:V6 (Option Int))(v:V2)(w:V1)(hg:Zs3 w)(hv:Kx w l t v) :
 C0 29 #[v] w (Ret (V0 (Ztg l t)) w):=by
 rcases hv.a5 with ⟨hz,rfl⟩|⟨hz,ty,x,rfl⟩
 ·simp only[Ztg,hz,if_true]
  go_enter Tryz.func29,Tryz.ntmps29
  go_wp2_with fail
  go_ret
  exact⟨rfl,U3 _ _⟩
 simp only[Ztg,hz,P9,if_false]
 have hB:=blx w (.cells #[V0 0] 33)
 have kT:Blk (w.alloc (.cells #[V0 0] 33)) w.heap.size [V0 0] 33:=X0 w _ _
 have a0:=Zsm w.heap.size 0 t l _ _ (hg.i hB) (hv.i hB) hz kT
 clear hg hv
 go_enter Tryz.func29,Tryz.ntmps29
 go_wp2_with fail
 refine a0.mono ?_
 intro e w' h
 cases t with
 | some c =>
  obtain⟨rfl,w1,h1,rfl⟩:=h
  have k2:=((kT.i h1).set 0 (V0 c)).cell (i:=0) rfl
  go_wp2_with fail
  go_ret
  exact⟨rfl,(bln hB h1).setCell (At _) _⟩
 | none =>
  obtain⟨rfl,h1⟩:=h
  go_wp2_with fail
  go_ret
  exact⟨rfl,bln hB h1⟩
def atL (b:Int)(l:V6 (Option Int))(t:Option Int):V6 (Option Int):=if Fp l t then l else some b::l
theorem Vw(b:Int)(t:Option Int)(l:V6 (Option Int))(v:V2)(w:V1)(hv:Kx w l t v) :
 C0 65 #[V0 b,v] w (Kd (fun w' r=>Kx w' (atL b l t) t r) w):=by
 rcases hv.a5 with ⟨hz,rfl⟩|⟨hz,ty,x,rfl⟩
 ·simp only[atL,hz,if_true]
  go_enter Tryz.func65,Tryz.ntmps65
  go_wp2_with fail
  go_ret
  exact⟨_,rfl,U3 _ _,hv⟩
 simp only[atL,hz,P9,if_false]
 go_enter Tryz.func65,Tryz.ntmps65
 go_wp2_with fail
 go_ret
 have k:=X0 w [V0 b,.iface ty x] 204
 exact⟨_,rfl,blx _ _,w.heap.size,_,rfl,k,hv.i (blx _ _)⟩
end
section
open Go.ChangeShapes Go.WideShapes Go.ChangeAt Go.RowKit Go.Joins
theorem ownKnobs:ownKnob Tryz.prog.godebug=none:=K0
theorem laidOuts:laidOutB Tryz.prog=true:=K0
theorem Tryz.et : Tryz.prog.globalNamed "errors.errorType" = some 0 := by kernel_rfl
theorem Tryz.rt : (Tryz.prog.cutTypes.find? (·.1 == "internal/reflectlite.rtype")).map (·.2) = some 311 := by kernel_rfl
theorem Tryz.h4:((range 423).filter fun t=>Tryz.prog.rowNamed t [101,114,114,111,114])=[39]:=K0
theorem Tryz.g9:Tryz.prog.types.size=423:=K0
theorem Zia {W : V1} (h : laidMetH Tryz.prog [("errors.errorType", Rows.laid_errors_errorType)] W) : Zs3 W := by
 have h' : laidMet Tryz.prog [] W ∧ handlesMet Tryz.prog [("errors.errorType", Rows.laid_errors_errorType)] W := h;obtain⟨a0,u,ty,e1,e2,e3,e4,e5⟩:=h'.2 _ (D0.2 rfl);have en:a0=[101,114,114,111,114]:=(Option.some.inj e1).symm;subst en;obtain rfl:=Option.some.inj (Tryz.rt.symm.trans e2);have hm:ty∈(range 423).filter fun t=>Tryz.prog.rowNamed t [101,114,114,111,114]:=List.mem_filter.2 ⟨A7.2 (by rw[←Tryz.g9];exact e3),e4⟩;rw[Tryz.h4] at hm;obtain rfl:=D0.1 hm;have hh:typeHandle Tryz.prog 39=.pointer (some ⟨4,39,none⟩):=K0;rw[hh] at e5;simpa [Zs3] using World.var?_cell Tryz.et e5 0
noncomputable def laidWorld (os:Os):V1 :=
 let w0:=World.holding Tryz.prog os ⟨#[],#[],[]⟩
 { w0 with heap:=w0.heap.modify 0 fun
  | .cells _ t frozen=>.cells #[.iface 311 (.agg #[.pointer (some ⟨4,39,none⟩)])] t frozen
  | o=>o }
end
section
open Go.Shelf
def Dz:Go.Shelf.Ren:=⟨fun|169=>79|n=>n,fun|70=>153|9=>9|0=>0|72=>155|37=>50|127=>245|3=>3|5=>5|n=>n,fun|n=>n⟩
theorem Zpj:Go.Proofs.Lays.n169 Tryz.prog Dz:={
 mixed:=K0
 f169:=Tryz.func79.trans (congrArg some K0)
 t0:=Tryz.underlying0
 a0:=Tryz.isAgg0
 z0:=Tryz.sizeOf0
 v0:=Tryz.zeroValue0
 t3:=Tryz.underlying3
 a3:=Tryz.isAgg3
 z3:=Tryz.sizeOf3
 v3:=Tryz.zeroValue3
 t9:=Tryz.underlying9
 a9:=Tryz.isAgg9
 z9:=Tryz.sizeOf9
 v9:=Tryz.zeroValue9
 t37:=Tryz.underlying50
 a37:=Tryz.isAgg50
 z37:=Tryz.sizeOf50
 v37:=Tryz.zeroValue50
 t70:=Tryz.underlying153
 a70:=Tryz.isAgg153
 z70:=Tryz.sizeOf153
 v70:=Tryz.zeroValue153
 t72:=Tryz.underlying155
 a72:=Tryz.isAgg155
 z72:=Tryz.sizeOf155
 v72:=Tryz.zeroValue155
 t127:=Tryz.underlying245
 a127:=Tryz.isAgg245
 z127:=Tryz.sizeOf245
 v127:=Tryz.zeroValue245 }
theorem Vd:Builder.Extra Tryz.prog Dz:={
 sizeBuilder:=K0
 liesBuilder:=K0
 t5:=Tryz.underlying5
 a5:=Tryz.isAgg5
 z5:=Tryz.sizeOf5
 v5:=Tryz.zeroValue5
 infoByte:=K0
 cellsByte:=K0
 sizeByte:=K0
 neB5:=by decide }
open Go.RowKit in
theorem Mv(B b:Nat)(l:Bl)(w:V1)(h:Lib.IsBuilderF 155 5 B b (Lib.byteCells l) w)(hBw:B≤w.heap.size) :
 C0 79 #[P0 b] w fun e w'=>e=.returned (.string ⟨l.toArray⟩)∧(Lib.IsBuilderF 155 5 B b (Lib.byteCells l) w'∧Below B w w'∧Lib.OthersKept 5 (some b) w w'):=Any.Builder_String_any_k Zpj Vd B b l w h hBw
def Zb3:Go.Shelf.Ren:=⟨fun|171=>77|243=>143|246=>212|283=>255|284=>256|285=>257|286=>258|129=>275|317=>274|318=>276|319=>277|320=>278|337=>288|338=>289|n=>n,fun|3=>3|9=>9|2=>2|4=>4|171=>357|0=>0|53=>341|37=>50|5=>5|173=>360|212=>387|51=>367|20=>20|213=>388|46=>248|232=>396|233=>397|n=>n,fun|17=>1|18=>2|19=>3|n=>n⟩
theorem Zlz:Go.Proofs.LaysM.n171 Tryz.prog Zb3:={
 mixed:=K0
 f129:=Tryz.func275.trans (congrArg some K0)
 f171:=Tryz.func77.trans (congrArg some K0)
 f243:=Tryz.func143.trans (congrArg some K0)
 f246:=Tryz.func212.trans (congrArg some K0)
 f283:=Tryz.func255.trans (congrArg some K0)
 f284:=Tryz.func256.trans (congrArg some K0)
 f285:=Tryz.func257.trans (congrArg some K0)
 f286:=Tryz.func258.trans (congrArg some K0)
 f317:=Tryz.func274.trans (congrArg some K0)
 f318:=Tryz.func276.trans (congrArg some K0)
 f319:=Tryz.func277.trans (congrArg some K0)
 f320:=Tryz.func278.trans (congrArg some K0)
 f337:=Tryz.func288.trans (congrArg some K0)
 f338:=Tryz.func289.trans (congrArg some K0)
 t0:=Tryz.underlying0
 a0:=Tryz.isAgg0
 z0:=Tryz.sizeOf0
 v0:=Tryz.zeroValue0
 t2:=Tryz.underlying2
 a2:=Tryz.isAgg2
 z2:=Tryz.sizeOf2
 v2:=Tryz.zeroValue2
 t3:=Tryz.underlying3
 a3:=Tryz.isAgg3
 z3:=Tryz.sizeOf3
 v3:=Tryz.zeroValue3
 t4:=Tryz.underlying4
 a4:=Tryz.isAgg4
 z4:=Tryz.sizeOf4
 v4:=Tryz.zeroValue4
 t5:=Tryz.underlying5
 a5:=Tryz.isAgg5
 z5:=Tryz.sizeOf5
 v5:=Tryz.zeroValue5
 t9:=Tryz.underlying9
 a9:=Tryz.isAgg9
 z9:=Tryz.sizeOf9
 v9:=Tryz.zeroValue9
 t20:=Tryz.underlying20
 a20:=Tryz.isAgg20
 z20:=Tryz.sizeOf20
 v20:=Tryz.zeroValue20
 t37:=Tryz.underlying50
 a37:=Tryz.isAgg50
 z37:=Tryz.sizeOf50
 v37:=Tryz.zeroValue50
 t46:=Tryz.underlying248
 a46:=Tryz.isAgg248
 z46:=Tryz.sizeOf248
 v46:=Tryz.zeroValue248
 t51:=Tryz.underlying367
 a51:=Tryz.isAgg367
 z51:=Tryz.sizeOf367
 v51:=Tryz.zeroValue367
 t53:=Tryz.underlying341
 a53:=Tryz.isAgg341
 z53:=Tryz.sizeOf341
 v53:=Tryz.zeroValue341
 t171:=Tryz.underlying357
 a171:=Tryz.isAgg357
 z171:=Tryz.sizeOf357
 v171:=Tryz.zeroValue357
 t173:=Tryz.underlying360
 a173:=Tryz.isAgg360
 z173:=Tryz.sizeOf360
 v173:=Tryz.zeroValue360
 t212:=Tryz.underlying387
 a212:=Tryz.isAgg387
 z212:=Tryz.sizeOf387
 v212:=Tryz.zeroValue387
 t213:=Tryz.underlying388
 a213:=Tryz.isAgg388
 z213:=Tryz.sizeOf388
 t232:=Tryz.underlying396
 a232:=Tryz.isAgg396
 z232:=Tryz.sizeOf396
 v232:=Tryz.zeroValue396
 t233:=Tryz.underlying397
 a233:=Tryz.isAgg397
 z233:=Tryz.sizeOf397
 v233:=Tryz.zeroValue397
 g17:=K0
 g18:=K0
 g19:=K0
 i0:=K0
 i2:=K0
 i3:=K0
 i4:=K0
 i5:=K0
 i9:=K0
 i20:=K0
 i37:=K0
 i46:=K0
 i51:=K0
 i53:=K0
 i171:=K0
 i173:=K0
 i212:=K0
 i232:=K0
 i233:=K0
 m17:=K0
 m18:=K0
 m19:=by kernel_rfl }
open Go.RowKit Go.Sort Go.Lib in
theorem Oj (n : Int) (h0 : -9223372036854775808 ≤ n) (h1 : n ≤ 9223372036854775807) (w : V1) (htab : Lib.TabIs Tryz.prog w "internal/strconv.uint64pow10" .u64 Lib.pow10Tab) :
 C0 77 #[V0 n] w fun e w'=>e=.returned (.string ⟨(Lib.itoa n).toArray⟩)∧∃ k os,w'=grow (w.drewN k) os:=Any.strconv_Itoa Zlz n h0 h1 w htab
end
section
open Go.RowKit
theorem Zqj{P:V4}(w:V1)(base:Nat)(t ty e:V3)(i:TypeInfo)(z:V2)(size bytes:Nat)(ht:P.underlying t=some (.slice e))(hi:P.info? e=some i)(hz:i.zero=some z)
 (hsize:i.size=size) (hby:i.bytes=bytes) (hzs:z.cells.size=size) (hsz:0<size) (v:V2) (n:Nat) (xs:V6 V2) (hown:w.ownsRow base e size v n xs)
 (x:V2) (m:Nat) (news:V6 V2) (hx:Sl w x m news) (hl:news.length=m*size) (h1:∀ u∈news,u.oneCell'=true)
 (h63:n+m≤maxLen) (hbytes:(n+m)*bytes≤140737488355328) (hbase:base≤w.heap.size) :
 ∃ v' w',(Builtin.append_ #[t,t] ty #[v,x]).run P w=.ok v' w'∧w'.ownsRow base e size v' (n+m) (xs++news)∧w.grownBy w' v.ownBlock:=by
 have a0:∀ (a:Addr) (c:Nat),x=.slice (some a) m c→(∀ j u,news[j]? = some u→w.cell? (a.add j)=some u) →
   ∃ v' w',(Builtin.append_ #[t,t] ty #[v,x]).run P w=.ok v' w'∧w'.ownsRow base e size v' (n+m) (xs++news)∧w.grownBy w' v.ownBlock:=by
  rintro a c rfl hc
  obtain⟨v',w',h2,h3,h4,_⟩:=run_append_own_at (P:=P) w base t ty e i z size bytes ht hi hz hsize hby hzs hsz v n xs hown a m c news hl hc h1 h63 hbytes hbase
  exact⟨v',w',h2,h3,h4⟩
 rcases hx with ⟨a,c,rfl,rfl,rfl⟩|⟨b,a5,a1,rfl,a4,a2,hc⟩
 ·cases a with
  | some a=>exact a0 a c rfl (fun j u hu=>by simp at hu)
  | none =>
   refine⟨v,w,?_,by simpa using hown,World.grownBy.refl w _⟩
   rcases hown.2 with ⟨rfl,rfl⟩|⟨g,a1,a6,rfl,_,_,a3,_⟩
   ·simp[Builtin.append_,run_underlying ht,sizeOf,typeInfo,hi,Builtin.lenOf,Builtin.firstCells]
   ·simp[Builtin.append_,run_underlying ht,sizeOf,typeInfo,hi,Builtin.lenOf,Builtin.firstCells,a3,storeCells]
 ·refine a0 ⟨b,a5,none⟩ a1 rfl (fun j u hu=>?_)
  have:=hc j u hu
  by_cases h0:j=0
  ·subst h0;simpa [Addr.add] using this
  ·simpa [Addr.add,h0] using this
theorem Zy7{P:V4}{w:V1}{o:Oper}{a:Act}{K:Act→V1→Prop}{Q:Exit→Act→V1→Prop}(s x:Operand)(t:V3)
  (ho:o.op=.call { callee:=.builtin .append,args:=#[s,x],argTypes:=#[t,t] }) (base:Nat) (e:V3) (i:TypeInfo) (z:V2) (size bytes:Nat) (ht:P.underlying t=some (.slice e)) (hi:P.info? e=some i)
  (hz:i.zero=some z) (hsize:i.size=size) (hby:i.bytes=bytes) (hzs:z.cells.size=size) (hsz:0<size) (v:V2) (n:Nat) (xs:V6 V2) (hs:a.eval s=v) (hown:w.ownsRow base e size v n xs)
  (u:V2) (m:Nat) (news:V6 V2) (hu:a.eval x=u) (hx:Sl w u m news) (hl:news.length=m*size) (h1:∀ u∈news,u.oneCell'=true)
  (h63:n+m≤maxLen) (hbytes:(n+m)*bytes≤140737488355328) (hbase:base≤w.heap.size)
  (h:∀ v' w',w'.ownsRow base e size v' (n+m) (xs++news)→w.grownBy w' v.ownBlock→Below base w w'→K (a.put o.dst v') w'):o.wp P a w K Q:=by
 obtain⟨v',w',a0,h2,h3⟩:=Zqj (P:=P) w base t o.type e i z size bytes ht hi hz hsize hby hzs hsz v n xs hown u m news hx hl h1 h63 hbytes hbase
 unfold Oper.wp execOp
 simp only[ho,resolve,invoke,builtin,C9,H5,E0,M2,D7,H0,hs,hu,a0]
 exact h v' w' h2 h3 (Gr h3 hown (At _) hbase)
section
def Mz(P:V4){α:Type}:Sem α→Option α
 | .pure a=>some a
 | .program k=>Mz P (k P)
 | _=>none
theorem Wr{P:V4}{α:Type}:∀ {s:Sem α} {a:α},Mz P s=some a→∀ w,s.run P w=.ok a w
 | .pure a,b,h,w=>by simp only[Mz,A0] at h;subst h;rfl
 | .program k,b,h,w=>by simp only[Mz] at h;exact Wr (s:=k P) h w
def Ap(P:V4)(ops:Array Oper)(a:Act)(o:Oper):Option Act :=
 match Region.wanted o (yielded ops a.tmps) with
 | true=>match Mz P (execOp a.eval o) with
  | some (.value v)=>some (a.put o.dst v)
  | _=>none
 | false=>some (a.put o.dst undef)
theorem Bg{P:V4}{ops:Array Oper}{a a':Act}{o:Oper}(h:Ap P ops a o=some a'):∃ v,a'=a.put o.dst v∧∀ S:V1→Prop,YieldsIf P ops S o v a:=by
 unfold Ap at h;split at h
 ·rename_i hw;split at h
  ·rename_i v hv;simp only[A0] at h;exact⟨v,h.symm,fun S=>.inl ⟨hw,fun w _=>Wr hv w⟩⟩
  ·cases h
 ·rename_i hw;simp only[A0] at h;exact⟨undef,h.symm,fun S=>.inr ⟨hw,rfl⟩⟩
def Zdv(P:V4)(ops:Array Oper):V6 Oper→Act→Option Act
 | [],a=>some a
 | o::r,a=>match Ap P ops a o with
  | some a'=>Zdv P ops r a'
  | none=>none
section
variable {P:V4} {ops:Array Oper} {Q:Exit→Act→V1→Prop} {a a':Act} {w:V1} {K:Act→V1→Prop}
theorem Lw{o:Oper}{rest:V6 Oper}{v:V2}(hy:YieldsIf P ops (fun _=>True) o v a)(k:wpList P ops Q rest (a.put o.dst v) w):wpList P ops Q (o::rest) a w:=by
 unfold wpList;rcases hy with ⟨hw,hv⟩|⟨hw,rfl⟩
 ·simp only[hw,if_true];exact .inl (by simp only[Oper.wp,hv w trivial,Oper.upon];exact k)
 ·simp only[hw,P9,if_false];exact k
theorem Tx:∀ (l:V6 Oper) {rest:V6 Oper} {a a':Act},Zdv P ops l a=some a'→wpList P ops Q rest a' w→wpList P ops Q (l++rest) a w
 | [],_,_,_,h,k=>by simp only[Zdv,A0] at h;subst h;exact k
 | o::r,rest,a,a',h,k=>by
  simp only[Zdv] at h;split at h
  ·rename_i a1 h1;obtain⟨v,rfl,hy⟩:=Bg h1;exact Lw (hy _) (Tx r h k)
  ·cases h
theorem g_pure{l:V6 Oper}(n:Nat)(a':Act)(h:Zdv P ops (l.take n) a=some a')(k:wpList P ops Q (l.drop n) a' w):wpList P ops Q l a w:=by
 have:=Tx (P:=P) (ops:=ops) (Q:=Q) (w:=w) (l.take n) h k;rwa [G9] at this
theorem Jh{o:Oper}{rest:V6 Oper}(hw:Region.wanted o (yielded ops a.tmps)=true)(h:o.wp P a w (wpList P ops Q rest) Q):wpList P ops Q (o::rest) a w:=by
 unfold wpList;simp only[hw,if_true];exact .inl h
theorem Zzm{c:Code}(a':Act)(h:a=a')(k:c.wp P Q a' w):c.wp P Q a w:=h▸k
theorem g_nfr(a':Act)(h:a=a')(k:Q .normal a' w):Q .normal a w:=h▸k
theorem Uw{o:Oper}{v:V2}{w':V1}(hv:(execOp a.eval o).run P w=.ok (.value v) w')(k:K (a.put o.dst v) w'):o.wp P a w K Q:=by
 simp only[Oper.wp,hv,Oper.upon];exact k
theorem op_pure{o:Oper}(v:V2)(hv:Mz P (execOp a.eval o)=some (.value v))(k:K (a.put o.dst v) w):o.wp P a w K Q:=Uw (Wr hv w) k
def aggB(P:V4)(t:V3):Option Bool:=(P.underlying t).map fun d=>match d with|.struct _|.array _ _=>true|_=>false
theorem Zzq{t:V3}{b:Bool}(h:aggB P t=some b)(w:V1):(isAgg t).run P w=.ok b w:=by
 unfold aggB at h;cases hu:P.underlying t with
 | none=>rw[hu] at h;cases h
 | some d =>
  rw[hu] at h;unfold isAgg;rw[C9,run_underlying hu w];cases d<;>simp_all
theorem Zad{t:V3}{p:Addr}{v:V2}(hag:aggB P t=some false)(hc:w.cell? p=some v):(Instr.loadAt t (.pointer (some p))).run P w=.ok v w:=by
 simp[Instr.loadAt,Instr.sureAddr,loadVar,C9,Zzq hag w,load,Sem.run,hc]
theorem Qd{o:Oper}{t:V3}{x:Operand}(p:Addr)(v:V2)(ho:o.op=.load t x)(hx:a.eval x=.pointer (some p))(hag:aggB P t=some false)(hc:w.cell? p=some v)
 (k:K (a.put o.dst v) w):o.wp P a w K Q :=
 Uw (by simp only[execOp,ho,hx,C9,Zad hag hc];rfl) k
theorem Blk.part{b:Nat}{cs:V6 V2}{t:V3}(h:Blk w b cs t)(off n:Nat)(hn:off+n≤cs.length):w.rangeAt b off ((cs.drop off).take n):=fun j v hj=>h.cell (by
 have a0:j<n:=by have:=(List.getElem?_eq_some_iff.1 hj).1;simp at this;omega
 rw[I3 a0,G0] at hj;exact hj)
theorem Blk.b0{w:V1}{b:Nat}{cs:V6 V2}{t:V3}(h:Blk w b cs t):w.rangeAt b 0 cs:=fun j v hj=>by rw[F5];exact h.cell hj
theorem Ay{o:Oper}{t:V3}{x:Operand}{b off:Nat}(cs:V6 V2)(d:TypeDesc)(ho:o.op=.load t x)(hx:a.eval x=.pointer (some ⟨b,off,none⟩))(hu:P.underlying t=some d)(hd:d.isRow=true)
 (hi:(P.info? t).map (·.size)=some cs.length) (hc:w.rangeAt b off cs) (k:K (a.put o.dst (.agg cs.toArray)) w):o.wp P a w K Q:=wp_load_mid t x ho b off hx cs d hc hu hd hi k
structure New(w:V1)(b:Nat)(cs:V6 V2)(t:V3)(W:V1):Prop where
 at_:b=w.heap.size
 i:Below w.heap.size w W
 blk:Blk W b cs t
 size:W.heap.size=w.heap.size+1
theorem X9(w:V1)(cs:V6 V2)(t:V3):New w w.heap.size cs t (w.alloc (.cells cs.toArray t)):=⟨rfl,blx _ _,X0 _ _ _,Y5⟩
theorem New.ne{b b':Nat}{cs cs':V6 V2}{t t':V3}{w W:V1}(h:New w b cs t W)(k:Blk w b' cs' t'):b'≠b:=by have:=k.lt;have:=h.at_;omega
theorem New.ge{b:Nat}{cs:V6 V2}{t:V3}{w W A:V1}(h:New w b cs t W)(k:Below A.heap.size A w):A.heap.size≤b:=by have:=k.size;have:=h.at_;omega
theorem New.lt{b:Nat}{cs:V6 V2}{t:V3}{W:V1}(h:New w b cs t W):b<W.heap.size:=h.blk.lt
structure Upd(w:V1)(b:Nat)(W:V1):Prop where
 os:W.os=w.os
 tape:W.tape=w.tape
 output:W.output=w.output
 size:W.heap.size=w.heap.size
 block:∀ k,k≠b→W.heap[k]? = w.heap[k]?
theorem Upd.setCell(w:V1)(b i:Nat)(v:V2):Upd w b (w.setCell ⟨b,i,none⟩ v):=⟨rfl,rfl,rfl,by simp[World.setCell],fun k hk=>Below.heap_setCell w _ v k hk⟩
theorem Upd.trans{w1 w2:V1}{b:Nat}(h:Upd w b w1)(k:Upd w1 b w2):Upd w b w2 :=
 ⟨k.os.trans h.os,k.tape.trans h.tape,k.output.trans h.output,k.size.trans h.size,fun i hi=>(k.block i hi).trans (h.block i hi)⟩
theorem Upd.i{A W:V1}{b B:Nat}(h:Upd w b W)(hB:Below B A w)(hb:B≤b):Below B A W :=
 hB.trans ⟨h.os,h.tape,h.output,N7 h.size.symm,fun k hk=>h.block k M0⟩
theorem Upd.blk{W:V1}{b b':Nat}{cs:V6 V2}{t:V3}(h:Upd w b W)(k:Blk w b' cs t)(hne:b'≠b):Blk W b' cs t:=(h.block b' hne).trans k
theorem Upd.own{W:V1}{b base:Nat}{e:V3}{size:Nat}{v:V2}{n:Nat}{xs:V6 V2}(h:Upd w b W)(k:w.ownsRow base e size v n xs)(hb:b<base):W.ownsRow base e size v n xs:=by
 obtain⟨h1,h2⟩:=k;refine⟨h1,?_⟩;rcases h2 with h2|⟨g,a0,a1,hv,hg,hh,r⟩
 ·exact Or.inl h2
 ·exact Or.inr ⟨g,a0,a1,hv,hg,by rw[h.block g M0];exact hh,r⟩
theorem Kk{o:Oper}{t:V3}{x y:Operand}{b off:Nat}{cs:V6 V2}{tb:V3}{v:V2}(ho:o.op=.store t x y)(hx:a.eval x=.pointer (some ⟨b,off,none⟩))(hy:a.eval y=v)
 (hi:(P.info? t).map (·.size)=some 1) (h1:v.oneCell'=true) (hk:Blk w b cs tb) (hoff:off<cs.length)
 (k:∀ W,Upd w b W→Blk W b (cs.set off v) tb→K (a.put o.dst undef) W):o.wp P a w K Q:=by
 have hc:=hk.cell (A9 hoff)
 have hf:=hk.frozen off
 have a0:(Instr.storeAt t (.pointer (some ⟨b,off,none⟩)) v).run P w=.ok () (w.setCell ⟨b,off,none⟩ v):=by
  cases hq:P.info? t with
  | none=>simp[hq] at hi
  | some i =>
   have hs:i.size=1:=(by simpa [hq] using hi);cases v<;>simp_all [Instr.storeAt,Instr.sureAddr,storeVar,C9,sizeOf,typeInfo,Value.cells,storeCells,store,Sem.run,Value.oneCell',Addr.add]
 have h2:(execOp a.eval o).run P w=.ok .skip (w.setCell ⟨b,off,none⟩ v):=by
  simp only[execOp,ho,hx,hy,C9,a0];rfl
 simp only[Oper.wp,h2,Oper.upon]
 exact k _ (Upd.setCell _ _ _ _) (hk.set off v)
theorem Blk.setCells{b:Nat}{cs:V6 V2}{t:V3}:∀ (vs:V6 V2) (o:Nat) {w:V1} {cs:V6 V2},Blk w b cs t→o+vs.length≤cs.length→Blk (w.setCells b o vs) b (cs.take o++vs++cs.drop (o+vs.length)) t∧Upd w b (w.setCells b o vs)
 | [],o,w,cs,h,hl=>by
  refine⟨?_,rfl,rfl,rfl,rfl,fun _ _=>rfl⟩;simp only[World.setCells];simpa using h
 | v::r,o,w,cs,h,hl=>by
  rw[World.setCells];have a0:=h.set o v;obtain⟨h1,h2⟩:=Blk.setCells (cs:=cs) r (o+1) a0 (by simp at hl ⊢;omega);refine⟨?_,(Upd.setCell _ _ _ _).trans h2⟩;have e:(cs.set o v).take (o+1)++r++(cs.set o v).drop (o+1+r.length)=cs.take o++(v::r)++cs.drop (o+(v::r).length):=by
   have ho:o<cs.length:=(by simp at hl;omega);have h1:(cs.take o).length=o:=(by simp;omega);have h2:cs.set o v=(cs.take o++[v])++cs.drop (o+1):=(by rw[List.set_eq_take_append_cons_drop,V8 ho];simp);have h3:(cs.take o++[v]).length=o+1:=(by simp;omega);rw[h2,M7 h3,←N8,M8 h3,N8];simp[R0,Nat.add_left_comm]
  rwa [e] at h1
theorem Ny{o:Oper}{t:V3}{x y:Operand}{b off:Nat}{cs:V6 V2}{tb:V3}(vs:V6 V2)(ho:o.op=.store t x y)(hx:a.eval x=.pointer (some ⟨b,off,none⟩))(hy:a.eval y=.agg vs.toArray)
 (hi:(P.info? t).map (·.size)=some vs.length) (h1:∀ v∈vs,v.oneCell'=true) (hk:Blk w b cs tb) (hoff:off+vs.length≤cs.length)
 (k:∀ W,Upd w b W→Blk W b (cs.take off++vs++cs.drop (off+vs.length)) tb→K (a.put o.dst undef) W):o.wp P a w K Q :=
 wp_store_mid t x y ho b off vs.toArray hx hy (fun j hj=>⟨by rw[hk.cell (A9 (by simp at hj;omega))];rfl,hk.frozen _⟩) (by simpa using hi) (all_oneCell_toArray h1)
  (k _ (Blk.setCells (cs:=cs) vs off hk hoff).2 (Blk.setCells (cs:=cs) vs off hk hoff).1)
def Zt3(P:V4)(t:V3):Option (V6 V2):=((P.info? t).bind (·.zero)).map fun v=>v.cells.toList
theorem Jw{o:Oper}{t:V3}(cs:V6 V2)(ho:o.op=.alloc t)(hz:Zt3 P t=some cs)(k:∀ b W,New w b cs t W→K (a.put o.dst (P0 b)) W):o.wp P a w K Q:=by
 unfold Zt3 at hz;cases hi:P.info? t with
 | none=>simp[hi] at hz
 | some i =>
  cases hq:i.zero with
  | none=>simp[hi,hq] at hz
  | some v =>
   simp only[hi,hq,Option.bind_some,D3,A0] at hz;have hv:v.cells=cs.toArray:=(by rw[←hz]);exact Uw (w':=w.alloc (.cells cs.toArray t)) (by simp[execOp,ho,Instr.alloc,C9,zeroValue,typeInfo,program,hi,hq,newVar,newRow,newObj,Sem.run,hv]) (k _ _ (X9 w cs t))
theorem Zc5{o:Oper}{t:V3}{x:Operand}(cs:V6 V2)(ho:o.op=.box t x)(hx:(a.eval x).cells=cs.toArray)(k:∀ b W,New w b cs t W→K (a.put o.dst (P0 b)) W):o.wp P a w K Q :=
 Uw (w':=w.alloc (.cells cs.toArray t)) (by simp[execOp,ho,Instr.box,newVar,newRow,newObj,Sem.run,hx]) (k _ _ (X9 w cs t))
def built(P:V4)(t:V3)(len:Nat)(parts:V6 (Nat×V2)):Option (V3×V6 V2) :=
  match P.underlying t with
  | some (.slice e)=>match P.info? e with
    | some i=>match i.zero with
      | some z=>if len*i.size>2 ^ 24 then none else if len*i.size=0 then none else(Instr.fill (fun j=>some (j*i.size,i.size)) ((Array.range (len*i.size)).map (z.cells[·%z.cells.size]!)) parts).map fun c=>(e,c.toList)
      | none=>none
    | none=>none
  | _=>none
theorem Yl{o:Oper}{t:V3}{n:Nat}{parts:Array (Nat×Operand)}(e:V3)(cs:V6 V2)(ho:o.op=.buildSlice t n parts)(hb:built P t n (parts.toList.map fun p=>(p.1,a.eval p.2))=some (e,cs))
 (k:∀ b W,New w b cs e W→K (a.put o.dst (.slice (S3 b) n n)) W):o.wp P a w K Q:=by
  unfold built at hb;split at hb
  · rename_i e' hu;split at hb
    · rename_i i hi;split at hb
      · rename_i z hz;split at hb
        · cases hb
        · split at hb
          · cases hb
          · rename_i h1 h2;cases hf:Instr.fill (fun j=>some (j*i.size,i.size)) ((Array.range (n*i.size)).map (z.cells[·%z.cells.size]!)) (parts.toList.map fun p=>(p.1,a.eval p.2)) with
            | none=>rw[hf] at hb;cases hb
            | some c =>
              rw[hf] at hb;simp only[D3,A0,D9] at hb;obtain⟨rfl,hc⟩:=hb;have a2:c=cs.toArray:=(by rw[←hc]);subst a2;exact Uw (w':=w.alloc (.cells cs.toArray e')) (by
                simp[execOp,ho,Instr.buildSlice,C9,run_underlying hu,sizeOf,typeInfo,hi,zeroValue,hz,h1,h2];have a1:Instr.fill (fun a0=>some (a0*i.size,i.size)) (Array.map (fun x=>z.cells[x%z.cells.size]!) (Array.range (n*i.size))) (List.map (fun x=>(x.fst,a.eval x.snd)) parts.toList)=some cs.toArray:=hf;rw[a1];simp[newRow,newObj,Sem.run]) (k _ _ (X9 w cs e'))
      · cases hb
    · cases hb
  · cases hb
theorem Zcu{o:Oper}{t e:V3}(ho:o.op=.buildSlice t 0 #[])(hu:P.underlying t=some (.slice e))(hi:(P.info? e).isSome=true)
 (k:∀ b W,New w b [] e W→K (a.put o.dst (.slice (S3 b) 0 0)) W):o.wp P a w K Q:=by
 obtain⟨i,hi⟩:=Option.isSome_iff_exists.1 hi
 exact Uw (w':=w.alloc (.cells #[] e)) (by simp[execOp,ho,Instr.buildSlice,run_underlying hu,sizeOf,typeInfo,hi,Instr.fill,newRow,newObj,Sem.run,Array.range_zero']) (k _ _ (X9 w [] e))
theorem Ks{o:Oper}{c:Operand}{ops:Array Operand}{ts:Array V3}{lb:Array V2}(f:FuncId)(args:Array V2)(ho:o.op=.call { callee:=.value c,args:=ops,argTypes:=ts })(hc:a.eval c=.func (.func f) #[] lb)
 (hf:∀ xs w,(callFunc f xs).run P w=.ok (.enter f xs) w) (has:ops.map a.eval++lb=args) (h:Calls P f args w fun e w'=>∃ v,e=.returned v∧K (a.put o.dst v) w'):o.wp P a w K Q:=by
 have h2:(execOp a.eval o).run P w=.ok (.enter f args) w:=by
  simp only[execOp,ho,resolve,hc,Deferred.ofValue,C9,H5,E0,invoke];rw[←has,←hf];simp
 simp only[Oper.wp,h2,Oper.upon]
 exact h.mono fun e w' ⟨v,he,hk⟩=>by subst he;exact hk
end
section
variable {P:V4} {Q:Exit→Act→V1→Prop} {a:Act} {w:V1} {K:Act→V1→Prop}
theorem Zyq{o:Oper}(k:IntKind)(n m:Int)(hv:Mz P (execOp a.eval o)=some (.value (.int k (k.wrap n))))(hm:k.wrap n=m)(h:K (a.put o.dst (.int k m)) w):o.wp P a w K Q :=
 op_pure (.int k m) (by rw[hv,hm]) h
theorem Ru{o:Oper}{t e:V3}{x y:Operand}{b off len k:Nat}{i:Int}{ki:IntKind}(size off':Nat)(ho:o.op=.indexAddr t x y)(hx:a.eval x=.pointer (some ⟨b,off,none⟩))(hy:a.eval y=.int ki i)(hi:i=(k:Int))(hk:k<len)(hoff:off+k*size=off')
 (ht:P.underlying t=some (.array len e)) (hs:(P.info? e).map (·.size)=some size) (w:V1):(execOp a.eval o).run P w=.ok (.value (.pointer (some ⟨b,off',none⟩))) w:=by
 cases hq:P.info? e with
 | none=>simp[hq] at hs
 | some j =>
  have hj:j.size=size:=by simpa [hq] using hs
  subst hi hoff
  simp[execOp,ho,hx,hy,Instr.indexAt,Instr.sureAddr,asIntOf,run_underlying ht,sizeOf,typeInfo,hq,hj,hk,Addr.add_mid]
theorem Ht{o:Oper}{t e:V3}{x y:Operand}(n:Nat)(z:V2)(size bytes:Nat)(cs:V6 V2)(ho:o.op=.makeSlice t x y)(hx:a.eval x=V0 (n:Int))(hy:a.eval y=V0 (n:Int))(ht:P.underlying t=some (.slice e))
 (hi:(P.info? e).map (fun i=>(i.zero,i.size,i.bytes))=some (some z,size,bytes)) (hzs:z.cells.size=size) (hb:bytes*n≤281474976710656) (hn:n≤9223372036854775807) (hcs:Gw z.cells.toList n=cs)
 (h:∀ b W,New w b cs e W→K (a.put o.dst (.slice (S3 b) n n)) W):o.wp P a w K Q:=by
 cases hq:P.info? e with
 | none=>simp[hq] at hi
 | some i =>
  simp only[hq,D3,A0,D9] at hi
  have hr:=Zc0 (P:=P) (t:=t) (e:=e) z.cells.toList ht hq hi.1 Y5 (by rw[hi.2.1,←hzs];simp) hi.2.2 n hb hn w
  subst hcs
  refine Uw (w':=w.alloc (.cells (Gw z.cells.toList n).toArray e)) ?_ (h _ _ (X9 w _ e))
  simp only[execOp,ho,hx,hy,C9,hr]
  rfl
theorem Di{o:Oper}{t e:V3}{x y:Operand}{b off n k c:Nat}{i:Int}{ki:IntKind}(size:Nat)(ho:o.op=.slice t x (some y) none none)(hx:a.eval x=.slice (some ⟨b,off,none⟩) n c)(hy:a.eval y=.int ki i)(hi:i=(k:Int))(hk:k≤n)(hc:k<c)
 (ht:P.underlying t=some (.slice e)) (hs:(P.info? e).map (·.size)=some size) (w:V1):(execOp a.eval o).run P w=.ok (.value (.slice (some ⟨b,off+k*size,none⟩) (n-k) (c-k))) w:=by
 cases hq:P.info? e with
 | none=>simp[hq] at hs
 | some j =>
  have hj:j.size=size:=by simpa [hq] using hs
  subst hi
  have h3:¬ c=k:=M0
  simp[execOp,ho,hx,hy,Instr.sliceAt,Instr.slice,Instr.sliceBounds,Instr.sliceBound,asIntOf,run_underlying ht,sizeOf,typeInfo,hq,hj,hk,Addr.add_mid,h3]
theorem Ka{o:Oper}{t e:V3}{x y:Operand}{b:O0}{n k c:Nat}{i:Int}{ki:IntKind}(ho:o.op=.slice t x none (some y) none)(hx:a.eval x=.slice b n c)(hy:a.eval y=.int ki i)(hi:i=(k:Int))(hk:k≤c)
 (ht:P.underlying t=some (.slice e)) (hs:(P.info? e).isSome=true) (w:V1):(execOp a.eval o).run P w=.ok (.value (.slice b k c)) w:=by
 obtain⟨j,hq⟩:=Option.isSome_iff_exists.1 hs
 subst hi
 have h1:(0:Int)≤(k:Int):=M0
 have h2:(k:Int)≤(c:Int):=M0
 by_cases h3:c=0
 ·obtain rfl:k=0:=M0
  subst h3
  simp[execOp,ho,hx,hy,Instr.sliceAt,Instr.slice,Instr.sliceBounds,Instr.sliceBound,asIntOf,run_underlying ht,sizeOf,typeInfo,hq]
 ·simp[execOp,ho,hx,hy,Instr.sliceAt,Instr.slice,Instr.sliceBounds,Instr.sliceBound,asIntOf,run_underlying ht,sizeOf,typeInfo,hq,hk,h3]
  cases b<;>simp[Addr.add]
theorem Ct{o:Oper}{d x:Operand}{dT sT e:V3}{base g off n cap dLen dCap:Nat}{u:V2}{xs:V6 V2}(m:Nat)(news xs':V6 V2)(ho:o.op=.call { callee:=.builtin .copy,args:=#[d,x],argTypes:=#[dT,sT] })(hu:P.underlying dT=some (.slice e))(hsz:(P.info? e).map (·.size)=some 1)
 (hd:a.eval d=.slice (some ⟨g,off,none⟩) dLen dCap) (hs:a.eval x=u) (hx:Sl w u m news) (hown:w.ownsRow base e 1 (.slice (S3 g) n cap) n xs) (hml:news.length=m) (hm:m≤dLen) (hfit:off+m≤n) (h1:∀ u∈news,u.oneCell'=true)
 (hbase:base≤w.heap.size) (hxs:xs.take off++news++xs.drop (off+m)=xs')
 (h:∀ W,W.ownsRow base e 1 (.slice (S3 g) n cap) n xs'→w.grownBy W (Value.slice (S3 g) n cap).ownBlock→Below base w W→K (a.put o.dst (V0 (m:Int))) W):o.wp P a w K Q:=by
 obtain⟨hl,hr⟩:=hown
 rcases hr with ⟨hv,_⟩|⟨g2,b1,a0,hv,a6,hh,a7,b0,a4,a8⟩
 ·cases hv
 simp only[C2,A0,Addr.mk.injEq] at hv
 obtain⟨⟨rfl,_,_⟩,_,rfl⟩:=hv
 obtain⟨sp,sc,rfl⟩:=hx.slice
 have a5:news.length=Nat.min m dLen:=by rw[hml];exact(I4 hm).symm
 have a3:a0.toList.length=cap:=by simpa using a4
 have a9:∀ W,W.heap[g]? = some (.cells (a0.toList.take off++news++a0.toList.drop (off+news.length)).toArray e (0,0))→w.grownBy W (some g)→K (a.put o.dst (V0 (m:Int))) W:=by
  intro W hW hg;refine h W ⟨?_,.inr ⟨g,cap,_,rfl,a6,hW,a7,b0,?_,?_⟩⟩ hg (Gr (v:=.slice (S3 g) n cap) hg ⟨hl,.inr ⟨g,cap,a0,rfl,a6,hh,a7,b0,a4,a8⟩⟩ (At _) hbase)
  ·rw[←hxs];simp;omega
  ·simp only[Gt,A1,D8,L3,a3,G7];omega
  ·have hA:(a0.toList.take off++news).length=off+m:=(by simp only[A1,D8,a3,hml];omega);rw[←hxs,←a8,hml];simp only[G7];rw[List.take_append,B9 (by rw[hA];omega),hA,P8,I4 (by omega:off≤n),List.drop_take]
 by_cases h0:m=0
 ·subst h0
  obtain rfl:news=[]:=H1 hml
  have a1:=run_copy_none (P:=P) w dT sT o.type e (some ⟨g,off,none⟩) sp dLen dCap 0 sc hu hsz Y5
  have h2:(execOp a.eval o).run P w=.ok (.value (V0 0)) w:=by
   simp[execOp,ho,resolve,invoke,builtin,hd,hs,a1,Result.andThen,goInt]
  refine Uw h2 (a9 w ?_ (World.grownBy.refl w _))
  rw[hh];simp
 ·rcases Sl.at hx with hn|⟨sb,so,rfl,a2⟩
  ·rw[hn] at hml;exact absurd hml.symm h0
  have a1:=run_copy_row (P:=P) w dT sT o.type e g off dLen dCap ⟨sb,so,none⟩ m sc a0 e news hu hsz hh a5 (fun j v hj=>by rw[Addr.add_mid];exact a2 j v hj) (by rw[hml,a4];omega) h1
  have h2:(execOp a.eval o).run P w=.ok (.value (V0 (m:Int))) (w.setRow g (a0.toList.take off++news++a0.toList.drop (off+news.length)).toArray):=by
   simp[execOp,ho,resolve,invoke,builtin,hd,hs,a1,Result.andThen,goInt,hml]
  refine Uw h2 (a9 _ (setRow_heap w g _ _ e _ hh) ⟨rfl,rfl,rfl,Y5,fun k _ hk=>setRow_other w g k _ (fun e=>hk (by rw[e]))⟩)
def Zx(a:O0)(j:Nat):Addr:=(a.getD ⟨0,0,none⟩).add j
theorem Zdi{o:Oper}{t e:V3}{x y:Operand}{b:O0}{n k c size:Nat}{i:Int}{ki:IntKind}(ho:o.op=.indexAddr t x y)(hx:a.eval x=.slice b n c)(hy:a.eval y=.int ki i)(hi:i=(k:Int))(hk:k<n)(hb:b.isSome=true)
 (ht:P.underlying t=some (.slice e)) (hs:(P.info? e).map (·.size)=some size) (w:V1):(execOp a.eval o).run P w=.ok (.value (.pointer (some (Zx b (k*size))))) w:=by
 obtain⟨b,rfl⟩:=Option.isSome_iff_exists.1 hb
 cases hq:P.info? e with
 | none=>simp[hq] at hs
 | some j =>
  have hj:j.size=size:=by simpa [hq] using hs
  subst hi
  simp[execOp,ho,hx,hy,Instr.indexAt,asIntOf,run_underlying ht,sizeOf,typeInfo,hq,hj,hk,Zx]
theorem Xd{o:Oper}{s x:Operand}{t e:V3}{base:Nat}{v:V2}{n:Nat}{xs:V6 V2}{u:V2}{m:Nat}{news:V6 V2}(z:V2)(size bytes n':Nat)(xs':V6 V2)(ho:o.op=.call { callee:=.builtin .append,args:=#[s,x],argTypes:=#[t,t] })
 (ht:P.underlying t=some (.slice e)) (hi:(P.info? e).map (fun i=>(i.zero,i.size,i.bytes))=some (some z,size,bytes)) (hzs:z.cells.size=size) (hsz:0<size) (hs:a.eval s=v) (hown:w.ownsRow base e size v n xs) (hu:a.eval x=u) (hx:Sl w u m news)
 (hl:news.length=m*size) (h1:∀ u∈news,u.oneCell'=true) (h63:n+m≤maxLen) (hbytes:(n+m)*bytes≤140737488355328) (hbase:base≤w.heap.size) (hn:n+m=n') (hxs:xs++news=xs')
 (h:∀ b c W,W.ownsRow base e size (.slice b n' c) n' xs'→w.grownBy W v.ownBlock→Below base w W→K (a.put o.dst (.slice b n' c)) W):o.wp P a w K Q:=by
 cases hq:P.info? e with
 | none=>simp[hq] at hi
 | some i =>
  simp only[hq,D3,A0,D9] at hi
  refine Zy7 s x t ho base e i z size bytes ht hq hi.1 hi.2.1 hi.2.2 hzs hsz v n xs hs hown u m news hu hx hl h1 h63 hbytes hbase fun v' W h2 h3 h4=>?_
  subst hn hxs
  obtain⟨b,c,rfl⟩:=(Zf h2).slice
  exact h b c W h2 h3 h4
end
theorem Blk.grown{w w':V1}{b:Nat}{cs:V6 V2}{t e:V3}{base size n:Nat}{v:V2}{xs:V6 V2}(k:Blk w b cs t)(hg:w.grownBy w' v.ownBlock)(hown:w.ownsRow base e size v n xs)(hne:e≠t):Blk w' b cs t:=by
 refine k.kept hg fun hb=>?_;rcases hown.2 with ⟨rfl,_⟩|⟨g,a0,a1,rfl,_,hh,_⟩
 ·cases hb
 ·simp only[Value.ownBlock,A0] at hb;subst hb;have h1:w.heap[b]? = some (.cells cs.toArray t (0,0)):=k;rw[hh] at h1;simp only[A0,Obj.cells.injEq] at h1;exact hne h1.2.1
theorem Upd.j{w W:V1}{b base:Nat}{e t:V3}{size:Nat}{v:V2}{n:Nat}{xs cs:V6 V2}(h:Upd w b W)(k:w.ownsRow base e size v n xs)(hk:Blk w b cs t)(hne:e≠t):W.ownsRow base e size v n xs:=by
 obtain⟨h1,h2⟩:=k;refine⟨h1,?_⟩;rcases h2 with h2|⟨g,a0,a1,hv,hg,hh,r⟩
 ·exact Or.inl h2
 ·refine Or.inr ⟨g,a0,a1,hv,hg,?_,r⟩;rw[h.block g]
  ·exact hh
  ·rintro rfl;have h1:w.heap[g]? = some (.cells cs.toArray t (0,0)):=hk;rw[hh] at h1;simp only[A0,Obj.cells.injEq] at h1;exact hne h1.2.1
theorem Blk.sl{w:V1}{b:Nat}{cs:V6 V2}{t:V3}(h:Blk w b cs t)(n c:Nat)(hn:n≤c)(hc:c≤maxLen):Sl w (.slice (S3 b) n c) n cs :=
 .inr ⟨b,0,c,rfl,hn,hc,fun j x hj=>by rw[F5];exact h.cell hj⟩
theorem _root_.Go.Proofs.YtekomodnkfhihaaGreatDoor.Sl.elem{w:V1}{b:O0}{n c:Nat}{xs:V6 V2}(h:Sl w (.slice b n c) n xs){j:Nat}{x:V2}(hj:xs[j]? = some x):b.isSome=true∧w.cell? (Zx b j)=some x:=by
 rcases Sl.at h with rfl|⟨g,a0,rfl,hc⟩
 ·cases hj
 ·exact⟨rfl,by simpa [Zx,Addr.add_mid] using hc j x hj⟩
theorem _root_.Go.Proofs.YtekomodnkfhihaaGreatDoor.Ints.elem{w:V1}{b:O0}{c:Nat}{l:V6 Int}(h:Ints w (.slice b l.length c) l){k:Nat}(hk:k<l.length):b.isSome=true∧w.cell? (Zx b (k*1))=some (V0 (l.getD k 0)):=by
 refine Sl.elem h ?_;rw[G7,C3,A9 hk];simp[getD,A9 hk]
def Zd(T:V6 V3)(w w':V1):Prop:=∀ (k:Nat) (cs:Array V2) (t:V3) (fr:Nat×Nat),w.heap[k]? = some (Obj.cells cs t fr)→T.contains t=false→w'.heap[k]? = some (Obj.cells cs t fr)
theorem Zd.refl(T:V6 V3)(w:V1):Zd T w w:=fun _ _ _ _ h _=>h
theorem Zd.trans{T:V6 V3}{a b c:V1}(h:Zd T a b)(k:Zd T b c):Zd T a c:=fun i cs t fr hi ht=>k i cs t fr (h i cs t fr hi ht) ht
theorem Q0{T:V6 V3}{w W:V1}(h:B3 w W):Zd T w W:=fun k cs t fr hk _=>by
 rw[h.block k (Array.getElem?_eq_some_iff.1 hk).1];exact hk
theorem Q1{T:V6 V3}{w W:V1}{b:Nat}{cs:V6 V2}{t:V3}(h:Upd w b W)(k:Blk w b cs t)(ht:T.contains t=true):Zd T w W:=fun i a0 t' fr hi h2=>by
 rw[h.block i]
 ·exact hi
 ·rintro rfl;have h1:w.heap[i]? = some (.cells cs.toArray t (0,0)):=k;rw[hi] at h1;simp only[A0,Obj.cells.injEq] at h1;rw[h1.2.1,ht] at h2;cases h2
theorem Q4{T:V6 V3}{w W:V1}{base size n:Nat}{e:V3}{v:V2}{xs:V6 V2}(hg:w.grownBy W v.ownBlock)(hown:w.ownsRow base e size v n xs)(ht:T.contains e=true):Zd T w W:=fun i cs t fr hi h2=>by
 rw[hg.block i (Array.getElem?_eq_some_iff.1 hi).1]
 ·exact hi
 ·intro hb;rcases hown.2 with ⟨rfl,_⟩|⟨g,a0,a1,rfl,_,hh,_⟩
  ·cases hb
  ·simp only[Value.ownBlock,A0] at hb;subst hb;rw[hi] at hh;simp only[A0,Obj.cells.injEq] at hh;rw[hh.2.1,ht] at h2;cases h2
theorem Blk.q{T:V6 V3}{w W:V1}{b:Nat}{cs:V6 V2}{t:V3}(k:Blk w b cs t)(h:Zd T w W)(ht:T.contains t=false):Blk W b cs t:=h b _ _ _ k ht
theorem Zt{w w':V1}{base size n:Nat}{e:V3}{v:V2}{xs:V6 V2}{base2 size2 n2:Nat}{e2:V3}{v2:V2}{xs2:V6 V2}(k:w.ownsRow base e size v n xs)(hg:w.grownBy w' v2.ownBlock)(hown:w.ownsRow base2 e2 size2 v2 n2 xs2)(hne:e2≠e):w'.ownsRow base e size v n xs:=by
 obtain⟨h1,h2⟩:=k;refine⟨h1,?_⟩;rcases h2 with h2|⟨g,a3,a4,hv,a1,hh,r⟩
 ·exact Or.inl h2
 ·refine Or.inr ⟨g,a3,a4,hv,a1,?_,r⟩;rw[hg.block g (Array.getElem?_eq_some_iff.1 hh).1]
  ·exact hh
  ·intro hb;rcases hown.2 with ⟨rfl,_⟩|⟨g2,a2,a5,rfl,_,a0,_⟩
   ·cases hb
   ·simp only[Value.ownBlock,A0] at hb;subst hb;rw[hh] at a0;simp only[A0,Obj.cells.injEq] at a0;exact hne a0.2.1.symm
theorem Zg{w:V1}{base base' size n:Nat}{e:V3}{v:V2}{xs:V6 V2}(k:w.ownsRow base' e size v n xs)(h:base≤base'):w.ownsRow base e size v n xs:=by
 obtain⟨h1,h2⟩:=k;refine⟨h1,?_⟩;rcases h2 with h2|⟨g,a0,a1,hv,hg,r⟩
 ·exact Or.inl h2
 ·exact Or.inr ⟨g,a0,a1,hv,N0 h hg,r⟩
theorem Zi{T:V6 V3}{w W:V1}{base size n:Nat}{e:V3}{v:V2}{xs:V6 V2}(k:w.ownsRow base e size v n xs)(h:Zd T w W)(ht:T.contains e=false):W.ownsRow base e size v n xs:=by
 obtain⟨h1,h2⟩:=k;refine⟨h1,?_⟩;rcases h2 with h2|⟨g,a0,a1,hv,hg,hh,r⟩
 ·exact Or.inl h2
 ·exact Or.inr ⟨g,a0,a1,hv,hg,h g _ _ _ hh ht,r⟩
theorem blB{B:Nat}{a w w':V1}(h:Below B a w)(hs:B≤a.heap.size)(k:B3 w w'):Below B a w':=h.trans (k.mono (N0 hs h.size))
def Sts {α:Type}(f:α→V6 V2)(w:V1)(v:V2)(l:V6 α):Prop:=Sl w v l.length (l.flatMap f)
theorem Sts.i{α:Type}{f:α→V6 V2}{w w':V1}{v:V2}{l:V6 α}(h:Sts f w v l)(hb:B3 w w'):Sts f w' v l:=Sl.i h hb
theorem Fq{α:Type}{f:α→V6 V2}{m:Nat}(hm:∀ x,(f x).length=m):∀ (l:V6 α) (k i:Nat) (d:α),k<l.length→i<m→(l.flatMap f)[k*m+i]? = (f (l.getD k d))[i]?
 | [],k,i,d,hk,_=>by simp at hk
 | x::l,0,i,d,_,hi=>by
  rw[E7,Nat.zero_mul,F5,G5 (by rw[hm];exact hi)];rfl
 | x::l,k+1,i,d,hk,hi=>by
  rw[E7,L8 (by rw[hm,N6];omega),hm,show(k+1)*m+i-m=k*m+i by rw[N6];omega];simpa using Fq hm l k i d (by simpa using hk) hi
theorem Zbi{α:Type}{f:α→V6 V2}{m:Nat}(hm:∀ x,(f x).length=m)(l:V6 α):(l.flatMap f).length=l.length*m:=by
 induction l with
 | nil=>simp
 | cons x l ih=>rw[E7,A1,hm,ih,C5,N6];omega
theorem Sts.cell{α:Type}{f:α→V6 V2}{m:Nat}{w:V1}{b:O0}{c:Nat}{l:V6 α}(h:Sts f w (.slice b l.length c) l)(hm:∀ x,(f x).length=m)(d:α){k i:Nat}{v:V2}(hk:k<l.length)(hi:(f (l.getD k d))[i]? = some v):b.isSome=true∧w.cell? ((Zx b (k*m)).add i)=some v:=by
 have a2:i<m:=by have:=(List.getElem?_eq_some_iff.1 hi).1;rwa [hm] at this
 have hc:=Fq hm l k i d hk a2;rw[hi] at hc;rcases Sl.at h with a1|⟨g,og,rfl,a0⟩
 ·rw[a1] at hc;cases hc
 ·refine⟨rfl,?_⟩;have:=a0 _ _ hc;simpa [Zx,Addr.add_mid,F2] using this
theorem Sts.at{α:Type}{f:α→V6 V2}{m:Nat}{w:V1}{b:O0}{c:Nat}{l:V6 α}(h:Sts f w (.slice b l.length c) l)(hm:∀ x,(f x).length=m)(hm0:0<m)(hl:0<l.length):∃ g o,b=some ⟨g,o,none⟩:=by
 rcases Sl.at h with a0|⟨g,og,rfl,a1⟩
 ·have:=Zbi hm l;rw[a0] at this;have:=Nat.mul_pos hl hm0;simp at *;omega
 ·exact⟨g,og,rfl⟩
theorem Zd3{P:V4}{α:Type}{f:α→V6 V2}{m:Nat}{a:Act}{o:Oper}{w:V1}{t:V3}{x:Operand}{b:O0}{c k:Nat}{l:V6 α}(hm:∀ x,(f x).length=m)(dflt:α)(d:TypeDesc)(ho:o.op=.load t x)(hx:a.eval x=.pointer (some (Zx b (k*m))))(h:Sts f w (.slice b l.length c) l)(hk:k<l.length)(hm0:0<m)
 (hu:P.underlying t=some d) (hd:d.isRow=true) (hi:(P.info? t).map (·.size)=some m):(execOp a.eval o).run P w=.ok (.value (.agg (f (l.getD k dflt)).toArray)) w:=by
 have a0:=hm (l.getD k dflt)
 obtain⟨g,og,rfl⟩:=h.at hm hm0 M0
 have hr:=run_loadVar_mid (P:=P) w g (og+k*m) t (f (l.getD k dflt)) d (fun j v hj=>by
  have:=(h.cell hm dflt hk hj).2;simpa [Zx,Addr.add_mid] using this) hu hd (by rw[a0];exact hi)
 have a1:a.eval x=.pointer (some ⟨g,og+k*m,none⟩):=by rw[hx];simp[Zx,Addr.add_mid]
 simp only[execOp,ho,a1,Instr.loadAt,Instr.sureAddr,C9,H5,E0,hr]
theorem Vn{a b:Int}(h:(a==b)=false):a≠b:=by simpa using h
theorem Cc{a b:Int}(h:(a != b)=true):a≠b:=by simpa using h
theorem Vg{a b:Int}(h:(a != b)=false):a=b:=by simpa using h
def Zdj(P:V4)(md:Region.Mode)(ops:Array Oper):V6 Nat→Array Bool→Act→Option (Array Bool×Act)
 | [],L,a=>some (L,a)
 | i::r,L,a=>match ops[i]? with
  | none=>none
  | some o=>match Region.free md ops L i&&(Region.ready md ops L).contains i with
   | true=>match Ap P ops a o with
    | some a'=>Zdj P md ops r (L.setIfInBounds i true) a'
    | none=>none
   | false=>none
section
variable {P:V4} {ops:Array Oper} {Q:Exit→Act→V1→Prop} {a a':Act} {w:V1} {S:V1→Prop} {md:Region.Mode} {L L':Array Bool} {am:Nat}
theorem Zhr(hQ:∀ c a (d:Tmp) v w,Q (.panic c) (a.put (some d) v) w→Q (.panic c) a w)(d:Option Tmp)(v:V2):∀ c a w,Q (.panic c) (a.put d v) w→Q (.panic c) a w:=fun c a w h=>by
 cases d with
 | none=>exact h
 | some d=>exact hQ c a d v w h
theorem Ti(hs:Region.noSelect ops=true)(hQ:∀ c a (d:Tmp) v w,Q (.panic c) (a.put (some d) v) w→Q (.panic c) a w)(hS:S w):∀ (is:V6 Nat) {am:Nat} {L L':Array Bool} {a a':Act},Zdj P md ops is L a=some (L',a')→wpAnyH P md ops Q S am L' a' w→wpAnyH P md ops Q S (am+is.length) L a w
 | [],am,L,L',a,a',h,k=>by simp only[Zdj,A0,D9] at h;obtain⟨rfl,rfl⟩:=h;exact k
 | i::r,am,L,L',a,a',h,k=>by
  simp only[Zdj] at h;split at h
  ·cases h
  ·rename_i o ho;split at h
   ·rename_i a0;simp only[E2] at a0;split at h
    ·rename_i a1 h1;obtain⟨v,rfl,hy⟩:=Bg h1;exact wpAnyH_take ho hs a0.1 a0.2 (Zhr hQ _ _) (hy S) hS (Ti hs hQ hS r h k)
    ·cases h
   ·cases h
theorem h_pure(is:V6 Nat)(am:Nat){f0:Nat}(hf:f0=am+is.length)(L':Array Bool)(a':Act)(hs:Region.noSelect ops=true)(hQ:∀ c a (d:Tmp) v w,Q (.panic c) (a.put (some d) v) w→Q (.panic c) a w)(h:Zdj P md ops is L a=some (L',a'))(hS:S w)
 (k:wpAnyH P md ops Q S am L' a' w):wpAnyH P md ops Q S f0 L a w:=hf▸Ti hs hQ hS is h k
theorem h_val{o:Oper}(i am:Nat){f0:Nat}(hf:f0=am+1)(v:V2)(ho:ops[i]? = some o)(hs:Region.noSelect ops=true)(hfr:Region.free md ops L i=true)(hr:(Region.ready md ops L).contains i=true)(hQ:∀ c a (d:Tmp) v w,Q (.panic c) (a.put (some d) v) w→Q (.panic c) a w)
 (hw:Region.wanted o (yielded ops a.tmps)=true) (hv:∀ V,S V→(execOp a.eval o).run P V=.ok (.value v) V) (hS:S w) (k:wpAnyH P md ops Q S am (L.setIfInBounds i true) (a.put o.dst v) w):wpAnyH P md ops Q S f0 L a w :=
 hf▸wpAnyH_take ho hs hfr hr (Zhr hQ _ _) (.inl ⟨hw,hv⟩) hS k
theorem h_load{t:V3}{x:Operand}{o:Oper}(i am:Nat){f0:Nat}(hf:f0=am+1)(p:Addr)(v:V2)(ho:ops.toList[i]? = some o)(hs:Region.noSelect ops=true)(hfr:Region.free md ops L i=true)(hr:(Region.ready md ops L).contains i=true)
 (hQ:∀ c a (d:Tmp) v w,Q (.panic c) (a.put (some d) v) w→Q (.panic c) a w) (hw:Region.wanted o (yielded ops a.tmps)=true) (hop:o.op=.load t x) (hx:a.eval x=.pointer (some p)) (hag:aggB P t=some false) (hv:∀ V,S V→V.cell? p=some v) (hS:S w)
 (k:wpAnyH P md ops Q S am (L.setIfInBounds i true) (a.put o.dst v) w):wpAnyH P md ops Q S f0 L a w :=
 h_val i am hf v (by rw[←ho];simp) hs hfr hr hQ hw (fun V hV=>by simp only[execOp,hop,hx,C9,Zad hag (hv V hV)];rfl) hS k
theorem Wa{o:Oper}(i am:Nat){f0:Nat}(hf:f0=am+1)(hr:Region.ready md ops L=[i])(ho:ops.toList[i]? = some o)(hw:Region.wanted o (yielded ops a.tmps)=true)
 (h:o.wp P a w (fun a' w'=>S w'∧wpAnyH P md ops Q S am (L.setIfInBounds i true) a' w') Q):wpAnyH P md ops Q S f0 L a w:=by
 subst hf
 refine wpAnyH_all hr Y5 fun j hj=>?_
 obtain rfl:j=i:=by simpa using hj
 have a0:ops[j]? = some o:=by rw[←ho];simp
 unfold wpOp
 simp only[a0,hw,if_true]
 exact .inl h
theorem Zu0{o o2:Oper}(i j am:Nat){f0:Nat}(hf:f0=am+1)(hr:Region.ready md ops L=[i,j])(ho:ops.toList[i]? = some o)(ho2:ops.toList[j]? = some o2)(hw:Region.wanted o (yielded ops a.tmps)=true)(hw2:Region.wanted o2 (yielded ops a.tmps)=true)
 (h:o.wp P a w (fun a' w'=>S w'∧wpAnyH P md ops Q S am (L.setIfInBounds i true) a' w') Q) (h2:o2.wp P a w (fun a' w'=>S w'∧wpAnyH P md ops Q S am (L.setIfInBounds j true) a' w') Q):wpAnyH P md ops Q S f0 L a w:=by
 subst hf
 refine wpAnyH_all hr Y5 fun k hk=>?_
 have a1:ops[i]? = some o:=by rw[←ho];simp
 have a0:ops[j]? = some o2:=by rw[←ho2];simp
 rcases B6.1 hk with rfl|hk
 ·unfold wpOp;simp only[a1,hw,if_true];exact .inl h
 ·obtain rfl:k=j:=by simpa using hk
  unfold wpOp;simp only[a0,hw2,if_true];exact .inl h2
theorem h_reg{id:Nat}{l:V6 Oper}(S:V1→Prop)(n:Nat)(hn:l.toArray.size=n)(L:Array Bool)(hL:Array.replicate n false=L)(hm:P.follows .mixedOrders=true)(hS:S w.drew)(h:S w.drew→wpAnyH P .any l.toArray Q S n L a w.drew):(Code.region id l.toArray true).wp P Q a w :=
 wp_region_held_drew hm hS (by rw[hn,hL];exact h)
theorem h_str{P:V4}{ops:Array Oper}{Q:Exit→Act→V1→Prop}{S:V1→Prop}{md:Region.Mode}(S':V1→Prop)(hi:∀ V,S' V→S V):∀ {am:Nat} {L:Array Bool} {a:Act} {w:V1},wpAnyH P md ops Q S' am L a w→wpAnyH P md ops Q S am L a w
 | 0,_,_,_,h=>h
 | am+1,_,_,_,h=>⟨h.1,fun i hj=>wpOp_mono (fun a' w' h'=>⟨hi w' h'.1,h_str S' hi h'.2⟩) (h.2 i hj)⟩
theorem Te(am:Nat)(hr:Region.ready md ops L=[])(h:Q .normal a w):wpAnyH P md ops Q S am L a w:=wpAnyH_done hr h am
end
structure BelowBut(w:V1)(b:Nat)(W:V1):Prop where
 os:W.os=w.os
 tape:W.tape=w.tape
 output:W.output=w.output
 size:w.heap.size≤W.heap.size
 block:∀ k,k<w.heap.size→k≠b→W.heap[k]? = w.heap[k]?
theorem _root_.Go.RowKit.Below.j2{w W:V1}(h:B3 w W)(b:Nat):BelowBut w b W:=⟨h.os,h.tape,h.output,h.size,fun k hk _=>h.block k hk⟩
theorem BelowBut.I{w W W':V1}{b:Nat}(h:BelowBut w b W)(u:Upd W b W'):BelowBut w b W':=⟨u.os.trans h.os,u.tape.trans h.tape,u.output.trans h.output,by rw[u.size];exact h.size,fun k hk hne=>(u.block k hne).trans (h.block k hk hne)⟩
theorem BelowBut.next{w W W':V1}{b:Nat}(h:BelowBut w b W)(u:B3 W W'):BelowBut w b W':=⟨u.os.trans h.os,u.tape.trans h.tape,u.output.trans h.output,N0 h.size u.size,fun k hk hne=>(u.block k (D5 hk h.size)).trans (h.block k hk hne)⟩
theorem BelowBut.blk{w W:V1}{b b':Nat}{cs:V6 V2}{t:V3}(h:BelowBut w b W)(k:Blk w b' cs t)(hne:b'≠b):Blk W b' cs t:=(h.block b' k.lt hne).trans k
theorem BelowBut.j{w W:V1}{b base:Nat}{e t:V3}{size:Nat}{v:V2}{n:Nat}{xs cs:V6 V2}(h:BelowBut w b W)(k:w.ownsRow base e size v n xs)(hk:Blk w b cs t)(hne:e≠t):W.ownsRow base e size v n xs:=by
 obtain⟨h1,h2⟩:=k;refine⟨h1,?_⟩;rcases h2 with h2|⟨g,a0,a1,hv,hg,hh,r⟩
 ·exact Or.inl h2
 ·refine Or.inr ⟨g,a0,a1,hv,hg,?_,r⟩;rw[h.block g (Array.getElem?_eq_some_iff.1 hh).1]
  ·exact hh
  ·rintro rfl;rw[show w.heap[g]? = _ from hk] at hh;simp only[A0,Obj.cells.injEq] at hh;exact hne hh.2.1.symm
theorem BelowBut.i{A w W:V1}{b B:Nat}(h:BelowBut w b W)(hB:Below B A w)(hb:B≤b)(hs:B≤w.heap.size):Below B A W:=hB.trans ⟨h.os,h.tape,h.output,h.size,fun k hk=>h.block k M0 M0⟩
theorem Xw{w:V1}{b base:Nat}{cs:V6 V2}{t:V3}{size n:Nat}(k:Blk w b cs t)(hb:base≤b)(hl:cs.length=n*size)(hn:n≤maxLen):w.ownsRow base t size (.slice (S3 b) n n) n cs :=
 ⟨hl,.inr ⟨b,n,cs.toArray,rfl,hb,k,At _,hn,by simpa using hl,by rw[←hl];simp⟩⟩
theorem g_ret{P:V4}{fn:Func}{R:V5→V1→Prop}{a:Act}{w:V1}(v:V2)(hd:a.defers=[])(hr:(results fn a.tmps).run P w=.ok v w)(h:R (.returned v) w):bodyPost P fn R .ret a w:=⟨hd,v,hr,h⟩
theorem g_end{P:V4}{fn:Func}{R:V5→V1→Prop}{a:Act}{w:V1}(v:V2)(hd:a.defers=[])(hr:(results fn a.tmps).run P w=.ok v w)(h:R (.returned v) w):bodyPost P fn R .normal a w:=⟨hd,v,hr,h⟩
theorem New.Q{b:Nat}{cs:V6 V2}{t:V3}{w W A:V1}{B:Nat}(h:New w b cs t W)(k:Below B A w):A.heap.size≤b:=by have:=k.size;have:=h.at_;omega
theorem Hg{w W:V1}{base size n:Nat}{e:V3}{v:V2}{xs cs:V6 V2}{b:Nat}{t:V3}(k:w.ownsRow base e size v n xs)(h:New w b cs t W):∀ j,v.ownBlock=some j→j≠b:=fun j hj=>by have:=(k.lt j hj).2;have:=h.at_;omega
theorem Upd.O{w W:V1}{b base:Nat}{e:V3}{size:Nat}{v:V2}{n:Nat}{xs:V6 V2}(h:Upd w b W)(k:w.ownsRow base e size v n xs)(hs:∀ j,v.ownBlock=some j→j≠b):W.ownsRow base e size v n xs:=by
 obtain⟨h1,h2⟩:=k;refine⟨h1,?_⟩;rcases h2 with h2|⟨g,a0,a1,rfl,hg,hh,r⟩
 ·exact Or.inl h2
 ·exact Or.inr ⟨g,a0,a1,rfl,hg,by rw[h.block g (hs g rfl)];exact hh,r⟩
theorem Blk.b3{w w':V1}{b:Nat}{cs:V6 V2}{t:V3}{v:V2}(k:Blk w b cs t)(hg:w.grownBy w' v.ownBlock)(hs:∀ j,v.ownBlock=some j→j≠b):Blk w' b cs t:=(hg.block b k.lt fun e=>hs b e.symm rfl).trans k
theorem Q3{T:V6 V3}{a w W:V1}{b:Nat}(h:Zd T a w)(u:Upd w b W)(hb:a.heap.size≤b):Zd T a W:=fun k cs t fr hk ht=>by
 have:=(Array.getElem?_eq_some_iff.1 hk).1;rw[u.block k M0];exact h k cs t fr hk ht
theorem Q6{T:V6 V3}{a w W:V1}{size n:Nat}{e:V3}{v:V2}{xs:V6 V2}(h:Zd T a w)(hg:w.grownBy W v.ownBlock)(hown:w.ownsRow a.heap.size e size v n xs):Zd T a W:=fun k cs t fr hk ht=>by
 have h1:=(Array.getElem?_eq_some_iff.1 hk).1;have h2:=h k cs t fr hk ht;rw[hg.block k (Array.getElem?_eq_some_iff.1 h2).1 (fun e=>by have:=(hown.lt k e.symm).1;omega)];exact h2
def putD(a:Act):V6 (Nat×V2)→Act
 | []=>a
 | (d,v)::r=>putD ⟨a.tmps.setIfInBounds d v,a.defers⟩ r
theorem Zte(is:V6 Nat)(d b:Bool)(h:d=b){a:Act}(he:is.map (fun i=>a.tmps[i]?)=is.map (fun _=>some (Value.bool d))):putD a (is.map fun i=>(i,Value.bool b))=a:=by
 subst h;induction is with
 | nil=>rfl
 | cons i r ih =>
  simp only[D7,I5] at he;have e:a.tmps.setIfInBounds i (Value.bool d)=a.tmps:=by
   apply Array.ext_getElem?;intro j;by_cases hj:i=j
   ·subst hj;obtain⟨a0,hv⟩:=Array.getElem?_eq_some_iff.1 he.1;rw[Array.getElem?_setIfInBounds_self_of_lt a0,he.1]
   ·rw[Array.getElem?_setIfInBounds_ne hj]
  show putD ⟨a.tmps.setIfInBounds i (Value.bool d),a.defers⟩ (r.map fun i=>(i,Value.bool d))=a;rw[e];exact ih he.2
theorem g_b{P:V4}{ops:Array Oper}{Q:Exit→Act→V1→Prop}{a:Act}{w:V1}{l:V6 Oper}(is:V6 Nat)(d b:Bool)(h:d=b)(he:is.map (fun i=>a.tmps[i]?)=is.map (fun _=>some (Value.bool d)))(k:wpList P ops Q l (putD a (is.map fun i=>(i,Value.bool b))) w):wpList P ops Q l a w:=Zte is d b h he▸k
theorem Gg{P:V4}{ops:Array Oper}{Q:Exit→Act→V1→Prop}{a:Act}{w:V1}{l:V6 Oper}(n:Nat)(ds:V6 (Nat×V2))(h:Zdv P ops (l.take n) a=some (putD a ds))(k:wpList P ops Q (l.drop n) (putD a ds) w):wpList P ops Q l a w:=g_pure n _ h k
theorem Zwv{P:V4}{ops:Array Oper}{Q:Exit→Act→V1→Prop}{a:Act}{w:V1}{S:V1→Prop}{md:Region.Mode}{L:Array Bool}(is:V6 Nat)(am:Nat){f0:Nat}(hf:f0=am+is.length)(L':Array Bool)(ds:V6 (Nat×V2))(hs:Region.noSelect ops=true)(hQ:∀ c a (d:Tmp) v w,Q (.panic c) (a.put (some d) v) w→Q (.panic c) a w)(h:Zdj P md ops is L a=some (L',putD a ds))(hS:S w)
 (k:wpAnyH P md ops Q S am L' (putD a ds) w):wpAnyH P md ops Q S f0 L a w:=h_pure is am hf L' _ hs hQ h hS k
def pk:V6 V2→Nat→V2
 | [],_=>undef
 | x::_,0=>x
 | _::r,k+1=>pk r k
structure Fr(S:V6 Nat)(w W:V1):Prop where
 size:w.heap.size≤W.heap.size
 block:∀ k,k<w.heap.size→k∉S→W.heap[k]? = w.heap[k]?
theorem Fr.refl(S:V6 Nat)(w:V1):Fr S w w:=⟨At _,fun _ _ _=>rfl⟩
theorem Fr.trans{S:V6 Nat}{a b c:V1}(h:Fr S a b)(k:Fr S b c):Fr S a c:=⟨N0 h.size k.size,fun i hi hs=>(k.block i (D5 hi h.size) hs).trans (h.block i hi hs)⟩
theorem Fr.mono{S T:V6 Nat}{a b:V1}(h:Fr S a b)(hs:∀ k∈S,k∈T):Fr T a b:=⟨h.size,fun i hi ht=>h.block i hi fun hi=>ht (hs i hi)⟩
theorem Q2{S:V6 Nat}{w W:V1}(h:B3 w W):Fr S w W:=⟨h.size,fun k hk _=>h.block k hk⟩
theorem X2{S:V6 Nat}{w W:V1}{b:Nat}(h:Upd w b W)(hb:b∈S):Fr S w W:=⟨N7 h.size.symm,fun k _ hs=>h.block k fun e=>hs (e▸hb)⟩
theorem Q8{S:V6 Nat}{a w W:V1}{b:Nat}(h:Fr S a w)(u:Upd w b W)(hb:a.heap.size≤b):Fr S a W:=⟨N0 h.size (N7 u.size.symm),fun k hk hs=>(u.block k M0).trans (h.block k hk hs)⟩
theorem Y0{S:V6 Nat}{a w W:V1}{size n:Nat}{e:V3}{v:V2}{xs:V6 V2}(h:Fr S a w)(hg:w.grownBy W v.ownBlock)(hown:w.ownsRow a.heap.size e size v n xs):Fr S a W:=⟨N0 h.size hg.size,fun k hk hs=>(hg.block k (D5 hk h.size) (fun e=>by have:=(hown.lt k e.symm).1;omega)).trans (h.block k hk hs)⟩
theorem Fr.e7{S:V6 Nat}{w W:V1}{g n cap:Nat}(hg:w.grownBy W (Value.slice (S3 g) n cap).ownBlock)(hb:g∈S):Fr S w W:=⟨hg.size,fun k hk hs=>hg.block k hk fun e=>hs (by simp only[Value.ownBlock,A0] at e;exact e▸hb)⟩
theorem X1{S:V6 Nat}{a w W:V1}{z:Nat}(h:Fr S a w)(k:Fr (S++[z]) w W)(hz:a.heap.size≤z):Fr S a W:=⟨N0 h.size k.size,fun i hi hs=>(k.block i (D5 hi h.size) (fun hm=>by rcases List.mem_append.1 hm with hm|hm;exact hs hm;have:=D0.1 hm;omega)).trans (h.block i hi hs)⟩
theorem Blk.fr{S:V6 Nat}{w W:V1}{b:Nat}{cs:V6 V2}{t:V3}(k:Blk w b cs t)(h:Fr S w W)(hb:b∉S):Blk W b cs t:=(h.block b k.lt hb).trans k
theorem Ot{S:V6 Nat}{w W:V1}{base size n:Nat}{e:V3}{v:V2}{xs:V6 V2}(k:w.ownsRow base e size v n xs)(h:Fr S w W)(hs:∀ b,v.ownBlock=some b→b∉S):W.ownsRow base e size v n xs:=by
 obtain⟨h1,h2⟩:=k;refine⟨h1,?_⟩;rcases h2 with h2|⟨g,a0,a1,rfl,hg,hh,r⟩
 ·exact Or.inl h2
 ·exact Or.inr ⟨g,a0,a1,rfl,hg,by rw[h.block g (Array.getElem?_eq_some_iff.1 hh).1 (hs g rfl)];exact hh,r⟩
theorem Za(w:V1):B3 w w.drew:=(U3 _ _).drew
theorem Zhx{id:Nat}{K:Act→V1→Prop}{Q:Exit→Act→V1→Prop}{a:Act}{w:V1}(h:Q (.exit id) a w):Exit.then K Q (.exit id) a w:=h
theorem Px{K:Act→V1→Prop}{Q:Exit→Act→V1→Prop}{a:Act}{w:V1}(h:Q .ret a w):Exit.then K Q .ret a w:=h
theorem Lk{id:Nat}{Q:Exit→Act→V1→Prop}{a:Act}{w:V1}(h:Q .ret a w):Exit.inBlock id Q .ret a w:=h
theorem Zkx{id:Nat}{Q:Exit→Act→V1→Prop}{a:Act}{w:V1}(h:Q .normal a w):Exit.inBlock id Q (.exit id) a w:=by simpa [Exit.inBlock] using h
end
section
noncomputable def zlk (l:V6 (Nat×V2)) (k:Nat):V2:=List.rec (motive:=fun _=>V2) undef (fun p _ ih=>Bool.rec (motive:=fun _=>V2) ih p.2 (Nat.beq p.1 k)) l
theorem Re(d:Nat)(v:V2)(l:V6 (Nat×V2))(k:Nat):zlk ((d,v)::l) k=if d=k then v else zlk l k:=by
 show Bool.rec (motive:=fun _=>V2) (zlk l k) v (Nat.beq d k)=_;cases h:Nat.beq d k with
 | true=>rw[V8 (K1 h)]
 | false=>rw[V7 (Nat.ne_of_beq_eq_false h)]
noncomputable def zact (n:Nat) (kv:V6 (Nat×V2)):Act:=⟨((range n).map (zlk kv)).toArray,[]⟩
noncomputable def zget (n:Nat) (kv:V6 (Nat×V2)) (k:Nat):V2:=Bool.rec (motive:=fun _=>V2) undef (zlk kv k) (Nat.blt k n)
theorem Zga(k n:Nat):Nat.blt k n=decide (k<n):=by
 rw[Bool.eq_iff_iff];simp
theorem Zxu(n:Nat)(kv:V6 (Nat×V2))(d:Nat):(zact n kv).tmps[d]? = Bool.rec (motive:=fun _=>Option V2) none (some (zlk kv d)) (Nat.blt d n):=by
 rw[Zga];by_cases h:d<n<;>simp[zact,h]
theorem Nm(n:Nat)(kv:V6 (Nat×V2))(d:Nat):(zact n kv).tmps.getD d undef=zget n kv d:=by
 have h:=Zxu n kv d;rw[Array.getD_eq_getD_getElem?,h];unfold zget;cases Nat.blt d n<;>rfl
noncomputable def zev (n:Nat) (kv:V6 (Nat×V2)):Operand→V2
 | .tmp t=>zget n kv t
 | .const v=>v
 | .global g=>P0 g
 | .func f=>.func (.func f) #[] #[]
theorem Zu(n:Nat)(kv:V6 (Nat×V2)):(zact n kv).eval=zev n kv:=by
 funext x;cases x with
 | tmp t=>exact Nm n kv t
 | _=>rfl
def Ztc(kv:V6 (Nat×V2))(d:Option Tmp)(v:V2):V6 (Nat×V2):=match d with
 | some d=>(d,v)::kv
 | none=>kv
theorem Rj(n:Nat)(kv:V6 (Nat×V2))(d:Option Tmp)(v:V2):(zact n kv).put d v=zact n (Ztc kv d v):=by
 cases d with
 | none=>rfl
 | some d =>
  show(⟨((range n).map (zlk kv)).toArray.setIfInBounds d v,[]⟩:Act)=⟨((range n).map (zlk ((d,v)::kv))).toArray,[]⟩;congr 1;rw[List.setIfInBounds_toArray];congr 1;apply H3;intro i;rw[List.getElem?_set,C3,C3,A3,List.length_range];by_cases hi:i<n
  ·simp only[C1 hi,D3,Re];by_cases hd:d=i
   ·subst hd;simp[hi]
   ·simp[hd]
  ·have:(range n)[i]? = none:=(by simp;omega);simp only[this,P7];by_cases hd:d=i
   ·subst hd;simp[hi]
   ·simp[hd]
noncomputable def znth (l:V6 Oper) (k:Nat):Option Oper:=List.rec (motive:=fun _=>Nat→Option Oper) (fun _=>none) (fun o _ ih k=>Nat.rec (motive:=fun _=>Option Oper) (some o) (fun k' _=>ih k') k) l k
theorem Sh:∀ (l:V6 Oper) (k:Nat),znth l k=l[k]?
 | [],_=>rfl
 | _::_,0=>rfl
 | _::l,k+1=>by rw[List.getElem?_cons_succ,←Sh l k];rfl
noncomputable def zyl (all:V6 Oper) (n:Nat) (kv:V6 (Nat×V2)) (j:Nat):Option Bool :=
 match ((znth all j).bind (·.dst)) with
 | some d=>match zget n kv d with
  | .bool b=>some b
  | _=>none
 | none=>none
theorem Zg2(all:V6 Oper)(n:Nat)(kv:V6 (Nat×V2)):yielded all.toArray (zact n kv).tmps=zyl all n kv:=by
 funext j;unfold yielded zyl;rw[Sh,Le];cases h:(all[j]?).bind (·.dst) with
 | none=>rfl
 | some d =>
  simp only[Option.bind_some,Zxu];unfold zget;cases Nat.blt d n
  ·rfl
  ·cases zlk kv d<;>rfl
noncomputable def zps (P:V4) (all:V6 Oper) (n:Nat) (kv:V6 (Nat×V2)) (o:Oper):Option (V6 (Nat×V2)) :=
 match Region.wanted o (zyl all n kv) with
 | true=>match Mz P (execOp (zev n kv) o) with
  | some (.value v)=>some (Ztc kv o.dst v)
  | _=>none
 | false=>some (Ztc kv o.dst undef)
theorem Zd9{P:V4}{all:V6 Oper}{n:Nat}{kv kv':V6 (Nat×V2)}{o:Oper}(h:zps P all n kv o=some kv'):∃ v,kv'=Ztc kv o.dst v∧∀ S:V1→Prop,YieldsIf P all.toArray S o v (zact n kv):=by
 unfold zps at h;split at h
 ·rename_i hw;split at h
  ·rename_i v hv;simp only[A0] at h;exact⟨v,h.symm,fun S=>.inl ⟨by rw[Zg2];exact hw,fun w _=>by rw[Zu];exact Wr hv w⟩⟩
  ·cases h
 ·rename_i hw;simp only[A0] at h;exact⟨undef,h.symm,fun S=>.inr ⟨by rw[Zg2];exact hw,rfl⟩⟩
inductive SF
 | z
 | t (B:Nat) (T:V6 V3)
 | f (B:Nat) (S:V6 Nat)
def SF.rel:SF→V1→V1→Prop
 | .z,w,V=>B3 w V
 | .t B T,w,V=>Below (Nat.min B w.heap.size) w V∧Zd T w V
 | .f B S,w,V=>Below (Nat.min B w.heap.size) w V∧Fr S w V
theorem SF.refl(sf:SF)(w:V1):sf.rel w w:=by
 cases sf with
 | z=>exact U3 _ _
 | t B T=>exact⟨U3 _ _,Zd.refl _ _⟩
 | f B S=>exact⟨U3 _ _,Fr.refl _ _⟩
theorem Q5(sf:SF){w W:V1}(h:B3 w W):sf.rel w W:=by
 cases sf with
 | z=>exact h
 | t B T=>exact⟨h.mono (Nat.min_le_right _ _),Q0 h⟩
 | f B S=>exact⟨h.mono (Nat.min_le_right _ _),Q2 h⟩
theorem SF.trans(sf:SF){a b c:V1}(h:sf.rel a b)(k:sf.rel b c):sf.rel a c:=by
 cases sf with
 | z=>exact bln h k
 | t B T =>
  refine⟨h.1.trans (k.1.mono ?_),h.2.trans k.2⟩;have:=h.1.size;simp only[Nat.min_def];split<;>split<;>omega
 | f B S =>
  refine⟨h.1.trans (k.1.mono ?_),h.2.trans k.2⟩;have:=h.1.size;simp only[Nat.min_def];split<;>split<;>omega
noncomputable def zL (n:Nat) (done:V6 Nat):Array Bool:=((range n).map fun i=>done.elem i).toArray
theorem Zwy(n:Nat)(done:V6 Nat)(i:Nat)(b:Bool):(zL n done).getD i b=if i<n then done.elem i else b:=by
 rw[Array.getD_eq_getD_getElem?];by_cases h:i<n<;>simp[zL,h]
theorem Zno(n:Nat)(done:V6 Nat)(i:Nat):(zL n done).setIfInBounds i true=zL n (i::done):=by
 unfold zL;rw[List.setIfInBounds_toArray];congr 1;apply H3;intro j;rw[List.getElem?_set,C3,C3,A3,List.length_range];by_cases hj:j<n
 ·simp only[C1 hj,D3];by_cases hd:i=j
  ·subst hd;simp[hj]
  ·have:(j==i)=false:=(by simp;exact fun e=>hd e.symm);rw[V7 hd,List.elem_cons,this]
 ·have:(range n)[j]? = none:=by simp;omega
  simp only[this,P7];by_cases hd:i=j
  ·subst hd;simp[hj]
  ·simp[hd]
theorem zL_nil(n:Nat):Array.replicate n false=zL n []:=by
 unfold zL;apply Array.ext_getElem?;intro i;by_cases h:i<n<;>simp[h]
noncomputable def zready (all:V6 Oper) (done:V6 Nat):V6 Nat :=
 (range all.length).filter fun i=>!(done.elem i)&&match znth all i with
  | some o=>o.after.all fun e=>!Region.binds .any e||(Nat.blt e.on all.length&&done.elem e.on)
  | none=>false
theorem Bj(all:V6 Oper)(done:V6 Nat):Region.ready .any all.toArray (zL all.length done)=zready all done:=by
 unfold Region.ready zready;rw[Gt];refine List.filter_congr fun i hi=>?_;have a0:i<all.length:=by simpa using hi
 rw[Zwy,V8 a0,Sh,Le];congr 1;cases all[i]? with
 | none=>rfl
 | some o =>
  simp only[D3,K2];congr 1;funext e;rw[Zwy,Zga];by_cases he:e.on<all.length<;>simp[he]
inductive KF
 | seq (c:Code)
 | blk (id:Nat)
 | jn (J:Act→V1→Prop)
 | rnd (c:Code) (n:Nat)
 | scp
inductive Zc
 | code (c:Code)
 | ops (all l:V6 Oper)
 | any (sf:SF) (all:V6 Oper) (f:Nat) (done:V6 Nat)
 | one (sf:SF) (all:V6 Oper) (f:Nat) (done:V6 Nat) (i:Nat)
 | tak (sf:SF) (all:V6 Oper) (f:Nat) (done:V6 Nat) (i:Nat)
 | ex (e:Exit)
structure Zs where
 n:Nat
 ks:V6 KF
 c:Zc
 kv:V6 (Nat×V2)
section
variable (P:V4) (fn:Func) (R:V5→V1→Prop)
def KQ:V6 KF→Exit→Act→V1→Prop
 | []=>bodyPost P fn R
 | .seq c::ks=>Exit.then (c.wp P (KQ ks)) (KQ ks)
 | .blk id::ks=>Exit.inBlock id (KQ ks)
 | .jn J::ks=>Exit.then J (KQ ks)
 | .rnd c n::ks=>Exit.then (Code.rounds P c (KQ ks) n) (KQ ks)
 | .scp::ks=>Exit.noGoto (KQ ks)
theorem Df:∀ (ks:V6 KF) (c:V6 PanicEntry) (a:Act) (w:V1),KQ P fn R ks (.panic c) a w=bodyPost P fn R (.panic c) a w
 | [],_,_,_=>rfl
 | .seq _::ks,c,a,w=>Df ks c a w
 | .blk _::ks,c,a,w=>Df ks c a w
 | .jn _::ks,c,a,w=>Df ks c a w
 | .rnd _ _::ks,c,a,w=>Df ks c a w
 | .scp::ks,c,a,w=>Df ks c a w
theorem KQ_put(ks:V6 KF)(d:Option Tmp)(v:V2)(c:V6 PanicEntry)(a:Act)(w:V1)(h:KQ P fn R ks (.panic c) (a.put d v) w):KQ P fn R ks (.panic c) a w:=by
 rw[Df] at h ⊢;refine⟨?_,h.2⟩;have:=h.1;cases d<;>exact this
def Go (s:Zs)(w:V1):Prop:=match s.c with
 | .code c=>c.wp P (KQ P fn R s.ks) (zact s.n s.kv) w
 | .ops all l=>wpList P all.toArray (KQ P fn R s.ks) l (zact s.n s.kv) w
 | .any sf all f done=>Region.noSelect all.toArray=true→wpAnyH P .any all.toArray (KQ P fn R s.ks) (sf.rel w) f (zL all.length done) (zact s.n s.kv) w
 | .one sf all f done i=>Region.noSelect all.toArray=true→wpOp P all.toArray (KQ P fn R s.ks) i (fun a' w'=>sf.rel w w'∧wpAnyH P .any all.toArray (KQ P fn R s.ks) (sf.rel w) f (zL all.length (i::done)) a' w') (zact s.n s.kv) w
 | .tak sf all f done i=>Region.free .any all.toArray (zL all.length done) i=true→(zready all done).contains i=true→Region.noSelect all.toArray=true→wpAnyH P .any all.toArray (KQ P fn R s.ks) (sf.rel w) (f+1) (zL all.length done) (zact s.n s.kv) w
 | .ex e=>KQ P fn R s.ks e (zact s.n s.kv) w
end
noncomputable def zstep (P:V4) (s:Zs):Zs:=match s with
  | ⟨n, ks, c, kv⟩ => match c with
    | .code c=>match c with
      | .skip=>⟨n,ks,.ex .normal,kv⟩
      | .label _=>⟨n,ks,.ex .normal,kv⟩
      | .seq a b=>⟨n,.seq b::ks,.code a,kv⟩
      | .block id a=>⟨n,.blk id::ks,.code a,kv⟩
      | .scope a=>⟨n,.scp::ks,.code a,kv⟩
      | .exit id=>⟨n,ks,.ex (.exit id),kv⟩
      | .ret=>⟨n,ks,.ex .ret,kv⟩
      | .region id ops d=>Bool.rec (motive:=fun _=>Zs) ⟨n,ks,.ops ops.toList ops.toList,kv⟩ ⟨n,ks,.code (.region id ops true),kv⟩ d
      | .cond c a b=>match zev n kv c with
        | .bool t=>⟨n,ks,.code (Bool.rec (motive:=fun _=>Code) b a t),kv⟩
        | _=>⟨n,ks,.code (.cond c a b),kv⟩
      | c=>⟨n,ks,.code c,kv⟩
    | .ops all l=>match l with
      | []=>⟨n,ks,.ex .normal,kv⟩
      | o::l=>match zps P all n kv o with
        | some kv'=>⟨n,ks,.ops all l,kv'⟩
        | none=>⟨n,ks,.ops all (o::l),kv⟩
    | .any sf all f done=>match zready all done with
      | []=>⟨n,ks,.ex .normal,kv⟩
      | _=>⟨n,ks,.any sf all f done,kv⟩
    | .one sf all f done i=>⟨n,ks,.one sf all f done i,kv⟩
    | .tak sf all f done i=>⟨n,ks,.tak sf all f done i,kv⟩
    | .ex e=>match ks with
      | []=>⟨n,[],.ex e,kv⟩
      | .seq c::ks=>match e with
        | .normal=>⟨n,ks,.code c,kv⟩
        | e=>⟨n,ks,.ex e,kv⟩
      | .blk id::ks=>match e with
        | .exit id'=>Bool.rec (motive:=fun _=>Zs) ⟨n,ks,.ex (.exit id'),kv⟩ ⟨n,ks,.ex .normal,kv⟩ (Nat.beq id' id)
        | e=>⟨n,ks,.ex e,kv⟩
      | .jn J::ks=>match e with
        | .normal=>⟨n,.jn J::ks,.ex .normal,kv⟩
        | e=>⟨n,ks,.ex e,kv⟩
      | .rnd c m::ks=>match e with
        | .normal=>Nat.rec (motive:=fun _=>Zs) ⟨n,.rnd c m::ks,.ex .normal,kv⟩ (fun m' _=>⟨n,.rnd c m'::ks,.code c,kv⟩) m
        | e=>⟨n,ks,.ex e,kv⟩
      | .scp::ks=>match e with
        | .goto l=>⟨n,.scp::ks,.ex (.goto l),kv⟩
        | e=>⟨n,ks,.ex e,kv⟩
section
variable {P:V4} {fn:Func} {R:V5→V1→Prop} {w:V1}
theorem Zky(s:Zs)(h:Go P fn R (zstep P s) w):Go P fn R s w:=by
 obtain⟨n,ks,c,kv⟩:=s;cases c with
 | code c =>
  cases c with
  | skip=>exact wp_skip h
  | label l=>exact wp_label h
  | seq a b=>exact wp_seq h
  | block id a=>exact wp_block h
  | scope a=>exact wp_scope_straight h
  | exit id=>exact wp_exit h
  | ret=>exact wp_ret h
  | region id ops d =>
   cases d with
   | true=>exact h
   | false =>
    refine wp_region_list ?_;have h':wpList P ops.toList.toArray (KQ P fn R ks) ops.toList (zact n kv) w:=h;rwa [I7] at h'
  | cond c a b =>
   unfold zstep at h;dsimp only at h;split at h
   ·rename_i t ht;refine wp_cond (t:=t) (by rw[Zu];exact ht) ?_;cases t<;>exact h
   ·exact h
  | _=>exact h
 | ops all l =>
  cases l with
  | nil=>exact(h:KQ P fn R ks .normal (zact n kv) w)
  | cons o l =>
   unfold zstep at h;dsimp only at h;split at h
   ·rename_i a0 hk;obtain⟨v,rfl,hy⟩:=Zd9 hk;have h':wpList P all.toArray (KQ P fn R ks) l (zact n (Ztc kv o.dst v)) w:=h;rw[←Rj] at h';exact Lw (hy _) h'
   ·exact h
 | any sf all f done =>
  unfold zstep at h;dsimp only at h;split at h
  ·rename_i hr;exact fun _=>wpAnyH_done (by rw[Bj];exact hr) h f
  ·exact h
 | one sf all f done i=>exact h
 | tak sf all f done i=>exact h
 | ex e =>
  cases ks with
  | nil=>exact h
  | cons k ks =>
   cases k with
   | seq c=>cases e<;>exact h
   | blk id =>
    cases e with
    | exit id' =>
     show Exit.inBlock id (KQ P fn R ks) (.exit id') _ w;unfold zstep at h;dsimp only at h;cases hb:Nat.beq id' id with
     | true =>
      rw[hb] at h;have:id'=id:=K1 hb;simp only[Exit.inBlock,this,if_true];exact h
     | false =>
      rw[hb] at h;have:id'≠id:=Nat.ne_of_beq_eq_false hb;simp only[Exit.inBlock,this,if_false];exact h
    | _=>exact h
   | jn J=>cases e<;>exact h
   | scp=>cases e<;>exact h
   | rnd c m =>
    cases e with
    | normal =>
     cases m with
     | zero=>exact h
     | succ m=>exact h
    | _=>exact h
noncomputable def zr (P:V4) (k:Nat) (s:Zs):Zs:=Nat.rec (motive:=fun _=>Zs→Zs) (fun s=>s) (fun _ ih s=>ih (zstep P s)) k s
theorem Zgc:∀ (k:Nat) (s:Zs),Go P fn R (zr P k s) w→Go P fn R s w
 | 0,_,h=>h
 | k+1,s,h=>Zky s (Zgc k (zstep P s) h)
noncomputable def zb1 (P:V4) (s:Zs) (i:Nat):Zs:=match s with
  | ⟨n, ks, c, kv⟩ => match c with
    | .any sf all f done=>match f with
      | f'+1=>match znth all i with
        | some o=>match Region.free .any all.toArray (zL all.length done) i&&(zready all done).contains i with
          | true=>match zps P all n kv o with
            | some kv'=>⟨n,ks,.any sf all f' (i::done),kv'⟩
            | none=>⟨n,ks,.any sf all f done,kv⟩
          | false=>⟨n,ks,.any sf all f done,kv⟩
        | none=>⟨n,ks,.any sf all f done,kv⟩
      | 0=>⟨n,ks,.any sf all f done,kv⟩
    | c=>⟨n,ks,c,kv⟩
theorem Zwk(s:Zs)(i:Nat)(h:Go P fn R (zb1 P s i) w):Go P fn R s w:=by
 obtain⟨n,ks,c,kv⟩:=s;cases c with
 | any sf all f done =>
  cases f with
  | zero=>exact h
  | succ f =>
   unfold zb1 at h;dsimp only at h;split at h
   ·rename_i o ho;split at h
    ·rename_i hc;simp only[E2] at hc;split at h
     ·rename_i a0 hk;obtain⟨v,rfl,hy⟩:=Zd9 hk;intro hs;have h':=h hs;rw[Sh] at ho;rw[←Rj,←Zno] at h';exact wpAnyH_take (by rw[Le];exact ho) hs hc.1 (by rw[Bj];exact hc.2) (KQ_put P fn R ks _ _) (hy _) (sf.refl w) h'
     ·exact h
    ·exact h
   ·exact h
 | _=>exact h
noncomputable def zb (P:V4) (is:V6 Nat) (s:Zs):Zs:=List.rec (motive:=fun _=>Zs→Zs) (fun s=>s) (fun i _ ih s=>ih (zb1 P s i)) is s
theorem Rg:∀ (is:V6 Nat) (s:Zs),Go P fn R (zb P is s) w→Go P fn R s w
 | [],_,h=>h
 | i::r,s,h=>Zwk s i (Rg r _ h)
noncomputable def zone (i:Nat) (s:Zs):Zs:=match s with
  | ⟨n, ks, c, kv⟩ => match c with
    | .any sf all f done=>match f with
      | f'+1=>match zready all done with
        | [j]=>Bool.rec (motive:=fun _=>Zs) ⟨n,ks,.any sf all f done,kv⟩ ⟨n,ks,.one sf all f' done i,kv⟩ (Nat.beq j i)
        | _=>⟨n,ks,.any sf all f done,kv⟩
      | 0=>⟨n,ks,.any sf all f done,kv⟩
    | c=>⟨n,ks,c,kv⟩
theorem Zpu(s:Zs)(i:Nat)(h:Go P fn R (zone i s) w):Go P fn R s w:=by
 obtain⟨n,ks,c,kv⟩:=s;cases c with
 | any sf all f done =>
  cases f with
  | zero=>exact h
  | succ f =>
   unfold zone at h;dsimp only at h;split at h
   ·rename_i j hj;cases hb:Nat.beq j i with
    | true =>
     rw[hb] at h;obtain rfl:j=i:=K1 hb;intro hs;refine wpAnyH_all (rs:=[j]) (by rw[Bj];exact hj) Y5 fun k hk=>?_;obtain rfl:k=j:=(by simpa using hk);rw[Zno];exact h hs
    | false=>rw[hb] at h;exact h
   ·exact h
 | _=>exact h
noncomputable def ztak (i:Nat) (s:Zs):Zs:=match s with
  | ⟨n, ks, c, kv⟩ => match c with
    | .any sf all f done=>match f with
      | f'+1=>match Region.free .any all.toArray (zL all.length done) i&&(zready all done).contains i with
        | true=>⟨n,ks,.tak sf all f' done i,kv⟩
        | false=>⟨n,ks,.any sf all f done,kv⟩
      | 0=>⟨n,ks,.any sf all f done,kv⟩
    | c=>⟨n,ks,c,kv⟩
theorem Zqc(s:Zs)(i:Nat)(h:Go P fn R (ztak i s) w):Go P fn R s w:=by
 obtain⟨n,ks,c,kv⟩:=s;cases c with
 | any sf all f done =>
  cases f with
  | zero=>exact h
  | succ f =>
   unfold ztak at h;dsimp only at h;split at h
   ·rename_i hc;simp only[E2] at hc;exact h hc.1 hc.2
   ·exact h
 | _=>exact h
inductive Zq
 | p (k:Nat)
 | b (is:V6 Nat)
 | o (is:V6 Nat) (i:Nat)
 | e (is:V6 Nat) (i:Nat)
 | r (is:V6 Nat) (k:Nat)
instance (n:Nat):OfNat Zq n:=⟨.p n⟩
noncomputable def zq (P:V4) (q:Zq) (s:Zs):Zs:=match q with
 | .p k=>zr P k s
 | .b is=>zb P is s
 | .o is i=>zone i (zb P is s)
 | .e is i=>ztak i (zb P is s)
 | .r is k=>zr P k (zb P is s)
theorem Zw(q:Zq)(s:Zs)(h:Go P fn R (zq P q s) w):Go P fn R s w:=by
 cases q with
 | p k=>exact Zgc k s h
 | b is=>exact Rg is s h
 | o is i=>exact Rg is s (Zpu _ i h)
 | e is i=>exact Rg is s (Zqc _ i h)
 | r is k=>exact Rg is s (Zgc k _ h)
noncomputable def zop (s:Zs):Option Oper:=match s with
  | ⟨n, ks, c, kv⟩ => match c with
    | .ops all l=>match l with
      | o::_=>match Region.wanted o (zyl all n kv) with
        | true=>some o
        | false=>none
      | []=>none
    | .one _ all _ _ i=>match znth all i with
      | some o=>match Region.wanted o (zyl all n kv) with
        | true=>some o
        | false=>none
      | none=>none
    | .tak _ all _ _ i=>match znth all i with
      | some o=>match Region.wanted o (zyl all n kv) with
        | true=>some o
        | false=>none
      | none=>none
    | _=>none
noncomputable def znx (s:Zs) (v:V2):Zs:=match s with
 | ⟨n,ks,c,kv⟩=>match c with
  | .ops all l=>match l with
   | o::l=>⟨n,ks,.ops all l,Ztc kv o.dst v⟩
   | []=>⟨n,ks,.ops all [],kv⟩
  | .one sf all f done i=>match znth all i with
   | some o=>⟨n,ks,.any sf all f (i::done),Ztc kv o.dst v⟩
   | none=>⟨n,ks,.one sf all f done i,kv⟩
  | .tak sf all f done i=>match znth all i with
   | some o=>⟨n,ks,.any sf all f (i::done),Ztc kv o.dst v⟩
   | none=>⟨n,ks,.tak sf all f done i,kv⟩
  | c=>⟨n,ks,c,kv⟩
def Zql(s:Zs)(w W:V1):Prop:=match s.c with
 | .one sf _ _ _ _=>sf.rel w W
 | .tak sf _ _ _ _=>sf.rel w W
 | _=>True
def Zgv(s:Zs):Bool:=match s.c with
 | .tak _ _ _ _ _=>false
 | _=>true
theorem Wk(s:Zs){W:V1}(h:B3 w W):Zql s w W:=by
 unfold Zql;split
 ·exact Q5 _ h
 ·exact Q5 _ h
 ·trivial
theorem Zpz{P:V4}{ops:Array Oper}{Q:Exit→Act→V1→Prop}{S S':V1→Prop}{md:Region.Mode}{am:Nat}{L:Array Bool}{a:Act}{w:V1}(hi:∀ V,S' V→S V)(h:wpAnyH P md ops Q S' am L a w):wpAnyH P md ops Q S am L a w:=h_str S' hi h
theorem zgo{s:Zs}{o:Oper}(h:zop s=some o)(he:Zgv s=true)(k:∀ (K:Act→V1→Prop),(∀ v W,Zql s w W→Go P fn R (znx s v) W→K ((zact s.n s.kv).put o.dst v) W)→o.wp P (zact s.n s.kv) w K (KQ P fn R s.ks)):Go P fn R s w:=by
 obtain⟨n,ks,c,kv⟩:=s;cases c with
 | ops all l =>
  cases l with
  | nil=>cases h
  | cons o' l =>
   unfold zop at h;dsimp only at h;split at h
   ·rename_i hw;obtain rfl:o'=o:=(by simpa using h);refine Jh (by rw[Zg2];exact hw) (k _ fun v W _ hg=>?_);rw[Rj];exact hg
   ·cases h
 | one sf all f done i =>
  unfold zop at h;dsimp only at h;split at h
  ·rename_i o' ho;split at h
   ·rename_i hw;obtain rfl:o'=o:=(by simpa using h);intro hs;have a0:all.toArray[i]? = some o':=(by rw[Le,←Sh];exact ho);unfold wpOp;simp only[a0,Zg2,hw,if_true];refine .inl (k _ fun v W hr hg=>⟨hr,?_⟩);have a1:Go P fn R ⟨n,ks,.any sf all f (i::done),Ztc kv o'.dst v⟩ W:=by
     have e:znx ⟨n,ks,.one sf all f done i,kv⟩ v=⟨n,ks,.any sf all f (i::done),Ztc kv o'.dst v⟩:=(by simp only[znx,ho]);rw[←e];exact hg
    have:=a1 hs;rw[←Rj] at this;exact Zpz (fun V hV=>sf.trans hr hV) this
   ·cases h
  ·cases h
 | tak sf all f done i=>cases he
 | any sf all f done=>cases h
 | code c=>cases h
 | ex e=>cases h
theorem Zf2{s:Zs}{o:Oper}{v:V2}(h:zop s=some o)(hv:∀ V,(V=w∨Zgv s=false∧Zql s w V)→(execOp (zact s.n s.kv).eval o).run P V=.ok (.value v) V)(k:Go P fn R (znx s v) w):Go P fn R s w:=by
 by_cases he:Zgv s=true
 ·exact zgo h he fun K hK=>Uw (hv w (.inl rfl)) (hK _ _ (Wk _ (U3 _ _)) k)
 ·obtain⟨n,ks,c,kv⟩:=s;cases c with
  | tak sf all f done i =>
   unfold zop at h;dsimp only at h;split at h
   ·rename_i o' ho;split at h
    ·rename_i hw;obtain rfl:o'=o:=(by simpa using h);intro h1 h2 hs;have a0:all.toArray[i]? = some o':=(by rw[Le,←Sh];exact ho);have a1:Go P fn R ⟨n,ks,.any sf all f (i::done),Ztc kv o'.dst v⟩ w:=by
      have e:znx ⟨n,ks,.tak sf all f done i,kv⟩ v=⟨n,ks,.any sf all f (i::done),Ztc kv o'.dst v⟩:=(by simp only[znx,ho]);rw[←e];exact k
     have:=a1 hs;rw[←Rj,←Zno] at this;exact wpAnyH_take a0 hs h1 (by rw[Bj];exact h2) (KQ_put P fn R ks _ _) (.inl ⟨by rw[Zg2];exact hw,fun V hV=>hv V (.inr ⟨rfl,hV⟩)⟩) (sf.refl w) this
    ·cases h
   ·cases h
  | _=>exact absurd rfl he
end
def Zuz:Nat→V6 V2→V6 (Nat×V2)
 | _,[]=>[]
 | i,v::r=>(i,v)::Zuz (i+1) r
theorem Zmk:∀ (l:V6 V2) (i k:Nat),i≤k→zlk (Zuz i l) k=(l[k-i]?).getD undef
 | [],_,_,_=>rfl
 | v::r,i,k,h=>by
  rw[Zuz,Re];by_cases e:i=k
  ·subst e;simp
  ·rw[V7 e,Zmk r (i+1) k M0,show k-i=(k-(i+1))+1 by omega,List.getElem?_cons_succ]
def zbody(fn:Func):Code:=match fn.body with
 | some c=>c
 | none=>.skip
theorem Zx6(args:Array V2)(m:Nat):(⟨args++Array.replicate (m-args.size) undef,[]⟩:Act)=zact (args.size+(m-args.size)) (Zuz 0 args.toList):=by
 unfold zact;congr 1;apply Array.ext_getElem?;intro i;rw[Array.getElem?_append];conv=>rhs;rw[Le,C3]
 by_cases h:i<args.size+(m-args.size)
 ·rw[C1 h,D3,Zmk _ _ _ (A5 _)];by_cases h2:i<args.size
  ·simp[h2]
  ·rw[V7 h2,Array.getElem?_replicate,V8 M0];simp[h2]
 ·have:(range (args.size+(m-args.size)))[i]? = none:=by simp;omega
  rw[this,V7 M0,Array.getElem?_replicate,V7 M0];rfl
def zsz (P:V4)(t:V3)(n:Nat):Bool:=match P.info? t with
 | some i=>Nat.beq i.size n
 | none=>false
theorem Zhc{P:V4}{t:V3}{n:Nat}(h:zsz P t n=true):(P.info? t).map (·.size)=some n:=by
 unfold zsz at h;split at h
 ·rename_i i hi;rw[hi];simp[K1 h]
 ·cases h
def zrow(P:V4)(t:V3):Bool:=match P.underlying t with
 | some d=>d.isRow
 | none=>false
def Rh(w:V1)(p:Addr)(cs:V6 V2):Prop:=∃ b off,p=⟨b,off,none⟩∧w.rangeAt b off cs
theorem Blk.rp{w:V1}{b:Nat}{cs:V6 V2}{t:V3}(h:Blk w b cs t):Rh w ⟨b,0,none⟩ cs:=⟨b,0,rfl,h.b0⟩
theorem Blk.a2{w:V1}{b:Nat}{cs:V6 V2}{t:V3}(h:Blk w b cs t)(off n:Nat)(hn:off+n≤cs.length:=by first|decide|simp):Rh w ⟨b,off,none⟩ ((cs.drop off).take n):=⟨b,off,rfl,h.part off n hn⟩
theorem Sts.rp{α:Type}{f:α→V6 V2}{m:Nat}{w:V1}{b:O0}{c k:Nat}{l:V6 α}(h:Sts f w (.slice b l.length c) l)(hm:∀ x,(f x).length=m)(dflt:α)(hk:k<l.length)(hm0:0<m):Rh w (Zx b (k*m)) (f (l.getD k dflt)):=by
 obtain⟨g,og,rfl⟩:=h.at hm hm0 M0;refine⟨g,og+k*m,by simp[Zx,Addr.add_mid],fun j v hj=>?_⟩;have:=(h.cell hm dflt hk hj).2;simpa [Zx,Addr.add_mid] using this
theorem Rh.i{w V:V1}{p:Addr}{cs:V6 V2}(h:Rh w p cs)(hb:B3 w V):Rh V p cs:=by
 obtain⟨b,a0,e,h⟩:=h;exact⟨b,a0,e,fun j v hj=>Fh hb (h j v hj)⟩
noncomputable section
variable (P:V4) (s:Zs)
def Dq:Bool:=match s.c with
 | .tak sf _ _ _ _=>match sf with
  | .z=>true
  | .t _ _=>false
  | .f _ _=>false
 | .any _ _ _ _=>false
 | _=>true
def Uh:Bool:=match s.c with
 | .ops _ _=>true
 | _=>false
def zsf:Option SF:=match s.c with
 | .one sf _ _ _ _=>some sf
 | _=>none
def ztsf:Option SF:=match s.c with
 | .tak sf _ _ _ _=>some sf
 | _=>none
def zld:O0:=match zop s with
 | some o=>match o.op with
  | .load t x=>match aggB P t with
   | some b=>Bool.rec (motive:=fun _=>O0) (match zev s.n s.kv x with
    | .pointer (some p)=>some p
    | _=>none) none b
   | none=>none
  | _=>none
 | none=>none
def zldv(n:Nat):O0:=match zop s with
 | some o=>match o.op with
  | .load t x=>match zrow P t&&zsz P t n with
   | true=>match zev s.n s.kv x with
    | .pointer (some p)=>some p
    | _=>none
   | false=>none
  | _=>none
 | none=>none
def zldb(n:Nat):Option (Nat×Nat):=match zld P s with
 | some ⟨b,off,sp⟩=>match sp with
  | none=>Bool.rec (motive:=fun _=>Option (Nat×Nat)) none (some (b,off)) (Nat.blt off n)
  | some _=>none
 | none=>none
def zst:Option (Addr×V2):=match zop s with
 | some o=>match o.op with
  | .store t x y=>match zsz P t 1 with
   | true=>match zev s.n s.kv x with
    | .pointer (some p)=>match (zev s.n s.kv y).oneCell' with
     | true=>some (p,zev s.n s.kv y)
     | false=>none
    | _=>none
   | false=>none
  | _=>none
 | none=>none
def zstc(cs:V6 V2):Option (Nat×V6 V2):=match zst P s with
 | some (⟨b,off,sp⟩,v)=>match sp with
  | none=>Bool.rec (motive:=fun _=>Option (Nat×V6 V2)) none (some (b,cs.set off v)) (Nat.blt off cs.length)
  | some _=>none
 | none=>none
def zstv:Option (Addr×V6 V2):=match zop s with
 | some o=>match o.op with
  | .store t x y=>match zev s.n s.kv y with
   | .agg vs=>match zsz P t vs.size with
    | true=>match zev s.n s.kv x with
     | .pointer (some p)=>some (p,vs.toList)
     | _=>none
    | false=>none
   | _=>none
  | _=>none
 | none=>none
def zstvc(cs:V6 V2):Option (Nat×V6 V2):=match zstv P s with
 | some (⟨b,off,sp⟩,vs)=>match sp with
  | none=>match vs.all (·.oneCell')&&Nat.ble (off+vs.length) cs.length with
   | true=>some (b,cs.take off++vs++cs.drop (off+vs.length))
   | false=>none
  | some _=>none
 | none=>none
def zal:Option (V3×V6 V2):=match zop s with
 | some o=>match o.op with
  | .alloc t=>match Zt3 P t with
   | some cs=>some (t,cs)
   | none=>none
  | .box t x=>some (t,(zev s.n s.kv x).cells.toList)
  | _=>none
 | none=>none
def zbs:Option (Nat×V3×V6 V2):=match zop s with
 | some o=>match o.op with
  | .buildSlice t n parts=>match built P t n (parts.toList.map fun p=>(p.1,zev s.n s.kv p.2)) with
   | some (e,cs)=>some (n,e,cs)
   | none=>none
  | _=>none
 | none=>none
def zb0:Option V3:=match zop s with
 | some o=>match o.op with
  | .buildSlice t m parts=>match P.underlying t with
   | some (.slice e)=>match Nat.beq m 0&&parts.toList.isEmpty&&(P.info? e).isSome with
    | true=>some e
    | false=>none
   | _=>none
  | _=>none
 | none=>none
def zcl:Option (FuncId×V6 V2):=match zop s with
 | some o=>match o.op with
  | .call c=>match c.callee with
   | .value x=>match zev s.n s.kv x with
    | .func (.func f) fi lb=>match fi.toList with
     | []=>some (f,c.args.toList.map (zev s.n s.kv)++lb.toList)
     | _=>none
    | _=>none
   | _=>none
  | _=>none
 | none=>none
def zpv:Option V2:=match zop s with
 | some o=>match Mz P (execOp (zev s.n s.kv) o) with
  | some (.value v)=>some v
  | _=>none
 | none=>none
def zix:Option (O0×Nat×Int×Nat):=match zop s with
 | some o=>match o.op with
  | .indexAddr t x y=>match P.underlying t with
   | some (.slice e)=>match P.info? e with
    | some i=>match zev s.n s.kv x with
     | .slice a n _=>match zev s.n s.kv y with
      | .int _ j=>some (a,n,j,i.size)
      | _=>none
     | _=>none
    | none=>none
   | _=>none
  | _=>none
 | none=>none
def zcd:Option V2:=match s.c with
 | .code c=>match c with
  | .cond x _ _=>some (zev s.n s.kv x)
  | _=>none
 | _=>none
def zth (t:Bool):Zs:=match s with
 | ⟨n,ks,c,kv⟩=>match c with
  | .code c=>match c with
   | .cond x a b=>⟨n,ks,.code (Bool.rec (motive:=fun _=>Code) b a t),kv⟩
   | c=>⟨n,ks,.code c,kv⟩
  | c=>⟨n,ks,c,kv⟩
def zset(is:V6 Nat)(t:Bool):Zs:=match s with
 | ⟨n,ks,c,kv⟩=>⟨n,ks,c,is.map (fun i=>(i,Value.bool t))++kv⟩
def zrl (n:Nat)(kv:V6 (Nat×V2))(l:V6 ResultVar):Option (V6 V2):=List.rec (motive:=fun _=>Option (V6 V2)) (some []) (fun r _ ih=>match r with
 | .tmp t=>match ih with
  | some vs=>some (zget n kv t::vs)
  | none=>none
 | .cell _ _=>none) l
def zvs (vs:V6 V2):V2:=match vs with
 | [v]=>v
 | vs=>.tuple vs.toArray
def zfin:Bool:=match s.ks with
 | []=>match s.c with
  | .ex e=>match e with
   | .normal=>true
   | .ret=>true
   | _=>false
  | _=>false
 | _=>false
def zres(fn:Func):Option V2:=match zfin s with
 | true=>match zrl s.n s.kv fn.results.toList with
  | some vs=>some (zvs vs)
  | none=>none
 | false=>none
def zrlc(n:Nat)(kv:V6 (Nat×V2))(cs:V6 V2)(l:V6 ResultVar):Option (Option Nat×V6 V2):=List.rec (motive:=fun _=>Option (Option Nat×V6 V2)) (some (none,[])) (fun r _ ih=>match r with
 | .tmp t=>match ih with
  | some (o,vs)=>some (o,zget n kv t::vs)
  | none=>none
 | .cell k t=>match zget n kv k with
  | .pointer (some ⟨b,off,sp⟩)=>match sp with
   | none=>match Nat.beq off 0&&(zrow P t&&zsz P t cs.length) with
    | true=>match ih with
     | some (o,vs)=>match o with
      | none=>some (some b,.agg cs.toArray::vs)
      | some _=>none
     | none=>none
    | false=>none
   | some _=>none
  | _=>none) l
def zresc(fn:Func)(cs:V6 V2):Option (Nat×V2):=match zfin s with
 | true=>match zrlc P s.n s.kv cs fn.results.toList with
  | some (o,vs)=>match o with
   | some b=>some (b,zvs vs)
   | none=>none
  | none=>none
 | false=>none
def zisl:Bool:=match s.c with
 | .code c=>match c with
  | .loop _=>true
  | _=>false
 | _=>false
def zlp (n:Nat)(J:Act→V1→Prop)(kv:V6 (Nat×V2)):Zs:=match s with
 | ⟨_,ks,c,_⟩=>match c with
  | .code c=>match c with
   | .loop b=>⟨n,.jn J::ks,.code b,kv⟩
   | _=>⟨n,ks,.code c,kv⟩
  | c=>⟨n,ks,c,kv⟩
def zend:Option (Act→V1→Prop):=match s.c with
 | .ex e=>match e with
  | .normal=>match s.ks with
   | .jn J::_=>some J
   | _=>none
  | _=>none
 | _=>none
def zun (m:Nat):Zs:=match s with
 | ⟨n,ks,c,kv⟩=>match c with
  | .code c=>match c with
   | .loop b=>⟨n,.rnd b m::ks,.code b,kv⟩
   | c=>⟨n,ks,.code c,kv⟩
  | c=>⟨n,ks,c,kv⟩
def zdr (sf:SF):Zs:=match s with
 | ⟨n,ks,c,kv⟩=>match c with
  | .code c=>match c with
   | .region _ ops _=>⟨n,ks,.any sf ops.toList ops.toList.length [],kv⟩
   | c=>⟨n,ks,.code c,kv⟩
  | c=>⟨n,ks,c,kv⟩
def zisd:Bool:=match s.c with
 | .code c=>match c with
  | .region _ ops d=>d&&Region.noSelect ops.toList.toArray
  | _=>false
 | _=>false
end
section
variable {P:V4} {fn:Func} {R:V5→V1→Prop} {w:V1} {s:Zs}
theorem zin{f:FuncId}{args:Array V2}(n:Nat)(hf:P.funcs[f]? = some fn)(h:Go P fn R ⟨n,[],.code (zbody fn),Zuz 0 args.toList⟩ w)(hb:fn.body.isSome=true:=by kernel_rfl)(hn:args.size+(fn.ntmps-args.size)=n:=by kernel_rfl):Calls P f args w R:=by
 obtain⟨c,hc⟩:=Option.isSome_iff_exists.1 hb;refine calls_of_wp hf hc ?_;rw[Zx6,hn];have e:zbody fn=c:=by unfold zbody;rw[hc]
 rw[←e];exact h
theorem Qq{α:Type}{F:Oper→Option α}{a:α}(h:(match zop s with|some o=>F o|none=>none)=some a):∃ o,zop s=some o∧F o=some a:=by
 split at h
 ·exact⟨_,Y3,h⟩
 ·cases h
theorem Gk{V:V1}(h:Dq s=true)(hv:V=w∨Zgv s=false∧Zql s w V):B3 w V:=by
 rcases hv with rfl|⟨he,hr⟩
 ·exact U3 _ _
 ·obtain⟨n,ks,c,kv⟩:=s;cases c with
  | tak sf all f done i =>
   cases sf with
   | z=>exact hr
   | t B T=>cases h
   | f B S=>cases h
  | _=>cases he
theorem Zfb{V:V1}{sf:SF}(h:ztsf s=some sf)(hv:V=w∨Zgv s=false∧Zql s w V):sf.rel w V:=by
 rcases hv with rfl|⟨he,hr⟩
 ·exact SF.refl _ _
 ·obtain⟨n,ks,c,kv⟩:=s;cases c with
  | tak sf' all f done i =>
   obtain rfl:sf'=sf:=(by simpa [ztsf] using h);exact hr
  | _=>cases h
theorem Zw2{p:Addr}(h:zld P s=some p):∃ o,zop s=some o∧∀ V v,V.cell? p=some v→(execOp (zact s.n s.kv).eval o).run P V=.ok (.value v) V:=by
 obtain⟨o,ho,h⟩:=Qq h;refine⟨o,ho,fun V v hv=>?_⟩;split at h
 ·rename_i t x a0;split at h
  ·rename_i b hb;cases b with
   | true=>cases h
   | false =>
    dsimp only at h;split at h
    ·rename_i p' hp;simp only[A0] at h;subst h;simp only[execOp,a0,Zu,hp,C9,Zad hb hv];rfl
    ·cases h
  ·cases h
 ·cases h
theorem xl(q:Zq){p:Addr}{v:V2}(hc:w.cell? p=some v)(k:Go P fn R (znx (zq P q s) v) w)(h:zld P (zq P q s)=some p:=by kernel_rfl)(hz:Dq (zq P q s)=true:=by kernel_rfl):Go P fn R s w:=by
 obtain⟨o,ho,hr⟩:=Zw2 h;exact Zw q s (Zf2 ho (fun V hV=>hr V v (Fh (Gk hz hV) hc)) k)
theorem xlt(q:Zq){p:Addr}{v:V2}(sf:SF)(hc:∀ V,sf.rel w V→V.cell? p=some v)(k:Go P fn R (znx (zq P q s) v) w)(h:zld P (zq P q s)=some p:=by kernel_rfl)(hz:ztsf (zq P q s)=some sf:=by kernel_rfl):Go P fn R s w:=by
 obtain⟨o,ho,hr⟩:=Zw2 h;exact Zw q s (Zf2 ho (fun V hV=>hr V v (hc V (Zfb hz hV))) k)
theorem pk_get(cs:V6 V2)(i:Nat)(h:i<cs.length):cs[i]? = some (pk cs i):=by
 induction cs generalizing i with
 | nil=>simp at h
 | cons x r ih =>
  cases i with
  | zero=>rfl
  | succ j=>exact ih j (by simpa using h)
theorem Zac{b i:Nat}{cs:V6 V2}{t:V3}{V:V1}(h:zldb P s cs.length=some (b,i))(kb:Blk V b cs t):zld P s=some ⟨b,i,none⟩∧V.cell? ⟨b,i,none⟩=some (pk cs i):=by
 unfold zldb at h;split at h
 ·rename_i b' a0 sp hp;cases sp with
  | some _=>cases h
  | none =>
   dsimp only at h;rw[Zga] at h;by_cases ho:a0<cs.length
   ·simp only[ho,decide_true,A0,D9] at h;obtain⟨rfl,rfl⟩:=h;exact⟨hp,kb.cell (pk_get cs _ ho)⟩
   ·simp[ho] at h
 ·cases h
theorem xb(q:Zq)(i:Nat){b:Nat}{cs:V6 V2}{t:V3}(kb:Blk w b cs t)(k:Go P fn R (znx (zq P q s) (pk cs i)) w)(h:zldb P (zq P q s) cs.length=some (b,i):=by kernel_rfl)(hz:Dq (zq P q s)=true:=by kernel_rfl):Go P fn R s w:=by
 obtain⟨hp,hc⟩:=Zac h kb;exact xl q hc k hp hz
theorem xbt(q:Zq)(i:Nat){b:Nat}{cs:V6 V2}{t:V3}(B:Nat)(T:V6 V3)(kb:Blk w b cs t)(k:Go P fn R (znx (zq P q s) (pk cs i)) w)(h:zldb P (zq P q s) cs.length=some (b,i):=by kernel_rfl)(hz:ztsf (zq P q s)=some (.t B T):=by kernel_rfl)(hT:T.contains t=false:=by decide):Go P fn R s w:=by
 obtain⟨hp,_⟩:=Zac h kb;exact xlt q (.t B T) (fun V hV=>(Zac h (kb.q hV.2 hT)).2) k hp hz
theorem Zne{p:Addr}{n:Nat}(h:zldv P s n=some p):∃ o,zop s=some o∧∀ V cs,cs.length=n→Rh V p cs→(execOp (zact s.n s.kv).eval o).run P V=.ok (.value (.agg cs.toArray)) V:=by
 obtain⟨o,ho,h⟩:=Qq h;refine⟨o,ho,fun V cs hn hv=>?_⟩;subst hn;split at h
 ·rename_i t x a0;split at h
  ·rename_i hb;simp only[E2] at hb;split at h
   ·rename_i p' hp;simp only[A0] at h;subst h;obtain⟨b,a1,rfl,hv⟩:=hv;have hu:=hb.1;unfold zrow at hu;split at hu
    ·rename_i d hd;simp only[execOp,a0,Zu,hp,Instr.loadAt,Instr.sureAddr,C9,H5,E0,run_loadVar_mid V b a1 t cs d hv hd hu (Zhc hb.2)]
    ·cases hu
   ·cases h
  ·cases h
 ·cases h
theorem xlv(q:Zq){p:Addr}{cs:V6 V2}(hc:Rh w p cs)(k:Go P fn R (znx (zq P q s) (.agg cs.toArray)) w)(h:zldv P (zq P q s) cs.length=some p:=by kernel_rfl)(hz:Dq (zq P q s)=true:=by kernel_rfl):Go P fn R s w:=by
 obtain⟨o,ho,hr⟩:=Zne h;exact Zw q s (Zf2 ho (fun V hV=>hr V cs rfl (hc.i (Gk hz hV))) k)
theorem xlvt(q:Zq){p:Addr}{cs:V6 V2}(sf:SF)(hc:∀ V,sf.rel w V→Rh V p cs)(k:Go P fn R (znx (zq P q s) (.agg cs.toArray)) w)(h:zldv P (zq P q s) cs.length=some p:=by kernel_rfl)(hz:ztsf (zq P q s)=some sf:=by kernel_rfl):Go P fn R s w:=by
 obtain⟨o,ho,hr⟩:=Zne h;exact Zw q s (Zf2 ho (fun V hV=>hr V cs rfl (hc V (Zfb hz hV))) k)
theorem Vm{s:Zs}{w W:V1}(h:Uh s=true):Zql s w W:=by
 obtain⟨n,ks,c,kv⟩:=s;cases c<;>first|trivial|cases h
theorem Ve{s:Zs}(h:Uh s=true):Zgv s=true:=by
 obtain⟨n,ks,c,kv⟩:=s;cases c<;>first|rfl|cases h
theorem Zet{s:Zs}{sf:SF}{w W:V1}(h:zsf s=some sf)(hr:sf.rel w W):Zql s w W:=by
 obtain⟨n,ks,c,kv⟩:=s;cases c with
 | one sf' _ _ _ _ =>
  obtain rfl:sf'=sf:=by simpa [zsf] using h
  exact hr
 | _=>cases h
theorem Zgm{s:Zs}{sf:SF}(h:zsf s=some sf):Zgv s=true:=by
 obtain⟨n,ks,c,kv⟩:=s;cases c<;>first|rfl|cases h
theorem zst_op{b off:Nat}{v:V2}{cs:V6 V2}{t:V3}(h:zst P s=some (⟨b,off,none⟩,v))(kb:Blk w b cs t)(hoff:off<cs.length)(he:Zgv s=true)(k:∀ W,Upd w b W→Blk W b (cs.set off v) t→Zql s w W∧Go P fn R (znx s undef) W):Go P fn R s w:=by
 obtain⟨o,ho,h⟩:=Qq h;refine zgo ho he fun K hK=>?_;split at h
 ·rename_i t x y a0;split at h
  ·rename_i hs;split at h
   ·rename_i p hp;split at h
    ·rename_i h1;simp only[A0,D9] at h;obtain⟨rfl,rfl⟩:=h;exact Kk a0 (by rw[Zu];exact hp) (by rw[Zu]) (Zhc hs) h1 kb hoff fun W u kW=>hK _ _ (k W u kW).1 (k W u kW).2
    ·cases h
   ·cases h
  ·cases h
 ·cases h
theorem Zxp{b:Nat}{cs cs':V6 V2}{t:V3}(h:zstc P s cs=some (b,cs'))(kb:Blk w b cs t)(he:Zgv s=true)(k:∀ W,Upd w b W→Blk W b cs' t→Zql s w W∧Go P fn R (znx s undef) W):Go P fn R s w:=by
 unfold zstc at h;split at h
 ·rename_i b' a0 sp v hp;cases sp with
  | some _=>cases h
  | none =>
   dsimp only at h;rw[Zga] at h;by_cases ho:a0<cs.length
   ·simp only[ho,decide_true,A0,D9] at h;obtain⟨rfl,rfl⟩:=h;exact zst_op hp kb ho he k
   ·simp[ho] at h
 ·cases h
theorem xs(q:Zq){b:Nat}{cs:V6 V2}{t:V3}(kb:Blk w b cs t)(cs':V6 V2)(k:∀ W,Upd w b W→Blk W b cs' t→Go P fn R (znx (zq P q s) undef) W)(h:zstc P (zq P q s) cs=some (b,cs'):=by kernel_rfl)(hz:Uh (zq P q s)=true:=by kernel_rfl):Go P fn R s w :=
 Zw q s (Zxp h kb (Ve hz) fun W u kW=>⟨Vm hz,k W u kW⟩)
theorem ys(q:Zq){b:Nat}{cs:V6 V2}{t:V3}(kb:Blk w b cs t)(cs':V6 V2)(sf:SF)(k:∀ W,Upd w b W→Blk W b cs' t→sf.rel w W∧Go P fn R (znx (zq P q s) undef) W)(h:zstc P (zq P q s) cs=some (b,cs'):=by kernel_rfl)(hz:zsf (zq P q s)=some sf:=by kernel_rfl):Go P fn R s w :=
 Zw q s (Zxp h kb (Zgm hz) fun W u kW=>⟨Zet hz (k W u kW).1,(k W u kW).2⟩)
theorem xsg(q:Zq){b:Nat}{cs:V6 V2}{t:V3}(kb:Blk w b cs t)(off:Nat)(v:V2)(hoff:off<cs.length)(k:∀ W,Upd w b W→Blk W b (cs.set off v) t→Go P fn R (znx (zq P q s) undef) W)(h:zst P (zq P q s)=some (⟨b,off,none⟩,v):=by kernel_rfl)(hz:Uh (zq P q s)=true:=by kernel_rfl):Go P fn R s w :=
 Zw q s (zst_op h kb hoff (Ve hz) fun W u kW=>⟨Vm hz,k W u kW⟩)
theorem Zxz{b off:Nat}{vs cs:V6 V2}{t:V3}(h:zstv P s=some (⟨b,off,none⟩,vs))(h1:∀ v∈vs,v.oneCell'=true)(kb:Blk w b cs t)(hoff:off+vs.length≤cs.length)(he:Zgv s=true)(k:∀ W,Upd w b W→Blk W b (cs.take off++vs++cs.drop (off+vs.length)) t→Zql s w W∧Go P fn R (znx s undef) W):Go P fn R s w:=by
 obtain⟨o,ho,h⟩:=Qq h;refine zgo ho he fun K hK=>?_;split at h
 ·rename_i t x y a0;split at h
  ·rename_i a1 hv;split at h
   ·rename_i hs;split at h
    ·rename_i p hp;simp only[A0,D9] at h;obtain⟨rfl,rfl⟩:=h;exact Ny _ a0 (by rw[Zu];exact hp) (by rw[Zu];exact hv) (by rw[Zhc hs];simp) h1 kb hoff fun W u kW=>hK _ _ (k W u kW).1 (k W u kW).2
    ·cases h
   ·cases h
  ·cases h
 ·cases h
theorem Znv{b:Nat}{cs cs':V6 V2}{t:V3}(h:zstvc P s cs=some (b,cs'))(kb:Blk w b cs t)(he:Zgv s=true)(k:∀ W,Upd w b W→Blk W b cs' t→Zql s w W∧Go P fn R (znx s undef) W):Go P fn R s w:=by
 unfold zstvc at h;split at h
 ·rename_i b' a0 sp vs hp;cases sp with
  | some _=>cases h
  | none =>
   dsimp only at h;split at h
   ·rename_i hc;simp only[E2,I0] at hc;simp only[A0,D9] at h;obtain⟨rfl,rfl⟩:=h;exact Zxz hp hc.1 kb (Nat.le_of_ble_eq_true hc.2) he k
   ·cases h
 ·cases h
theorem xsv(q:Zq){b:Nat}{cs:V6 V2}{t:V3}(kb:Blk w b cs t)(cs':V6 V2)(k:∀ W,Upd w b W→Blk W b cs' t→Go P fn R (znx (zq P q s) undef) W)(h:zstvc P (zq P q s) cs=some (b,cs'):=by kernel_rfl)(hz:Uh (zq P q s)=true:=by kernel_rfl):Go P fn R s w :=
 Zw q s (Znv h kb (Ve hz) fun W u kW=>⟨Vm hz,k W u kW⟩)
theorem ysv(q:Zq){b:Nat}{cs:V6 V2}{t:V3}(kb:Blk w b cs t)(cs':V6 V2)(sf:SF)(k:∀ W,Upd w b W→Blk W b cs' t→sf.rel w W∧Go P fn R (znx (zq P q s) undef) W)(h:zstvc P (zq P q s) cs=some (b,cs'):=by kernel_rfl)(hz:zsf (zq P q s)=some sf:=by kernel_rfl):Go P fn R s w :=
 Zw q s (Znv h kb (Zgm hz) fun W u kW=>⟨Zet hz (k W u kW).1,(k W u kW).2⟩)
theorem xsvg(q:Zq){b:Nat}{cs:V6 V2}{t:V3}(kb:Blk w b cs t)(off:Nat)(vs:V6 V2)(h1:∀ v∈vs,v.oneCell'=true)(hoff:off+vs.length≤cs.length)(k:∀ W,Upd w b W→Blk W b (cs.take off++vs++cs.drop (off+vs.length)) t→Go P fn R (znx (zq P q s) undef) W)(h:zstv P (zq P q s)=some (⟨b,off,none⟩,vs):=by kernel_rfl)(hz:Uh (zq P q s)=true:=by kernel_rfl):Go P fn R s w :=
 Zw q s (Zxz h h1 kb hoff (Ve hz) fun W u kW=>⟨Vm hz,k W u kW⟩)
theorem xa(q:Zq)(cs:V6 V2)(t:V3)(k:∀ b W,New w b cs t W→Go P fn R (znx (zq P q s) (P0 b)) W)(h:zal P (zq P q s)=some (t,cs):=by kernel_rfl)(hz:Zgv (zq P q s)=true:=by kernel_rfl):Go P fn R s w:=by
 obtain⟨o,ho,h⟩:=Qq h;refine Zw q s (zgo ho hz fun K hK=>?_);split at h
 ·rename_i t' a0;split at h
  ·rename_i a1 hc;simp only[A0,D9] at h;obtain⟨rfl,rfl⟩:=h;exact Jw _ a0 hc fun b W n=>hK _ _ (Wk _ n.i) (k b W n)
  ·cases h
 ·rename_i t' x a0;simp only[A0,D9] at h;obtain⟨rfl,rfl⟩:=h;exact Zc5 _ a0 (by rw[Zu,I7]) fun b W n=>hK _ _ (Wk _ n.i) (k b W n)
 ·cases h
theorem xbs(q:Zq)(m:Nat)(cs:V6 V2)(t:V3)(k:∀ b W,New w b cs t W→Go P fn R (znx (zq P q s) (.slice (S3 b) m m)) W)(h:zbs P (zq P q s)=some (m,t,cs):=by kernel_rfl)(hz:Zgv (zq P q s)=true:=by kernel_rfl):Go P fn R s w:=by
 obtain⟨o,ho,h⟩:=Qq h;refine Zw q s (zgo ho hz fun K hK=>?_);split at h
 ·rename_i t' m' a0 a1;split at h
  ·rename_i e a2 hc;simp only[A0,D9] at h;obtain⟨rfl,rfl,rfl⟩:=h;exact Yl _ _ a1 (by rw[Zu];exact hc) fun b W n=>hK _ _ (Wk _ n.i) (k b W n)
  ·cases h
 ·cases h
theorem xb0(q:Zq)(e:V3)(k:∀ b W,New w b [] e W→Go P fn R (znx (zq P q s) (.slice (S3 b) 0 0)) W)(h:zb0 P (zq P q s)=some e:=by kernel_rfl)(hz:Zgv (zq P q s)=true:=by kernel_rfl):Go P fn R s w:=by
 obtain⟨o,ho,h⟩:=Qq h;refine Zw q s (zgo ho hz fun K hK=>?_);split at h
 ·rename_i t m a0 a1;split at h
  ·rename_i e' hu;split at h
   ·rename_i hc;simp only[A0] at h;subst h;simp only[E2,List.isEmpty_iff] at hc;obtain⟨⟨h1,h2⟩,h3⟩:=hc;obtain rfl:m=0:=K1 h1;obtain rfl:a0=#[]:=(by apply Array.ext';simpa using h2);exact Zcu a1 hu h3 fun b W n=>hK _ _ (Wk _ n.i) (k b W n)
   ·cases h
  ·cases h
 ·cases h
@[reducible] def zret (P:V4) (fn:Func) (R:V5→V1→Prop) (s:Zs) (e:V5) (W:V1):Prop:=match e with
 | .returned v=>Go P fn R (znx s v) W
 | _=>False
@[reducible] def zretd (P:V4) (fn:Func) (R:V5→V1→Prop) (s:Zs) (sf:SF) (w:V1) (e:V5) (W:V1):Prop:=match e with
 | .returned v=>sf.rel w W∧Go P fn R (znx s v) W
 | _=>False
theorem Zu3{f:FuncId}{args:Array V2}{post:V5→V1→Prop}(h:zcl s=some (f,args.toList))(he:Zgv s=true)(hf:∀ xs w,(callFunc f xs).run P w=.ok (.enter f xs) w)(hc:Calls P f args w post)(k:∀ e W,post e W→∃ v,e=.returned v∧Zql s w W∧Go P fn R (znx s v) W):Go P fn R s w:=by
 obtain⟨o,ho,h⟩:=Qq h;refine zgo ho he fun K hK=>?_;split at h
 ·rename_i c a5;split at h
  ·rename_i x a0;split at h
   ·rename_i f' fi lb hx;split at h
    ·rename_i a4;simp only[A0,D9] at h;obtain⟨rfl,ha⟩:=h;obtain⟨a1,a3,a6⟩:=c;dsimp only at a0 ha;subst a0;have a2:fi=#[]:=(by apply Array.ext';simpa using a4);subst a2;refine Ks (lb:=lb) f' args a5 (by rw[Zu];exact hx) hf ?_ (hc.mono fun e W hp=>?_)
     ·apply Array.ext';rw[←ha,Zu];simp
     ·obtain⟨v,rfl,hr,hg⟩:=k e W hp;exact⟨v,rfl,hK _ _ hr hg⟩
    ·cases h
   ·cases h
  ·cases h
 ·cases h
theorem xc(q:Zq){f:FuncId}{args:Array V2}{post:V5→V1→Prop}(hc:Calls P f args w post)(k:∀ e W,post e W→zret P fn R (zq P q s) e W)(h:zcl (zq P q s)=some (f,args.toList):=by kernel_rfl)(hz:Uh (zq P q s)=true:=by kernel_rfl)(hf:∀ xs w,(callFunc f xs).run P w=.ok (.enter f xs) w:=by intro _ _;kernel_rfl):Go P fn R s w :=
 Zw q s (Zu3 h (Ve hz) hf hc fun e W hp=>by
  have:=k e W hp;cases e with
  | returned v=>exact⟨v,rfl,Vm hz,this⟩
  | _=>exact this.elim)
theorem yc(q:Zq){f:FuncId}{args:Array V2}{post:V5→V1→Prop}(sf:SF)(hc:Calls P f args w post)(k:∀ e W,post e W→zretd P fn R (zq P q s) sf w e W)(h:zcl (zq P q s)=some (f,args.toList):=by kernel_rfl)(hz:zsf (zq P q s)=some sf:=by kernel_rfl)(hf:∀ xs w,(callFunc f xs).run P w=.ok (.enter f xs) w:=by intro _ _;kernel_rfl):Go P fn R s w :=
 Zw q s (Zu3 h (Zgm hz) hf hc fun e W hp=>by
  have:=k e W hp;cases e with
  | returned v=>exact⟨v,rfl,Zet hz this.1,this.2⟩
  | _=>exact this.elim)
theorem xr(q:Zq){f:FuncId}{args:Array V2}{v:V2}(hc:Calls P f args w (Ret v w))(k:∀ W,B3 w W→Go P fn R (znx (zq P q s) v) W)(h:zcl (zq P q s)=some (f,args.toList):=by kernel_rfl)(hz:Zgv (zq P q s)=true:=by kernel_rfl)(hf:∀ xs w,(callFunc f xs).run P w=.ok (.enter f xs) w:=by intro _ _;kernel_rfl):Go P fn R s w :=
 Zw q s (Zu3 h hz hf hc fun e W hp=>⟨v,hp.1,Wk _ hp.2,k W hp.2⟩)
theorem xq(q:Zq){v v':V2}(e:v'=v)(k:Go P fn R (znx (zq P q s) v) w)(h:zpv P (zq P q s)=some v':=by kernel_rfl):Go P fn R s w:=by
 obtain⟨o,ho,h⟩:=Qq h;refine Zw q s (Zf2 ho (fun V _=>?_) k);split at h
 ·rename_i v2 hv;simp only[A0] at h;subst h e;rw[Zu];exact Wr hv V
 ·cases h
theorem xw(q:Zq)(n:Int)(k:Go P fn R (znx (zq P q s) (V0 n)) w)(h:zpv P (zq P q s)=some (V0 (IntKind.i64.wrap n)):=by kernel_rfl)(hb : -9223372036854775808≤n∧n≤9223372036854775807:=by omega):Go P fn R s w :=
 xq q (congrArg V0 (IntWalk.i64_in n hb)) k h
theorem xwm(q:Zq)(n m:Int)(k:Go P fn R (znx (zq P q s) (V0 m)) w)(h:zpv P (zq P q s)=some (V0 (IntKind.i64.wrap n)):=by kernel_rfl)(hb:(-9223372036854775808≤n∧n≤9223372036854775807)∧n=m:=by omega):Go P fn R s w :=
 xq q (congrArg V0 ((IntWalk.i64_in n hb.1).trans hb.2)) k h
theorem zcd_op{t:Bool}(h:zcd s=some (.bool t))(k:Go P fn R (zth s t) w):Go P fn R s w:=by
 obtain⟨n,ks,c,kv⟩:=s;cases c with
 | code c =>
  cases c with
  | cond x a b =>
   have hx:zev n kv x=.bool t:=(by simpa [zcd] using h);refine wp_cond (t:=t) (by rw[Zu];exact hx) ?_;cases t<;>exact k
  | _=>cases h
 | _=>cases h
theorem xi(q:Zq)(t:Bool)(ht:t=true→Go P fn R (zth (zq P q s) true) w)(hf:t=false→Go P fn R (zth (zq P q s) false) w)(h:zcd (zq P q s)=some (.bool t):=by kernel_rfl):Go P fn R s w:=by
 refine Zw q s (zcd_op h ?_);cases t
 ·exact hf rfl
 ·exact ht rfl
theorem xid(q:Zq)(p:Prop)[Decidable p](ht:p→Go P fn R (zth (zq P q s) true) w)(hf:¬p→Go P fn R (zth (zq P q s) false) w)(h:zcd (zq P q s)=some (.bool (decide p)):=by kernel_rfl):Go P fn R s w :=
 xi q _ (fun e=>ht (U1 e)) (fun e=>hf (U2 e)) h
theorem xie(q:Zq)(a b:Int)(ht:a=b→Go P fn R (zth (zq P q s) true) w)(hf:a≠b→Go P fn R (zth (zq P q s) false) w)(h:zcd (zq P q s)=some (.bool (a==b)):=by kernel_rfl):Go P fn R s w :=
 xi q _ (fun e=>ht (eq_of_beq e)) (fun e=>hf (Vn e)) h
theorem xin(q:Zq)(a b:Int)(ht:a≠b→Go P fn R (zth (zq P q s) true) w)(hf:a=b→Go P fn R (zth (zq P q s) false) w)(h:zcd (zq P q s)=some (.bool (a != b)):=by kernel_rfl):Go P fn R s w :=
 xi q _ (fun e=>ht (Cc e)) (fun e=>hf (Vg e)) h
theorem xk(q:Zq){t u:Bool}(e:t=u)(k:Go P fn R (zth (zq P q s) u) w)(h:zcd (zq P q s)=some (.bool t):=by kernel_rfl):Go P fn R s w :=
 Zw q s (zcd_op h (e▸k))
theorem zlk_set(is:V6 Nat)(v:V2)(kv:V6 (Nat×V2))(h:is.map (zlk kv)=is.map fun _=>v)(k:Nat):zlk (is.map (fun i=>(i,v))++kv) k=zlk kv k:=by
 induction is with
 | nil=>rfl
 | cons i r ih =>
  simp only[D7,I5] at h;rw[D7,Ge,Re];by_cases e:i=k
  ·subst e;rw[V8 rfl];exact h.1.symm
  ·rw[V7 e];exact ih h.2
theorem Zy9{is:V6 Nat}{t:Bool}(h:is.map (zlk s.kv)=is.map fun _=>Value.bool t)(k:Go P fn R (zset s is t) w):Go P fn R s w:=by
 obtain⟨n,ks,c,kv⟩:=s;have e:zact n (is.map (fun i=>(i,Value.bool t))++kv)=zact n kv:=by
  unfold zact;rw[show zlk (is.map (fun i=>(i,Value.bool t))++kv)=zlk kv from funext fun j=>zlk_set is _ kv h j]
 have k':Go P fn R ⟨n,ks,c,is.map (fun i=>(i,Value.bool t))++kv⟩ w:=k;unfold Go at k' ⊢;dsimp only at k' ⊢;rw[e] at k';exact k'
theorem xg(q:Zq)(is:V6 Nat)(t:Bool)(ht:t=true→Go P fn R (zset (zq P q s) is true) w)(hf:t=false→Go P fn R (zset (zq P q s) is false) w)(h:is.map (zlk (zq P q s).kv)=is.map (fun _=>Value.bool t):=by kernel_rfl):Go P fn R s w:=by
 refine Zw q s (Zy9 h ?_);cases t
 ·exact hf rfl
 ·exact ht rfl
theorem xgk(q:Zq)(is:V6 Nat){t u:Bool}(e:t=u)(k:Go P fn R (zset (zq P q s) is u) w)(h:is.map (zlk (zq P q s).kv)=is.map (fun _=>Value.bool t):=by kernel_rfl):Go P fn R s w :=
 Zw q s (Zy9 h (e▸k))
noncomputable def zputs (i:Nat) (v:V2) (s:Zs):Zs:=match s with
 | ⟨n,ks,c,kv⟩=>⟨n,ks,c,(i,v)::kv⟩
theorem xv1(q:Zq)(i:Nat){v v':V2}(e:v'=v)(k:Go P fn R (zputs i v (zq P q s)) w)(h:zlk (zq P q s).kv i=v':=by kernel_rfl):Go P fn R s w:=by
 refine Zw q s ?_;revert k h;generalize zq P q s=s';intro k h;obtain⟨n,ks,c,kv⟩:=s';have e2:zact n ((i,v)::kv)=zact n kv:=by
  unfold zact;rw[show zlk ((i,v)::kv)=zlk kv from funext fun j=>by
   rw[Re];by_cases hj:i=j
   ·subst hj;rw[V8 rfl,←e];exact h.symm
   ·rw[V7 hj]]
 have k':Go P fn R ⟨n,ks,c,(i,v)::kv⟩ w:=k;unfold Go at k' ⊢;dsimp only at k' ⊢;rw[e2] at k';exact k'
def zrf (tmps:Array V2):ResultVar→Sem V2
 | .tmp t=>pure (tmps.getD t undef)
 | .cell a t=>do loadVar t (←asAddr (tmps.getD a undef))
theorem Zrq(fn:Func)(tmps:Array V2):results fn tmps=(do let vs ←fn.results.mapM (zrf tmps);pure (if h:vs.size=1 then vs[0] else .tuple vs)):=by
 unfold results;congr 1
theorem Zyg(n:Nat)(kv:V6 (Nat×V2))(P:V4)(w:V1):∀ (l:V6 ResultVar) (vs:V6 V2),zrl n kv l=some vs→(l.mapM (zrf (zact n kv).tmps)).run P w=.ok vs w
 | [],vs,h=>by cases h;rfl
 | r::l,vs,h=>by
  cases r with
  | cell a t=>cases h
  | tmp t =>
   have h':(match zrl n kv l with|some vs=>some (zget n kv t::vs)|none=>none)=some vs:=h;split at h'
   ·rename_i a0 hv;simp only[A0] at h';subst h';rw[List.mapM_cons];simp only[zrf,C9,H5,E0,Zyg n kv P w l a0 hv,Nm]
   ·cases h'
theorem Eb{tmps:Array V2}{vs:V6 V2}(h:(fn.results.toList.mapM (zrf tmps)).run P w=.ok vs w):(results fn tmps).run P w=.ok (zvs vs) w:=by
 rw[Zrq];have e:fn.results.mapM (zrf tmps)=List.toArray <$> fn.results.toList.mapM (zrf tmps):=by
  rw[←List.mapM_toArray,I7]
 rw[e];simp only[C9,map_eq_pure_bind,h,E0,H5];congr 1;match vs with
 | []=>rfl
 | [v]=>rfl
 | v::u::r=>simp[zvs]
theorem Zlb{v:V2}(hf:zfin s=true)(hr:(results fn (zact s.n s.kv).tmps).run P w=.ok v w)(hR:R (.returned v) w):Go P fn R s w:=by
 obtain⟨n,ks,c,kv⟩:=s;cases ks with
 | cons _ _=>cases hf
 | nil =>
  cases c with
  | ex e =>
   cases e with
   | normal=>exact g_end v rfl hr hR
   | ret=>exact g_ret v rfl hr hR
   | _=>cases hf
  | _=>cases hf
theorem xe(q:Zq)(v:V2)(hR:R (.returned v) w)(h:zres (zq P q s) fn=some v:=by kernel_rfl):Go P fn R s w:=by
 refine Zw q s ?_;unfold zres at h;split at h
 ·rename_i hf;split at h
  ·rename_i vs hv;simp only[A0] at h;subst h;exact Zlb hf (Eb (Zyg _ _ _ _ _ _ hv)) hR
  ·cases h
 ·cases h
theorem Zfi(n:Nat)(kv:V6 (Nat×V2))(w:V1)(cs:V6 V2)(b:Nat)(t:V3)(kb:Blk w b cs t):∀ (l:V6 ResultVar) (o:Option Nat) (vs:V6 V2),zrlc P n kv cs l=some (o,vs)→(o=none∨o=some b)→(l.mapM (zrf (zact n kv).tmps)).run P w=.ok vs w
  | [],o,vs,h,_=>by cases h;rfl
  | r :: l, o, vs, h, ho => by
    rw[List.mapM_cons];cases r with
    | tmp t =>
      have h':(match zrlc P n kv cs l with|some (o,vs)=>some (o,zget n kv t::vs)|none=>none)=some (o,vs):=h;split at h'
      · rename_i o' a0 hv;simp only[A0,D9] at h';obtain⟨rfl,rfl⟩:=h';simp only[zrf,C9,H5,E0,Zfi n kv w cs b _ kb l _ a0 hv ho,Nm]
      · cases h'
    | cell k t' =>
      have h':(match zget n kv k with
        | .pointer (some ⟨b,a1,sp⟩)=>match sp with
          | none=>match Nat.beq a1 0&&(zrow P t'&&zsz P t' cs.length) with
            | true=>match zrlc P n kv cs l with
              | some (o,vs)=>match o with
                | none=>some (some b,.agg cs.toArray::vs)
                | some _=>none
              | none=>none
            | false=>none
          | some _=>none
        | _=>none)=some (o,vs):=h
      split at h'
      · rename_i b' a1 sp hb;cases sp with
        | some _=>cases h'
        | none =>
          dsimp only at h';split at h'
          · rename_i hc;simp only[E2] at hc;split at h'
            · rename_i o' a0 hv;split at h'
              · simp only[A0,D9] at h';obtain⟨rfl,rfl⟩:=h';obtain rfl:b'=b:=(by simpa using ho);obtain rfl:a1=0:=K1 hc.1;have hu:=hc.2.1;unfold zrow at hu;split at hu
                · rename_i d hd;have hl:=run_loadVar_mid (P:=P) w b' 0 t' cs d kb.b0 hd hu (Zhc hc.2.2);have e:(zact n kv).tmps.getD k undef=P0 b':=(by rw[Nm];exact hb);simp only[zrf,e,asAddr,C9,H5,E0,hl,Zfi n kv w cs b' _ kb l none a0 hv (.inl rfl)]
                · cases hu
              · cases h'
            · cases h'
          · cases h'
      · cases h'
theorem xec(q:Zq){b:Nat}{cs:V6 V2}{t:V3}(kb:Blk w b cs t)(v:V2)(hR:R (.returned v) w)(h:zresc P (zq P q s) fn cs=some (b,v):=by kernel_rfl):Go P fn R s w:=by
 refine Zw q s ?_;unfold zresc at h;split at h
 ·rename_i hf;split at h
  ·rename_i o vs hv;split at h
   ·rename_i b';simp only[A0,D9] at h;obtain⟨rfl,rfl⟩:=h;exact Zlb hf (Eb (Zfi _ _ _ _ _ _ kb _ _ _ hv (.inr rfl))) hR
   ·cases h
  ·cases h
 ·cases h
theorem zlk_app(kv' kv:V6 (Nat×V2))(h:kv'.map (fun p=>zlk kv p.1)=kv'.map Prod.snd)(k:Nat):zlk (kv'++kv) k=zlk kv k:=by
 induction kv' with
 | nil=>rfl
 | cons p r ih =>
  obtain⟨d,v⟩:=p;simp only[D7,I5] at h;rw[Ge,Re];by_cases e:d=k
  ·subst e;rw[V8 rfl];exact h.1.symm
  ·rw[V7 e];exact ih h.2
theorem Zmp(n:Nat)(kv' kv:V6 (Nat×V2))(h:kv'.map (fun p=>zlk kv p.1)=kv'.map Prod.snd):zact n (kv'++kv)=zact n kv:=by
 unfold zact;rw[show zlk (kv'++kv)=zlk kv from funext fun j=>zlk_app kv' kv h j]
theorem zl(q:Zq)(n:Nat)(I:Nat→V6 (Nat×V2)→V1→Prop){m0:Nat}{kv0:V6 (Nat×V2)}(h0:I m0 kv0 w)
 (round:∀ m kv V,I m kv V→∀ (J:Act→V1→Prop),(∀ m' kv' V',I m' kv' V'→m'<m→∀ rest,J (zact n (kv'++rest)) V')→∀ rest,Go P fn R (zlp (zq P q s) n J (kv++rest)) V)
 (hn:(zq P q s).n=n:=by kernel_rfl) (hl:zisl (zq P q s)=true:=by kernel_rfl) (hk:kv0.map (fun p=>zlk (zq P q s).kv p.1)=kv0.map Prod.snd:=by kernel_rfl):Go P fn R s w:=by
 refine Zw q s ?_
 revert hn hl hk round
 generalize zq P q s=s'
 intro round hn hl hk
 obtain⟨n',ks,c,kv⟩:=s'
 obtain rfl:n'=n:=hn
 cases c with
 | code c =>
  cases c with
  | loop b =>
   refine wp_loop_ghost (fun m a V=>∃ kv' rest,a=zact n' (kv'++rest)∧I m kv' V) m0 ⟨kv0,kv,(Zmp _ _ _ hk).symm,h0⟩ ?_
   rintro m _ V ⟨kv',rest,rfl,hI⟩
   exact round m kv' V hI _ (fun m' a3 V' a2 a1 a0=>⟨m',a1,a3,a0,rfl,a2⟩) rest
  | _=>cases hl
 | _=>cases hl
theorem ze(q:Zq){n:Nat}{J:Act→V1→Prop}{kv':V6 (Nat×V2)}(hJ:∀ rest,J (zact n (kv'++rest)) w)(h:zend (zq P q s)=some J:=by kernel_rfl)(hn:(zq P q s).n=n:=by kernel_rfl)(hk:kv'.map (fun p=>zlk (zq P q s).kv p.1)=kv'.map Prod.snd:=by kernel_rfl):Go P fn R s w:=by
 refine Zw q s ?_;revert h hn hk;generalize zq P q s=s';intro h hn hk;obtain⟨n',ks,c,kv⟩:=s';obtain rfl:n'=n:=hn;have a0:=hJ kv;rw[Zmp _ _ _ hk] at a0;cases c with
 | ex e =>
  cases e with
  | normal =>
   cases ks with
   | nil=>cases h
   | cons k ks =>
    cases k with
    | jn J' =>
     obtain rfl:J'=J:=(by simpa [zend] using h);exact a0
    | _=>cases h
  | _=>cases h
 | _=>cases h
theorem xu(q:Zq)(m:Nat)(k:Go P fn R (zun (zq P q s) m) w)(hl:zisl (zq P q s)=true:=by kernel_rfl):Go P fn R s w:=by
 refine Zw q s ?_;revert k hl;generalize zq P q s=s';intro k hl;obtain⟨n',ks,c,kv⟩:=s';cases c with
 | code c =>
  cases c with
  | loop b=>exact wp_loop_rounds (m+1) k
  | _=>cases hl
 | _=>cases hl
theorem xd(q:Zq)(sf:SF)(k:Go P fn R (zdr (zq P q s) sf) w.drew)(hd:zisd (zq P q s)=true:=by kernel_rfl)(hm:P.follows .mixedOrders=true:=by kernel_rfl):Go P fn R s w:=by
 refine Zw q s ?_;revert k hd;generalize zq P q s=s';intro k hd;obtain⟨n',ks,c,kv⟩:=s';cases c with
 | code c =>
  cases c with
  | region id ops d =>
   have a0:(d&&Region.noSelect ops.toList.toArray)=true:=hd;simp only[E2] at a0;obtain⟨rfl,hs⟩:=a0;have k':wpAnyH P .any ops.toList.toArray (KQ P fn R ks) (sf.rel w.drew) ops.toList.length (zL ops.toList.length []) (zact n' kv) w.drew:=k hs;rw[I7,←zL_nil,O5] at k';exact wp_region_held_drew hm (SF.refl _ _) fun _=>k'
  | _=>cases hd
 | _=>cases hd
noncomputable def zoneOf (i:Nat) (s:Zs):Zs:=match s with
 | ⟨n,ks,c,kv⟩=>match c with
  | .any sf all f done=>match f with
   | f'+1=>⟨n,ks,.one sf all f' done i,kv⟩
   | 0=>⟨n,ks,c,kv⟩
  | c=>⟨n,ks,c,kv⟩
noncomputable def zrdy (s:Zs):Option (V6 Nat):=match s.c with
 | .any _ all f done=>match f with
  | _+1=>some (zready all done)
  | 0=>none
 | _=>none
theorem xm(q:Zq)(is:V6 Nat)(k:∀ i∈is,Go P fn R (zoneOf i (zq P q s)) w)(h:zrdy (zq P q s)=some is:=by kernel_rfl)(hn:is.isEmpty=false:=by kernel_rfl):Go P fn R s w:=by
 refine Zw q s ?_;revert h k;generalize zq P q s=s';intro k h;obtain⟨n',ks,c,kv⟩:=s';cases c with
 | any sf all f done =>
  cases f with
  | zero=>cases h
  | succ f =>
   have hr:zready all done=is:=(by simpa [zrdy] using h);intro hs;refine wpAnyH_all (rs:=is) (by rw[Bj];exact hr) (by rintro rfl;cases hn) fun j hj=>?_;rw[Zno];exact k j hj hs
 | _=>cases h
theorem xm2(q:Zq)(i j:Nat)(hi:Go P fn R (zoneOf i (zq P q s)) w)(hj:Go P fn R (zoneOf j (zq P q s)) w)(h:zrdy (zq P q s)=some [i,j]:=by kernel_rfl):Go P fn R s w :=
 xm q [i,j] (fun k hk=>by rcases B6.1 hk with rfl|hk;exact hi;obtain rfl:=D0.1 hk;exact hj) h
theorem xm3(q:Zq)(i j m:Nat)(hi:Go P fn R (zoneOf i (zq P q s)) w)(hj:Go P fn R (zoneOf j (zq P q s)) w)(hm:Go P fn R (zoneOf m (zq P q s)) w)(h:zrdy (zq P q s)=some [i,j,m]:=by kernel_rfl):Go P fn R s w :=
 xm q [i,j,m] (fun k hk=>by rcases B6.1 hk with rfl|hk;exact hi;rcases B6.1 hk with rfl|hk;exact hj;obtain rfl:=D0.1 hk;exact hm) h
end
theorem Zr{B:Nat}{T:V6 V3}{w W:V1}{b:Nat}{cs:V6 V2}{t:V3}(u:Upd w b W)(k:Blk w b cs t)(hb:B≤b)(ht:T.contains t=true):(SF.t B T).rel w W :=
 ⟨u.i (U3 _ _) (N0 (K6 _ _) hb),Q1 u k ht⟩
theorem Zwt{B:Nat}{S:V6 Nat}{w W:V1}{b:Nat}(u:Upd w b W)(hb:B≤b)(hs:b∈S):(SF.f B S).rel w W :=
 ⟨u.i (U3 _ _) (N0 (K6 _ _) hb),X2 u hs⟩
theorem Xj{B:Nat}{T:V6 V3}{w W:V1}{base size n:Nat}{e:V3}{v:V2}{xs:V6 V2}(hb:Below B w W)(hg:w.grownBy W v.ownBlock)(hown:w.ownsRow base e size v n xs)(ht:T.contains e=true):(SF.t B T).rel w W :=
 ⟨hb.mono (K6 _ _),Q4 hg hown ht⟩
theorem Zd.wide{T T':V6 V3}{w W:V1}(h:Zd T w W)(hs:T.all (fun t=>T'.contains t)=true:=by decide):Zd T' w W:=fun i cs t fr hk ht=>h i cs t fr hk (by
 cases hc:T.contains t with
 | false=>rfl
 | true =>
  have:=I0.1 hs t (by simpa using hc);rw[ht] at this;cases this)
theorem Lb{B:Nat}{T T':V6 V3}{w W:V1}(hb:Below B w W)(ho:Zd T w W)(hs:T.all (fun t=>T'.contains t)=true:=by decide):(SF.t B T').rel w W:=⟨hb.mono (K6 _ _),ho.wide hs⟩
theorem Zf7{B:Nat}{T:V6 V3}{a w V:V1}(h:Below B a w)(hV:(SF.t B T).rel w V)(hB:B≤a.heap.size):Below B a V:=by
 refine h.trans (hV.1.mono ?_);have:=h.size;simp only[Nat.min_def];split<;>omega
theorem Upd.A{w W:V1}{b b':Nat}{cs cs':V6 V2}{t t':V3}(u:Upd w b W)(k:Blk w b' cs' t')(kb:Blk w b cs t)(ht:t'≠t):Blk W b' cs' t':=u.blk k (by
 rintro rfl;have h1:w.heap[b']? = some (.cells cs.toArray t (0,0)):=kb;have h2:w.heap[b']? = some (.cells cs'.toArray t' (0,0)):=k;rw[h1] at h2;simp only[A0,Obj.cells.injEq] at h2;exact ht h2.2.1.symm)
theorem J0{w:V1}{b b':Nat}{cs cs':V6 V2}{t t':V3}(k:Blk w b cs t)(k':Blk w b' cs' t')(ht:t≠t'):b≠b':=by
 rintro rfl;have h1:w.heap[b]? = some (.cells cs.toArray t (0,0)):=k;have h2:w.heap[b]? = some (.cells cs'.toArray t' (0,0)):=k';rw[h1] at h2;simp only[A0,Obj.cells.injEq] at h2;exact ht h2.2.1
inductive Zk
 | cv (src dst:V3) (u:V2)
 | bn (b:BinOp) (t t2:V3) (u v:V2)
 | ix (t:V3) (u v:V2)
 | sl (t:V3) (u:V2) (lo hi mx:Option V2)
 | bi (b:Builtin) (ts:V6 V3) (us:V6 V2)
 | mk (t:V3) (u v:V2)
 | st (t:V3) (u v:V2)
def oev (f:Operand→V2)(x:Option Operand):Option V2:=match x with
 | some x=>some (f x)
 | none=>none
noncomputable def zkf (n:Nat) (kv:V6 (Nat×V2)) (o:Oper):Option Zk:=match o.op with
 | .convert src dst x=>some (.cv src dst (zev n kv x))
 | .binOp b t x y t2=>some (.bn b t t2 (zev n kv x) (zev n kv y))
 | .indexAddr t x y=>some (.ix t (zev n kv x) (zev n kv y))
 | .slice t x lo hi mx=>some (.sl t (zev n kv x) (oev (zev n kv) lo) (oev (zev n kv) hi) (oev (zev n kv) mx))
 | .call c=>match c.callee with
  | .builtin b=>some (.bi b c.argTypes.toList (c.args.toList.map (zev n kv)))
  | _=>none
 | .makeSlice t x y=>some (.mk t (zev n kv x) (zev n kv y))
 | .store t x y=>some (.st t (zev n kv x) (zev n kv y))
 | _=>none
noncomputable def zk (s:Zs):Option Zk:=match zop s with
 | some o=>zkf s.n s.kv o
 | none=>none
def ZkOk(a:Act)(o:Oper):Zk→Prop
 | .cv src dst u=>∃ x,o.op=.convert src dst x∧a.eval x=u
 | .bn b t t2 u v=>∃ x y,o.op=.binOp b t x y t2∧a.eval x=u∧a.eval y=v
 | .ix t u v=>∃ x y,o.op=.indexAddr t x y∧a.eval x=u∧a.eval y=v
 | .sl t u lo hi mx=>∃ x l h m,o.op=.slice t x l h m∧a.eval x=u∧oev a.eval l=lo∧oev a.eval h=hi∧oev a.eval m=mx
 | .bi b ts us=>∃ xs:V6 Operand,o.op=.call { callee:=.builtin b,args:=xs.toArray,argTypes:=ts.toArray }∧xs.map a.eval=us
 | .mk t u v=>∃ x y,o.op=.makeSlice t x y∧a.eval x=u∧a.eval y=v
 | .st t u v=>∃ x y,o.op=.store t x y∧a.eval x=u∧a.eval y=v
theorem Bq{n:Nat}{kv:V6 (Nat×V2)}{o:Oper}{k:Zk}(h:zkf n kv o=some k):ZkOk (zact n kv) o k:=by
 unfold zkf at h;split at h
 ·rename_i a0;cases h;exact⟨_,a0,by rw[Zu]⟩
 ·rename_i a0;cases h;exact⟨_,_,a0,by rw[Zu],by rw[Zu]⟩
 ·rename_i a0;cases h;exact⟨_,_,a0,by rw[Zu],by rw[Zu]⟩
 ·rename_i a0;cases h;exact⟨_,_,_,_,a0,by rw[Zu],by rw[Zu],by rw[Zu],by rw[Zu]⟩
 ·rename_i c a0;split at h
  ·rename_i b hb;cases h;obtain⟨a2,a1,ts⟩:=c;dsimp only at hb;subst hb;exact⟨a1.toList,a0,by rw[Zu]⟩
  ·cases h
 ·rename_i a0;cases h;exact⟨_,_,a0,by rw[Zu],by rw[Zu]⟩
 ·rename_i a0;cases h;exact⟨_,_,a0,by rw[Zu],by rw[Zu]⟩
 ·cases h
theorem Lf{f:Operand→V2}{x:Option Operand}{v:V2}(h:oev f x=some v):∃ y,x=some y∧f y=v:=by
 cases x with
 | none=>cases h
 | some y=>exact⟨y,rfl,by simpa [oev] using h⟩
theorem Fd{f:Operand→V2}{x:Option Operand}(h:oev f x=none):x=none:=by
 cases x with
 | none=>rfl
 | some y=>cases h
section
variable {P:V4} {fn:Func} {R:V5→V1→Prop} {w:V1} {s:Zs}
theorem zk_val{k:Zk}{v:V2}(h:zk s=some k)(hz:Dq s=true)(hv:∀ a o,ZkOk a o k→∀ V,B3 w V→(execOp a.eval o).run P V=.ok (.value v) V)(g:Go P fn R (znx s v) w):Go P fn R s w:=by
 obtain⟨o,ho,h⟩:=Qq h;exact Zf2 ho (fun V hV=>hv _ o (Bq h) V (Gk hz hV)) g
theorem zk_valt{k:Zk}{v:V2}{sf:SF}(h:zk s=some k)(hz:ztsf s=some sf)(hv:∀ a o,ZkOk a o k→∀ V,sf.rel w V→(execOp a.eval o).run P V=.ok (.value v) V)(g:Go P fn R (znx s v) w):Go P fn R s w:=by
 obtain⟨o,ho,h⟩:=Qq h;exact Zf2 ho (fun V hV=>hv _ o (Bq h) V (Zfb hz hV)) g
theorem Zox{k:Zk}(h:zk s=some k)(hz:Uh s=true)(hv:∀ a o K Q,ZkOk a o k→(∀ v W,Go P fn R (znx s v) W→K (a.put o.dst v) W)→o.wp P a w K Q):Go P fn R s w:=by
 obtain⟨o,ho,h⟩:=Qq h;exact zgo ho (Ve hz) fun K hK=>hv _ o K _ (Bq h) fun v W g=>hK v W (Vm hz) g
theorem Zyi{k:Zk}{sf:SF}(h:zk s=some k)(hz:zsf s=some sf)(hv:∀ a o K Q,ZkOk a o k→(∀ v W,sf.rel w W→Go P fn R (znx s v) W→K (a.put o.dst v) W)→o.wp P a w K Q):Go P fn R s w:=by
 obtain⟨o,ho,h⟩:=Qq h;exact zgo ho (Zgm hz) fun K hK=>hv _ o K _ (Bq h) fun v W hr g=>hK v W (Zet hz hr) g
theorem xcvt(q:Zq){src dst:V3}{u v:V2}(sf:SF)(hv:∀ (a:Act) (o:Oper) (x:Operand),o.op=.convert src dst x→a.eval x=u→∀ V,sf.rel w V→(execOp a.eval o).run P V=.ok (.value v) V)(g:Go P fn R (znx (zq P q s) v) w)(h:zk (zq P q s)=some (.cv src dst u):=by kernel_rfl)(hz:ztsf (zq P q s)=some sf:=by kernel_rfl):Go P fn R s w :=
 Zw q s (zk_valt h hz (fun a o ⟨x,h1,h2⟩ V hV=>hv a o x h1 h2 V hV) g)
theorem xcf(q:Zq){src dst:V3}{u:V2}(hv:∀ (a:Act) (o:Oper) (x:Operand) K Q,o.op=.convert src dst x→a.eval x=u→(∀ v W,Go P fn R (znx (zq P q s) v) W→K (a.put o.dst v) W)→o.wp P a w K Q)(h:zk (zq P q s)=some (.cv src dst u):=by kernel_rfl)(hz:Uh (zq P q s)=true:=by kernel_rfl):Go P fn R s w :=
 Zw q s (Zox h hz fun a o K Q ⟨x,h1,h2⟩ hK=>hv a o x K Q h1 h2 hK)
theorem xbo(q:Zq){b:BinOp}{t t2:V3}{u1 u2 v:V2}(hv:∀ (a:Act) (o:Oper) (x y:Operand),o.op=.binOp b t x y t2→a.eval x=u1→a.eval y=u2→∀ V,B3 w V→(execOp a.eval o).run P V=.ok (.value v) V)(g:Go P fn R (znx (zq P q s) v) w)(h:zk (zq P q s)=some (.bn b t t2 u1 u2):=by kernel_rfl)(hz:Dq (zq P q s)=true:=by kernel_rfl):Go P fn R s w :=
 Zw q s (zk_val h hz (fun a o ⟨x,y,h1,h2,h3⟩ V hV=>hv a o x y h1 h2 h3 V hV) g)
theorem zk_val0{k:Zk}{v:V2}(h:zk s=some k)(hz:Zgv s=true)(hv:∀ a o,ZkOk a o k→(execOp a.eval o).run P w=.ok (.value v) w)(g:Go P fn R (znx s v) w):Go P fn R s w:=by
 obtain⟨o,ho,h⟩:=Qq h;exact Zf2 ho (fun V hV=>by
  rcases hV with rfl|⟨hV,_⟩
  ·exact hv _ o (Bq h)
  ·rw[hz] at hV;cases hV) g
theorem xcv0(q:Zq){src dst:V3}{u v:V2}(hv:∀ (a:Act) (o:Oper) (x:Operand),o.op=.convert src dst x→a.eval x=u→(execOp a.eval o).run P w=.ok (.value v) w)(g:Go P fn R (znx (zq P q s) v) w)(h:zk (zq P q s)=some (.cv src dst u):=by kernel_rfl)(hz:Zgv (zq P q s)=true:=by kernel_rfl):Go P fn R s w :=
 Zw q s (zk_val0 h hz (fun a o ⟨x,h1,h2⟩=>hv a o x h1 h2) g)
theorem xia(q:Zq){t:V3}{u1 u2 v:V2}(hv:∀ (a:Act) (o:Oper) (x y:Operand),o.op=.indexAddr t x y→a.eval x=u1→a.eval y=u2→∀ V,(execOp a.eval o).run P V=.ok (.value v) V)(g:Go P fn R (znx (zq P q s) v) w)(h:zk (zq P q s)=some (.ix t u1 u2):=by kernel_rfl):Go P fn R s w:=by
 obtain⟨o,ho,h⟩:=Qq h;obtain⟨x,y,h1,h2,h3⟩:=Bq h;exact Zw q s (Zf2 ho (fun V _=>hv _ o x y h1 h2 h3 V) g)
theorem xx(q:Zq)(a:O0)(n k size:Nat)(ha:a.isSome=true)(g:Go P fn R (znx (zq P q s) (.pointer (some (Zx a (k*size))))) w)(h:zix P (zq P q s)=some (a,n,(k:Int),size):=by kernel_rfl)(hk:k<n:=by omega):Go P fn R s w:=by
 obtain⟨o,ho,h⟩:=Qq h;refine Zw q s (Zf2 ho (fun V _=>?_) g);split at h
 ·rename_i t x y a0;split at h
  ·rename_i e hu;split at h
   ·rename_i i hi;split at h
    ·rename_i a' n' c' hx;split at h
     ·rename_i ki j hy;simp only[A0,D9] at h;obtain⟨rfl,rfl,rfl,rfl⟩:=h;exact Zdi a0 (by rw[Zu];exact hx) (by rw[Zu];exact hy) rfl hk ha hu (by rw[hi];rfl) V
     ·cases h
    ·cases h
   ·cases h
  ·cases h
 ·cases h
theorem Zgz(b off j:Nat):Zx (some ⟨b,off,none⟩) j=⟨b,off+j,none⟩:=by simp[Zx,Addr.add_mid]
theorem xxb(q:Zq)(b off n k size:Nat)(g:Go P fn R (znx (zq P q s) (.pointer (some ⟨b,off+k*size,none⟩))) w)(h:zix P (zq P q s)=some (some ⟨b,off,none⟩,n,(k:Int),size):=by kernel_rfl)(hk:k<n:=by omega):Go P fn R s w :=
 xx q (some ⟨b,off,none⟩) n k size rfl (by rw[Zgz];exact g) h hk
theorem xsL(q:Zq){t:V3}{u u1 v:V2}(hv:∀ (a:Act) (o:Oper) (x y:Operand),o.op=.slice t x (some y) none none→a.eval x=u→a.eval y=u1→∀ V,(execOp a.eval o).run P V=.ok (.value v) V)(g:Go P fn R (znx (zq P q s) v) w)(h:zk (zq P q s)=some (.sl t u (some u1) none none):=by kernel_rfl):Go P fn R s w:=by
 obtain⟨o,ho,h⟩:=Qq h;obtain⟨x,l,hh,m,h1,h2,h3,h4,h5⟩:=Bq h;obtain⟨y,rfl,hy⟩:=Lf h3;obtain rfl:=Fd h4;obtain rfl:=Fd h5;exact Zw q s (Zf2 ho (fun V _=>hv _ o x y h1 h2 hy V) g)
theorem xsH(q:Zq){t:V3}{u u1 v:V2}(hv:∀ (a:Act) (o:Oper) (x y:Operand),o.op=.slice t x none (some y) none→a.eval x=u→a.eval y=u1→∀ V,(execOp a.eval o).run P V=.ok (.value v) V)(g:Go P fn R (znx (zq P q s) v) w)(h:zk (zq P q s)=some (.sl t u none (some u1) none):=by kernel_rfl):Go P fn R s w:=by
 obtain⟨o,ho,h⟩:=Qq h;obtain⟨x,l,hh,m,h1,h2,h3,h4,h5⟩:=Bq h;obtain⟨y,rfl,hy⟩:=Lf h4;obtain rfl:=Fd h3;obtain rfl:=Fd h5;exact Zw q s (Zf2 ho (fun V _=>hv _ o x y h1 h2 hy V) g)
theorem xsB(q:Zq){t:V3}{u u1 u2 v:V2}(hv:∀ (a:Act) (o:Oper) (x y z:Operand),o.op=.slice t x (some y) (some z) none→a.eval x=u→a.eval y=u1→a.eval z=u2→∀ V,(execOp a.eval o).run P V=.ok (.value v) V)(g:Go P fn R (znx (zq P q s) v) w)(h:zk (zq P q s)=some (.sl t u (some u1) (some u2) none):=by kernel_rfl):Go P fn R s w:=by
 obtain⟨o,ho,h⟩:=Qq h;obtain⟨x,l,hh,m,h1,h2,h3,h4,h5⟩:=Bq h;obtain⟨y,rfl,hy⟩:=Lf h3;obtain⟨z,rfl,hz⟩:=Lf h4;obtain rfl:=Fd h5;exact Zw q s (Zf2 ho (fun V _=>hv _ o x y z h1 h2 hy hz V) g)
theorem xs3(q:Zq){t:V3}{u u1 u2 u3 v:V2}(hv:∀ (a:Act) (o:Oper) (x y z m:Operand),o.op=.slice t x (some y) (some z) (some m)→a.eval x=u→a.eval y=u1→a.eval z=u2→a.eval m=u3→∀ V,(execOp a.eval o).run P V=.ok (.value v) V)(g:Go P fn R (znx (zq P q s) v) w)(h:zk (zq P q s)=some (.sl t u (some u1) (some u2) (some u3)):=by kernel_rfl):Go P fn R s w:=by
 obtain⟨o,ho,h⟩:=Qq h;obtain⟨x,l,hh,m,h1,h2,h3,h4,h5⟩:=Bq h;obtain⟨y,rfl,hy⟩:=Lf h3;obtain⟨z,rfl,hz⟩:=Lf h4;obtain⟨m,rfl,hm⟩:=Lf h5;exact Zw q s (Zf2 ho (fun V _=>hv _ o x y z m h1 h2 hy hz hm V) g)
theorem xbi(q:Zq){b:Builtin}{t1 t2:V3}{u1 u2:V2}(hv:∀ (a:Act) (o:Oper) (x y:Operand) K Q,o.op=.call { callee:=.builtin b,args:=#[x,y],argTypes:=#[t1,t2] }→a.eval x=u1→a.eval y=u2→(∀ v W,Go P fn R (znx (zq P q s) v) W→K (a.put o.dst v) W)→o.wp P a w K Q)(h:zk (zq P q s)=some (.bi b [t1,t2] [u1,u2]):=by kernel_rfl)(hz:Uh (zq P q s)=true:=by kernel_rfl):Go P fn R s w :=
 Zw q s (Zox h hz fun a o K Q ⟨xs,h1,h2⟩ hK=>by
  obtain⟨x,r,rfl,hx,hr⟩:=List.map_eq_cons_iff.1 h2;obtain⟨y,r,rfl,hy,hr⟩:=List.map_eq_cons_iff.1 hr;obtain rfl:=List.map_eq_nil_iff.1 hr;exact hv a o x y K Q h1 hx hy hK)
theorem ybi(q:Zq){b:Builtin}{t1 t2:V3}{u1 u2:V2}(sf:SF)(hv:∀ (a:Act) (o:Oper) (x y:Operand) K Q,o.op=.call { callee:=.builtin b,args:=#[x,y],argTypes:=#[t1,t2] }→a.eval x=u1→a.eval y=u2→(∀ v W,sf.rel w W→Go P fn R (znx (zq P q s) v) W→K (a.put o.dst v) W)→o.wp P a w K Q)(h:zk (zq P q s)=some (.bi b [t1,t2] [u1,u2]):=by kernel_rfl)(hz:zsf (zq P q s)=some sf:=by kernel_rfl):Go P fn R s w :=
 Zw q s (Zyi h hz fun a o K Q ⟨xs,h1,h2⟩ hK=>by
  obtain⟨x,r,rfl,hx,hr⟩:=List.map_eq_cons_iff.1 h2;obtain⟨y,r,rfl,hy,hr⟩:=List.map_eq_cons_iff.1 hr;obtain rfl:=List.map_eq_nil_iff.1 hr;exact hv a o x y K Q h1 hx hy hK)
theorem xmk(q:Zq){t:V3}{u1 u2:V2}(hv:∀ (a:Act) (o:Oper) (x y:Operand) K Q,o.op=.makeSlice t x y→a.eval x=u1→a.eval y=u2→(∀ v W,Go P fn R (znx (zq P q s) v) W→K (a.put o.dst v) W)→o.wp P a w K Q)(h:zk (zq P q s)=some (.mk t u1 u2):=by kernel_rfl)(hz:Uh (zq P q s)=true:=by kernel_rfl):Go P fn R s w :=
 Zw q s (Zox h hz fun a o K Q ⟨x,y,h1,h2,h3⟩ hK=>hv a o x y K Q h1 h2 h3 hK)
theorem xst(q:Zq){t:V3}{u1 u2:V2}(hv:∀ (a:Act) (o:Oper) (x y:Operand) K Q,o.op=.store t x y→a.eval x=u1→a.eval y=u2→(∀ v W,Go P fn R (znx (zq P q s) v) W→K (a.put o.dst v) W)→o.wp P a w K Q)(h:zk (zq P q s)=some (.st t u1 u2):=by kernel_rfl)(hz:Uh (zq P q s)=true:=by kernel_rfl):Go P fn R s w :=
 Zw q s (Zox h hz fun a o K Q ⟨x,y,h1,h2,h3⟩ hK=>hv a o x y K Q h1 h2 h3 hK)
theorem yst(q:Zq){t:V3}{u1 u2:V2}(sf:SF)(hv:∀ (a:Act) (o:Oper) (x y:Operand) K Q,o.op=.store t x y→a.eval x=u1→a.eval y=u2→(∀ v W,sf.rel w W→Go P fn R (znx (zq P q s) v) W→K (a.put o.dst v) W)→o.wp P a w K Q)(h:zk (zq P q s)=some (.st t u1 u2):=by kernel_rfl)(hz:zsf (zq P q s)=some sf:=by kernel_rfl):Go P fn R s w :=
 Zw q s (Zyi h hz fun a o K Q ⟨x,y,h1,h2,h3⟩ hK=>hv a o x y K Q h1 h2 h3 hK)
end
end
end
section
open Go.RowKit Go.Extern.Stop Go.Stop Go.Extern
section
attribute [local irreducible] wpList wpAnyH Code.wp Oper.wp Go
def bv (x:UInt8):V2:=.int .u8 (x.toNat:Int)
def Bys (w:V1)(v:V2)(l:Bl):Prop:=Sl w v l.length (l.map bv)
theorem Bys.i{w w':V1}{v:V2}{l:Bl}(h:Bys w v l)(hb:B3 w w'):Bys w' v l:=Sl.i h hb
def Et(base:Nat)(w:V1)(v:V2)(l:Bl):Prop:=w.ownsRow base 5 1 v l.length (l.map bv)
theorem Et.g2{base:Nat}{w:V1}{v:V2}{l:Bl}(h:Et base w v l):Bys w v l:=Zf h
theorem Vq(l:Bl):∀ u∈l.map bv,u.oneCell'=true:=by
 intro u hu;obtain⟨x,_,rfl⟩:=List.mem_map.1 hu;rfl
theorem Zp7(p:Addr)(c:Nat)(l:Bl)(w:V1)(h:Bys w (.slice (some p) l.length c) l)(hl:l.length≤100000000) :
 C0 60 #[.slice (some p) l.length c] w (Kd (fun w' r=>Et w.heap.size w' r l) w):=by
 refine zin 8 Tryz.func60 ?_
 refine xb0 17 5 fun b1 W1 n1=>?_
 have o1:=Xw (size:=1) (n:=0) n1.blk (n1.ge (B4 w)) rfl Do
 refine xbi 1 fun _ _ _ _ zJ zQ zo zx zy zK=>Xd (m:=l.length) (news:=l.map bv) (.int .u8 0) 1 1 (l.length) (l.map bv) zo Tryz.underlying50 K0 rfl Do zx o1 zy (h.i n1.i) Y5 (Vq l) Y2 M0 n1.i.size Y5 Y5 fun a3 a1 W2 o2 a4 a2=>?_
 refine zK _ _ ?_
 have a0:=n1.i.trans a2
 exact xe 4 (.slice a3 l.length a1) ⟨_,rfl,a0,o2⟩
theorem Zi4(c:Nat)(w:V1) :
 C0 60 #[.slice none 0 c] w (Kd (fun w' r=>Et w.heap.size w' r []) w):=by
 refine zin 8 Tryz.func60 ?_
 exact xe 20 (S1) ⟨_,rfl,(B4 w),A8 _ _ _ _⟩
theorem Ek(a:O0)(c:Nat)(l:Bl)(w:V1)(h:Bys w (.slice a l.length c) l)(hl:l.length≤100000000) :
 C0 60 #[.slice a l.length c] w (Kd (fun w' r=>Et w.heap.size w' r l) w):=by
 cases a with
 | some p=>exact Zp7 p c l w h hl
 | none =>
  rcases Sl.at h with hn|⟨_,_,h1,_⟩
  ·obtain rfl:l=[]:=by simpa using hn
   exact Zi4 c w
  ·cases h1
theorem Hd(a:O0)(n c:Nat)(l:Bl)(w:V1)(hn:l.length=n)(h:Bys w (.slice a n c) l)(hl:n≤100000000) :
 C0 60 #[.slice a n c] w (Kd (fun w' r=>Et w.heap.size w' r l) w):=by
 subst hn;exact Ek a c l w h hl
theorem Blk.g2{w:V1}{b:Nat}{cs:V6 V2}{t:V3}(k:Blk w b cs t)(l:Bl)(n c:Nat)(hn:l.length=n)(h:cs.take n=l.map bv)(hc:n≤c)(hm:c≤maxLen):Bys w (.slice (S3 b) n c) l :=
 .inr ⟨b,0,c,by rw[hn],M0,hm,fun j x hj=>by
  rw[F5];refine k.cell ?_;rw[←h] at hj;have a0:j<n:=by have:=(List.getElem?_eq_some_iff.1 hj).1;simp at this;omega
  rwa [I3 a0] at hj⟩
def Xh(n:Int)(i:Nat):UInt8:=UInt8.ofNat (n.toNat/256 ^ i)
def leB (n:Int)(w:Nat):Bl:=(range w).map (Xh n)
theorem Zl(n:Int)(w:Nat):(leB n w).length=w:=by simp[leB]
theorem Ju{n:Int}(h:0≤n)(i:Nat):IntKind.u8.wrap (Int.fdiv n (2 ^ (8*i)))=((Xh n i).toNat:Int):=by
 obtain⟨m,rfl⟩:=Int.eq_ofNat_of_zero_le h;have e:(2:Int) ^ (8*i)=((256 ^ i:Nat):Int):=by rw[Int.pow_mul];simp
 rw[e,show Int.fdiv ((m:Nat):Int) ((256 ^ i:Nat):Int)=((m/256 ^ i:Nat):Int) from by rw[O4 _ (K3 _)];simp];simp[IntKind.wrap,Xh,IntKind.bits,IntKind.signed]
theorem Zoc{n:Int}(h:0≤n):IntKind.u8.wrap n=((Xh n 0).toNat:Int):=by
 have:=Ju h 0;simpa using this
def Qj(l:Bl)(k:Nat)(x:Bl):Bl:=l.take k++x++l.drop (k+x.length)
theorem Et.some{base:Nat}{w:V1}{v:V2}{l:Bl}(h:Et base w v l)(hl:0<l.length):∃ g cap,v=.slice (S3 g) l.length cap∧l.length≤cap:=by
 rcases h.2 with ⟨_,h0⟩|⟨g,cap,a0,hv,_,_,hc,_⟩
 ·omega
 ·exact⟨g,cap,hv,hc⟩
theorem Zk5(w:V1) :
 C0 162 #[V0 1] w (Ret (.bool true) w):=by
 refine zin 17 Tryz.func162 ?_
 exact xe 25 (.bool true) ⟨rfl,(B4 w)⟩
theorem fits_1(n:Int)(h0:0≤n)(hb:n<256)(w:V1) :
 C0 163 #[V0 n,V0 1] w (Ret (.bool true) w):=by
 refine zin 20 Tryz.func163 ?_
 refine xk 12 (show(decide (n<(0:Int)):Bool)=false from V9 M0) ?_
 exact xe 26 (.bool (decide (n<(256:Int)))) ⟨by rw[U0 hb],(B4 w)⟩
theorem there_1(a:O0)(m c k:Nat)(hk:k+1≤m)(hm:m≤100000000)(w:V1) :
 C0 222 #[.slice a m c,V0 (k:Int),V0 1] w (Ret (V0 0) w):=by
 refine zin 28 Tryz.func222 ?_
 refine xr 10 (Zk5 _) fun W1 a0=>?_
 refine xgk 10 [13,14] (show(decide ((k:Int)<(0:Int)):Bool)=false from V9 M0) ?_
 refine xgk 6 [18,19,20] (show(decide ((k:Int)>(m:Int)):Bool)=false from V9 M0) ?_
 refine xw 3 ((m:Int)-(k:Int)) ?_
 refine xk 6 (show(decide ((m:Int)-(k:Int)<(1:Int)):Bool)=false from V9 M0) ?_
 exact xe 9 (V0 0) ⟨rfl,a0⟩
theorem Zu4(n:Int)(h0:0≤n)(w:V1) :
 C0 164 #[V0 n,V0 1] w (Kd (fun w' r=>Et w.heap.size w' r (leB n 1)) w):=by
 refine zin 43 Tryz.func164 ?_
 refine xa 7 [.int .u8 0,.int .u8 0,.int .u8 0,.int .u8 0,.int .u8 0,.int .u8 0,.int .u8 0,.int .u8 0] 331 fun b1 W1 n1=>?_
 refine xq 59 (congrArg (Value.int .u8) (show(IntKind.u8.wrap n:Int)=(↑(Xh n 0).toNat:Int) from Zoc h0)) ?_
 refine xs 1 n1.blk [.int .u8 (↑(Xh n 0).toNat:Int),.int .u8 0,.int .u8 0,.int .u8 0,.int .u8 0,.int .u8 0,.int .u8 0,.int .u8 0] fun W2 u2 k2=>?_
 have g1:=n1.ge (B4 w)
 refine xc 9 (Hd (S3 b1) 1 8 (leB n 1) _ rfl (k2.g2 (leB n 1) 1 8 rfl rfl Do Do) Do) ?_
 rintro _ W3 ⟨r,rfl,a2,ho⟩
 have a1:=(u2.i n1.i g1).size
 have hB:=bln (u2.i n1.i g1) a2
 have a0:=Zg ho a1
 exact xe 4 r ⟨_,rfl,hB,a0⟩
theorem Zgb(w:V1) :
 C0 162 #[V0 2] w (Ret (.bool true) w):=by
 refine zin 17 Tryz.func162 ?_
 exact xe 25 (.bool true) ⟨rfl,(B4 w)⟩
theorem Zns(n:Int)(h0:0≤n)(hb:n<65536)(w:V1) :
 C0 163 #[V0 n,V0 2] w (Ret (.bool true) w):=by
 refine zin 20 Tryz.func163 ?_
 refine xk 12 (show(decide (n<(0:Int)):Bool)=false from V9 M0) ?_
 exact xe 33 (.bool (decide (n<(65536:Int)))) ⟨by rw[U0 hb],(B4 w)⟩
theorem Zxb(a:O0)(m c k:Nat)(hk:k+2≤m)(hm:m≤100000000)(w:V1) :
 C0 222 #[.slice a m c,V0 (k:Int),V0 2] w (Ret (V0 0) w):=by
 refine zin 28 Tryz.func222 ?_
 refine xr 10 (Zgb _) fun W1 a0=>?_
 refine xgk 10 [13,14] (show(decide ((k:Int)<(0:Int)):Bool)=false from V9 M0) ?_
 refine xgk 6 [18,19,20] (show(decide ((k:Int)>(m:Int)):Bool)=false from V9 M0) ?_
 refine xw 3 ((m:Int)-(k:Int)) ?_
 refine xk 6 (show(decide ((m:Int)-(k:Int)<(2:Int)):Bool)=false from V9 M0) ?_
 exact xe 9 (V0 0) ⟨rfl,a0⟩
theorem Zel(n:Int)(h0:0≤n)(w:V1) :
 C0 164 #[V0 n,V0 2] w (Kd (fun w' r=>Et w.heap.size w' r (leB n 2)) w):=by
 refine zin 43 Tryz.func164 ?_
 refine xa 7 [.int .u8 0,.int .u8 0,.int .u8 0,.int .u8 0,.int .u8 0,.int .u8 0,.int .u8 0,.int .u8 0] 331 fun b1 W1 n1=>?_
 refine xq 56 (congrArg (Value.int .u8) (show(IntKind.u8.wrap (Int.fdiv n (2 ^ 8)):Int)=(↑(Xh n 1).toNat:Int) from Ju h0 1)) ?_
 refine xs 1 n1.blk [.int .u8 0,.int .u8 (↑(Xh n 1).toNat:Int),.int .u8 0,.int .u8 0,.int .u8 0,.int .u8 0,.int .u8 0,.int .u8 0] fun W2 u2 k2=>?_
 have g1:=n1.ge (B4 w)
 refine xq 6 (congrArg (Value.int .u8) (show(IntKind.u8.wrap n:Int)=(↑(Xh n 0).toNat:Int) from Zoc h0)) ?_
 refine xs 1 k2 [.int .u8 (↑(Xh n 0).toNat:Int),.int .u8 (↑(Xh n 1).toNat:Int),.int .u8 0,.int .u8 0,.int .u8 0,.int .u8 0,.int .u8 0,.int .u8 0] fun W3 u3 k3=>?_
 refine xc 9 (Hd (S3 b1) 2 8 (leB n 2) _ rfl (k3.g2 (leB n 2) 2 8 rfl rfl Do Do) Do) ?_
 rintro _ W4 ⟨r,rfl,a1,ho⟩
 have a2:=(u3.i (u2.i n1.i g1) g1).size
 have hB:=bln (u3.i (u2.i n1.i g1) g1) a1
 have a0:=Zg ho a2
 exact xe 4 r ⟨_,rfl,hB,a0⟩
theorem Zes(w:V1) :
 C0 162 #[V0 4] w (Ret (.bool true) w):=by
 refine zin 17 Tryz.func162 ?_
 exact xe 25 (.bool true) ⟨rfl,(B4 w)⟩
theorem Zod(n:Int)(h0:0≤n)(hb:n<4294967296)(w:V1) :
 C0 163 #[V0 n,V0 4] w (Ret (.bool true) w):=by
 refine zin 20 Tryz.func163 ?_
 refine xk 12 (show(decide (n<(0:Int)):Bool)=false from V9 M0) ?_
 exact xe 40 (.bool (decide (n<(4294967296:Int)))) ⟨by rw[U0 hb],(B4 w)⟩
theorem Zwi(a:O0)(m c k:Nat)(hk:k+4≤m)(hm:m≤100000000)(w:V1) :
 C0 222 #[.slice a m c,V0 (k:Int),V0 4] w (Ret (V0 0) w):=by
 refine zin 28 Tryz.func222 ?_
 refine xr 10 (Zes _) fun W1 a0=>?_
 refine xgk 10 [13,14] (show(decide ((k:Int)<(0:Int)):Bool)=false from V9 M0) ?_
 refine xgk 6 [18,19,20] (show(decide ((k:Int)>(m:Int)):Bool)=false from V9 M0) ?_
 refine xw 3 ((m:Int)-(k:Int)) ?_
 refine xk 6 (show(decide ((m:Int)-(k:Int)<(4:Int)):Bool)=false from V9 M0) ?_
 exact xe 9 (V0 0) ⟨rfl,a0⟩
theorem Zfz(n:Int)(h0:0≤n)(w:V1) :
 C0 164 #[V0 n,V0 4] w (Kd (fun w' r=>Et w.heap.size w' r (leB n 4)) w):=by
 refine zin 43 Tryz.func164 ?_
 refine xa 7 [.int .u8 0,.int .u8 0,.int .u8 0,.int .u8 0,.int .u8 0,.int .u8 0,.int .u8 0,.int .u8 0] 331 fun b1 W1 n1=>?_
 refine xq 46 (congrArg (Value.int .u8) (show(IntKind.u8.wrap (Int.fdiv n (2 ^ 24)):Int)=(↑(Xh n 3).toNat:Int) from Ju h0 3)) ?_
 refine xq 2 (congrArg (Value.int .u8) (show(IntKind.u8.wrap (Int.fdiv n (2 ^ 16)):Int)=(↑(Xh n 2).toNat:Int) from Ju h0 2)) ?_
 refine xs 1 n1.blk [.int .u8 0,.int .u8 0,.int .u8 0,.int .u8 (↑(Xh n 3).toNat:Int),.int .u8 0,.int .u8 0,.int .u8 0,.int .u8 0] fun W2 u2 k2=>?_
 have g1:=n1.ge (B4 w)
 refine xs 1 k2 [.int .u8 0,.int .u8 0,.int .u8 (↑(Xh n 2).toNat:Int),.int .u8 (↑(Xh n 3).toNat:Int),.int .u8 0,.int .u8 0,.int .u8 0,.int .u8 0] fun W3 u3 k3=>?_
 refine xq 6 (congrArg (Value.int .u8) (show(IntKind.u8.wrap (Int.fdiv n (2 ^ 8)):Int)=(↑(Xh n 1).toNat:Int) from Ju h0 1)) ?_
 refine xs 1 k3 [.int .u8 0,.int .u8 (↑(Xh n 1).toNat:Int),.int .u8 (↑(Xh n 2).toNat:Int),.int .u8 (↑(Xh n 3).toNat:Int),.int .u8 0,.int .u8 0,.int .u8 0,.int .u8 0] fun W4 u4 k4=>?_
 refine xq 6 (congrArg (Value.int .u8) (show(IntKind.u8.wrap n:Int)=(↑(Xh n 0).toNat:Int) from Zoc h0)) ?_
 refine xs 1 k4 [.int .u8 (↑(Xh n 0).toNat:Int),.int .u8 (↑(Xh n 1).toNat:Int),.int .u8 (↑(Xh n 2).toNat:Int),.int .u8 (↑(Xh n 3).toNat:Int),.int .u8 0,.int .u8 0,.int .u8 0,.int .u8 0] fun W5 u5 k5=>?_
 refine xc 9 (Hd (S3 b1) 4 8 (leB n 4) _ rfl (k5.g2 (leB n 4) 4 8 rfl rfl Do Do) Do) ?_
 rintro _ W6 ⟨r,rfl,a2,ho⟩
 have a1:=(u5.i (u4.i (u3.i (u2.i n1.i g1) g1) g1) g1).size
 have hB:=bln (u5.i (u4.i (u3.i (u2.i n1.i g1) g1) g1) g1) a2
 have a0:=Zg ho a1
 exact xe 4 r ⟨_,rfl,hB,a0⟩
theorem Zub(w:V1) :
 C0 162 #[V0 8] w (Ret (.bool true) w):=by
 refine zin 17 Tryz.func162 ?_
 exact xe 25 (.bool true) ⟨rfl,(B4 w)⟩
theorem fits_8(n:Int)(h0:0≤n)(w:V1) :
 C0 163 #[V0 n,V0 8] w (Ret (.bool true) w):=by
 refine zin 20 Tryz.func163 ?_
 refine xk 12 (show(decide (n<(0:Int)):Bool)=false from V9 M0) ?_
 exact xe 39 (.bool true) ⟨Y6,(B4 w)⟩
theorem there_8(a:O0)(m c k:Nat)(hk:k+8≤m)(hm:m≤100000000)(w:V1) :
 C0 222 #[.slice a m c,V0 (k:Int),V0 8] w (Ret (V0 0) w):=by
 refine zin 28 Tryz.func222 ?_
 refine xr 10 (Zub _) fun W1 a0=>?_
 refine xgk 10 [13,14] (show(decide ((k:Int)<(0:Int)):Bool)=false from V9 M0) ?_
 refine xgk 6 [18,19,20] (show(decide ((k:Int)>(m:Int)):Bool)=false from V9 M0) ?_
 refine xw 3 ((m:Int)-(k:Int)) ?_
 refine xk 6 (show(decide ((m:Int)-(k:Int)<(8:Int)):Bool)=false from V9 M0) ?_
 exact xe 9 (V0 0) ⟨rfl,a0⟩
theorem bytes_8(n:Int)(h0:0≤n)(w:V1) :
 C0 164 #[V0 n,V0 8] w (Kd (fun w' r=>Et w.heap.size w' r (leB n 8)) w):=by
 refine zin 43 Tryz.func164 ?_
 refine xa 7 [.int .u8 0,.int .u8 0,.int .u8 0,.int .u8 0,.int .u8 0,.int .u8 0,.int .u8 0,.int .u8 0] 331 fun b1 W1 n1=>?_
 refine xu 37 6 ?_
 refine xq 18 (congrArg (Value.int .u8) (show(IntKind.u8.wrap (Int.fdiv n (2 ^ 32)):Int)=(↑(Xh n 4).toNat:Int) from Ju h0 4)) ?_
 refine xs 1 n1.blk [.int .u8 0,.int .u8 0,.int .u8 0,.int .u8 0,.int .u8 (↑(Xh n 4).toNat:Int),.int .u8 0,.int .u8 0,.int .u8 0] fun W2 u2 k2=>?_
 have g1:=n1.ge (B4 w)
 refine xq 27 (congrArg (Value.int .u8) (show(IntKind.u8.wrap (Int.fdiv n (2 ^ 40)):Int)=(↑(Xh n 5).toNat:Int) from Ju h0 5)) ?_
 refine xs 1 k2 [.int .u8 0,.int .u8 0,.int .u8 0,.int .u8 0,.int .u8 (↑(Xh n 4).toNat:Int),.int .u8 (↑(Xh n 5).toNat:Int),.int .u8 0,.int .u8 0] fun W3 u3 k3=>?_
 refine xq 27 (congrArg (Value.int .u8) (show(IntKind.u8.wrap (Int.fdiv n (2 ^ 48)):Int)=(↑(Xh n 6).toNat:Int) from Ju h0 6)) ?_
 refine xs 1 k3 [.int .u8 0,.int .u8 0,.int .u8 0,.int .u8 0,.int .u8 (↑(Xh n 4).toNat:Int),.int .u8 (↑(Xh n 5).toNat:Int),.int .u8 (↑(Xh n 6).toNat:Int),.int .u8 0] fun W4 u4 k4=>?_
 refine xq 27 (congrArg (Value.int .u8) (show(IntKind.u8.wrap (Int.fdiv n (2 ^ 56)):Int)=(↑(Xh n 7).toNat:Int) from Ju h0 7)) ?_
 refine xs 1 k4 [.int .u8 0,.int .u8 0,.int .u8 0,.int .u8 0,.int .u8 (↑(Xh n 4).toNat:Int),.int .u8 (↑(Xh n 5).toNat:Int),.int .u8 (↑(Xh n 6).toNat:Int),.int .u8 (↑(Xh n 7).toNat:Int)] fun W5 u5 k5=>?_
 refine xq 26 (congrArg (Value.int .u8) (show(IntKind.u8.wrap (Int.fdiv n (2 ^ 24)):Int)=(↑(Xh n 3).toNat:Int) from Ju h0 3)) ?_
 refine xq 2 (congrArg (Value.int .u8) (show(IntKind.u8.wrap (Int.fdiv n (2 ^ 16)):Int)=(↑(Xh n 2).toNat:Int) from Ju h0 2)) ?_
 refine xs 1 k5 [.int .u8 0,.int .u8 0,.int .u8 0,.int .u8 (↑(Xh n 3).toNat:Int),.int .u8 (↑(Xh n 4).toNat:Int),.int .u8 (↑(Xh n 5).toNat:Int),.int .u8 (↑(Xh n 6).toNat:Int),.int .u8 (↑(Xh n 7).toNat:Int)] fun W6 u6 k6=>?_
 refine xs 1 k6 [.int .u8 0,.int .u8 0,.int .u8 (↑(Xh n 2).toNat:Int),.int .u8 (↑(Xh n 3).toNat:Int),.int .u8 (↑(Xh n 4).toNat:Int),.int .u8 (↑(Xh n 5).toNat:Int),.int .u8 (↑(Xh n 6).toNat:Int),.int .u8 (↑(Xh n 7).toNat:Int)] fun W7 u7 k7=>?_
 refine xq 6 (congrArg (Value.int .u8) (show(IntKind.u8.wrap (Int.fdiv n (2 ^ 8)):Int)=(↑(Xh n 1).toNat:Int) from Ju h0 1)) ?_
 refine xs 1 k7 [.int .u8 0,.int .u8 (↑(Xh n 1).toNat:Int),.int .u8 (↑(Xh n 2).toNat:Int),.int .u8 (↑(Xh n 3).toNat:Int),.int .u8 (↑(Xh n 4).toNat:Int),.int .u8 (↑(Xh n 5).toNat:Int),.int .u8 (↑(Xh n 6).toNat:Int),.int .u8 (↑(Xh n 7).toNat:Int)] fun W8 u8 k8=>?_
 refine xq 6 (congrArg (Value.int .u8) (show(IntKind.u8.wrap n:Int)=(↑(Xh n 0).toNat:Int) from Zoc h0)) ?_
 refine xs 1 k8 [.int .u8 (↑(Xh n 0).toNat:Int),.int .u8 (↑(Xh n 1).toNat:Int),.int .u8 (↑(Xh n 2).toNat:Int),.int .u8 (↑(Xh n 3).toNat:Int),.int .u8 (↑(Xh n 4).toNat:Int),.int .u8 (↑(Xh n 5).toNat:Int),.int .u8 (↑(Xh n 6).toNat:Int),.int .u8 (↑(Xh n 7).toNat:Int)] fun W9 u9 k9=>?_
 refine xc 9 (Hd (S3 b1) 8 8 (leB n 8) _ rfl (k9.g2 (leB n 8) 8 8 rfl rfl Do Do) Do) ?_
 rintro _ a3 ⟨r,rfl,a2,ho⟩
 have a1:=(u9.i (u8.i (u7.i (u6.i (u5.i (u4.i (u3.i (u2.i n1.i g1) g1) g1) g1) g1) g1) g1) g1).size
 have hB:=bln (u9.i (u8.i (u7.i (u6.i (u5.i (u4.i (u3.i (u2.i n1.i g1) g1) g1) g1) g1) g1) g1) g1) a2
 have a0:=Zg ho a1
 exact xe 4 r ⟨_,rfl,hB,a0⟩
theorem Put_2(a:O0)(c k:Nat)(l:Bl)(n:Int)(w:V1)(h:Bys w (.slice a l.length c) l)(hl:l.length≤100000)(hk:k+2≤l.length)(h0:0≤n)(hb:n<65536) :
 C0 166 #[.slice a l.length c,V0 (k:Int),V0 2,V0 n] w (Kd (fun w' r=>∃ v,r=.tuple #[v,V0 0]∧Et w.heap.size w' v (Qj l k (leB n 2))) w):=by
 refine zin 33 Tryz.func166 ?_
 refine xr 12 (Zxb a l.length c k hk M0 _) fun W1 a8=>?_
 refine xr 17 (Zns n h0 hb _) fun W2 b0=>?_
 have hB:=bln a8 b0
 refine xc 9 (Ek a c l _ (h.i hB) M0) ?_
 rintro _ W3 ⟨_,rfl,a7,ho⟩
 have b1:=(bln a8 b0).size
 have a3:=Zg ho b1
 obtain⟨g,a5,rfl,b2⟩:=Et.some a3 M0
 refine xd 4 (.t w.heap.size [5]) ?_
 refine xsL (.e [0,1] 2) (fun _ _ _ _ zo zx zy V=>Di (k:=k) (b:=g) (off:=0) (n:=l.length) (c:=a5) (i:=(k:Int)) (ki:=.i64) 1 zo zx zy rfl M0 M0 Tryz.underlying50 K0 V) ?_
 refine yc (.o [3,4] 5) (.t w.heap.size [5]) (Zel n h0 _) ?_
 rintro _ W4 ⟨_,rfl,a6,h2⟩
 have b4:=(bln (bln hB a7) (Za W3)).size
 refine⟨(Q5 _ a6),?_⟩
 have a2:=Zg h2 b4
 obtain⟨p2,c2,rfl⟩:=(Zf a2).slice
 have a1:=Zb (Zb a3 (Za W3)) a6
 have a0:=bln (bln (bln hB a7) (Za W3)) a6
 refine ybi (.o [] 6) (t2:=50) (.t w.heap.size [5]) fun _ _ _ _ zJ zQ zo zx zy zK=>Ct (dLen:=(l.length-k)) (dCap:=(a5-k)) (off:=(0+k*1)) ((leB n 2).length) ((leB n 2).map bv) ((Qj l k (leB n 2)).map bv) zo Tryz.underlying50 K0 zx zy (Zf a2) a1 Y5 (by simp[leB];omega) (by simp[leB];omega) (Vq _) a0.size (by simp[Qj,I8,L9]) fun W5 o5 b3 a9=>?_
 refine zK _ _ (Xj a9 b3 a1 Do) ?_
 have a4:=a0.trans a9
 refine xe 10 (.tuple #[.slice (S3 g) l.length a5,V0 0]) ?_
 refine⟨_,rfl,a4,_,rfl,?_⟩
 unfold Et
 rw[show(Qj l k (leB n 2)).length=l.length by simp[Qj,leB];omega]
 exact o5
theorem Put_4(a:O0)(c k:Nat)(l:Bl)(n:Int)(w:V1)(h:Bys w (.slice a l.length c) l)(hl:l.length≤100000)(hk:k+4≤l.length)(h0:0≤n)(hb:n<4294967296) :
 C0 166 #[.slice a l.length c,V0 (k:Int),V0 4,V0 n] w (Kd (fun w' r=>∃ v,r=.tuple #[v,V0 0]∧Et w.heap.size w' v (Qj l k (leB n 4))) w):=by
 refine zin 33 Tryz.func166 ?_
 refine xr 12 (Zwi a l.length c k hk M0 _) fun W1 a8=>?_
 refine xr 17 (Zod n h0 hb _) fun W2 b0=>?_
 have hB:=bln a8 b0
 refine xc 9 (Ek a c l _ (h.i hB) M0) ?_
 rintro _ W3 ⟨_,rfl,a7,ho⟩
 have b1:=(bln a8 b0).size
 have a3:=Zg ho b1
 obtain⟨g,a5,rfl,b2⟩:=Et.some a3 M0
 refine xd 4 (.t w.heap.size [5]) ?_
 refine xsL (.e [0,1] 2) (fun _ _ _ _ zo zx zy V=>Di (k:=k) (b:=g) (off:=0) (n:=l.length) (c:=a5) (i:=(k:Int)) (ki:=.i64) 1 zo zx zy rfl M0 M0 Tryz.underlying50 K0 V) ?_
 refine yc (.o [3,4] 5) (.t w.heap.size [5]) (Zfz n h0 _) ?_
 rintro _ W4 ⟨_,rfl,a6,h2⟩
 have b4:=(bln (bln hB a7) (Za W3)).size
 refine⟨(Q5 _ a6),?_⟩
 have a2:=Zg h2 b4
 obtain⟨p2,c2,rfl⟩:=(Zf a2).slice
 have a1:=Zb (Zb a3 (Za W3)) a6
 have a0:=bln (bln (bln hB a7) (Za W3)) a6
 refine ybi (.o [] 6) (t2:=50) (.t w.heap.size [5]) fun _ _ _ _ zJ zQ zo zx zy zK=>Ct (dLen:=(l.length-k)) (dCap:=(a5-k)) (off:=(0+k*1)) ((leB n 4).length) ((leB n 4).map bv) ((Qj l k (leB n 4)).map bv) zo Tryz.underlying50 K0 zx zy (Zf a2) a1 Y5 (by simp[leB];omega) (by simp[leB];omega) (Vq _) a0.size (by simp[Qj,I8,L9]) fun W5 o5 b3 a9=>?_
 refine zK _ _ (Xj a9 b3 a1 Do) ?_
 have a4:=a0.trans a9
 refine xe 10 (.tuple #[.slice (S3 g) l.length a5,V0 0]) ?_
 refine⟨_,rfl,a4,_,rfl,?_⟩
 unfold Et
 rw[show(Qj l k (leB n 4)).length=l.length by simp[Qj,leB];omega]
 exact o5
theorem Td(g:Nat)(n:Int)(h0:0≤n)(hb:n<4294967296)(w:V1)(hk:Blk w g [V0 4,V0 n] 178) :
 C0 97 #[.slice (S3 g) 1 1] w (Kd (fun w' r=>∃ p c,r=.tuple #[.slice p 4 c,V0 0]∧w'.ownsRow w.heap.size 5 1 (.slice p 4 c) 4 ((leB n 4).map bv)) w):=by
 refine zin 32 Tryz.func97 ?_
 refine xu 20 2 ?_
 refine xlv 14 hk.rp ?_
 refine xa 0 [V0 0,V0 0] 178 fun b1 W1 n1=>?_
 refine xsv 0 n1.blk [V0 4,V0 n] fun W2 u2 k2=>?_
 have g1:=n1.ge (B4 w)
 refine xb 6 0 k2 ?_
 refine xr 0 (Zes _) fun W3 a4=>?_
 have a1:=k2.i a4
 refine xb 10 1 a1 ?_
 refine xb 1 0 a1 ?_
 refine xr 0 (Zod (n) (h0) (hb) _) fun W4 a6=>?_
 have a2:=a1.i a6
 refine xb 9 1 a2 ?_
 refine xb 1 0 a2 ?_
 refine xc 0 (Zfz (n) (h0) _) ?_
 rintro _ W5 ⟨_,rfl,b3,a3⟩
 have a8:=(bln (bln (u2.i n1.i g1) a4) a6).size
 have a0:=Zg a3 a8
 unfold Et at a0
 rw[Zl] at a0
 obtain⟨a7,b2,rfl⟩:=(Zf a0).slice
 have o6:=A8 W5 w.heap.size 5 1
 have hB:=bln (bln (bln (u2.i n1.i g1) a4) a6) b3
 refine xbi 0 fun _ _ _ _ zJ zQ zo zx zy zK=>Xd (m:=4) (news:=(leB (n) 4).map bv) (.int .u8 0) 1 1 (4) ((leB (n) 4).map bv) zo Tryz.underlying50 K0 rfl Do zx o6 zy (Zf a0) (by simp[Zl]) (Vq _) Y2 M0 hB.size Y6 Y5 fun a9 b0 W7 o7 b5 b4=>?_
 refine zK _ _ ?_
 have a5:=hB.trans b4
 exact xe 29 (.tuple #[.slice a9 4 b0,V0 0]) ⟨_,rfl,a5,_,_,rfl,o7⟩
theorem Zu7(g:Nat)(n:Int)(h0:0≤n)(w:V1)(hk:Blk w g [V0 8,V0 n] 178) :
 C0 97 #[.slice (S3 g) 1 1] w (Kd (fun w' r=>∃ p c,r=.tuple #[.slice p 8 c,V0 0]∧w'.ownsRow w.heap.size 5 1 (.slice p 8 c) 8 ((leB n 8).map bv)) w):=by
 refine zin 32 Tryz.func97 ?_
 refine xu 20 2 ?_
 refine xlv 14 hk.rp ?_
 refine xa 0 [V0 0,V0 0] 178 fun b1 W1 n1=>?_
 refine xsv 0 n1.blk [V0 8,V0 n] fun W2 u2 k2=>?_
 have g1:=n1.ge (B4 w)
 refine xb 6 0 k2 ?_
 refine xr 0 (Zub _) fun W3 a4=>?_
 have a1:=k2.i a4
 refine xb 10 1 a1 ?_
 refine xb 1 0 a1 ?_
 refine xr 0 (fits_8 (n) (h0) _) fun W4 a6=>?_
 have a2:=a1.i a6
 refine xb 9 1 a2 ?_
 refine xb 1 0 a2 ?_
 refine xc 0 (bytes_8 (n) (h0) _) ?_
 rintro _ W5 ⟨_,rfl,b3,a3⟩
 have a8:=(bln (bln (u2.i n1.i g1) a4) a6).size
 have a0:=Zg a3 a8
 unfold Et at a0
 rw[Zl] at a0
 obtain⟨a7,b2,rfl⟩:=(Zf a0).slice
 have o6:=A8 W5 w.heap.size 5 1
 have hB:=bln (bln (bln (u2.i n1.i g1) a4) a6) b3
 refine xbi 0 fun _ _ _ _ zJ zQ zo zx zy zK=>Xd (m:=8) (news:=(leB (n) 8).map bv) (.int .u8 0) 1 1 (8) ((leB (n) 8).map bv) zo Tryz.underlying50 K0 rfl Do zx o6 zy (Zf a0) (by simp[Zl]) (Vq _) Y2 M0 hB.size Y6 Y5 fun a9 b0 W7 o7 b5 b4=>?_
 refine zK _ _ ?_
 have a5:=hB.trans b4
 exact xe 29 (.tuple #[.slice a9 8 b0,V0 0]) ⟨_,rfl,a5,_,_,rfl,o7⟩
theorem Zty(g:Nat)(f t k v m:Int)(hf:0≤f)(hf2:f<256)(ht:0≤t)(ht2:t<256)(hk1:0≤k)(hk2:k<65536)(hv:0≤v)(hv2:v<65536)(hm:0≤m)(hm2:m<65536)(w:V1)(hk:Blk w g [V0 1,V0 f,V0 1,V0 t,V0 2,V0 k,V0 2,V0 v,V0 2,V0 m,V0 4,V0 0] 178) :
 C0 97 #[.slice (S3 g) 6 6] w (Kd (fun w' r=>∃ p c,r=.tuple #[.slice p 12 c,V0 0]∧w'.ownsRow w.heap.size 5 1 (.slice p 12 c) 12 ((leB f 1++leB t 1++leB k 2++leB v 2++leB m 2++leB 0 4).map bv)) w):=by
 refine zin 32 Tryz.func97 ?_
 refine xu 20 7 ?_
 refine xlv 14 (hk.a2 0 2) ?_
 refine xa 0 [V0 0,V0 0] 178 fun b1 W1 n1=>?_
 have h3:=n1.ne hk
 refine xsv 0 n1.blk [V0 1,V0 f] fun W2 u2 k2=>?_
 have g1:=n1.ge (B4 w)
 refine xb 6 0 k2 ?_
 refine xr 0 (Zk5 _) fun W3 g5=>?_
 have e4:=k2.i g5
 refine xb 10 1 e4 ?_
 refine xb 1 0 e4 ?_
 refine xr 0 (fits_1 (f) (hf) (hf2) _) fun W4 g3=>?_
 have f8:=e4.i g3
 refine xb 9 1 f8 ?_
 refine xb 1 0 f8 ?_
 refine xc 0 (Zu4 (f) (hf) _) ?_
 rintro _ W5 ⟨_,rfl,k5,j2⟩
 have m6:=(bln (bln (u2.i n1.i g1) g5) g3).size
 have a5:=Zg j2 m6
 unfold Et at a5
 rw[Zl] at a5
 obtain⟨n3,n0,rfl⟩:=(Zf a5).slice
 have o6:=A8 W5 w.heap.size 5 1
 have hB:=bln (bln (bln (u2.i n1.i g1) g5) g3) k5
 refine xbi 0 fun _ _ _ _ zJ zQ zo zx zy zK=>Xd (m:=1) (news:=(leB (f) 1).map bv) (.int .u8 0) 1 1 (1) ((leB (f) 1).map bv) zo Tryz.underlying50 K0 rfl Do zx o6 zy (Zf a5) (by simp[Zl]) (Vq _) Y2 M0 hB.size Y6 Y5 fun n9 p4 W7 o7 n6 k7=>?_
 refine zK _ _ ?_
 have d9:=((((u2.blk (hk.i n1.i) h3).i g5).i g3).i k5).grown n6 o6 Do
 refine xlv 23 (d9.a2 2 2) ?_
 refine xa 0 [V0 0,V0 0] 178 fun b8 W8 n8=>?_
 have j0:=n8.ne d9
 have e3:=hB.trans k7
 have g8:=n8.ge e3
 refine xsv 0 n8.blk [V0 1,V0 t] fun W9 u9 k9=>?_
 refine xb 6 0 k9 ?_
 refine xr 0 (Zk5 _) fun r2 b0=>?_
 have e0:=k9.i b0
 refine xb 10 1 e0 ?_
 refine xb 1 0 e0 ?_
 refine xr 0 (fits_1 (t) (ht) (ht2) _) fun o8 b9=>?_
 have f0:=e0.i b9
 refine xb 9 1 f0 ?_
 refine xb 1 0 f0 ?_
 refine xc 0 (Zu4 (t) (ht) _) ?_
 rintro _ r1 ⟨_,rfl,e2,j4⟩
 have h7:=(bln (bln (u9.i (bln e3 n8.i) g8) b0) b9).size
 have a4:=Zg j4 h7
 unfold Et at a4
 rw[Zl] at a4
 obtain⟨m2,m7,rfl⟩:=(Zf a4).slice
 have f1:=Zb (Zb (Zb (u9.j (Zb o7 n8.i) n8.blk Do) b0) b9) e2
 have f4:=bln (bln (bln (u9.i (bln e3 n8.i) g8) b0) b9) e2
 refine xbi 0 fun _ _ _ _ zJ zQ zo zx zy zK=>Xd (m:=1) (news:=(leB (t) 1).map bv) (.int .u8 0) 1 1 (2) ((leB (f) 1++leB (t) 1).map bv) zo Tryz.underlying50 K0 rfl Do zx f1 zy (Zf a4) (by simp[Zl]) (Vq _) Y2 M0 f4.size Y6 Y5 fun l7 l2 q6 l8 j1 i3=>?_
 refine zK _ _ ?_
 have d6:=((((u9.blk (d9.i n8.i) j0).i b0).i b9).i e2).grown j1 f1 Do
 refine xlv 23 (d6.a2 4 2) ?_
 refine xa 0 [V0 0,V0 0] 178 fun o1 q1 d1=>?_
 have e9:=d1.ne d6
 have e6:=f4.trans i3
 have j8:=d1.ge e6
 refine xsv 0 d1.blk [V0 2,V0 k] fun p6 g6 k1=>?_
 refine xb 6 0 k1 ?_
 refine xr 0 (Zgb _) fun q2 a8=>?_
 have b5:=k1.i a8
 refine xb 10 1 b5 ?_
 refine xb 1 0 b5 ?_
 refine xr 0 (Zns (k) (hk1) (hk2) _) fun p3 b4=>?_
 have c7:=b5.i b4
 refine xb 9 1 c7 ?_
 refine xb 1 0 c7 ?_
 refine xc 0 (Zel (k) (hk1) _) ?_
 rintro _ p0 ⟨_,rfl,d3,h8⟩
 have i0:=(bln (bln (g6.i (bln e6 d1.i) j8) a8) b4).size
 have a2:=Zg h8 i0
 unfold Et at a2
 rw[Zl] at a2
 obtain⟨k8,l1,rfl⟩:=(Zf a2).slice
 have c3:=Zb (Zb (Zb (g6.j (Zb l8 d1.i) d1.blk Do) a8) b4) d3
 have f7:=bln (bln (bln (g6.i (bln e6 d1.i) j8) a8) b4) d3
 refine xbi 0 fun _ _ _ _ zJ zQ zo zx zy zK=>Xd (m:=2) (news:=(leB (k) 2).map bv) (.int .u8 0) 1 1 (4) ((leB (f) 1++leB (t) 1++leB (k) 2).map bv) zo Tryz.underlying50 K0 rfl Do zx c3 zy (Zf a2) (by simp[Zl]) (Vq _) Y2 M0 f7.size Y6 Y5 fun l5 n4 r3 l4 i8 i4=>?_
 refine zK _ _ ?_
 have d7:=((((g6.blk (d6.i d1.i) e9).i a8).i b4).i d3).grown i8 c3 Do
 refine xlv 23 (d7.a2 6 2) ?_
 refine xa 0 [V0 0,V0 0] 178 fun q0 p8 c5=>?_
 have f9:=c5.ne d7
 have e5:=f7.trans i4
 have j6:=c5.ge e5
 refine xsv 0 c5.blk [V0 2,V0 v] fun o9 g9 j9=>?_
 refine xb 6 0 j9 ?_
 refine xr 0 (Zgb _) fun q5 a6=>?_
 have b2:=j9.i a6
 refine xb 10 1 b2 ?_
 refine xb 1 0 b2 ?_
 refine xr 0 (Zns (v) (hv) (hv2) _) fun r0 b3=>?_
 have d0:=b2.i b3
 refine xb 9 1 d0 ?_
 refine xb 1 0 d0 ?_
 refine xc 0 (Zel (v) (hv) _) ?_
 rintro _ o3 ⟨_,rfl,d8,i7⟩
 have h1:=(bln (bln (g9.i (bln e5 c5.i) j6) a6) b3).size
 have a1:=Zg i7 h1
 unfold Et at a1
 rw[Zl] at a1
 obtain⟨m9,m4,rfl⟩:=(Zf a1).slice
 have c8:=Zb (Zb (Zb (g9.j (Zb l4 c5.i) c5.blk Do) a6) b3) d8
 have g0:=bln (bln (bln (g9.i (bln e5 c5.i) j6) a6) b3) d8
 refine xbi 0 fun _ _ _ _ zJ zQ zo zx zy zK=>Xd (m:=2) (news:=(leB (v) 2).map bv) (.int .u8 0) 1 1 (6) ((leB (f) 1++leB (t) 1++leB (k) 2++leB (v) 2).map bv) zo Tryz.underlying50 K0 rfl Do zx c8 zy (Zf a1) (by simp[Zl]) (Vq _) Y2 M0 g0.size Y6 Y5 fun m3 n2 o2 m0 h5 h4=>?_
 refine zK _ _ ?_
 have e1:=((((g9.blk (d7.i c5.i) f9).i a6).i b3).i d8).grown h5 c8 Do
 refine xlv 23 (e1.a2 8 2) ?_
 refine xa 0 [V0 0,V0 0] 178 fun q7 o4 d2=>?_
 have f3:=d2.ne e1
 have e7:=g0.trans h4
 have k0:=d2.ge e7
 refine xsv 0 d2.blk [V0 2,V0 m] fun q4 g7 k3=>?_
 refine xb 6 0 k3 ?_
 refine xr 0 (Zgb _) fun n7 a9=>?_
 have a7:=k3.i a9
 refine xb 10 1 a7 ?_
 refine xb 1 0 a7 ?_
 refine xr 0 (Zns (m) (hm) (hm2) _) fun q8 b7=>?_
 have c2:=a7.i b7
 refine xb 9 1 c2 ?_
 refine xb 1 0 c2 ?_
 refine xc 0 (Zel (m) (hm) _) ?_
 rintro _ p7 ⟨_,rfl,d5,j3⟩
 have h2:=(bln (bln (g7.i (bln e7 d2.i) k0) a9) b7).size
 have a3:=Zg j3 h2
 unfold Et at a3
 rw[Zl] at a3
 obtain⟨l3,m1,rfl⟩:=(Zf a3).slice
 have c4:=Zb (Zb (Zb (g7.j (Zb m0 d2.i) d2.blk Do) a9) b7) d5
 have g2:=bln (bln (bln (g7.i (bln e7 d2.i) k0) a9) b7) d5
 refine xbi 0 fun _ _ _ _ zJ zQ zo zx zy zK=>Xd (m:=2) (news:=(leB (m) 2).map bv) (.int .u8 0) 1 1 (8) ((leB (f) 1++leB (t) 1++leB (k) 2++leB (v) 2++leB (m) 2).map bv) zo Tryz.underlying50 K0 rfl Do zx c4 zy (Zf a3) (by simp[Zl]) (Vq _) Y2 M0 g2.size Y6 Y5 fun k6 m8 p2 m5 h0 i2=>?_
 refine zK _ _ ?_
 have i5:=((((g7.blk (e1.i d2.i) f3).i a9).i b7).i d5).grown h0 c4 Do
 refine xlv 23 (i5.a2 10 2) ?_
 refine xa 0 [V0 0,V0 0] 178 fun q3 p1 e8=>?_
 have d4:=g2.trans i2
 have k4:=e8.ge d4
 refine xsv 0 e8.blk [V0 4,V0 0] fun o5 i6 j7=>?_
 refine xb 6 0 j7 ?_
 refine xr 0 (Zes _) fun p9 c0=>?_
 have b6:=j7.i c0
 refine xb 10 1 b6 ?_
 refine xb 1 0 b6 ?_
 refine xr 0 (Zod (0) Do Do _) fun q9 c1=>?_
 have c9:=b6.i c1
 refine xb 9 1 c9 ?_
 refine xb 1 0 c9 ?_
 refine xc 0 (Zfz (0) Do _) ?_
 rintro _ p5 ⟨_,rfl,f2,i9⟩
 have h9:=(bln (bln (i6.i (bln d4 e8.i) k4) c0) c1).size
 have a0:=Zg i9 h9
 unfold Et at a0
 rw[Zl] at a0
 obtain⟨l0,l9,rfl⟩:=(Zf a0).slice
 have f5:=Zb (Zb (Zb (i6.j (Zb m5 e8.i) e8.blk Do) c0) c1) f2
 have c6:=bln (bln (bln (i6.i (bln d4 e8.i) k4) c0) c1) f2
 refine xbi 0 fun _ _ _ _ zJ zQ zo zx zy zK=>Xd (m:=4) (news:=(leB (0) 4).map bv) (.int .u8 0) 1 1 (12) ((leB (f) 1++leB (t) 1++leB (k) 2++leB (v) 2++leB (m) 2++leB (0) 4).map bv) zo Tryz.underlying50 K0 rfl Do zx f5 zy (Zf a0) (by simp[Zl]) (Vq _) Y2 M0 c6.size Y6 Y5 fun j5 h6 o0 l6 n5 i1=>?_
 refine zK _ _ ?_
 have f6:=c6.trans i1
 exact xe 29 (.tuple #[.slice j5 12 h6,V0 0]) ⟨_,rfl,f6,_,_,rfl,l6⟩
theorem As{n:Nat}(h:n<4294967296):IntKind.u32.wrap (n:Int)=(n:Int):=by
 simp[IntKind.wrap,IntKind.bits,IntKind.signed];omega
theorem Zbz{a b:Nat}(ha:a<4294967296)(hb:b<4294967296):IntKind.u32.wrap (↑(BitVec.ofInt 32 (a:Int) ^^^ BitVec.ofInt 32 (b:Int)).toNat:Int)=((a ^^^ b:Nat):Int):=by
 rw[E6,E6,BitVec.toNat_xor,E9,E9,E5 ha,E5 hb];exact As (H6 (n:=32) ha hb)
theorem Zjr{a b:Nat}(ha:a<4294967296)(hb:b<4294967296):IntKind.u32.wrap (↑(BitVec.ofInt 32 (a:Int) &&& BitVec.ofInt 32 (b:Int)).toNat:Int)=((a &&& b:Nat):Int):=by
 rw[E6,E6,P5,E9,E9,E5 ha,E5 hb];exact As (I6 Nat.and_le_left ha)
theorem Zbh(a:Nat)(k:Nat):Int.fdiv (a:Int) (2 ^ k)=((a/2 ^ k:Nat):Int):=by
 rw[O4 _ (Int.pow_nonneg Do)];simp
def Zun(r:Nat):Nat:=if r%2=1 then(r/2) ^^^ 2197175160 else r/2
def Uy:Nat→Nat→Nat
 | 0,r=>r
 | j+1,r=>Zun (Uy j r)
def Ey(n:Nat):Nat:=Uy 4 n
theorem step1_lt{r:Nat}(h:r<4294967296):Zun r<4294967296:=by
 unfold Zun;split
 ·exact H6 (n:=32) M0 Do
 ·omega
theorem Zm9{j r:Nat}(h:r<4294967296):Uy j r<4294967296:=by
 induction j with
 | zero=>exact h
 | succ j ih=>exact step1_lt ih
theorem half_lt{r:Nat}(h:r<4294967296):Ey r<4294967296:=Zm9 h
def Vk(k:Nat):V6 V2:=(range 16).map fun i=>.int .u32 (if i<k then(Ey i:Int) else 0)
def Na:V6 V2:=(range 16).map fun i=>.int .u32 (Ey i:Int)
theorem Zkl{k:Nat}(h:k<16):(Vk k).set k (.int .u32 (Ey k:Int))=Vk (k+1):=by
 apply H3;intro i;by_cases hi:i<16
 ·by_cases e:k=i
  ·subst e;rw[K8 (by simpa [Vk] using h)];simp[Vk,C1 hi]
  ·rw[H7 e];simp only[Vk,C3,C1 hi,D3];by_cases h3:i<k
   ·rw[V8 h3,V8 M0]
   ·rw[V7 h3,V7 M0]
 ·rw[C4 (by simp[Vk];omega),C4 (by simp[Vk];omega)]
theorem Zl5:Vk 16=Na:=by
 unfold Vk Na;apply F9;intro i hi;rw[V8 (A7.1 hi)]
theorem Zaa{k:Nat}(h:k<16):Na[k]? = some (.int .u32 (Ey k:Int)):=by
 simp[Na,C1 h]
theorem and_one(a:Nat):a &&& 1=a%2:=Nat.and_one_is_mod a
theorem and_15(a:Nat):a &&& 15=a%16:=M9 a 4
theorem Zpo(w:V1) :
 C0 281 #[] w (Ret (.agg Na.toArray) w):=by
 refine zin 26 Tryz.func281 ?_
 refine xa 2 [.int .u32 0,.int .u32 0,.int .u32 0,.int .u32 0,.int .u32 0,.int .u32 0,.int .u32 0,.int .u32 0,.int .u32 0,.int .u32 0,.int .u32 0,.int .u32 0,.int .u32 0,.int .u32 0,.int .u32 0,.int .u32 0] 390 fun b1 W1 n1=>?_
 refine xa 4 [.int .u32 0,.int .u32 0,.int .u32 0,.int .u32 0,.int .u32 0,.int .u32 0,.int .u32 0,.int .u32 0,.int .u32 0,.int .u32 0,.int .u32 0,.int .u32 0,.int .u32 0,.int .u32 0,.int .u32 0,.int .u32 0] 390 fun b2 W2 n2=>?_
 have a6:=n2.ne n1.blk
 have hB:=bln n1.i n2.i
 have a8:=n1.blk.i n2.i
 refine zl 9 26 (fun zm b0 V=>∃ (k:Nat),b0=[(0,P0 b1),(1,P0 b2),(5,V0 (k:Int))]∧zm=16-((k:Int)).toNat∧B3 w V∧Blk V b1 ([.int .u32 0,.int .u32 0,.int .u32 0,.int .u32 0,.int .u32 0,.int .u32 0,.int .u32 0,.int .u32 0,.int .u32 0,.int .u32 0,.int .u32 0,.int .u32 0,.int .u32 0,.int .u32 0,.int .u32 0,.int .u32 0]) 390∧Blk V b2 (Vk k) 390∧k≤16) ⟨0,rfl,rfl,hB,a8,n2.blk,Do⟩ ?_
 rintro _ _ W3 ⟨k,rfl,rfl,a7,a3,a4,hk⟩ J3 b5 r3
 refine xid 6 ((k:Int)<(16:Int)) (fun b8=>?_) (fun b8=>?_)
 ·refine xq 13 (congrArg (Value.int .u32) (show(IntKind.u32.wrap (k:Int):Int)=(k:Int) from As M0)) ?_
  refine zl 10 26 (fun zm b0 V=>∃ (j:Nat),b0=[(0,P0 b1),(1,P0 b2),(2,V0 (k:Int)),(3,.int .u32 (↑(Uy j k):Int)),(5,V0 (k:Int)),(10,V0 (j:Int))]∧zm=4-((j:Int)).toNat∧B3 w V∧Blk V b1 ([.int .u32 0,.int .u32 0,.int .u32 0,.int .u32 0,.int .u32 0,.int .u32 0,.int .u32 0,.int .u32 0,.int .u32 0,.int .u32 0,.int .u32 0,.int .u32 0,.int .u32 0,.int .u32 0,.int .u32 0,.int .u32 0]) 390∧Blk V b2 (Vk k) 390∧j≤4) ⟨0,rfl,rfl,a7,a3,a4,Do⟩ ?_
  rintro _ _ W5 ⟨j,rfl,rfl,a5,a0,a1,hj⟩ J5 b4 r5
  have hr:Uy j k<4294967296:=Zm9 M0
  refine xid 6 ((j:Int)<(4:Int)) (fun b7=>?_) (fun b7=>?_)
  ·refine xq 7 (congrArg (Value.int .u32) (show(IntKind.u32.wrap (↑(BitVec.ofInt 32 (↑(Uy j k):Int) &&& BitVec.ofInt 32 (1:Int)).toNat:Int):Int)=(↑((Uy j k)%2):Int) from(Zjr (b:=1) hr Do).trans (by rw[and_one]))) ?_
   refine xq 6 (congrArg (Value.int .u32) (show(Int.fdiv (↑(Uy j k):Int) (2 ^ 1):Int)=(↑((Uy j k)/2):Int) from Zbh _ 1)) ?_
   refine xie 9 (↑((Uy j k)%2):Int) (1:Int) (fun b6=>?_) (fun b6=>?_)
   ·refine xq 2 (congrArg (Value.int .u32) (show(IntKind.u32.wrap (↑(BitVec.ofInt 32 (↑((Uy j k)/2):Int) ^^^ BitVec.ofInt 32 (2197175160:Int)).toNat:Int):Int)=(↑(((Uy j k)/2) ^^^ 2197175160):Int) from Zbz (b:=2197175160) M0 Do)) ?_
    refine xw 5 ((j:Int)+1) ?_
    refine xv1 2 3 (show(.int .u32 (↑(((Uy j k)/2) ^^^ 2197175160):Int):V2)=.int .u32 (↑(Uy (j+1) k):Int) from by rw[show Uy (j+1) k=(((Uy j k)/2) ^^^ 2197175160) by simp only[Uy,Zun];first|rw[V8 M0]|rw[V7 M0]]) ?_
    exact ze 0 (b4 _ _ _ ⟨j+1,rfl,rfl,a5,a0,a1,M0⟩ M0)
   refine xw 4 ((j:Int)+1) ?_
   refine xv1 2 3 (show(.int .u32 (↑((Uy j k)/2):Int):V2)=.int .u32 (↑(Uy (j+1) k):Int) from by rw[show Uy (j+1) k=((Uy j k)/2) by simp only[Uy,Zun];first|rw[V8 M0]|rw[V7 M0]]) ?_
   exact ze 0 (b4 _ _ _ ⟨j+1,rfl,rfl,a5,a0,a1,M0⟩ M0)
  refine xia 8 (fun _ _ _ _ zo zx zy V=>Ru (k:=k) (b:=b2) (off:=0) (i:=(k:Int)) (ki:=.i64) 1 k zo zx zy rfl M0 M0 Tryz.underlying390 K0 V) ?_
  refine xsg 0 a1 k (.int .u32 (↑(Uy j k):Int)) (by first|decide|(simp[Vk];omega)) fun W8 u8 k8=>?_
  replace k8:Blk W8 b2 (Vk (k+1)) 390:=by rw[←(show(Vk k).set k (.int .u32 (↑(Uy j k):Int))=Vk (k+1) from by rw[show j=4 by omega];exact Zkl M0)];exact k8
  have g2:=n2.ge n1.i
  refine xw 4 ((k:Int)+1) ?_
  have b3:=u8.i a5 g2
  have a2:=u8.blk a0 a6
  exact ze 2 (b5 _ _ _ ⟨k+1,rfl,rfl,b3,a2,k8,M0⟩ M0)
 refine xlv 7 a4.rp ?_
 refine xsvg 0 a3 0 (Vk k) (by simp[Vk,Value.oneCell']) (by simp[Vk]) fun W9 u9 k9=>?_
 change Blk _ _ (Vk k) _ at k9
 have g1:=n1.ge (B4 w)
 have a9:=u9.i a7 g1
 refine xec 3 k9 (.agg (Vk k).toArray) ?_
 rw[show k=16 by omega,Zl5]
 exact⟨rfl,a9⟩
def Zjo(r:Nat)(x:UInt8):Nat:=((((r ^^^ x.toNat)/16) ^^^ Ey ((r ^^^ x.toNat)%16))/16) ^^^ Ey ((((r ^^^ x.toNat)/16) ^^^ Ey ((r ^^^ x.toNat)%16))%16)
def Xo(r:Nat)(l:Bl):Nat:=l.foldl Zjo r
theorem u8_lt(x:UInt8):x.toNat<4294967296:=Nat.lt_trans x.toNat_lt Do
theorem Ce(n:Nat):Ey (n%16)<4294967296:=half_lt M0
theorem Zsk{r:Nat}(h:r<4294967296)(x:UInt8):Zjo r x<4294967296:=by
 have h1:r ^^^ x.toNat<4294967296:=H6 (n:=32) h (u8_lt x);have h2:((r ^^^ x.toNat)/16) ^^^ Ey ((r ^^^ x.toNat)%16)<4294967296:=H6 (n:=32) M0 (Ce _);exact H6 (n:=32) M0 (Ce _)
theorem Zbp{r:Nat}(h:r<4294967296)(l:Bl):Xo r l<4294967296:=by
 unfold Xo;induction l generalizing r with
 | nil=>exact h
 | cons x l ih=>exact ih (Zsk h x)
theorem Zlu{r:Nat}{l:Bl}{k:Nat}(h:k<l.length):Xo r (l.take (k+1))=Zjo (Xo r (l.take k)) (l.getD k 0):=by
 unfold Xo;rw[B5 h,List.foldl_append];simp[getD,A9 h]
theorem Bys.elem{w:V1}{b:O0}{c:Nat}{l:Bl}(h:Bys w (.slice b l.length c) l){k:Nat}(hk:k<l.length):b.isSome=true∧w.cell? (Zx b (k*1))=some (.int .u8 ((l.getD k 0).toNat:Int)):=by
 refine Sl.elem h ?_;rw[G7,C3,A9 hk];simp[getD,A9 hk,bv]
theorem u32_byte(x:UInt8):IntKind.u32.wrap (x.toNat:Int)=(x.toNat:Int):=As (u8_lt x)
theorem crc_run(r:Nat)(hr0:r<4294967296)(a:O0)(c:Nat)(l:Bl)(w:V1)(h:Bys w (.slice a l.length c) l)(hl:l.length≤100000000) :
 C0 264 #[.int .u32 (r:Int),.slice a l.length c] w (Ret (.int .u32 (Xo r l:Int)) w):=by
 refine zin 35 Tryz.func264 ?_
 refine xr 7 (Zpo _) fun W1 a2=>?_
 refine xa 0 [.int .u32 0,.int .u32 0,.int .u32 0,.int .u32 0,.int .u32 0,.int .u32 0,.int .u32 0,.int .u32 0,.int .u32 0,.int .u32 0,.int .u32 0,.int .u32 0,.int .u32 0,.int .u32 0,.int .u32 0,.int .u32 0] 390 fun b2 W2 n2=>?_
 refine xsvg 0 n2.blk 0 Na (by simp[Na,Value.oneCell']) (by simp[Na]) fun W3 u3 k3=>?_
 change Blk _ _ Na _ at k3
 have g2:=n2.ge a2
 have hB:=u3.i (bln a2 n2.i) g2
 refine zl 11 35 (fun zm a3 V=>∃ (k:Nat),a3=[(0,.int .u32 (↑(Xo r (l.take k)):Int)),(4,.int .u32 0),(5,P0 b2),(9,.slice a l.length c),(10,V0 (l.length:Int)),(11,V0 (k:Int))]∧zm=l.length-((k:Int)).toNat∧B3 w V∧Blk V b2 Na 390∧k≤l.length) ⟨0,rfl,rfl,hB,k3,A5 _⟩ ?_
 rintro _ _ W4 ⟨k,rfl,rfl,a1,a0,hk⟩ J4 a5 r4
 have h0:Xo r (l.take k)<4294967296:=Zbp hr0 _
 have h1:(Xo r (l.take k)) ^^^ (l.getD k 0).toNat<4294967296:=H6 (n:=32) h0 (u8_lt _)
 have h2:(((Xo r (l.take k)) ^^^ (l.getD k 0).toNat)/16) ^^^ Ey (((Xo r (l.take k)) ^^^ (l.getD k 0).toNat)%16)<4294967296:=H6 (n:=32) M0 (Ce _)
 refine xid 6 ((k:Int)<(l.length:Int)) (fun a4=>?_) (fun a4=>?_)
 ·refine xx 6 _ l.length k 1 (Bys.elem h (k:=k) M0).1 ?_
  refine xl 0 ((Bys.elem (h.i a1) (k:=k) M0).2) ?_
  refine xq 7 (congrArg (Value.int .u32) (show(IntKind.u32.wrap (↑(l.getD k 0).toNat:Int):Int)=(↑(l.getD k 0).toNat:Int) from u32_byte _)) ?_
  refine xq 0 (congrArg (Value.int .u32) (show(IntKind.u32.wrap (↑(BitVec.ofInt 32 (↑(Xo r (l.take k)):Int) ^^^ BitVec.ofInt 32 (↑(l.getD k 0).toNat:Int)).toNat:Int):Int)=(↑((Xo r (l.take k)) ^^^ (l.getD k 0).toNat):Int) from Zbz h0 (u8_lt _))) ?_
  refine xq 6 (congrArg (Value.int .u32) (show(Int.fdiv (↑((Xo r (l.take k)) ^^^ (l.getD k 0).toNat):Int) (2 ^ 4):Int)=(↑(((Xo r (l.take k)) ^^^ (l.getD k 0).toNat)/16):Int) from Zbh _ 4)) ?_
  refine xq 1 (congrArg (Value.int .u32) (show(IntKind.u32.wrap (↑(BitVec.ofInt 32 (↑((Xo r (l.take k)) ^^^ (l.getD k 0).toNat):Int) &&& BitVec.ofInt 32 (15:Int)).toNat:Int):Int)=(↑(((Xo r (l.take k)) ^^^ (l.getD k 0).toNat)%16):Int) from(Zjr (b:=15) h1 Do).trans (by rw[and_15]))) ?_
  refine xia 0 (fun _ _ _ _ zo zx zy V=>Ru (k:=(((Xo r (l.take k)) ^^^ (l.getD k 0).toNat)%16)) (b:=b2) (off:=0) (i:=(↑(((Xo r (l.take k)) ^^^ (l.getD k 0).toNat)%16):Int)) (ki:=.u32) 1 (((Xo r (l.take k)) ^^^ (l.getD k 0).toNat)%16) zo zx zy rfl M0 M0 Tryz.underlying390 K0 V) ?_
  refine xl 0 (a0.cell (i:=(((Xo r (l.take k)) ^^^ (l.getD k 0).toNat)%16)) (Zaa M0)) ?_
  refine xq 0 (congrArg (Value.int .u32) (show(IntKind.u32.wrap (↑(BitVec.ofInt 32 (↑(((Xo r (l.take k)) ^^^ (l.getD k 0).toNat)/16):Int) ^^^ BitVec.ofInt 32 (↑(Ey (((Xo r (l.take k)) ^^^ (l.getD k 0).toNat)%16)):Int)).toNat:Int):Int)=(↑((((Xo r (l.take k)) ^^^ (l.getD k 0).toNat)/16) ^^^ Ey (((Xo r (l.take k)) ^^^ (l.getD k 0).toNat)%16)):Int) from Zbz (I6 (O8 _ _) h1) (Ce _))) ?_
  refine xq 5 (congrArg (Value.int .u32) (show(Int.fdiv (↑((((Xo r (l.take k)) ^^^ (l.getD k 0).toNat)/16) ^^^ Ey (((Xo r (l.take k)) ^^^ (l.getD k 0).toNat)%16)):Int) (2 ^ 4):Int)=(↑(((((Xo r (l.take k)) ^^^ (l.getD k 0).toNat)/16) ^^^ Ey (((Xo r (l.take k)) ^^^ (l.getD k 0).toNat)%16))/16):Int) from Zbh _ 4)) ?_
  refine xq 1 (congrArg (Value.int .u32) (show(IntKind.u32.wrap (↑(BitVec.ofInt 32 (↑((((Xo r (l.take k)) ^^^ (l.getD k 0).toNat)/16) ^^^ Ey (((Xo r (l.take k)) ^^^ (l.getD k 0).toNat)%16)):Int) &&& BitVec.ofInt 32 (15:Int)).toNat:Int):Int)=(↑(((((Xo r (l.take k)) ^^^ (l.getD k 0).toNat)/16) ^^^ Ey (((Xo r (l.take k)) ^^^ (l.getD k 0).toNat)%16))%16):Int) from(Zjr (b:=15) h2 Do).trans (by rw[and_15]))) ?_
  refine xia 0 (fun _ _ _ _ zo zx zy V=>Ru (k:=(((((Xo r (l.take k)) ^^^ (l.getD k 0).toNat)/16) ^^^ Ey (((Xo r (l.take k)) ^^^ (l.getD k 0).toNat)%16))%16)) (b:=b2) (off:=0) (i:=(↑(((((Xo r (l.take k)) ^^^ (l.getD k 0).toNat)/16) ^^^ Ey (((Xo r (l.take k)) ^^^ (l.getD k 0).toNat)%16))%16):Int)) (ki:=.u32) 1 (((((Xo r (l.take k)) ^^^ (l.getD k 0).toNat)/16) ^^^ Ey (((Xo r (l.take k)) ^^^ (l.getD k 0).toNat)%16))%16) zo zx zy rfl M0 M0 Tryz.underlying390 K0 V) ?_
  refine xl 0 (a0.cell (i:=(((((Xo r (l.take k)) ^^^ (l.getD k 0).toNat)/16) ^^^ Ey (((Xo r (l.take k)) ^^^ (l.getD k 0).toNat)%16))%16)) (Zaa M0)) ?_
  refine xq 0 (congrArg (Value.int .u32) (show(IntKind.u32.wrap (↑(BitVec.ofInt 32 (↑(((((Xo r (l.take k)) ^^^ (l.getD k 0).toNat)/16) ^^^ Ey (((Xo r (l.take k)) ^^^ (l.getD k 0).toNat)%16))/16):Int) ^^^ BitVec.ofInt 32 (↑(Ey (((((Xo r (l.take k)) ^^^ (l.getD k 0).toNat)/16) ^^^ Ey (((Xo r (l.take k)) ^^^ (l.getD k 0).toNat)%16))%16)):Int)).toNat:Int):Int)=(↑((((((Xo r (l.take k)) ^^^ (l.getD k 0).toNat)/16) ^^^ Ey (((Xo r (l.take k)) ^^^ (l.getD k 0).toNat)%16))/16) ^^^ Ey (((((Xo r (l.take k)) ^^^ (l.getD k 0).toNat)/16) ^^^ Ey (((Xo r (l.take k)) ^^^ (l.getD k 0).toNat)%16))%16)):Int) from Zbz (I6 (O8 _ _) h2) (Ce _))) ?_
  refine xw 5 ((k:Int)+1) ?_
  refine xv1 2 0 (show(.int .u32 (↑((((((Xo r (l.take k)) ^^^ (l.getD k 0).toNat)/16) ^^^ Ey (((Xo r (l.take k)) ^^^ (l.getD k 0).toNat)%16))/16) ^^^ Ey (((((Xo r (l.take k)) ^^^ (l.getD k 0).toNat)/16) ^^^ Ey (((Xo r (l.take k)) ^^^ (l.getD k 0).toNat)%16))%16)):Int):V2)=.int .u32 (↑(Xo r (l.take (k+1))):Int) from by rw[Zlu M0];rfl) ?_
  exact ze 0 (a5 _ _ _ ⟨k+1,rfl,rfl,a1,a0,M0⟩ M0)
 refine xe 12 (.int .u32 (↑(Xo r (l.take k)):Int)) ?_
 rw[B9 M0]
 exact⟨rfl,a1⟩
def Fk(l:Bl):Nat:=Xo 4294967295 l ^^^ 4294967295
theorem Za9(l:Bl):Fk l<4294967296:=H6 (n:=32) (Zbp Do l) Do
theorem Lj{n:Nat}(h:n<9223372036854775808):IntKind.i64.wrap (n:Int)=(n:Int):=IntWalk.i64_in _ M0
theorem i64_xor{a b:Nat}(ha:a<4294967296)(hb:b<4294967296):IntKind.i64.wrap (↑(BitVec.ofInt 64 (a:Int) ^^^ BitVec.ofInt 64 (b:Int)).toNat:Int)=((a ^^^ b:Nat):Int):=by
 rw[E6,E6,BitVec.toNat_xor,E9,E9,E5 M0,E5 M0];have:=H6 (n:=32) ha hb;exact Lj M0
theorem crc_Sum1(g:Nat)(a:O0)(c:Nat)(l:Bl)(w:V1)(hk:Blk w g [.slice a l.length c] 50)(h:Bys w (.slice a l.length c) l)(hl:l.length≤100000000) :
 C0 223 #[.slice (S3 g) 1 1] w (Ret (V0 (Fk l:Int)) w):=by
 refine zin 19 Tryz.func223 ?_
 refine xu 19 3 ?_
 refine xb 14 0 hk ?_
 refine xr 6 (crc_run 4294967295 Do a c l _ (h.i (B4 w)) hl) fun W1 a0=>?_
 refine xq 24 (congrArg (Value.int .u32) (show(IntKind.u32.wrap (↑(BitVec.ofInt 32 (↑(Xo 4294967295 l):Int) ^^^ BitVec.ofInt 32 (4294967295:Int)).toNat:Int):Int)=(↑(Fk l):Int) from Zbz (b:=4294967295) (Zbp Do l) Do)) ?_
 refine xq 0 (congrArg V0 (show(IntKind.i64.wrap (↑(Fk l):Int):Int)=(↑(Fk l):Int) from Lj (by have:=Za9 l;omega))) ?_
 exact xe 4 (V0 (↑(Fk l):Int)) ⟨rfl,a0⟩
theorem Zwo(g:Nat)(a:O0)(n c:Nat)(l:Bl)(w:V1)(hn:l.length=n)(hk:Blk w g [.slice a n c] 50)(h:Bys w (.slice a n c) l)(hl:n≤100000000) :
 C0 223 #[.slice (S3 g) 1 1] w (Ret (V0 (Fk l:Int)) w):=by
 subst hn;exact crc_Sum1 g a c l w hk h hl
def Zch(kind:Int):Nat:=if kind=1 then 160774 else if kind=2 then 121107 else if kind=3 then 240779 else if kind=4 then 160478 else 0
theorem Znw(kind:Int):Zch kind<4294967296:=by unfold Zch;(repeat' split)<;>omega
theorem Zvn(kind:Int)(w:V1) :
 C0 224 #[V0 kind] w (Ret (V0 (Zch kind:Int)) w):=by
 refine zin 12 Tryz.func224 ?_
 refine xie 18 kind (1:Int) (fun a0=>?_) (fun a0=>?_)
 ·exact xe 8 (V0 160774) ⟨by simp_all [Zch],(B4 w)⟩
 refine xie 6 kind (2:Int) (fun a2=>?_) (fun a2=>?_)
 ·exact xe 8 (V0 121107) ⟨by simp_all [Zch],(B4 w)⟩
 refine xie 6 kind (3:Int) (fun a1=>?_) (fun a1=>?_)
 ·exact xe 8 (V0 240779) ⟨by simp_all [Zch],(B4 w)⟩
 refine xie 6 kind (4:Int) (fun a3=>?_) (fun a3=>?_)
 ·exact xe 8 (V0 160478) ⟨by simp_all [Zch],(B4 w)⟩
 exact xe 9 (V0 0) ⟨by simp_all [Zch],(B4 w)⟩
theorem Zpq(kind no:Int)(h1:1≤kind)(h2:kind≤4)(h3:0≤no)(h4:no<14400)(w:V1) :
 C0 165 #[V0 kind,V0 no] w (Ret (.bool true) w):=by
 refine zin 19 Tryz.func165 ?_
 refine xgk 10 [6,7] (show(decide (kind≥(1:Int)):Bool)=true from U0 h1) ?_
 refine xgk 4 [9,10,11] (show(decide (kind≤(4:Int)):Bool)=true from U0 h2) ?_
 refine xgk 4 [13,14,15] (show(decide (no≥(0:Int)):Bool)=true from U0 h3) ?_
 exact xe 7 (.bool (decide (no<(14400:Int)))) ⟨by rw[U0 h4],(B4 w)⟩
theorem Bys.take{w:V1}{a:O0}{n c:Nat}{l:Bl}(h:Bys w (.slice a n c) l)(hn:l.length=n)(m:Nat)(hm:m≤n):Bys w (.slice a m c) (l.take m):=by
 have a0:(l.take m).length=m:=by simp;omega
 rcases h with ⟨a',c',h1,h2,h3⟩|⟨b,a1,a3,h1,h2,h3,h4⟩
 ·obtain rfl:m=0:=M0;simp only[C2] at h1;exact .inl ⟨a,c,rfl,Y5,Y5⟩
 ·simp only[C2] at h1;obtain⟨rfl,_,rfl⟩:=h1;refine .inr ⟨b,a1,c,by rw[a0],M0,h3,fun j x hj=>h4 j x ?_⟩;have a2:j<m:=by have:=(List.getElem?_eq_some_iff.1 hj).1;simp at this;omega
  rwa [I8,I3 a2] at hj
def Zjl(l:Bl)(kind:Int):Nat:=Fk (l.take 252) ^^^ Zch kind
theorem Zt5(l:Bl)(kind:Int):Zjl l kind<4294967296:=H6 (n:=32) (Za9 _) (Znw _)
theorem Znc(kind:Int)(a:O0)(c:Nat)(l:Bl)(w:V1)(hn:l.length=256)(hc:256≤c)(h:Bys w (.slice a 256 c) l) :
 C0 167 #[.slice a 256 c,V0 kind] w (Ret (V0 (Zjl l kind:Int)) w):=by
 refine zin 12 Tryz.func167 ?_
 refine xsH 8 (fun _ _ _ _ zo zx zy V=>Ka (k:=252) (b:=a) (n:=256) (c:=c) (i:=252) (ki:=.i64) zo zx zy rfl M0 Tryz.underlying50 K0 V) ?_
 refine xbs 0 1 [.slice a 252 c] 50 fun b1 W1 n1=>?_
 refine xr 0 (Zwo b1 a 252 c (l.take 252) _ (by simp;omega) n1.blk ((h.take hn 252 Do).i n1.i) Do) fun W2 a1=>?_
 refine xr 1 (Zvn kind _) fun W3 a2=>?_
 refine xq 0 (congrArg V0 (show(IntKind.i64.wrap (↑(BitVec.ofInt 64 (↑(Fk (l.take 252)):Int) ^^^ BitVec.ofInt 64 (↑(Zch kind):Int)).toNat:Int):Int)=(↑(Zjl l kind):Int) from i64_xor (Za9 _) (Znw _))) ?_
 have a0:=bln (bln n1.i a1) a2
 exact xe 4 (V0 (↑(Zjl l kind):Int)) ⟨rfl,a0⟩
theorem Yk{l:Bl}{k:Nat}{x:Bl}(h:k+x.length≤l.length):(Qj l k x).length=l.length:=by simp[Qj];omega
theorem Zjf(n:Nat):Gw (Value.int .u8 0).cells.toList n=(replicate n (0:UInt8)).map bv:=by
 rw[show(Value.int .u8 0).cells.toList=[Value.int .u8 0] from rfl,Gw,O9];induction n with
 | zero=>rfl
 | succ n ih=>rw[K7,P3,ih,K7];rfl
theorem Vr{w:V1}{v:V2}{n:Nat}{l:Bl}(h:Sl w v n (l.map bv))(hn:l.length=n):Bys w v l:=by subst hn;exact h
theorem Zl3{w:V1}{base n c size:Nat}{e:V3}{p:O0}{xs:V6 V2}(h:w.ownsRow base e size (.slice p n c) n xs)(hn:0<n):n≤c:=by
 rcases h.2 with ⟨_,h0⟩|⟨g,a0,a1,hv,_,_,hc,_⟩
 ·omega
 ·simp only[C2] at hv;omega
theorem putN{m:Nat}{l:Bl}{k:Nat}{x:Bl}{w:V1}{e:V5}{w':V1}(hm:l.length=m)(hk:k+x.length≤m)(h:Kd (fun w' r=>∃ v,r=.tuple #[v,V0 0]∧Et w.heap.size w' v (Qj l k x)) w e w') :
 Kd (fun w' r=>∃ p c,r=.tuple #[.slice p m c,V0 0]∧w'.ownsRow w.heap.size 5 1 (.slice p m c) m ((Qj l k x).map bv)) w e w':=by
 obtain⟨r,h1,h2,v,h3,h4⟩:=h
 unfold Et at h4
 rw[Yk M0,hm] at h4
 obtain⟨p,c,rfl⟩:=(Zf h4).slice
 exact⟨r,h1,h2,p,c,h3,h4⟩
theorem Put_4N(a:O0)(m c k:Nat)(ki:Int)(l:Bl)(n:Int)(w:V1)(hm:l.length=m)(hki:ki=(k:Int))(h:Bys w (.slice a m c) l)(hl:m≤100000)(hk:k+4≤m)(h0:0≤n)(hb:n<4294967296) :
 C0 166 #[.slice a m c,V0 ki,V0 4,V0 n] w (Kd (fun w' r=>∃ p c,r=.tuple #[.slice p m c,V0 0]∧w'.ownsRow w.heap.size 5 1 (.slice p m c) m ((Qj l k (leB n 4)).map bv)) w):=by
 subst hki
 refine(show Calls _ _ #[.slice a m c,V0 (k:Int),V0 4,V0 n] w _ from ?_)
 have:=Put_4 a c k l n w (by rw[hm];exact h) M0 M0 h0 hb
 rw[hm] at this
 exact this.mono fun e w' q=>putN hm (by rw[Zl];omega) q
theorem Put_2N(a:O0)(m c k:Nat)(ki:Int)(l:Bl)(n:Int)(w:V1)(hm:l.length=m)(hki:ki=(k:Int))(h:Bys w (.slice a m c) l)(hl:m≤100000)(hk:k+2≤m)(h0:0≤n)(hb:n<65536) :
 C0 166 #[.slice a m c,V0 ki,V0 2,V0 n] w (Kd (fun w' r=>∃ p c,r=.tuple #[.slice p m c,V0 0]∧w'.ownsRow w.heap.size 5 1 (.slice p m c) m ((Qj l k (leB n 2)).map bv)) w):=by
 subst hki
 have:=Put_2 a c k l n w (by rw[hm];exact h) M0 M0 h0 hb
 rw[hm] at this
 exact this.mono fun e w' q=>putN hm (by rw[Zl];omega) q
def Zid(li:Bl):Bl:=Qj (replicate 256 0) 8 li
def Zk6(no:Int)(li:Bl):Bl:=Qj (Zid li) 0 (leB no 4)
def Dn(kind no:Int)(li:Bl):Bl:=Qj (Zk6 no li) 4 (leB kind 2)
def Yf(kind no:Int)(li:Bl):Bl:=Qj (Dn kind no li) 252 (leB (Zjl (Dn kind no li) kind) 4)
theorem Nw{li:Bl}(h:li.length≤244):(Zid li).length=256:=by rw[Zid,Yk (by rw[B7];omega),B7]
theorem Mb{no:Int}{li:Bl}(h:li.length≤244):(Zk6 no li).length=256:=by rw[Zk6,Yk (by rw[Zl,Nw h];omega),Nw h]
theorem Uj{kind no:Int}{li:Bl}(h:li.length≤244):(Dn kind no li).length=256:=by rw[Dn,Yk (by rw[Zl,Mb h];omega),Mb h]
theorem Yr{kind no:Int}{li:Bl}(h:li.length≤244):(Yf kind no li).length=256:=by rw[Yf,Yk (by rw[Zl,Uj h];omega),Uj h]
theorem Zu2(kind no:Int)(h1:1≤kind)(h2:kind≤4)(h3:0≤no)(h4:no<14400)(a:O0)(c:Nat)(li:Bl)(w:V1)(hl:li.length≤244)(h:Bys w (.slice a li.length c) li) :
 C0 98 #[V0 kind,V0 no,.slice a li.length c] w (Kd (fun w' r=>∃ p c,r=.tuple #[.slice p 256 c,V0 0]∧w'.ownsRow w.heap.size 5 1 (.slice p 256 c) 256 ((Yf kind no li).map bv)) w):=by
 refine zin 54 Tryz.func98 ?_
 refine xr 11 (Zpq kind no h1 h2 h3 h4 _) fun W1 c4=>?_
 refine xk 14 (show(decide ((li.length:Int)>(244:Int)):Bool)=false from V9 M0) ?_
 refine xmk 4 fun _ _ _ _ zJ zQ zo zx zy zK=>Ht 256 (.int .u8 0) 1 1 ((replicate 256 (0:UInt8)).map bv) zo zx zy Tryz.underlying50 K0 rfl M0 M0 (Zjf 256) fun b2 W2 n2=>?_
 refine zK _ _ ?_
 have o2:=Xw (size:=1) (n:=256) n2.blk (n2.ge c4) Y5 Y2
 have hB:=bln c4 n2.i
 refine xbi 8 (t2:=50) fun _ _ _ _ zJ zQ zo zx zy zK=>Ct (dLen:=248) (dCap:=248) (off:=8) li.length (li.map bv) ((Zid li).map bv) zo Tryz.underlying50 K0 zx zy (h.i hB) o2 Y5 M0 M0 (Vq li) hB.size (by simp[Zid,Qj,L9]) fun W3 o3 c8 c6=>?_
 refine zK _ _ ?_
 refine xbs 9 2 [V0 0,V0 4,V0 no,V0 4,V0 2,V0 kind] 261 fun b4 W4 n4=>?_
 have b3:=hB.trans c6
 refine xu 5 4 ?_
 refine xlv 14 (n4.blk.a2 0 3) ?_
 refine xa 0 [V0 0,V0 0,V0 0] 261 fun b5 W5 n5=>?_
 have a5:=n5.ne n4.blk
 have a1:=bln b3 n4.i
 have g5:=n5.ge a1
 refine xsv 0 n5.blk [V0 0,V0 4,V0 no] fun W6 u6 k6=>?_
 refine xb 5 0 k6 ?_
 refine xb 1 1 k6 ?_
 refine xb 1 2 k6 ?_
 have a8:=u6.j (Zb (Zb o3 n4.i) n5.i) n5.blk Do
 refine xc 0 (Put_4N (S3 b2) 256 256 0 0 (Zid li) (no) _ (Nw hl) rfl (Vr (Zf a8) (Nw hl)) Do Do (h3) M0) ?_
 rintro _ W7 ⟨_,rfl,c0,p1,c1,rfl,o1⟩
 have c5:=(u6.i (bln a1 n5.i) g5).size
 have b0:=(u6.blk (n4.blk.i n5.i) a5).i c0
 refine xlv 26 (b0.a2 3 3) ?_
 refine xa 0 [V0 0,V0 0,V0 0] 261 fun b8 W8 n8=>?_
 have a0:=bln (u6.i (bln a1 n5.i) g5) c0
 have g8:=n8.ge a0
 refine xsv 0 n8.blk [V0 4,V0 2,V0 kind] fun W9 u9 k9=>?_
 refine xb 5 0 k9 ?_
 refine xb 1 1 k9 ?_
 refine xb 1 2 k9 ?_
 have b6:=u9.j (Zb (Zg o1 c5) n8.i) n8.blk Do
 refine xc 0 (Put_2N p1 256 c1 4 4 (Zk6 no li) (kind) _ (Mb hl) rfl (Vr (Zf b6) (Mb hl)) Do Do M0 M0) ?_
 rintro _ d0 ⟨_,rfl,a4,p2,c2,rfl,o2⟩
 have b1:=(u9.i (bln a0 n8.i) g8).size
 have a2:=Zg o2 b1
 refine xr 29 (Znc kind p2 c2 (Dn kind no li) _ (Uj hl) (Zl3 a2 Do) (Vr (Zf a2) (Uj hl))) fun c7 a3=>?_
 have a6:=Zb a2 a3
 refine xc 0 (args:=#[.slice p2 256 c2,V0 252,V0 4,V0 (↑(Zjl (Dn kind no li) kind):Int)]) (Put_4N p2 256 c2 252 252 (Dn kind no li) ((Zjl (Dn kind no li) kind:Int)) _ (Uj hl) rfl (Vr (Zf a6) (Uj hl)) Do Do (K3 _) (by have:=Zt5 (Dn kind no li) kind;omega)) ?_
 rintro _ c9 ⟨_,rfl,a9,p3,c3,rfl,o3⟩
 have b9:=(bln (bln (u9.i (bln a0 n8.i) g8) a4) a3).size
 have b7:=bln (bln (bln (u9.i (bln a0 n8.i) g8) a4) a3) a9
 have a7:=Zg o3 b9
 exact xe 14 (.tuple #[.slice p3 256 c3,V0 0]) ⟨_,rfl,b7,_,_,rfl,a7⟩
end
end
section
open Go.RowKit
section
section
variable {P:V4} {Q:Exit→Act→V1→Prop} {a:Act} {w:V1} {K:Act→V1→Prop}
theorem Zsa{o:Oper}{t e:V3}{x y y2 y3:Operand}{b off n k h c:Nat}{i j j2:Int}{ki kj kj2:IntKind}(size off' d:Nat)(ho:o.op=.slice t x (some y) (some y2) (some y3))(hx:a.eval x=.slice (some ⟨b,off,none⟩) n c)(hy:a.eval y=.int ki i)(hi:i=(k:Int))(hy2:a.eval y2=.int kj j)(hj:j=(h:Int))(hy3:a.eval y3=.int kj2 j2)(hj2:j2=(h:Int))
 (hk:k<h) (hc:h≤c) (hoff:off+k*size=off') (hd:h-k=d) (ht:P.underlying t=some (.slice e)) (hs:(P.info? e).map (·.size)=some size) (w:V1):(execOp a.eval o).run P w=.ok (.value (.slice (some ⟨b,off',none⟩) d d)) w:=by
 cases hq:P.info? e with
 | none=>simp[hq] at hs
 | some q =>
  have hj:q.size=size:=by simpa [hq] using hs
  subst hi hj hj2 hoff hd
  have h3:(k:Int)≤(h:Int):=M0
  have h5:¬ h=k:=M0
  simp_all [execOp,Instr.sliceAt,Instr.slice,Instr.sliceBounds,Instr.sliceBound,asIntOf,run_underlying ht,sizeOf,typeInfo,Addr.add_mid]
def Li(b:O0)(k c size:Nat):O0:=if c=k then b else b.map (·.add (k*size))
theorem Wv{o:Oper}{t e:V3}{x y:Operand}{b:O0}{n k c:Nat}{i:Int}{ki:IntKind}(size:Nat)(ho:o.op=.slice t x (some y) none none)(hx:a.eval x=.slice b n c)(hy:a.eval y=.int ki i)(hi:i=(k:Int))(hk:k≤n)
 (ht:P.underlying t=some (.slice e)) (hs:(P.info? e).map (·.size)=some size) (w:V1):(execOp a.eval o).run P w=.ok (.value (.slice (Li b k c size) (n-k) (c-k))) w:=by
 cases hq:P.info? e with
 | none=>simp[hq] at hs
 | some j =>
  have hj:j.size=size:=by simpa [hq] using hs
  subst hi
  by_cases h3:c=k
  ·simp[execOp,ho,hx,hy,Instr.sliceAt,Instr.slice,Instr.sliceBounds,Instr.sliceBound,asIntOf,run_underlying ht,sizeOf,typeInfo,hq,hk,h3,Li]
  ·simp[execOp,ho,hx,hy,Instr.sliceAt,Instr.slice,Instr.sliceBounds,Instr.sliceBound,asIntOf,run_underlying ht,sizeOf,typeInfo,hq,hj,hk,h3,Li]
end
end
end
end Go.Proofs.YtekomodnkfhihaaGreatDoor
