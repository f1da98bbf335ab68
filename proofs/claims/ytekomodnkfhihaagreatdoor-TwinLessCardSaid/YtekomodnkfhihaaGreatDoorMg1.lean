/- General words for all walks of this seat: what a call returns while everything that lay there before is unchanged ('Ret'), slices as lists ('Sl', 'Ints'), and one rule for a region that draws its order while its operations read, or call what returns one value ('wp_region_ext'). No program is named here. -/
import Derived.WalkKit
import Derived.WalkSpells
import Derived.WalkLawsBesides
import Derived.Deep.QuietTactic
import Derived.BigQuiet
import Derived.Lib.Hide
import Derived.RangeFuncNested
import Derived.RangeFuncBound
import Derived.RangeFuncCalls
import Derived.RangeFuncLeaves
import Derived.Shelf.Abstract
import Derived.Shelf.RegionOpen
import Derived.OwnWalkIn
import Derived.TacticsInMore
import Derived.LoopNIn
import Derived.LoopIn
import Derived.Test.YtekomodnkfhihaaGreatDoorProg
import Derived.LaidEql
import Derived.Stop.Asserts
import Derived.RowKitTokens
import Derived.Deep.LoopGhost
import Derived.Test.YtekomodnkfhihaaGreatDoorRows
import Derived.ChangeSame
import Derived.ChangeVars
import Derived.JoinedOf
import Derived.RowKit
import Derived.LaidLaws
import Derived.LaidHandle
import Derived.Stop.Joined
import Derived.SevenTiedAt
import Derived.Shelf.Strings.BuilderK
import Derived.Shelf.LaysM
import Derived.Shelf.Strconv.Itoa3
import Derived.Maps.AppendAt
import Derived.Deep.AppendLies
import Derived.Deep.RegionHeld3
import Derived.Deep.MidRow
import Derived.Deep.RegionHeld
import Derived.IntWalk
import Derived.LoopN
import Derived.ProofKit
import Derived.OpenShut
import Derived.ShutString
import Derived.ChangeOld
import Derived.Below
import Derived.Lib.SmallJoins
import Derived.Laws.IdiomStrings
import Derived.Lib.ItoaNum
import Derived.Defers
import Derived.Recover
import Derived.ArgAppend
import Derived.Laws.StructEq
import Derived.StillTailTactics
import Derived.Deep.Slices
import Derived.Deep.Fields
import Derived.Deep.Strs
namespace Go.Proofs.YtekomodnkfhihaaGreatDoor
set_option maxHeartbeats 8000000
set_option maxRecDepth 100000
open Go.RowKit
abbrev V0(z:Int):Value:=.int .i64 z
abbrev S0:Value:=.slice none 0 0
abbrev P0(b:Nat):Value:=.pointer (some ⟨b,0,none⟩)
abbrev S1(b:Nat):Option Addr:=some ⟨b,0,none⟩
abbrev Bi:=List UInt8
abbrev O0:=Option Addr
abbrev C0:=Calls Tryz.prog
abbrev Bl(w:World):World→Prop:=Below w.heap.size w
theorem B3(w:World):Below w.heap.size w w:=Below.refl _ _
abbrev At:=@Option.some.injEq
abbrev A0:=@List.length_map
abbrev A1:=@List.length_append
abbrev A3:=@Nat.le_refl
abbrev A4:=@List.take_succ_eq_append_getElem
abbrev A5:=@List.take_of_length_le
abbrev A6:=@Nat.zero_le
abbrev A7:=@Value.slice.injEq
abbrev A8:=@List.length_replicate
abbrev A9:=@World.ownsRow_nil
abbrev B4:=@List.getElem?_eq_getElem
abbrev B5:=@List.getElem?_range
abbrev B6:=@List.map_append
abbrev B7:=@List.getElem?_map
abbrev B8:=@Sem.run_bind
abbrev B9:=@List.mem_cons_self
abbrev C1:=@Nat.lt_of_lt_of_le
abbrev C2:=@Prod.mk.injEq
abbrev C3:=@List.getElem?_eq_none
abbrev C4:=@Result.andThen_ok
abbrev C5:=@Option.map_some
abbrev C6:=@List.range_succ
abbrev C7:=@List.mem_cons_of_mem
abbrev C8:=@Bool.and_eq_true
abbrev C9:=@List.drop_eq_nil_of_le
abbrev D0:=@Nat.mul_one
abbrev D1:=@List.length_take
abbrev D3:=@BitVec.ofInt_natCast
abbrev D4:=@List.mem_cons
abbrev D5:=@List.length_cons
abbrev D6:=@List.getElem_mem
abbrev D7:=@Nat.add_assoc
abbrev D8:=@List.mem_singleton
abbrev D9:=@BitVec.toNat_ofNat
abbrev Eq:=@Nat.xor_lt_two_pow
abbrev E0:=@Nat.mod_eq_of_lt
abbrev E1:=@List.getElem?_take_of_lt
abbrev E2:=@List.mem_range
abbrev E3:=@List.getElem?_drop
abbrev E4:=@List.map_cons
abbrev E5:=@List.map_take
abbrev E6:=@Nat.lt_or_ge
abbrev E7:=@List.sum_append
abbrev E8:=@List.eq_nil_of_length_eq_zero
abbrev E9:=@Nat.zero_add
abbrev F0:=@Sem.run_pure
abbrev F1:=@Nat.eq_zero_or_pos
abbrev F2:=@World.putObj_heap_other
abbrev F3:=@List.size_toArray
abbrev F4:=@List.ext_getElem?
abbrev F5:=@List.cons_append
abbrev F6:=@List.take_append_drop
abbrev F7:=@Nat.eq_of_beq_eq_true
abbrev F8:=@List.getElem?_toArray
abbrev F9:=@Int.natCast_nonneg
abbrev Ge:=@List.getElem?_take
abbrev Gt:=@Nat.min_eq_left
abbrev G0:=@List.sum_cons
abbrev G3:=@List.flatMap_append
abbrev G4:=@List.cons.injEq
abbrev G5:=@List.nil_append
abbrev G6:=@List.map_drop
abbrev G7:=@Int.toNat_natCast
abbrev G8:=@List.append_assoc
abbrev G9:=@List.getElem?_append_left
abbrev H0:=@List.drop_eq_getElem_cons
abbrev H1:=@List.map_toArray
abbrev H2:=@List.length_drop
abbrev H3:=@Nat.add_zero
abbrev H4:=@List.map_congr_left
abbrev H5:=@List.replicate_succ
abbrev H6:=@Nat.lt_of_le_of_lt
abbrev H7:=@Nat.add_mul
abbrev H8:=@List.flatMap_cons
abbrev H9:=@List.ext_getElem
abbrev Id:=@World.alloc_heap_new
abbrev If:=@Array.toArray_toList
abbrev Is:=@Nat.mul_le_mul_right
abbrev I0:=@List.mem_of_mem_take
abbrev I1:=@Array.length_toList
abbrev I2:=@Nat.min_le_left
abbrev I3:=@List.map_nil
abbrev I4:=@Nat.le_of_eq
abbrev I5:=@List.getElem?_replicate
abbrev I6:=@List.getElem?_set_self
abbrev I7:=@Nat.le_add_right
abbrev I8:=@List.take_eq_take_iff
abbrev I9:=@List.length_filter_le
abbrev J0:=@List.getElem?_set_ne
abbrev J6:=@Nat.div_le_self
abbrev K1:=@Bool.or_eq_false_iff
abbrev K2:=@List.length_nil
abbrev K3:=@Array.replicate_succ
abbrev K4:=@Array.replicate_zero
abbrev K5:=@World.grownBy_alloc
abbrev K6:=@List.append_toArray
abbrev K7:=@List.drop_drop
abbrev K8:=@List.map_replicate
abbrev K9:=@List.flatten_cons
abbrev Le:=@List.push_toArray
abbrev Lt:=@Nat.succ_mul
abbrev L0:=@List.map_map
theorem Do{p:Prop}(h:p:=by decide):p:=h
theorem K0{p:Prop}(h:p:=by kernel_rfl):p:=h
theorem M0{p:Prop}(h:p:=by omega):p:=h
theorem N0{a b c:Nat}(h:a≤b)(k:b≤c):a≤c:=Nat.le_trans h k
theorem S2{α:Sort _}{a b:α}(h:a≠b):b≠a:=h.symm
def Ret (v:Value)(w:World)(e:Ending)(w':World):Prop:=e=.returned v∧Bl w w'
theorem getC{W w1:World}(hb:Bl W w1){p:Addr}{v:Value}(h:W.cell? p=some v):w1.cell? p=some v :=
 (hb.cell (World.block_lt_of_cell? W p h)).trans h
theorem ltC{w:World}{p:Addr}{v:Value}(h:w.cell? p=some v):p.block<w.heap.size:=World.block_lt_of_cell? w p h
theorem ltB{W w1:World}(hb:Bl W w1){b:Nat}(h:b<W.heap.size):b<w1.heap.size:=C1 h hb.size
theorem blD{B:Nat}{a w:World}(h:Below B a w)(n:Nat):Below B a (w.drewN n):=⟨h.os,h.tape,h.output,h.size,h.block⟩
theorem bln{a w w':World}(h:Below a.heap.size a w)(k:Bl w w'):Below a.heap.size a w':=h.trans (k.mono h.size)
theorem blx(w:World)(o:Obj):Bl w (w.alloc o):=(Below.refl _ _).alloc (A3 _) _
def Sl (w:World)(v:Value)(n:Nat)(xs:List Value):Prop :=
 (∃ a c,v=.slice a 0 c∧n=0∧xs=[])∨∃ b off cap,v=.slice (some ⟨b,off,none⟩) n cap∧n≤cap∧cap≤maxLen∧∀ j x,xs[j]? = some x→w.cell? ⟨b,off+j,none⟩=some x
def Ints(w:World)(v:Value)(l:List Int):Prop:=Sl w v l.length (l.map V0)
theorem Sl.below{w w':World}{v:Value}{n:Nat}{xs:List Value}(h:Sl w v n xs)(hb:Bl w w'):Sl w' v n xs:=by
 rcases h with h|⟨b,a0,a1,h1,h2,h3,h4⟩
 ·exact .inl h
 ·exact .inr ⟨b,a0,a1,h1,h2,h3,fun j x hj=>getC hb (h4 j x hj)⟩
theorem Ints.below{w w':World}{v:Value}{l:List Int}(h:Ints w v l)(hb:Bl w w'):Ints w' v l:=Sl.below h hb
theorem Ints.blk{w:World}{v:Value}{l:List Int}(h:Ints w v l)(hl:l.length≠0){b off n cap:Nat}(hv:v=.slice (some ⟨b,off,none⟩) n cap):b<w.heap.size:=by
 rcases h with ⟨_,_,h1,h2,h3⟩|⟨b',a0,a1,h1,h2,h3,h4⟩
 ·exact absurd h2 hl
 ·rw[hv] at h1
  simp only[A7,At,Addr.mk.injEq] at h1
  obtain⟨⟨rfl,rfl,_⟩,_,_⟩:=h1
  exact ltC (h4 0 (V0 l[0]) (by simp))
theorem Ints.slice{w:World}{v:Value}{l:List Int}(h:Ints w v l):∃ a c,v=.slice a l.length c:=by
 rcases h with ⟨_,_,rfl,h,_⟩|⟨b,a0,a1,rfl,_⟩
 ·rw[h];exact⟨_,_,rfl⟩
 ·exact⟨_,_,rfl⟩
def Qh(R:World→Value→Prop)(w:World)(e:Ending)(w':World):Prop:=∃ r,e=.returned r∧Bl w w'∧R w' r
theorem Sl.slice{w:World}{v:Value}{n:Nat}{xs:List Value}(h:Sl w v n xs):∃ a c,v=.slice a n c:=by
 rcases h with ⟨_,_,rfl,h,_⟩|⟨b,a0,a1,rfl,_⟩
 ·rw[h];exact⟨_,_,rfl⟩
 ·exact⟨_,_,rfl⟩
theorem Sl.at{w:World}{a:O0}{n c:Nat}{xs:List Value}(h:Sl w (.slice a n c) n xs):xs=[]∨∃ b off,a=some ⟨b,off,none⟩∧∀ j x,xs[j]? = some x→w.cell? ⟨b,off+j,none⟩=some x:=by
 rcases h with ⟨_,_,_,_,h2⟩|⟨b,off,a0,h1,_,_,h4⟩
 ·exact .inl h2
 ·simp only[A7] at h1;exact .inr ⟨b,off,h1.1,h4⟩
theorem Sl.len{w:World}{v:Value}{n:Nat}{xs:List Value}(h:Sl w v n xs):n≤9223372036854775807:=by
 rcases h with ⟨_,_,_,h,_⟩|⟨b,a0,a1,_,h1,h2,_⟩
 ·omega
 ·unfold maxLen at h2;omega
/-! ### the walk halts here: 'go_wp2_with (at_builtin;refine Stop.go ?_)',then 'unfold Stop' -/
def Stop(p:Prop):Prop:=p
theorem Stop.go{p:Prop}(h:Stop p):p:=h
/-! ### a row that the call owns -/
theorem Za{w w':World}{base:Nat}{e:TypeId}{size:Nat}{v:Value}{n:Nat}{xs:List Value}(h:w.ownsRow base e size v n xs)(hb:Bl w w'):w'.ownsRow base e size v n xs :=
 h.kept (row:=none) ⟨hb.os,hb.tape,hb.output,hb.size,fun k hk _=>hb.block k hk⟩ (by cases v.ownBlock<;>simp)
theorem Ze{w:World}{base:Nat}{e:TypeId}{size:Nat}{v:Value}{n:Nat}{xs:List Value}(h:w.ownsRow base e size v n xs):Sl w v n xs:=by
 have hx:=h.1
 rcases h.2 with ⟨rfl,rfl⟩|⟨g,a0,a1,rfl,_,hg,h2,h3,_,h5⟩
 ·exact .inl ⟨_,_,rfl,rfl,E8 (by simpa using hx)⟩
 ·refine .inr ⟨g,0,a0,rfl,h2,h3,fun j x hj=>?_⟩
  have hc:=h.cells (g:=g) rfl j x hj
  rw[E9]
  by_cases h0:j=0
  ·subst h0;simpa [Addr.add] using hc
  ·simpa [Addr.add,h0] using hc
theorem Yq{B:Nat}{w w':World}{v:Value}{base:Nat}{e:TypeId}{size n:Nat}{xs:List Value}(hg:w.grownBy w' v.ownBlock)(h:w.ownsRow base e size v n xs)(hB:B≤base)(hw:B≤w.heap.size):Below B w w' :=
 (Below.refl B w).grown hg hw (fun k e=>N0 hB (h.lt k e).1)
/-! ### make: n elements of Kk -/
def Kk(cs:List Value)(n:Nat):List Value:=(List.replicate n cs).flatten
theorem Ti(cs:List Value)(n:Nat):Kk cs (n+1)=Kk cs n++cs:=by simp[Kk,List.replicate_succ']
theorem Ai(cs:List Value)(n:Nat):madeCells cs.toArray (n*cs.length)=(Kk cs n).toArray:=by
 have h:((List.range (n*cs.length)).map fun j=>cs.toArray[j%cs.toArray.size]!)=Kk cs n:=by
  induction n with
  | zero=>simp[Kk]
  | succ n ih =>
   rw[Lt,List.range_add,B6,ih,Ti,L0]
   congr 1
   apply H9
   ·simp
   ·intro i h1 h2
    simp[E0 h2,h2]
 rw[←h];apply Array.ext
 ·simp[madeCells]
 ·intro i h1 h2;simp[madeCells]
theorem Oi{P:Program}{t e:TypeId}{i:TypeInfo}{z:Value}(cs:List Value)(ht:P.underlying t=some (.slice e))(hi:P.info? e=some i)(hz:i.zero=some z)(hc:z.cells=cs.toArray)(hs:i.size=cs.length){k:Nat}(hk:i.bytes=k)
 (n:Nat) (hb:k*n≤281474976710656) (hn:n≤9223372036854775807) (w:World) :
 (Instr.makeSlice t (V0 (n:Int)) (V0 (n:Int))).run P w=.ok (.slice (some ⟨w.heap.size,0,none⟩) n n) (w.alloc (.cells (Kk cs n).toArray e)):=by
 have a0:(i.bytes:Int)*(n:Int)≤281474976710656:=by
  have h:((i.bytes*n:Nat):Int)≤281474976710656:=by rw[hk];omega
  rwa [Int.natCast_mul] at h
 have hr:=run_make (P:=P) w t e i z ht hi hz .i64 .i64 n n M0 M0 a0 M0
 simp only[G7] at hr
 rw[hr,hc,hs,Ai]
/-! ### A region that draws its order: in every later world -/
structure Ext(W:World) where
 val:World
 below:Below W.heap.size W val
instance (W:World):Nonempty (Ext W):=⟨⟨W,Below.refl _ _⟩⟩
theorem Ext.lt{W:World}(z:Ext W){b:Nat}(h:b<W.heap.size):b<z.val.heap.size:=ltB z.below h
theorem Ret.ext{P:Program}{f:FuncId}{args:Array Value}{w:World}{v:Value}{x:Ext w}(h:Calls P f args x.val (Ret v x.val)) :
 Calls P f args x.val fun e w''=>e=.returned v∧∃ y:Ext w,w''=y.val :=
 h.mono fun _ w'' ⟨he,hb⟩=>⟨he,⟨w'',x.below.trans (hb.mono x.below.size)⟩,rfl⟩
end Go.Proofs.YtekomodnkfhihaaGreatDoor
namespace Go.Proofs.YtekomodnkfhihaaGreatDoor
set_option maxHeartbeats 8000000
set_option maxRecDepth 100000
open Go.RowKit
set_option linter.unusedVariables false
def Blk (W:World)(b:Nat)(cs:List Value)(t:TypeId):Prop:=W.heap[b]? = some (.cells cs.toArray t (0,0))
theorem Blk.lt{W:World}{b:Nat}{cs:List Value}{t:TypeId}(h:Blk W b cs t):b<W.heap.size:=(Array.getElem?_eq_some_iff.1 h).1
theorem Blk.cell{W:World}{b:Nat}{cs:List Value}{t:TypeId}(h:Blk W b cs t){i:Nat}{v:Value}(hv:cs[i]? = some v):W.cell? ⟨b,i,none⟩=some v:=by
 simp[World.cell?,show W.heap[b]? = _ from h,hv]
theorem Blk.frozen{W:World}{b:Nat}{cs:List Value}{t:TypeId}(h:Blk W b cs t)(i:Nat):W.frozen? ⟨b,i,none⟩=false:=by
 simp[World.frozen?,show W.heap[b]? = _ from h]
theorem Blk.new(W:World)(cs:List Value)(t:TypeId):Blk (W.alloc (.cells cs.toArray t)) W.heap.size cs t:=Id W _
theorem Blk.kept{W W':World}{row:Option Nat}{b:Nat}{cs:List Value}{t:TypeId}(h:Blk W b cs t)(hg:W.grownBy W' row)(hne:some b≠row):Blk W' b cs t:=(hg.block b h.lt hne).trans h
theorem Blk.alloc{W:World}{b:Nat}{cs:List Value}{t:TypeId}(h:Blk W b cs t)(o:Obj):Blk (W.alloc o) b cs t:=h.kept (K5 W o none) (by simp)
theorem Blk.below{W W':World}{b:Nat}{cs:List Value}{t:TypeId}(h:Blk W b cs t)(hb:Bl W W'):Blk W' b cs t:=(hb.block b h.lt).trans h
theorem Blk.other{W:World}{b:Nat}{cs:List Value}{t:TypeId}(h:Blk W b cs t){p:Addr}(hp:b≠p.block)(u:Value):Blk (W.setCell p u) b cs t :=
 (Below.heap_setCell W p u b hp).trans h
theorem Blk.set{W:World}{b:Nat}{cs:List Value}{t:TypeId}(h:Blk W b cs t)(i:Nat)(u:Value):Blk (W.setCell ⟨b,i,none⟩ u) b (cs.set i u) t:=by
 obtain⟨a0,hk⟩:=Array.getElem?_eq_some_iff.1 h
 show(W.heap.modify b _)[b]? = _
 rw[Array.getElem?_eq_getElem (by rw[Array.size_modify];exact a0),Array.getElem_modify_self,hk]
 simp
theorem Blk.own{β:Type}(b:Nat)(t:TypeId)(f:β→List Value):Own (fun s W=>Blk W b (f s) t):=fun s X Y a1 hs hg a0 =>
 hs.kept hg (fun e'=>by obtain⟨o,ho,hc⟩:=a0 b e'.symm;rw[show X.heap[b]? = _ from hs] at ho;cases ho;cases hc)
theorem Blk.turn{A B:World}{row:Option Nat}{b:Nat}{cs:List Value}{t:TypeId}(h:Blk A b cs t)(hg:A.grownBy B row)(hr:∀ r,row=some r→∃ o:Obj,A.heap[r]? = some o∧o.isCells=false):Blk B b cs t :=
 h.kept hg (fun e'=>by obtain⟨o,ho,hc⟩:=hr b e'.symm;rw[show A.heap[b]? = _ from h] at ho;cases ho;cases hc)
theorem Blk.put{W:World}{b l:Nat}{cs:List Value}{t:TypeId}(h:Blk W b cs t){o:Obj}(hl:W.heap[l]? = some o)(ho:o.isCells=false)(o':Obj):Blk (W.putObj l o') b cs t :=
 h.turn (grownBy_putObj' W l o') (fun r e=>by cases e;exact⟨o,hl,ho⟩)
structure Keeps(p:Nat→Prop)(W W':World):Prop where
 size:W.heap.size≤W'.heap.size
 block:∀ b,p b→W'.heap[b]? = W.heap[b]?
theorem Keeps.refl(p:Nat→Prop)(W:World):Keeps p W W:=⟨A3 _,fun _ _=>rfl⟩
theorem Keeps.trans{p:Nat→Prop}{A B C:World}(h:Keeps p A B)(k:Keeps p B C):Keeps p A C:=⟨N0 h.size k.size,fun b hb=>(k.block b hb).trans (h.block b hb)⟩
theorem Keeps.of_below{p:Nat→Prop}{B:Nat}{W W':World}(h:Below B W W')(hp:∀ b,p b→b<B):Keeps p W W':=⟨h.size,fun b hb=>h.block b (hp b hb)⟩
theorem Keeps.setCell{p:Nat→Prop}{A W:World}(h:Keeps p A W){a:Addr}(ha:¬ p a.block)(u:Value):Keeps p A (W.setCell a u) :=
 h.trans ⟨by simp[World.setCell],fun b hb=>Below.heap_setCell W a u b (fun e=>ha (e▸hb))⟩
theorem Keeps.cell{p:Nat→Prop}{W W':World}(h:Keeps p W W'){a:Addr}(hb:p a.block):W'.cell? a=W.cell? a:=World.cell?_of_block (h.block a.block hb)
theorem Du{p:Nat→Prop}{B:Nat}(hp:∀ b,p b→b<B)(W:World)(l:Nat)(o o':Obj)(hl:B≤l)(h:W.heap[l]? = some o)(_:o.isCells=false)(_:o.isWalk=false):Keeps p W (W.putObj l o') :=
 ⟨(grownBy_putObj' W l o').size,fun b hb=>F2 (by have:=hp b hb;omega)⟩
theorem Ha{P:Program}{f:FuncId}{fn:Func}{c:Code}{args:Array Value}{w:World}{R:Ending→World→Prop}(hf:P.funcs[f]? = some fn)(hb:fn.body=some c)
 (h:c.wp P (bodyPostM Fence.wide 4 P fn R) { tmps:=args++Array.replicate (fn.ntmps-args.size) undef,defers:=[] } w):Calls P f args w R :=
 callsIn_wide.1 (callsIn_of_wp_marks hf hb trivial (wpIn_wide.2 h))
theorem wp_range{α:Type}{P:Program}{g:Operand}{ps:Array Tmp}{assign body:Code}{Q:Exit→Act→World→Prop}{a:Act}{w:World}{gf:Nat}{lb:Array Value}
  (hg:a.eval g=.func (.func gf) #[] lb) (eg:∀ args w,(callFunc gf args).run P w=.ok (.enter gf args) w) {encs:α→Array Value} {S Sp:List α→Prop} {N:Nat} (p:Nat→Prop) (hp:∀ b,p b→b<w.heap.size)
  (hseq:SeqStopsK Fence.wide 3 P gf lb encs (Keeps p) S Sp N w) (hps:∀ x,(encs x).size=ps.size)
  (I:List α→World→Prop) (Ix:Code→List α→World→Prop) (hI:OwnFrom w.heap.size I) (hIx:∀ c,OwnFrom w.heap.size (Ix c)) (h0:I [] w) (Ax:α→Act→World→Prop) (hAx:∀ x a',OwnFrom w.heap.size (fun(_:Unit) W=>Ax x a' W))
  (hassign:∀ (l:Nat) (pre:List α) (x:α) (W:World) (K:Act→World→Prop),I pre W→(∀ a' W',KeepsFrom w.heap.size W W'→Keeps p W W'→I pre W'→Ax x a' W'→K a' W') →
   assign.wpIn (Fence.wide.inRound l) 2 P (Exit.then K (fun _ _ _=>False)) { tmps:=(ps.zip (encs x)).foldl (fun t (p,v)=>t.setIfInBounds p v) a.tmps,defers:=[] } W)
  (hbody:∀ (l:Nat) (pre:List α) (x:α) (a':Act) (W:World),w.heap.size≤l→I pre W→Ax x a' W→pre.length<N→body.wpIn (Fence.wide.inRound l) 2 P (ownPostG w.heap.size (Keeps p) I Ix (pre++[x]) W) a' W)
  (hdone:∀ (D:Nat) (xs:List α) (W:World),w.heap.size≤D→S xs→I xs W→W.heap[D]? = some (.deferred (some []))→Q .normal { a with defers:={ target:=.collected D,args:=#[] }::a.defers } W)
  (hstop:∀ (D:Nat) (c:Code) (pre:List α) (W:World),w.heap.size≤D→Sp pre→Ix c pre W→W.heap[D]? = some (.deferred (some []))→c.wp P Q { a with defers:={ target:=.collected D,args:=#[] }::a.defers } W) :
  (Code.rangeFunc g ps assign body).wp P Q a w :=
 (wpIn_wide (n:=4)).1 (wpIn_rangeFunc_ownH (F:=Fence.wide) (n:=4) rfl M0 hg trivial eg hseq (fun h k=>h.trans k) (Du hp) (Below.refl _ _) hps I Ix hI hIx h0 Ax hAx hassign
  (fun l pre x a' W hl _ h1 h2 h3=>hbody l pre x a' W hl h1 h2 h3) hdone (fun D c pre W h1 h2 h3 h4=>wpIn_wide.2 (hstop D c pre W h1 h2 h3 h4)))
end Go.Proofs.YtekomodnkfhihaaGreatDoor
namespace Go.Proofs.YtekomodnkfhihaaGreatDoor
set_option maxHeartbeats 8000000
set_option maxRecDepth 100000
open Go.RowKit Go.Extern.Stop Go.Stop Go.Extern
set_option linter.unusedVariables false
def Jw(w:World):List (Option Int)→Option Int→Value→Prop
 | [],none,v=>v=.nilIface
 | [],some c,v=>v=.iface 33 (V0 c)
 | some b::r,t,v=>∃ blk v',v=.iface 201 (P0 blk)∧Blk w blk [V0 b,v'] 204∧Jw w r t v'
 | none::r,t,v=>False
theorem Jw.kept{w w':World}(hb:∀ blk cs,Blk w blk cs 204→Blk w' blk cs 204):∀ {l:List (Option Int)} {t:Option Int} {v:Value},Jw w l t v→Jw w' l t v
 | [],none,v,h=>h
 | [],some c,v,h=>h
 | some b::r,t,v,⟨blk,v',h1,h2,h4⟩=>⟨blk,v',h1,hb _ _ h2,Jw.kept hb h4⟩
 | none::r,t,v,h=>h.elim
theorem Jw.below{w w':World}(hb:Bl w w'){l:List (Option Int)}{t:Option Int}{v:Value}(h:Jw w l t v):Jw w' l t v:=h.kept fun _ _ k=>k.below hb
def noErr(l:List (Option Int))(t:Option Int):Bool:=l.isEmpty&&t.isNone
theorem Jw.nil_or{w:World}{l:List (Option Int)}{t:Option Int}{v:Value}(h:Jw w l t v):(noErr l t=true∧v=.nilIface)∨(noErr l t=false∧∃ ty x,v=.iface ty x):=by
 match l,t,h with
 | [],none,h=>exact .inl ⟨rfl,h⟩
 | [],some c,h=>exact .inr ⟨rfl,_,_,h⟩
 | some b::r,t,⟨_,_,h,_⟩=>exact .inr ⟨rfl,_,_,h⟩
 | none::r,t,h=>exact h.elim
/-! ### what the model's entries for internal/reflectlite give at these types -/
theorem Tryz.typeOfN(v:Value)(w:World):(ReflectliteType.typeOf #[.iface 33 v]).run Tryz.prog w=.ok (.iface 311 (.agg #[.pointer (some ⟨4,33,none⟩)])) w:=by kernel_rfl
/-! ### what the library's assertions find -/
theorem Tryz.noIsN(v:Value)(xT:TypeId)(w:World):(Instr.typeAssert (.iface 33 v) xT 369 true).run Tryz.prog w=.ok (.tuple #[.nilIface,.bool false]) w:=run_typeAssert_lacksB Tryz.underlying369 K0 K0 v xT w
theorem Tryz.noUnwrapN(v:Value)(xT:TypeId)(w:World):(Instr.typeAssert (.iface 33 v) xT 278 true).run Tryz.prog w=.ok (.tuple #[.nilIface,.bool false]) w:=run_typeAssert_lacksB Tryz.underlying278 K0 K0 v xT w
theorem Tryz.noUnwrapsN(v:Value)(xT:TypeId)(w:World):(Instr.typeAssert (.iface 33 v) xT 319 true).run Tryz.prog w=.ok (.tuple #[.nilIface,.bool false]) w:=run_typeAssert_lacksB Tryz.underlying319 K0 K0 v xT w
def atL (b:Int)(l:List (Option Int))(t:Option Int):List (Option Int):=if noErr l t then l else some b::l
theorem fault_At(b:Int)(t:Option Int)(l:List (Option Int))(v:Value)(w:World)(hv:Jw w l t v) :
 C0 65 #[V0 b,v] w (Qh (fun w' r=>Jw w' (atL b l t) t r) w):=by
 rcases hv.nil_or with ⟨hz,rfl⟩|⟨hz,ty,x,rfl⟩
 ·simp only[atL,hz,if_true]
  go_enter Tryz.func65,Tryz.ntmps65
  go_wp2_with fail
  go_ret
  exact⟨_,rfl,Below.refl _ _,hv⟩
 simp only[atL,hz,Bool.false_eq_true,if_false]
 go_enter Tryz.func65,Tryz.ntmps65
 go_wp2_with fail
 go_ret
 have k:=Blk.new w [V0 b,.iface ty x] 204
 exact⟨_,rfl,blx _ _,w.heap.size,_,rfl,k,hv.below (blx _ _)⟩
end Go.Proofs.YtekomodnkfhihaaGreatDoor
namespace Go.Proofs.YtekomodnkfhihaaGreatDoor
set_option maxHeartbeats 8000000
set_option maxRecDepth 100000
open Go.ChangeShapes Go.WideShapes Go.ChangeAt Go.RowKit Go.Joins
set_option linter.unusedVariables false
theorem ownKnobs:ownKnob Tryz.prog.godebug=none:=by kernel_rfl
theorem laidOuts:laidOutB Tryz.prog=true:=by kernel_rfl
theorem Tryz.et : Tryz.prog.globalNamed "errors.errorType" = some 0 := by kernel_rfl
noncomputable def laidWorld (os:Os):World :=
 let w0:=World.holding Tryz.prog os ⟨#[],#[],[]⟩
 { w0 with heap:=w0.heap.modify 0 fun
  | .cells _ t frozen=>.cells #[.iface 311 (.agg #[.pointer (some ⟨4,39,none⟩)])] t frozen
  | o=>o }
end Go.Proofs.YtekomodnkfhihaaGreatDoor
namespace Go.Proofs.YtekomodnkfhihaaGreatDoor
set_option maxHeartbeats 8000000
set_option maxRecDepth 100000
open Go.Shelf
set_option linter.unusedVariables false
def Hc:Go.Shelf.Ren:=⟨fun|169=>79|n=>n,fun|70=>153|9=>9|0=>0|72=>155|37=>50|127=>245|3=>3|5=>5|n=>n,fun|n=>n⟩
theorem Sx:Go.Proofs.Lays.n169 Tryz.prog Hc:={
 mixed:=by kernel_rfl
 f169:=Tryz.func79.trans (congrArg some K0)
 t0:=Tryz.underlying0
 a0:=Tryz.isAgg0
 z0:=Tryz.sizeOf0
 v0:=Tryz.zeroValue0
 t3:=Tryz.underlying3
 a3:=Tryz.isAgg3
 z3:=Tryz.sizeOf3
 v3:=Tryz.zeroValue3
 t9:=Tryz.underlying9
 a9:=Tryz.isAgg9
 z9:=Tryz.sizeOf9
 v9:=Tryz.zeroValue9
 t37:=Tryz.underlying50
 a37:=Tryz.isAgg50
 z37:=Tryz.sizeOf50
 v37:=Tryz.zeroValue50
 t70:=Tryz.underlying153
 a70:=Tryz.isAgg153
 z70:=Tryz.sizeOf153
 v70:=Tryz.zeroValue153
 t72:=Tryz.underlying155
 a72:=Tryz.isAgg155
 z72:=Tryz.sizeOf155
 v72:=Tryz.zeroValue155
 t127:=Tryz.underlying245
 a127:=Tryz.isAgg245
 z127:=Tryz.sizeOf245
 v127:=Tryz.zeroValue245 }
theorem Xq:Builder.Extra Tryz.prog Hc:={
 sizeBuilder:=by kernel_rfl
 liesBuilder:=by kernel_rfl
 t5:=Tryz.underlying5
 a5:=Tryz.isAgg5
 z5:=Tryz.sizeOf5
 v5:=Tryz.zeroValue5
 infoByte:=by kernel_rfl
 cellsByte:=by kernel_rfl
 sizeByte:=by kernel_rfl
 neB5:=by decide }
open Go.RowKit in
theorem Kg(B b:Nat)(l:Bi)(w:World)(h:Lib.IsBuilderF 155 5 B b (Lib.byteCells l) w)(hBw:B≤w.heap.size) :
 C0 79 #[P0 b] w fun e w'=>e=.returned (.string ⟨l.toArray⟩)∧(Lib.IsBuilderF 155 5 B b (Lib.byteCells l) w'∧Below B w w'∧Lib.OthersKept 5 (some b) w w'):=Any.Builder_String_any_k Sx Xq B b l w h hBw
def Nf:Go.Shelf.Ren:=⟨fun|171=>77|243=>143|246=>212|283=>255|284=>256|285=>257|286=>258|129=>275|317=>274|318=>276|319=>277|320=>278|337=>288|338=>289|n=>n,fun|3=>3|9=>9|2=>2|4=>4|171=>357|0=>0|53=>341|37=>50|5=>5|173=>360|212=>387|51=>367|20=>20|213=>388|46=>248|232=>396|233=>397|n=>n,fun|17=>1|18=>2|19=>3|n=>n⟩
theorem Fi:Go.Proofs.LaysM.n171 Tryz.prog Nf:={
 mixed:=by kernel_rfl
 f129:=Tryz.func275.trans (congrArg some K0)
 f171:=Tryz.func77.trans (congrArg some K0)
 f243:=Tryz.func143.trans (congrArg some K0)
 f246:=Tryz.func212.trans (congrArg some K0)
 f283:=Tryz.func255.trans (congrArg some K0)
 f284:=Tryz.func256.trans (congrArg some K0)
 f285:=Tryz.func257.trans (congrArg some K0)
 f286:=Tryz.func258.trans (congrArg some K0)
 f317:=Tryz.func274.trans (congrArg some K0)
 f318:=Tryz.func276.trans (congrArg some K0)
 f319:=Tryz.func277.trans (congrArg some K0)
 f320:=Tryz.func278.trans (congrArg some K0)
 f337:=Tryz.func288.trans (congrArg some K0)
 f338:=Tryz.func289.trans (congrArg some K0)
 t0:=Tryz.underlying0
 a0:=Tryz.isAgg0
 z0:=Tryz.sizeOf0
 v0:=Tryz.zeroValue0
 t2:=Tryz.underlying2
 a2:=Tryz.isAgg2
 z2:=Tryz.sizeOf2
 v2:=Tryz.zeroValue2
 t3:=Tryz.underlying3
 a3:=Tryz.isAgg3
 z3:=Tryz.sizeOf3
 v3:=Tryz.zeroValue3
 t4:=Tryz.underlying4
 a4:=Tryz.isAgg4
 z4:=Tryz.sizeOf4
 v4:=Tryz.zeroValue4
 t5:=Tryz.underlying5
 a5:=Tryz.isAgg5
 z5:=Tryz.sizeOf5
 v5:=Tryz.zeroValue5
 t9:=Tryz.underlying9
 a9:=Tryz.isAgg9
 z9:=Tryz.sizeOf9
 v9:=Tryz.zeroValue9
 t20:=Tryz.underlying20
 a20:=Tryz.isAgg20
 z20:=Tryz.sizeOf20
 v20:=Tryz.zeroValue20
 t37:=Tryz.underlying50
 a37:=Tryz.isAgg50
 z37:=Tryz.sizeOf50
 v37:=Tryz.zeroValue50
 t46:=Tryz.underlying248
 a46:=Tryz.isAgg248
 z46:=Tryz.sizeOf248
 v46:=Tryz.zeroValue248
 t51:=Tryz.underlying367
 a51:=Tryz.isAgg367
 z51:=Tryz.sizeOf367
 v51:=Tryz.zeroValue367
 t53:=Tryz.underlying341
 a53:=Tryz.isAgg341
 z53:=Tryz.sizeOf341
 v53:=Tryz.zeroValue341
 t171:=Tryz.underlying357
 a171:=Tryz.isAgg357
 z171:=Tryz.sizeOf357
 v171:=Tryz.zeroValue357
 t173:=Tryz.underlying360
 a173:=Tryz.isAgg360
 z173:=Tryz.sizeOf360
 v173:=Tryz.zeroValue360
 t212:=Tryz.underlying387
 a212:=Tryz.isAgg387
 z212:=Tryz.sizeOf387
 v212:=Tryz.zeroValue387
 t213:=Tryz.underlying388
 a213:=Tryz.isAgg388
 z213:=Tryz.sizeOf388
 t232:=Tryz.underlying396
 a232:=Tryz.isAgg396
 z232:=Tryz.sizeOf396
 v232:=Tryz.zeroValue396
 t233:=Tryz.underlying397
 a233:=Tryz.isAgg397
 z233:=Tryz.sizeOf397
 v233:=Tryz.zeroValue397
 g17:=by kernel_rfl
 g18:=by kernel_rfl
 g19:=by kernel_rfl
 i0:=by kernel_rfl
 i2:=by kernel_rfl
 i3:=by kernel_rfl
 i4:=by kernel_rfl
 i5:=by kernel_rfl
 i9:=by kernel_rfl
 i20:=by kernel_rfl
 i37:=by kernel_rfl
 i46:=by kernel_rfl
 i51:=by kernel_rfl
 i53:=by kernel_rfl
 i171:=by kernel_rfl
 i173:=by kernel_rfl
 i212:=by kernel_rfl
 i232:=by kernel_rfl
 i233:=by kernel_rfl
 m17:=by kernel_rfl
 m18:=by kernel_rfl
 m19:=by kernel_rfl }
open Go.RowKit Go.Sort Go.Lib in
theorem Px (n : Int) (h0 : -9223372036854775808 ≤ n) (h1 : n ≤ 9223372036854775807) (w : World) (htab : Lib.TabIs Tryz.prog w "internal/strconv.uint64pow10" .u64 Lib.pow10Tab) :
 C0 77 #[V0 n] w fun e w'=>e=.returned (.string ⟨(Lib.itoa n).toArray⟩)∧∃ k os,w'=grow (w.drewN k) os:=Any.strconv_Itoa Fi n h0 h1 w htab
end Go.Proofs.YtekomodnkfhihaaGreatDoor
namespace Go.Proofs.YtekomodnkfhihaaGreatDoor
set_option maxHeartbeats 8000000
set_option maxRecDepth 100000
open Go.RowKit
set_option linter.unusedVariables false
theorem Tq{P:Program}(w:World)(base:Nat)(t ty e:TypeId)(i:TypeInfo)(z:Value)(size bytes:Nat)(ht:P.underlying t=some (.slice e))(hi:P.info? e=some i)(hz:i.zero=some z)
 (hsize:i.size=size) (hby:i.bytes=bytes) (hzs:z.cells.size=size) (hsz:0<size) (v:Value) (n:Nat) (xs:List Value) (hown:w.ownsRow base e size v n xs)
 (x:Value) (m:Nat) (news:List Value) (hx:Sl w x m news) (hl:news.length=m*size) (h1:∀ u∈news,u.oneCell'=true)
 (h63:n+m≤maxLen) (hbytes:(n+m)*bytes≤140737488355328) (hbase:base≤w.heap.size) :
 ∃ v' w',(Builtin.append_ #[t,t] ty #[v,x]).run P w=.ok v' w'∧w'.ownsRow base e size v' (n+m) (xs++news)∧w.grownBy w' v.ownBlock:=by
 have a0:∀ (a:Addr) (c:Nat),x=.slice (some a) m c→(∀ j u,news[j]? = some u→w.cell? (a.add j)=some u) →
   ∃ v' w',(Builtin.append_ #[t,t] ty #[v,x]).run P w=.ok v' w'∧w'.ownsRow base e size v' (n+m) (xs++news)∧w.grownBy w' v.ownBlock:=by
  rintro a c rfl hc
  obtain⟨v',w',h2,h3,h4,_⟩:=run_append_own_at (P:=P) w base t ty e i z size bytes ht hi hz hsize hby hzs hsz v n xs hown a m c news hl hc h1 h63 hbytes hbase
  exact⟨v',w',h2,h3,h4⟩
 rcases hx with ⟨a,c,rfl,rfl,rfl⟩|⟨b,a5,a1,rfl,a4,a3,hc⟩
 ·cases a with
  | some a=>exact a0 a c rfl (fun j u hu=>by simp at hu)
  | none =>
   refine⟨v,w,?_,by simpa using hown,World.grownBy.refl w _⟩
   rcases hown.2 with ⟨rfl,rfl⟩|⟨g,a1,a6,rfl,_,_,a2,_⟩
   ·simp[Builtin.append_,run_underlying ht,sizeOf,typeInfo,hi,Builtin.lenOf,Builtin.firstCells]
   ·simp[Builtin.append_,run_underlying ht,sizeOf,typeInfo,hi,Builtin.lenOf,Builtin.firstCells,a2,storeCells]
 ·refine a0 ⟨b,a5,none⟩ a1 rfl (fun j u hu=>?_)
  have:=hc j u hu
  by_cases h0:j=0
  ·subst h0;simpa [Addr.add] using this
  ·simpa [Addr.add,h0] using this
theorem Zb6{P:Program}{w:World}{o:Oper}{a:Act}{K:Act→World→Prop}{Q:Exit→Act→World→Prop}(s x:Operand)(t:TypeId)
  (ho:o.op=.call { callee:=.builtin .append,args:=#[s,x],argTypes:=#[t,t] }) (base:Nat) (e:TypeId) (i:TypeInfo) (z:Value) (size bytes:Nat) (ht:P.underlying t=some (.slice e)) (hi:P.info? e=some i)
  (hz:i.zero=some z) (hsize:i.size=size) (hby:i.bytes=bytes) (hzs:z.cells.size=size) (hsz:0<size) (v:Value) (n:Nat) (xs:List Value) (hs:a.eval s=v) (hown:w.ownsRow base e size v n xs)
  (u:Value) (m:Nat) (news:List Value) (hu:a.eval x=u) (hx:Sl w u m news) (hl:news.length=m*size) (h1:∀ u∈news,u.oneCell'=true)
  (h63:n+m≤maxLen) (hbytes:(n+m)*bytes≤140737488355328) (hbase:base≤w.heap.size)
  (h:∀ v' w',w'.ownsRow base e size v' (n+m) (xs++news)→w.grownBy w' v.ownBlock→Below base w w'→K (a.put o.dst v') w'):o.wp P a w K Q:=by
 obtain⟨v',w',a0,h2,h3⟩:=Tq (P:=P) w base t o.type e i z size bytes ht hi hz hsize hby hzs hsz v n xs hown u m news hx hl h1 h63 hbytes hbase
 unfold Oper.wp execOp
 simp only[ho,resolve,invoke,builtin,B8,F0,C4,H1,E4,I3,hs,hu,a0]
 exact h v' w' h2 h3 (Yq h3 hown (A3 _) hbase)
end Go.Proofs.YtekomodnkfhihaaGreatDoor
namespace Go.Proofs.YtekomodnkfhihaaGreatDoor
set_option maxHeartbeats 8000000
set_option maxRecDepth 100000
open Go.RowKit
set_option linter.unusedVariables false
/-! ### operations that only compute -/
def Ke(P:Program){α:Type}:Sem α→Option α
 | .pure a=>some a
 | .program k=>Ke P (k P)
 | _=>none
theorem Qu{P:Program}{α:Type}:∀ {s:Sem α} {a:α},Ke P s=some a→∀ w,s.run P w=.ok a w
 | .pure a,b,h,w=>by simp only[Ke,At] at h;subst h;rfl
 | .program k,b,h,w=>by simp only[Ke] at h;exact Qu (s:=k P) h w
def Wh(P:Program)(ops:Array Oper)(a:Act)(o:Oper):Option Act :=
 match Region.wanted o (yielded ops a.tmps) with
 | true=>match Ke P (execOp a.eval o) with
  | some (.value v)=>some (a.put o.dst v)
  | _=>none
 | false=>some (a.put o.dst undef)
theorem Ja{P:Program}{ops:Array Oper}{a a':Act}{o:Oper}(h:Wh P ops a o=some a'):∃ v,a'=a.put o.dst v∧∀ S:World→Prop,YieldsIf P ops S o v a:=by
 unfold Wh at h
 split at h
 ·rename_i hw
  split at h
  ·rename_i v hv
   simp only[At] at h
   exact⟨v,h.symm,fun S=>.inl ⟨hw,fun w _=>Qu hv w⟩⟩
  ·cases h
 ·rename_i hw
  simp only[At] at h
  exact⟨undef,h.symm,fun S=>.inr ⟨hw,rfl⟩⟩
def Nz(P:Program)(ops:Array Oper):List Oper→Act→Option Act
 | [],a=>some a
 | o::r,a=>match Wh P ops a o with
  | some a'=>Nz P ops r a'
  | none=>none
section
variable {P:Program} {ops:Array Oper} {Q:Exit→Act→World→Prop} {a a':Act} {w:World} {K:Act→World→Prop}
theorem Km{o:Oper}{rest:List Oper}{v:Value}(hy:YieldsIf P ops (fun _=>True) o v a)(k:wpList P ops Q rest (a.put o.dst v) w):wpList P ops Q (o::rest) a w:=by
 unfold wpList
 rcases hy with ⟨hw,hv⟩|⟨hw,rfl⟩
 ·simp only[hw,if_true];exact .inl (by simp only[Oper.wp,hv w trivial,Oper.upon];exact k)
 ·simp only[hw,Bool.false_eq_true,if_false];exact k
theorem Uq:∀ (l:List Oper) {rest:List Oper} {a a':Act},Nz P ops l a=some a'→wpList P ops Q rest a' w→wpList P ops Q (l++rest) a w
 | [],_,_,_,h,k=>by simp only[Nz,At] at h;subst h;exact k
 | o::r,rest,a,a',h,k=>by
  simp only[Nz] at h
  split at h
  ·rename_i a1 h1
   obtain⟨v,rfl,hy⟩:=Ja h1
   exact Km (hy _) (Uq r h k)
  ·cases h
theorem g_pure{l:List Oper}(n:Nat)(a':Act)(h:Nz P ops (l.take n) a=some a')(k:wpList P ops Q (l.drop n) a' w):wpList P ops Q l a w:=by
 have:=Uq (P:=P) (ops:=ops) (Q:=Q) (w:=w) (l.take n) h k
 rwa [F6] at this
theorem Gu{o:Oper}{rest:List Oper}(hw:Region.wanted o (yielded ops a.tmps)=true)(h:o.wp P a w (wpList P ops Q rest) Q):wpList P ops Q (o::rest) a w:=by
 unfold wpList;simp only[hw,if_true];exact .inl h
theorem g_fr{c:Code}(a':Act)(h:a=a')(k:c.wp P Q a' w):c.wp P Q a w:=h▸k
theorem g_nfr(a':Act)(h:a=a')(k:Q .normal a' w):Q .normal a w:=h▸k
/-! ### one operation -/
theorem Vr{o:Oper}{v:Value}{w':World}(hv:(execOp a.eval o).run P w=.ok (.value v) w')(k:K (a.put o.dst v) w'):o.wp P a w K Q:=by
 simp only[Oper.wp,hv,Oper.upon];exact k
theorem op_pure{o:Oper}(v:Value)(hv:Ke P (execOp a.eval o)=some (.value v))(k:K (a.put o.dst v) w):o.wp P a w K Q:=Vr (Qu hv w) k
def aggB(P:Program)(t:TypeId):Option Bool:=(P.underlying t).map fun d=>match d with|.struct _|.array _ _=>true|_=>false
theorem Zct{t:TypeId}{b:Bool}(h:aggB P t=some b)(w:World):(isAgg t).run P w=.ok b w:=by
 unfold aggB at h
 cases hu:P.underlying t with
 | none=>rw[hu] at h;cases h
 | some d =>
  rw[hu] at h
  unfold isAgg
  rw[B8,run_underlying hu w]
  cases d<;>simp_all
theorem Bu{t:TypeId}{p:Addr}{v:Value}(hag:aggB P t=some false)(hc:w.cell? p=some v):(Instr.loadAt t (.pointer (some p))).run P w=.ok v w:=by
 simp[Instr.loadAt,Instr.sureAddr,loadVar,B8,Zct hag w,load,Sem.run,hc]
theorem Vz{o:Oper}{t:TypeId}{x:Operand}(p:Addr)(v:Value)(ho:o.op=.load t x)(hx:a.eval x=.pointer (some p))(hag:aggB P t=some false)(hc:w.cell? p=some v)
 (k:K (a.put o.dst v) w):o.wp P a w K Q :=
 Vr (by simp only[execOp,ho,hx,B8,Bu hag hc];rfl) k
theorem Blk.part{b:Nat}{cs:List Value}{t:TypeId}(h:Blk w b cs t)(off n:Nat)(hn:off+n≤cs.length):w.rangeAt b off ((cs.drop off).take n):=fun j v hj=>h.cell (by
 have a0:j<n:=by have:=(List.getElem?_eq_some_iff.1 hj).1;simp at this;omega
 rw[E1 a0,E3] at hj;exact hj)
theorem Blk.whole{w:World}{b:Nat}{cs:List Value}{t:TypeId}(h:Blk w b cs t):w.rangeAt b 0 cs:=fun j v hj=>by rw[E9];exact h.cell hj
theorem Fz{o:Oper}{t:TypeId}{x:Operand}{b off:Nat}(cs:List Value)(d:TypeDesc)(ho:o.op=.load t x)(hx:a.eval x=.pointer (some ⟨b,off,none⟩))(hu:P.underlying t=some d)(hd:d.isRow=true)
 (hi:(P.info? t).map (·.size)=some cs.length) (hc:w.rangeAt b off cs) (k:K (a.put o.dst (.agg cs.toArray)) w):o.wp P a w K Q:=wp_load_mid t x ho b off hx cs d hc hu hd hi k
/-! ### what became of the memory -/
structure New(w:World)(b:Nat)(cs:List Value)(t:TypeId)(W:World):Prop where
 at_:b=w.heap.size
 below:Below w.heap.size w W
 blk:Blk W b cs t
 size:W.heap.size=w.heap.size+1
theorem New.mk'(w:World)(cs:List Value)(t:TypeId):New w w.heap.size cs t (w.alloc (.cells cs.toArray t)):=⟨rfl,blx _ _,Blk.new _ _ _,by simp⟩
theorem New.ne{b b':Nat}{cs cs':List Value}{t t':TypeId}{w W:World}(h:New w b cs t W)(k:Blk w b' cs' t'):b'≠b:=by have:=k.lt;have:=h.at_;omega
theorem New.ge{b:Nat}{cs:List Value}{t:TypeId}{w W A:World}(h:New w b cs t W)(k:Below A.heap.size A w):A.heap.size≤b:=by have:=k.size;have:=h.at_;omega
theorem New.lt{b:Nat}{cs:List Value}{t:TypeId}{W:World}(h:New w b cs t W):b<W.heap.size:=h.blk.lt
structure Upd(w:World)(b:Nat)(W:World):Prop where
 os:W.os=w.os
 tape:W.tape=w.tape
 output:W.output=w.output
 size:W.heap.size=w.heap.size
 block:∀ k,k≠b→W.heap[k]? = w.heap[k]?
theorem Upd.setCell(w:World)(b i:Nat)(v:Value):Upd w b (w.setCell ⟨b,i,none⟩ v):=⟨rfl,rfl,rfl,by simp[World.setCell],fun k hk=>Below.heap_setCell w _ v k hk⟩
theorem Upd.trans{w1 w2:World}{b:Nat}(h:Upd w b w1)(k:Upd w1 b w2):Upd w b w2 :=
 ⟨k.os.trans h.os,k.tape.trans h.tape,k.output.trans h.output,k.size.trans h.size,fun i hi=>(k.block i hi).trans (h.block i hi)⟩
theorem Upd.below{A W:World}{b B:Nat}(h:Upd w b W)(hB:Below B A w)(hb:B≤b):Below B A W :=
 hB.trans ⟨h.os,h.tape,h.output,I4 h.size.symm,fun k hk=>h.block k M0⟩
theorem Upd.blk{W:World}{b b':Nat}{cs:List Value}{t:TypeId}(h:Upd w b W)(k:Blk w b' cs t)(hne:b'≠b):Blk W b' cs t:=(h.block b' hne).trans k
theorem Upd.own{W:World}{b base:Nat}{e:TypeId}{size:Nat}{v:Value}{n:Nat}{xs:List Value}(h:Upd w b W)(k:w.ownsRow base e size v n xs)(hb:b<base):W.ownsRow base e size v n xs:=by
 obtain⟨h1,h2⟩:=k
 refine⟨h1,?_⟩
 rcases h2 with h2|⟨g,a0,a1,hv,hg,hh,r⟩
 ·exact Or.inl h2
 ·exact Or.inr ⟨g,a0,a1,hv,hg,by rw[h.block g M0];exact hh,r⟩
theorem Jp{o:Oper}{t:TypeId}{x y:Operand}{b off:Nat}{cs:List Value}{tb:TypeId}{v:Value}(ho:o.op=.store t x y)(hx:a.eval x=.pointer (some ⟨b,off,none⟩))(hy:a.eval y=v)
 (hi:(P.info? t).map (·.size)=some 1) (h1:v.oneCell'=true) (hk:Blk w b cs tb) (hoff:off<cs.length)
 (k:∀ W,Upd w b W→Blk W b (cs.set off v) tb→K (a.put o.dst undef) W):o.wp P a w K Q:=by
 have hc:=hk.cell (B4 hoff)
 have hf:=hk.frozen off
 have a0:(Instr.storeAt t (.pointer (some ⟨b,off,none⟩)) v).run P w=.ok () (w.setCell ⟨b,off,none⟩ v):=by
  cases hq:P.info? t with
  | none=>simp[hq] at hi
  | some i =>
   have hs:i.size=1:=by simpa [hq] using hi
   cases v<;>simp_all [Instr.storeAt,Instr.sureAddr,storeVar,B8,sizeOf,typeInfo,Value.cells,storeCells,store,Sem.run,Value.oneCell',Addr.add]
 have h2:(execOp a.eval o).run P w=.ok .skip (w.setCell ⟨b,off,none⟩ v):=by
  simp only[execOp,ho,hx,hy,B8,a0];rfl
 simp only[Oper.wp,h2,Oper.upon]
 exact k _ (Upd.setCell _ _ _ _) (hk.set off v)
theorem Blk.setCells{b:Nat}{cs:List Value}{t:TypeId}:∀ (vs:List Value) (o:Nat) {w:World} {cs:List Value},Blk w b cs t→o+vs.length≤cs.length→Blk (w.setCells b o vs) b (cs.take o++vs++cs.drop (o+vs.length)) t∧Upd w b (w.setCells b o vs)
 | [],o,w,cs,h,hl=>by
  refine⟨?_,rfl,rfl,rfl,rfl,fun _ _=>rfl⟩
  simp only[World.setCells]
  simpa using h
 | v::r,o,w,cs,h,hl=>by
  rw[World.setCells]
  have a0:=h.set o v
  obtain⟨h1,h2⟩:=Blk.setCells (cs:=cs) r (o+1) a0 (by simp at hl ⊢;omega)
  refine⟨?_,(Upd.setCell _ _ _ _).trans h2⟩
  have e:(cs.set o v).take (o+1)++r++(cs.set o v).drop (o+1+r.length)=cs.take o++(v::r)++cs.drop (o+(v::r).length):=by
   have ho:o<cs.length:=by simp at hl;omega
   have h1:(cs.take o).length=o:=by simp;omega
   have h2:cs.set o v=(cs.take o++[v])++cs.drop (o+1):=by rw[List.set_eq_take_append_cons_drop,if_pos ho];simp
   have h3:(cs.take o++[v]).length=o+1:=by simp;omega
   rw[h2,List.take_left' h3,←K7,List.drop_left' h3,K7]
   simp[Nat.add_comm,Nat.add_left_comm]
  rwa [e] at h1
theorem Be{o:Oper}{t:TypeId}{x y:Operand}{b off:Nat}{cs:List Value}{tb:TypeId}(vs:List Value)(ho:o.op=.store t x y)(hx:a.eval x=.pointer (some ⟨b,off,none⟩))(hy:a.eval y=.agg vs.toArray)
 (hi:(P.info? t).map (·.size)=some vs.length) (h1:∀ v∈vs,v.oneCell'=true) (hk:Blk w b cs tb) (hoff:off+vs.length≤cs.length)
 (k:∀ W,Upd w b W→Blk W b (cs.take off++vs++cs.drop (off+vs.length)) tb→K (a.put o.dst undef) W):o.wp P a w K Q :=
 wp_store_mid t x y ho b off vs.toArray hx hy (fun j hj=>⟨by rw[hk.cell (B4 (by simp at hj;omega))];rfl,hk.frozen _⟩) (by simpa using hi) (all_oneCell_toArray h1)
  (k _ (Blk.setCells (cs:=cs) vs off hk hoff).2 (Blk.setCells (cs:=cs) vs off hk hoff).1)
def Zcu(P:Program)(t:TypeId):Option (List Value):=((P.info? t).bind (·.zero)).map fun v=>v.cells.toList
theorem Wj{o:Oper}{t:TypeId}(cs:List Value)(ho:o.op=.alloc t)(hz:Zcu P t=some cs)(k:∀ b W,New w b cs t W→K (a.put o.dst (P0 b)) W):o.wp P a w K Q:=by
 unfold Zcu at hz
 cases hi:P.info? t with
 | none=>simp[hi] at hz
 | some i =>
  cases hq:i.zero with
  | none=>simp[hi,hq] at hz
  | some v =>
   simp only[hi,hq,Option.bind_some,C5,At] at hz
   have hv:v.cells=cs.toArray:=by rw[←hz]
   exact Vr (w':=w.alloc (.cells cs.toArray t)) (by simp[execOp,ho,Instr.alloc,B8,zeroValue,typeInfo,program,hi,hq,newVar,newRow,newObj,Sem.run,hv]) (k _ _ (New.mk' w cs t))
theorem op_box{o:Oper}{t:TypeId}{x:Operand}(cs:List Value)(ho:o.op=.box t x)(hx:(a.eval x).cells=cs.toArray)(k:∀ b W,New w b cs t W→K (a.put o.dst (P0 b)) W):o.wp P a w K Q :=
 Vr (w':=w.alloc (.cells cs.toArray t)) (by simp[execOp,ho,Instr.box,newVar,newRow,newObj,Sem.run,hx]) (k _ _ (New.mk' w cs t))
def built(P:Program)(t:TypeId)(len:Nat)(parts:List (Nat×Value)):Option (TypeId×List Value) :=
  match P.underlying t with
  | some (.slice e)=>match P.info? e with
    | some i=>match i.zero with
      | some z=>if len*i.size>2 ^ 24 then none else if len*i.size=0 then none else(Instr.fill (fun j=>some (j*i.size,i.size)) ((Array.range (len*i.size)).map (z.cells[·%z.cells.size]!)) parts).map fun c=>(e,c.toList)
      | none=>none
    | none=>none
  | _=>none
theorem Yb{o:Oper}{t:TypeId}{n:Nat}{parts:Array (Nat×Operand)}(e:TypeId)(cs:List Value)(ho:o.op=.buildSlice t n parts)(hb:built P t n (parts.toList.map fun p=>(p.1,a.eval p.2))=some (e,cs))
 (k:∀ b W,New w b cs e W→K (a.put o.dst (.slice (S1 b) n n)) W):o.wp P a w K Q:=by
  unfold built at hb
  split at hb
  · rename_i e' hu
    split at hb
    · rename_i i hi
      split at hb
      · rename_i z hz
        split at hb
        · cases hb
        · split at hb
          · cases hb
          · rename_i h1 h2
            cases hf:Instr.fill (fun j=>some (j*i.size,i.size)) ((Array.range (n*i.size)).map (z.cells[·%z.cells.size]!)) (parts.toList.map fun p=>(p.1,a.eval p.2)) with
            | none=>rw[hf] at hb;cases hb
            | some c =>
              rw[hf] at hb
              simp only[C5,At,C2] at hb
              obtain⟨rfl,hc⟩:=hb
              have a0:c=cs.toArray:=by rw[←hc]
              subst a0
              exact Vr (w':=w.alloc (.cells cs.toArray e')) (by
                simp[execOp,ho,Instr.buildSlice,B8,run_underlying hu,sizeOf,typeInfo,hi,zeroValue,hz,h1,h2]
                have a1:Instr.fill (fun a2=>some (a2*i.size,i.size)) (Array.map (fun x=>z.cells[x%z.cells.size]!) (Array.range (n*i.size))) (List.map (fun x=>(x.fst,a.eval x.snd)) parts.toList)=some cs.toArray:=hf
                rw[a1]
                simp[newRow,newObj,Sem.run]) (k _ _ (New.mk' w cs e'))
      · cases hb
    · cases hb
  · cases hb
theorem Nx{o:Oper}{t e:TypeId}(ho:o.op=.buildSlice t 0 #[])(hu:P.underlying t=some (.slice e))(hi:(P.info? e).isSome=true)
 (k:∀ b W,New w b [] e W→K (a.put o.dst (.slice (S1 b) 0 0)) W):o.wp P a w K Q:=by
 obtain⟨i,hi⟩:=Option.isSome_iff_exists.1 hi
 exact Vr (w':=w.alloc (.cells #[] e)) (by simp[execOp,ho,Instr.buildSlice,run_underlying hu,sizeOf,typeInfo,hi,Instr.fill,newRow,newObj,Sem.run,Array.range_zero']) (k _ _ (New.mk' w [] e))
theorem Vf{o:Oper}{c:Operand}{ops:Array Operand}{ts:Array TypeId}{lb:Array Value}(f:FuncId)(args:Array Value)(ho:o.op=.call { callee:=.value c,args:=ops,argTypes:=ts })(hc:a.eval c=.func (.func f) #[] lb)
 (hf:∀ xs w,(callFunc f xs).run P w=.ok (.enter f xs) w) (has:ops.map a.eval++lb=args) (h:Calls P f args w fun e w'=>∃ v,e=.returned v∧K (a.put o.dst v) w'):o.wp P a w K Q:=by
 have h2:(execOp a.eval o).run P w=.ok (.enter f args) w:=by
  simp only[execOp,ho,resolve,hc,Deferred.ofValue,B8,F0,C4,invoke]
  rw[←has,←hf]
  simp
 simp only[Oper.wp,h2,Oper.upon]
 exact h.mono fun e w' ⟨v,he,hk⟩=>by subst he;exact hk
end
section
variable {P:Program} {Q:Exit→Act→World→Prop} {a:Act} {w:World} {K:Act→World→Prop}
theorem Za5{o:Oper}(k:IntKind)(n m:Int)(hv:Ke P (execOp a.eval o)=some (.value (.int k (k.wrap n))))(hm:k.wrap n=m)(h:K (a.put o.dst (.int k m)) w):o.wp P a w K Q :=
 op_pure (.int k m) (by rw[hv,hm]) h
theorem Uc{o:Oper}{t e:TypeId}{x y:Operand}{b off len k:Nat}{i:Int}{ki:IntKind}(size off':Nat)(ho:o.op=.indexAddr t x y)(hx:a.eval x=.pointer (some ⟨b,off,none⟩))(hy:a.eval y=.int ki i)(hi:i=(k:Int))(hk:k<len)(hoff:off+k*size=off')
 (ht:P.underlying t=some (.array len e)) (hs:(P.info? e).map (·.size)=some size) (w:World):(execOp a.eval o).run P w=.ok (.value (.pointer (some ⟨b,off',none⟩))) w:=by
 cases hq:P.info? e with
 | none=>simp[hq] at hs
 | some j =>
  have hj:j.size=size:=by simpa [hq] using hs
  subst hi hoff
  have h1:(0:Int)≤(k:Int):=by omega
  have h2:(k:Int)<(len:Int):=by omega
  simp[execOp,ho,hx,hy,Instr.indexAt,Instr.sureAddr,asIntOf,run_underlying ht,sizeOf,typeInfo,hq,hj,hk,Addr.add_mid]
theorem Ka{o:Oper}{t e:TypeId}{x y:Operand}(n:Nat)(z:Value)(size bytes:Nat)(cs:List Value)(ho:o.op=.makeSlice t x y)(hx:a.eval x=V0 (n:Int))(hy:a.eval y=V0 (n:Int))(ht:P.underlying t=some (.slice e))
 (hi:(P.info? e).map (fun i=>(i.zero,i.size,i.bytes))=some (some z,size,bytes)) (hzs:z.cells.size=size) (hb:bytes*n≤281474976710656) (hn:n≤9223372036854775807) (hcs:Kk z.cells.toList n=cs)
 (h:∀ b W,New w b cs e W→K (a.put o.dst (.slice (S1 b) n n)) W):o.wp P a w K Q:=by
 cases hq:P.info? e with
 | none=>simp[hq] at hi
 | some i =>
  simp only[hq,C5,At,C2] at hi
  have hr:=Oi (P:=P) (t:=t) (e:=e) z.cells.toList ht hq hi.1 (by simp) (by rw[hi.2.1,←hzs];simp) hi.2.2 n hb hn w
  subst hcs
  refine Vr (w':=w.alloc (.cells (Kk z.cells.toList n).toArray e)) ?_ (h _ _ (New.mk' w _ e))
  simp only[execOp,ho,hx,hy,B8,hr]
  rfl
theorem Jt{o:Oper}{t e:TypeId}{x y:Operand}{b off n k c:Nat}{i:Int}{ki:IntKind}(size:Nat)(ho:o.op=.slice t x (some y) none none)(hx:a.eval x=.slice (some ⟨b,off,none⟩) n c)(hy:a.eval y=.int ki i)(hi:i=(k:Int))(hk:k≤n)(hc:k<c)
 (ht:P.underlying t=some (.slice e)) (hs:(P.info? e).map (·.size)=some size) (w:World):(execOp a.eval o).run P w=.ok (.value (.slice (some ⟨b,off+k*size,none⟩) (n-k) (c-k))) w:=by
 cases hq:P.info? e with
 | none=>simp[hq] at hs
 | some j =>
  have hj:j.size=size:=by simpa [hq] using hs
  subst hi
  have h1:(0:Int)≤(k:Int):=by omega
  have h2:(k:Int)≤(n:Int):=by omega
  have h3:¬ c=k:=by omega
  simp[execOp,ho,hx,hy,Instr.sliceAt,Instr.slice,Instr.sliceBounds,Instr.sliceBound,asIntOf,run_underlying ht,sizeOf,typeInfo,hq,hj,hk,Addr.add_mid,h3]
theorem Vq{o:Oper}{t e:TypeId}{x y:Operand}{b:O0}{n k c:Nat}{i:Int}{ki:IntKind}(ho:o.op=.slice t x none (some y) none)(hx:a.eval x=.slice b n c)(hy:a.eval y=.int ki i)(hi:i=(k:Int))(hk:k≤c)
 (ht:P.underlying t=some (.slice e)) (hs:(P.info? e).isSome=true) (w:World):(execOp a.eval o).run P w=.ok (.value (.slice b k c)) w:=by
 obtain⟨j,hq⟩:=Option.isSome_iff_exists.1 hs
 subst hi
 have h1:(0:Int)≤(k:Int):=by omega
 have h2:(k:Int)≤(c:Int):=by omega
 by_cases h3:c=0
 ·obtain rfl:k=0:=by omega
  subst h3
  simp[execOp,ho,hx,hy,Instr.sliceAt,Instr.slice,Instr.sliceBounds,Instr.sliceBound,asIntOf,run_underlying ht,sizeOf,typeInfo,hq]
 ·simp[execOp,ho,hx,hy,Instr.sliceAt,Instr.slice,Instr.sliceBounds,Instr.sliceBound,asIntOf,run_underlying ht,sizeOf,typeInfo,hq,hk,h3]
  cases b<;>simp[Addr.add]
theorem Jd{o:Oper}{d x:Operand}{dT sT e:TypeId}{base g off n cap dLen dCap:Nat}{u:Value}{xs:List Value}(m:Nat)(news xs':List Value)(ho:o.op=.call { callee:=.builtin .copy,args:=#[d,x],argTypes:=#[dT,sT] })(hu:P.underlying dT=some (.slice e))(hsz:(P.info? e).map (·.size)=some 1)
 (hd:a.eval d=.slice (some ⟨g,off,none⟩) dLen dCap) (hs:a.eval x=u) (hx:Sl w u m news) (hown:w.ownsRow base e 1 (.slice (S1 g) n cap) n xs) (hml:news.length=m) (hm:m≤dLen) (hfit:off+m≤n) (h1:∀ u∈news,u.oneCell'=true)
 (hbase:base≤w.heap.size) (hxs:xs.take off++news++xs.drop (off+m)=xs')
 (h:∀ W,W.ownsRow base e 1 (.slice (S1 g) n cap) n xs'→w.grownBy W (Value.slice (S1 g) n cap).ownBlock→Below base w W→K (a.put o.dst (V0 (m:Int))) W):o.wp P a w K Q:=by
 obtain⟨hl,hr⟩:=hown
 rcases hr with ⟨hv,_⟩|⟨g2,b1,a0,hv,a7,hh,a8,b0,a5,a9⟩
 ·cases hv
 simp only[A7,At,Addr.mk.injEq] at hv
 obtain⟨⟨rfl,_,_⟩,_,rfl⟩:=hv
 obtain⟨sp,sc,rfl⟩:=hx.slice
 have a4:news.length=Nat.min m dLen:=by rw[hml];exact(Gt hm).symm
 have b2:xs.length=n:=by simpa using hl
 have a2:a0.toList.length=cap:=by simpa using a5
 have a6:∀ W,W.heap[g]? = some (.cells (a0.toList.take off++news++a0.toList.drop (off+news.length)).toArray e (0,0))→w.grownBy W (some g)→K (a.put o.dst (V0 (m:Int))) W:=by
  intro W hW hg
  refine h W ⟨?_,.inr ⟨g,cap,_,rfl,a7,hW,a8,b0,?_,?_⟩⟩ hg (Yq (v:=.slice (S1 g) n cap) hg ⟨hl,.inr ⟨g,cap,a0,rfl,a7,hh,a8,b0,a5,a9⟩⟩ (A3 _) hbase)
  ·rw[←hxs];simp;omega
  ·simp only[F3,A1,D1,H2,a2,D0];omega
  ·have hA:(a0.toList.take off++news).length=off+m:=by simp only[A1,D1,a2,hml];omega
   rw[←hxs,←a9,hml]
   simp only[D0]
   rw[List.take_append,A5 (by rw[hA];omega),hA,List.take_take,Gt (by omega:off≤n),List.drop_take]
 by_cases h0:m=0
 ·subst h0
  obtain rfl:news=[]:=E8 hml
  have a1:=run_copy_none (P:=P) w dT sT o.type e (some ⟨g,off,none⟩) sp dLen dCap 0 sc hu hsz (by simp)
  have h2:(execOp a.eval o).run P w=.ok (.value (V0 0)) w:=by
   simp[execOp,ho,resolve,invoke,builtin,hd,hs,a1,Result.andThen,goInt]
  refine Vr h2 (a6 w ?_ (World.grownBy.refl w _))
  rw[hh];simp
 ·rcases Sl.at hx with hn|⟨sb,so,rfl,a3⟩
  ·rw[hn] at hml;exact absurd hml.symm h0
  have a1:=run_copy_row (P:=P) w dT sT o.type e g off dLen dCap ⟨sb,so,none⟩ m sc a0 e news hu hsz hh a4 (fun j v hj=>by rw[Addr.add_mid];exact a3 j v hj) (by rw[hml,a5];omega) h1
  have h2:(execOp a.eval o).run P w=.ok (.value (V0 (m:Int))) (w.setRow g (a0.toList.take off++news++a0.toList.drop (off+news.length)).toArray):=by
   simp[execOp,ho,resolve,invoke,builtin,hd,hs,a1,Result.andThen,goInt,hml]
  refine Vr h2 (a6 _ (setRow_heap w g _ _ e _ hh) ⟨rfl,rfl,rfl,by simp,fun k _ hk=>setRow_other w g k _ (fun e=>hk (by rw[e]))⟩)
def Zr(a:O0)(j:Nat):Addr:=(a.getD ⟨0,0,none⟩).add j
theorem Mm{o:Oper}{t e:TypeId}{x y:Operand}{b:O0}{n k c size:Nat}{i:Int}{ki:IntKind}(ho:o.op=.indexAddr t x y)(hx:a.eval x=.slice b n c)(hy:a.eval y=.int ki i)(hi:i=(k:Int))(hk:k<n)(hb:b.isSome=true)
 (ht:P.underlying t=some (.slice e)) (hs:(P.info? e).map (·.size)=some size) (w:World):(execOp a.eval o).run P w=.ok (.value (.pointer (some (Zr b (k*size))))) w:=by
 obtain⟨b,rfl⟩:=Option.isSome_iff_exists.1 hb
 cases hq:P.info? e with
 | none=>simp[hq] at hs
 | some j =>
  have hj:j.size=size:=by simpa [hq] using hs
  subst hi
  have h1:(0:Int)≤(k:Int):=by omega
  have h2:(k:Int)<(n:Int):=by omega
  simp[execOp,ho,hx,hy,Instr.indexAt,asIntOf,run_underlying ht,sizeOf,typeInfo,hq,hj,hk,Zr]
theorem Zz{o:Oper}{s x:Operand}{t e:TypeId}{base:Nat}{v:Value}{n:Nat}{xs:List Value}{u:Value}{m:Nat}{news:List Value}(z:Value)(size bytes n':Nat)(xs':List Value)(ho:o.op=.call { callee:=.builtin .append,args:=#[s,x],argTypes:=#[t,t] })
 (ht:P.underlying t=some (.slice e)) (hi:(P.info? e).map (fun i=>(i.zero,i.size,i.bytes))=some (some z,size,bytes)) (hzs:z.cells.size=size) (hsz:0<size) (hs:a.eval s=v) (hown:w.ownsRow base e size v n xs) (hu:a.eval x=u) (hx:Sl w u m news)
 (hl:news.length=m*size) (h1:∀ u∈news,u.oneCell'=true) (h63:n+m≤maxLen) (hbytes:(n+m)*bytes≤140737488355328) (hbase:base≤w.heap.size) (hn:n+m=n') (hxs:xs++news=xs')
 (h:∀ b c W,W.ownsRow base e size (.slice b n' c) n' xs'→w.grownBy W v.ownBlock→Below base w W→K (a.put o.dst (.slice b n' c)) W):o.wp P a w K Q:=by
 cases hq:P.info? e with
 | none=>simp[hq] at hi
 | some i =>
  simp only[hq,C5,At,C2] at hi
  refine Zb6 s x t ho base e i z size bytes ht hq hi.1 hi.2.1 hi.2.2 hzs hsz v n xs hs hown u m news hu hx hl h1 h63 hbytes hbase fun v' W h2 h3 h4=>?_
  subst hn hxs
  obtain⟨b,c,rfl⟩:=(Ze h2).slice
  exact h b c W h2 h3 h4
end
theorem Blk.grown{w w':World}{b:Nat}{cs:List Value}{t e:TypeId}{base size n:Nat}{v:Value}{xs:List Value}(k:Blk w b cs t)(hg:w.grownBy w' v.ownBlock)(hown:w.ownsRow base e size v n xs)(hne:e≠t):Blk w' b cs t:=by
 refine k.kept hg fun hb=>?_
 rcases hown.2 with ⟨rfl,_⟩|⟨g,a0,a1,rfl,_,hh,_⟩
 ·cases hb
 ·simp only[Value.ownBlock,At] at hb
  subst hb
  have h1:w.heap[b]? = some (.cells cs.toArray t (0,0)):=k
  rw[hh] at h1
  simp only[At,Obj.cells.injEq] at h1
  exact hne h1.2.1
theorem Upd.own2{w W:World}{b base:Nat}{e t:TypeId}{size:Nat}{v:Value}{n:Nat}{xs cs:List Value}(h:Upd w b W)(k:w.ownsRow base e size v n xs)(hk:Blk w b cs t)(hne:e≠t):W.ownsRow base e size v n xs:=by
 obtain⟨h1,h2⟩:=k
 refine⟨h1,?_⟩
 rcases h2 with h2|⟨g,a0,a1,hv,hg,hh,r⟩
 ·exact Or.inl h2
 ·refine Or.inr ⟨g,a0,a1,hv,hg,?_,r⟩
  rw[h.block g]
  ·exact hh
  ·rintro rfl
   have h1:w.heap[g]? = some (.cells cs.toArray t (0,0)):=hk
   rw[hh] at h1
   simp only[At,Obj.cells.injEq] at h1
   exact hne h1.2.1
theorem Blk.sl{w:World}{b:Nat}{cs:List Value}{t:TypeId}(h:Blk w b cs t)(n c:Nat)(hn:n≤c)(hc:c≤maxLen):Sl w (.slice (S1 b) n c) n cs :=
 .inr ⟨b,0,c,rfl,hn,hc,fun j x hj=>by rw[E9];exact h.cell hj⟩
theorem _root_.Go.Proofs.YtekomodnkfhihaaGreatDoor.Sl.elem{w:World}{b:O0}{n c:Nat}{xs:List Value}(h:Sl w (.slice b n c) n xs){j:Nat}{x:Value}(hj:xs[j]? = some x):b.isSome=true∧w.cell? (Zr b j)=some x:=by
 rcases Sl.at h with rfl|⟨g,a0,rfl,hc⟩
 ·cases hj
 ·exact⟨rfl,by simpa [Zr,Addr.add_mid] using hc j x hj⟩
theorem _root_.Go.Proofs.YtekomodnkfhihaaGreatDoor.Ints.elem{w:World}{b:O0}{c:Nat}{l:List Int}(h:Ints w (.slice b l.length c) l){k:Nat}(hk:k<l.length):b.isSome=true∧w.cell? (Zr b (k*1))=some (V0 (l.getD k 0)):=by
 refine Sl.elem h ?_
 rw[D0,B7,B4 hk]
 simp[List.getD,B4 hk]
def Zd(T:List TypeId)(w w':World):Prop:=∀ (k:Nat) (cs:Array Value) (t:TypeId) (fr:Nat×Nat),w.heap[k]? = some (Obj.cells cs t fr)→T.contains t=false→w'.heap[k]? = some (Obj.cells cs t fr)
theorem Zd.refl(T:List TypeId)(w:World):Zd T w w:=fun _ _ _ _ h _=>h
theorem Zd.trans{T:List TypeId}{a b c:World}(h:Zd T a b)(k:Zd T b c):Zd T a c:=fun i cs t fr hi ht=>k i cs t fr (h i cs t fr hi ht) ht
theorem Zd.of_below{T:List TypeId}{w W:World}(h:Bl w W):Zd T w W:=fun k cs t fr hk _=>by
 rw[h.block k (Array.getElem?_eq_some_iff.1 hk).1];exact hk
theorem Zd.of_upd{T:List TypeId}{w W:World}{b:Nat}{cs:List Value}{t:TypeId}(h:Upd w b W)(k:Blk w b cs t)(ht:T.contains t=true):Zd T w W:=fun i a0 t' fr hi h2=>by
 rw[h.block i]
 ·exact hi
 ·rintro rfl
  have h1:w.heap[i]? = some (.cells cs.toArray t (0,0)):=k
  rw[hi] at h1
  simp only[At,Obj.cells.injEq] at h1
  rw[h1.2.1,ht] at h2;cases h2
theorem Zd.of_grown{T:List TypeId}{w W:World}{base size n:Nat}{e:TypeId}{v:Value}{xs:List Value}(hg:w.grownBy W v.ownBlock)(hown:w.ownsRow base e size v n xs)(ht:T.contains e=true):Zd T w W:=fun i cs t fr hi h2=>by
 rw[hg.block i (Array.getElem?_eq_some_iff.1 hi).1]
 ·exact hi
 ·intro hb
  rcases hown.2 with ⟨rfl,_⟩|⟨g,a0,a1,rfl,_,hh,_⟩
  ·cases hb
  ·simp only[Value.ownBlock,At] at hb
   subst hb
   rw[hi] at hh
   simp only[At,Obj.cells.injEq] at hh
   rw[hh.2.1,ht] at h2;cases h2
theorem Blk.only{T:List TypeId}{w W:World}{b:Nat}{cs:List Value}{t:TypeId}(k:Blk w b cs t)(h:Zd T w W)(ht:T.contains t=false):Blk W b cs t:=h b _ _ _ k ht
theorem Xb{w w':World}{base size n:Nat}{e:TypeId}{v:Value}{xs:List Value}{base2 size2 n2:Nat}{e2:TypeId}{v2:Value}{xs2:List Value}(k:w.ownsRow base e size v n xs)(hg:w.grownBy w' v2.ownBlock)(hown:w.ownsRow base2 e2 size2 v2 n2 xs2)(hne:e2≠e):w'.ownsRow base e size v n xs:=by
 obtain⟨h1,h2⟩:=k
 refine⟨h1,?_⟩
 rcases h2 with h2|⟨g,a5,a3,hv,a1,hh,r⟩
 ·exact Or.inl h2
 ·refine Or.inr ⟨g,a5,a3,hv,a1,?_,r⟩
  rw[hg.block g (Array.getElem?_eq_some_iff.1 hh).1]
  ·exact hh
  ·intro hb
   rcases hown.2 with ⟨rfl,_⟩|⟨g2,a2,a4,rfl,_,a0,_⟩
   ·cases hb
   ·simp only[Value.ownBlock,At] at hb
    subst hb
    rw[hh] at a0
    simp only[At,Obj.cells.injEq] at a0
    exact hne a0.2.1.symm
theorem Zf{w:World}{base base' size n:Nat}{e:TypeId}{v:Value}{xs:List Value}(k:w.ownsRow base' e size v n xs)(h:base≤base'):w.ownsRow base e size v n xs:=by
 obtain⟨h1,h2⟩:=k
 refine⟨h1,?_⟩
 rcases h2 with h2|⟨g,a0,a1,hv,hg,r⟩
 ·exact Or.inl h2
 ·exact Or.inr ⟨g,a0,a1,hv,N0 h hg,r⟩
theorem Zo{T:List TypeId}{w W:World}{base size n:Nat}{e:TypeId}{v:Value}{xs:List Value}(k:w.ownsRow base e size v n xs)(h:Zd T w W)(ht:T.contains e=false):W.ownsRow base e size v n xs:=by
 obtain⟨h1,h2⟩:=k
 refine⟨h1,?_⟩
 rcases h2 with h2|⟨g,a0,a1,hv,hg,hh,r⟩
 ·exact Or.inl h2
 ·exact Or.inr ⟨g,a0,a1,hv,hg,h g _ _ _ hh ht,r⟩
theorem blB{B:Nat}{a w w':World}(h:Below B a w)(hs:B≤a.heap.size)(k:Bl w w'):Below B a w':=h.trans (k.mono (N0 hs h.size))
/-! ### slices of structs -/
def Sts {α:Type}(f:α→List Value)(w:World)(v:Value)(l:List α):Prop:=Sl w v l.length (l.flatMap f)
theorem Sts.below{α:Type}{f:α→List Value}{w w':World}{v:Value}{l:List α}(h:Sts f w v l)(hb:Bl w w'):Sts f w' v l:=Sl.below h hb
theorem Wg{α:Type}{f:α→List Value}{m:Nat}(hm:∀ x,(f x).length=m):∀ (l:List α) (k i:Nat) (d:α),k<l.length→i<m→(l.flatMap f)[k*m+i]? = (f (l.getD k d))[i]?
 | [],k,i,d,hk,_=>by simp at hk
 | x::l,0,i,d,_,hi=>by
  rw[H8,Nat.zero_mul,E9,G9 (by rw[hm];exact hi)];rfl
 | x::l,k+1,i,d,hk,hi=>by
  rw[H8,List.getElem?_append_right (by rw[hm,Lt];omega),hm,show(k+1)*m+i-m=k*m+i by rw[Lt];omega]
  simpa using Wg hm l k i d (by simpa using hk) hi
theorem Wt{α:Type}{f:α→List Value}{m:Nat}(hm:∀ x,(f x).length=m)(l:List α):(l.flatMap f).length=l.length*m:=by
 induction l with
 | nil=>simp
 | cons x l ih=>rw[H8,A1,hm,ih,D5,Lt];omega
theorem Sts.cell{α:Type}{f:α→List Value}{m:Nat}{w:World}{b:O0}{c:Nat}{l:List α}(h:Sts f w (.slice b l.length c) l)(hm:∀ x,(f x).length=m)(d:α){k i:Nat}{v:Value}(hk:k<l.length)(hi:(f (l.getD k d))[i]? = some v):b.isSome=true∧w.cell? ((Zr b (k*m)).add i)=some v:=by
 have a2:i<m:=by have:=(List.getElem?_eq_some_iff.1 hi).1;rwa [hm] at this
 have hc:=Wg hm l k i d hk a2
 rw[hi] at hc
 rcases Sl.at h with a1|⟨g,og,rfl,a0⟩
 ·rw[a1] at hc;cases hc
 ·refine⟨rfl,?_⟩
  have:=a0 _ _ hc
  simpa [Zr,Addr.add_mid,D7] using this
theorem Sts.at{α:Type}{f:α→List Value}{m:Nat}{w:World}{b:O0}{c:Nat}{l:List α}(h:Sts f w (.slice b l.length c) l)(hm:∀ x,(f x).length=m)(hm0:0<m)(hl:0<l.length):∃ g o,b=some ⟨g,o,none⟩:=by
 rcases Sl.at h with a0|⟨g,og,rfl,a1⟩
 ·have:=Wt hm l
  rw[a0] at this
  have:=Nat.mul_pos hl hm0
  simp at *;omega
 ·exact⟨g,og,rfl⟩
theorem Kz{a b:Int}(h:(a==b)=false):a≠b:=by simpa using h
theorem Zbs{a b:Int}(h:(a != b)=true):a≠b:=by simpa using h
theorem Nl{a b:Int}(h:(a != b)=false):a=b:=by simpa using h
/-! ### a region that draws its order -/
def Mi(P:Program)(md:Region.Mode)(ops:Array Oper):List Nat→Array Bool→Act→Option (Array Bool×Act)
 | [],L,a=>some (L,a)
 | i::r,L,a=>match ops[i]? with
  | none=>none
  | some o=>match Region.free md ops L i&&(Region.ready md ops L).contains i with
   | true=>match Wh P ops a o with
    | some a'=>Mi P md ops r (L.setIfInBounds i true) a'
    | none=>none
   | false=>none
section
variable {P:Program} {ops:Array Oper} {Q:Exit→Act→World→Prop} {a a':Act} {w:World} {S:World→Prop} {md:Region.Mode} {L L':Array Bool} {fuel:Nat}
theorem Zcm(hQ:∀ c a (d:Tmp) v w,Q (.panic c) (a.put (some d) v) w→Q (.panic c) a w)(d:Option Tmp)(v:Value):∀ c a w,Q (.panic c) (a.put d v) w→Q (.panic c) a w:=fun c a w h=>by
 cases d with
 | none=>exact h
 | some d=>exact hQ c a d v w h
theorem Uo(hs:Region.noSelect ops=true)(hQ:∀ c a (d:Tmp) v w,Q (.panic c) (a.put (some d) v) w→Q (.panic c) a w)(hS:S w):∀ (is:List Nat) {fuel:Nat} {L L':Array Bool} {a a':Act},Mi P md ops is L a=some (L',a')→wpAnyH P md ops Q S fuel L' a' w→wpAnyH P md ops Q S (fuel+is.length) L a w
 | [],fuel,L,L',a,a',h,k=>by simp only[Mi,At,C2] at h;obtain⟨rfl,rfl⟩:=h;exact k
 | i::r,fuel,L,L',a,a',h,k=>by
  simp only[Mi] at h
  split at h
  ·cases h
  ·rename_i o ho
   split at h
   ·rename_i a0
    simp only[C8] at a0
    split at h
    ·rename_i a1 h1
     obtain⟨v,rfl,hy⟩:=Ja h1
     exact wpAnyH_take ho hs a0.1 a0.2 (Zcm hQ _ _) (hy S) hS (Uo hs hQ hS r h k)
    ·cases h
   ·cases h
theorem h_pure(is:List Nat)(fuel:Nat){f0:Nat}(hf:f0=fuel+is.length)(L':Array Bool)(a':Act)(hs:Region.noSelect ops=true)(hQ:∀ c a (d:Tmp) v w,Q (.panic c) (a.put (some d) v) w→Q (.panic c) a w)(h:Mi P md ops is L a=some (L',a'))(hS:S w)
 (k:wpAnyH P md ops Q S fuel L' a' w):wpAnyH P md ops Q S f0 L a w:=hf▸Uo hs hQ hS is h k
theorem Nt{o:Oper}(i fuel:Nat){f0:Nat}(hf:f0=fuel+1)(hr:Region.ready md ops L=[i])(ho:ops.toList[i]? = some o)(hw:Region.wanted o (yielded ops a.tmps)=true)
 (h:o.wp P a w (fun a' w'=>S w'∧wpAnyH P md ops Q S fuel (L.setIfInBounds i true) a' w') Q):wpAnyH P md ops Q S f0 L a w:=by
 subst hf
 refine wpAnyH_all hr (by simp) fun j hj=>?_
 obtain rfl:j=i:=by simpa using hj
 have a0:ops[j]? = some o:=by rw[←ho];simp
 unfold wpOp
 simp only[a0,hw,if_true]
 exact .inl h
theorem h_two{o o2:Oper}(i j fuel:Nat){f0:Nat}(hf:f0=fuel+1)(hr:Region.ready md ops L=[i,j])(ho:ops.toList[i]? = some o)(ho2:ops.toList[j]? = some o2)(hw:Region.wanted o (yielded ops a.tmps)=true)(hw2:Region.wanted o2 (yielded ops a.tmps)=true)
 (h:o.wp P a w (fun a' w'=>S w'∧wpAnyH P md ops Q S fuel (L.setIfInBounds i true) a' w') Q) (h2:o2.wp P a w (fun a' w'=>S w'∧wpAnyH P md ops Q S fuel (L.setIfInBounds j true) a' w') Q):wpAnyH P md ops Q S f0 L a w:=by
 subst hf
 refine wpAnyH_all hr (by simp) fun k hk=>?_
 have a1:ops[i]? = some o:=by rw[←ho];simp
 have a0:ops[j]? = some o2:=by rw[←ho2];simp
 rcases D4.1 hk with rfl|hk
 ·unfold wpOp;simp only[a1,hw,if_true];exact .inl h
 ·obtain rfl:k=j:=by simpa using hk
  unfold wpOp;simp only[a0,hw2,if_true];exact .inl h2
theorem h_str{P:Program}{ops:Array Oper}{Q:Exit→Act→World→Prop}{S:World→Prop}{md:Region.Mode}(S':World→Prop)(hi:∀ V,S' V→S V):∀ {fuel:Nat} {L:Array Bool} {a:Act} {w:World},wpAnyH P md ops Q S' fuel L a w→wpAnyH P md ops Q S fuel L a w
 | 0,_,_,_,h=>h
 | fuel+1,_,_,_,h=>⟨h.1,fun i hj=>wpOp_mono (fun a' w' h'=>⟨hi w' h'.1,h_str S' hi h'.2⟩) (h.2 i hj)⟩
theorem Zda(fuel:Nat)(hr:Region.ready md ops L=[])(h:Q .normal a w):wpAnyH P md ops Q S fuel L a w:=wpAnyH_done hr h fuel
end
structure BelowBut(w:World)(b:Nat)(W:World):Prop where
 os:W.os=w.os
 tape:W.tape=w.tape
 output:W.output=w.output
 size:w.heap.size≤W.heap.size
 block:∀ k,k<w.heap.size→k≠b→W.heap[k]? = w.heap[k]?
theorem _root_.Go.RowKit.Below.but{w W:World}(h:Bl w W)(b:Nat):BelowBut w b W:=⟨h.os,h.tape,h.output,h.size,fun k hk _=>h.block k hk⟩
theorem BelowBut.upd{w W W':World}{b:Nat}(h:BelowBut w b W)(u:Upd W b W'):BelowBut w b W':=⟨u.os.trans h.os,u.tape.trans h.tape,u.output.trans h.output,by rw[u.size];exact h.size,fun k hk hne=>(u.block k hne).trans (h.block k hk hne)⟩
theorem BelowBut.next{w W W':World}{b:Nat}(h:BelowBut w b W)(u:Bl W W'):BelowBut w b W':=⟨u.os.trans h.os,u.tape.trans h.tape,u.output.trans h.output,N0 h.size u.size,fun k hk hne=>(u.block k (C1 hk h.size)).trans (h.block k hk hne)⟩
theorem BelowBut.blk{w W:World}{b b':Nat}{cs:List Value}{t:TypeId}(h:BelowBut w b W)(k:Blk w b' cs t)(hne:b'≠b):Blk W b' cs t:=(h.block b' k.lt hne).trans k
theorem BelowBut.own2{w W:World}{b base:Nat}{e t:TypeId}{size:Nat}{v:Value}{n:Nat}{xs cs:List Value}(h:BelowBut w b W)(k:w.ownsRow base e size v n xs)(hk:Blk w b cs t)(hne:e≠t):W.ownsRow base e size v n xs:=by
 obtain⟨h1,h2⟩:=k
 refine⟨h1,?_⟩
 rcases h2 with h2|⟨g,a0,a1,hv,hg,hh,r⟩
 ·exact Or.inl h2
 ·refine Or.inr ⟨g,a0,a1,hv,hg,?_,r⟩
  rw[h.block g (Array.getElem?_eq_some_iff.1 hh).1]
  ·exact hh
  ·rintro rfl
   rw[show w.heap[g]? = _ from hk] at hh
   simp only[At,Obj.cells.injEq] at hh
   exact hne hh.2.1.symm
theorem BelowBut.below{A w W:World}{b B:Nat}(h:BelowBut w b W)(hB:Below B A w)(hb:B≤b)(hs:B≤w.heap.size):Below B A W:=hB.trans ⟨h.os,h.tape,h.output,h.size,fun k hk=>h.block k M0 M0⟩
theorem Xg{w:World}{b base:Nat}{cs:List Value}{t:TypeId}{size n:Nat}(k:Blk w b cs t)(hb:base≤b)(hl:cs.length=n*size)(hn:n≤maxLen):w.ownsRow base t size (.slice (S1 b) n n) n cs :=
 ⟨hl,.inr ⟨b,n,cs.toArray,rfl,hb,k,A3 _,hn,by simpa using hl,by rw[←hl];simp⟩⟩
theorem g_ret{P:Program}{fn:Func}{R:Ending→World→Prop}{a:Act}{w:World}(v:Value)(hd:a.defers=[])(hr:(results fn a.tmps).run P w=.ok v w)(h:R (.returned v) w):bodyPost P fn R .ret a w:=⟨hd,v,hr,h⟩
theorem g_end{P:Program}{fn:Func}{R:Ending→World→Prop}{a:Act}{w:World}(v:Value)(hd:a.defers=[])(hr:(results fn a.tmps).run P w=.ok v w)(h:R (.returned v) w):bodyPost P fn R .normal a w:=⟨hd,v,hr,h⟩
theorem New.ge0{b:Nat}{cs:List Value}{t:TypeId}{w W A:World}{B:Nat}(h:New w b cs t W)(k:Below B A w):A.heap.size≤b:=by have:=k.size;have:=h.at_;omega
theorem Zg{w W:World}{base size n:Nat}{e:TypeId}{v:Value}{xs cs:List Value}{b:Nat}{t:TypeId}(k:w.ownsRow base e size v n xs)(h:New w b cs t W):∀ j,v.ownBlock=some j→j≠b:=fun j hj=>by have:=(k.lt j hj).2;have:=h.at_;omega
theorem Upd.own3{w W:World}{b base:Nat}{e:TypeId}{size:Nat}{v:Value}{n:Nat}{xs:List Value}(h:Upd w b W)(k:w.ownsRow base e size v n xs)(hs:∀ j,v.ownBlock=some j→j≠b):W.ownsRow base e size v n xs:=by
 obtain⟨h1,h2⟩:=k
 refine⟨h1,?_⟩
 rcases h2 with h2|⟨g,a0,a1,rfl,hg,hh,r⟩
 ·exact Or.inl h2
 ·exact Or.inr ⟨g,a0,a1,rfl,hg,by rw[h.block g (hs g rfl)];exact hh,r⟩
theorem Zd.upd_new{T:List TypeId}{a w W:World}{b:Nat}(h:Zd T a w)(u:Upd w b W)(hb:a.heap.size≤b):Zd T a W:=fun k cs t fr hk ht=>by
 have:=(Array.getElem?_eq_some_iff.1 hk).1
 rw[u.block k M0];exact h k cs t fr hk ht
theorem Zd.grown_new{T:List TypeId}{a w W:World}{size n:Nat}{e:TypeId}{v:Value}{xs:List Value}(h:Zd T a w)(hg:w.grownBy W v.ownBlock)(hown:w.ownsRow a.heap.size e size v n xs):Zd T a W:=fun k cs t fr hk ht=>by
 have h1:=(Array.getElem?_eq_some_iff.1 hk).1
 have h2:=h k cs t fr hk ht
 rw[hg.block k (Array.getElem?_eq_some_iff.1 h2).1 (fun e=>by have:=(hown.lt k e.symm).1;omega)];exact h2
def putD(a:Act):List (Nat×Value)→Act
 | []=>a
 | (d,v)::r=>putD ⟨a.tmps.setIfInBounds d v,a.defers⟩ r
theorem Zak(is:List Nat)(d b:Bool)(h:d=b){a:Act}(he:is.map (fun i=>a.tmps[i]?)=is.map (fun _=>some (Value.bool d))):putD a (is.map fun i=>(i,Value.bool b))=a:=by
 subst h
 induction is with
 | nil=>rfl
 | cons i r ih =>
  simp only[E4,G4] at he
  have e:a.tmps.setIfInBounds i (Value.bool d)=a.tmps:=by
   apply Array.ext_getElem?
   intro j
   by_cases hj:i=j
   ·subst hj
    obtain⟨a0,hv⟩:=Array.getElem?_eq_some_iff.1 he.1
    rw[Array.getElem?_setIfInBounds_self_of_lt a0,he.1]
   ·rw[Array.getElem?_setIfInBounds_ne hj]
  show putD ⟨a.tmps.setIfInBounds i (Value.bool d),a.defers⟩ (r.map fun i=>(i,Value.bool d))=a
  rw[e]
  exact ih he.2
theorem g_b{P:Program}{ops:Array Oper}{Q:Exit→Act→World→Prop}{a:Act}{w:World}{l:List Oper}(is:List Nat)(d b:Bool)(h:d=b)(he:is.map (fun i=>a.tmps[i]?)=is.map (fun _=>some (Value.bool d)))(k:wpList P ops Q l (putD a (is.map fun i=>(i,Value.bool b))) w):wpList P ops Q l a w:=Zak is d b h he▸k
theorem Hp{P:Program}{ops:Array Oper}{Q:Exit→Act→World→Prop}{a:Act}{w:World}{l:List Oper}(n:Nat)(ds:List (Nat×Value))(h:Nz P ops (l.take n) a=some (putD a ds))(k:wpList P ops Q (l.drop n) (putD a ds) w):wpList P ops Q l a w:=g_pure n _ h k
theorem h_pv{P:Program}{ops:Array Oper}{Q:Exit→Act→World→Prop}{a:Act}{w:World}{S:World→Prop}{md:Region.Mode}{L:Array Bool}(is:List Nat)(fuel:Nat){f0:Nat}(hf:f0=fuel+is.length)(L':Array Bool)(ds:List (Nat×Value))(hs:Region.noSelect ops=true)(hQ:∀ c a (d:Tmp) v w,Q (.panic c) (a.put (some d) v) w→Q (.panic c) a w)(h:Mi P md ops is L a=some (L',putD a ds))(hS:S w)
 (k:wpAnyH P md ops Q S fuel L' (putD a ds) w):wpAnyH P md ops Q S f0 L a w:=h_pure is fuel hf L' _ hs hQ h hS k
def pk:List Value→Nat→Value
 | [],_=>undef
 | x::_,0=>x
 | _::r,k+1=>pk r k
structure Fr(S:List Nat)(w W:World):Prop where
 size:w.heap.size≤W.heap.size
 block:∀ k,k<w.heap.size→k∉S→W.heap[k]? = w.heap[k]?
theorem Fr.refl(S:List Nat)(w:World):Fr S w w:=⟨A3 _,fun _ _ _=>rfl⟩
theorem Fr.trans{S:List Nat}{a b c:World}(h:Fr S a b)(k:Fr S b c):Fr S a c:=⟨N0 h.size k.size,fun i hi hs=>(k.block i (C1 hi h.size) hs).trans (h.block i hi hs)⟩
theorem Fr.mono{S T:List Nat}{a b:World}(h:Fr S a b)(hs:∀ k∈S,k∈T):Fr T a b:=⟨h.size,fun i hi ht=>h.block i hi fun hi=>ht (hs i hi)⟩
theorem Fr.of_below{S:List Nat}{w W:World}(h:Bl w W):Fr S w W:=⟨h.size,fun k hk _=>h.block k hk⟩
theorem Fr.of_upd{S:List Nat}{w W:World}{b:Nat}(h:Upd w b W)(hb:b∈S):Fr S w W:=⟨I4 h.size.symm,fun k _ hs=>h.block k fun e=>hs (e▸hb)⟩
theorem Fr.upd_new{S:List Nat}{a w W:World}{b:Nat}(h:Fr S a w)(u:Upd w b W)(hb:a.heap.size≤b):Fr S a W:=⟨N0 h.size (I4 u.size.symm),fun k hk hs=>(u.block k M0).trans (h.block k hk hs)⟩
theorem Fr.grown_new{S:List Nat}{a w W:World}{size n:Nat}{e:TypeId}{v:Value}{xs:List Value}(h:Fr S a w)(hg:w.grownBy W v.ownBlock)(hown:w.ownsRow a.heap.size e size v n xs):Fr S a W:=⟨N0 h.size hg.size,fun k hk hs=>(hg.block k (C1 hk h.size) (fun e=>by have:=(hown.lt k e.symm).1;omega)).trans (h.block k hk hs)⟩
theorem Fr.of_grown{S:List Nat}{w W:World}{g n cap:Nat}(hg:w.grownBy W (Value.slice (S1 g) n cap).ownBlock)(hb:g∈S):Fr S w W:=⟨hg.size,fun k hk hs=>hg.block k hk fun e=>hs (by simp only[Value.ownBlock,At] at e;exact e▸hb)⟩
theorem Fr.trans_new{S:List Nat}{a w W:World}{z:Nat}(h:Fr S a w)(k:Fr (S++[z]) w W)(hz:a.heap.size≤z):Fr S a W:=⟨N0 h.size k.size,fun i hi hs=>(k.block i (C1 hi h.size) (fun hm=>by rcases List.mem_append.1 hm with hm|hm;exact hs hm;have:=D8.1 hm;omega)).trans (h.block i hi hs)⟩
theorem Blk.fr{S:List Nat}{w W:World}{b:Nat}{cs:List Value}{t:TypeId}(k:Blk w b cs t)(h:Fr S w W)(hb:b∉S):Blk W b cs t:=(h.block b k.lt hb).trans k
theorem Zcw{S:List Nat}{w W:World}{base size n:Nat}{e:TypeId}{v:Value}{xs:List Value}(k:w.ownsRow base e size v n xs)(h:Fr S w W)(hs:∀ b,v.ownBlock=some b→b∉S):W.ownsRow base e size v n xs:=by
 obtain⟨h1,h2⟩:=k
 refine⟨h1,?_⟩
 rcases h2 with h2|⟨g,a0,a1,rfl,hg,hh,r⟩
 ·exact Or.inl h2
 ·exact Or.inr ⟨g,a0,a1,rfl,hg,by rw[h.block g (Array.getElem?_eq_some_iff.1 hh).1 (hs g rfl)];exact hh,r⟩
theorem Zb(w:World):Bl w w.drew:=(Below.refl _ _).drew
theorem Bv{id:Nat}{K:Act→World→Prop}{Q:Exit→Act→World→Prop}{a:Act}{w:World}(h:Q (.exit id) a w):Exit.then K Q (.exit id) a w:=h
theorem Vd{K:Act→World→Prop}{Q:Exit→Act→World→Prop}{a:Act}{w:World}(h:Q .ret a w):Exit.then K Q .ret a w:=h
theorem Kc{id:Nat}{Q:Exit→Act→World→Prop}{a:Act}{w:World}(h:Q .ret a w):Exit.inBlock id Q .ret a w:=h
theorem Fq{id:Nat}{Q:Exit→Act→World→Prop}{a:Act}{w:World}(h:Q .normal a w):Exit.inBlock id Q (.exit id) a w:=by simpa [Exit.inBlock] using h
end Go.Proofs.YtekomodnkfhihaaGreatDoor
namespace Go.Proofs.YtekomodnkfhihaaGreatDoor
set_option maxHeartbeats 8000000
set_option maxRecDepth 100000
open Go.RowKit
set_option linter.unusedVariables false
/-! ### frames -/
noncomputable def zlk (l:List (Nat×Value)) (k:Nat):Value:=List.rec (motive:=fun _=>Value) undef (fun p _ ih=>Bool.rec (motive:=fun _=>Value) ih p.2 (Nat.beq p.1 k)) l
theorem Hy(d:Nat)(v:Value)(l:List (Nat×Value))(k:Nat):zlk ((d,v)::l) k=if d=k then v else zlk l k:=by
 show Bool.rec (motive:=fun _=>Value) (zlk l k) v (Nat.beq d k)=_
 cases h:Nat.beq d k with
 | true=>rw[if_pos (F7 h)]
 | false=>rw[if_neg (Nat.ne_of_beq_eq_false h)]
noncomputable def zact (n:Nat) (kv:List (Nat×Value)):Act:=⟨((List.range n).map (zlk kv)).toArray,[]⟩
noncomputable def zget (n:Nat) (kv:List (Nat×Value)) (k:Nat):Value:=Bool.rec (motive:=fun _=>Value) undef (zlk kv k) (Nat.blt k n)
theorem Lw(k n:Nat):Nat.blt k n=decide (k<n):=by
 rw[Bool.eq_iff_iff];simp
theorem Zaz(n:Nat)(kv:List (Nat×Value))(d:Nat):(zact n kv).tmps[d]? = Bool.rec (motive:=fun _=>Option Value) none (some (zlk kv d)) (Nat.blt d n):=by
 rw[Lw]
 by_cases h:d<n<;>simp[zact,h]
theorem Gi(n:Nat)(kv:List (Nat×Value))(d:Nat):(zact n kv).tmps.getD d undef=zget n kv d:=by
 have h:=Zaz n kv d
 rw[Array.getD_eq_getD_getElem?,h]
 unfold zget
 cases Nat.blt d n<;>rfl
noncomputable def zev (n:Nat) (kv:List (Nat×Value)):Operand→Value
 | .tmp t=>zget n kv t
 | .const v=>v
 | .global g=>P0 g
 | .func f=>.func (.func f) #[] #[]
theorem Zj(n:Nat)(kv:List (Nat×Value)):(zact n kv).eval=zev n kv:=by
 funext x
 cases x with
 | tmp t=>exact Gi n kv t
 | _=>rfl
def Ot(kv:List (Nat×Value))(d:Option Tmp)(v:Value):List (Nat×Value):=match d with
 | some d=>(d,v)::kv
 | none=>kv
theorem Gr(n:Nat)(kv:List (Nat×Value))(d:Option Tmp)(v:Value):(zact n kv).put d v=zact n (Ot kv d v):=by
 cases d with
 | none=>rfl
 | some d =>
  show(⟨((List.range n).map (zlk kv)).toArray.setIfInBounds d v,[]⟩:Act)=⟨((List.range n).map (zlk ((d,v)::kv))).toArray,[]⟩
  congr 1
  rw[List.setIfInBounds_toArray]
  congr 1
  apply F4
  intro i
  rw[List.getElem?_set,B7,B7,A0,List.length_range]
  by_cases hi:i<n
  ·simp only[B5 hi,C5,Hy]
   by_cases hd:d=i
   ·subst hd;simp[hi]
   ·simp[hd]
  ·have:(List.range n)[i]? = none:=by simp;omega
   simp only[this,Option.map_none]
   by_cases hd:d=i
   ·subst hd;simp[hi]
   ·simp[hd]
noncomputable def znth (l:List Oper) (k:Nat):Option Oper:=List.rec (motive:=fun _=>Nat→Option Oper) (fun _=>none) (fun o _ ih k=>Nat.rec (motive:=fun _=>Option Oper) (some o) (fun k' _=>ih k') k) l k
theorem Uf:∀ (l:List Oper) (k:Nat),znth l k=l[k]?
 | [],_=>rfl
 | _::_,0=>rfl
 | _::l,k+1=>by rw[List.getElem?_cons_succ,←Uf l k];rfl
noncomputable def zyl (all:List Oper) (n:Nat) (kv:List (Nat×Value)) (j:Nat):Option Bool :=
 match ((znth all j).bind (·.dst)) with
 | some d=>match zget n kv d with
  | .bool b=>some b
  | _=>none
 | none=>none
theorem Cf(all:List Oper)(n:Nat)(kv:List (Nat×Value)):yielded all.toArray (zact n kv).tmps=zyl all n kv:=by
 funext j
 unfold yielded zyl
 rw[Uf,F8]
 cases h:(all[j]?).bind (·.dst) with
 | none=>rfl
 | some d =>
  simp only[Option.bind_some,Zaz]
  unfold zget
  cases Nat.blt d n
  ·rfl
  ·cases zlk kv d<;>rfl
noncomputable def zps (P:Program) (all:List Oper) (n:Nat) (kv:List (Nat×Value)) (o:Oper):Option (List (Nat×Value)) :=
 match Region.wanted o (zyl all n kv) with
 | true=>match Ke P (execOp (zev n kv) o) with
  | some (.value v)=>some (Ot kv o.dst v)
  | _=>none
 | false=>some (Ot kv o.dst undef)
theorem Mk{P:Program}{all:List Oper}{n:Nat}{kv kv':List (Nat×Value)}{o:Oper}(h:zps P all n kv o=some kv'):∃ v,kv'=Ot kv o.dst v∧∀ S:World→Prop,YieldsIf P all.toArray S o v (zact n kv):=by
 unfold zps at h
 split at h
 ·rename_i hw
  split at h
  ·rename_i v hv
   simp only[At] at h
   exact⟨v,h.symm,fun S=>.inl ⟨by rw[Cf];exact hw,fun w _=>by rw[Zj];exact Qu hv w⟩⟩
  ·cases h
 ·rename_i hw
  simp only[At] at h
  exact⟨undef,h.symm,fun S=>.inr ⟨by rw[Cf];exact hw,rfl⟩⟩
/-! ### what stands of an order that is drawn -/
inductive SF
 | z
 | t (B:Nat) (T:List TypeId)
 | f (B:Nat) (S:List Nat)
def SF.rel:SF→World→World→Prop
 | .z,w,V=>Bl w V
 | .t B T,w,V=>Below (Nat.min B w.heap.size) w V∧Zd T w V
 | .f B S,w,V=>Below (Nat.min B w.heap.size) w V∧Fr S w V
theorem SF.refl(sf:SF)(w:World):sf.rel w w:=by
 cases sf with
 | z=>exact Below.refl _ _
 | t B T=>exact⟨Below.refl _ _,Zd.refl _ _⟩
 | f B S=>exact⟨Below.refl _ _,Fr.refl _ _⟩
theorem SF.of_below(sf:SF){w W:World}(h:Bl w W):sf.rel w W:=by
 cases sf with
 | z=>exact h
 | t B T=>exact⟨h.mono (Nat.min_le_right _ _),Zd.of_below h⟩
 | f B S=>exact⟨h.mono (Nat.min_le_right _ _),Fr.of_below h⟩
theorem SF.trans(sf:SF){a b c:World}(h:sf.rel a b)(k:sf.rel b c):sf.rel a c:=by
 cases sf with
 | z=>exact bln h k
 | t B T =>
  refine⟨h.1.trans (k.1.mono ?_),h.2.trans k.2⟩
  have:=h.1.size
  simp only[Nat.min_def];split<;>split<;>omega
 | f B S =>
  refine⟨h.1.trans (k.1.mono ?_),h.2.trans k.2⟩
  have:=h.1.size
  simp only[Nat.min_def];split<;>split<;>omega
noncomputable def zL (n:Nat) (done:List Nat):Array Bool:=((List.range n).map fun i=>done.elem i).toArray
theorem Zcx(n:Nat)(done:List Nat)(i:Nat)(b:Bool):(zL n done).getD i b=if i<n then done.elem i else b:=by
 rw[Array.getD_eq_getD_getElem?]
 by_cases h:i<n<;>simp[zL,h]
theorem So(n:Nat)(done:List Nat)(i:Nat):(zL n done).setIfInBounds i true=zL n (i::done):=by
 unfold zL
 rw[List.setIfInBounds_toArray]
 congr 1
 apply F4
 intro j
 rw[List.getElem?_set,B7,B7,A0,List.length_range]
 by_cases hj:j<n
 ·simp only[B5 hj,C5]
  by_cases hd:i=j
  ·subst hd;simp[hj]
  ·have:(j==i)=false:=by simp;exact fun e=>hd e.symm
   rw[if_neg hd,List.elem_cons,this]
 ·have:(List.range n)[j]? = none:=by simp;omega
  simp only[this,Option.map_none]
  by_cases hd:i=j
  ·subst hd;simp[hj]
  ·simp[hd]
theorem zL_nil(n:Nat):Array.replicate n false=zL n []:=by
 unfold zL
 apply Array.ext_getElem?
 intro i
 by_cases h:i<n<;>simp[h]
noncomputable def zready (all:List Oper) (done:List Nat):List Nat :=
 (List.range all.length).filter fun i=>!(done.elem i)&&match znth all i with
  | some o=>o.after.all fun e=>!Region.binds .any e||(Nat.blt e.on all.length&&done.elem e.on)
  | none=>false
theorem Kt(all:List Oper)(done:List Nat):Region.ready .any all.toArray (zL all.length done)=zready all done:=by
 unfold Region.ready zready
 rw[F3]
 refine List.filter_congr fun i hi=>?_
 have a0:i<all.length:=by simpa using hi
 rw[Zcx,if_pos a0,Uf,F8]
 congr 1
 cases all[i]? with
 | none=>rfl
 | some o =>
  simp only[C5,Option.getD_some]
  congr 1
  funext e
  rw[Zcx,Lw]
  by_cases he:e.on<all.length<;>simp[he]
/-! ### the state of a walk -/
inductive KF
 | seq (c:Code)
 | blk (id:Nat)
 | jn (J:Act→World→Prop)
 | rnd (c:Code) (n:Nat)
 | scp
inductive Zc
 | code (c:Code)
 | ops (all l:List Oper)
 | any (sf:SF) (all:List Oper) (f:Nat) (done:List Nat)
 | one (sf:SF) (all:List Oper) (f:Nat) (done:List Nat) (i:Nat)
 | tak (sf:SF) (all:List Oper) (f:Nat) (done:List Nat) (i:Nat)
 | ex (e:Exit)
structure Zs where
 n:Nat
 ks:List KF
 c:Zc
 kv:List (Nat×Value)
section
variable (P:Program) (fn:Func) (R:Ending→World→Prop)
def KQ:List KF→Exit→Act→World→Prop
 | []=>bodyPost P fn R
 | .seq c::ks=>Exit.then (c.wp P (KQ ks)) (KQ ks)
 | .blk id::ks=>Exit.inBlock id (KQ ks)
 | .jn J::ks=>Exit.then J (KQ ks)
 | .rnd c n::ks=>Exit.then (Code.rounds P c (KQ ks) n) (KQ ks)
 | .scp::ks=>Exit.noGoto (KQ ks)
theorem Jm:∀ (ks:List KF) (c:List PanicEntry) (a:Act) (w:World),KQ P fn R ks (.panic c) a w=bodyPost P fn R (.panic c) a w
 | [],_,_,_=>rfl
 | .seq _::ks,c,a,w=>Jm ks c a w
 | .blk _::ks,c,a,w=>Jm ks c a w
 | .jn _::ks,c,a,w=>Jm ks c a w
 | .rnd _ _::ks,c,a,w=>Jm ks c a w
 | .scp::ks,c,a,w=>Jm ks c a w
theorem KQ_put(ks:List KF)(d:Option Tmp)(v:Value)(c:List PanicEntry)(a:Act)(w:World)(h:KQ P fn R ks (.panic c) (a.put d v) w):KQ P fn R ks (.panic c) a w:=by
 rw[Jm] at h ⊢
 refine⟨?_,h.2⟩
 have:=h.1
 cases d<;>exact this
def Go (s:Zs)(w:World):Prop:=match s.c with
 | .code c=>c.wp P (KQ P fn R s.ks) (zact s.n s.kv) w
 | .ops all l=>wpList P all.toArray (KQ P fn R s.ks) l (zact s.n s.kv) w
 | .any sf all f done=>Region.noSelect all.toArray=true→wpAnyH P .any all.toArray (KQ P fn R s.ks) (sf.rel w) f (zL all.length done) (zact s.n s.kv) w
 | .one sf all f done i=>Region.noSelect all.toArray=true→wpOp P all.toArray (KQ P fn R s.ks) i (fun a' w'=>sf.rel w w'∧wpAnyH P .any all.toArray (KQ P fn R s.ks) (sf.rel w) f (zL all.length (i::done)) a' w') (zact s.n s.kv) w
 | .tak sf all f done i=>Region.free .any all.toArray (zL all.length done) i=true→(zready all done).contains i=true→Region.noSelect all.toArray=true→wpAnyH P .any all.toArray (KQ P fn R s.ks) (sf.rel w) (f+1) (zL all.length done) (zact s.n s.kv) w
 | .ex e=>KQ P fn R s.ks e (zact s.n s.kv) w
end
/-! ### steps that need no word -/
noncomputable def zstep (P:Program) (s:Zs):Zs:=match s with
  | ⟨n, ks, c, kv⟩ => match c with
    | .code c=>match c with
      | .skip=>⟨n,ks,.ex .normal,kv⟩
      | .label _=>⟨n,ks,.ex .normal,kv⟩
      | .seq a b=>⟨n,.seq b::ks,.code a,kv⟩
      | .block id a=>⟨n,.blk id::ks,.code a,kv⟩
      | .scope a=>⟨n,.scp::ks,.code a,kv⟩
      | .exit id=>⟨n,ks,.ex (.exit id),kv⟩
      | .ret=>⟨n,ks,.ex .ret,kv⟩
      | .region id ops d=>Bool.rec (motive:=fun _=>Zs) ⟨n,ks,.ops ops.toList ops.toList,kv⟩ ⟨n,ks,.code (.region id ops true),kv⟩ d
      | .cond c a b=>match zev n kv c with
        | .bool t=>⟨n,ks,.code (Bool.rec (motive:=fun _=>Code) b a t),kv⟩
        | _=>⟨n,ks,.code (.cond c a b),kv⟩
      | c=>⟨n,ks,.code c,kv⟩
    | .ops all l=>match l with
      | []=>⟨n,ks,.ex .normal,kv⟩
      | o::l=>match zps P all n kv o with
        | some kv'=>⟨n,ks,.ops all l,kv'⟩
        | none=>⟨n,ks,.ops all (o::l),kv⟩
    | .any sf all f done=>match zready all done with
      | []=>⟨n,ks,.ex .normal,kv⟩
      | _=>⟨n,ks,.any sf all f done,kv⟩
    | .one sf all f done i=>⟨n,ks,.one sf all f done i,kv⟩
    | .tak sf all f done i=>⟨n,ks,.tak sf all f done i,kv⟩
    | .ex e=>match ks with
      | []=>⟨n,[],.ex e,kv⟩
      | .seq c::ks=>match e with
        | .normal=>⟨n,ks,.code c,kv⟩
        | e=>⟨n,ks,.ex e,kv⟩
      | .blk id::ks=>match e with
        | .exit id'=>Bool.rec (motive:=fun _=>Zs) ⟨n,ks,.ex (.exit id'),kv⟩ ⟨n,ks,.ex .normal,kv⟩ (Nat.beq id' id)
        | e=>⟨n,ks,.ex e,kv⟩
      | .jn J::ks=>match e with
        | .normal=>⟨n,.jn J::ks,.ex .normal,kv⟩
        | e=>⟨n,ks,.ex e,kv⟩
      | .rnd c m::ks=>match e with
        | .normal=>Nat.rec (motive:=fun _=>Zs) ⟨n,.rnd c m::ks,.ex .normal,kv⟩ (fun m' _=>⟨n,.rnd c m'::ks,.code c,kv⟩) m
        | e=>⟨n,ks,.ex e,kv⟩
      | .scp::ks=>match e with
        | .goto l=>⟨n,.scp::ks,.ex (.goto l),kv⟩
        | e=>⟨n,ks,.ex e,kv⟩
section
variable {P:Program} {fn:Func} {R:Ending→World→Prop} {w:World}
theorem Dr(s:Zs)(h:Go P fn R (zstep P s) w):Go P fn R s w:=by
 obtain⟨n,ks,c,kv⟩:=s
 cases c with
 | code c =>
  cases c with
  | skip=>exact wp_skip h
  | label l=>exact wp_label h
  | seq a b=>exact wp_seq h
  | block id a=>exact wp_block h
  | scope a=>exact wp_scope_straight h
  | exit id=>exact wp_exit h
  | ret=>exact wp_ret h
  | region id ops d =>
   cases d with
   | true=>exact h
   | false =>
    refine wp_region_list ?_
    have h':wpList P ops.toList.toArray (KQ P fn R ks) ops.toList (zact n kv) w:=h
    rwa [If] at h'
  | cond c a b =>
   unfold zstep at h
   dsimp only at h
   split at h
   ·rename_i t ht
    refine wp_cond (t:=t) (by rw[Zj];exact ht) ?_
    cases t<;>exact h
   ·exact h
  | _=>exact h
 | ops all l =>
  cases l with
  | nil=>exact(h:KQ P fn R ks .normal (zact n kv) w)
  | cons o l =>
   unfold zstep at h
   dsimp only at h
   split at h
   ·rename_i a0 hk
    obtain⟨v,rfl,hy⟩:=Mk hk
    have h':wpList P all.toArray (KQ P fn R ks) l (zact n (Ot kv o.dst v)) w:=h
    rw[←Gr] at h'
    exact Km (hy _) h'
   ·exact h
 | any sf all f done =>
  unfold zstep at h
  dsimp only at h
  split at h
  ·rename_i hr
   exact fun _=>wpAnyH_done (by rw[Kt];exact hr) h f
  ·exact h
 | one sf all f done i=>exact h
 | tak sf all f done i=>exact h
 | ex e =>
  cases ks with
  | nil=>exact h
  | cons k ks =>
   cases k with
   | seq c=>cases e<;>exact h
   | blk id =>
    cases e with
    | exit id' =>
     show Exit.inBlock id (KQ P fn R ks) (.exit id') _ w
     unfold zstep at h
     dsimp only at h
     cases hb:Nat.beq id' id with
     | true =>
      rw[hb] at h
      have:id'=id:=F7 hb
      simp only[Exit.inBlock,this,if_true]
      exact h
     | false =>
      rw[hb] at h
      have:id'≠id:=Nat.ne_of_beq_eq_false hb
      simp only[Exit.inBlock,this,if_false]
      exact h
    | _=>exact h
   | jn J=>cases e<;>exact h
   | scp=>cases e<;>exact h
   | rnd c m =>
    cases e with
    | normal =>
     cases m with
     | zero=>exact h
     | succ m=>exact h
    | _=>exact h
noncomputable def zr (P:Program) (k:Nat) (s:Zs):Zs:=Nat.rec (motive:=fun _=>Zs→Zs) (fun s=>s) (fun _ ih s=>ih (zstep P s)) k s
theorem Ln:∀ (k:Nat) (s:Zs),Go P fn R (zr P k s) w→Go P fn R s w
 | 0,_,h=>h
 | k+1,s,h=>Dr s (Ln k (zstep P s) h)
/-! ### a drawn region: what only computes is taken by number -/
noncomputable def zb1 (P:Program) (s:Zs) (i:Nat):Zs:=match s with
  | ⟨n, ks, c, kv⟩ => match c with
    | .any sf all f done=>match f with
      | f'+1=>match znth all i with
        | some o=>match Region.free .any all.toArray (zL all.length done) i&&(zready all done).contains i with
          | true=>match zps P all n kv o with
            | some kv'=>⟨n,ks,.any sf all f' (i::done),kv'⟩
            | none=>⟨n,ks,.any sf all f done,kv⟩
          | false=>⟨n,ks,.any sf all f done,kv⟩
        | none=>⟨n,ks,.any sf all f done,kv⟩
      | 0=>⟨n,ks,.any sf all f done,kv⟩
    | c=>⟨n,ks,c,kv⟩
theorem Zcn(s:Zs)(i:Nat)(h:Go P fn R (zb1 P s i) w):Go P fn R s w:=by
 obtain⟨n,ks,c,kv⟩:=s
 cases c with
 | any sf all f done =>
  cases f with
  | zero=>exact h
  | succ f =>
   unfold zb1 at h
   dsimp only at h
   split at h
   ·rename_i o ho
    split at h
    ·rename_i hc
     simp only[C8] at hc
     split at h
     ·rename_i a0 hk
      obtain⟨v,rfl,hy⟩:=Mk hk
      intro hs
      have h':=h hs
      rw[Uf] at ho
      rw[←Gr,←So] at h'
      exact wpAnyH_take (by rw[F8];exact ho) hs hc.1 (by rw[Kt];exact hc.2) (KQ_put P fn R ks _ _) (hy _) (sf.refl w) h'
     ·exact h
    ·exact h
   ·exact h
 | _=>exact h
noncomputable def zb (P:Program) (is:List Nat) (s:Zs):Zs:=List.rec (motive:=fun _=>Zs→Zs) (fun s=>s) (fun i _ ih s=>ih (zb1 P s i)) is s
theorem Hw:∀ (is:List Nat) (s:Zs),Go P fn R (zb P is s) w→Go P fn R s w
 | [],_,h=>h
 | i::r,s,h=>Zcn s i (Hw r _ h)
noncomputable def zone (i:Nat) (s:Zs):Zs:=match s with
  | ⟨n, ks, c, kv⟩ => match c with
    | .any sf all f done=>match f with
      | f'+1=>match zready all done with
        | [j]=>Bool.rec (motive:=fun _=>Zs) ⟨n,ks,.any sf all f done,kv⟩ ⟨n,ks,.one sf all f' done i,kv⟩ (Nat.beq j i)
        | _=>⟨n,ks,.any sf all f done,kv⟩
      | 0=>⟨n,ks,.any sf all f done,kv⟩
    | c=>⟨n,ks,c,kv⟩
theorem Oj(s:Zs)(i:Nat)(h:Go P fn R (zone i s) w):Go P fn R s w:=by
 obtain⟨n,ks,c,kv⟩:=s
 cases c with
 | any sf all f done =>
  cases f with
  | zero=>exact h
  | succ f =>
   unfold zone at h
   dsimp only at h
   split at h
   ·rename_i j hj
    cases hb:Nat.beq j i with
    | true =>
     rw[hb] at h
     obtain rfl:j=i:=F7 hb
     intro hs
     refine wpAnyH_all (rs:=[j]) (by rw[Kt];exact hj) (by simp) fun k hk=>?_
     obtain rfl:k=j:=by simpa using hk
     rw[So]
     exact h hs
    | false=>rw[hb] at h;exact h
   ·exact h
 | _=>exact h
noncomputable def ztak (i:Nat) (s:Zs):Zs:=match s with
  | ⟨n, ks, c, kv⟩ => match c with
    | .any sf all f done=>match f with
      | f'+1=>match Region.free .any all.toArray (zL all.length done) i&&(zready all done).contains i with
        | true=>⟨n,ks,.tak sf all f' done i,kv⟩
        | false=>⟨n,ks,.any sf all f done,kv⟩
      | 0=>⟨n,ks,.any sf all f done,kv⟩
    | c=>⟨n,ks,c,kv⟩
theorem Sy(s:Zs)(i:Nat)(h:Go P fn R (ztak i s) w):Go P fn R s w:=by
 obtain⟨n,ks,c,kv⟩:=s
 cases c with
 | any sf all f done =>
  cases f with
  | zero=>exact h
  | succ f =>
   unfold ztak at h
   dsimp only at h
   split at h
   ·rename_i hc
    simp only[C8] at hc
    exact h hc.1 hc.2
   ·exact h
 | _=>exact h
inductive Zq
 | p (k:Nat)
 | b (is:List Nat)
 | o (is:List Nat) (i:Nat)
 | e (is:List Nat) (i:Nat)
 | r (is:List Nat) (k:Nat)
instance (n:Nat):OfNat Zq n:=⟨.p n⟩
noncomputable def zq (P:Program) (q:Zq) (s:Zs):Zs:=match q with
 | .p k=>zr P k s
 | .b is=>zb P is s
 | .o is i=>zone i (zb P is s)
 | .e is i=>ztak i (zb P is s)
 | .r is k=>zr P k (zb P is s)
theorem Zn(q:Zq)(s:Zs)(h:Go P fn R (zq P q s) w):Go P fn R s w:=by
 cases q with
 | p k=>exact Ln k s h
 | b is=>exact Hw is s h
 | o is i=>exact Hw is s (Oj _ i h)
 | e is i=>exact Hw is s (Sy _ i h)
 | r is k=>exact Hw is s (Ln k _ h)
/-! ### the operation at hand -/
noncomputable def zop (s:Zs):Option Oper:=match s with
  | ⟨n, ks, c, kv⟩ => match c with
    | .ops all l=>match l with
      | o::_=>match Region.wanted o (zyl all n kv) with
        | true=>some o
        | false=>none
      | []=>none
    | .one _ all _ _ i=>match znth all i with
      | some o=>match Region.wanted o (zyl all n kv) with
        | true=>some o
        | false=>none
      | none=>none
    | .tak _ all _ _ i=>match znth all i with
      | some o=>match Region.wanted o (zyl all n kv) with
        | true=>some o
        | false=>none
      | none=>none
    | _=>none
noncomputable def znx (s:Zs) (v:Value):Zs:=match s with
 | ⟨n,ks,c,kv⟩=>match c with
  | .ops all l=>match l with
   | o::l=>⟨n,ks,.ops all l,Ot kv o.dst v⟩
   | []=>⟨n,ks,.ops all [],kv⟩
  | .one sf all f done i=>match znth all i with
   | some o=>⟨n,ks,.any sf all f (i::done),Ot kv o.dst v⟩
   | none=>⟨n,ks,.one sf all f done i,kv⟩
  | .tak sf all f done i=>match znth all i with
   | some o=>⟨n,ks,.any sf all f (i::done),Ot kv o.dst v⟩
   | none=>⟨n,ks,.tak sf all f done i,kv⟩
  | c=>⟨n,ks,c,kv⟩
def Am(s:Zs)(w W:World):Prop:=match s.c with
 | .one sf _ _ _ _=>sf.rel w W
 | .tak sf _ _ _ _=>sf.rel w W
 | _=>True
def Bc(s:Zs):Bool:=match s.c with
 | .tak _ _ _ _ _=>false
 | _=>true
theorem Qr(s:Zs){W:World}(h:Bl w W):Am s w W:=by
 unfold Am
 split
 ·exact SF.of_below _ h
 ·exact SF.of_below _ h
 ·trivial
theorem Ii{P:Program}{ops:Array Oper}{Q:Exit→Act→World→Prop}{S S':World→Prop}{md:Region.Mode}{fuel:Nat}{L:Array Bool}{a:Act}{w:World}(hi:∀ V,S' V→S V)(h:wpAnyH P md ops Q S' fuel L a w):wpAnyH P md ops Q S fuel L a w:=h_str S' hi h
theorem zgo{s:Zs}{o:Oper}(h:zop s=some o)(he:Bc s=true)(k:∀ (K:Act→World→Prop),(∀ v W,Am s w W→Go P fn R (znx s v) W→K ((zact s.n s.kv).put o.dst v) W)→o.wp P (zact s.n s.kv) w K (KQ P fn R s.ks)):Go P fn R s w:=by
 obtain⟨n,ks,c,kv⟩:=s
 cases c with
 | ops all l =>
  cases l with
  | nil=>cases h
  | cons o' l =>
   unfold zop at h
   dsimp only at h
   split at h
   ·rename_i hw
    obtain rfl:o'=o:=by simpa using h
    refine Gu (by rw[Cf];exact hw) (k _ fun v W _ hg=>?_)
    rw[Gr]
    exact hg
   ·cases h
 | one sf all f done i =>
  unfold zop at h
  dsimp only at h
  split at h
  ·rename_i o' ho
   split at h
   ·rename_i hw
    obtain rfl:o'=o:=by simpa using h
    intro hs
    have a0:all.toArray[i]? = some o':=by rw[F8,←Uf];exact ho
    unfold wpOp
    simp only[a0,Cf,hw,if_true]
    refine .inl (k _ fun v W hr hg=>⟨hr,?_⟩)
    have a1:Go P fn R ⟨n,ks,.any sf all f (i::done),Ot kv o'.dst v⟩ W:=by
     have e:znx ⟨n,ks,.one sf all f done i,kv⟩ v=⟨n,ks,.any sf all f (i::done),Ot kv o'.dst v⟩:=by simp only[znx,ho]
     rw[←e];exact hg
    have:=a1 hs
    rw[←Gr] at this
    exact Ii (fun V hV=>sf.trans hr hV) this
   ·cases h
  ·cases h
 | tak sf all f done i=>cases he
 | any sf all f done=>cases h
 | code c=>cases h
 | ex e=>cases h
theorem Ff{s:Zs}{o:Oper}{v:Value}(h:zop s=some o)(hv:∀ V,(V=w∨Bc s=false∧Am s w V)→(execOp (zact s.n s.kv).eval o).run P V=.ok (.value v) V)(k:Go P fn R (znx s v) w):Go P fn R s w:=by
 by_cases he:Bc s=true
 ·exact zgo h he fun K hK=>Vr (hv w (.inl rfl)) (hK _ _ (Qr _ (Below.refl _ _)) k)
 ·obtain⟨n,ks,c,kv⟩:=s
  cases c with
  | tak sf all f done i =>
   unfold zop at h
   dsimp only at h
   split at h
   ·rename_i o' ho
    split at h
    ·rename_i hw
     obtain rfl:o'=o:=by simpa using h
     intro h1 h2 hs
     have a0:all.toArray[i]? = some o':=by rw[F8,←Uf];exact ho
     have a1:Go P fn R ⟨n,ks,.any sf all f (i::done),Ot kv o'.dst v⟩ w:=by
      have e:znx ⟨n,ks,.tak sf all f done i,kv⟩ v=⟨n,ks,.any sf all f (i::done),Ot kv o'.dst v⟩:=by simp only[znx,ho]
      rw[←e];exact k
     have:=a1 hs
     rw[←Gr,←So] at this
     exact wpAnyH_take a0 hs h1 (by rw[Kt];exact h2) (KQ_put P fn R ks _ _) (.inl ⟨by rw[Cf];exact hw,fun V hV=>hv V (.inr ⟨rfl,hV⟩)⟩) (sf.refl w) this
    ·cases h
   ·cases h
  | _=>exact absurd rfl he
end
/-! ### the rules -/
def Zbu:Nat→List Value→List (Nat×Value)
 | _,[]=>[]
 | i,v::r=>(i,v)::Zbu (i+1) r
theorem Sn:∀ (l:List Value) (i k:Nat),i≤k→zlk (Zbu i l) k=(l[k-i]?).getD undef
 | [],_,_,_=>rfl
 | v::r,i,k,h=>by
  rw[Zbu,Hy]
  by_cases e:i=k
  ·subst e;simp
  ·rw[if_neg e,Sn r (i+1) k M0,show k-i=(k-(i+1))+1 by omega,List.getElem?_cons_succ]
def zbody(fn:Func):Code:=match fn.body with
 | some c=>c
 | none=>.skip
theorem Zae(args:Array Value)(m:Nat):(⟨args++Array.replicate (m-args.size) undef,[]⟩:Act)=zact (args.size+(m-args.size)) (Zbu 0 args.toList):=by
 unfold zact
 congr 1
 apply Array.ext_getElem?
 intro i
 rw[Array.getElem?_append]
 conv=>rhs;rw[F8,B7]
 by_cases h:i<args.size+(m-args.size)
 ·rw[B5 h,C5,Sn _ _ _ (A6 _)]
  by_cases h2:i<args.size
  ·simp[h2]
  ·rw[if_neg h2,Array.getElem?_replicate,if_pos M0]
   simp[h2]
 ·have:(List.range (args.size+(m-args.size)))[i]? = none:=by simp;omega
  rw[this,if_neg M0,Array.getElem?_replicate,if_neg M0]
  rfl
def zsz (P:Program)(t:TypeId)(n:Nat):Bool:=match P.info? t with
 | some i=>Nat.beq i.size n
 | none=>false
theorem Rt{P:Program}{t:TypeId}{n:Nat}(h:zsz P t n=true):(P.info? t).map (·.size)=some n:=by
 unfold zsz at h
 split at h
 ·rename_i i hi
  rw[hi]
  simp[F7 h]
 ·cases h
def zrow(P:Program)(t:TypeId):Bool:=match P.underlying t with
 | some d=>d.isRow
 | none=>false
def Gl(w:World)(p:Addr)(cs:List Value):Prop:=∃ b off,p=⟨b,off,none⟩∧w.rangeAt b off cs
theorem Blk.rp{w:World}{b:Nat}{cs:List Value}{t:TypeId}(h:Blk w b cs t):Gl w ⟨b,0,none⟩ cs:=⟨b,0,rfl,h.whole⟩
theorem Blk.rpp{w:World}{b:Nat}{cs:List Value}{t:TypeId}(h:Blk w b cs t)(off n:Nat)(hn:off+n≤cs.length:=by first|decide|simp):Gl w ⟨b,off,none⟩ ((cs.drop off).take n):=⟨b,off,rfl,h.part off n hn⟩
theorem Sts.rp{α:Type}{f:α→List Value}{m:Nat}{w:World}{b:O0}{c k:Nat}{l:List α}(h:Sts f w (.slice b l.length c) l)(hm:∀ x,(f x).length=m)(dflt:α)(hk:k<l.length)(hm0:0<m):Gl w (Zr b (k*m)) (f (l.getD k dflt)):=by
 obtain⟨g,og,rfl⟩:=h.at hm hm0 M0
 refine⟨g,og+k*m,by simp[Zr,Addr.add_mid],fun j v hj=>?_⟩
 have:=(h.cell hm dflt hk hj).2
 simpa [Zr,Addr.add_mid] using this
theorem Gl.below{w V:World}{p:Addr}{cs:List Value}(h:Gl w p cs)(hb:Bl w V):Gl V p cs:=by
 obtain⟨b,a0,e,h⟩:=h
 exact⟨b,a0,e,fun j v hj=>getC hb (h j v hj)⟩
noncomputable section
variable (P:Program) (s:Zs)
def Uh:Bool:=match s.c with
 | .tak sf _ _ _ _=>match sf with
  | .z=>true
  | .t _ _=>false
  | .f _ _=>false
 | .any _ _ _ _=>false
 | _=>true
def Vn:Bool:=match s.c with
 | .ops _ _=>true
 | _=>false
def zsf:Option SF:=match s.c with
 | .one sf _ _ _ _=>some sf
 | _=>none
def ztsf:Option SF:=match s.c with
 | .tak sf _ _ _ _=>some sf
 | _=>none
def zld:O0:=match zop s with
 | some o=>match o.op with
  | .load t x=>match aggB P t with
   | some b=>Bool.rec (motive:=fun _=>O0) (match zev s.n s.kv x with
    | .pointer (some p)=>some p
    | _=>none) none b
   | none=>none
  | _=>none
 | none=>none
def zldv(n:Nat):O0:=match zop s with
 | some o=>match o.op with
  | .load t x=>match zrow P t&&zsz P t n with
   | true=>match zev s.n s.kv x with
    | .pointer (some p)=>some p
    | _=>none
   | false=>none
  | _=>none
 | none=>none
def zldb(n:Nat):Option (Nat×Nat):=match zld P s with
 | some ⟨b,off,sp⟩=>match sp with
  | none=>Bool.rec (motive:=fun _=>Option (Nat×Nat)) none (some (b,off)) (Nat.blt off n)
  | some _=>none
 | none=>none
def zst:Option (Addr×Value):=match zop s with
 | some o=>match o.op with
  | .store t x y=>match zsz P t 1 with
   | true=>match zev s.n s.kv x with
    | .pointer (some p)=>match (zev s.n s.kv y).oneCell' with
     | true=>some (p,zev s.n s.kv y)
     | false=>none
    | _=>none
   | false=>none
  | _=>none
 | none=>none
def zstc(cs:List Value):Option (Nat×List Value):=match zst P s with
 | some (⟨b,off,sp⟩,v)=>match sp with
  | none=>Bool.rec (motive:=fun _=>Option (Nat×List Value)) none (some (b,cs.set off v)) (Nat.blt off cs.length)
  | some _=>none
 | none=>none
def zstv:Option (Addr×List Value):=match zop s with
 | some o=>match o.op with
  | .store t x y=>match zev s.n s.kv y with
   | .agg vs=>match zsz P t vs.size with
    | true=>match zev s.n s.kv x with
     | .pointer (some p)=>some (p,vs.toList)
     | _=>none
    | false=>none
   | _=>none
  | _=>none
 | none=>none
def zstvc(cs:List Value):Option (Nat×List Value):=match zstv P s with
 | some (⟨b,off,sp⟩,vs)=>match sp with
  | none=>match vs.all (·.oneCell')&&Nat.ble (off+vs.length) cs.length with
   | true=>some (b,cs.take off++vs++cs.drop (off+vs.length))
   | false=>none
  | some _=>none
 | none=>none
def zal:Option (TypeId×List Value):=match zop s with
 | some o=>match o.op with
  | .alloc t=>match Zcu P t with
   | some cs=>some (t,cs)
   | none=>none
  | .box t x=>some (t,(zev s.n s.kv x).cells.toList)
  | _=>none
 | none=>none
def zbs:Option (Nat×TypeId×List Value):=match zop s with
 | some o=>match o.op with
  | .buildSlice t n parts=>match built P t n (parts.toList.map fun p=>(p.1,zev s.n s.kv p.2)) with
   | some (e,cs)=>some (n,e,cs)
   | none=>none
  | _=>none
 | none=>none
def zb0:Option TypeId:=match zop s with
 | some o=>match o.op with
  | .buildSlice t m parts=>match P.underlying t with
   | some (.slice e)=>match Nat.beq m 0&&parts.toList.isEmpty&&(P.info? e).isSome with
    | true=>some e
    | false=>none
   | _=>none
  | _=>none
 | none=>none
def zcl:Option (FuncId×List Value):=match zop s with
 | some o=>match o.op with
  | .call c=>match c.callee with
   | .value x=>match zev s.n s.kv x with
    | .func (.func f) fi lb=>match fi.toList with
     | []=>some (f,c.args.toList.map (zev s.n s.kv)++lb.toList)
     | _=>none
    | _=>none
   | _=>none
  | _=>none
 | none=>none
def zpv:Option Value:=match zop s with
 | some o=>match Ke P (execOp (zev s.n s.kv) o) with
  | some (.value v)=>some v
  | _=>none
 | none=>none
def zix:Option (O0×Nat×Int×Nat):=match zop s with
 | some o=>match o.op with
  | .indexAddr t x y=>match P.underlying t with
   | some (.slice e)=>match P.info? e with
    | some i=>match zev s.n s.kv x with
     | .slice a n _=>match zev s.n s.kv y with
      | .int _ j=>some (a,n,j,i.size)
      | _=>none
     | _=>none
    | none=>none
   | _=>none
  | _=>none
 | none=>none
def zcd:Option Value:=match s.c with
 | .code c=>match c with
  | .cond x _ _=>some (zev s.n s.kv x)
  | _=>none
 | _=>none
def zth (t:Bool):Zs:=match s with
 | ⟨n,ks,c,kv⟩=>match c with
  | .code c=>match c with
   | .cond x a b=>⟨n,ks,.code (Bool.rec (motive:=fun _=>Code) b a t),kv⟩
   | c=>⟨n,ks,.code c,kv⟩
  | c=>⟨n,ks,c,kv⟩
def zset(is:List Nat)(t:Bool):Zs:=match s with
 | ⟨n,ks,c,kv⟩=>⟨n,ks,c,is.map (fun i=>(i,Value.bool t))++kv⟩
def zrl (n:Nat)(kv:List (Nat×Value))(l:List ResultVar):Option (List Value):=List.rec (motive:=fun _=>Option (List Value)) (some []) (fun r _ ih=>match r with
 | .tmp t=>match ih with
  | some vs=>some (zget n kv t::vs)
  | none=>none
 | .cell _ _=>none) l
def zvs (vs:List Value):Value:=match vs with
 | [v]=>v
 | vs=>.tuple vs.toArray
def zfin:Bool:=match s.ks with
 | []=>match s.c with
  | .ex e=>match e with
   | .normal=>true
   | .ret=>true
   | _=>false
  | _=>false
 | _=>false
def zres(fn:Func):Option Value:=match zfin s with
 | true=>match zrl s.n s.kv fn.results.toList with
  | some vs=>some (zvs vs)
  | none=>none
 | false=>none
def zrlc(n:Nat)(kv:List (Nat×Value))(cs:List Value)(l:List ResultVar):Option (Option Nat×List Value):=List.rec (motive:=fun _=>Option (Option Nat×List Value)) (some (none,[])) (fun r _ ih=>match r with
 | .tmp t=>match ih with
  | some (o,vs)=>some (o,zget n kv t::vs)
  | none=>none
 | .cell k t=>match zget n kv k with
  | .pointer (some ⟨b,off,sp⟩)=>match sp with
   | none=>match Nat.beq off 0&&(zrow P t&&zsz P t cs.length) with
    | true=>match ih with
     | some (o,vs)=>match o with
      | none=>some (some b,.agg cs.toArray::vs)
      | some _=>none
     | none=>none
    | false=>none
   | some _=>none
  | _=>none) l
def zresc(fn:Func)(cs:List Value):Option (Nat×Value):=match zfin s with
 | true=>match zrlc P s.n s.kv cs fn.results.toList with
  | some (o,vs)=>match o with
   | some b=>some (b,zvs vs)
   | none=>none
  | none=>none
 | false=>none
def zisl:Bool:=match s.c with
 | .code c=>match c with
  | .loop _=>true
  | _=>false
 | _=>false
def zlp (n:Nat)(J:Act→World→Prop)(kv:List (Nat×Value)):Zs:=match s with
 | ⟨_,ks,c,_⟩=>match c with
  | .code c=>match c with
   | .loop b=>⟨n,.jn J::ks,.code b,kv⟩
   | _=>⟨n,ks,.code c,kv⟩
  | c=>⟨n,ks,c,kv⟩
def zend:Option (Act→World→Prop):=match s.c with
 | .ex e=>match e with
  | .normal=>match s.ks with
   | .jn J::_=>some J
   | _=>none
  | _=>none
 | _=>none
def zun (m:Nat):Zs:=match s with
 | ⟨n,ks,c,kv⟩=>match c with
  | .code c=>match c with
   | .loop b=>⟨n,.rnd b m::ks,.code b,kv⟩
   | c=>⟨n,ks,.code c,kv⟩
  | c=>⟨n,ks,c,kv⟩
def zdr (sf:SF):Zs:=match s with
 | ⟨n,ks,c,kv⟩=>match c with
  | .code c=>match c with
   | .region _ ops _=>⟨n,ks,.any sf ops.toList ops.toList.length [],kv⟩
   | c=>⟨n,ks,.code c,kv⟩
  | c=>⟨n,ks,c,kv⟩
def zisd:Bool:=match s.c with
 | .code c=>match c with
  | .region _ ops d=>d&&Region.noSelect ops.toList.toArray
  | _=>false
 | _=>false
end
section
variable {P:Program} {fn:Func} {R:Ending→World→Prop} {w:World} {s:Zs}
theorem zin{f:FuncId}{args:Array Value}(n:Nat)(hf:P.funcs[f]? = some fn)(h:Go P fn R ⟨n,[],.code (zbody fn),Zbu 0 args.toList⟩ w)(hb:fn.body.isSome=true:=by kernel_rfl)(hn:args.size+(fn.ntmps-args.size)=n:=by kernel_rfl):Calls P f args w R:=by
 obtain⟨c,hc⟩:=Option.isSome_iff_exists.1 hb
 refine calls_of_wp hf hc ?_
 rw[Zae,hn]
 have e:zbody fn=c:=by unfold zbody;rw[hc]
 rw[←e]
 exact h
theorem Xz{α:Type}{F:Oper→Option α}{a:α}(h:(match zop s with|some o=>F o|none=>none)=some a):∃ o,zop s=some o∧F o=some a:=by
 split at h
 ·exact⟨_,by assumption,h⟩
 ·cases h
theorem Vl{V:World}(h:Uh s=true)(hv:V=w∨Bc s=false∧Am s w V):Bl w V:=by
 rcases hv with rfl|⟨he,hr⟩
 ·exact Below.refl _ _
 ·obtain⟨n,ks,c,kv⟩:=s
  cases c with
  | tak sf all f done i =>
   cases sf with
   | z=>exact hr
   | t B T=>cases h
   | f B S=>cases h
  | _=>cases he
theorem Rj{V:World}{sf:SF}(h:ztsf s=some sf)(hv:V=w∨Bc s=false∧Am s w V):sf.rel w V:=by
 rcases hv with rfl|⟨he,hr⟩
 ·exact SF.refl _ _
 ·obtain⟨n,ks,c,kv⟩:=s
  cases c with
  | tak sf' all f done i =>
   obtain rfl:sf'=sf:=by simpa [ztsf] using h
   exact hr
  | _=>cases h
theorem Zb5{p:Addr}(h:zld P s=some p):∃ o,zop s=some o∧∀ V v,V.cell? p=some v→(execOp (zact s.n s.kv).eval o).run P V=.ok (.value v) V:=by
 obtain⟨o,ho,h⟩:=Xz h
 refine⟨o,ho,fun V v hv=>?_⟩
 split at h
 ·rename_i t x a0
  split at h
  ·rename_i b hb
   cases b with
   | true=>cases h
   | false =>
    dsimp only at h
    split at h
    ·rename_i p' hp
     simp only[At] at h
     subst h
     simp only[execOp,a0,Zj,hp,B8,Bu hb hv]
     rfl
    ·cases h
  ·cases h
 ·cases h
theorem xl(q:Zq){p:Addr}{v:Value}(hc:w.cell? p=some v)(k:Go P fn R (znx (zq P q s) v) w)(h:zld P (zq P q s)=some p:=by kernel_rfl)(hz:Uh (zq P q s)=true:=by kernel_rfl):Go P fn R s w:=by
 obtain⟨o,ho,hr⟩:=Zb5 h
 exact Zn q s (Ff ho (fun V hV=>hr V v (getC (Vl hz hV) hc)) k)
theorem xlt(q:Zq){p:Addr}{v:Value}(sf:SF)(hc:∀ V,sf.rel w V→V.cell? p=some v)(k:Go P fn R (znx (zq P q s) v) w)(h:zld P (zq P q s)=some p:=by kernel_rfl)(hz:ztsf (zq P q s)=some sf:=by kernel_rfl):Go P fn R s w:=by
 obtain⟨o,ho,hr⟩:=Zb5 h
 exact Zn q s (Ff ho (fun V hV=>hr V v (hc V (Rj hz hV))) k)
theorem pk_get(cs:List Value)(i:Nat)(h:i<cs.length):cs[i]? = some (pk cs i):=by
 induction cs generalizing i with
 | nil=>simp at h
 | cons x r ih =>
  cases i with
  | zero=>rfl
  | succ j=>exact ih j (by simpa using h)
theorem Ws{b i:Nat}{cs:List Value}{t:TypeId}{V:World}(h:zldb P s cs.length=some (b,i))(kb:Blk V b cs t):zld P s=some ⟨b,i,none⟩∧V.cell? ⟨b,i,none⟩=some (pk cs i):=by
 unfold zldb at h
 split at h
 ·rename_i b' a0 sp hp
  cases sp with
  | some _=>cases h
  | none =>
   dsimp only at h
   rw[Lw] at h
   by_cases ho:a0<cs.length
   ·simp only[ho,decide_true,At,C2] at h
    obtain⟨rfl,rfl⟩:=h
    exact⟨hp,kb.cell (pk_get cs _ ho)⟩
   ·simp[ho] at h
 ·cases h
theorem xb(q:Zq)(i:Nat){b:Nat}{cs:List Value}{t:TypeId}(kb:Blk w b cs t)(k:Go P fn R (znx (zq P q s) (pk cs i)) w)(h:zldb P (zq P q s) cs.length=some (b,i):=by kernel_rfl)(hz:Uh (zq P q s)=true:=by kernel_rfl):Go P fn R s w:=by
 obtain⟨hp,hc⟩:=Ws h kb
 exact xl q hc k hp hz
theorem xbt(q:Zq)(i:Nat){b:Nat}{cs:List Value}{t:TypeId}(B:Nat)(T:List TypeId)(kb:Blk w b cs t)(k:Go P fn R (znx (zq P q s) (pk cs i)) w)(h:zldb P (zq P q s) cs.length=some (b,i):=by kernel_rfl)(hz:ztsf (zq P q s)=some (.t B T):=by kernel_rfl)(hT:T.contains t=false:=by decide):Go P fn R s w:=by
 obtain⟨hp,_⟩:=Ws h kb
 exact xlt q (.t B T) (fun V hV=>(Ws h (kb.only hV.2 hT)).2) k hp hz
theorem Rg{p:Addr}{n:Nat}(h:zldv P s n=some p):∃ o,zop s=some o∧∀ V cs,cs.length=n→Gl V p cs→(execOp (zact s.n s.kv).eval o).run P V=.ok (.value (.agg cs.toArray)) V:=by
 obtain⟨o,ho,h⟩:=Xz h
 refine⟨o,ho,fun V cs hn hv=>?_⟩
 subst hn
 split at h
 ·rename_i t x a1
  split at h
  ·rename_i hb
   simp only[C8] at hb
   split at h
   ·rename_i p' hp
    simp only[At] at h
    subst h
    obtain⟨b,a0,rfl,hv⟩:=hv
    have hu:=hb.1
    unfold zrow at hu
    split at hu
    ·rename_i d hd
     simp only[execOp,a1,Zj,hp,Instr.loadAt,Instr.sureAddr,B8,F0,C4,run_loadVar_mid V b a0 t cs d hv hd hu (Rt hb.2)]
    ·cases hu
   ·cases h
  ·cases h
 ·cases h
theorem xlv(q:Zq){p:Addr}{cs:List Value}(hc:Gl w p cs)(k:Go P fn R (znx (zq P q s) (.agg cs.toArray)) w)(h:zldv P (zq P q s) cs.length=some p:=by kernel_rfl)(hz:Uh (zq P q s)=true:=by kernel_rfl):Go P fn R s w:=by
 obtain⟨o,ho,hr⟩:=Rg h
 exact Zn q s (Ff ho (fun V hV=>hr V cs rfl (hc.below (Vl hz hV))) k)
theorem xlvt(q:Zq){p:Addr}{cs:List Value}(sf:SF)(hc:∀ V,sf.rel w V→Gl V p cs)(k:Go P fn R (znx (zq P q s) (.agg cs.toArray)) w)(h:zldv P (zq P q s) cs.length=some p:=by kernel_rfl)(hz:ztsf (zq P q s)=some sf:=by kernel_rfl):Go P fn R s w:=by
 obtain⟨o,ho,hr⟩:=Rg h
 exact Zn q s (Ff ho (fun V hV=>hr V cs rfl (hc V (Rj hz hV))) k)
theorem Yj{s:Zs}{w W:World}(h:Vn s=true):Am s w W:=by
 obtain⟨n,ks,c,kv⟩:=s
 cases c<;>first|trivial|cases h
theorem Yi{s:Zs}(h:Vn s=true):Bc s=true:=by
 obtain⟨n,ks,c,kv⟩:=s
 cases c<;>first|rfl|cases h
theorem Dl{s:Zs}{sf:SF}{w W:World}(h:zsf s=some sf)(hr:sf.rel w W):Am s w W:=by
 obtain⟨n,ks,c,kv⟩:=s
 cases c with
 | one sf' _ _ _ _ =>
  obtain rfl:sf'=sf:=by simpa [zsf] using h
  exact hr
 | _=>cases h
theorem Em{s:Zs}{sf:SF}(h:zsf s=some sf):Bc s=true:=by
 obtain⟨n,ks,c,kv⟩:=s
 cases c<;>first|rfl|cases h
theorem zst_op{b off:Nat}{v:Value}{cs:List Value}{t:TypeId}(h:zst P s=some (⟨b,off,none⟩,v))(kb:Blk w b cs t)(hoff:off<cs.length)(he:Bc s=true)(k:∀ W,Upd w b W→Blk W b (cs.set off v) t→Am s w W∧Go P fn R (znx s undef) W):Go P fn R s w:=by
 obtain⟨o,ho,h⟩:=Xz h
 refine zgo ho he fun K hK=>?_
 split at h
 ·rename_i t x y a0
  split at h
  ·rename_i hs
   split at h
   ·rename_i p hp
    split at h
    ·rename_i h1
     simp only[At,C2] at h
     obtain⟨rfl,rfl⟩:=h
     exact Jp a0 (by rw[Zj];exact hp) (by rw[Zj]) (Rt hs) h1 kb hoff fun W u kW=>hK _ _ (k W u kW).1 (k W u kW).2
    ·cases h
   ·cases h
  ·cases h
 ·cases h
theorem Zas{b:Nat}{cs cs':List Value}{t:TypeId}(h:zstc P s cs=some (b,cs'))(kb:Blk w b cs t)(he:Bc s=true)(k:∀ W,Upd w b W→Blk W b cs' t→Am s w W∧Go P fn R (znx s undef) W):Go P fn R s w:=by
 unfold zstc at h
 split at h
 ·rename_i b' a0 sp v hp
  cases sp with
  | some _=>cases h
  | none =>
   dsimp only at h
   rw[Lw] at h
   by_cases ho:a0<cs.length
   ·simp only[ho,decide_true,At,C2] at h
    obtain⟨rfl,rfl⟩:=h
    exact zst_op hp kb ho he k
   ·simp[ho] at h
 ·cases h
theorem xs(q:Zq){b:Nat}{cs:List Value}{t:TypeId}(kb:Blk w b cs t)(cs':List Value)(k:∀ W,Upd w b W→Blk W b cs' t→Go P fn R (znx (zq P q s) undef) W)(h:zstc P (zq P q s) cs=some (b,cs'):=by kernel_rfl)(hz:Vn (zq P q s)=true:=by kernel_rfl):Go P fn R s w :=
 Zn q s (Zas h kb (Yi hz) fun W u kW=>⟨Yj hz,k W u kW⟩)
theorem ys(q:Zq){b:Nat}{cs:List Value}{t:TypeId}(kb:Blk w b cs t)(cs':List Value)(sf:SF)(k:∀ W,Upd w b W→Blk W b cs' t→sf.rel w W∧Go P fn R (znx (zq P q s) undef) W)(h:zstc P (zq P q s) cs=some (b,cs'):=by kernel_rfl)(hz:zsf (zq P q s)=some sf:=by kernel_rfl):Go P fn R s w :=
 Zn q s (Zas h kb (Em hz) fun W u kW=>⟨Dl hz (k W u kW).1,(k W u kW).2⟩)
theorem xsg(q:Zq){b:Nat}{cs:List Value}{t:TypeId}(kb:Blk w b cs t)(off:Nat)(v:Value)(hoff:off<cs.length)(k:∀ W,Upd w b W→Blk W b (cs.set off v) t→Go P fn R (znx (zq P q s) undef) W)(h:zst P (zq P q s)=some (⟨b,off,none⟩,v):=by kernel_rfl)(hz:Vn (zq P q s)=true:=by kernel_rfl):Go P fn R s w :=
 Zn q s (zst_op h kb hoff (Yi hz) fun W u kW=>⟨Yj hz,k W u kW⟩)
theorem Zcj{b off:Nat}{vs cs:List Value}{t:TypeId}(h:zstv P s=some (⟨b,off,none⟩,vs))(h1:∀ v∈vs,v.oneCell'=true)(kb:Blk w b cs t)(hoff:off+vs.length≤cs.length)(he:Bc s=true)(k:∀ W,Upd w b W→Blk W b (cs.take off++vs++cs.drop (off+vs.length)) t→Am s w W∧Go P fn R (znx s undef) W):Go P fn R s w:=by
 obtain⟨o,ho,h⟩:=Xz h
 refine zgo ho he fun K hK=>?_
 split at h
 ·rename_i t x y a0
  split at h
  ·rename_i a1 hv
   split at h
   ·rename_i hs
    split at h
    ·rename_i p hp
     simp only[At,C2] at h
     obtain⟨rfl,rfl⟩:=h
     exact Be _ a0 (by rw[Zj];exact hp) (by rw[Zj];exact hv) (by rw[Rt hs];simp) h1 kb hoff fun W u kW=>hK _ _ (k W u kW).1 (k W u kW).2
    ·cases h
   ·cases h
  ·cases h
 ·cases h
theorem zstvc_op{b:Nat}{cs cs':List Value}{t:TypeId}(h:zstvc P s cs=some (b,cs'))(kb:Blk w b cs t)(he:Bc s=true)(k:∀ W,Upd w b W→Blk W b cs' t→Am s w W∧Go P fn R (znx s undef) W):Go P fn R s w:=by
 unfold zstvc at h
 split at h
 ·rename_i b' a0 sp vs hp
  cases sp with
  | some _=>cases h
  | none =>
   dsimp only at h
   split at h
   ·rename_i hc
    simp only[C8,List.all_eq_true] at hc
    simp only[At,C2] at h
    obtain⟨rfl,rfl⟩:=h
    exact Zcj hp hc.1 kb (Nat.le_of_ble_eq_true hc.2) he k
   ·cases h
 ·cases h
theorem xsv(q:Zq){b:Nat}{cs:List Value}{t:TypeId}(kb:Blk w b cs t)(cs':List Value)(k:∀ W,Upd w b W→Blk W b cs' t→Go P fn R (znx (zq P q s) undef) W)(h:zstvc P (zq P q s) cs=some (b,cs'):=by kernel_rfl)(hz:Vn (zq P q s)=true:=by kernel_rfl):Go P fn R s w :=
 Zn q s (zstvc_op h kb (Yi hz) fun W u kW=>⟨Yj hz,k W u kW⟩)
theorem xsvg(q:Zq){b:Nat}{cs:List Value}{t:TypeId}(kb:Blk w b cs t)(off:Nat)(vs:List Value)(h1:∀ v∈vs,v.oneCell'=true)(hoff:off+vs.length≤cs.length)(k:∀ W,Upd w b W→Blk W b (cs.take off++vs++cs.drop (off+vs.length)) t→Go P fn R (znx (zq P q s) undef) W)(h:zstv P (zq P q s)=some (⟨b,off,none⟩,vs):=by kernel_rfl)(hz:Vn (zq P q s)=true:=by kernel_rfl):Go P fn R s w :=
 Zn q s (Zcj h h1 kb hoff (Yi hz) fun W u kW=>⟨Yj hz,k W u kW⟩)
theorem xa(q:Zq)(cs:List Value)(t:TypeId)(k:∀ b W,New w b cs t W→Go P fn R (znx (zq P q s) (P0 b)) W)(h:zal P (zq P q s)=some (t,cs):=by kernel_rfl)(hz:Bc (zq P q s)=true:=by kernel_rfl):Go P fn R s w:=by
 obtain⟨o,ho,h⟩:=Xz h
 refine Zn q s (zgo ho hz fun K hK=>?_)
 split at h
 ·rename_i t' a0
  split at h
  ·rename_i a1 hc
   simp only[At,C2] at h
   obtain⟨rfl,rfl⟩:=h
   exact Wj _ a0 hc fun b W n=>hK _ _ (Qr _ n.below) (k b W n)
  ·cases h
 ·rename_i t' x a0
  simp only[At,C2] at h
  obtain⟨rfl,rfl⟩:=h
  exact op_box _ a0 (by rw[Zj,If]) fun b W n=>hK _ _ (Qr _ n.below) (k b W n)
 ·cases h
theorem xbs(q:Zq)(m:Nat)(cs:List Value)(t:TypeId)(k:∀ b W,New w b cs t W→Go P fn R (znx (zq P q s) (.slice (S1 b) m m)) W)(h:zbs P (zq P q s)=some (m,t,cs):=by kernel_rfl)(hz:Bc (zq P q s)=true:=by kernel_rfl):Go P fn R s w:=by
 obtain⟨o,ho,h⟩:=Xz h
 refine Zn q s (zgo ho hz fun K hK=>?_)
 split at h
 ·rename_i t' m' a0 a1
  split at h
  ·rename_i e a2 hc
   simp only[At,C2] at h
   obtain⟨rfl,rfl,rfl⟩:=h
   exact Yb _ _ a1 (by rw[Zj];exact hc) fun b W n=>hK _ _ (Qr _ n.below) (k b W n)
  ·cases h
 ·cases h
theorem xb0(q:Zq)(e:TypeId)(k:∀ b W,New w b [] e W→Go P fn R (znx (zq P q s) (.slice (S1 b) 0 0)) W)(h:zb0 P (zq P q s)=some e:=by kernel_rfl)(hz:Bc (zq P q s)=true:=by kernel_rfl):Go P fn R s w:=by
 obtain⟨o,ho,h⟩:=Xz h
 refine Zn q s (zgo ho hz fun K hK=>?_)
 split at h
 ·rename_i t m a0 a1
  split at h
  ·rename_i e' hu
   split at h
   ·rename_i hc
    simp only[At] at h
    subst h
    simp only[C8,List.isEmpty_iff] at hc
    obtain⟨⟨h1,h2⟩,h3⟩:=hc
    obtain rfl:m=0:=F7 h1
    obtain rfl:a0=#[]:=by apply Array.ext';simpa using h2
    exact Nx a1 hu h3 fun b W n=>hK _ _ (Qr _ n.below) (k b W n)
   ·cases h
  ·cases h
 ·cases h
@[reducible] def zret (P:Program) (fn:Func) (R:Ending→World→Prop) (s:Zs) (e:Ending) (W:World):Prop:=match e with
 | .returned v=>Go P fn R (znx s v) W
 | _=>False
@[reducible] def zretd (P:Program) (fn:Func) (R:Ending→World→Prop) (s:Zs) (sf:SF) (w:World) (e:Ending) (W:World):Prop:=match e with
 | .returned v=>sf.rel w W∧Go P fn R (znx s v) W
 | _=>False
theorem Zb3{f:FuncId}{args:Array Value}{post:Ending→World→Prop}(h:zcl s=some (f,args.toList))(he:Bc s=true)(hf:∀ xs w,(callFunc f xs).run P w=.ok (.enter f xs) w)(hc:Calls P f args w post)(k:∀ e W,post e W→∃ v,e=.returned v∧Am s w W∧Go P fn R (znx s v) W):Go P fn R s w:=by
 obtain⟨o,ho,h⟩:=Xz h
 refine zgo ho he fun K hK=>?_
 split at h
 ·rename_i c a5
  split at h
  ·rename_i x a0
   split at h
   ·rename_i f' fi lb hx
    split at h
    ·rename_i a4
     simp only[At,C2] at h
     obtain⟨rfl,ha⟩:=h
     obtain⟨a1,a3,a6⟩:=c
     dsimp only at a0 ha
     subst a0
     have a2:fi=#[]:=by apply Array.ext';simpa using a4
     subst a2
     refine Vf (lb:=lb) f' args a5 (by rw[Zj];exact hx) hf ?_ (hc.mono fun e W hp=>?_)
     ·apply Array.ext'
      rw[←ha,Zj]
      simp
     ·obtain⟨v,rfl,hr,hg⟩:=k e W hp
      exact⟨v,rfl,hK _ _ hr hg⟩
    ·cases h
   ·cases h
  ·cases h
 ·cases h
theorem xc(q:Zq){f:FuncId}{args:Array Value}{post:Ending→World→Prop}(hc:Calls P f args w post)(k:∀ e W,post e W→zret P fn R (zq P q s) e W)(h:zcl (zq P q s)=some (f,args.toList):=by kernel_rfl)(hz:Vn (zq P q s)=true:=by kernel_rfl)(hf:∀ xs w,(callFunc f xs).run P w=.ok (.enter f xs) w:=by intro _ _;kernel_rfl):Go P fn R s w :=
 Zn q s (Zb3 h (Yi hz) hf hc fun e W hp=>by
  have:=k e W hp
  cases e with
  | returned v=>exact⟨v,rfl,Yj hz,this⟩
  | _=>exact this.elim)
theorem yc(q:Zq){f:FuncId}{args:Array Value}{post:Ending→World→Prop}(sf:SF)(hc:Calls P f args w post)(k:∀ e W,post e W→zretd P fn R (zq P q s) sf w e W)(h:zcl (zq P q s)=some (f,args.toList):=by kernel_rfl)(hz:zsf (zq P q s)=some sf:=by kernel_rfl)(hf:∀ xs w,(callFunc f xs).run P w=.ok (.enter f xs) w:=by intro _ _;kernel_rfl):Go P fn R s w :=
 Zn q s (Zb3 h (Em hz) hf hc fun e W hp=>by
  have:=k e W hp
  cases e with
  | returned v=>exact⟨v,rfl,Dl hz this.1,this.2⟩
  | _=>exact this.elim)
theorem xr(q:Zq){f:FuncId}{args:Array Value}{v:Value}(hc:Calls P f args w (Ret v w))(k:∀ W,Bl w W→Go P fn R (znx (zq P q s) v) W)(h:zcl (zq P q s)=some (f,args.toList):=by kernel_rfl)(hz:Bc (zq P q s)=true:=by kernel_rfl)(hf:∀ xs w,(callFunc f xs).run P w=.ok (.enter f xs) w:=by intro _ _;kernel_rfl):Go P fn R s w :=
 Zn q s (Zb3 h hz hf hc fun e W hp=>⟨v,hp.1,Qr _ hp.2,k W hp.2⟩)
theorem xq(q:Zq){v v':Value}(e:v'=v)(k:Go P fn R (znx (zq P q s) v) w)(h:zpv P (zq P q s)=some v':=by kernel_rfl):Go P fn R s w:=by
 obtain⟨o,ho,h⟩:=Xz h
 refine Zn q s (Ff ho (fun V _=>?_) k)
 split at h
 ·rename_i v2 hv
  simp only[At] at h
  subst h e
  rw[Zj]
  exact Qu hv V
 ·cases h
theorem xw(q:Zq)(n:Int)(k:Go P fn R (znx (zq P q s) (V0 n)) w)(h:zpv P (zq P q s)=some (V0 (IntKind.i64.wrap n)):=by kernel_rfl)(hb : -9223372036854775808≤n∧n≤9223372036854775807:=by omega):Go P fn R s w :=
 xq q (congrArg V0 (IntWalk.i64_in n hb)) k h
theorem xwm(q:Zq)(n m:Int)(k:Go P fn R (znx (zq P q s) (V0 m)) w)(h:zpv P (zq P q s)=some (V0 (IntKind.i64.wrap n)):=by kernel_rfl)(hb:(-9223372036854775808≤n∧n≤9223372036854775807)∧n=m:=by omega):Go P fn R s w :=
 xq q (congrArg V0 ((IntWalk.i64_in n hb.1).trans hb.2)) k h
theorem zcd_op{t:Bool}(h:zcd s=some (.bool t))(k:Go P fn R (zth s t) w):Go P fn R s w:=by
 obtain⟨n,ks,c,kv⟩:=s
 cases c with
 | code c =>
  cases c with
  | cond x a b =>
   have hx:zev n kv x=.bool t:=by simpa [zcd] using h
   refine wp_cond (t:=t) (by rw[Zj];exact hx) ?_
   cases t<;>exact k
  | _=>cases h
 | _=>cases h
theorem xi(q:Zq)(t:Bool)(ht:t=true→Go P fn R (zth (zq P q s) true) w)(hf:t=false→Go P fn R (zth (zq P q s) false) w)(h:zcd (zq P q s)=some (.bool t):=by kernel_rfl):Go P fn R s w:=by
 refine Zn q s (zcd_op h ?_)
 cases t
 ·exact hf rfl
 ·exact ht rfl
theorem xid(q:Zq)(p:Prop)[Decidable p](ht:p→Go P fn R (zth (zq P q s) true) w)(hf:¬p→Go P fn R (zth (zq P q s) false) w)(h:zcd (zq P q s)=some (.bool (decide p)):=by kernel_rfl):Go P fn R s w :=
 xi q _ (fun e=>ht (of_decide_eq_true e)) (fun e=>hf (of_decide_eq_false e)) h
theorem xie(q:Zq)(a b:Int)(ht:a=b→Go P fn R (zth (zq P q s) true) w)(hf:a≠b→Go P fn R (zth (zq P q s) false) w)(h:zcd (zq P q s)=some (.bool (a==b)):=by kernel_rfl):Go P fn R s w :=
 xi q _ (fun e=>ht (eq_of_beq e)) (fun e=>hf (Kz e)) h
theorem xin(q:Zq)(a b:Int)(ht:a≠b→Go P fn R (zth (zq P q s) true) w)(hf:a=b→Go P fn R (zth (zq P q s) false) w)(h:zcd (zq P q s)=some (.bool (a != b)):=by kernel_rfl):Go P fn R s w :=
 xi q _ (fun e=>ht (Zbs e)) (fun e=>hf (Nl e)) h
theorem xk(q:Zq){t u:Bool}(e:t=u)(k:Go P fn R (zth (zq P q s) u) w)(h:zcd (zq P q s)=some (.bool t):=by kernel_rfl):Go P fn R s w :=
 Zn q s (zcd_op h (e▸k))
theorem zlk_set(is:List Nat)(v:Value)(kv:List (Nat×Value))(h:is.map (zlk kv)=is.map fun _=>v)(k:Nat):zlk (is.map (fun i=>(i,v))++kv) k=zlk kv k:=by
 induction is with
 | nil=>rfl
 | cons i r ih =>
  simp only[E4,G4] at h
  rw[E4,F5,Hy]
  by_cases e:i=k
  ·subst e;rw[if_pos rfl];exact h.1.symm
  ·rw[if_neg e];exact ih h.2
theorem Zdn{is:List Nat}{t:Bool}(h:is.map (zlk s.kv)=is.map fun _=>Value.bool t)(k:Go P fn R (zset s is t) w):Go P fn R s w:=by
 obtain⟨n,ks,c,kv⟩:=s
 have e:zact n (is.map (fun i=>(i,Value.bool t))++kv)=zact n kv:=by
  unfold zact
  rw[show zlk (is.map (fun i=>(i,Value.bool t))++kv)=zlk kv from funext fun j=>zlk_set is _ kv h j]
 have k':Go P fn R ⟨n,ks,c,is.map (fun i=>(i,Value.bool t))++kv⟩ w:=k
 unfold Go at k' ⊢
 dsimp only at k' ⊢
 rw[e] at k'
 exact k'
theorem xg(q:Zq)(is:List Nat)(t:Bool)(ht:t=true→Go P fn R (zset (zq P q s) is true) w)(hf:t=false→Go P fn R (zset (zq P q s) is false) w)(h:is.map (zlk (zq P q s).kv)=is.map (fun _=>Value.bool t):=by kernel_rfl):Go P fn R s w:=by
 refine Zn q s (Zdn h ?_)
 cases t
 ·exact hf rfl
 ·exact ht rfl
theorem xgk(q:Zq)(is:List Nat){t u:Bool}(e:t=u)(k:Go P fn R (zset (zq P q s) is u) w)(h:is.map (zlk (zq P q s).kv)=is.map (fun _=>Value.bool t):=by kernel_rfl):Go P fn R s w :=
 Zn q s (Zdn h (e▸k))
noncomputable def zputs (i:Nat) (v:Value) (s:Zs):Zs:=match s with
 | ⟨n,ks,c,kv⟩=>⟨n,ks,c,(i,v)::kv⟩
theorem xv1(q:Zq)(i:Nat){v v':Value}(e:v'=v)(k:Go P fn R (zputs i v (zq P q s)) w)(h:zlk (zq P q s).kv i=v':=by kernel_rfl):Go P fn R s w:=by
 refine Zn q s ?_
 revert k h
 generalize zq P q s=s'
 intro k h
 obtain⟨n,ks,c,kv⟩:=s'
 have e2:zact n ((i,v)::kv)=zact n kv:=by
  unfold zact
  rw[show zlk ((i,v)::kv)=zlk kv from funext fun j=>by
   rw[Hy]
   by_cases hj:i=j
   ·subst hj;rw[if_pos rfl,←e];exact h.symm
   ·rw[if_neg hj]]
 have k':Go P fn R ⟨n,ks,c,(i,v)::kv⟩ w:=k
 unfold Go at k' ⊢
 dsimp only at k' ⊢
 rw[e2] at k'
 exact k'
def zrf (tmps:Array Value):ResultVar→Sem Value
 | .tmp t=>pure (tmps.getD t undef)
 | .cell a t=>do loadVar t (←asAddr (tmps.getD a undef))
theorem Tf(fn:Func)(tmps:Array Value):results fn tmps=(do let vs ←fn.results.mapM (zrf tmps);pure (if h:vs.size=1 then vs[0] else .tuple vs)):=by
 unfold results
 congr 1
theorem Zbn(n:Nat)(kv:List (Nat×Value))(P:Program)(w:World):∀ (l:List ResultVar) (vs:List Value),zrl n kv l=some vs→(l.mapM (zrf (zact n kv).tmps)).run P w=.ok vs w
 | [],vs,h=>by cases h;rfl
 | r::l,vs,h=>by
  cases r with
  | cell a t=>cases h
  | tmp t =>
   have h':(match zrl n kv l with|some vs=>some (zget n kv t::vs)|none=>none)=some vs:=h
   split at h'
   ·rename_i a0 hv
    simp only[At] at h'
    subst h'
    rw[List.mapM_cons]
    simp only[zrf,B8,F0,C4,Zbn n kv P w l a0 hv,Gi]
   ·cases h'
theorem Wz{tmps:Array Value}{vs:List Value}(h:(fn.results.toList.mapM (zrf tmps)).run P w=.ok vs w):(results fn tmps).run P w=.ok (zvs vs) w:=by
 rw[Tf]
 have e:fn.results.mapM (zrf tmps)=List.toArray <$> fn.results.toList.mapM (zrf tmps):=by
  rw[←List.mapM_toArray,If]
 rw[e]
 simp only[B8,map_eq_pure_bind,h,C4,F0]
 congr 1
 match vs with
 | []=>rfl
 | [v]=>rfl
 | v::u::r=>simp[zvs]
theorem Zdd{v:Value}(hf:zfin s=true)(hr:(results fn (zact s.n s.kv).tmps).run P w=.ok v w)(hR:R (.returned v) w):Go P fn R s w:=by
 obtain⟨n,ks,c,kv⟩:=s
 cases ks with
 | cons _ _=>cases hf
 | nil =>
  cases c with
  | ex e =>
   cases e with
   | normal=>exact g_end v rfl hr hR
   | ret=>exact g_ret v rfl hr hR
   | _=>cases hf
  | _=>cases hf
theorem xe(q:Zq)(v:Value)(hR:R (.returned v) w)(h:zres (zq P q s) fn=some v:=by kernel_rfl):Go P fn R s w:=by
 refine Zn q s ?_
 unfold zres at h
 split at h
 ·rename_i hf
  split at h
  ·rename_i vs hv
   simp only[At] at h
   subst h
   exact Zdd hf (Wz (Zbn _ _ _ _ _ _ hv)) hR
  ·cases h
 ·cases h
theorem Lf(n:Nat)(kv:List (Nat×Value))(w:World)(cs:List Value)(b:Nat)(t:TypeId)(kb:Blk w b cs t):∀ (l:List ResultVar) (o:Option Nat) (vs:List Value),zrlc P n kv cs l=some (o,vs)→(o=none∨o=some b)→(l.mapM (zrf (zact n kv).tmps)).run P w=.ok vs w
  | [],o,vs,h,_=>by cases h;rfl
  | r :: l, o, vs, h, ho => by
    rw[List.mapM_cons]
    cases r with
    | tmp t =>
      have h':(match zrlc P n kv cs l with|some (o,vs)=>some (o,zget n kv t::vs)|none=>none)=some (o,vs):=h
      split at h'
      · rename_i o' a1 hv
        simp only[At,C2] at h'
        obtain⟨rfl,rfl⟩:=h'
        simp only[zrf,B8,F0,C4,Lf n kv w cs b _ kb l _ a1 hv ho,Gi]
      · cases h'
    | cell k t' =>
      have h':(match zget n kv k with
        | .pointer (some ⟨b,a0,sp⟩)=>match sp with
          | none=>match Nat.beq a0 0&&(zrow P t'&&zsz P t' cs.length) with
            | true=>match zrlc P n kv cs l with
              | some (o,vs)=>match o with
                | none=>some (some b,.agg cs.toArray::vs)
                | some _=>none
              | none=>none
            | false=>none
          | some _=>none
        | _=>none)=some (o,vs):=h
      split at h'
      · rename_i b' a0 sp hb
        cases sp with
        | some _=>cases h'
        | none =>
          dsimp only at h'
          split at h'
          · rename_i hc
            simp only[C8] at hc
            split at h'
            · rename_i o' a1 hv
              split at h'
              · simp only[At,C2] at h'
                obtain⟨rfl,rfl⟩:=h'
                obtain rfl:b'=b:=by simpa using ho
                obtain rfl:a0=0:=F7 hc.1
                have hu:=hc.2.1
                unfold zrow at hu
                split at hu
                · rename_i d hd
                  have hl:=run_loadVar_mid (P:=P) w b' 0 t' cs d kb.whole hd hu (Rt hc.2.2)
                  have e:(zact n kv).tmps.getD k undef=P0 b':=by rw[Gi];exact hb
                  simp only[zrf,e,asAddr,B8,F0,C4,hl,Lf n kv w cs b' _ kb l none a1 hv (.inl rfl)]
                · cases hu
              · cases h'
            · cases h'
          · cases h'
      · cases h'
theorem xec(q:Zq){b:Nat}{cs:List Value}{t:TypeId}(kb:Blk w b cs t)(v:Value)(hR:R (.returned v) w)(h:zresc P (zq P q s) fn cs=some (b,v):=by kernel_rfl):Go P fn R s w:=by
 refine Zn q s ?_
 unfold zresc at h
 split at h
 ·rename_i hf
  split at h
  ·rename_i o vs hv
   split at h
   ·rename_i b'
    simp only[At,C2] at h
    obtain⟨rfl,rfl⟩:=h
    exact Zdd hf (Wz (Lf _ _ _ _ _ _ kb _ _ _ hv (.inr rfl))) hR
   ·cases h
  ·cases h
 ·cases h
theorem zlk_app(kv' kv:List (Nat×Value))(h:kv'.map (fun p=>zlk kv p.1)=kv'.map Prod.snd)(k:Nat):zlk (kv'++kv) k=zlk kv k:=by
 induction kv' with
 | nil=>rfl
 | cons p r ih =>
  obtain⟨d,v⟩:=p
  simp only[E4,G4] at h
  rw[F5,Hy]
  by_cases e:d=k
  ·subst e;rw[if_pos rfl];exact h.1.symm
  ·rw[if_neg e];exact ih h.2
theorem Rn(n:Nat)(kv' kv:List (Nat×Value))(h:kv'.map (fun p=>zlk kv p.1)=kv'.map Prod.snd):zact n (kv'++kv)=zact n kv:=by
 unfold zact
 rw[show zlk (kv'++kv)=zlk kv from funext fun j=>zlk_app kv' kv h j]
theorem zl(q:Zq)(n:Nat)(I:Nat→List (Nat×Value)→World→Prop){m0:Nat}{kv0:List (Nat×Value)}(h0:I m0 kv0 w)
 (round:∀ m kv V,I m kv V→∀ (J:Act→World→Prop),(∀ m' kv' V',I m' kv' V'→m'<m→∀ rest,J (zact n (kv'++rest)) V')→∀ rest,Go P fn R (zlp (zq P q s) n J (kv++rest)) V)
 (hn:(zq P q s).n=n:=by kernel_rfl) (hl:zisl (zq P q s)=true:=by kernel_rfl) (hk:kv0.map (fun p=>zlk (zq P q s).kv p.1)=kv0.map Prod.snd:=by kernel_rfl):Go P fn R s w:=by
 refine Zn q s ?_
 revert hn hl hk round
 generalize zq P q s=s'
 intro round hn hl hk
 obtain⟨n',ks,c,kv⟩:=s'
 obtain rfl:n'=n:=hn
 cases c with
 | code c =>
  cases c with
  | loop b =>
   refine wp_loop_ghost (fun m a V=>∃ kv' rest,a=zact n' (kv'++rest)∧I m kv' V) m0 ⟨kv0,kv,(Rn _ _ _ hk).symm,h0⟩ ?_
   rintro m _ V ⟨kv',rest,rfl,hI⟩
   exact round m kv' V hI _ (fun m' a1 V' a2 a3 a0=>⟨m',a3,a1,a0,rfl,a2⟩) rest
  | _=>cases hl
 | _=>cases hl
theorem ze(q:Zq){n:Nat}{J:Act→World→Prop}{kv':List (Nat×Value)}(hJ:∀ rest,J (zact n (kv'++rest)) w)(h:zend (zq P q s)=some J:=by kernel_rfl)(hn:(zq P q s).n=n:=by kernel_rfl)(hk:kv'.map (fun p=>zlk (zq P q s).kv p.1)=kv'.map Prod.snd:=by kernel_rfl):Go P fn R s w:=by
 refine Zn q s ?_
 revert h hn hk
 generalize zq P q s=s'
 intro h hn hk
 obtain⟨n',ks,c,kv⟩:=s'
 obtain rfl:n'=n:=hn
 have a0:=hJ kv
 rw[Rn _ _ _ hk] at a0
 cases c with
 | ex e =>
  cases e with
  | normal =>
   cases ks with
   | nil=>cases h
   | cons k ks =>
    cases k with
    | jn J' =>
     obtain rfl:J'=J:=by simpa [zend] using h
     exact a0
    | _=>cases h
  | _=>cases h
 | _=>cases h
theorem xu(q:Zq)(m:Nat)(k:Go P fn R (zun (zq P q s) m) w)(hl:zisl (zq P q s)=true:=by kernel_rfl):Go P fn R s w:=by
 refine Zn q s ?_
 revert k hl
 generalize zq P q s=s'
 intro k hl
 obtain⟨n',ks,c,kv⟩:=s'
 cases c with
 | code c =>
  cases c with
  | loop b=>exact wp_loop_rounds (m+1) k
  | _=>cases hl
 | _=>cases hl
theorem xd(q:Zq)(sf:SF)(k:Go P fn R (zdr (zq P q s) sf) w.drew)(hd:zisd (zq P q s)=true:=by kernel_rfl)(hm:P.follows .mixedOrders=true:=by kernel_rfl):Go P fn R s w:=by
 refine Zn q s ?_
 revert k hd
 generalize zq P q s=s'
 intro k hd
 obtain⟨n',ks,c,kv⟩:=s'
 cases c with
 | code c =>
  cases c with
  | region id ops d =>
   have a0:(d&&Region.noSelect ops.toList.toArray)=true:=hd
   simp only[C8] at a0
   obtain⟨rfl,hs⟩:=a0
   have k':wpAnyH P .any ops.toList.toArray (KQ P fn R ks) (sf.rel w.drew) ops.toList.length (zL ops.toList.length []) (zact n' kv) w.drew:=k hs
   rw[If,←zL_nil,I1] at k'
   exact wp_region_held_drew hm (SF.refl _ _) fun _=>k'
  | _=>cases hd
 | _=>cases hd
noncomputable def zoneOf (i:Nat) (s:Zs):Zs:=match s with
 | ⟨n,ks,c,kv⟩=>match c with
  | .any sf all f done=>match f with
   | f'+1=>⟨n,ks,.one sf all f' done i,kv⟩
   | 0=>⟨n,ks,c,kv⟩
  | c=>⟨n,ks,c,kv⟩
noncomputable def zrdy (s:Zs):Option (List Nat):=match s.c with
 | .any _ all f done=>match f with
  | _+1=>some (zready all done)
  | 0=>none
 | _=>none
theorem xm(q:Zq)(is:List Nat)(k:∀ i∈is,Go P fn R (zoneOf i (zq P q s)) w)(h:zrdy (zq P q s)=some is:=by kernel_rfl)(hn:is.isEmpty=false:=by kernel_rfl):Go P fn R s w:=by
 refine Zn q s ?_
 revert h k
 generalize zq P q s=s'
 intro k h
 obtain⟨n',ks,c,kv⟩:=s'
 cases c with
 | any sf all f done =>
  cases f with
  | zero=>cases h
  | succ f =>
   have hr:zready all done=is:=by simpa [zrdy] using h
   intro hs
   refine wpAnyH_all (rs:=is) (by rw[Kt];exact hr) (by rintro rfl;cases hn) fun j hj=>?_
   rw[So]
   exact k j hj hs
 | _=>cases h
theorem xm2(q:Zq)(i j:Nat)(hi:Go P fn R (zoneOf i (zq P q s)) w)(hj:Go P fn R (zoneOf j (zq P q s)) w)(h:zrdy (zq P q s)=some [i,j]:=by kernel_rfl):Go P fn R s w :=
 xm q [i,j] (fun k hk=>by rcases D4.1 hk with rfl|hk;exact hi;obtain rfl:=D8.1 hk;exact hj) h
theorem xm3(q:Zq)(i j m:Nat)(hi:Go P fn R (zoneOf i (zq P q s)) w)(hj:Go P fn R (zoneOf j (zq P q s)) w)(hm:Go P fn R (zoneOf m (zq P q s)) w)(h:zrdy (zq P q s)=some [i,j,m]:=by kernel_rfl):Go P fn R s w :=
 xm q [i,j,m] (fun k hk=>by rcases D4.1 hk with rfl|hk;exact hi;rcases D4.1 hk with rfl|hk;exact hj;obtain rfl:=D8.1 hk;exact hm) h
end
/-! ### what is shown of the world in a drawn region -/
theorem Xf{B:Nat}{T:List TypeId}{w W:World}{b:Nat}{cs:List Value}{t:TypeId}(u:Upd w b W)(k:Blk w b cs t)(hb:B≤b)(ht:T.contains t=true):(SF.t B T).rel w W :=
 ⟨u.below (Below.refl _ _) (N0 (I2 _ _) hb),Zd.of_upd u k ht⟩
theorem Zu{B:Nat}{T:List TypeId}{w W:World}{base size n:Nat}{e:TypeId}{v:Value}{xs:List Value}(hb:Below B w W)(hg:w.grownBy W v.ownBlock)(hown:w.ownsRow base e size v n xs)(ht:T.contains e=true):(SF.t B T).rel w W :=
 ⟨hb.mono (I2 _ _),Zd.of_grown hg hown ht⟩
theorem Zd.wide{T T':List TypeId}{w W:World}(h:Zd T w W)(hs:T.all (fun t=>T'.contains t)=true:=by decide):Zd T' w W:=fun i cs t fr hk ht=>h i cs t fr hk (by
 cases hc:T.contains t with
 | false=>rfl
 | true =>
  have:=List.all_eq_true.1 hs t (by simpa using hc)
  rw[ht] at this;cases this)
theorem Jr{B:Nat}{T T':List TypeId}{w W:World}(hb:Below B w W)(ho:Zd T w W)(hs:T.all (fun t=>T'.contains t)=true:=by decide):(SF.t B T').rel w W:=⟨hb.mono (I2 _ _),ho.wide hs⟩
theorem sft_keep{B:Nat}{T:List TypeId}{a w V:World}(h:Below B a w)(hV:(SF.t B T).rel w V)(hB:B≤a.heap.size):Below B a V:=by
 refine h.trans (hV.1.mono ?_)
 have:=h.size
 simp only[Nat.min_def];split<;>omega
theorem Upd.blkT{w W:World}{b b':Nat}{cs cs':List Value}{t t':TypeId}(u:Upd w b W)(k:Blk w b' cs' t')(kb:Blk w b cs t)(ht:t'≠t):Blk W b' cs' t':=u.blk k (by
 rintro rfl
 have h1:w.heap[b']? = some (.cells cs.toArray t (0,0)):=kb
 have h2:w.heap[b']? = some (.cells cs'.toArray t' (0,0)):=k
 rw[h1] at h2
 simp only[At,Obj.cells.injEq] at h2
 exact ht h2.2.1.symm)
theorem Blk.tne{w:World}{b b':Nat}{cs cs':List Value}{t t':TypeId}(k:Blk w b cs t)(k':Blk w b' cs' t')(ht:t≠t'):b≠b':=by
 rintro rfl
 have h1:w.heap[b]? = some (.cells cs.toArray t (0,0)):=k
 have h2:w.heap[b]? = some (.cells cs'.toArray t' (0,0)):=k'
 rw[h1] at h2
 simp only[At,Obj.cells.injEq] at h2
 exact ht h2.2.1
/-! ### operations by their kind,with laws that are told of any frame -/
inductive Zk
 | cv (src dst:TypeId) (u:Value)
 | bn (b:BinOp) (t t2:TypeId) (u v:Value)
 | ix (t:TypeId) (u v:Value)
 | sl (t:TypeId) (u:Value) (lo hi mx:Option Value)
 | bi (b:Builtin) (ts:List TypeId) (us:List Value)
 | mk (t:TypeId) (u v:Value)
 | st (t:TypeId) (u v:Value)
def oev (f:Operand→Value)(x:Option Operand):Option Value:=match x with
 | some x=>some (f x)
 | none=>none
noncomputable def zkf (n:Nat) (kv:List (Nat×Value)) (o:Oper):Option Zk:=match o.op with
 | .convert src dst x=>some (.cv src dst (zev n kv x))
 | .binOp b t x y t2=>some (.bn b t t2 (zev n kv x) (zev n kv y))
 | .indexAddr t x y=>some (.ix t (zev n kv x) (zev n kv y))
 | .slice t x lo hi mx=>some (.sl t (zev n kv x) (oev (zev n kv) lo) (oev (zev n kv) hi) (oev (zev n kv) mx))
 | .call c=>match c.callee with
  | .builtin b=>some (.bi b c.argTypes.toList (c.args.toList.map (zev n kv)))
  | _=>none
 | .makeSlice t x y=>some (.mk t (zev n kv x) (zev n kv y))
 | .store t x y=>some (.st t (zev n kv x) (zev n kv y))
 | _=>none
noncomputable def zk (s:Zs):Option Zk:=match zop s with
 | some o=>zkf s.n s.kv o
 | none=>none
def ZkOk(a:Act)(o:Oper):Zk→Prop
 | .cv src dst u=>∃ x,o.op=.convert src dst x∧a.eval x=u
 | .bn b t t2 u v=>∃ x y,o.op=.binOp b t x y t2∧a.eval x=u∧a.eval y=v
 | .ix t u v=>∃ x y,o.op=.indexAddr t x y∧a.eval x=u∧a.eval y=v
 | .sl t u lo hi mx=>∃ x l h m,o.op=.slice t x l h m∧a.eval x=u∧oev a.eval l=lo∧oev a.eval h=hi∧oev a.eval m=mx
 | .bi b ts us=>∃ xs:List Operand,o.op=.call { callee:=.builtin b,args:=xs.toArray,argTypes:=ts.toArray }∧xs.map a.eval=us
 | .mk t u v=>∃ x y,o.op=.makeSlice t x y∧a.eval x=u∧a.eval y=v
 | .st t u v=>∃ x y,o.op=.store t x y∧a.eval x=u∧a.eval y=v
theorem Gj{n:Nat}{kv:List (Nat×Value)}{o:Oper}{k:Zk}(h:zkf n kv o=some k):ZkOk (zact n kv) o k:=by
 unfold zkf at h
 split at h
 ·rename_i a0;cases h;exact⟨_,a0,by rw[Zj]⟩
 ·rename_i a0;cases h;exact⟨_,_,a0,by rw[Zj],by rw[Zj]⟩
 ·rename_i a0;cases h;exact⟨_,_,a0,by rw[Zj],by rw[Zj]⟩
 ·rename_i a0;cases h;exact⟨_,_,_,_,a0,by rw[Zj],by rw[Zj],by rw[Zj],by rw[Zj]⟩
 ·rename_i c a0
  split at h
  ·rename_i b hb
   cases h
   obtain⟨a2,a1,ts⟩:=c
   dsimp only at hb
   subst hb
   exact⟨a1.toList,a0,by rw[Zj]⟩
  ·cases h
 ·rename_i a0;cases h;exact⟨_,_,a0,by rw[Zj],by rw[Zj]⟩
 ·rename_i a0;cases h;exact⟨_,_,a0,by rw[Zj],by rw[Zj]⟩
 ·cases h
theorem Gp{f:Operand→Value}{x:Option Operand}{v:Value}(h:oev f x=some v):∃ y,x=some y∧f y=v:=by
 cases x with
 | none=>cases h
 | some y=>exact⟨y,rfl,by simpa [oev] using h⟩
theorem Wn{f:Operand→Value}{x:Option Operand}(h:oev f x=none):x=none:=by
 cases x with
 | none=>rfl
 | some y=>cases h
section
variable {P:Program} {fn:Func} {R:Ending→World→Prop} {w:World} {s:Zs}
theorem zk_val{k:Zk}{v:Value}(h:zk s=some k)(hz:Uh s=true)(hv:∀ a o,ZkOk a o k→∀ V,Bl w V→(execOp a.eval o).run P V=.ok (.value v) V)(g:Go P fn R (znx s v) w):Go P fn R s w:=by
 obtain⟨o,ho,h⟩:=Xz h
 exact Ff ho (fun V hV=>hv _ o (Gj h) V (Vl hz hV)) g
theorem Zar{k:Zk}(h:zk s=some k)(hz:Vn s=true)(hv:∀ a o K Q,ZkOk a o k→(∀ v W,Go P fn R (znx s v) W→K (a.put o.dst v) W)→o.wp P a w K Q):Go P fn R s w:=by
 obtain⟨o,ho,h⟩:=Xz h
 exact zgo ho (Yi hz) fun K hK=>hv _ o K _ (Gj h) fun v W g=>hK v W (Yj hz) g
theorem Zdm{k:Zk}{sf:SF}(h:zk s=some k)(hz:zsf s=some sf)(hv:∀ a o K Q,ZkOk a o k→(∀ v W,sf.rel w W→Go P fn R (znx s v) W→K (a.put o.dst v) W)→o.wp P a w K Q):Go P fn R s w:=by
 obtain⟨o,ho,h⟩:=Xz h
 exact zgo ho (Em hz) fun K hK=>hv _ o K _ (Gj h) fun v W hr g=>hK v W (Dl hz hr) g
theorem xbo(q:Zq){b:BinOp}{t t2:TypeId}{u1 u2 v:Value}(hv:∀ (a:Act) (o:Oper) (x y:Operand),o.op=.binOp b t x y t2→a.eval x=u1→a.eval y=u2→∀ V,Bl w V→(execOp a.eval o).run P V=.ok (.value v) V)(g:Go P fn R (znx (zq P q s) v) w)(h:zk (zq P q s)=some (.bn b t t2 u1 u2):=by kernel_rfl)(hz:Uh (zq P q s)=true:=by kernel_rfl):Go P fn R s w :=
 Zn q s (zk_val h hz (fun a o ⟨x,y,h1,h2,h3⟩ V hV=>hv a o x y h1 h2 h3 V hV) g)
theorem zk_val0{k:Zk}{v:Value}(h:zk s=some k)(hz:Bc s=true)(hv:∀ a o,ZkOk a o k→(execOp a.eval o).run P w=.ok (.value v) w)(g:Go P fn R (znx s v) w):Go P fn R s w:=by
 obtain⟨o,ho,h⟩:=Xz h
 exact Ff ho (fun V hV=>by
  rcases hV with rfl|⟨hV,_⟩
  ·exact hv _ o (Gj h)
  ·rw[hz] at hV;cases hV) g
theorem xcv0(q:Zq){src dst:TypeId}{u v:Value}(hv:∀ (a:Act) (o:Oper) (x:Operand),o.op=.convert src dst x→a.eval x=u→(execOp a.eval o).run P w=.ok (.value v) w)(g:Go P fn R (znx (zq P q s) v) w)(h:zk (zq P q s)=some (.cv src dst u):=by kernel_rfl)(hz:Bc (zq P q s)=true:=by kernel_rfl):Go P fn R s w :=
 Zn q s (zk_val0 h hz (fun a o ⟨x,h1,h2⟩=>hv a o x h1 h2) g)
theorem xia(q:Zq){t:TypeId}{u1 u2 v:Value}(hv:∀ (a:Act) (o:Oper) (x y:Operand),o.op=.indexAddr t x y→a.eval x=u1→a.eval y=u2→∀ V,(execOp a.eval o).run P V=.ok (.value v) V)(g:Go P fn R (znx (zq P q s) v) w)(h:zk (zq P q s)=some (.ix t u1 u2):=by kernel_rfl):Go P fn R s w:=by
 obtain⟨o,ho,h⟩:=Xz h
 obtain⟨x,y,h1,h2,h3⟩:=Gj h
 exact Zn q s (Ff ho (fun V _=>hv _ o x y h1 h2 h3 V) g)
theorem xx(q:Zq)(a:O0)(n k size:Nat)(ha:a.isSome=true)(g:Go P fn R (znx (zq P q s) (.pointer (some (Zr a (k*size))))) w)(h:zix P (zq P q s)=some (a,n,(k:Int),size):=by kernel_rfl)(hk:k<n:=by omega):Go P fn R s w:=by
 obtain⟨o,ho,h⟩:=Xz h
 refine Zn q s (Ff ho (fun V _=>?_) g)
 split at h
 ·rename_i t x y a0
  split at h
  ·rename_i e hu
   split at h
   ·rename_i i hi
    split at h
    ·rename_i a' n' c' hx
     split at h
     ·rename_i ki j hy
      simp only[At,C2] at h
      obtain⟨rfl,rfl,rfl,rfl⟩:=h
      exact Mm a0 (by rw[Zj];exact hx) (by rw[Zj];exact hy) rfl hk ha hu (by rw[hi];rfl) V
     ·cases h
    ·cases h
   ·cases h
  ·cases h
 ·cases h
theorem Bs(b off j:Nat):Zr (some ⟨b,off,none⟩) j=⟨b,off+j,none⟩:=by simp[Zr,Addr.add_mid]
theorem xxb(q:Zq)(b off n k size:Nat)(g:Go P fn R (znx (zq P q s) (.pointer (some ⟨b,off+k*size,none⟩))) w)(h:zix P (zq P q s)=some (some ⟨b,off,none⟩,n,(k:Int),size):=by kernel_rfl)(hk:k<n:=by omega):Go P fn R s w :=
 xx q (some ⟨b,off,none⟩) n k size rfl (by rw[Bs];exact g) h hk
theorem xsL(q:Zq){t:TypeId}{u u1 v:Value}(hv:∀ (a:Act) (o:Oper) (x y:Operand),o.op=.slice t x (some y) none none→a.eval x=u→a.eval y=u1→∀ V,(execOp a.eval o).run P V=.ok (.value v) V)(g:Go P fn R (znx (zq P q s) v) w)(h:zk (zq P q s)=some (.sl t u (some u1) none none):=by kernel_rfl):Go P fn R s w:=by
 obtain⟨o,ho,h⟩:=Xz h
 obtain⟨x,l,hh,m,h1,h2,h3,h4,h5⟩:=Gj h
 obtain⟨y,rfl,hy⟩:=Gp h3
 obtain rfl:=Wn h4
 obtain rfl:=Wn h5
 exact Zn q s (Ff ho (fun V _=>hv _ o x y h1 h2 hy V) g)
theorem xsH(q:Zq){t:TypeId}{u u1 v:Value}(hv:∀ (a:Act) (o:Oper) (x y:Operand),o.op=.slice t x none (some y) none→a.eval x=u→a.eval y=u1→∀ V,(execOp a.eval o).run P V=.ok (.value v) V)(g:Go P fn R (znx (zq P q s) v) w)(h:zk (zq P q s)=some (.sl t u none (some u1) none):=by kernel_rfl):Go P fn R s w:=by
 obtain⟨o,ho,h⟩:=Xz h
 obtain⟨x,l,hh,m,h1,h2,h3,h4,h5⟩:=Gj h
 obtain⟨y,rfl,hy⟩:=Gp h4
 obtain rfl:=Wn h3
 obtain rfl:=Wn h5
 exact Zn q s (Ff ho (fun V _=>hv _ o x y h1 h2 hy V) g)
theorem xs3(q:Zq){t:TypeId}{u u1 u2 u3 v:Value}(hv:∀ (a:Act) (o:Oper) (x y z m:Operand),o.op=.slice t x (some y) (some z) (some m)→a.eval x=u→a.eval y=u1→a.eval z=u2→a.eval m=u3→∀ V,(execOp a.eval o).run P V=.ok (.value v) V)(g:Go P fn R (znx (zq P q s) v) w)(h:zk (zq P q s)=some (.sl t u (some u1) (some u2) (some u3)):=by kernel_rfl):Go P fn R s w:=by
 obtain⟨o,ho,h⟩:=Xz h
 obtain⟨x,l,hh,m,h1,h2,h3,h4,h5⟩:=Gj h
 obtain⟨y,rfl,hy⟩:=Gp h3
 obtain⟨z,rfl,hz⟩:=Gp h4
 obtain⟨m,rfl,hm⟩:=Gp h5
 exact Zn q s (Ff ho (fun V _=>hv _ o x y z m h1 h2 hy hz hm V) g)
theorem xbi(q:Zq){b:Builtin}{t1 t2:TypeId}{u1 u2:Value}(hv:∀ (a:Act) (o:Oper) (x y:Operand) K Q,o.op=.call { callee:=.builtin b,args:=#[x,y],argTypes:=#[t1,t2] }→a.eval x=u1→a.eval y=u2→(∀ v W,Go P fn R (znx (zq P q s) v) W→K (a.put o.dst v) W)→o.wp P a w K Q)(h:zk (zq P q s)=some (.bi b [t1,t2] [u1,u2]):=by kernel_rfl)(hz:Vn (zq P q s)=true:=by kernel_rfl):Go P fn R s w :=
 Zn q s (Zar h hz fun a o K Q ⟨xs,h1,h2⟩ hK=>by
  obtain⟨x,r,rfl,hx,hr⟩:=List.map_eq_cons_iff.1 h2
  obtain⟨y,r,rfl,hy,hr⟩:=List.map_eq_cons_iff.1 hr
  obtain rfl:=List.map_eq_nil_iff.1 hr
  exact hv a o x y K Q h1 hx hy hK)
theorem ybi(q:Zq){b:Builtin}{t1 t2:TypeId}{u1 u2:Value}(sf:SF)(hv:∀ (a:Act) (o:Oper) (x y:Operand) K Q,o.op=.call { callee:=.builtin b,args:=#[x,y],argTypes:=#[t1,t2] }→a.eval x=u1→a.eval y=u2→(∀ v W,sf.rel w W→Go P fn R (znx (zq P q s) v) W→K (a.put o.dst v) W)→o.wp P a w K Q)(h:zk (zq P q s)=some (.bi b [t1,t2] [u1,u2]):=by kernel_rfl)(hz:zsf (zq P q s)=some sf:=by kernel_rfl):Go P fn R s w :=
 Zn q s (Zdm h hz fun a o K Q ⟨xs,h1,h2⟩ hK=>by
  obtain⟨x,r,rfl,hx,hr⟩:=List.map_eq_cons_iff.1 h2
  obtain⟨y,r,rfl,hy,hr⟩:=List.map_eq_cons_iff.1 hr
  obtain rfl:=List.map_eq_nil_iff.1 hr
  exact hv a o x y K Q h1 hx hy hK)
theorem xmk(q:Zq){t:TypeId}{u1 u2:Value}(hv:∀ (a:Act) (o:Oper) (x y:Operand) K Q,o.op=.makeSlice t x y→a.eval x=u1→a.eval y=u2→(∀ v W,Go P fn R (znx (zq P q s) v) W→K (a.put o.dst v) W)→o.wp P a w K Q)(h:zk (zq P q s)=some (.mk t u1 u2):=by kernel_rfl)(hz:Vn (zq P q s)=true:=by kernel_rfl):Go P fn R s w :=
 Zn q s (Zar h hz fun a o K Q ⟨x,y,h1,h2,h3⟩ hK=>hv a o x y K Q h1 h2 h3 hK)
theorem xst(q:Zq){t:TypeId}{u1 u2:Value}(hv:∀ (a:Act) (o:Oper) (x y:Operand) K Q,o.op=.store t x y→a.eval x=u1→a.eval y=u2→(∀ v W,Go P fn R (znx (zq P q s) v) W→K (a.put o.dst v) W)→o.wp P a w K Q)(h:zk (zq P q s)=some (.st t u1 u2):=by kernel_rfl)(hz:Vn (zq P q s)=true:=by kernel_rfl):Go P fn R s w :=
 Zn q s (Zar h hz fun a o K Q ⟨x,y,h1,h2,h3⟩ hK=>hv a o x y K Q h1 h2 h3 hK)
theorem yst(q:Zq){t:TypeId}{u1 u2:Value}(sf:SF)(hv:∀ (a:Act) (o:Oper) (x y:Operand) K Q,o.op=.store t x y→a.eval x=u1→a.eval y=u2→(∀ v W,sf.rel w W→Go P fn R (znx (zq P q s) v) W→K (a.put o.dst v) W)→o.wp P a w K Q)(h:zk (zq P q s)=some (.st t u1 u2):=by kernel_rfl)(hz:zsf (zq P q s)=some sf:=by kernel_rfl):Go P fn R s w :=
 Zn q s (Zdm h hz fun a o K Q ⟨x,y,h1,h2,h3⟩ hK=>hv a o x y K Q h1 h2 h3 hK)
end
end Go.Proofs.YtekomodnkfhihaaGreatDoor
namespace Go.Proofs.YtekomodnkfhihaaGreatDoor
set_option maxHeartbeats 8000000
set_option maxRecDepth 100000
open Go.RowKit Go.Extern.Stop Go.Stop Go.Extern
set_option linter.unusedVariables false
attribute [local irreducible] wpList wpAnyH Code.wp Oper.wp Go
def bv (x:UInt8):Value:=.int .u8 (x.toNat:Int)
def Bys (w:World)(v:Value)(l:Bi):Prop:=Sl w v l.length (l.map bv)
theorem Bys.below{w w':World}{v:Value}{l:Bi}(h:Bys w v l)(hb:Bl w w'):Bys w' v l:=Sl.below h hb
def Gm(base:Nat)(w:World)(v:Value)(l:Bi):Prop:=w.ownsRow base 5 1 v l.length (l.map bv)
theorem Gm.bys{base:Nat}{w:World}{v:Value}{l:Bi}(h:Gm base w v l):Bys w v l:=Ze h
theorem Xw(l:Bi):∀ u∈l.map bv,u.oneCell'=true:=by
 intro u hu
 obtain⟨x,_,rfl⟩:=List.mem_map.1 hu
 rfl
theorem Ar(p:Addr)(c:Nat)(l:Bi)(w:World)(h:Bys w (.slice (some p) l.length c) l)(hl:l.length≤100000000) :
 C0 60 #[.slice (some p) l.length c] w (Qh (fun w' r=>Gm w.heap.size w' r l) w):=by
 refine zin 8 Tryz.func60 ?_
 refine xb0 17 5 fun b1 W1 n1=>?_
 have o1:=Xg (size:=1) (n:=0) n1.blk (n1.ge (B3 w)) rfl Do
 refine xbi 1 fun _ _ _ _ zJ zQ zo zx zy zK=>Zz (m:=l.length) (news:=l.map bv) (.int .u8 0) 1 1 (l.length) (l.map bv) zo Tryz.underlying50 K0 rfl Do zx o1 zy (h.below n1.below) (by simp) (Xw l) (by unfold maxLen;omega) M0 n1.below.size (by simp) (by simp) fun a1 a3 W2 o2 a4 a2=>?_
 refine zK _ _ ?_
 have a0:=n1.below.trans a2
 exact xe 4 (.slice a1 l.length a3) ⟨_,rfl,a0,o2⟩
theorem Zdg(c:Nat)(w:World) :
 C0 60 #[.slice none 0 c] w (Qh (fun w' r=>Gm w.heap.size w' r []) w):=by
 refine zin 8 Tryz.func60 ?_
 exact xe 20 (S0) ⟨_,rfl,(B3 w),A9 _ _ _ _⟩
theorem Hn(a:O0)(c:Nat)(l:Bi)(w:World)(h:Bys w (.slice a l.length c) l)(hl:l.length≤100000000) :
 C0 60 #[.slice a l.length c] w (Qh (fun w' r=>Gm w.heap.size w' r l) w):=by
 cases a with
 | some p=>exact Ar p c l w h hl
 | none =>
  rcases Sl.at h with hn|⟨_,_,h1,_⟩
  ·obtain rfl:l=[]:=by simpa using hn
   exact Zdg c w
  ·cases h1
theorem Qy(a:O0)(n c:Nat)(l:Bi)(w:World)(hn:l.length=n)(h:Bys w (.slice a n c) l)(hl:n≤100000000) :
 C0 60 #[.slice a n c] w (Qh (fun w' r=>Gm w.heap.size w' r l) w):=by
 subst hn;exact Hn a c l w h hl
theorem Blk.bys{w:World}{b:Nat}{cs:List Value}{t:TypeId}(k:Blk w b cs t)(l:Bi)(n c:Nat)(hn:l.length=n)(h:cs.take n=l.map bv)(hc:n≤c)(hm:c≤maxLen):Bys w (.slice (S1 b) n c) l :=
 .inr ⟨b,0,c,by rw[hn],by omega,hm,fun j x hj=>by
  rw[E9]
  refine k.cell ?_
  rw[←h] at hj
  have a0:j<n:=by have:=(List.getElem?_eq_some_iff.1 hj).1;simp at this;omega
  rwa [E1 a0] at hj⟩
def Zp(n:Int)(i:Nat):UInt8:=UInt8.ofNat (n.toNat/256 ^ i)
def leB (n:Int)(w:Nat):Bi:=(List.range w).map (Zp n)
theorem Zl(n:Int)(w:Nat):(leB n w).length=w:=by simp[leB]
theorem Yg{n:Int}(h:0≤n)(i:Nat):IntKind.u8.wrap (Int.fdiv n (2 ^ (8*i)))=((Zp n i).toNat:Int):=by
 obtain⟨m,rfl⟩:=Int.eq_ofNat_of_zero_le h
 have e:(2:Int) ^ (8*i)=((256 ^ i:Nat):Int):=by rw[Int.pow_mul];simp
 rw[e,show Int.fdiv ((m:Nat):Int) ((256 ^ i:Nat):Int)=((m/256 ^ i:Nat):Int) from by rw[Int.fdiv_eq_ediv_of_nonneg _ (F9 _)];simp]
 simp[IntKind.wrap,Zp,IntKind.bits,IntKind.signed]
theorem Rr{n:Int}(h:0≤n):IntKind.u8.wrap n=((Zp n 0).toNat:Int):=by
 have:=Yg h 0
 simpa using this
def Vy(l:Bi)(k:Nat)(x:Bi):Bi:=l.take k++x++l.drop (k+x.length)
theorem Gm.some{base:Nat}{w:World}{v:Value}{l:Bi}(h:Gm base w v l)(hl:0<l.length):∃ g cap,v=.slice (S1 g) l.length cap∧l.length≤cap:=by
 rcases h.2 with ⟨_,h0⟩|⟨g,cap,a0,hv,_,_,hc,_⟩
 ·omega
 ·exact⟨g,cap,hv,hc⟩
theorem Zcc(w:World) :
 C0 162 #[V0 1] w (Ret (.bool true) w):=by
 refine zin 17 Tryz.func162 ?_
 exact xe 25 (.bool true) ⟨rfl,(B3 w)⟩
theorem fits_1(n:Int)(h0:0≤n)(hb:n<256)(w:World) :
 C0 163 #[V0 n,V0 1] w (Ret (.bool true) w):=by
 refine zin 20 Tryz.func163 ?_
 refine xk 12 (show(decide (n<(0:Int)):Bool)=false from decide_eq_false M0) ?_
 exact xe 26 (.bool (decide (n<(256:Int)))) ⟨by rw[decide_eq_true hb],(B3 w)⟩
theorem Zcg(n:Int)(h0:0≤n)(w:World) :
 C0 164 #[V0 n,V0 1] w (Qh (fun w' r=>Gm w.heap.size w' r (leB n 1)) w):=by
 refine zin 43 Tryz.func164 ?_
 refine xa 7 [.int .u8 0,.int .u8 0,.int .u8 0,.int .u8 0,.int .u8 0,.int .u8 0,.int .u8 0,.int .u8 0] 331 fun b1 W1 n1=>?_
 refine xq 59 (congrArg (Value.int .u8) (show(IntKind.u8.wrap n:Int)=(↑(Zp n 0).toNat:Int) from Rr h0)) ?_
 refine xs 1 n1.blk [.int .u8 (↑(Zp n 0).toNat:Int),.int .u8 0,.int .u8 0,.int .u8 0,.int .u8 0,.int .u8 0,.int .u8 0,.int .u8 0] fun W2 u2 k2=>?_
 have g1:=n1.ge (B3 w)
 refine xc 9 (args:=#[.slice (S1 b1) 1 8]) (Qy (S1 b1) 1 8 (leB n 1) _ rfl (k2.bys (leB n 1) 1 8 rfl rfl Do Do) Do) ?_
 rintro _ W3 ⟨r,rfl,a2,ho⟩
 have a1:=(u2.below n1.below g1).size
 have hB:=bln (u2.below n1.below g1) a2
 have a0:=Zf ho a1
 exact xe 4 r ⟨_,rfl,hB,a0⟩
theorem Lg(w:World) :
 C0 162 #[V0 2] w (Ret (.bool true) w):=by
 refine zin 17 Tryz.func162 ?_
 exact xe 25 (.bool true) ⟨rfl,(B3 w)⟩
theorem Sq(n:Int)(h0:0≤n)(hb:n<65536)(w:World) :
 C0 163 #[V0 n,V0 2] w (Ret (.bool true) w):=by
 refine zin 20 Tryz.func163 ?_
 refine xk 12 (show(decide (n<(0:Int)):Bool)=false from decide_eq_false M0) ?_
 exact xe 33 (.bool (decide (n<(65536:Int)))) ⟨by rw[decide_eq_true hb],(B3 w)⟩
theorem there_2(a:O0)(m c k:Nat)(hk:k+2≤m)(hm:m≤100000000)(w:World) :
 C0 222 #[.slice a m c,V0 (k:Int),V0 2] w (Ret (V0 0) w):=by
 refine zin 28 Tryz.func222 ?_
 refine xr 10 (args:=#[V0 2]) (Lg _) fun W1 a0=>?_
 refine xgk 10 [13,14] (show(decide ((k:Int)<(0:Int)):Bool)=false from decide_eq_false M0) ?_
 refine xgk 6 [18,19,20] (show(decide ((k:Int)>(m:Int)):Bool)=false from decide_eq_false M0) ?_
 refine xw 3 ((m:Int)-(k:Int)) ?_
 refine xk 6 (show(decide ((m:Int)-(k:Int)<(2:Int)):Bool)=false from decide_eq_false M0) ?_
 exact xe 9 (V0 0) ⟨rfl,a0⟩
theorem Ls(n:Int)(h0:0≤n)(w:World) :
 C0 164 #[V0 n,V0 2] w (Qh (fun w' r=>Gm w.heap.size w' r (leB n 2)) w):=by
 refine zin 43 Tryz.func164 ?_
 refine xa 7 [.int .u8 0,.int .u8 0,.int .u8 0,.int .u8 0,.int .u8 0,.int .u8 0,.int .u8 0,.int .u8 0] 331 fun b1 W1 n1=>?_
 refine xq 56 (congrArg (Value.int .u8) (show(IntKind.u8.wrap (Int.fdiv n (2 ^ 8)):Int)=(↑(Zp n 1).toNat:Int) from Yg h0 1)) ?_
 refine xs 1 n1.blk [.int .u8 0,.int .u8 (↑(Zp n 1).toNat:Int),.int .u8 0,.int .u8 0,.int .u8 0,.int .u8 0,.int .u8 0,.int .u8 0] fun W2 u2 k2=>?_
 have g1:=n1.ge (B3 w)
 refine xq 6 (congrArg (Value.int .u8) (show(IntKind.u8.wrap n:Int)=(↑(Zp n 0).toNat:Int) from Rr h0)) ?_
 refine xs 1 k2 [.int .u8 (↑(Zp n 0).toNat:Int),.int .u8 (↑(Zp n 1).toNat:Int),.int .u8 0,.int .u8 0,.int .u8 0,.int .u8 0,.int .u8 0,.int .u8 0] fun W3 u3 k3=>?_
 refine xc 9 (args:=#[.slice (S1 b1) 2 8]) (Qy (S1 b1) 2 8 (leB n 2) _ rfl (k3.bys (leB n 2) 2 8 rfl rfl Do Do) Do) ?_
 rintro _ W4 ⟨r,rfl,a1,ho⟩
 have a2:=(u3.below (u2.below n1.below g1) g1).size
 have hB:=bln (u3.below (u2.below n1.below g1) g1) a1
 have a0:=Zf ho a2
 exact xe 4 r ⟨_,rfl,hB,a0⟩
theorem Mv(w:World) :
 C0 162 #[V0 4] w (Ret (.bool true) w):=by
 refine zin 17 Tryz.func162 ?_
 exact xe 25 (.bool true) ⟨rfl,(B3 w)⟩
theorem Rx(n:Int)(h0:0≤n)(hb:n<4294967296)(w:World) :
 C0 163 #[V0 n,V0 4] w (Ret (.bool true) w):=by
 refine zin 20 Tryz.func163 ?_
 refine xk 12 (show(decide (n<(0:Int)):Bool)=false from decide_eq_false M0) ?_
 exact xe 40 (.bool (decide (n<(4294967296:Int)))) ⟨by rw[decide_eq_true hb],(B3 w)⟩
theorem there_4(a:O0)(m c k:Nat)(hk:k+4≤m)(hm:m≤100000000)(w:World) :
 C0 222 #[.slice a m c,V0 (k:Int),V0 4] w (Ret (V0 0) w):=by
 refine zin 28 Tryz.func222 ?_
 refine xr 10 (args:=#[V0 4]) (Mv _) fun W1 a0=>?_
 refine xgk 10 [13,14] (show(decide ((k:Int)<(0:Int)):Bool)=false from decide_eq_false M0) ?_
 refine xgk 6 [18,19,20] (show(decide ((k:Int)>(m:Int)):Bool)=false from decide_eq_false M0) ?_
 refine xw 3 ((m:Int)-(k:Int)) ?_
 refine xk 6 (show(decide ((m:Int)-(k:Int)<(4:Int)):Bool)=false from decide_eq_false M0) ?_
 exact xe 9 (V0 0) ⟨rfl,a0⟩
theorem Lp(n:Int)(h0:0≤n)(w:World) :
 C0 164 #[V0 n,V0 4] w (Qh (fun w' r=>Gm w.heap.size w' r (leB n 4)) w):=by
 refine zin 43 Tryz.func164 ?_
 refine xa 7 [.int .u8 0,.int .u8 0,.int .u8 0,.int .u8 0,.int .u8 0,.int .u8 0,.int .u8 0,.int .u8 0] 331 fun b1 W1 n1=>?_
 refine xq 46 (congrArg (Value.int .u8) (show(IntKind.u8.wrap (Int.fdiv n (2 ^ 24)):Int)=(↑(Zp n 3).toNat:Int) from Yg h0 3)) ?_
 refine xq 2 (congrArg (Value.int .u8) (show(IntKind.u8.wrap (Int.fdiv n (2 ^ 16)):Int)=(↑(Zp n 2).toNat:Int) from Yg h0 2)) ?_
 refine xs 1 n1.blk [.int .u8 0,.int .u8 0,.int .u8 0,.int .u8 (↑(Zp n 3).toNat:Int),.int .u8 0,.int .u8 0,.int .u8 0,.int .u8 0] fun W2 u2 k2=>?_
 have g1:=n1.ge (B3 w)
 refine xs 1 k2 [.int .u8 0,.int .u8 0,.int .u8 (↑(Zp n 2).toNat:Int),.int .u8 (↑(Zp n 3).toNat:Int),.int .u8 0,.int .u8 0,.int .u8 0,.int .u8 0] fun W3 u3 k3=>?_
 refine xq 6 (congrArg (Value.int .u8) (show(IntKind.u8.wrap (Int.fdiv n (2 ^ 8)):Int)=(↑(Zp n 1).toNat:Int) from Yg h0 1)) ?_
 refine xs 1 k3 [.int .u8 0,.int .u8 (↑(Zp n 1).toNat:Int),.int .u8 (↑(Zp n 2).toNat:Int),.int .u8 (↑(Zp n 3).toNat:Int),.int .u8 0,.int .u8 0,.int .u8 0,.int .u8 0] fun W4 u4 k4=>?_
 refine xq 6 (congrArg (Value.int .u8) (show(IntKind.u8.wrap n:Int)=(↑(Zp n 0).toNat:Int) from Rr h0)) ?_
 refine xs 1 k4 [.int .u8 (↑(Zp n 0).toNat:Int),.int .u8 (↑(Zp n 1).toNat:Int),.int .u8 (↑(Zp n 2).toNat:Int),.int .u8 (↑(Zp n 3).toNat:Int),.int .u8 0,.int .u8 0,.int .u8 0,.int .u8 0] fun W5 u5 k5=>?_
 refine xc 9 (args:=#[.slice (S1 b1) 4 8]) (Qy (S1 b1) 4 8 (leB n 4) _ rfl (k5.bys (leB n 4) 4 8 rfl rfl Do Do) Do) ?_
 rintro _ W6 ⟨r,rfl,a2,ho⟩
 have a1:=(u5.below (u4.below (u3.below (u2.below n1.below g1) g1) g1) g1).size
 have hB:=bln (u5.below (u4.below (u3.below (u2.below n1.below g1) g1) g1) g1) a2
 have a0:=Zf ho a1
 exact xe 4 r ⟨_,rfl,hB,a0⟩
theorem known_8(w:World) :
 C0 162 #[V0 8] w (Ret (.bool true) w):=by
 refine zin 17 Tryz.func162 ?_
 exact xe 25 (.bool true) ⟨rfl,(B3 w)⟩
theorem fits_8(n:Int)(h0:0≤n)(w:World) :
 C0 163 #[V0 n,V0 8] w (Ret (.bool true) w):=by
 refine zin 20 Tryz.func163 ?_
 refine xk 12 (show(decide (n<(0:Int)):Bool)=false from decide_eq_false M0) ?_
 exact xe 39 (.bool true) ⟨by rfl,(B3 w)⟩
theorem bytes_8(n:Int)(h0:0≤n)(w:World) :
 C0 164 #[V0 n,V0 8] w (Qh (fun w' r=>Gm w.heap.size w' r (leB n 8)) w):=by
 refine zin 43 Tryz.func164 ?_
 refine xa 7 [.int .u8 0,.int .u8 0,.int .u8 0,.int .u8 0,.int .u8 0,.int .u8 0,.int .u8 0,.int .u8 0] 331 fun b1 W1 n1=>?_
 refine xu 37 6 ?_
 refine xq 18 (congrArg (Value.int .u8) (show(IntKind.u8.wrap (Int.fdiv n (2 ^ 32)):Int)=(↑(Zp n 4).toNat:Int) from Yg h0 4)) ?_
 refine xs 1 n1.blk [.int .u8 0,.int .u8 0,.int .u8 0,.int .u8 0,.int .u8 (↑(Zp n 4).toNat:Int),.int .u8 0,.int .u8 0,.int .u8 0] fun W2 u2 k2=>?_
 have g1:=n1.ge (B3 w)
 refine xq 27 (congrArg (Value.int .u8) (show(IntKind.u8.wrap (Int.fdiv n (2 ^ 40)):Int)=(↑(Zp n 5).toNat:Int) from Yg h0 5)) ?_
 refine xs 1 k2 [.int .u8 0,.int .u8 0,.int .u8 0,.int .u8 0,.int .u8 (↑(Zp n 4).toNat:Int),.int .u8 (↑(Zp n 5).toNat:Int),.int .u8 0,.int .u8 0] fun W3 u3 k3=>?_
 refine xq 27 (congrArg (Value.int .u8) (show(IntKind.u8.wrap (Int.fdiv n (2 ^ 48)):Int)=(↑(Zp n 6).toNat:Int) from Yg h0 6)) ?_
 refine xs 1 k3 [.int .u8 0,.int .u8 0,.int .u8 0,.int .u8 0,.int .u8 (↑(Zp n 4).toNat:Int),.int .u8 (↑(Zp n 5).toNat:Int),.int .u8 (↑(Zp n 6).toNat:Int),.int .u8 0] fun W4 u4 k4=>?_
 refine xq 27 (congrArg (Value.int .u8) (show(IntKind.u8.wrap (Int.fdiv n (2 ^ 56)):Int)=(↑(Zp n 7).toNat:Int) from Yg h0 7)) ?_
 refine xs 1 k4 [.int .u8 0,.int .u8 0,.int .u8 0,.int .u8 0,.int .u8 (↑(Zp n 4).toNat:Int),.int .u8 (↑(Zp n 5).toNat:Int),.int .u8 (↑(Zp n 6).toNat:Int),.int .u8 (↑(Zp n 7).toNat:Int)] fun W5 u5 k5=>?_
 refine xq 26 (congrArg (Value.int .u8) (show(IntKind.u8.wrap (Int.fdiv n (2 ^ 24)):Int)=(↑(Zp n 3).toNat:Int) from Yg h0 3)) ?_
 refine xq 2 (congrArg (Value.int .u8) (show(IntKind.u8.wrap (Int.fdiv n (2 ^ 16)):Int)=(↑(Zp n 2).toNat:Int) from Yg h0 2)) ?_
 refine xs 1 k5 [.int .u8 0,.int .u8 0,.int .u8 0,.int .u8 (↑(Zp n 3).toNat:Int),.int .u8 (↑(Zp n 4).toNat:Int),.int .u8 (↑(Zp n 5).toNat:Int),.int .u8 (↑(Zp n 6).toNat:Int),.int .u8 (↑(Zp n 7).toNat:Int)] fun W6 u6 k6=>?_
 refine xs 1 k6 [.int .u8 0,.int .u8 0,.int .u8 (↑(Zp n 2).toNat:Int),.int .u8 (↑(Zp n 3).toNat:Int),.int .u8 (↑(Zp n 4).toNat:Int),.int .u8 (↑(Zp n 5).toNat:Int),.int .u8 (↑(Zp n 6).toNat:Int),.int .u8 (↑(Zp n 7).toNat:Int)] fun W7 u7 k7=>?_
 refine xq 6 (congrArg (Value.int .u8) (show(IntKind.u8.wrap (Int.fdiv n (2 ^ 8)):Int)=(↑(Zp n 1).toNat:Int) from Yg h0 1)) ?_
 refine xs 1 k7 [.int .u8 0,.int .u8 (↑(Zp n 1).toNat:Int),.int .u8 (↑(Zp n 2).toNat:Int),.int .u8 (↑(Zp n 3).toNat:Int),.int .u8 (↑(Zp n 4).toNat:Int),.int .u8 (↑(Zp n 5).toNat:Int),.int .u8 (↑(Zp n 6).toNat:Int),.int .u8 (↑(Zp n 7).toNat:Int)] fun W8 u8 k8=>?_
 refine xq 6 (congrArg (Value.int .u8) (show(IntKind.u8.wrap n:Int)=(↑(Zp n 0).toNat:Int) from Rr h0)) ?_
 refine xs 1 k8 [.int .u8 (↑(Zp n 0).toNat:Int),.int .u8 (↑(Zp n 1).toNat:Int),.int .u8 (↑(Zp n 2).toNat:Int),.int .u8 (↑(Zp n 3).toNat:Int),.int .u8 (↑(Zp n 4).toNat:Int),.int .u8 (↑(Zp n 5).toNat:Int),.int .u8 (↑(Zp n 6).toNat:Int),.int .u8 (↑(Zp n 7).toNat:Int)] fun W9 u9 k9=>?_
 refine xc 9 (args:=#[.slice (S1 b1) 8 8]) (Qy (S1 b1) 8 8 (leB n 8) _ rfl (k9.bys (leB n 8) 8 8 rfl rfl Do Do) Do) ?_
 rintro _ a3 ⟨r,rfl,a2,ho⟩
 have a0:=(u9.below (u8.below (u7.below (u6.below (u5.below (u4.below (u3.below (u2.below n1.below g1) g1) g1) g1) g1) g1) g1) g1).size
 have hB:=bln (u9.below (u8.below (u7.below (u6.below (u5.below (u4.below (u3.below (u2.below n1.below g1) g1) g1) g1) g1) g1) g1) g1) a2
 have a1:=Zf ho a0
 exact xe 4 r ⟨_,rfl,hB,a1⟩
theorem Put_2(a:O0)(c k:Nat)(l:Bi)(n:Int)(w:World)(h:Bys w (.slice a l.length c) l)(hl:l.length≤100000)(hk:k+2≤l.length)(h0:0≤n)(hb:n<65536) :
 C0 166 #[.slice a l.length c,V0 (k:Int),V0 2,V0 n] w (Qh (fun w' r=>∃ v,r=.tuple #[v,V0 0]∧Gm w.heap.size w' v (Vy l k (leB n 2))) w):=by
 refine zin 33 Tryz.func166 ?_
 refine xr 12 (args:=#[.slice a l.length c,V0 (k:Int),V0 2]) (there_2 a l.length c k hk M0 _) fun W1 a9=>?_
 refine xr 17 (args:=#[V0 n,V0 2]) (Sq n h0 hb _) fun W2 a8=>?_
 have hB:=bln a9 a8
 refine xc 9 (args:=#[.slice a l.length c]) (Hn a c l _ (h.below hB) M0) ?_
 rintro _ W3 ⟨_,rfl,a7,ho⟩
 have b2:=(bln a9 a8).size
 have a0:=Zf ho b2
 obtain⟨g,a5,rfl,b3⟩:=Gm.some a0 M0
 refine xd 4 (.t w.heap.size [5]) ?_
 refine xsL (.e [0,1] 2) (fun _ _ _ _ zo zx zy V=>Jt (k:=k) (b:=g) (off:=0) (n:=l.length) (c:=a5) (i:=(k:Int)) (ki:=.i64) 1 zo zx zy rfl M0 M0 Tryz.underlying50 K0 V) ?_
 refine yc (.o [3,4] 5) (args:=#[V0 n,V0 2]) (.t w.heap.size [5]) (Ls n h0 _) ?_
 rintro _ W4 ⟨_,rfl,a6,h2⟩
 have b4:=(bln (bln hB a7) (Zb W3)).size
 refine⟨(SF.of_below _ a6),?_⟩
 have a2:=Zf h2 b4
 obtain⟨p2,c2,rfl⟩:=(Ze a2).slice
 have a3:=Za (Za a0 (Zb W3)) a6
 have a1:=bln (bln (bln hB a7) (Zb W3)) a6
 refine ybi (.o [] 6) (t2:=50) (.t w.heap.size [5]) fun _ _ _ _ zJ zQ zo zx zy zK=>Jd (dLen:=(l.length-k)) (dCap:=(a5-k)) (off:=(0+k*1)) ((leB n 2).length) ((leB n 2).map bv) ((Vy l k (leB n 2)).map bv) zo Tryz.underlying50 K0 zx zy (Ze a2) a3 (by simp) (by simp[leB];omega) (by simp[leB];omega) (Xw _) a1.size (by simp[Vy,E5,G6]) fun W5 o5 b1 b0=>?_
 refine zK _ _ (Zu b0 b1 a3 Do) ?_
 have a4:=a1.trans b0
 refine xe 10 (.tuple #[.slice (S1 g) l.length a5,V0 0]) ?_
 refine⟨_,rfl,a4,_,rfl,?_⟩
 unfold Gm
 rw[show(Vy l k (leB n 2)).length=l.length by simp[Vy,leB];omega]
 exact o5
theorem Put_4(a:O0)(c k:Nat)(l:Bi)(n:Int)(w:World)(h:Bys w (.slice a l.length c) l)(hl:l.length≤100000)(hk:k+4≤l.length)(h0:0≤n)(hb:n<4294967296) :
 C0 166 #[.slice a l.length c,V0 (k:Int),V0 4,V0 n] w (Qh (fun w' r=>∃ v,r=.tuple #[v,V0 0]∧Gm w.heap.size w' v (Vy l k (leB n 4))) w):=by
 refine zin 33 Tryz.func166 ?_
 refine xr 12 (args:=#[.slice a l.length c,V0 (k:Int),V0 4]) (there_4 a l.length c k hk M0 _) fun W1 a9=>?_
 refine xr 17 (args:=#[V0 n,V0 4]) (Rx n h0 hb _) fun W2 a8=>?_
 have hB:=bln a9 a8
 refine xc 9 (args:=#[.slice a l.length c]) (Hn a c l _ (h.below hB) M0) ?_
 rintro _ W3 ⟨_,rfl,a7,ho⟩
 have b2:=(bln a9 a8).size
 have a0:=Zf ho b2
 obtain⟨g,a5,rfl,b3⟩:=Gm.some a0 M0
 refine xd 4 (.t w.heap.size [5]) ?_
 refine xsL (.e [0,1] 2) (fun _ _ _ _ zo zx zy V=>Jt (k:=k) (b:=g) (off:=0) (n:=l.length) (c:=a5) (i:=(k:Int)) (ki:=.i64) 1 zo zx zy rfl M0 M0 Tryz.underlying50 K0 V) ?_
 refine yc (.o [3,4] 5) (args:=#[V0 n,V0 4]) (.t w.heap.size [5]) (Lp n h0 _) ?_
 rintro _ W4 ⟨_,rfl,a6,h2⟩
 have b4:=(bln (bln hB a7) (Zb W3)).size
 refine⟨(SF.of_below _ a6),?_⟩
 have a2:=Zf h2 b4
 obtain⟨p2,c2,rfl⟩:=(Ze a2).slice
 have a3:=Za (Za a0 (Zb W3)) a6
 have a1:=bln (bln (bln hB a7) (Zb W3)) a6
 refine ybi (.o [] 6) (t2:=50) (.t w.heap.size [5]) fun _ _ _ _ zJ zQ zo zx zy zK=>Jd (dLen:=(l.length-k)) (dCap:=(a5-k)) (off:=(0+k*1)) ((leB n 4).length) ((leB n 4).map bv) ((Vy l k (leB n 4)).map bv) zo Tryz.underlying50 K0 zx zy (Ze a2) a3 (by simp) (by simp[leB];omega) (by simp[leB];omega) (Xw _) a1.size (by simp[Vy,E5,G6]) fun W5 o5 b1 b0=>?_
 refine zK _ _ (Zu b0 b1 a3 Do) ?_
 have a4:=a1.trans b0
 refine xe 10 (.tuple #[.slice (S1 g) l.length a5,V0 0]) ?_
 refine⟨_,rfl,a4,_,rfl,?_⟩
 unfold Gm
 rw[show(Vy l k (leB n 4)).length=l.length by simp[Vy,leB];omega]
 exact o5
theorem Pi(g:Nat)(n:Int)(h0:0≤n)(hb:n<4294967296)(w:World)(hk:Blk w g [V0 4,V0 n] 178) :
 C0 97 #[.slice (S1 g) 1 1] w (Qh (fun w' r=>∃ p c,r=.tuple #[.slice p 4 c,V0 0]∧w'.ownsRow w.heap.size 5 1 (.slice p 4 c) 4 ((leB n 4).map bv)) w):=by
 refine zin 32 Tryz.func97 ?_
 refine xu 20 2 ?_
 refine xlv 14 hk.rp ?_
 refine xa 0 [V0 0,V0 0] 178 fun b1 W1 n1=>?_
 have b0:=n1.ne hk
 refine xsv 0 n1.blk [V0 4,V0 n] fun W2 u2 k2=>?_
 have g1:=n1.ge (B3 w)
 refine xb 6 0 k2 ?_
 refine xr 0 (args:=#[V0 4]) (Mv _) fun W3 a3=>?_
 have a1:=k2.below a3
 refine xb 10 1 a1 ?_
 refine xb 1 0 a1 ?_
 refine xr 0 (args:=#[V0 n,V0 4]) (Rx (n) (h0) (hb) _) fun W4 a6=>?_
 have a2:=a1.below a6
 refine xb 9 1 a2 ?_
 refine xb 1 0 a2 ?_
 refine xc 0 (args:=#[V0 n,V0 4]) (Lp (n) (h0) _) ?_
 rintro _ W5 ⟨_,rfl,b4,a5⟩
 have b5:=(bln (bln (u2.below n1.below g1) a3) a6).size
 have a0:=Zf a5 b5
 unfold Gm at a0
 rw[Zl] at a0
 obtain⟨a9,b2,rfl⟩:=(Ze a0).slice
 have o6:=A9 W5 w.heap.size 5 1
 have hB:=bln (bln (bln (u2.below n1.below g1) a3) a6) b4
 refine xbi 0 fun _ _ _ _ zJ zQ zo zx zy zK=>Zz (m:=4) (news:=(leB (n) 4).map bv) (.int .u8 0) 1 1 (4) ((leB (n) 4).map bv) zo Tryz.underlying50 K0 rfl Do zx o6 zy (Ze a0) (by simp[Zl]) (Xw _) (by unfold maxLen;omega) M0 hB.size (by rfl) (by simp) fun a7 a8 W7 o7 b6 b3=>?_
 refine zK _ _ ?_
 have a4:=hB.trans b3
 exact xe 29 (.tuple #[.slice a7 4 a8,V0 0]) ⟨_,rfl,a4,_,_,rfl,o7⟩
theorem Zcq(g:Nat)(n:Int)(h0:0≤n)(w:World)(hk:Blk w g [V0 8,V0 n] 178) :
 C0 97 #[.slice (S1 g) 1 1] w (Qh (fun w' r=>∃ p c,r=.tuple #[.slice p 8 c,V0 0]∧w'.ownsRow w.heap.size 5 1 (.slice p 8 c) 8 ((leB n 8).map bv)) w):=by
 refine zin 32 Tryz.func97 ?_
 refine xu 20 2 ?_
 refine xlv 14 hk.rp ?_
 refine xa 0 [V0 0,V0 0] 178 fun b1 W1 n1=>?_
 have b0:=n1.ne hk
 refine xsv 0 n1.blk [V0 8,V0 n] fun W2 u2 k2=>?_
 have g1:=n1.ge (B3 w)
 refine xb 6 0 k2 ?_
 refine xr 0 (args:=#[V0 8]) (known_8 _) fun W3 a3=>?_
 have a1:=k2.below a3
 refine xb 10 1 a1 ?_
 refine xb 1 0 a1 ?_
 refine xr 0 (args:=#[V0 n,V0 8]) (fits_8 (n) (h0) _) fun W4 a6=>?_
 have a2:=a1.below a6
 refine xb 9 1 a2 ?_
 refine xb 1 0 a2 ?_
 refine xc 0 (args:=#[V0 n,V0 8]) (bytes_8 (n) (h0) _) ?_
 rintro _ W5 ⟨_,rfl,b4,a5⟩
 have b5:=(bln (bln (u2.below n1.below g1) a3) a6).size
 have a0:=Zf a5 b5
 unfold Gm at a0
 rw[Zl] at a0
 obtain⟨a9,b2,rfl⟩:=(Ze a0).slice
 have o6:=A9 W5 w.heap.size 5 1
 have hB:=bln (bln (bln (u2.below n1.below g1) a3) a6) b4
 refine xbi 0 fun _ _ _ _ zJ zQ zo zx zy zK=>Zz (m:=8) (news:=(leB (n) 8).map bv) (.int .u8 0) 1 1 (8) ((leB (n) 8).map bv) zo Tryz.underlying50 K0 rfl Do zx o6 zy (Ze a0) (by simp[Zl]) (Xw _) (by unfold maxLen;omega) M0 hB.size (by rfl) (by simp) fun a7 a8 W7 o7 b6 b3=>?_
 refine zK _ _ ?_
 have a4:=hB.trans b3
 exact xe 29 (.tuple #[.slice a7 8 a8,V0 0]) ⟨_,rfl,a4,_,_,rfl,o7⟩
theorem Zag(g:Nat)(f t k v m:Int)(hf:0≤f)(hf2:f<256)(ht:0≤t)(ht2:t<256)(hk1:0≤k)(hk2:k<65536)(hv:0≤v)(hv2:v<65536)(hm:0≤m)(hm2:m<65536)(w:World)(hk:Blk w g [V0 1,V0 f,V0 1,V0 t,V0 2,V0 k,V0 2,V0 v,V0 2,V0 m,V0 4,V0 0] 178) :
 C0 97 #[.slice (S1 g) 6 6] w (Qh (fun w' r=>∃ p c,r=.tuple #[.slice p 12 c,V0 0]∧w'.ownsRow w.heap.size 5 1 (.slice p 12 c) 12 ((leB f 1++leB t 1++leB k 2++leB v 2++leB m 2++leB 0 4).map bv)) w):=by
 refine zin 32 Tryz.func97 ?_
 refine xu 20 7 ?_
 refine xlv 14 (hk.rpp 0 2) ?_
 refine xa 0 [V0 0,V0 0] 178 fun b1 W1 n1=>?_
 have m6:=n1.ne hk
 refine xsv 0 n1.blk [V0 1,V0 f] fun W2 u2 k2=>?_
 have g1:=n1.ge (B3 w)
 refine xb 6 0 k2 ?_
 refine xr 0 (args:=#[V0 1]) (Zcc _) fun W3 j9=>?_
 have h2:=k2.below j9
 refine xb 10 1 h2 ?_
 refine xb 1 0 h2 ?_
 refine xr 0 (args:=#[V0 f,V0 1]) (fits_1 (f) (hf) (hf2) _) fun W4 j7=>?_
 have f4:=h2.below j7
 refine xb 9 1 f4 ?_
 refine xb 1 0 f4 ?_
 refine xc 0 (args:=#[V0 f,V0 1]) (Zcg (f) (hf) _) ?_
 rintro _ W5 ⟨_,rfl,l2,k5⟩
 have p9:=(bln (bln (u2.below n1.below g1) j9) j7).size
 have a7:=Zf k5 p9
 unfold Gm at a7
 rw[Zl] at a7
 obtain⟨q9,q7,rfl⟩:=(Ze a7).slice
 have o6:=A9 W5 w.heap.size 5 1
 have hB:=bln (bln (bln (u2.below n1.below g1) j9) j7) l2
 refine xbi 0 fun _ _ _ _ zJ zQ zo zx zy zK=>Zz (m:=1) (news:=(leB (f) 1).map bv) (.int .u8 0) 1 1 (1) ((leB (f) 1).map bv) zo Tryz.underlying50 K0 rfl Do zx o6 zy (Ze a7) (by simp[Zl]) (Xw _) (by unfold maxLen;omega) M0 hB.size (by rfl) (by simp) fun s0 r2 W7 o7 n6 p8=>?_
 refine zK _ _ ?_
 have h0:=((((u2.blk (hk.below n1.below) m6).below j9).below j7).below l2).grown n6 o6 Do
 refine xlv 23 (h0.rpp 2 2) ?_
 refine xa 0 [V0 0,V0 0] 178 fun b8 W8 n8=>?_
 have m4:=n8.ne h0
 have j2:=(f4.below l2).grown n6 o6 Do
 have i3:=n8.ne j2
 have g3:=hB.trans p8
 have g8:=n8.ge g3
 refine xsv 0 n8.blk [V0 1,V0 t] fun W9 u9 k9=>?_
 refine xb 6 0 k9 ?_
 refine xr 0 (args:=#[V0 1]) (Zcc _) fun u0 c1=>?_
 have g7:=k9.below c1
 refine xb 10 1 g7 ?_
 refine xb 1 0 g7 ?_
 refine xr 0 (args:=#[V0 t,V0 1]) (fits_1 (t) (ht) (ht2) _) fun r9 c2=>?_
 have f0:=g7.below c2
 refine xb 9 1 f0 ?_
 refine xb 1 0 f0 ?_
 refine xc 0 (args:=#[V0 t,V0 1]) (Zcg (t) (ht) _) ?_
 rintro _ t6 ⟨_,rfl,c9,l9⟩
 have l3:=(bln (bln (u9.below (bln g3 n8.below) g8) c1) c2).size
 have a8:=Zf l9 l3
 unfold Gm at a8
 rw[Zl] at a8
 obtain⟨q8,p5,rfl⟩:=(Ze a8).slice
 have d9:=Za (Za (Za (u9.own2 (Za o7 n8.below) n8.blk Do) c1) c2) c9
 have i5:=bln (bln (bln (u9.below (bln g3 n8.below) g8) c1) c2) c9
 refine xbi 0 fun _ _ _ _ zJ zQ zo zx zy zK=>Zz (m:=1) (news:=(leB (t) 1).map bv) (.int .u8 0) 1 1 (2) ((leB (f) 1++leB (t) 1).map bv) zo Tryz.underlying50 K0 rfl Do zx d9 zy (Ze a8) (by simp[Zl]) (Xw _) (by unfold maxLen;omega) M0 i5.size (by rfl) (by simp) fun p4 p6 t2 o5 f7 l0=>?_
 refine zK _ _ ?_
 have f3:=((((u9.blk (h0.below n8.below) m4).below c1).below c2).below c9).grown f7 d9 Do
 refine xlv 23 (f3.rpp 4 2) ?_
 refine xa 0 [V0 0,V0 0] 178 fun s5 r8 c6=>?_
 have i1:=c6.ne f3
 have j3:=((((u9.blk (j2.below n8.below) i3).below c1).below c2).below c9).grown f7 d9 Do
 have f9:=c6.ne j3
 have i7:=(f0.below c9).grown f7 d9 Do
 have g6:=c6.ne i7
 have h1:=i5.trans l0
 have o0:=c6.ge h1
 refine xsv 0 c6.blk [V0 2,V0 k] fun s4 h3 n5=>?_
 refine xb 6 0 n5 ?_
 refine xr 0 (args:=#[V0 2]) (Lg _) fun t9 b6=>?_
 have d0:=n5.below b6
 refine xb 10 1 d0 ?_
 refine xb 1 0 d0 ?_
 refine xr 0 (args:=#[V0 k,V0 2]) (Sq (k) (hk1) (hk2) _) fun t0 b7=>?_
 have d5:=d0.below b7
 refine xb 9 1 d5 ?_
 refine xb 1 0 d5 ?_
 refine xc 0 (args:=#[V0 k,V0 2]) (Ls (k) (hk1) _) ?_
 rintro _ u4 ⟨_,rfl,c3,k3⟩
 have m8:=(bln (bln (h3.below (bln h1 c6.below) o0) b6) b7).size
 have a5:=Zf k3 m8
 unfold Gm at a5
 rw[Zl] at a5
 obtain⟨q3,r0,rfl⟩:=(Ze a5).slice
 have b0:=Za (Za (Za (h3.own2 (Za o5 c6.below) c6.blk Do) b6) b7) c3
 have i4:=bln (bln (bln (h3.below (bln h1 c6.below) o0) b6) b7) c3
 refine xbi 0 fun _ _ _ _ zJ zQ zo zx zy zK=>Zz (m:=2) (news:=(leB (k) 2).map bv) (.int .u8 0) 1 1 (4) ((leB (f) 1++leB (t) 1++leB (k) 2).map bv) zo Tryz.underlying50 K0 rfl Do zx b0 zy (Ze a5) (by simp[Zl]) (Xw _) (by unfold maxLen;omega) M0 i4.size (by rfl) (by simp) fun p0 q4 s1 p3 d7 l5=>?_
 refine zK _ _ ?_
 have f5:=((((h3.blk (f3.below c6.below) i1).below b6).below b7).below c3).grown d7 b0 Do
 refine xlv 23 (f5.rpp 6 2) ?_
 refine xa 0 [V0 0,V0 0] 178 fun t8 u1 c0=>?_
 have h4:=c0.ne f5
 have h8:=((((h3.blk (j3.below c6.below) f9).below b6).below b7).below c3).grown d7 b0 Do
 have g0:=c0.ne h8
 have i0:=((((h3.blk (i7.below c6.below) g6).below b6).below b7).below c3).grown d7 b0 Do
 have f8:=c0.ne i0
 have e6:=(d5.below c3).grown d7 b0 Do
 have d8:=c0.ne e6
 have f2:=i4.trans l5
 have n9:=c0.ge f2
 refine xsv 0 c0.blk [V0 2,V0 v] fun r1 f6 n7=>?_
 refine xb 6 0 n7 ?_
 refine xr 0 (args:=#[V0 2]) (Lg _) fun r5 b3=>?_
 have c7:=n7.below b3
 refine xb 10 1 c7 ?_
 refine xb 1 0 c7 ?_
 refine xr 0 (args:=#[V0 v,V0 2]) (Sq (v) (hv) (hv2) _) fun t5 b4=>?_
 have c8:=c7.below b4
 refine xb 9 1 c8 ?_
 refine xb 1 0 c8 ?_
 refine xc 0 (args:=#[V0 v,V0 2]) (Ls (v) (hv) _) ?_
 rintro _ t3 ⟨_,rfl,b9,m3⟩
 have m0:=(bln (bln (f6.below (bln f2 c0.below) n9) b3) b4).size
 have a6:=Zf m3 m0
 unfold Gm at a6
 rw[Zl] at a6
 obtain⟨q6,o2,rfl⟩:=(Ze a6).slice
 have a1:=Za (Za (Za (f6.own2 (Za p3 c0.below) c0.blk Do) b3) b4) b9
 have i9:=bln (bln (bln (f6.below (bln f2 c0.below) n9) b3) b4) b9
 refine xbi 0 fun _ _ _ _ zJ zQ zo zx zy zK=>Zz (m:=2) (news:=(leB (v) 2).map bv) (.int .u8 0) 1 1 (6) ((leB (f) 1++leB (t) 1++leB (k) 2++leB (v) 2).map bv) zo Tryz.underlying50 K0 rfl Do zx a1 zy (Ze a6) (by simp[Zl]) (Xw _) (by unfold maxLen;omega) M0 i9.size (by rfl) (by simp) fun q5 o1 t7 o9 d1 k4=>?_
 refine zK _ _ ?_
 have f1:=((((f6.blk (f5.below c0.below) h4).below b3).below b4).below b9).grown d1 a1 Do
 refine xlv 23 (f1.rpp 8 2) ?_
 refine xa 0 [V0 0,V0 0] 178 fun t1 s6 b5=>?_
 have h6:=b5.ne f1
 have j4:=((((f6.blk (h8.below c0.below) g0).below b3).below b4).below b9).grown d1 a1 Do
 have g2:=b5.ne j4
 have h9:=((((f6.blk (i0.below c0.below) f8).below b3).below b4).below b9).grown d1 a1 Do
 have g9:=b5.ne h9
 have e3:=((((f6.blk (e6.below c0.below) d8).below b3).below b4).below b9).grown d1 a1 Do
 have e0:=b5.ne e3
 have e8:=(c8.below b9).grown d1 a1 Do
 have e1:=b5.ne e8
 have e9:=i9.trans k4
 have n2:=b5.ge e9
 refine xsv 0 b5.blk [V0 2,V0 m] fun s7 e5 n0=>?_
 refine xb 6 0 n0 ?_
 refine xr 0 (args:=#[V0 2]) (Lg _) fun r4 a3=>?_
 have d2:=n0.below a3
 refine xb 10 1 d2 ?_
 refine xb 1 0 d2 ?_
 refine xr 0 (args:=#[V0 m,V0 2]) (Sq (m) (hm) (hm2) _) fun r3 a4=>?_
 have d3:=d2.below a4
 refine xb 9 1 d3 ?_
 refine xb 1 0 d3 ?_
 refine xc 0 (args:=#[V0 m,V0 2]) (Ls (m) (hm) _) ?_
 rintro _ s8 ⟨_,rfl,b2,m7⟩
 have l4:=(bln (bln (e5.below (bln e9 b5.below) n2) a3) a4).size
 have a2:=Zf m7 l4
 unfold Gm at a2
 rw[Zl] at a2
 obtain⟨p1,o4,rfl⟩:=(Ze a2).slice
 have a0:=Za (Za (Za (e5.own2 (Za o9 b5.below) b5.blk Do) a3) a4) b2
 have h7:=bln (bln (bln (e5.below (bln e9 b5.below) n2) a3) a4) b2
 refine xbi 0 fun _ _ _ _ zJ zQ zo zx zy zK=>Zz (m:=2) (news:=(leB (m) 2).map bv) (.int .u8 0) 1 1 (8) ((leB (f) 1++leB (t) 1++leB (k) 2++leB (v) 2++leB (m) 2).map bv) zo Tryz.underlying50 K0 rfl Do zx a0 zy (Ze a2) (by simp[Zl]) (Xw _) (by unfold maxLen;omega) M0 h7.size (by rfl) (by simp) fun p7 p2 u5 q2 c4 k6=>?_
 refine zK _ _ ?_
 have i2:=((((e5.blk (f1.below b5.below) h6).below a3).below a4).below b2).grown c4 a0 Do
 refine xlv 23 (i2.rpp 10 2) ?_
 refine xa 0 [V0 0,V0 0] 178 fun s9 s2 c5=>?_
 have m9:=c5.ne i2
 have m1:=((((e5.blk (j4.below b5.below) g2).below a3).below a4).below b2).grown c4 a0 Do
 have k7:=c5.ne m1
 have k1:=((((e5.blk (h9.below b5.below) g9).below a3).below a4).below b2).grown c4 a0 Do
 have l6:=c5.ne k1
 have h5:=((((e5.blk (e3.below b5.below) e0).below a3).below a4).below b2).grown c4 a0 Do
 have j6:=c5.ne h5
 have j0:=((((e5.blk (e8.below b5.below) e1).below a3).below a4).below b2).grown c4 a0 Do
 have k0:=c5.ne j0
 have j5:=(d3.below b2).grown c4 a0 Do
 have j8:=c5.ne j5
 have g5:=h7.trans k6
 have n3:=c5.ge g5
 refine xsv 0 c5.blk [V0 4,V0 0] fun u3 m5 n4=>?_
 refine xb 6 0 n4 ?_
 refine xr 0 (args:=#[V0 4]) (Mv _) fun t4 d6=>?_
 have d4:=n4.below d6
 refine xb 10 1 d4 ?_
 refine xb 1 0 d4 ?_
 refine xr 0 (args:=#[V0 0,V0 4]) (Rx (0) Do Do _) fun r7 e2=>?_
 have e4:=d4.below e2
 refine xb 9 1 e4 ?_
 refine xb 1 0 e4 ?_
 refine xc 0 (args:=#[V0 0,V0 4]) (Lp (0) Do _) ?_
 rintro _ r6 ⟨_,rfl,i6,l8⟩
 have l7:=(bln (bln (m5.below (bln g5 c5.below) n3) d6) e2).size
 have a9:=Zf l8 l7
 unfold Gm at a9
 rw[Zl] at a9
 obtain⟨o8,q1,rfl⟩:=(Ze a9).slice
 have i8:=Za (Za (Za (m5.own2 (Za q2 c5.below) c5.blk Do) d6) e2) i6
 have e7:=bln (bln (bln (m5.below (bln g5 c5.below) n3) d6) e2) i6
 refine xbi 0 fun _ _ _ _ zJ zQ zo zx zy zK=>Zz (m:=4) (news:=(leB (0) 4).map bv) (.int .u8 0) 1 1 (12) ((leB (f) 1++leB (t) 1++leB (k) 2++leB (v) 2++leB (m) 2++leB (0) 4).map bv) zo Tryz.underlying50 K0 rfl Do zx i8 zy (Ze a9) (by simp[Zl]) (Xw _) (by unfold maxLen;omega) M0 e7.size (by rfl) (by simp) fun l1 k8 s3 o3 q0 m2=>?_
 refine zK _ _ ?_
 have j1:=e7.trans m2
 exact xe 29 (.tuple #[.slice l1 12 k8,V0 0]) ⟨_,rfl,j1,_,_,rfl,o3⟩
theorem Wi{n:Nat}(h:n<4294967296):IntKind.u32.wrap (n:Int)=(n:Int):=by
 simp[IntKind.wrap,IntKind.bits,IntKind.signed];omega
theorem Pg{a b:Nat}(ha:a<4294967296)(hb:b<4294967296):IntKind.u32.wrap (↑(BitVec.ofInt 32 (a:Int) ^^^ BitVec.ofInt 32 (b:Int)).toNat:Int)=((a ^^^ b:Nat):Int):=by
 rw[D3,D3,BitVec.toNat_xor,D9,D9,E0 ha,E0 hb]
 exact Wi (Eq (n:=32) ha hb)
theorem Ey{a b:Nat}(ha:a<4294967296)(hb:b<4294967296):IntKind.u32.wrap (↑(BitVec.ofInt 32 (a:Int) &&& BitVec.ofInt 32 (b:Int)).toNat:Int)=((a &&& b:Nat):Int):=by
 rw[D3,D3,BitVec.toNat_and,D9,D9,E0 ha,E0 hb]
 exact Wi (H6 Nat.and_le_left ha)
theorem Ng(a:Nat)(k:Nat):Int.fdiv (a:Int) (2 ^ k)=((a/2 ^ k:Nat):Int):=by
 rw[Int.fdiv_eq_ediv_of_nonneg _ (Int.pow_nonneg Do)]
 simp
def Zbz(r:Nat):Nat:=if r%2=1 then(r/2) ^^^ 2197175160 else r/2
def Qo:Nat→Nat→Nat
 | 0,r=>r
 | j+1,r=>Zbz (Qo j r)
def Hq(n:Nat):Nat:=Qo 4 n
theorem step1_lt{r:Nat}(h:r<4294967296):Zbz r<4294967296:=by
 unfold Zbz
 split
 ·exact Eq (n:=32) M0 Do
 ·omega
theorem Fy{j r:Nat}(h:r<4294967296):Qo j r<4294967296:=by
 induction j with
 | zero=>exact h
 | succ j ih=>exact step1_lt ih
theorem half_lt{r:Nat}(h:r<4294967296):Hq r<4294967296:=Fy h
def Xt(k:Nat):List Value:=(List.range 16).map fun i=>.int .u32 (if i<k then(Hq i:Int) else 0)
def Vg:List Value:=(List.range 16).map fun i=>.int .u32 (Hq i:Int)
theorem Ee{k:Nat}(h:k<16):(Xt k).set k (.int .u32 (Hq k:Int))=Xt (k+1):=by
 apply F4
 intro i
 by_cases hi:i<16
 ·by_cases e:k=i
  ·subst e
   rw[I6 (by simpa [Xt] using h)]
   simp[Xt,B5 hi]
  ·rw[J0 e]
   simp only[Xt,B7,B5 hi,C5]
   by_cases h3:i<k
   ·rw[if_pos h3,if_pos M0]
   ·rw[if_neg h3,if_neg M0]
 ·rw[C3 (by simp[Xt];omega),C3 (by simp[Xt];omega)]
theorem Fn:Xt 16=Vg:=by
 unfold Xt Vg
 apply H4
 intro i hi
 rw[if_pos (E2.1 hi)]
theorem Pd{k:Nat}(h:k<16):Vg[k]? = some (.int .u32 (Hq k:Int)):=by
 simp[Vg,B5 h]
theorem and_one(a:Nat):a &&& 1=a%2:=Nat.and_one_is_mod a
theorem and_15(a:Nat):a &&& 15=a%16:=Nat.and_two_pow_sub_one_eq_mod a 4
theorem Ik(w:World) :
 C0 281 #[] w (Ret (.agg Vg.toArray) w):=by
 refine zin 26 Tryz.func281 ?_
 refine xa 2 [.int .u32 0,.int .u32 0,.int .u32 0,.int .u32 0,.int .u32 0,.int .u32 0,.int .u32 0,.int .u32 0,.int .u32 0,.int .u32 0,.int .u32 0,.int .u32 0,.int .u32 0,.int .u32 0,.int .u32 0,.int .u32 0] 390 fun b1 W1 n1=>?_
 refine xa 4 [.int .u32 0,.int .u32 0,.int .u32 0,.int .u32 0,.int .u32 0,.int .u32 0,.int .u32 0,.int .u32 0,.int .u32 0,.int .u32 0,.int .u32 0,.int .u32 0,.int .u32 0,.int .u32 0,.int .u32 0,.int .u32 0] 390 fun b2 W2 n2=>?_
 have a7:=n2.ne n1.blk
 have hB:=bln n1.below n2.below
 have b0:=n1.blk.below n2.below
 refine zl 9 26 (fun zm a9 V=>∃ (k:Nat),a9=[(0,P0 b1),(1,P0 b2),(5,V0 (k:Int))]∧zm=16-((k:Int)).toNat∧Bl w V∧Blk V b1 ([.int .u32 0,.int .u32 0,.int .u32 0,.int .u32 0,.int .u32 0,.int .u32 0,.int .u32 0,.int .u32 0,.int .u32 0,.int .u32 0,.int .u32 0,.int .u32 0,.int .u32 0,.int .u32 0,.int .u32 0,.int .u32 0]) 390∧Blk V b2 (Xt k) 390∧k≤16) ⟨0,rfl,rfl,hB,b0,n2.blk,by decide⟩ ?_
 rintro _ _ W3 ⟨k,rfl,rfl,a6,a3,a4,hk⟩ J3 b8 r3
 refine xid 6 ((k:Int)<(16:Int)) (fun b7=>?_) (fun b7=>?_)
 ·refine xq 13 (congrArg (Value.int .u32) (show(IntKind.u32.wrap (k:Int):Int)=(k:Int) from Wi M0)) ?_
  refine zl 10 26 (fun zm a9 V=>∃ (j:Nat),a9=[(0,P0 b1),(1,P0 b2),(2,V0 (k:Int)),(3,.int .u32 (↑(Qo j k):Int)),(5,V0 (k:Int)),(10,V0 (j:Int))]∧zm=4-((j:Int)).toNat∧Bl w V∧Blk V b1 ([.int .u32 0,.int .u32 0,.int .u32 0,.int .u32 0,.int .u32 0,.int .u32 0,.int .u32 0,.int .u32 0,.int .u32 0,.int .u32 0,.int .u32 0,.int .u32 0,.int .u32 0,.int .u32 0,.int .u32 0,.int .u32 0]) 390∧Blk V b2 (Xt k) 390∧j≤4) ⟨0,rfl,rfl,a6,a3,a4,by decide⟩ ?_
  rintro _ _ W5 ⟨j,rfl,rfl,a5,a1,a0,hj⟩ J5 b4 r5
  have hr:Qo j k<4294967296:=Fy M0
  refine xid 6 ((j:Int)<(4:Int)) (fun b6=>?_) (fun b6=>?_)
  ·refine xq 7 (congrArg (Value.int .u32) (show(IntKind.u32.wrap (↑(BitVec.ofInt 32 (↑(Qo j k):Int) &&& BitVec.ofInt 32 (1:Int)).toNat:Int):Int)=(↑((Qo j k)%2):Int) from(Ey (b:=1) hr Do).trans (by rw[and_one]))) ?_
   refine xq 6 (congrArg (Value.int .u32) (show(Int.fdiv (↑(Qo j k):Int) (2 ^ 1):Int)=(↑((Qo j k)/2):Int) from Ng _ 1)) ?_
   refine xie 9 (↑((Qo j k)%2):Int) (1:Int) (fun b5=>?_) (fun b5=>?_)
   ·refine xq 2 (congrArg (Value.int .u32) (show(IntKind.u32.wrap (↑(BitVec.ofInt 32 (↑((Qo j k)/2):Int) ^^^ BitVec.ofInt 32 (2197175160:Int)).toNat:Int):Int)=(↑(((Qo j k)/2) ^^^ 2197175160):Int) from Pg (b:=2197175160) M0 Do)) ?_
    refine xw 5 ((j:Int)+1) ?_
    refine xv1 2 3 (show(.int .u32 (↑(((Qo j k)/2) ^^^ 2197175160):Int):Value)=.int .u32 (↑(Qo (j+1) k):Int) from by rw[show Qo (j+1) k=(((Qo j k)/2) ^^^ 2197175160) by simp only[Qo,Zbz];first|rw[if_pos M0]|rw[if_neg M0]]) ?_
    exact ze 0 (b4 _ _ _ ⟨j+1,rfl,rfl,a5,a1,a0,by omega⟩ M0)
   refine xw 4 ((j:Int)+1) ?_
   refine xv1 2 3 (show(.int .u32 (↑((Qo j k)/2):Int):Value)=.int .u32 (↑(Qo (j+1) k):Int) from by rw[show Qo (j+1) k=((Qo j k)/2) by simp only[Qo,Zbz];first|rw[if_pos M0]|rw[if_neg M0]]) ?_
   exact ze 0 (b4 _ _ _ ⟨j+1,rfl,rfl,a5,a1,a0,by omega⟩ M0)
  refine xia 8 (fun _ _ _ _ zo zx zy V=>Uc (k:=k) (b:=b2) (off:=0) (i:=(k:Int)) (ki:=.i64) 1 k zo zx zy rfl M0 M0 Tryz.underlying390 K0 V) ?_
  refine xsg 0 a0 k (.int .u32 (↑(Qo j k):Int)) (by first|decide|(simp[Xt];omega)) fun W8 u8 k8=>?_
  replace k8:Blk W8 b2 (Xt (k+1)) 390:=by rw[←(show(Xt k).set k (.int .u32 (↑(Qo j k):Int))=Xt (k+1) from by rw[show j=4 by omega];exact Ee M0)];exact k8
  have g2:=n2.ge n1.below
  refine xw 4 ((k:Int)+1) ?_
  have a8:=u8.below a5 g2
  have a2:=u8.blk a1 a7
  exact ze 2 (b8 _ _ _ ⟨k+1,rfl,rfl,a8,a2,k8,by omega⟩ M0)
 refine xlv 7 a4.rp ?_
 refine xsvg 0 a3 0 (Xt k) (by simp[Xt,Value.oneCell']) (by simp[Xt]) fun W9 u9 k9=>?_
 change Blk _ _ (Xt k) _ at k9
 have g1:=n1.ge (B3 w)
 have b3:=u9.below a6 g1
 refine xec 3 k9 (.agg (Xt k).toArray) ?_
 rw[show k=16 by omega,Fn]
 exact⟨rfl,b3⟩
def En(r:Nat)(x:UInt8):Nat:=((((r ^^^ x.toNat)/16) ^^^ Hq ((r ^^^ x.toNat)%16))/16) ^^^ Hq ((((r ^^^ x.toNat)/16) ^^^ Hq ((r ^^^ x.toNat)%16))%16)
def Zt(r:Nat)(l:Bi):Nat:=l.foldl En r
theorem u8_lt(x:UInt8):x.toNat<4294967296:=Nat.lt_trans x.toNat_lt Do
theorem Ji(n:Nat):Hq (n%16)<4294967296:=half_lt M0
theorem Ir{r:Nat}(h:r<4294967296)(x:UInt8):En r x<4294967296:=by
 have h1:r ^^^ x.toNat<4294967296:=Eq (n:=32) h (u8_lt x)
 have h2:((r ^^^ x.toNat)/16) ^^^ Hq ((r ^^^ x.toNat)%16)<4294967296:=Eq (n:=32) M0 (Ji _)
 exact Eq (n:=32) M0 (Ji _)
theorem Ps{r:Nat}(h:r<4294967296)(l:Bi):Zt r l<4294967296:=by
 unfold Zt
 induction l generalizing r with
 | nil=>exact h
 | cons x l ih=>exact ih (Ir h x)
theorem El{r:Nat}{l:Bi}{k:Nat}(h:k<l.length):Zt r (l.take (k+1))=En (Zt r (l.take k)) (l.getD k 0):=by
 unfold Zt
 rw[A4 h,List.foldl_append]
 simp[List.getD,B4 h]
theorem Bys.elem{w:World}{b:O0}{c:Nat}{l:Bi}(h:Bys w (.slice b l.length c) l){k:Nat}(hk:k<l.length):b.isSome=true∧w.cell? (Zr b (k*1))=some (.int .u8 ((l.getD k 0).toNat:Int)):=by
 refine Sl.elem h ?_
 rw[D0,B7,B4 hk]
 simp[List.getD,B4 hk,bv]
theorem u32_byte(x:UInt8):IntKind.u32.wrap (x.toNat:Int)=(x.toNat:Int):=Wi (u8_lt x)
theorem crc_run(r:Nat)(hr0:r<4294967296)(a:O0)(c:Nat)(l:Bi)(w:World)(h:Bys w (.slice a l.length c) l)(hl:l.length≤100000000) :
 C0 264 #[.int .u32 (r:Int),.slice a l.length c] w (Ret (.int .u32 (Zt r l:Int)) w):=by
 refine zin 35 Tryz.func264 ?_
 refine xr 7 (args:=#[]) (Ik _) fun W1 a2=>?_
 refine xa 0 [.int .u32 0,.int .u32 0,.int .u32 0,.int .u32 0,.int .u32 0,.int .u32 0,.int .u32 0,.int .u32 0,.int .u32 0,.int .u32 0,.int .u32 0,.int .u32 0,.int .u32 0,.int .u32 0,.int .u32 0,.int .u32 0] 390 fun b2 W2 n2=>?_
 refine xsvg 0 n2.blk 0 Vg (by simp[Vg,Value.oneCell']) (by simp[Vg]) fun W3 u3 k3=>?_
 change Blk _ _ Vg _ at k3
 have g2:=n2.ge a2
 have hB:=u3.below (bln a2 n2.below) g2
 refine zl 11 35 (fun zm a4 V=>∃ (k:Nat),a4=[(0,.int .u32 (↑(Zt r (l.take k)):Int)),(4,.int .u32 0),(5,P0 b2),(9,.slice a l.length c),(10,V0 (l.length:Int)),(11,V0 (k:Int))]∧zm=l.length-((k:Int)).toNat∧Bl w V∧Blk V b2 Vg 390∧k≤l.length) ⟨0,rfl,rfl,hB,k3,A6 _⟩ ?_
 rintro _ _ W4 ⟨k,rfl,rfl,a1,a0,hk⟩ J4 a5 r4
 have h0:Zt r (l.take k)<4294967296:=Ps hr0 _
 have h1:(Zt r (l.take k)) ^^^ (l.getD k 0).toNat<4294967296:=Eq (n:=32) h0 (u8_lt _)
 have h2:(((Zt r (l.take k)) ^^^ (l.getD k 0).toNat)/16) ^^^ Hq (((Zt r (l.take k)) ^^^ (l.getD k 0).toNat)%16)<4294967296:=Eq (n:=32) M0 (Ji _)
 refine xid 6 ((k:Int)<(l.length:Int)) (fun a3=>?_) (fun a3=>?_)
 ·refine xx 6 _ l.length k 1 (Bys.elem h (k:=k) M0).1 ?_
  refine xl 0 ((Bys.elem (h.below a1) (k:=k) M0).2) ?_
  refine xq 7 (congrArg (Value.int .u32) (show(IntKind.u32.wrap (↑(l.getD k 0).toNat:Int):Int)=(↑(l.getD k 0).toNat:Int) from u32_byte _)) ?_
  refine xq 0 (congrArg (Value.int .u32) (show(IntKind.u32.wrap (↑(BitVec.ofInt 32 (↑(Zt r (l.take k)):Int) ^^^ BitVec.ofInt 32 (↑(l.getD k 0).toNat:Int)).toNat:Int):Int)=(↑((Zt r (l.take k)) ^^^ (l.getD k 0).toNat):Int) from Pg h0 (u8_lt _))) ?_
  refine xq 6 (congrArg (Value.int .u32) (show(Int.fdiv (↑((Zt r (l.take k)) ^^^ (l.getD k 0).toNat):Int) (2 ^ 4):Int)=(↑(((Zt r (l.take k)) ^^^ (l.getD k 0).toNat)/16):Int) from Ng _ 4)) ?_
  refine xq 1 (congrArg (Value.int .u32) (show(IntKind.u32.wrap (↑(BitVec.ofInt 32 (↑((Zt r (l.take k)) ^^^ (l.getD k 0).toNat):Int) &&& BitVec.ofInt 32 (15:Int)).toNat:Int):Int)=(↑(((Zt r (l.take k)) ^^^ (l.getD k 0).toNat)%16):Int) from(Ey (b:=15) h1 Do).trans (by rw[and_15]))) ?_
  refine xia 0 (fun _ _ _ _ zo zx zy V=>Uc (k:=(((Zt r (l.take k)) ^^^ (l.getD k 0).toNat)%16)) (b:=b2) (off:=0) (i:=(↑(((Zt r (l.take k)) ^^^ (l.getD k 0).toNat)%16):Int)) (ki:=.u32) 1 (((Zt r (l.take k)) ^^^ (l.getD k 0).toNat)%16) zo zx zy rfl M0 M0 Tryz.underlying390 K0 V) ?_
  refine xl 0 (a0.cell (i:=(((Zt r (l.take k)) ^^^ (l.getD k 0).toNat)%16)) (Pd M0)) ?_
  refine xq 0 (congrArg (Value.int .u32) (show(IntKind.u32.wrap (↑(BitVec.ofInt 32 (↑(((Zt r (l.take k)) ^^^ (l.getD k 0).toNat)/16):Int) ^^^ BitVec.ofInt 32 (↑(Hq (((Zt r (l.take k)) ^^^ (l.getD k 0).toNat)%16)):Int)).toNat:Int):Int)=(↑((((Zt r (l.take k)) ^^^ (l.getD k 0).toNat)/16) ^^^ Hq (((Zt r (l.take k)) ^^^ (l.getD k 0).toNat)%16)):Int) from Pg (H6 (J6 _ _) h1) (Ji _))) ?_
  refine xq 5 (congrArg (Value.int .u32) (show(Int.fdiv (↑((((Zt r (l.take k)) ^^^ (l.getD k 0).toNat)/16) ^^^ Hq (((Zt r (l.take k)) ^^^ (l.getD k 0).toNat)%16)):Int) (2 ^ 4):Int)=(↑(((((Zt r (l.take k)) ^^^ (l.getD k 0).toNat)/16) ^^^ Hq (((Zt r (l.take k)) ^^^ (l.getD k 0).toNat)%16))/16):Int) from Ng _ 4)) ?_
  refine xq 1 (congrArg (Value.int .u32) (show(IntKind.u32.wrap (↑(BitVec.ofInt 32 (↑((((Zt r (l.take k)) ^^^ (l.getD k 0).toNat)/16) ^^^ Hq (((Zt r (l.take k)) ^^^ (l.getD k 0).toNat)%16)):Int) &&& BitVec.ofInt 32 (15:Int)).toNat:Int):Int)=(↑(((((Zt r (l.take k)) ^^^ (l.getD k 0).toNat)/16) ^^^ Hq (((Zt r (l.take k)) ^^^ (l.getD k 0).toNat)%16))%16):Int) from(Ey (b:=15) h2 Do).trans (by rw[and_15]))) ?_
  refine xia 0 (fun _ _ _ _ zo zx zy V=>Uc (k:=(((((Zt r (l.take k)) ^^^ (l.getD k 0).toNat)/16) ^^^ Hq (((Zt r (l.take k)) ^^^ (l.getD k 0).toNat)%16))%16)) (b:=b2) (off:=0) (i:=(↑(((((Zt r (l.take k)) ^^^ (l.getD k 0).toNat)/16) ^^^ Hq (((Zt r (l.take k)) ^^^ (l.getD k 0).toNat)%16))%16):Int)) (ki:=.u32) 1 (((((Zt r (l.take k)) ^^^ (l.getD k 0).toNat)/16) ^^^ Hq (((Zt r (l.take k)) ^^^ (l.getD k 0).toNat)%16))%16) zo zx zy rfl M0 M0 Tryz.underlying390 K0 V) ?_
  refine xl 0 (a0.cell (i:=(((((Zt r (l.take k)) ^^^ (l.getD k 0).toNat)/16) ^^^ Hq (((Zt r (l.take k)) ^^^ (l.getD k 0).toNat)%16))%16)) (Pd M0)) ?_
  refine xq 0 (congrArg (Value.int .u32) (show(IntKind.u32.wrap (↑(BitVec.ofInt 32 (↑(((((Zt r (l.take k)) ^^^ (l.getD k 0).toNat)/16) ^^^ Hq (((Zt r (l.take k)) ^^^ (l.getD k 0).toNat)%16))/16):Int) ^^^ BitVec.ofInt 32 (↑(Hq (((((Zt r (l.take k)) ^^^ (l.getD k 0).toNat)/16) ^^^ Hq (((Zt r (l.take k)) ^^^ (l.getD k 0).toNat)%16))%16)):Int)).toNat:Int):Int)=(↑((((((Zt r (l.take k)) ^^^ (l.getD k 0).toNat)/16) ^^^ Hq (((Zt r (l.take k)) ^^^ (l.getD k 0).toNat)%16))/16) ^^^ Hq (((((Zt r (l.take k)) ^^^ (l.getD k 0).toNat)/16) ^^^ Hq (((Zt r (l.take k)) ^^^ (l.getD k 0).toNat)%16))%16)):Int) from Pg (H6 (J6 _ _) h2) (Ji _))) ?_
  refine xw 5 ((k:Int)+1) ?_
  refine xv1 2 0 (show(.int .u32 (↑((((((Zt r (l.take k)) ^^^ (l.getD k 0).toNat)/16) ^^^ Hq (((Zt r (l.take k)) ^^^ (l.getD k 0).toNat)%16))/16) ^^^ Hq (((((Zt r (l.take k)) ^^^ (l.getD k 0).toNat)/16) ^^^ Hq (((Zt r (l.take k)) ^^^ (l.getD k 0).toNat)%16))%16)):Int):Value)=.int .u32 (↑(Zt r (l.take (k+1))):Int) from by rw[El M0];rfl) ?_
  exact ze 0 (a5 _ _ _ ⟨k+1,rfl,rfl,a1,a0,by omega⟩ M0)
 refine xe 12 (.int .u32 (↑(Zt r (l.take k)):Int)) ?_
 rw[A5 M0]
 exact⟨rfl,a1⟩
def Ht(l:Bi):Nat:=Zt 4294967295 l ^^^ 4294967295
theorem Po(l:Bi):Ht l<4294967296:=Eq (n:=32) (Ps Do l) Do
theorem Lx{n:Nat}(h:n<9223372036854775808):IntKind.i64.wrap (n:Int)=(n:Int):=IntWalk.i64_in _ M0
theorem i64_xor{a b:Nat}(ha:a<4294967296)(hb:b<4294967296):IntKind.i64.wrap (↑(BitVec.ofInt 64 (a:Int) ^^^ BitVec.ofInt 64 (b:Int)).toNat:Int)=((a ^^^ b:Nat):Int):=by
 rw[D3,D3,BitVec.toNat_xor,D9,D9,E0 M0,E0 M0]
 have:=Eq (n:=32) ha hb
 exact Lx M0
theorem crc_Sum1(g:Nat)(a:O0)(c:Nat)(l:Bi)(w:World)(hk:Blk w g [.slice a l.length c] 50)(h:Bys w (.slice a l.length c) l)(hl:l.length≤100000000) :
 C0 223 #[.slice (S1 g) 1 1] w (Ret (V0 (Ht l:Int)) w):=by
 refine zin 19 Tryz.func223 ?_
 refine xu 19 3 ?_
 refine xb 14 0 hk ?_
 refine xr 6 (args:=#[.int .u32 4294967295,.slice a l.length c]) (crc_run 4294967295 Do a c l _ (h.below (B3 w)) hl) fun W1 a0=>?_
 refine xq 24 (congrArg (Value.int .u32) (show(IntKind.u32.wrap (↑(BitVec.ofInt 32 (↑(Zt 4294967295 l):Int) ^^^ BitVec.ofInt 32 (4294967295:Int)).toNat:Int):Int)=(↑(Ht l):Int) from Pg (b:=4294967295) (Ps Do l) Do)) ?_
 refine xq 0 (congrArg V0 (show(IntKind.i64.wrap (↑(Ht l):Int):Int)=(↑(Ht l):Int) from Lx (by have:=Po l;omega))) ?_
 exact xe 4 (V0 (↑(Ht l):Int)) ⟨rfl,a0⟩
theorem Zdf(g:Nat)(a:O0)(n c:Nat)(l:Bi)(w:World)(hn:l.length=n)(hk:Blk w g [.slice a n c] 50)(h:Bys w (.slice a n c) l)(hl:n≤100000000) :
 C0 223 #[.slice (S1 g) 1 1] w (Ret (V0 (Ht l:Int)) w):=by
 subst hn;exact crc_Sum1 g a c l w hk h hl
def Nu(kind:Int):Nat:=if kind=1 then 160774 else if kind=2 then 121107 else if kind=3 then 240779 else if kind=4 then 160478 else 0
theorem Ru(kind:Int):Nu kind<4294967296:=by unfold Nu;(repeat' split)<;>omega
theorem Zbm(kind:Int)(w:World) :
 C0 224 #[V0 kind] w (Ret (V0 (Nu kind:Int)) w):=by
 refine zin 12 Tryz.func224 ?_
 refine xie 18 kind (1:Int) (fun a1=>?_) (fun a1=>?_)
 ·exact xe 8 (V0 160774) ⟨by simp_all [Nu],(B3 w)⟩
 refine xie 6 kind (2:Int) (fun a3=>?_) (fun a3=>?_)
 ·exact xe 8 (V0 121107) ⟨by simp_all [Nu],(B3 w)⟩
 refine xie 6 kind (3:Int) (fun a0=>?_) (fun a0=>?_)
 ·exact xe 8 (V0 240779) ⟨by simp_all [Nu],(B3 w)⟩
 refine xie 6 kind (4:Int) (fun a2=>?_) (fun a2=>?_)
 ·exact xe 8 (V0 160478) ⟨by simp_all [Nu],(B3 w)⟩
 exact xe 9 (V0 0) ⟨by simp_all [Nu],(B3 w)⟩
theorem Io(kind no:Int)(h1:1≤kind)(h2:kind≤4)(h3:0≤no)(h4:no<14400)(w:World) :
 C0 165 #[V0 kind,V0 no] w (Ret (.bool true) w):=by
 refine zin 19 Tryz.func165 ?_
 refine xgk 10 [6,7] (show(decide (kind≥(1:Int)):Bool)=true from decide_eq_true h1) ?_
 refine xgk 4 [9,10,11] (show(decide (kind≤(4:Int)):Bool)=true from decide_eq_true h2) ?_
 refine xgk 4 [13,14,15] (show(decide (no≥(0:Int)):Bool)=true from decide_eq_true h3) ?_
 exact xe 7 (.bool (decide (no<(14400:Int)))) ⟨by rw[decide_eq_true h4],(B3 w)⟩
theorem Bys.take{w:World}{a:O0}{n c:Nat}{l:Bi}(h:Bys w (.slice a n c) l)(hn:l.length=n)(m:Nat)(hm:m≤n):Bys w (.slice a m c) (l.take m):=by
 have a0:(l.take m).length=m:=by simp;omega
 rcases h with ⟨a',c',h1,h2,h3⟩|⟨b,a2,a3,h1,h2,h3,h4⟩
 ·obtain rfl:m=0:=by omega
  simp only[A7] at h1
  exact .inl ⟨a,c,rfl,by simp,by simp⟩
 ·simp only[A7] at h1
  obtain⟨rfl,_,rfl⟩:=h1
  refine .inr ⟨b,a2,c,by rw[a0],by omega,h3,fun j x hj=>h4 j x ?_⟩
  have a1:j<m:=by have:=(List.getElem?_eq_some_iff.1 hj).1;simp at this;omega
  rwa [E5,E1 a1] at hj
def sumB(l:Bi)(kind:Int):Nat:=Ht (l.take 252) ^^^ Nu kind
theorem sumB_lt(l:Bi)(kind:Int):sumB l kind<4294967296:=Eq (n:=32) (Po _) (Ru _)
theorem seal_sum(kind:Int)(a:O0)(c:Nat)(l:Bi)(w:World)(hn:l.length=256)(hc:256≤c)(h:Bys w (.slice a 256 c) l) :
 C0 167 #[.slice a 256 c,V0 kind] w (Ret (V0 (sumB l kind:Int)) w):=by
 refine zin 12 Tryz.func167 ?_
 refine xsH 8 (fun _ _ _ _ zo zx zy V=>Vq (k:=252) (b:=a) (n:=256) (c:=c) (i:=252) (ki:=.i64) zo zx zy rfl M0 Tryz.underlying50 K0 V) ?_
 refine xbs 0 1 [.slice a 252 c] 50 fun b1 W1 n1=>?_
 refine xr 0 (args:=#[.slice (S1 b1) 1 1]) (Zdf b1 a 252 c (l.take 252) _ (by simp;omega) n1.blk ((h.take hn 252 Do).below n1.below) Do) fun W2 a2=>?_
 refine xr 1 (args:=#[V0 kind]) (Zbm kind _) fun W3 a1=>?_
 refine xq 0 (congrArg V0 (show(IntKind.i64.wrap (↑(BitVec.ofInt 64 (↑(Ht (l.take 252)):Int) ^^^ BitVec.ofInt 64 (↑(Nu kind):Int)).toNat:Int):Int)=(↑(sumB l kind):Int) from i64_xor (Po _) (Ru _))) ?_
 have a0:=bln (bln n1.below a2) a1
 exact xe 4 (V0 (↑(sumB l kind):Int)) ⟨rfl,a0⟩
theorem Ve{l:Bi}{k:Nat}{x:Bi}(h:k+x.length≤l.length):(Vy l k x).length=l.length:=by simp[Vy];omega
theorem Cy(n:Nat):Kk (Value.int .u8 0).cells.toList n=(List.replicate n (0:UInt8)).map bv:=by
 rw[show(Value.int .u8 0).cells.toList=[Value.int .u8 0] from rfl,Kk,K8]
 induction n with
 | zero=>rfl
 | succ n ih=>rw[H5,K9,ih,H5];rfl
theorem Qf{w:World}{v:Value}{n:Nat}{l:Bi}(h:Sl w v n (l.map bv))(hn:l.length=n):Bys w v l:=by subst hn;exact h
theorem Dk{w:World}{base n c size:Nat}{e:TypeId}{p:O0}{xs:List Value}(h:w.ownsRow base e size (.slice p n c) n xs)(hn:0<n):n≤c:=by
 rcases h.2 with ⟨_,h0⟩|⟨g,a0,a1,hv,_,_,hc,_⟩
 ·omega
 ·simp only[A7] at hv;omega
theorem putN{m:Nat}{l:Bi}{k:Nat}{x:Bi}{w:World}{e:Ending}{w':World}(hm:l.length=m)(hk:k+x.length≤m)(h:Qh (fun w' r=>∃ v,r=.tuple #[v,V0 0]∧Gm w.heap.size w' v (Vy l k x)) w e w') :
 Qh (fun w' r=>∃ p c,r=.tuple #[.slice p m c,V0 0]∧w'.ownsRow w.heap.size 5 1 (.slice p m c) m ((Vy l k x).map bv)) w e w':=by
 obtain⟨r,h1,h2,v,h3,h4⟩:=h
 unfold Gm at h4
 rw[Ve M0,hm] at h4
 obtain⟨p,c,rfl⟩:=(Ze h4).slice
 exact⟨r,h1,h2,p,c,h3,h4⟩
theorem Put_4N(a:O0)(m c k:Nat)(ki:Int)(l:Bi)(n:Int)(w:World)(hm:l.length=m)(hki:ki=(k:Int))(h:Bys w (.slice a m c) l)(hl:m≤100000)(hk:k+4≤m)(h0:0≤n)(hb:n<4294967296) :
 C0 166 #[.slice a m c,V0 ki,V0 4,V0 n] w (Qh (fun w' r=>∃ p c,r=.tuple #[.slice p m c,V0 0]∧w'.ownsRow w.heap.size 5 1 (.slice p m c) m ((Vy l k (leB n 4)).map bv)) w):=by
 subst hki
 refine(show Calls _ _ #[.slice a m c,V0 (k:Int),V0 4,V0 n] w _ from ?_)
 have:=Put_4 a c k l n w (by rw[hm];exact h) M0 M0 h0 hb
 rw[hm] at this
 exact this.mono fun e w' q=>putN hm (by rw[Zl];omega) q
theorem Put_2N(a:O0)(m c k:Nat)(ki:Int)(l:Bi)(n:Int)(w:World)(hm:l.length=m)(hki:ki=(k:Int))(h:Bys w (.slice a m c) l)(hl:m≤100000)(hk:k+2≤m)(h0:0≤n)(hb:n<65536) :
 C0 166 #[.slice a m c,V0 ki,V0 2,V0 n] w (Qh (fun w' r=>∃ p c,r=.tuple #[.slice p m c,V0 0]∧w'.ownsRow w.heap.size 5 1 (.slice p m c) m ((Vy l k (leB n 2)).map bv)) w):=by
 subst hki
 have:=Put_2 a c k l n w (by rw[hm];exact h) M0 M0 h0 hb
 rw[hm] at this
 exact this.mono fun e w' q=>putN hm (by rw[Zl];omega) q
def Tu(li:Bi):Bi:=Vy (List.replicate 256 0) 8 li
def seal2(no:Int)(li:Bi):Bi:=Vy (Tu li) 0 (leB no 4)
def Lv(kind no:Int)(li:Bi):Bi:=Vy (seal2 no li) 4 (leB kind 2)
def Wc(kind no:Int)(li:Bi):Bi:=Vy (Lv kind no li) 252 (leB (sumB (Lv kind no li) kind) 4)
theorem Hx{li:Bi}(h:li.length≤244):(Tu li).length=256:=by rw[Tu,Ve (by rw[A8];omega),A8]
theorem Hv{no:Int}{li:Bi}(h:li.length≤244):(seal2 no li).length=256:=by rw[seal2,Ve (by rw[Zl,Hx h];omega),Hx h]
theorem Vo{kind no:Int}{li:Bi}(h:li.length≤244):(Lv kind no li).length=256:=by rw[Lv,Ve (by rw[Zl,Hv h];omega),Hv h]
theorem Ce{kind no:Int}{li:Bi}(h:li.length≤244):(Wc kind no li).length=256:=by rw[Wc,Ve (by rw[Zl,Vo h];omega),Vo h]
theorem Za3(kind no:Int)(h1:1≤kind)(h2:kind≤4)(h3:0≤no)(h4:no<14400)(a:O0)(c:Nat)(li:Bi)(w:World)(hl:li.length≤244)(h:Bys w (.slice a li.length c) li) :
 C0 98 #[V0 kind,V0 no,.slice a li.length c] w (Qh (fun w' r=>∃ p c,r=.tuple #[.slice p 256 c,V0 0]∧w'.ownsRow w.heap.size 5 1 (.slice p 256 c) 256 ((Wc kind no li).map bv)) w):=by
 refine zin 54 Tryz.func98 ?_
 refine xr 11 (args:=#[V0 kind,V0 no]) (Io kind no h1 h2 h3 h4 _) fun W1 c6=>?_
 refine xk 14 (show(decide ((li.length:Int)>(244:Int)):Bool)=false from decide_eq_false M0) ?_
 refine xmk 4 fun _ _ _ _ zJ zQ zo zx zy zK=>Ka 256 (.int .u8 0) 1 1 ((List.replicate 256 (0:UInt8)).map bv) zo zx zy Tryz.underlying50 K0 rfl M0 M0 (Cy 256) fun b2 W2 n2=>?_
 refine zK _ _ ?_
 have o2:=Xg (size:=1) (n:=256) n2.blk (n2.ge c6) (by simp) (by unfold maxLen;omega)
 have hB:=bln c6 n2.below
 refine xbi 8 (t2:=50) fun _ _ _ _ zJ zQ zo zx zy zK=>Jd (dLen:=248) (dCap:=248) (off:=8) li.length (li.map bv) ((Tu li).map bv) zo Tryz.underlying50 K0 zx zy (h.below hB) o2 (by simp) M0 M0 (Xw li) hB.size (by simp[Tu,Vy,G6]) fun W3 o3 d2 c9=>?_
 refine zK _ _ ?_
 refine xbs 9 2 [V0 0,V0 4,V0 no,V0 4,V0 2,V0 kind] 261 fun b4 W4 n4=>?_
 have a8:=hB.trans c9
 have g4:=n4.ge a8
 refine xu 5 4 ?_
 refine xlv 14 (n4.blk.rpp 0 3) ?_
 refine xa 0 [V0 0,V0 0,V0 0] 261 fun b5 W5 n5=>?_
 have a6:=n5.ne n4.blk
 have a3:=bln a8 n4.below
 have g5:=n5.ge a3
 refine xsv 0 n5.blk [V0 0,V0 4,V0 no] fun W6 u6 k6=>?_
 refine xb 5 0 k6 ?_
 refine xb 1 1 k6 ?_
 refine xb 1 2 k6 ?_
 have a4:=u6.own2 (Za (Za o3 n4.below) n5.below) n5.blk Do
 refine xc 0 (args:=#[.slice (S1 b2) 256 256,V0 0,V0 4,V0 no]) (Put_4N (S1 b2) 256 256 0 0 (Tu li) (no) _ (Hx hl) rfl (Qf (Ze a4) (Hx hl)) Do Do (h3) M0) ?_
 rintro _ W7 ⟨_,rfl,a9,p1,c1,rfl,o1⟩
 have c8:=(u6.below (bln a3 n5.below) g5).size
 have a7:=(u6.blk (n4.blk.below n5.below) a6).below a9
 refine xlv 26 (a7.rpp 3 3) ?_
 refine xa 0 [V0 0,V0 0,V0 0] 261 fun b8 W8 n8=>?_
 have c5:=n8.ne a7
 have b3:=k6.below a9
 have c7:=n8.ne b3
 have a0:=bln (u6.below (bln a3 n5.below) g5) a9
 have g8:=n8.ge a0
 refine xsv 0 n8.blk [V0 4,V0 2,V0 kind] fun W9 u9 k9=>?_
 refine xb 5 0 k9 ?_
 refine xb 1 1 k9 ?_
 refine xb 1 2 k9 ?_
 have b1:=u9.own2 (Za (Zf o1 c8) n8.below) n8.blk Do
 refine xc 0 (args:=#[.slice p1 256 c1,V0 4,V0 2,V0 kind]) (Put_2N p1 256 c1 4 4 (seal2 no li) (kind) _ (Hv hl) rfl (Qf (Ze b1) (Hv hl)) Do Do M0 M0) ?_
 rintro _ d3 ⟨_,rfl,a5,p2,c2,rfl,o2⟩
 have b7:=(u9.below (bln a0 n8.below) g8).size
 have a2:=Zf o2 b7
 refine xr 29 (args:=#[.slice p2 256 c2,V0 kind]) (seal_sum kind p2 c2 (Lv kind no li) _ (Vo hl) (Dk a2 Do) (Qf (Ze a2) (Vo hl))) fun d4 a1=>?_
 have b0:=Za a2 a1
 refine xc 0 (args:=#[.slice p2 256 c2,V0 252,V0 4,V0 (↑(sumB (Lv kind no li) kind):Int)]) (Put_4N p2 256 c2 252 252 (Lv kind no li) ((sumB (Lv kind no li) kind:Int)) _ (Vo hl) rfl (Qf (Ze b0) (Vo hl)) Do Do (F9 _) (by have:=sumB_lt (Lv kind no li) kind;omega)) ?_
 have d0:=Za a4 a9
 rintro _ d1 ⟨_,rfl,b9,p3,c3,rfl,o3⟩
 have c0:=(bln (bln (u9.below (bln a0 n8.below) g8) a5) a1).size
 have b6:=bln (bln (bln (u9.below (bln a0 n8.below) g8) a5) a1) b9
 have c4:=Zf o3 c0
 exact xe 14 (.tuple #[.slice p3 256 c3,V0 0]) ⟨_,rfl,b6,_,_,rfl,c4⟩
end Go.Proofs.YtekomodnkfhihaaGreatDoor
namespace Go.Proofs.YtekomodnkfhihaaGreatDoor
set_option maxHeartbeats 8000000
set_option maxRecDepth 100000
open Go.RowKit
set_option linter.unusedVariables false
section
variable {P:Program} {Q:Exit→Act→World→Prop} {a:Act} {w:World} {K:Act→World→Prop}
theorem Tp{o:Oper}{t e:TypeId}{x y y2 y3:Operand}{b off n k h c:Nat}{i j j2:Int}{ki kj kj2:IntKind}(size off' d:Nat)(ho:o.op=.slice t x (some y) (some y2) (some y3))(hx:a.eval x=.slice (some ⟨b,off,none⟩) n c)(hy:a.eval y=.int ki i)(hi:i=(k:Int))(hy2:a.eval y2=.int kj j)(hj:j=(h:Int))(hy3:a.eval y3=.int kj2 j2)(hj2:j2=(h:Int))
 (hk:k<h) (hc:h≤c) (hoff:off+k*size=off') (hd:h-k=d) (ht:P.underlying t=some (.slice e)) (hs:(P.info? e).map (·.size)=some size) (w:World):(execOp a.eval o).run P w=.ok (.value (.slice (some ⟨b,off',none⟩) d d)) w:=by
 cases hq:P.info? e with
 | none=>simp[hq] at hs
 | some q =>
  have hj:q.size=size:=by simpa [hq] using hs
  subst hi hj hj2 hoff hd
  have h1:(0:Int)≤(k:Int):=by omega
  have h2:(0:Int)≤(h:Int):=by omega
  have h3:(k:Int)≤(h:Int):=by omega
  have h4:(h:Int)≤(c:Int):=by omega
  have h5:¬ h=k:=by omega
  simp_all [execOp,Instr.sliceAt,Instr.slice,Instr.sliceBounds,Instr.sliceBound,asIntOf,run_underlying ht,sizeOf,typeInfo,Addr.add_mid]
def Uv(b:O0)(k c size:Nat):O0:=if c=k then b else b.map (·.add (k*size))
theorem Pp{o:Oper}{t e:TypeId}{x y:Operand}{b:O0}{n k c:Nat}{i:Int}{ki:IntKind}(size:Nat)(ho:o.op=.slice t x (some y) none none)(hx:a.eval x=.slice b n c)(hy:a.eval y=.int ki i)(hi:i=(k:Int))(hk:k≤n)
 (ht:P.underlying t=some (.slice e)) (hs:(P.info? e).map (·.size)=some size) (w:World):(execOp a.eval o).run P w=.ok (.value (.slice (Uv b k c size) (n-k) (c-k))) w:=by
 cases hq:P.info? e with
 | none=>simp[hq] at hs
 | some j =>
  have hj:j.size=size:=by simpa [hq] using hs
  subst hi
  have h1:(0:Int)≤(k:Int):=by omega
  have h2:(k:Int)≤(n:Int):=by omega
  by_cases h3:c=k
  ·simp[execOp,ho,hx,hy,Instr.sliceAt,Instr.slice,Instr.sliceBounds,Instr.sliceBound,asIntOf,run_underlying ht,sizeOf,typeInfo,hq,hk,h3,Uv]
  ·simp[execOp,ho,hx,hy,Instr.sliceAt,Instr.slice,Instr.sliceBounds,Instr.sliceBound,asIntOf,run_underlying ht,sizeOf,typeInfo,hq,hj,hk,h3,Uv]
end
end Go.Proofs.YtekomodnkfhihaaGreatDoor
namespace Go.Proofs.YtekomodnkfhihaaGreatDoor
set_option maxHeartbeats 8000000
set_option maxRecDepth 100000
open Go.RowKit Go.Extern.Stop Go.Stop Go.Extern
set_option linter.unusedVariables false
theorem errno_eq{P:Program}(w:World){ti tn:TypeId}{ms:Array (String×TypeId)}{i:TypeInfo}{k:IntKind}(a b:Int)
 (hi:P.underlying ti=some (.interface ms)) (hn:P.underlying tn=some (.int k)) (hinfo:P.info? tn=some i) (hcomp:i.comparable=true) :
 (binOp .eql ti (.iface tn (.int k a)) (.iface tn (.int k b))).run P w=.ok (.bool (a==b)) w:=by
 have h:∀ d:Nat,(Op.equalIn (d+2) ti (.iface tn (.int k a)) (.iface tn (.int k b))).run P w=.ok (a==b) w:=fun d=>by simp[Op.equalIn,run_underlying hi,run_underlying hn,typeInfo,hinfo,hcomp]
 simp only[binOp]
 simp[Op.equal,Op.maxDepth,h 9998]
theorem Tryz.eqN(a b:Int)(w:World):(binOp .eql 39 (.iface 33 (V0 a)) (.iface 33 (V0 b))).run Tryz.prog w=.ok (.bool (a==b)) w:=by
 obtain⟨i,h1,h2⟩:=Option.map_eq_some_iff.1 (show(Tryz.prog.info? 33).map (·.comparable)=some true by kernel_rfl)
 exact errno_eq w a b Tryz.underlying39 Tryz.underlying33 h1 h2
theorem Tryz.methComparable (h : Value) (w : World) : (Go.method 523 311 (.agg #[h]) "Comparable").run Tryz.prog w = .ok (317, .agg #[h]) w := by kernel_rfl
theorem Tryz.comparableN(w:World):(callFunc 317 #[.agg #[.pointer (some ⟨4,33,none⟩)]]).run Tryz.prog w=.ok (Next.value (.bool true)) w:=by kernel_rfl
theorem Oa(c d:Int)(w:World):C0 225 #[.iface 33 (V0 c),.iface 33 (V0 d),.bool true] w (Ret (.bool (c==d)) w):=by
 have y1:=Tryz.eqN
 have y2:=Tryz.noIsN
 have y3:=Tryz.noUnwrapN
 have y4:=Tryz.noUnwrapsN
 go_enter Tryz.func225,Tryz.ntmps225
 go_wp2_with fail
 go_loopw [0] (fun v wr=>v=.iface 33 (V0 c)∧wr=w) (fun _ _=>0)
 case atStart=>exact⟨rfl,rfl⟩
 case round =>
  obtain⟨rfl,rfl⟩:=hrel
  by_cases h:c=d
  ·have h':(c==d)=true:=by simpa using h
   have HH:=Lib.hid h;clear h
   go_wp2_with fail
   go_ret
   exact⟨by rw[h'];rfl,Below.refl _ _⟩
  ·have h':(c==d)=false:=by simpa using h
   have HH:=Lib.hid h;clear h
   go_wp2_with fail
   go_ret
   exact⟨by rw[h'];rfl,Below.refl _ _⟩
theorem Mr(c d:Int)(w:World):C0 169 #[.iface 33 (V0 c),.iface 33 (V0 d)] w (Ret (.bool (c==d)) w):=by
 have a0:=@run_callFunc_extern Tryz.prog 208 _ ReflectliteType.typeOf Tryz.func208 K0 K0 K0 K0
 have y1:=Tryz.typeOfN
 have y2:=Tryz.methComparable
 have y3:=Tryz.comparableN
 go_enter Tryz.func169,Tryz.ntmps169
 go_wp2_with fail
 refine(Oa c d _).mono ?_
 rintro e w' ⟨rfl,hb⟩
 go_wp2_with fail
 go_ret
 exact⟨rfl,hb⟩
theorem Iu(no c:Int)(w:World):C0 100 #[V0 no,.iface 33 (V0 c)] w (Qh (fun w' r=>Jw w' (if c=0 then [] else [some no]) (if c=0 then none else some c) r) w):=by
 by_cases h:c=0
 ·subst h
  go_enter Tryz.func100,Tryz.ntmps100
  go_wp2_with fail
  refine(Mr 0 0 _).mono ?_
  rintro e w1 ⟨rfl,hb⟩
  rw[show((0:Int)==0)=true from rfl]
  go_wp2_with fail
  go_ret
  exact⟨_,rfl,hb,rfl⟩
 ·have h':(c==0)=false:=by simpa using h
  simp only[h,if_false]
  have HC:=Lib.hid h;clear h
  go_enter Tryz.func100,Tryz.ntmps100
  go_wp2_with fail
  refine(Mr c 0 _).mono ?_
  rintro e w1 ⟨rfl,hb⟩
  rw[h']
  go_wp2_with fail
  refine(fault_At no (some c) [] _ w1 rfl).mono ?_
  rintro e w2 ⟨r,rfl,a0,h2⟩
  go_wp2_with fail
  go_ret
  exact⟨_,rfl,bln hb a0,h2⟩
theorem Blk.range{w:World}{b:Nat}{cs:List Value}{t:TypeId}(h:Blk w b cs t):w.rangeAt b 0 cs:=fun j v hj=>by rw[E9];exact h.cell hj
theorem Blk.there{w:World}{b:Nat}{cs:List Value}{t:TypeId}(h:Blk w b cs t){n:Nat}(hn:n=cs.length):w.there b 0 n:=fun j hj=>by
 rw[E9]
 exact⟨by rw[h.cell (B4 M0)];rfl,h.frozen j⟩
end Go.Proofs.YtekomodnkfhihaaGreatDoor
namespace Go.Proofs.YtekomodnkfhihaaGreatDoor
set_option maxHeartbeats 8000000
set_option maxRecDepth 100000
open Go.RowKit Go.Extern.Stop Go.Stop Go.Extern
set_option linter.unusedVariables false
attribute [local irreducible] wpList wpAnyH Code.wp Oper.wp Go
theorem Zb0(n k:Nat)(hn:n<9223372036854775808)(hk:0<k):IntKind.i64.wrap (Int.tdiv (n:Int) (k:Int))=((n/k:Nat):Int):=by
 rw[Int.tdiv_eq_ediv_of_nonneg (F9 _),←Int.natCast_ediv]
 exact Lx (H6 (J6 _ _) hn)
theorem Rf(a b:Nat):(if(b:Int)<(a:Int) then(b:Int) else(a:Int))=((min a b:Nat):Int):=by split<;>omega
theorem Vc(b:Nat)(p:O0)(n c:Nat)(w:World)(hk:Blk w b [.slice p n c] 108)(hn:n≤100000000) :
 C0 87 #[P0 b] w (Ret (V0 ((n/256:Nat):Int)) w):=by
 refine zin 11 Tryz.func87 ?_
 refine xb 20 0 hk ?_
 refine xq 1 (congrArg V0 (show(IntKind.i64.wrap (Int.tdiv (n:Int) 256):Int)=(↑(n/256):Int) from Zb0 n 256 M0 Do)) ?_
 exact xe 4 (V0 (↑(n/256):Int)) ⟨rfl,(B3 w)⟩
theorem Ef(b g:Nat)(n c k:Nat)(w:World)(hk:Blk w b [.slice (S1 g) n c] 108)(hn:n≤100000000)(hc:n≤c)(hkn:k<n/256) :
 C0 168 #[P0 b,V0 (k:Int)] w (Ret (.tuple #[.slice (some ⟨g,k*256,none⟩) 256 256,V0 0]) w):=by
 refine zin 33 Tryz.func168 ?_
 refine xgk 21 [13,14] (show(decide ((k:Int)<(0:Int)):Bool)=false from decide_eq_false M0) ?_
 refine xr 2 (args:=#[P0 b]) (Vc b _ n c _ (hk.below (B3 w)) hn) fun W2 a1=>?_
 refine xk 5 (show(decide ((k:Int)≥(↑(n/256):Int)):Bool)=false from decide_eq_false M0) ?_
 refine xwm 6 ((k:Int)*256) (↑(k*256):Int) ?_
 refine xwm 1 ((k:Int)+1) (↑(k+1):Int) ?_
 refine xwm 0 ((↑(k+1):Int)*256) (↑((k+1)*256):Int) ?_
 have a0:=hk.below a1
 refine xb 9 0 a0 ?_
 refine xs3 3 (fun _ _ _ _ _ _ zo zx zy zz zm V=>Tp (k:=(k*256)) (h:=((k+1)*256)) (b:=g) (off:=0) (n:=n) (c:=c) (i:=(↑(k*256):Int)) (ki:=.i64) (j:=(↑((k+1)*256):Int)) (kj:=.i64) (j2:=(↑((k+1)*256):Int)) (kj2:=.i64) 1 (k*256) 256 zo zx zy rfl zz rfl zm rfl M0 M0 M0 M0 Tryz.underlying50 K0 V) ?_
 exact xe 5 (.tuple #[.slice (some ⟨g,(k*256),none⟩) 256 256,V0 0]) ⟨rfl,a1⟩
def WroteB(B g n c:Nat)(l:Bi)(v:Value)(w:World)(e:Ending)(w':World):Prop :=
 e=.returned v∧Below B w w'∧Zd [5] w w'∧Fr [g] w w'∧w'.ownsRow B 5 1 (.slice (S1 g) n c) n (l.map bv)
theorem Fo(B b g:Nat)(n c k:Nat)(l:Bi)(a:O0)(cx:Nat)(lx:Bi)(w:World)(hk:Blk w b [.slice (S1 g) n c] 108)(ho:w.ownsRow B 5 1 (.slice (S1 g) n c) n (l.map bv))(hn:n≤100000000)(hc:n≤c)(hkn:k<n/256)(hx:Bys w (.slice a 256 cx) lx)(hlx:lx.length=256)(hBw:B≤w.heap.size) :
 C0 99 #[P0 b,V0 (k:Int),.slice a 256 cx] w (WroteB B g n c (Vy l (k*256) lx) (V0 0) w):=by
 replace hx:Sl w (.slice a 256 cx) 256 (lx.map bv):=by
  have:=hx
  unfold Bys at this
  rwa [hlx] at this
 refine zin 24 Tryz.func99 ?_
 refine xr 9 (args:=#[P0 b,V0 (k:Int)]) (Ef b g n c k _ hk hn hc hkn) fun W1 a1=>?_
 have a0:=Za ho a1
 have a2:=hx.below a1
 have hB:=blB (Below.refl B w) hBw a1
 refine xbi 32 (t2:=50) fun _ _ _ _ zJ zQ zo zx zy zK=>Jd (dLen:=256) (dCap:=256) (off:=(k*256)) 256 (lx.map bv) ((Vy l (k*256) lx).map bv) zo Tryz.underlying50 K0 zx zy a2 a0 (by simpa using hlx) M0 M0 (Xw _) (N0 hBw hB.size) (by simp[Vy,hlx,E5,G6]) fun W2 o2 a4 a5=>?_
 refine zK _ _ ?_
 have a3:=hB.trans a5
 have hO:=(show Zd [5] w _ from(Zd.of_below a1)).trans (Zd.of_grown a4 a0 Do)
 have hX:=(show Fr [g] w _ from(Fr.of_below a1)).trans (Fr.of_grown a4 (by simp))
 exact xe 8 (V0 0) ⟨rfl,a3,hO,hX,o2⟩
theorem Wu(B b g:Nat)(n c k:Nat)(l:Bi)(kind:Int)(a:O0)(ca:Nat)(li:Bi)(w:World)(hk:Blk w b [.slice (S1 g) n c] 108)(ho:w.ownsRow B 5 1 (.slice (S1 g) n c) n (l.map bv))(hn:n≤3686400)(hc:n≤c)(hkn:k<n/256)(h1:1≤kind)(h2:kind≤4)(hin:Bys w (.slice a li.length ca) li)(hl:li.length≤244)(hBw:B≤w.heap.size) :
 C0 47 #[P0 b,V0 (k:Int),V0 kind,.slice a li.length ca] w (WroteB B g n c (Vy l (k*256) (Wc kind k li)) .nilIface w):=by
 refine zin 28 Tryz.func47 ?_
 refine xc 10 (args:=#[V0 kind,V0 (k:Int),.slice a li.length ca]) (Za3 kind k h1 h2 M0 M0 a ca li _ hl hin) ?_
 rintro _ W1 ⟨_,rfl,a1,p,c2,rfl,o⟩
 have b0:=A3 w.heap.size
 have a4:=hk.below a1
 have a3:=Za ho a1
 have a9:=Zf o b0
 have hB:=blB (Below.refl B w) hBw a1
 refine xc 19 (args:=#[P0 b,V0 (k:Int),.slice p 256 c2]) (Fo B b g n c k l p c2 (Wc kind k li) _ a4 a3 M0 hc hkn (Qf (Ze a9) (Ce hl)) (Ce hl) (N0 hBw hB.size)) ?_
 rintro _ W2 ⟨rfl,a8,a6,a7,b1⟩
 refine xc 8 (args:=#[V0 (k:Int),.iface 33 (V0 0)]) (Iu k 0 _) ?_
 rintro _ W3 ⟨r,rfl,a2,hr⟩
 obtain rfl:r=.nilIface:=hr
 have a5:=blB (hB.trans a8) hBw a2
 have hO:=((show Zd [5] w _ from(Zd.of_below a1)).trans a6).trans (Zd.of_below a2)
 have hX:=((show Fr [g] w _ from(Fr.of_below a1)).trans (a7.mono (by simp))).trans (Fr.of_below a2)
 have a0:=Za b1 a2
 exact xe 4 .nilIface ⟨rfl,a5,hO,hX,a0⟩
def Np(f j:Nat):List Int:=(List.range j).map fun i=>((f+i:Nat):Int)
theorem Zax(f j:Nat):Np f (j+1)=Np f j++[((f+j:Nat):Int)]:=by simp[Np,C6]
theorem Sr{f N k:Nat}(h:k<N):(Np f N).getD k 0=((f+k:Nat):Int):=by simp[Np,List.getD,B5 h]
theorem Rw(f j:Nat):(Np f j).length=j:=by simp[Np]
structure Al(B ba b g n c:Nat)(pa:Option Addr)(ca f N k:Nat)(l:List UInt8)(w:World):Prop where
 blkA:Blk w ba [.slice pa N ca,.int .i64 (k:Int),.pointer (some ⟨b,0,none⟩)] 169
 blkI:Blk w b [.slice (some ⟨g,0,none⟩) n c] 108
 data:w.ownsRow B 5 1 (.slice (some ⟨g,0,none⟩) n c) n (l.map bv)
 nums:w.ownsRow B 3 1 (.slice pa N ca) N ((Np f N).map (Value.int .i64))
structure AlC(B ba n c ca f N:Nat):Prop where
 hn:n≤3686400
 hc:n≤c
 hca:N≤ca
 hf:f+N≤n/256
 hB:B≤ba
theorem Zb1(b:Nat)(p0:O0)(n c f:Nat)(w:World)(hk:Blk w b [.slice p0 n c] 108)(hn:n≤3686400)(h1:1≤f)(h2:f≤n/256) :
 C0 42 #[P0 b,V0 (f:Int)] w (Qh (fun w' r=>∃ ba p c2,r=.tuple #[P0 ba,.nilIface]∧w.heap.size≤ba∧Blk w' ba [.slice p (n/256-f) c2,V0 0,P0 b] 169∧w'.ownsRow w.heap.size 3 1 (.slice p (n/256-f) c2) (n/256-f) ((Np f (n/256-f)).map V0)) w):=by
 refine zin 37 Tryz.func42 ?_
 refine xgk 16 [12,13,14] (show(decide ((f:Int)<(1:Int)):Bool)=false from decide_eq_false M0) ?_
 refine xr 2 (args:=#[P0 b]) (Vc b p0 n c _ hk M0) fun W2 b4=>?_
 refine xk 4 (show(decide ((f:Int)>(↑(n/256):Int)):Bool)=false from decide_eq_false M0) ?_
 have b1:=hk.below b4
 refine zl 15 37 (fun zm b7 V=>∃ (j:Nat) (p:O0) (c2:Nat),b7=[(0,P0 b),(4,.pointer none),(5,.nilIface),(6,.slice p j c2),(7,V0 (↑(f+j):Int))]∧zm=n/256-((↑(f+j):Int)).toNat∧Bl w V∧Blk V b ([.slice p0 n c]) 108∧V.ownsRow w.heap.size 3 1 (.slice p j c2) j ((Np f j).map V0)∧f+j≤n/256) ⟨0,_,_,rfl,rfl,b4,b1,A9 _ _ _ _,by omega⟩ ?_
 rintro _ _ W3 ⟨j,p,c2,rfl,rfl,a1,a6,ho,hj⟩ J3 c1 r3
 refine xr 5 (args:=#[P0 b]) (Vc b p0 n c _ a6 M0) fun W4 a2=>?_
 refine xid 3 ((↑(f+j):Int)<(↑(n/256):Int)) (fun b5=>?_) (fun b5=>?_)
 ·refine xbs 7 1 [V0 (↑(f+j):Int)] 3 fun b6 W6 n6=>?_
  have a7:=bln a1 a2
  have g6:=n6.ge a7
  have a3:=Za ho a2
  have b3:=Zg a3 n6
  have a4:=Za a3 n6.below
  have a8:=bln a7 n6.below
  refine xbi 0 fun _ _ _ _ zJ zQ zo zx zy zK=>Zz (m:=1) (news:=[V0 (↑(f+j):Int)]) (V0 0) 1 8 (j+1) ((Np f (j+1)).map V0) zo Tryz.underlying27 K0 rfl Do zx a4 zy (n6.blk.sl 1 1 Do Do) rfl (by simp[Value.oneCell']) (by unfold maxLen;omega) M0 a8.size (by rfl) (by rw[Zax];simp) fun c4 c3 W7 o7 b9 c0=>?_
  refine zK _ _ ?_
  refine xwm 6 ((↑(f+j):Int)+1) (↑((f+j)+1):Int) ?_
  have b2:=a8.trans c0
  have a0:=((a6.below a2).below n6.below).grown b9 a4 Do
  exact ze 2 (c1 _ _ _ ⟨j+1,_,_,rfl,rfl,b2,a0,o7,by omega⟩ M0)
 refine xa 11 [.slice p j c2,V0 0,P0 b] 169 fun b8 W8 n8=>?_
 have a5:=bln a1 a2
 have g8:=n8.ge a5
 have a9:=bln a5 n8.below
 have b0:=Za (Za ho a2) n8.below
 refine xe 5 (.tuple #[P0 b8,.nilIface]) ?_
 obtain rfl:j=n/256-f:=by omega
 exact⟨_,rfl,a9,_,_,_,rfl,g8,n8.blk,b0⟩
theorem Yu(ba b:Nat)(v x:Value)(w:World)(hk:Blk w ba [v,x,P0 b] 169) :
 C0 157 #[P0 ba] w (Ret (.bool false) w):=by
 refine zin 12 Tryz.func157 ?_
 refine xb 13 2 hk ?_
 exact xe 6 (.bool false) ⟨rfl,(B3 w)⟩
theorem Ms(ba:Nat)(p:O0)(N c k:Nat)(m:Value)(w:World)(hk:Blk w ba [.slice p N c,V0 (k:Int),m] 169)(h1:k≤N) :
 C0 218 #[P0 ba] w (Ret (.slice (Uv p k c 1) (N-k) (c-k)) w):=by
 refine zin 12 Tryz.func218 ?_
 refine xd 6 .z ?_
 have a0:=hk.below (Zb w)
 refine xb (.e [0,1,2] 3) 0 a0 ?_
 refine xb (.e [4,5,6] 7) 1 a0 ?_
 refine xsL (.e [] 8) (fun _ _ _ _ zo zx zy V=>Pp (k:=k) (b:=p) (n:=N) (c:=c) (i:=(k:Int)) (ki:=.i64) 1 zo zx zy rfl M0 Tryz.underlying27 K0 V) ?_
 have hB:=(Zb w)
 exact xe (.r [9] 3) (.slice (Uv p k c 1) (N-k) (c-k)) ⟨rfl,hB⟩
theorem Ua(ba b:Nat)(p:O0)(N c k:Nat)(w:World)(hk:Blk w ba [.slice p N c,V0 (k:Int),P0 b] 169)(h1:k≤N) :
 C0 153 #[P0 ba] w (Ret (V0 ((N-k:Nat):Int)) w):=by
 refine zin 10 Tryz.func153 ?_
 refine xr 9 (args:=#[P0 ba]) (Yu ba b _ _ _ hk) fun W1 a1=>?_
 have a0:=hk.below a1
 refine xr 10 (args:=#[P0 ba]) (Ms ba p N c k _ _ a0 h1) fun W2 a2=>?_
 have hB:=bln a1 a2
 exact xe 5 (V0 (↑(N-k):Int)) ⟨rfl,hB⟩
theorem Tk(ba b:Nat)(v:Value)(k:Nat)(w:World)(hk:Blk w ba [v,V0 (k:Int),P0 b] 169) :
 C0 93 #[P0 ba] w (Ret (V0 (k:Int)) w):=by
 refine zin 10 Tryz.func93 ?_
 refine xr 9 (args:=#[P0 ba]) (Yu ba b _ _ _ hk) fun W1 a1=>?_
 have a0:=hk.below a1
 refine xb 11 1 a0 ?_
 exact xe 4 (V0 (k:Int)) ⟨rfl,a1⟩
def Took(B ba:Nat)(p:O0)(N c k:Nat)(m:Value)(L:List Int)(v:Value)(w:World)(e:Ending)(w':World):Prop :=
 e=.returned v∧Below B w w'∧Zd [169] w w'∧Fr [ba] w w'∧Blk w' ba [.slice p N c,V0 ((k+1:Nat):Int),m] 169∧w'.ownsRow B 3 1 (.slice p N c) N (L.map V0)
theorem IntsN.elem{w:World}{b:O0}{n c:Nat}{l:List Int}(h:Sl w (.slice b n c) n (l.map V0))(hl:l.length=n){k:Nat}(hk:k<n):b.isSome=true∧w.cell? (Zr b (k*1))=some (V0 (l.getD k 0)):=by
 subst hl;exact Ints.elem h hk
theorem Ab(B ba:Nat)(p:O0)(N c k:Nat)(L:List Int)(hL:L.length=N)(m:Value)(w:World)(hk:Blk w ba [.slice p N c,V0 (k:Int),m] 169)(ho:w.ownsRow B 3 1 (.slice p N c) N (L.map V0))(hB0:B≤ba)(hBw:B≤w.heap.size)(hN:N≤1000000)(hkN:k<N) :
 C0 263 #[P0 ba] w (Took B ba p N c k m L (.tuple #[V0 (L.getD k 0),.bool true]) w):=by
 refine zin 32 Tryz.func263 ?_
 refine xd 8 .z ?_
 have a0:=hk.below (Zb w)
 refine xb (.e [0,1,2] 3) 1 a0 ?_
 refine xb (.e [4,5,6] 7) 0 a0 ?_
 refine xk (.r [8,9] 2) (show(decide ((k:Int)≥(N:Int)):Bool)=false from decide_eq_false M0) ?_
 refine xb 7 1 a0 ?_
 refine xwm 0 ((k:Int)+1) (↑(k+1):Int) ?_
 refine xs 2 a0 [.slice p N c,V0 (↑(k+1):Int),m] fun W1 u1 k1=>?_
 refine xd 3 .z ?_
 have a2:=k1.below (Zb W1)
 refine xb (.e [0,1,2] 3) 0 a2 ?_
 refine xb (.e [4,5,6] 7) 1 a2 ?_
 refine xwm (.e [] 8) ((↑(k+1):Int)-1) (k:Int) ?_
 have a1:=Za (u1.own2 (Za ho (Zb w)) a0 Do) (Zb W1)
 refine xx (.e [] 9) _ N k 1 (IntsN.elem (Ze a1) hL (k:=k) M0).1 ?_
 refine xl (.e [] 10) ((IntsN.elem (Ze a1) hL (k:=k) M0).2) ?_
 have hB:=blB (u1.below (blB (Below.refl B w) hBw (Zb w)) hB0) hBw (Zb W1)
 have hO:=((show Zd [169] w _ from(Zd.of_below (Zb w))).trans (Zd.of_upd u1 a0 Do)).trans (Zd.of_below (Zb W1))
 have hX:=((show Fr [ba] w _ from(Fr.of_below (Zb w))).trans (Fr.of_upd u1 (by simp))).trans (Fr.of_below (Zb W1))
 exact xe (.r [11,12] 3) (.tuple #[V0 (L.getD k 0),.bool true]) ⟨rfl,hB,hO,hX,a2,a1⟩
theorem Aa(B ba:Nat)(p:O0)(N c k:Nat)(L:List Int)(hL:L.length=N)(b q:Nat)(hq:L.getD k 0=(q:Int))(w:World)(hk:Blk w ba [.slice p N c,V0 (k:Int),P0 b] 169)(ho:w.ownsRow B 3 1 (.slice p N c) N (L.map V0))(hB0:B≤ba)(hBw:B≤w.heap.size)(hN:N≤1000000)(hkN:k<N) :
 C0 220 #[P0 ba] w (Took B ba p N c k (P0 b) L (.tuple #[V0 (q:Int),.nilIface]) w):=by
 refine zin 20 Tryz.func220 ?_
 refine xr 10 (args:=#[P0 ba]) (Yu ba b _ _ _ hk) fun W1 a0=>?_
 have a3:=hk.below a0
 have a1:=Za ho a0
 have hB:=blB (Below.refl B w) hBw a0
 refine xc 10 (args:=#[P0 ba]) (Ab B ba p N c k L hL _ _ a3 a1 hB0 (N0 hBw hB.size) hN hkN) ?_
 rintro _ W2 ⟨rfl,a6,a4,a5,kA,ho⟩
 rw[hq]
 have a2:=hB.trans a6
 have hO:=(show Zd [169] w _ from(Zd.of_below a0)).trans a4
 have hX:=(show Fr [ba] w _ from(Fr.of_below a0)).trans (a5.mono (by simp))
 exact xe 25 (.tuple #[V0 (q:Int),.nilIface]) ⟨rfl,a2,hO,hX,kA,ho⟩
def Laid(B ba b g n c:Nat)(pa:O0)(ca f N k:Nat)(l:Bi)(kind:Int)(li:Bi)(w:World)(e:Ending)(w':World):Prop :=
 e=.returned (.tuple #[V0 ((f+k:Nat):Int),.nilIface])∧Below B w w'∧Zd [169,5] w w'∧Fr [ba,g] w w'∧Al B ba b g n c pa ca f N (k+1) (Vy l ((f+k)*256) (Wc kind ((f+k:Nat):Int) li)) w'
theorem Zd.mono{T T':List TypeId}{w w':World}(h:Zd T w w')(hT:∀ t,T'.contains t=false→T.contains t=false):Zd T' w w':=fun k cs t fr hk ht=>h k cs t fr hk (hT t ht)
theorem only_aa{w w':World}(h:Zd [169] w w'):Zd [169,5] w w':=h.mono fun t ht=>by simp at ht ⊢;exact ht.1
theorem only_ab{w w':World}(h:Zd [5] w w'):Zd [169,5] w w':=h.mono fun t ht=>by simp at ht ⊢;exact ht.2
theorem Zdh(B ba b g n c:Nat)(p:O0)(ca f N k:Nat)(l:Bi)(kind:Int)(a:O0)(ci:Nat)(li:Bi)(w:World)(hC:AlC B ba n c ca f N)(hA:Al B ba b g n c p ca f N k l w)(hkN:k<N)(h1:1≤kind)(h2:kind≤4)(hin:∀ W,Below B w W→Zd [169] w W→Bys W (.slice a li.length ci) li)(hl:li.length≤244)(hBw:B≤w.heap.size) :
 C0 161 #[P0 ba,V0 kind,.slice a li.length ci] w (Laid B ba b g n c p ca f N k l kind li w):=by
 obtain⟨hk,hi,hd,ho⟩:=hA
 refine zin 35 Tryz.func161 ?_
 refine xc 9 (args:=#[P0 ba]) (Aa B ba p N ca k (Np f N) (Rw f N) b (f+k) (Sr hkN) _ hk ho hC.hB (N0 hBw (Below.refl B _).size) (by have:=hC.hf;have:=hC.hn;omega) hkN) ?_
 rintro _ W1 ⟨rfl,a6,a2,a9,kA,ho⟩
 replace hin:=hin _ a6 a2
 refine xb 23 2 kA ?_
 have a0:=hi.only a2 Do
 have a7:=Zo hd a2 Do
 refine xc 3 (args:=#[P0 b,V0 (↑(f+k):Int),V0 kind,.slice a li.length ci]) (Wu B b g n c (f+k) l kind a ci li _ a0 a7 hC.hn hC.hc (by have:=hC.hf;omega) h1 h2 hin hl (N0 hBw a6.size)) ?_
 rintro _ W2 ⟨rfl,b1,a1,b0,hd⟩
 have a5:=a6.trans b1
 have hO:=(show Zd [169,5] w _ from(only_aa a2)).trans (only_ab a1)
 have hX:=(show Fr [ba,g] w _ from(a9.mono (by simp))).trans (b0.mono (by simp))
 have a8:=kA.only a1 Do
 have a4:=a0.only a1 Do
 have a3:=Zo ho a1 Do
 exact xe 20 (.tuple #[V0 (↑(f+k):Int),.nilIface]) ⟨rfl,a5,hO,hX,a8,a4,hd,a3⟩
end Go.Proofs.YtekomodnkfhihaaGreatDoor
