/- General words for all walks of this seat: what a call returns while everything that lay there before is unchanged ('Ret'), slices as lists ('Sl', 'Ints'), and one rule for a region that draws its order while its operations read, or call what returns one value ('wp_region_ext'). No program is named here. -/
import Derived.WalkKit
import Derived.WalkSpells
import Derived.WalkLawsBesides
import Derived.Deep.QuietTactic
import Derived.BigQuiet
import Derived.Lib.Hide
import Derived.RangeFuncNested
import Derived.RangeFuncBound
import Derived.RangeFuncCalls
import Derived.RangeFuncLeaves
import Derived.Shelf.Abstract
import Derived.Shelf.RegionOpen
import Derived.OwnWalkIn
import Derived.TacticsInMore
import Derived.LoopNIn
import Derived.LoopIn
import Derived.Test.YtekomodnkfhihaaGreatDoorProg
import Derived.LaidEql
import Derived.Stop.Asserts
import Derived.RowKitTokens
import Derived.Deep.LoopGhost
import Derived.Test.YtekomodnkfhihaaGreatDoorRows
import Derived.ChangeSame
import Derived.ChangeVars
import Derived.JoinedOf
import Derived.RowKit
import Derived.LaidLaws
import Derived.LaidHandle
import Derived.Stop.Joined
import Derived.SevenTiedAt
import Derived.Shelf.Strings.BuilderK
import Derived.Shelf.LaysM
import Derived.Shelf.Strconv.Itoa3
import Derived.Maps.AppendAt
import Derived.Deep.AppendLies
import Derived.Deep.RegionHeld3
import Derived.Deep.MidRow
import Derived.Deep.RegionHeld
import Derived.IntWalk
import Derived.LoopN
import Derived.ProofKit
import Derived.OpenShut
import Derived.ShutString
import Derived.ChangeOld
import Derived.Below
import Derived.Lib.SmallJoins
import Derived.Laws.IdiomStrings
import Derived.Lib.ItoaNum
import Derived.Defers
import Derived.Recover
import Derived.Deep.Slices
import Derived.Deep.Fields
import Derived.Deep.Strs
namespace Go.Proofs.YtekomodnkfhihaaGreatDoor
set_option maxHeartbeats 8000000
set_option maxRecDepth 100000
open Go.RowKit
abbrev V0(z:Int):Value:=.int .i64 z
abbrev S0:Value:=.slice none 0 0
abbrev P0(b:Nat):Value:=.pointer (some ⟨b,0,none⟩)
abbrev S1(b:Nat):Option Addr:=some ⟨b,0,none⟩
abbrev Bl:=List UInt8
abbrev O0:=Option Addr
abbrev C0:=Calls Tryz.prog
abbrev B3(w:World):World→Prop:=Below w.heap.size w
theorem B4(w:World):Below w.heap.size w w:=Below.refl _ _
abbrev At:=@List.length_map
abbrev A0:=@Option.some.injEq
abbrev A1:=@List.take_of_length_le
abbrev A3:=@Nat.zero_le
abbrev A4:=@World.ownsRow_nil
abbrev A5:=@List.length_append
abbrev A6:=@Nat.le_refl
abbrev A7:=@List.length_replicate
abbrev A8:=@List.take_succ_eq_append_getElem
abbrev A9:=@List.map_append
abbrev B5:=@List.getElem?_eq_getElem
abbrev B6:=@Value.slice.injEq
abbrev B7:=@List.getElem?_range
abbrev B8:=@Sem.run_bind
abbrev B9:=@List.getElem?_map
abbrev C1:=@List.range_succ
abbrev C2:=@List.mem_cons_self
abbrev C3:=@Nat.lt_or_ge
abbrev C4:=@Int.toNat_natCast
abbrev C5:=@List.getElem?_eq_none
abbrev C6:=@List.append_assoc
abbrev C7:=@Option.map_some
abbrev C8:=@Prod.mk.injEq
abbrev C9:=@Result.andThen_ok
abbrev D0:=@Nat.lt_of_lt_of_le
abbrev D1:=@List.length_take
abbrev D3:=@Bool.and_eq_true
abbrev D4:=@Nat.add_assoc
abbrev D5:=@Nat.mul_one
abbrev D6:=@Nat.add_mul
abbrev D7:=@List.drop_eq_nil_of_le
abbrev D8:=@List.mem_cons_of_mem
abbrev D9:=@List.mem_range
abbrev Eq:=@List.getElem?_drop
abbrev E0:=@Nat.one_mul
abbrev E1:=@List.flatMap_append
abbrev E2:=@List.mem_singleton
abbrev E3:=@Nat.xor_lt_two_pow
abbrev E4:=@List.length_cons
abbrev E5:=@List.getElem_mem
abbrev E6:=@BitVec.ofInt_natCast
abbrev E7:=@Nat.mul_le_mul_right
abbrev E8:=@List.getElem?_take
abbrev E9:=@List.mem_cons
abbrev F0:=@Nat.mod_eq_of_lt
abbrev F1:=@Nat.zero_add
abbrev F2:=@Int.natCast_nonneg
abbrev F3:=@BitVec.toNat_ofNat
abbrev F4:=@List.map_cons
abbrev F5:=@List.getElem?_take_of_lt
abbrev F6:=@List.append_nil
abbrev F7:=@Nat.min_eq_left
abbrev F8:=@List.sum_append
abbrev F9:=@Nat.eq_zero_or_pos
abbrev Ge:=@Sem.run_pure
abbrev Gt:=@List.map_take
abbrev G0:=@List.ext_getElem?
abbrev G3:=@List.take_append_drop
abbrev G4:=@List.eq_nil_of_length_eq_zero
abbrev G5:=@List.ext_getElem
abbrev G6:=@List.getElem?_append
abbrev G7:=@World.putObj_heap_other
abbrev G8:=@List.size_toArray
abbrev G9:=@List.nil_append
abbrev H0:=@List.replicate_succ
abbrev H1:=@List.cons_append
abbrev H2:=@Nat.eq_of_beq_eq_true
abbrev H3:=@List.getElem?_toArray
abbrev H4:=@List.length_filter_le
abbrev H5:=@Nat.min_le_left
abbrev H6:=@Nat.div_le_iff_le_mul_add_pred
abbrev H7:=@List.map_drop
abbrev H8:=@List.sum_cons
abbrev H9:=@List.map_congr_left
abbrev Id:=@List.map_toArray
abbrev If:=@List.all_eq_true
abbrev Is:=@Nat.lt_of_le_of_lt
abbrev I0:=@Nat.add_zero
abbrev I1:=@List.cons.injEq
abbrev I2:=@List.getElem?_append_left
abbrev I3:=@List.drop_eq_getElem_cons
abbrev I4:=@List.mem_of_mem_take
abbrev I5:=@List.length_drop
abbrev I6:=@List.getElem?_replicate
abbrev I7:=@List.flatMap_cons
abbrev I8:=@List.map_nil
abbrev I9:=@World.alloc_heap_new
abbrev J0:=@Array.toArray_toList
abbrev K1:=@List.take_length
abbrev K2:=@Array.length_toList
abbrev K3:=@Nat.div_le_self
abbrev K4:=@List.length_nil
abbrev K5:=@Nat.le_of_eq
abbrev K6:=@List.map_replicate
abbrev K7:=@List.flatten_cons
abbrev K8:=@List.getElem?_set_self
abbrev K9:=@List.sum_replicate_nat
abbrev Le:=@Nat.le_add_right
abbrev Lt:=@List.take_eq_take_iff
abbrev L0:=@List.getElem?_set_ne
abbrev L1:=@Bool.or_eq_false_iff
abbrev L2:=@Array.replicate_succ
abbrev L3:=@Array.replicate_zero
abbrev L4:=@World.grownBy_alloc
abbrev L5:=@List.getD_cons_succ
abbrev L6:=@List.append_toArray
abbrev L7:=@List.drop_drop
abbrev L8:=@Bool.false_eq_true
abbrev L9:=@List.push_toArray
abbrev M1:=@Nat.succ_mul
abbrev M2:=@List.map_map
abbrev M3:=@Nat.add_comm
theorem Do{p:Prop}(h:p:=by decide):p:=h
theorem K0{p:Prop}(h:p:=by kernel_rfl):p:=h
theorem M0{p:Prop}(h:p:=by omega):p:=h
theorem N0{a b c:Nat}(h:a≤b)(k:b≤c):a≤c:=Nat.le_trans h k
theorem S2{α:Sort _}{a b:α}(h:a≠b):b≠a:=h.symm
def Ret (v:Value)(w:World)(e:Ending)(w':World):Prop:=e=.returned v∧B3 w w'
theorem Zhb{W w1:World}(hb:B3 W w1){p:Addr}{v:Value}(h:W.cell? p=some v):w1.cell? p=some v :=
 (hb.cell (World.block_lt_of_cell? W p h)).trans h
theorem ltC{w:World}{p:Addr}{v:Value}(h:w.cell? p=some v):p.block<w.heap.size:=World.block_lt_of_cell? w p h
theorem ltB{W w1:World}(hb:B3 W w1){b:Nat}(h:b<W.heap.size):b<w1.heap.size:=D0 h hb.size
theorem getA{w:World}{p:Addr}{v:Value}(o:Obj)(h:w.cell? p=some v):(w.alloc o).cell? p=some v:=by
 rw[World.cell?_alloc_lt _ _ _ (ltC h)];exact h
theorem blD{B:Nat}{a w:World}(h:Below B a w)(n:Nat):Below B a (w.drewN n):=⟨h.os,h.tape,h.output,h.size,h.block⟩
theorem bln{a w w':World}(h:Below a.heap.size a w)(k:B3 w w'):Below a.heap.size a w':=h.trans (k.mono h.size)
theorem blx(w:World)(o:Obj):B3 w (w.alloc o):=(Below.refl _ _).alloc (A6 _) _
def Sl (w:World)(v:Value)(n:Nat)(xs:List Value):Prop :=
 (∃ a c,v=.slice a 0 c∧n=0∧xs=[])∨∃ b off cap,v=.slice (some ⟨b,off,none⟩) n cap∧n≤cap∧cap≤maxLen∧∀ j x,xs[j]? = some x→w.cell? ⟨b,off+j,none⟩=some x
def Ints(w:World)(v:Value)(l:List Int):Prop:=Sl w v l.length (l.map V0)
theorem Sl.below{w w':World}{v:Value}{n:Nat}{xs:List Value}(h:Sl w v n xs)(hb:B3 w w'):Sl w' v n xs:=by
 rcases h with h|⟨b,a1,a0,h1,h2,h3,h4⟩
 ·exact .inl h
 ·exact .inr ⟨b,a1,a0,h1,h2,h3,fun j x hj=>Zhb hb (h4 j x hj)⟩
theorem Ints.below{w w':World}{v:Value}{l:List Int}(h:Ints w v l)(hb:B3 w w'):Ints w' v l:=Sl.below h hb
theorem Ints.blk{w:World}{v:Value}{l:List Int}(h:Ints w v l)(hl:l.length≠0){b off n cap:Nat}(hv:v=.slice (some ⟨b,off,none⟩) n cap):b<w.heap.size:=by
 rcases h with ⟨_,_,h1,h2,h3⟩|⟨b',a0,a1,h1,h2,h3,h4⟩
 ·exact absurd h2 hl
 ·rw[hv] at h1
  simp only[B6,A0,Addr.mk.injEq] at h1
  obtain⟨⟨rfl,rfl,_⟩,_,_⟩:=h1
  exact ltC (h4 0 (V0 l[0]) (by simp))
theorem Ints.slice{w:World}{v:Value}{l:List Int}(h:Ints w v l):∃ a c,v=.slice a l.length c:=by
 rcases h with ⟨_,_,rfl,h,_⟩|⟨b,a1,a0,rfl,_⟩
 ·rw[h];exact⟨_,_,rfl⟩
 ·exact⟨_,_,rfl⟩
def Qo(R:World→Value→Prop)(w:World)(e:Ending)(w':World):Prop:=∃ r,e=.returned r∧B3 w w'∧R w' r
theorem Sl.slice{w:World}{v:Value}{n:Nat}{xs:List Value}(h:Sl w v n xs):∃ a c,v=.slice a n c:=by
 rcases h with ⟨_,_,rfl,h,_⟩|⟨b,a1,a0,rfl,_⟩
 ·rw[h];exact⟨_,_,rfl⟩
 ·exact⟨_,_,rfl⟩
theorem Sl.at{w:World}{a:O0}{n c:Nat}{xs:List Value}(h:Sl w (.slice a n c) n xs):xs=[]∨∃ b off,a=some ⟨b,off,none⟩∧∀ j x,xs[j]? = some x→w.cell? ⟨b,off+j,none⟩=some x:=by
 rcases h with ⟨_,_,_,_,h2⟩|⟨b,off,a0,h1,_,_,h4⟩
 ·exact .inl h2
 ·simp only[B6] at h1;exact .inr ⟨b,off,h1.1,h4⟩
theorem Sl.len{w:World}{v:Value}{n:Nat}{xs:List Value}(h:Sl w v n xs):n≤9223372036854775807:=by
 rcases h with ⟨_,_,_,h,_⟩|⟨b,a1,a0,_,h1,h2,_⟩
 ·omega
 ·unfold maxLen at h2;omega
/-! ### the walk halts here: 'go_wp2_with (at_builtin;refine Stop.go ?_)',then 'unfold Stop' -/
def Stop(p:Prop):Prop:=p
theorem Stop.go{p:Prop}(h:Stop p):p:=h
/-! ### a row that the call owns -/
theorem Za{w w':World}{base:Nat}{e:TypeId}{size:Nat}{v:Value}{n:Nat}{xs:List Value}(h:w.ownsRow base e size v n xs)(hb:B3 w w'):w'.ownsRow base e size v n xs :=
 h.kept (row:=none) ⟨hb.os,hb.tape,hb.output,hb.size,fun k hk _=>hb.block k hk⟩ (by cases v.ownBlock<;>simp)
theorem Ze{w:World}{base:Nat}{e:TypeId}{size:Nat}{v:Value}{n:Nat}{xs:List Value}(h:w.ownsRow base e size v n xs):Sl w v n xs:=by
 have hx:=h.1
 rcases h.2 with ⟨rfl,rfl⟩|⟨g,a0,a1,rfl,_,hg,h2,h3,_,h5⟩
 ·exact .inl ⟨_,_,rfl,rfl,G4 (by simpa using hx)⟩
 ·refine .inr ⟨g,0,a0,rfl,h2,h3,fun j x hj=>?_⟩
  have hc:=h.cells (g:=g) rfl j x hj
  rw[F1]
  by_cases h0:j=0
  ·subst h0;simpa [Addr.add] using hc
  ·simpa [Addr.add,h0] using hc
theorem Vx{B:Nat}{w w':World}{v:Value}{base:Nat}{e:TypeId}{size n:Nat}{xs:List Value}(hg:w.grownBy w' v.ownBlock)(h:w.ownsRow base e size v n xs)(hB:B≤base)(hw:B≤w.heap.size):Below B w w' :=
 (Below.refl B w).grown hg hw (fun k e=>N0 hB (h.lt k e).1)
/-! ### make: n elements of Hn -/
def Hn(cs:List Value)(n:Nat):List Value:=(List.replicate n cs).flatten
theorem Zer(cs:List Value)(n:Nat):Hn cs (n+1)=Hn cs n++cs:=by simp[Hn,List.replicate_succ']
theorem Zed(cs:List Value)(n:Nat):madeCells cs.toArray (n*cs.length)=(Hn cs n).toArray:=by
 have h:((List.range (n*cs.length)).map fun j=>cs.toArray[j%cs.toArray.size]!)=Hn cs n:=by
  induction n with
  | zero=>simp[Hn]
  | succ n ih =>
   rw[M1,List.range_add,A9,ih,Zer,M2]
   congr 1
   apply G5
   ·simp
   ·intro i h1 h2
    simp[F0 h2,h2]
 rw[←h];apply Array.ext
 ·simp[madeCells]
 ·intro i h1 h2;simp[madeCells]
theorem Zfd{P:Program}{t e:TypeId}{i:TypeInfo}{z:Value}(cs:List Value)(ht:P.underlying t=some (.slice e))(hi:P.info? e=some i)(hz:i.zero=some z)(hc:z.cells=cs.toArray)(hs:i.size=cs.length){k:Nat}(hk:i.bytes=k)
 (n:Nat) (hb:k*n≤281474976710656) (hn:n≤9223372036854775807) (w:World) :
 (Instr.makeSlice t (V0 (n:Int)) (V0 (n:Int))).run P w=.ok (.slice (some ⟨w.heap.size,0,none⟩) n n) (w.alloc (.cells (Hn cs n).toArray e)):=by
 have a0:(i.bytes:Int)*(n:Int)≤281474976710656:=by
  have h:((i.bytes*n:Nat):Int)≤281474976710656:=by rw[hk];omega
  rwa [Int.natCast_mul] at h
 have hr:=run_make (P:=P) w t e i z ht hi hz .i64 .i64 n n M0 M0 a0 M0
 simp only[C4] at hr
 rw[hr,hc,hs,Zed]
/-! ### A region that draws its order: in every later world -/
structure Ext(W:World) where
 val:World
 below:Below W.heap.size W val
instance (W:World):Nonempty (Ext W):=⟨⟨W,Below.refl _ _⟩⟩
theorem Ext.get{W:World}(z:Ext W){p:Addr}{v:Value}(h:W.cell? p=some v):z.val.cell? p=some v:=Zhb z.below h
theorem Ext.lt{W:World}(z:Ext W){b:Nat}(h:b<W.heap.size):b<z.val.heap.size:=ltB z.below h
theorem Su{P:Program}{id:Nat}{Q:Exit→Act→World→Prop}{a:Act}{w:World}{l:List Oper}(hm:P.follows .mixedOrders=true)(hB:Region.lexB .any l.toArray=true)
 (h:wpQuiet P l.toArray (fun w'=>∃ x:Ext w,w'=x.val) (fun a'=>∀ x:Ext w,Q .normal a' x.val) l a):(Code.region id l.toArray true).wp P Q a w :=
 wp_region_quiet (C:=fun w'=>∃ x:Ext w,w'=x.val) hm hB ⟨⟨_,(Below.refl _ w).drew⟩,rfl⟩ (by
  have e:(fun a'=>∀ x:Ext w,Q .normal a' x.val)=(fun a'=>∀ w',(∃ x:Ext w,w'=x.val)→Q .normal a' w'):=by
   funext a';apply propext;exact⟨fun h w' ⟨x,hx⟩=>hx▸h x,fun h x=>h _ ⟨x,rfl⟩⟩
  rw[e] at h;simpa using h)
theorem Ret.ext{P:Program}{f:FuncId}{args:Array Value}{w:World}{v:Value}{x:Ext w}(h:Calls P f args x.val (Ret v x.val)) :
 Calls P f args x.val fun e w''=>e=.returned v∧∃ y:Ext w,w''=y.val :=
 h.mono fun _ w'' ⟨he,hb⟩=>⟨he,⟨w'',x.below.trans (hb.mono x.below.size)⟩,rfl⟩
end Go.Proofs.YtekomodnkfhihaaGreatDoor
namespace Go.Proofs.YtekomodnkfhihaaGreatDoor
set_option maxHeartbeats 8000000
set_option maxRecDepth 100000
open Go.RowKit
set_option linter.unusedVariables false
def Blk (W:World)(b:Nat)(cs:List Value)(t:TypeId):Prop:=W.heap[b]? = some (.cells cs.toArray t (0,0))
theorem Blk.lt{W:World}{b:Nat}{cs:List Value}{t:TypeId}(h:Blk W b cs t):b<W.heap.size:=(Array.getElem?_eq_some_iff.1 h).1
theorem Blk.cell{W:World}{b:Nat}{cs:List Value}{t:TypeId}(h:Blk W b cs t){i:Nat}{v:Value}(hv:cs[i]? = some v):W.cell? ⟨b,i,none⟩=some v:=by
 simp[World.cell?,show W.heap[b]? = _ from h,hv]
theorem Blk.frozen{W:World}{b:Nat}{cs:List Value}{t:TypeId}(h:Blk W b cs t)(i:Nat):W.frozen? ⟨b,i,none⟩=false:=by
 simp[World.frozen?,show W.heap[b]? = _ from h]
theorem Blk.new(W:World)(cs:List Value)(t:TypeId):Blk (W.alloc (.cells cs.toArray t)) W.heap.size cs t:=I9 W _
theorem Blk.kept{W W':World}{row:Option Nat}{b:Nat}{cs:List Value}{t:TypeId}(h:Blk W b cs t)(hg:W.grownBy W' row)(hne:some b≠row):Blk W' b cs t:=(hg.block b h.lt hne).trans h
theorem Blk.alloc{W:World}{b:Nat}{cs:List Value}{t:TypeId}(h:Blk W b cs t)(o:Obj):Blk (W.alloc o) b cs t:=h.kept (L4 W o none) (by simp)
theorem Blk.below{W W':World}{b:Nat}{cs:List Value}{t:TypeId}(h:Blk W b cs t)(hb:B3 W W'):Blk W' b cs t:=(hb.block b h.lt).trans h
theorem app_own{P:Program}{w:World}{ops:Array Oper}{rest:List Oper}{o:Oper}{a:Act}{Q:Exit→Act→World→Prop}(hgd:o.guard=none)(s x:Operand)(t:TypeId)
  (ho:o.op=.call { callee:=.builtin .append,args:=#[s,x],argTypes:=#[t,t] }) (base:Nat) (e:TypeId) (i:TypeInfo) (z:Value) (size bytes:Nat) (ht:P.underlying t=some (.slice e)) (hi:P.info? e=some i)
  (hz:i.zero=some z) (hsize:i.size=size) (hby:i.bytes=bytes) (hzs:z.cells.size=size) (hsz:0<size) (v:Value) (n:Nat) (xs:List Value) (hs:a.eval s=v) (hown:w.ownsRow base e size v n xs)
  (b m c:Nat) (news:List Value) (te:TypeId) (hx:a.eval x=.slice (S1 b) m c) (hnew:Blk w b news te) (hl:news.length=m*size) (h1:∀ u∈news,u.oneCell'=true)
  (h63:n+m≤maxLen) (hbytes:(n+m)*bytes≤140737488355328) (hbase:base≤w.heap.size)
  (h:∀ v' w',w'.ownsRow base e size v' (n+m) (xs++news)→w.grownBy w' v.ownBlock→Below base w w'→wpList P ops Q rest (a.put o.dst v') w'):wpList P ops Q (o::rest) a w :=
 wpList_append_own w hgd s x t ho base e i z size bytes ht hi hz hsize hby hzs hsz v n xs hs hown ⟨b,0,none⟩ m c news hx hl
  (fun j u hj=>by
   have hc:=hnew.cell hj
   by_cases h0:j=0
   ·subst h0;simpa [Addr.add] using hc
   ·simpa [Addr.add,h0] using hc) h1 h63 hbytes hbase (fun v' w' h2 h3 _=>h v' w' h2 h3 (Vx h3 hown (A6 _) hbase))
theorem Blk.other{W:World}{b:Nat}{cs:List Value}{t:TypeId}(h:Blk W b cs t){p:Addr}(hp:b≠p.block)(u:Value):Blk (W.setCell p u) b cs t :=
 (Below.heap_setCell W p u b hp).trans h
theorem Blk.set{W:World}{b:Nat}{cs:List Value}{t:TypeId}(h:Blk W b cs t)(i:Nat)(u:Value):Blk (W.setCell ⟨b,i,none⟩ u) b (cs.set i u) t:=by
 obtain⟨a0,hk⟩:=Array.getElem?_eq_some_iff.1 h
 show(W.heap.modify b _)[b]? = _
 rw[Array.getElem?_eq_getElem (by rw[Array.size_modify];exact a0),Array.getElem_modify_self,hk]
 simp
theorem Blk.own{β:Type}(b:Nat)(t:TypeId)(f:β→List Value):Own (fun s W=>Blk W b (f s) t):=fun s X Y a1 hs hg a0 =>
 hs.kept hg (fun e'=>by obtain⟨o,ho,hc⟩:=a0 b e'.symm;rw[show X.heap[b]? = _ from hs] at ho;cases ho;cases hc)
theorem Blk.turn{A B:World}{row:Option Nat}{b:Nat}{cs:List Value}{t:TypeId}(h:Blk A b cs t)(hg:A.grownBy B row)(hr:∀ r,row=some r→∃ o:Obj,A.heap[r]? = some o∧o.isCells=false):Blk B b cs t :=
 h.kept hg (fun e'=>by obtain⟨o,ho,hc⟩:=hr b e'.symm;rw[show A.heap[b]? = _ from h] at ho;cases ho;cases hc)
theorem Blk.put{W:World}{b l:Nat}{cs:List Value}{t:TypeId}(h:Blk W b cs t){o:Obj}(hl:W.heap[l]? = some o)(ho:o.isCells=false)(o':Obj):Blk (W.putObj l o') b cs t :=
 h.turn (grownBy_putObj' W l o') (fun r e=>by cases e;exact⟨o,hl,ho⟩)
structure Keeps(p:Nat→Prop)(W W':World):Prop where
 size:W.heap.size≤W'.heap.size
 block:∀ b,p b→W'.heap[b]? = W.heap[b]?
theorem Keeps.refl(p:Nat→Prop)(W:World):Keeps p W W:=⟨A6 _,fun _ _=>rfl⟩
theorem Keeps.trans{p:Nat→Prop}{A B C:World}(h:Keeps p A B)(k:Keeps p B C):Keeps p A C:=⟨N0 h.size k.size,fun b hb=>(k.block b hb).trans (h.block b hb)⟩
theorem Keeps.of_below{p:Nat→Prop}{B:Nat}{W W':World}(h:Below B W W')(hp:∀ b,p b→b<B):Keeps p W W':=⟨h.size,fun b hb=>h.block b (hp b hb)⟩
theorem Keeps.setCell{p:Nat→Prop}{A W:World}(h:Keeps p A W){a:Addr}(ha:¬ p a.block)(u:Value):Keeps p A (W.setCell a u) :=
 h.trans ⟨by simp[World.setCell],fun b hb=>Below.heap_setCell W a u b (fun e=>ha (e▸hb))⟩
theorem Keeps.cell{p:Nat→Prop}{W W':World}(h:Keeps p W W'){a:Addr}(hb:p a.block):W'.cell? a=W.cell? a:=World.cell?_of_block (h.block a.block hb)
theorem Zbg{p:Nat→Prop}{B:Nat}(hp:∀ b,p b→b<B)(W:World)(l:Nat)(o o':Obj)(hl:B≤l)(h:W.heap[l]? = some o)(_:o.isCells=false)(_:o.isWalk=false):Keeps p W (W.putObj l o') :=
 ⟨(grownBy_putObj' W l o').size,fun b hb=>G7 (by have:=hp b hb;omega)⟩
theorem Pb{P:Program}{f:FuncId}{fn:Func}{c:Code}{args:Array Value}{w:World}{R:Ending→World→Prop}(hf:P.funcs[f]? = some fn)(hb:fn.body=some c)
 (h:c.wp P (bodyPostM Fence.wide 4 P fn R) { tmps:=args++Array.replicate (fn.ntmps-args.size) undef,defers:=[] } w):Calls P f args w R :=
 callsIn_wide.1 (callsIn_of_wp_marks hf hb trivial (wpIn_wide.2 h))
theorem wp_range{α:Type}{P:Program}{g:Operand}{ps:Array Tmp}{assign body:Code}{Q:Exit→Act→World→Prop}{a:Act}{w:World}{gf:Nat}{lb:Array Value}
  (hg:a.eval g=.func (.func gf) #[] lb) (eg:∀ args w,(callFunc gf args).run P w=.ok (.enter gf args) w) {encs:α→Array Value} {S Sp:List α→Prop} {N:Nat} (p:Nat→Prop) (hp:∀ b,p b→b<w.heap.size)
  (hseq:SeqStopsK Fence.wide 3 P gf lb encs (Keeps p) S Sp N w) (hps:∀ x,(encs x).size=ps.size)
  (I:List α→World→Prop) (Ix:Code→List α→World→Prop) (hI:OwnFrom w.heap.size I) (hIx:∀ c,OwnFrom w.heap.size (Ix c)) (h0:I [] w) (Ax:α→Act→World→Prop) (hAx:∀ x a',OwnFrom w.heap.size (fun(_:Unit) W=>Ax x a' W))
  (hassign:∀ (l:Nat) (pre:List α) (x:α) (W:World) (K:Act→World→Prop),I pre W→(∀ a' W',KeepsFrom w.heap.size W W'→Keeps p W W'→I pre W'→Ax x a' W'→K a' W') →
   assign.wpIn (Fence.wide.inRound l) 2 P (Exit.then K (fun _ _ _=>False)) { tmps:=(ps.zip (encs x)).foldl (fun t (p,v)=>t.setIfInBounds p v) a.tmps,defers:=[] } W)
  (hbody:∀ (l:Nat) (pre:List α) (x:α) (a':Act) (W:World),w.heap.size≤l→I pre W→Ax x a' W→pre.length<N→body.wpIn (Fence.wide.inRound l) 2 P (ownPostG w.heap.size (Keeps p) I Ix (pre++[x]) W) a' W)
  (hdone:∀ (D:Nat) (xs:List α) (W:World),w.heap.size≤D→S xs→I xs W→W.heap[D]? = some (.deferred (some []))→Q .normal { a with defers:={ target:=.collected D,args:=#[] }::a.defers } W)
  (hstop:∀ (D:Nat) (c:Code) (pre:List α) (W:World),w.heap.size≤D→Sp pre→Ix c pre W→W.heap[D]? = some (.deferred (some []))→c.wp P Q { a with defers:={ target:=.collected D,args:=#[] }::a.defers } W) :
  (Code.rangeFunc g ps assign body).wp P Q a w :=
 (wpIn_wide (n:=4)).1 (wpIn_rangeFunc_ownH (F:=Fence.wide) (n:=4) rfl M0 hg trivial eg hseq (fun h k=>h.trans k) (Zbg hp) (Below.refl _ _) hps I Ix hI hIx h0 Ax hAx hassign
  (fun l pre x a' W hl _ h1 h2 h3=>hbody l pre x a' W hl h1 h2 h3) hdone (fun D c pre W h1 h2 h3 h4=>wpIn_wide.2 (hstop D c pre W h1 h2 h3 h4)))
end Go.Proofs.YtekomodnkfhihaaGreatDoor
namespace Go.Proofs.YtekomodnkfhihaaGreatDoor
set_option maxHeartbeats 8000000
set_option maxRecDepth 100000
open Go.RowKit Go.Extern.Stop Go.Stop Go.Extern
set_option linter.unusedVariables false
def Gl(w:World):List (Option Int)→Option Int→Value→Prop
 | [],none,v=>v=.nilIface
 | [],some c,v=>v=.iface 33 (V0 c)
 | some b::r,t,v=>∃ blk v',v=.iface 201 (P0 blk)∧Blk w blk [V0 b,v'] 204∧Gl w r t v'
 | none::r,t,v=>False
theorem Gl.kept{w w':World}(hb:∀ blk cs,Blk w blk cs 204→Blk w' blk cs 204):∀ {l:List (Option Int)} {t:Option Int} {v:Value},Gl w l t v→Gl w' l t v
 | [],none,v,h=>h
 | [],some c,v,h=>h
 | some b::r,t,v,⟨blk,v',h1,h2,h4⟩=>⟨blk,v',h1,hb _ _ h2,Gl.kept hb h4⟩
 | none::r,t,v,h=>h.elim
theorem Gl.below{w w':World}(hb:B3 w w'){l:List (Option Int)}{t:Option Int}{v:Value}(h:Gl w l t v):Gl w' l t v:=h.kept fun _ _ k=>k.below hb
def Br(l:List (Option Int))(t:Option Int):Bool:=l.isEmpty&&t.isNone
theorem Gl.nil_or{w:World}{l:List (Option Int)}{t:Option Int}{v:Value}(h:Gl w l t v):(Br l t=true∧v=.nilIface)∨(Br l t=false∧∃ ty x,v=.iface ty x):=by
 match l,t,h with
 | [],none,h=>exact .inl ⟨rfl,h⟩
 | [],some c,h=>exact .inr ⟨rfl,_,_,h⟩
 | some b::r,t,⟨_,_,h,_⟩=>exact .inr ⟨rfl,_,_,h⟩
 | none::r,t,h=>exact h.elim
theorem Se{l:List (Option Int)}{t:Option Int}(h:Br l t=true):l=[]∧t=none:=by
 cases l<;>cases t<;>simp_all [Br]
/-! ### what the model's entries for internal/reflectlite give at these types -/
theorem Tryz.valueOfPN(t:Addr)(w:World):(ReflectliteValue.unpack (.iface 152 (.pointer (some t)))).run Tryz.prog w
 = .ok (.agg #[.pointer (some ⟨4,152,none⟩),.pointer (some ⟨w.heap.size,0,none⟩),.int .u64 150]) (w.alloc (.cells #[.pointer (some t)] 152)):=by kernel_rfl
theorem Tryz.typePN (a : Addr) (w : World) : (ReflectliteValue.methodAny (ReflectliteValue.valueError "reflectlite.Value.Type" 0) (fun t _ _ _ => ReflectliteType.toType t) #[.agg #[.pointer (some ⟨4, 152, none⟩), .pointer (some a), .int .u64 150]]).run Tryz.prog w
 = .ok (.iface 311 (.agg #[.pointer (some ⟨4,152,none⟩)])) w:=by kernel_rfl
theorem Tryz.kindPN(w:World):((ReflectliteType.abiMethod fun t=>(fun a:Nat=>Value.int IntKind.u8 (a:Int)) <$> Rtype.kind t) #[.pointer (some ⟨4,152,none⟩)]).run Tryz.prog w=.ok (.int .u8 22) w:=by kernel_rfl
theorem Tryz.kindN(w:World):((ReflectliteType.abiMethod fun t=>(fun a:Nat=>Value.int IntKind.u8 (a:Int)) <$> Rtype.kind t) #[.pointer (some ⟨4,33,none⟩)]).run Tryz.prog w=.ok (.int .u8 2) w:=by kernel_rfl
theorem as_rlm(z:Sem Value)(f:TypeId→Addr→Nat→Nat→Sem Value)(v:Value) :
 ReflectliteValue.method z f #[v]=(do match ←ReflectliteValue.parts v with|none=>z|some (t,a,fl)=>f t a fl (fl%32)):=rfl
theorem Tryz.partsPN(a:Addr)(w:World):(ReflectliteValue.parts (.agg #[.pointer (some ⟨4,152,none⟩),.pointer (some a),.int .u64 150])).run Tryz.prog w=.ok (some (152,a,150)) w:=by kernel_rfl
theorem Tryz.isNilPN(a p:Addr)(W:World)(ha:W.cell? a=some (.pointer (some p))) :
 (ReflectliteValue.method (ReflectliteValue.valueError "reflectlite.Value.IsNil" 0) ReflectliteValue.isNil #[.agg #[.pointer (some ⟨4, 152, none⟩), .pointer (some a), .int .u64 150]]).run Tryz.prog W = .ok (.bool false) W := by
 rw[as_rlm]
 simp only[B8,Tryz.partsPN,Result.andThen]
 simp[ReflectliteValue.isNil,loadVar,isAgg,underlying,Tryz.underlying152,ha,Result.andThen]
theorem Tryz.elemPN(w:World):(ReflectliteType.method ReflectliteType.elem #[.agg #[.pointer (some ⟨4,152,none⟩)]]).run Tryz.prog w=.ok (.iface 311 (.agg #[.pointer (some ⟨4,33,none⟩)])) w:=by kernel_rfl
theorem Tryz.implementsN (w : World) : (ReflectliteType.relation "Implements" ReflectliteType.implements_ #[.agg #[.pointer (some ⟨4, 33, none⟩)], .iface 311 (.agg #[.pointer (some ⟨4, 39, none⟩)])]).run Tryz.prog w = .ok (.bool true) w := by kernel_rfl
theorem Tryz.typeOfN(v:Value)(w:World):(ReflectliteType.typeOf #[.iface 33 v]).run Tryz.prog w=.ok (.iface 311 (.agg #[.pointer (some ⟨4,33,none⟩)])) w:=by kernel_rfl
theorem Tryz.typeOfF(v:Value)(w:World):(ReflectliteType.typeOf #[.iface 201 v]).run Tryz.prog w=.ok (.iface 311 (.agg #[.pointer (some ⟨4,201,none⟩)])) w:=by kernel_rfl
theorem Tryz.assignN (w : World) : (ReflectliteType.relation "AssignableTo" ReflectliteType.assignableTo #[.agg #[.pointer (some ⟨4, 33, none⟩)], .iface 311 (.agg #[.pointer (some ⟨4, 33, none⟩)])]).run Tryz.prog w = .ok (.bool true) w := by kernel_rfl
theorem Tryz.assignF (w : World) : (ReflectliteType.relation "AssignableTo" ReflectliteType.assignableTo #[.agg #[.pointer (some ⟨4, 201, none⟩)], .iface 311 (.agg #[.pointer (some ⟨4, 33, none⟩)])]).run Tryz.prog w = .ok (.bool false) w := by kernel_rfl
theorem Tryz.valueOfN(c:Int)(w:World):(ReflectliteValue.unpack (.iface 33 (V0 c))).run Tryz.prog w
 = .ok (.agg #[.pointer (some ⟨4,33,none⟩),.pointer (some ⟨w.heap.size,0,none⟩),.int .u64 130]) (w.alloc (.cells #[V0 c] 33)):=by kernel_rfl
theorem Tryz.elemOfPN(w:World):(Rtype.elem? 152).run Tryz.prog w=.ok (some 33) w:=by kernel_rfl
theorem Tryz.mkN(p:Addr)(w:World):(ReflectliteValue.mk 33 p ReflectliteValue.flagAddr).run Tryz.prog w=.ok (.agg #[.pointer (some ⟨4,33,none⟩),.pointer (some p),.int .u64 386]) w:=by kernel_rfl
theorem Tryz.elemVPN(a p:Addr)(W:World)(ha:W.cell? a=some (.pointer (some p))) :
 (ReflectliteValue.method (ReflectliteValue.valueError "reflectlite.Value.Elem" 0) ReflectliteValue.elem #[.agg #[.pointer (some ⟨4, 152, none⟩), .pointer (some a), .int .u64 150]]).run Tryz.prog W
 = .ok (.agg #[.pointer (some ⟨4,33,none⟩),.pointer (some p),.int .u64 386]) W:=by
 rw[as_rlm]
 simp only[B8,Tryz.partsPN,Result.andThen]
 simp[ReflectliteValue.elem,loadVar,isAgg,underlying,Tryz.underlying152,ha,Result.andThen,Tryz.elemOfPN,Tryz.mkN]
theorem as_rls(v x:Value):ReflectliteValue.set #[v,x]=(do
 let (some (dst,a,fl),some (src,b,_)):=(←ReflectliteValue.parts v,←ReflectliteValue.parts x)
  | unsupported (.noEntry "extern/(internal/reflectlite.Value).Set.zeroValue")
 if fl / ReflectliteValue.flagAddr % 2 == 0 then unsupported (.noEntry "extern/(internal/reflectlite.Value).Set.unaddressable")
 let val ←loadVar src b
 if ←Rtype.directlyAssignable dst src then storeVar dst a val
 else if ←Rtype.implements dst src then
  if(←Rtype.kind src)==20 then
   match val with
   | .nilIface => unsupported (.noEntry "extern/reflectlite: a nil value of one interface type handed on as a value of another")
   | _=>storeVar dst a val
  else storeVar dst a (.iface src val)
 else panicString ("reflectlite.Set: value of type " ++ (← Rtype.spelt src) ++ " is not assignable to type " ++ (← Rtype.spelt dst))
 pure (.tuple #[])):=rfl
theorem Tryz.partsNa(a:Addr)(w:World):(ReflectliteValue.parts (.agg #[.pointer (some ⟨4,33,none⟩),.pointer (some a),.int .u64 386])).run Tryz.prog w=.ok (some (33,a,386)) w:=by kernel_rfl
theorem Tryz.partsN(a:Addr)(w:World):(ReflectliteValue.parts (.agg #[.pointer (some ⟨4,33,none⟩),.pointer (some a),.int .u64 130])).run Tryz.prog w=.ok (some (33,a,130)) w:=by kernel_rfl
theorem Tryz.directN(w:World):(Rtype.directlyAssignable 33 33).run Tryz.prog w=.ok true w:=by kernel_rfl
theorem Tryz.setN(ta b:Addr)(c:Int)(old:Value)(W:World)(hb:W.cell? b=some (V0 c))(ht:W.cell? ta=some old)(hf:W.frozen? ta=false) :
 (ReflectliteValue.set #[.agg #[.pointer (some ⟨4,33,none⟩),.pointer (some ta),.int .u64 386],.agg #[.pointer (some ⟨4,33,none⟩),.pointer (some b),.int .u64 130]]).run Tryz.prog W
 = .ok (.tuple #[]) (W.setCell ta (V0 c)):=by
 rw[as_rls]
 simp only[B8,Tryz.partsNa,Tryz.partsN,Result.andThen]
 simp[ReflectliteValue.flagAddr,loadVar,isAgg,underlying,Tryz.underlying33,hb,Result.andThen,Tryz.directN,storeVar,Value.cells,storeCells,Addr.add]
 rw[run_store Tryz.prog W ta _ _ (by rfl)]
 simp[ht,hf]
/-! ### what the library's assertions find -/
theorem Tryz.noAsF(v:Value)(xT:TypeId)(w:World):(Instr.typeAssert (.iface 201 v) xT 316 true).run Tryz.prog w=.ok (.tuple #[.nilIface,.bool false]) w:=run_typeAssert_lacksB Tryz.underlying316 K0 K0 v xT w
theorem Tryz.hasUnwrapF(v:Value)(xT:TypeId)(w:World):(Instr.typeAssert (.iface 201 v) xT 278 true).run Tryz.prog w=.ok (.tuple #[.iface 201 v,.bool true]) w:=run_typeAssert_hasB Tryz.underlying278 K0 v xT w
theorem Tryz.noIsN(v:Value)(xT:TypeId)(w:World):(Instr.typeAssert (.iface 33 v) xT 369 true).run Tryz.prog w=.ok (.tuple #[.nilIface,.bool false]) w:=run_typeAssert_lacksB Tryz.underlying369 K0 K0 v xT w
theorem Tryz.noUnwrapN(v:Value)(xT:TypeId)(w:World):(Instr.typeAssert (.iface 33 v) xT 278 true).run Tryz.prog w=.ok (.tuple #[.nilIface,.bool false]) w:=run_typeAssert_lacksB Tryz.underlying278 K0 K0 v xT w
theorem Tryz.noUnwrapsN(v:Value)(xT:TypeId)(w:World):(Instr.typeAssert (.iface 33 v) xT 319 true).run Tryz.prog w=.ok (.tuple #[.nilIface,.bool false]) w:=run_typeAssert_lacksB Tryz.underlying319 K0 K0 v xT w
theorem Tryz.isFF(v:Value)(w:World):(Instr.typeAssert (.iface 201 v) 39 201 true).run Tryz.prog w=.ok (.tuple #[v,.bool true]) w:=by kernel_rfl
theorem Tryz.isNF(v:Value)(w:World):(Instr.typeAssert (.iface 33 v) 39 201 true).run Tryz.prog w=.ok (.tuple #[.pointer none,.bool false]) w:=by kernel_rfl
theorem Tryz.methUnwrapF (v : Value) (w : World) : (Go.method 523 201 v "Unwrap").run Tryz.prog w = .ok (311, v) w := by kernel_rfl
theorem Tryz.nilUnwrapF (a : Addr) (w : World) : (nilAhead 523 201 (.pointer (some a)) "Unwrap").run Tryz.prog w = .ok (some false) w := by kernel_rfl
theorem Mn(blk:Nat)(v':Value)(w:World)(h:w.cell? ⟨blk,1,none⟩=some v') :
 C0 311 #[P0 blk] w fun e w'=>e=.returned v'∧w'=w:=by
 go_enter Tryz.func311,Tryz.ntmps311
 go_wp2_with fail
 go_ret
 exact⟨rfl,rfl⟩
theorem Fu(blk:Nat)(v':Value)(w:World)(h:w.cell? ⟨blk,1,none⟩=some v') :
 C0 117 #[.iface 201 (P0 blk)] w fun e w'=>e=.returned v'∧w'=w:=by
 have h1:=Tryz.hasUnwrapF
 have h2:=Tryz.methUnwrapF
 have h3:=Tryz.nilUnwrapF
 go_enter Tryz.func117,Tryz.ntmps117
 go_wp2_with fail
 refine(Mn _ _ _ h).mono ?_
 rintro e w' ⟨rfl,rfl⟩
 go_wp2_with fail
 go_ret
 exact⟨rfl,rfl⟩
theorem Rc(c:Value)(w:World):C0 117 #[.iface 33 c] w (Ret .nilIface w):=by
 have h1:=Tryz.noUnwrapN
 go_enter Tryz.func117,Tryz.ntmps117
 go_wp2_with fail
 go_ret
 exact⟨rfl,Below.refl _ _⟩
theorem Tryz.methAssign (h : Value) (w : World) : (Go.method 523 311 (.agg #[h]) "AssignableTo").run Tryz.prog w = .ok (316, .agg #[h]) w := by kernel_rfl
theorem Tryz.methKind (h : Value) (w : World) : (Go.method 523 311 (.agg #[h]) "Kind").run Tryz.prog w = .ok (304, h) w := by kernel_rfl
theorem Tryz.methElem (h : Value) (w : World) : (Go.method 523 311 (.agg #[h]) "Elem").run Tryz.prog w = .ok (318, .agg #[h]) w := by kernel_rfl
theorem Tryz.methImplements (h : Value) (w : World) : (Go.method 523 311 (.agg #[h]) "Implements").run Tryz.prog w = .ok (319, .agg #[h]) w := by kernel_rfl
def refTV(a:Nat):Value:=.agg #[.pointer (some ⟨4,152,none⟩),P0 a,.int .u64 150]
def AsPost(T:Nat)(t:Option Int)(w:World)(e:Ending)(w':World):Prop :=
 match t with
 | some c=>e=.returned (.bool true)∧∃ w1,B3 w w1∧w'=w1.setCell ⟨T,0,none⟩ (V0 c)
 | none=>e=.returned (.bool false)∧B3 w w'
theorem Zej(T bV:Nat)(old:Int)(t:Option Int)(l:List (Option Int))(v:Value)(w:World)(hv:Gl w l t v)(hn:Br l t=false)
 (hT:Blk w T [V0 old] 33) (hV:w.cell? ⟨bV,0,none⟩=some (P0 T)) :
 C0 141 #[v,.iface 152 (P0 T),refTV bV,.iface 311 (.agg #[.pointer (some ⟨4,33,none⟩)])] w (AsPost T t w):=by
 have b3:=@run_callFunc_extern Tryz.prog 138 _ (fun a1=>ReflectliteValue.unpack (a1.getD 0 (.tuple #[]))) Tryz.func138 K0 K0 K0 K0
 have b1:=@run_callFunc_extern Tryz.prog 208 _ ReflectliteType.typeOf Tryz.func208 K0 K0 K0 K0
 have a7 := @run_callFunc_extern Tryz.prog 316 _ (ReflectliteType.relation "AssignableTo" ReflectliteType.assignableTo) Tryz.func316 K0 K0 K0 K0
 have a6 := @run_callFunc_extern Tryz.prog 209 _ (ReflectliteValue.method (ReflectliteValue.valueError "reflectlite.Value.Elem" 0) ReflectliteValue.elem) Tryz.func209 K0 K0 K0 K0
 have b6:=@run_callFunc_extern Tryz.prog 210 _ ReflectliteValue.set Tryz.func210 K0 K0 K0 K0
 have y1:=Tryz.typeOfN
 have y2:=Tryz.typeOfF
 have y4:=Tryz.assignN
 have y5:=Tryz.assignF
 have y7:=Tryz.methAssign
 have y8:=Tryz.valueOfN
 have y9:=Tryz.noAsF
 have b2:=Tryz.hasUnwrapF
 have a9:=Tryz.methUnwrapF
 unfold refTV
 go_enter Tryz.func141,Tryz.ntmps141
 go_wp2_with fail
 have kV:=Blk.new w [.pointer (some ⟨4,152,none⟩),P0 bV,.int .u64 150] 236
 have hB:=blx w (.cells #[.pointer (some ⟨4,152,none⟩),P0 bV,.int .u64 150] 236)
 obtain⟨W,hW⟩:∃ W,w.alloc (.cells #[.pointer (some ⟨4,152,none⟩),P0 bV,.int .u64 150] 236)=W:=⟨_,rfl⟩
 change Blk (w.alloc (.cells #[.pointer (some ⟨4,152,none⟩),P0 bV,.int .u64 150] 236)) _ _ _ at kV
 rw[hW] at kV hB ⊢
 have a5:=hT.below hB
 have a3:=Zhb hB hV
 have a4:=hv.below hB
 clear hW hT hV hv
 go_loopg [0] l.length (fun k x wr=>∃ l',l'.length=k∧Gl wr l' t x∧Br l' t=false∧B3 W wr)
 case atStart=>exact⟨l,rfl,a4,hn,Below.refl _ _⟩
 case round =>
  obtain⟨l',hk,hx,a2,a0⟩:=hrel
  have kT:=a5.below a0
  have kW:=kV.below a0
  have cV:=Zhb a0 a3
  have cT:=kT.cell (i:=0) rfl
  have fT:=kT.frozen 0
  have b5:=kW.cell (i:=0) rfl
  have a8:=kW.cell (i:=1) rfl
  have b4:=kW.cell (i:=2) rfl
  have HK:=Lib.hid hk;clear hk
  match l',hx,a2 with
  | [],hx,a2 =>
   cases t with
   | none=>simp[Br] at a2
   | some c =>
    obtain rfl:u0=_:=hx
    have z1:=Tryz.elemVPN ⟨bV,0,none⟩ ⟨T,0,none⟩ wr cV
    have z2:=Tryz.setN ⟨T,0,none⟩ ⟨wr.heap.size,0,none⟩ c (V0 old) (wr.alloc (.cells #[V0 c] 33)) ((Blk.new wr [V0 c] 33).cell (i:=0) rfl) (getA _ cT) ((kT.alloc _).frozen 0)
    go_wp2_with fail
    go_ret
    exact⟨rfl,_,bln hB (bln a0 (blx _ _)),rfl⟩
  | some b::r,hx,_ =>
   obtain⟨b0,v',rfl,hk,h3⟩:=hx
   have h1:=hk.cell (i:=0) rfl
   have h2:=hk.cell (i:=1) rfl
   go_wp2_with fail
   refine(Mn _ _ _ h2).mono ?_
   rintro e w' ⟨rfl,rfl⟩
   rcases h3.nil_or with ⟨hz,rfl⟩|⟨hz,ty,x,rfl⟩
   ·obtain⟨rfl,rfl⟩:=Se hz
    go_wp2_with fail
    go_ret
    exact⟨rfl,bln hB a0⟩
   ·go_wp2_with fail
    change _=_ at HK
    go_roundg r.length
    case measure=>rw[←HK];simp
    case rel=>exact⟨r,rfl,h3,hz,a0⟩
  | none::r,hx,_=>exact hx.elim
def Zhd(w:World):Prop:=w.cell? ⟨0,0,none⟩=some (.iface 311 (.agg #[.pointer (some ⟨4,39,none⟩)]))
theorem Zhd.below{w w':World}(h:Zhd w)(hb:B3 w w'):Zhd w':=Zhb hb h
def Bb(l:List (Option Int))(t:Option Int):Int:=if Br l t then 0 else t.getD 18
theorem Zep(T:Nat)(old:Int)(t:Option Int)(l:List (Option Int))(v:Value)(w:World)(hg:Zhd w)(hv:Gl w l t v)(hn:Br l t=false)
 (hT:Blk w T [V0 old] 33) :
 C0 75 #[v,.iface 152 (P0 T)] w (AsPost T t w):=by
 have h1:=@run_callFunc_extern Tryz.prog 138 _ (fun a1=>ReflectliteValue.unpack (a1.getD 0 (.tuple #[]))) Tryz.func138 K0 K0 K0 K0
 have h2 := @run_callFunc_extern Tryz.prog 139 _ (ReflectliteValue.methodAny (ReflectliteValue.valueError "reflectlite.Value.Type" 0) (fun t _ _ _ => ReflectliteType.toType t)) Tryz.func139 K0 K0 K0 K0
 have h3 := @run_callFunc_extern Tryz.prog 140 _ (ReflectliteValue.method (ReflectliteValue.valueError "reflectlite.Value.IsNil" 0) ReflectliteValue.isNil) Tryz.func140 K0 K0 K0 K0
 have h4:=@run_callFunc_extern Tryz.prog 304 _ (ReflectliteType.abiMethod fun t=>do pure (.int .u8 (←Rtype.kind t))) Tryz.func304 K0 K0 K0 K0
 have h5:=@run_callFunc_extern Tryz.prog 318 _ (ReflectliteType.method ReflectliteType.elem) Tryz.func318 K0 K0 K0 K0
 have h6 := @run_callFunc_extern Tryz.prog 319 _ (ReflectliteType.relation "Implements" ReflectliteType.implements_) Tryz.func319 K0 K0 K0 K0
 have f1:=Tryz.valueOfPN
 have f2:=Tryz.typePN
 have f3:=Tryz.methKind
 have f4:=Tryz.methElem
 have f5:=Tryz.methImplements
 have f6:=Tryz.kindPN
 have f7:=Tryz.kindN
 have f8:=Tryz.elemPN
 have f9:=Tryz.implementsN
 have hV:Blk (w.alloc (.cells #[P0 T] 152)) w.heap.size [P0 T] 152:=Blk.new w _ _
 obtain⟨O,hO⟩:∃ O:Obj,O=.cells #[.pointer (some ⟨4,152,none⟩),.pointer (some ⟨w.heap.size,0,none⟩),.int .u64 150] 236:=⟨_,rfl⟩
 have a2:=(hV.alloc O).cell (i:=0) rfl
 have n8:=Tryz.isNilPN ⟨w.heap.size,0,none⟩ ⟨T,0,none⟩ ((w.alloc (.cells #[P0 T] 152)).alloc O) a2
 have hB:B3 w ((w.alloc (.cells #[P0 T] 152)).alloc O):=bln (blx _ _) (blx _ _)
 have g2:=hg.below hB
 have a0:=Zej T w.heap.size old t l v _ (hv.below hB) hn (hT.below hB) a2
 subst hO
 unfold Zhd at g2
 unfold refTV at a0
 clear hV a2 hg hT
 rcases hv.nil_or with ⟨hz,_⟩|⟨_,ty,x,rfl⟩
 ·rw[hz] at hn;exact nomatch hn
 go_enter Tryz.func75,Tryz.ntmps75
 go_wp2_with fail
 refine a0.mono ?_
 intro e w' h
 cases t with
 | some c =>
  obtain⟨rfl,w1,h1,rfl⟩:=h
  go_wp2_with fail
  go_ret
  exact⟨rfl,w1,bln hB h1,rfl⟩
 | none =>
  obtain⟨rfl,h1⟩:=h
  go_wp2_with fail
  go_ret
  exact⟨rfl,bln hB h1⟩
theorem Zgo(t:Option Int)(l:List (Option Int))(v:Value)(w:World)(hg:Zhd w)(hv:Gl w l t v) :
 C0 29 #[v] w (Ret (V0 (Bb l t)) w):=by
 rcases hv.nil_or with ⟨hz,rfl⟩|⟨hz,ty,x,rfl⟩
 ·simp only[Bb,hz,if_true]
  go_enter Tryz.func29,Tryz.ntmps29
  go_wp2_with fail
  go_ret
  exact⟨rfl,Below.refl _ _⟩
 simp only[Bb,hz,L8,if_false]
 have hB:=blx w (.cells #[V0 0] 33)
 have kT:Blk (w.alloc (.cells #[V0 0] 33)) w.heap.size [V0 0] 33:=Blk.new w _ _
 have a0:=Zep w.heap.size 0 t l _ _ (hg.below hB) (hv.below hB) hz kT
 clear hg hv
 go_enter Tryz.func29,Tryz.ntmps29
 go_wp2_with fail
 refine a0.mono ?_
 intro e w' h
 cases t with
 | some c =>
  obtain⟨rfl,w1,h1,rfl⟩:=h
  have k2:=((kT.below h1).set 0 (V0 c)).cell (i:=0) rfl
  go_wp2_with fail
  go_ret
  exact⟨rfl,(bln hB h1).setCell (A6 _) _⟩
 | none =>
  obtain⟨rfl,h1⟩:=h
  go_wp2_with fail
  go_ret
  exact⟨rfl,bln hB h1⟩
def atL (b:Int)(l:List (Option Int))(t:Option Int):List (Option Int):=if Br l t then l else some b::l
theorem fault_At(b:Int)(t:Option Int)(l:List (Option Int))(v:Value)(w:World)(hv:Gl w l t v) :
 C0 65 #[V0 b,v] w (Qo (fun w' r=>Gl w' (atL b l t) t r) w):=by
 rcases hv.nil_or with ⟨hz,rfl⟩|⟨hz,ty,x,rfl⟩
 ·simp only[atL,hz,if_true]
  go_enter Tryz.func65,Tryz.ntmps65
  go_wp2_with fail
  go_ret
  exact⟨_,rfl,Below.refl _ _,hv⟩
 simp only[atL,hz,L8,if_false]
 go_enter Tryz.func65,Tryz.ntmps65
 go_wp2_with fail
 go_ret
 have k:=Blk.new w [V0 b,.iface ty x] 204
 exact⟨_,rfl,blx _ _,w.heap.size,_,rfl,k,hv.below (blx _ _)⟩
def errM(l:List (Option Int))(t:Option Int):Nat:=l.length+if t.isSome then 1 else 0
def Vq(l:List (Option Int)):List Int:=l.filterMap id
theorem Oo(t:Option Int)(l:List (Option Int))(v:Value)(w:World)(hlen:l.length≤1000000)(hv:Gl w l t v) :
 C0 55 #[v] w (Qo (fun w' r=>w'.ownsRow w.heap.size 3 1 r (Vq l).length ((Vq l).map V0)) w):=by
 obtain⟨i0,b0,a8,a7,a6⟩:=info_parts (P:=Tryz.prog) (e:=3) (z:=V0 0) (size:=1) (bytes:=8) K0
 have y1:=Tryz.hasUnwrapF
 have y2:=Tryz.methUnwrapF
 have y3:=Tryz.nilUnwrapF
 have y4:=Tryz.noUnwrapN
 have y7:=Tryz.isFF
 have y8:=Tryz.isNF
 go_enter Tryz.func55,Tryz.ntmps55
 go_wp2_with fail
 go_loopg [0,3] (errM l t) (fun k x u wr=>∃ l' t' xs,k=errM l' t'∧Gl w l' t' x∧wr.ownsRow w.heap.size 3 1 u xs.length (xs.map V0)∧Vq l=xs++Vq l'∧B3 w wr)
 case atStart=>exact⟨l,t,[],rfl,hv,A4 _ _ _ _,rfl,Below.refl _ _⟩
 case round =>
  obtain⟨l',t',xs,hk,hx,a0,a3,a2⟩:=hrel
  have HK:=Lib.hid hk;clear hk
  have b1:xs.length+(Vq l').length≤1000000:=by
   have:(Vq l).length≤l.length:=List.length_filterMap_le _ _
   rw[a3,A5] at this;omega
  have HB:=Lib.hid a3;clear a3
  match l',hx with
  | [],hx =>
   cases t' with
   | none =>
    obtain rfl:u0=_:=hx
    have HO:=Lib.hid a0;clear a0
    go_wp2_with fail
    go_ret
    refine⟨_,rfl,a2,?_⟩
    rw[HB.out,show Vq []=[] from rfl,F6]
    exact HO.out
   | some c =>
    obtain rfl:u0=_:=hx
    have HO:=Lib.hid a0;clear a0
    go_wp2_with fail
    refine(Rc _ _).mono ?_
    rintro e w' ⟨rfl,hb⟩
    have a5:=Lib.hid (Za HO.out hb)
    go_wp2_with fail
    go_roundg 0
    case measure=>rw[HK.out];simp[errM]
    case rel=>exact⟨[],none,xs,rfl,rfl,a5.out,HB.out,bln a2 hb⟩
  | some b::r,hx =>
   obtain⟨b2,v',rfl,hk,h3⟩:=hx
   have h1:=hk.cell (i:=0) rfl
   have h2:=hk.cell (i:=1) rfl
   have c1:=Zhb a2 h1
   go_wp2_with (at_builtin;refine Stop.go ?_)
   unfold Stop
   refine app_own rfl _ _ 27 rfl w.heap.size 3 i0 (V0 0) 1 8 Tryz.underlying27 b0 a8 a7 a6 rfl Do u3 xs.length _ rfl (a0.alloc _) wr.heap.size 1 1 [V0 b] 3 rfl
    (Blk.new wr [V0 b] 3) rfl (by simp[Value.oneCell']) (by unfold maxLen;omega) M0 (by have:=a2.size;simp;omega) ?_
   intro v2 w3 a1 _ a9
   have a4:B3 w w3:=(a2.trans ((blx wr _).mono a2.size)).trans a9
   have HO:=Lib.hid a1
   have g2:=Zhb a4 h2
   clear a0 a1
   go_wp2_with fail
   refine(Fu _ _ _ g2).mono ?_
   rintro e w' ⟨rfl,rfl⟩
   go_wp2_with fail
   go_roundg (errM r t')
   case measure=>rw[HK.out];simp[errM]
   case rel=>exact⟨r,t',xs++[b],rfl,h3,by simpa using HO.out,by rw[HB.out];simp[Vq],a4⟩
  | none::r,hx=>exact hx.elim
end Go.Proofs.YtekomodnkfhihaaGreatDoor
namespace Go.Proofs.YtekomodnkfhihaaGreatDoor
set_option maxHeartbeats 8000000
set_option maxRecDepth 100000
open Go.ChangeShapes Go.WideShapes Go.ChangeAt Go.RowKit Go.Joins
set_option linter.unusedVariables false
theorem ownKnobs:ownKnob Tryz.prog.godebug=none:=by kernel_rfl
theorem laidOuts:laidOutB Tryz.prog=true:=by kernel_rfl
theorem Tryz.et : Tryz.prog.globalNamed "errors.errorType" = some 0 := by kernel_rfl
theorem Tryz.rt : (Tryz.prog.cutTypes.find? (·.1 == "internal/reflectlite.rtype")).map (·.2) = some 311 := by kernel_rfl
theorem Tryz.oneRow:((List.range 423).filter fun t=>Tryz.prog.rowNamed t [101,114,114,111,114])=[39]:=by kernel_rfl
theorem Tryz.ntypes:Tryz.prog.types.size=423:=by kernel_rfl
theorem Oa {W : World} (h : laidMetH Tryz.prog [("errors.errorType", Rows.laid_errors_errorType)] W) : Zhd W := by
 have h' : laidMet Tryz.prog [] W ∧ handlesMet Tryz.prog [("errors.errorType", Rows.laid_errors_errorType)] W := h
 obtain⟨a0,u,ty,e1,e2,e3,e4,e5⟩:=h'.2 _ (E2.2 rfl)
 have en:a0=[101,114,114,111,114]:=(Option.some.inj e1).symm
 subst en
 obtain rfl:=Option.some.inj (Tryz.rt.symm.trans e2)
 have hm:ty∈(List.range 423).filter fun t=>Tryz.prog.rowNamed t [101,114,114,111,114]:=List.mem_filter.2 ⟨D9.2 (by rw[←Tryz.ntypes];exact e3),e4⟩
 rw[Tryz.oneRow] at hm
 obtain rfl:=E2.1 hm
 have hh:typeHandle Tryz.prog 39=.pointer (some ⟨4,39,none⟩):=by kernel_rfl
 rw[hh] at e5
 simpa [Zhd] using World.var?_cell Tryz.et e5 0
noncomputable def laidWorld (os:Os):World :=
 let w0:=World.holding Tryz.prog os ⟨#[],#[],[]⟩
 { w0 with heap:=w0.heap.modify 0 fun
  | .cells _ t frozen=>.cells #[.iface 311 (.agg #[.pointer (some ⟨4,39,none⟩)])] t frozen
  | o=>o }
end Go.Proofs.YtekomodnkfhihaaGreatDoor
namespace Go.Proofs.YtekomodnkfhihaaGreatDoor
set_option maxHeartbeats 8000000
set_option maxRecDepth 100000
open Go.Shelf
set_option linter.unusedVariables false
def Pa:Go.Shelf.Ren:=⟨fun|169=>79|n=>n,fun|70=>153|9=>9|0=>0|72=>155|37=>50|127=>245|3=>3|5=>5|n=>n,fun|n=>n⟩
theorem Zfu:Go.Proofs.Lays.n169 Tryz.prog Pa:={
 mixed:=by kernel_rfl
 f169:=Tryz.func79.trans (congrArg some K0)
 t0:=Tryz.underlying0
 a0:=Tryz.isAgg0
 z0:=Tryz.sizeOf0
 v0:=Tryz.zeroValue0
 t3:=Tryz.underlying3
 a3:=Tryz.isAgg3
 z3:=Tryz.sizeOf3
 v3:=Tryz.zeroValue3
 t9:=Tryz.underlying9
 a9:=Tryz.isAgg9
 z9:=Tryz.sizeOf9
 v9:=Tryz.zeroValue9
 t37:=Tryz.underlying50
 a37:=Tryz.isAgg50
 z37:=Tryz.sizeOf50
 v37:=Tryz.zeroValue50
 t70:=Tryz.underlying153
 a70:=Tryz.isAgg153
 z70:=Tryz.sizeOf153
 v70:=Tryz.zeroValue153
 t72:=Tryz.underlying155
 a72:=Tryz.isAgg155
 z72:=Tryz.sizeOf155
 v72:=Tryz.zeroValue155
 t127:=Tryz.underlying245
 a127:=Tryz.isAgg245
 z127:=Tryz.sizeOf245
 v127:=Tryz.zeroValue245 }
theorem Yw:Builder.Extra Tryz.prog Pa:={
 sizeBuilder:=by kernel_rfl
 liesBuilder:=by kernel_rfl
 t5:=Tryz.underlying5
 a5:=Tryz.isAgg5
 z5:=Tryz.sizeOf5
 v5:=Tryz.zeroValue5
 infoByte:=by kernel_rfl
 cellsByte:=by kernel_rfl
 sizeByte:=by kernel_rfl
 neB5:=by decide }
open Go.RowKit in
theorem Gu(B b:Nat)(l:Bl)(w:World)(h:Lib.IsBuilderF 155 5 B b (Lib.byteCells l) w)(hBw:B≤w.heap.size) :
 C0 79 #[P0 b] w fun e w'=>e=.returned (.string ⟨l.toArray⟩)∧(Lib.IsBuilderF 155 5 B b (Lib.byteCells l) w'∧Below B w w'∧Lib.OthersKept 5 (some b) w w'):=Any.Builder_String_any_k Zfu Yw B b l w h hBw
def Dg:Go.Shelf.Ren:=⟨fun|171=>77|243=>143|246=>212|283=>255|284=>256|285=>257|286=>258|129=>275|317=>274|318=>276|319=>277|320=>278|337=>288|338=>289|n=>n,fun|3=>3|9=>9|2=>2|4=>4|171=>357|0=>0|53=>341|37=>50|5=>5|173=>360|212=>387|51=>367|20=>20|213=>388|46=>248|232=>396|233=>397|n=>n,fun|17=>1|18=>2|19=>3|n=>n⟩
theorem Za6:Go.Proofs.LaysM.n171 Tryz.prog Dg:={
 mixed:=by kernel_rfl
 f129:=Tryz.func275.trans (congrArg some K0)
 f171:=Tryz.func77.trans (congrArg some K0)
 f243:=Tryz.func143.trans (congrArg some K0)
 f246:=Tryz.func212.trans (congrArg some K0)
 f283:=Tryz.func255.trans (congrArg some K0)
 f284:=Tryz.func256.trans (congrArg some K0)
 f285:=Tryz.func257.trans (congrArg some K0)
 f286:=Tryz.func258.trans (congrArg some K0)
 f317:=Tryz.func274.trans (congrArg some K0)
 f318:=Tryz.func276.trans (congrArg some K0)
 f319:=Tryz.func277.trans (congrArg some K0)
 f320:=Tryz.func278.trans (congrArg some K0)
 f337:=Tryz.func288.trans (congrArg some K0)
 f338:=Tryz.func289.trans (congrArg some K0)
 t0:=Tryz.underlying0
 a0:=Tryz.isAgg0
 z0:=Tryz.sizeOf0
 v0:=Tryz.zeroValue0
 t2:=Tryz.underlying2
 a2:=Tryz.isAgg2
 z2:=Tryz.sizeOf2
 v2:=Tryz.zeroValue2
 t3:=Tryz.underlying3
 a3:=Tryz.isAgg3
 z3:=Tryz.sizeOf3
 v3:=Tryz.zeroValue3
 t4:=Tryz.underlying4
 a4:=Tryz.isAgg4
 z4:=Tryz.sizeOf4
 v4:=Tryz.zeroValue4
 t5:=Tryz.underlying5
 a5:=Tryz.isAgg5
 z5:=Tryz.sizeOf5
 v5:=Tryz.zeroValue5
 t9:=Tryz.underlying9
 a9:=Tryz.isAgg9
 z9:=Tryz.sizeOf9
 v9:=Tryz.zeroValue9
 t20:=Tryz.underlying20
 a20:=Tryz.isAgg20
 z20:=Tryz.sizeOf20
 v20:=Tryz.zeroValue20
 t37:=Tryz.underlying50
 a37:=Tryz.isAgg50
 z37:=Tryz.sizeOf50
 v37:=Tryz.zeroValue50
 t46:=Tryz.underlying248
 a46:=Tryz.isAgg248
 z46:=Tryz.sizeOf248
 v46:=Tryz.zeroValue248
 t51:=Tryz.underlying367
 a51:=Tryz.isAgg367
 z51:=Tryz.sizeOf367
 v51:=Tryz.zeroValue367
 t53:=Tryz.underlying341
 a53:=Tryz.isAgg341
 z53:=Tryz.sizeOf341
 v53:=Tryz.zeroValue341
 t171:=Tryz.underlying357
 a171:=Tryz.isAgg357
 z171:=Tryz.sizeOf357
 v171:=Tryz.zeroValue357
 t173:=Tryz.underlying360
 a173:=Tryz.isAgg360
 z173:=Tryz.sizeOf360
 v173:=Tryz.zeroValue360
 t212:=Tryz.underlying387
 a212:=Tryz.isAgg387
 z212:=Tryz.sizeOf387
 v212:=Tryz.zeroValue387
 t213:=Tryz.underlying388
 a213:=Tryz.isAgg388
 z213:=Tryz.sizeOf388
 t232:=Tryz.underlying396
 a232:=Tryz.isAgg396
 z232:=Tryz.sizeOf396
 v232:=Tryz.zeroValue396
 t233:=Tryz.underlying397
 a233:=Tryz.isAgg397
 z233:=Tryz.sizeOf397
 v233:=Tryz.zeroValue397
 g17:=by kernel_rfl
 g18:=by kernel_rfl
 g19:=by kernel_rfl
 i0:=by kernel_rfl
 i2:=by kernel_rfl
 i3:=by kernel_rfl
 i4:=by kernel_rfl
 i5:=by kernel_rfl
 i9:=by kernel_rfl
 i20:=by kernel_rfl
 i37:=by kernel_rfl
 i46:=by kernel_rfl
 i51:=by kernel_rfl
 i53:=by kernel_rfl
 i171:=by kernel_rfl
 i173:=by kernel_rfl
 i212:=by kernel_rfl
 i232:=by kernel_rfl
 i233:=by kernel_rfl
 m17:=by kernel_rfl
 m18:=by kernel_rfl
 m19:=by kernel_rfl }
open Go.RowKit Go.Sort Go.Lib in
theorem Dk (n : Int) (h0 : -9223372036854775808 ≤ n) (h1 : n ≤ 9223372036854775807) (w : World) (htab : Lib.TabIs Tryz.prog w "internal/strconv.uint64pow10" .u64 Lib.pow10Tab) :
 C0 77 #[V0 n] w fun e w'=>e=.returned (.string ⟨(Lib.itoa n).toArray⟩)∧∃ k os,w'=grow (w.drewN k) os:=Any.strconv_Itoa Za6 n h0 h1 w htab
end Go.Proofs.YtekomodnkfhihaaGreatDoor
namespace Go.Proofs.YtekomodnkfhihaaGreatDoor
set_option maxHeartbeats 8000000
set_option maxRecDepth 100000
open Go.RowKit
set_option linter.unusedVariables false
theorem Zfj{P:Program}(w:World)(base:Nat)(t ty e:TypeId)(i:TypeInfo)(z:Value)(size bytes:Nat)(ht:P.underlying t=some (.slice e))(hi:P.info? e=some i)(hz:i.zero=some z)
 (hsize:i.size=size) (hby:i.bytes=bytes) (hzs:z.cells.size=size) (hsz:0<size) (v:Value) (n:Nat) (xs:List Value) (hown:w.ownsRow base e size v n xs)
 (x:Value) (m:Nat) (news:List Value) (hx:Sl w x m news) (hl:news.length=m*size) (h1:∀ u∈news,u.oneCell'=true)
 (h63:n+m≤maxLen) (hbytes:(n+m)*bytes≤140737488355328) (hbase:base≤w.heap.size) :
 ∃ v' w',(Builtin.append_ #[t,t] ty #[v,x]).run P w=.ok v' w'∧w'.ownsRow base e size v' (n+m) (xs++news)∧w.grownBy w' v.ownBlock:=by
 have a0:∀ (a:Addr) (c:Nat),x=.slice (some a) m c→(∀ j u,news[j]? = some u→w.cell? (a.add j)=some u) →
   ∃ v' w',(Builtin.append_ #[t,t] ty #[v,x]).run P w=.ok v' w'∧w'.ownsRow base e size v' (n+m) (xs++news)∧w.grownBy w' v.ownBlock:=by
  rintro a c rfl hc
  obtain⟨v',w',h2,h3,h4,_⟩:=run_append_own_at (P:=P) w base t ty e i z size bytes ht hi hz hsize hby hzs hsz v n xs hown a m c news hl hc h1 h63 hbytes hbase
  exact⟨v',w',h2,h3,h4⟩
 rcases hx with ⟨a,c,rfl,rfl,rfl⟩|⟨b,a3,a1,rfl,a4,a5,hc⟩
 ·cases a with
  | some a=>exact a0 a c rfl (fun j u hu=>by simp at hu)
  | none =>
   refine⟨v,w,?_,by simpa using hown,World.grownBy.refl w _⟩
   rcases hown.2 with ⟨rfl,rfl⟩|⟨g,a1,a6,rfl,_,_,a2,_⟩
   ·simp[Builtin.append_,run_underlying ht,sizeOf,typeInfo,hi,Builtin.lenOf,Builtin.firstCells]
   ·simp[Builtin.append_,run_underlying ht,sizeOf,typeInfo,hi,Builtin.lenOf,Builtin.firstCells,a2,storeCells]
 ·refine a0 ⟨b,a3,none⟩ a1 rfl (fun j u hu=>?_)
  have:=hc j u hu
  by_cases h0:j=0
  ·subst h0;simpa [Addr.add] using this
  ·simpa [Addr.add,h0] using this
theorem Zh8{P:Program}{w:World}{o:Oper}{a:Act}{K:Act→World→Prop}{Q:Exit→Act→World→Prop}(s x:Operand)(t:TypeId)
  (ho:o.op=.call { callee:=.builtin .append,args:=#[s,x],argTypes:=#[t,t] }) (base:Nat) (e:TypeId) (i:TypeInfo) (z:Value) (size bytes:Nat) (ht:P.underlying t=some (.slice e)) (hi:P.info? e=some i)
  (hz:i.zero=some z) (hsize:i.size=size) (hby:i.bytes=bytes) (hzs:z.cells.size=size) (hsz:0<size) (v:Value) (n:Nat) (xs:List Value) (hs:a.eval s=v) (hown:w.ownsRow base e size v n xs)
  (u:Value) (m:Nat) (news:List Value) (hu:a.eval x=u) (hx:Sl w u m news) (hl:news.length=m*size) (h1:∀ u∈news,u.oneCell'=true)
  (h63:n+m≤maxLen) (hbytes:(n+m)*bytes≤140737488355328) (hbase:base≤w.heap.size)
  (h:∀ v' w',w'.ownsRow base e size v' (n+m) (xs++news)→w.grownBy w' v.ownBlock→Below base w w'→K (a.put o.dst v') w'):o.wp P a w K Q:=by
 obtain⟨v',w',a0,h2,h3⟩:=Zfj (P:=P) w base t o.type e i z size bytes ht hi hz hsize hby hzs hsz v n xs hown u m news hx hl h1 h63 hbytes hbase
 unfold Oper.wp execOp
 simp only[ho,resolve,invoke,builtin,B8,Ge,C9,Id,F4,I8,hs,hu,a0]
 exact h v' w' h2 h3 (Vx h3 hown (A6 _) hbase)
end Go.Proofs.YtekomodnkfhihaaGreatDoor
namespace Go.Proofs.YtekomodnkfhihaaGreatDoor
set_option maxHeartbeats 8000000
set_option maxRecDepth 100000
open Go.RowKit
set_option linter.unusedVariables false
/-! ### operations that only compute -/
def Gs(P:Program){α:Type}:Sem α→Option α
 | .pure a=>some a
 | .program k=>Gs P (k P)
 | _=>none
theorem Jt{P:Program}{α:Type}:∀ {s:Sem α} {a:α},Gs P s=some a→∀ w,s.run P w=.ok a w
 | .pure a,b,h,w=>by simp only[Gs,A0] at h;subst h;rfl
 | .program k,b,h,w=>by simp only[Gs] at h;exact Jt (s:=k P) h w
def Ce(P:Program)(ops:Array Oper)(a:Act)(o:Oper):Option Act :=
 match Region.wanted o (yielded ops a.tmps) with
 | true=>match Gs P (execOp a.eval o) with
  | some (.value v)=>some (a.put o.dst v)
  | _=>none
 | false=>some (a.put o.dst undef)
theorem Um{P:Program}{ops:Array Oper}{a a':Act}{o:Oper}(h:Ce P ops a o=some a'):∃ v,a'=a.put o.dst v∧∀ S:World→Prop,YieldsIf P ops S o v a:=by
 unfold Ce at h
 split at h
 ·rename_i hw
  split at h
  ·rename_i v hv
   simp only[A0] at h
   exact⟨v,h.symm,fun S=>.inl ⟨hw,fun w _=>Jt hv w⟩⟩
  ·cases h
 ·rename_i hw
  simp only[A0] at h
  exact⟨undef,h.symm,fun S=>.inr ⟨hw,rfl⟩⟩
def Re(P:Program)(ops:Array Oper):List Oper→Act→Option Act
 | [],a=>some a
 | o::r,a=>match Ce P ops a o with
  | some a'=>Re P ops r a'
  | none=>none
section
variable {P:Program} {ops:Array Oper} {Q:Exit→Act→World→Prop} {a a':Act} {w:World} {K:Act→World→Prop}
theorem Ud{o:Oper}{rest:List Oper}{v:Value}(hy:YieldsIf P ops (fun _=>True) o v a)(k:wpList P ops Q rest (a.put o.dst v) w):wpList P ops Q (o::rest) a w:=by
 unfold wpList
 rcases hy with ⟨hw,hv⟩|⟨hw,rfl⟩
 ·simp only[hw,if_true];exact .inl (by simp only[Oper.wp,hv w trivial,Oper.upon];exact k)
 ·simp only[hw,L8,if_false];exact k
theorem Bc:∀ (l:List Oper) {rest:List Oper} {a a':Act},Re P ops l a=some a'→wpList P ops Q rest a' w→wpList P ops Q (l++rest) a w
 | [],_,_,_,h,k=>by simp only[Re,A0] at h;subst h;exact k
 | o::r,rest,a,a',h,k=>by
  simp only[Re] at h
  split at h
  ·rename_i a1 h1
   obtain⟨v,rfl,hy⟩:=Um h1
   exact Ud (hy _) (Bc r h k)
  ·cases h
theorem g_pure{l:List Oper}(n:Nat)(a':Act)(h:Re P ops (l.take n) a=some a')(k:wpList P ops Q (l.drop n) a' w):wpList P ops Q l a w:=by
 have:=Bc (P:=P) (ops:=ops) (Q:=Q) (w:=w) (l.take n) h k
 rwa [G3] at this
theorem Nl{o:Oper}{rest:List Oper}(hw:Region.wanted o (yielded ops a.tmps)=true)(h:o.wp P a w (wpList P ops Q rest) Q):wpList P ops Q (o::rest) a w:=by
 unfold wpList;simp only[hw,if_true];exact .inl h
theorem g_fr{c:Code}(a':Act)(h:a=a')(k:c.wp P Q a' w):c.wp P Q a w:=h▸k
theorem g_nfr(a':Act)(h:a=a')(k:Q .normal a' w):Q .normal a w:=h▸k
/-! ### one operation -/
theorem Hb{o:Oper}{v:Value}{w':World}(hv:(execOp a.eval o).run P w=.ok (.value v) w')(k:K (a.put o.dst v) w'):o.wp P a w K Q:=by
 simp only[Oper.wp,hv,Oper.upon];exact k
theorem op_pure{o:Oper}(v:Value)(hv:Gs P (execOp a.eval o)=some (.value v))(k:K (a.put o.dst v) w):o.wp P a w K Q:=Hb (Jt hv w) k
def aggB(P:Program)(t:TypeId):Option Bool:=(P.underlying t).map fun d=>match d with|.struct _|.array _ _=>true|_=>false
theorem Zjc{t:TypeId}{b:Bool}(h:aggB P t=some b)(w:World):(isAgg t).run P w=.ok b w:=by
 unfold aggB at h
 cases hu:P.underlying t with
 | none=>rw[hu] at h;cases h
 | some d =>
  rw[hu] at h
  unfold isAgg
  rw[B8,run_underlying hu w]
  cases d<;>simp_all
theorem Iu{t:TypeId}{p:Addr}{v:Value}(hag:aggB P t=some false)(hc:w.cell? p=some v):(Instr.loadAt t (.pointer (some p))).run P w=.ok v w:=by
 simp[Instr.loadAt,Instr.sureAddr,loadVar,B8,Zjc hag w,load,Sem.run,hc]
theorem Gr{o:Oper}{t:TypeId}{x:Operand}(p:Addr)(v:Value)(ho:o.op=.load t x)(hx:a.eval x=.pointer (some p))(hag:aggB P t=some false)(hc:w.cell? p=some v)
 (k:K (a.put o.dst v) w):o.wp P a w K Q :=
 Hb (by simp only[execOp,ho,hx,B8,Iu hag hc];rfl) k
theorem Blk.part{b:Nat}{cs:List Value}{t:TypeId}(h:Blk w b cs t)(off n:Nat)(hn:off+n≤cs.length):w.rangeAt b off ((cs.drop off).take n):=fun j v hj=>h.cell (by
 have a0:j<n:=by have:=(List.getElem?_eq_some_iff.1 hj).1;simp at this;omega
 rw[F5 a0,Eq] at hj;exact hj)
theorem Blk.whole{w:World}{b:Nat}{cs:List Value}{t:TypeId}(h:Blk w b cs t):w.rangeAt b 0 cs:=fun j v hj=>by rw[F1];exact h.cell hj
theorem Zc3{o:Oper}{t:TypeId}{x:Operand}{b off:Nat}(cs:List Value)(d:TypeDesc)(ho:o.op=.load t x)(hx:a.eval x=.pointer (some ⟨b,off,none⟩))(hu:P.underlying t=some d)(hd:d.isRow=true)
 (hi:(P.info? t).map (·.size)=some cs.length) (hc:w.rangeAt b off cs) (k:K (a.put o.dst (.agg cs.toArray)) w):o.wp P a w K Q:=wp_load_mid t x ho b off hx cs d hc hu hd hi k
/-! ### what became of the memory -/
structure New(w:World)(b:Nat)(cs:List Value)(t:TypeId)(W:World):Prop where
 at_:b=w.heap.size
 below:Below w.heap.size w W
 blk:Blk W b cs t
 size:W.heap.size=w.heap.size+1
theorem New.mk'(w:World)(cs:List Value)(t:TypeId):New w w.heap.size cs t (w.alloc (.cells cs.toArray t)):=⟨rfl,blx _ _,Blk.new _ _ _,by simp⟩
theorem New.ne{b b':Nat}{cs cs':List Value}{t t':TypeId}{w W:World}(h:New w b cs t W)(k:Blk w b' cs' t'):b'≠b:=by have:=k.lt;have:=h.at_;omega
theorem New.ge{b:Nat}{cs:List Value}{t:TypeId}{w W A:World}(h:New w b cs t W)(k:Below A.heap.size A w):A.heap.size≤b:=by have:=k.size;have:=h.at_;omega
theorem New.lt{b:Nat}{cs:List Value}{t:TypeId}{W:World}(h:New w b cs t W):b<W.heap.size:=h.blk.lt
structure Upd(w:World)(b:Nat)(W:World):Prop where
 os:W.os=w.os
 tape:W.tape=w.tape
 output:W.output=w.output
 size:W.heap.size=w.heap.size
 block:∀ k,k≠b→W.heap[k]? = w.heap[k]?
theorem Upd.setCell(w:World)(b i:Nat)(v:Value):Upd w b (w.setCell ⟨b,i,none⟩ v):=⟨rfl,rfl,rfl,by simp[World.setCell],fun k hk=>Below.heap_setCell w _ v k hk⟩
theorem Upd.trans{w1 w2:World}{b:Nat}(h:Upd w b w1)(k:Upd w1 b w2):Upd w b w2 :=
 ⟨k.os.trans h.os,k.tape.trans h.tape,k.output.trans h.output,k.size.trans h.size,fun i hi=>(k.block i hi).trans (h.block i hi)⟩
theorem Upd.below{A W:World}{b B:Nat}(h:Upd w b W)(hB:Below B A w)(hb:B≤b):Below B A W :=
 hB.trans ⟨h.os,h.tape,h.output,K5 h.size.symm,fun k hk=>h.block k M0⟩
theorem Upd.blk{W:World}{b b':Nat}{cs:List Value}{t:TypeId}(h:Upd w b W)(k:Blk w b' cs t)(hne:b'≠b):Blk W b' cs t:=(h.block b' hne).trans k
theorem Upd.own{W:World}{b base:Nat}{e:TypeId}{size:Nat}{v:Value}{n:Nat}{xs:List Value}(h:Upd w b W)(k:w.ownsRow base e size v n xs)(hb:b<base):W.ownsRow base e size v n xs:=by
 obtain⟨h1,h2⟩:=k
 refine⟨h1,?_⟩
 rcases h2 with h2|⟨g,a0,a1,hv,hg,hh,r⟩
 ·exact Or.inl h2
 ·exact Or.inr ⟨g,a0,a1,hv,hg,by rw[h.block g M0];exact hh,r⟩
theorem Wo{o:Oper}{t:TypeId}{x y:Operand}{b off:Nat}{cs:List Value}{tb:TypeId}{v:Value}(ho:o.op=.store t x y)(hx:a.eval x=.pointer (some ⟨b,off,none⟩))(hy:a.eval y=v)
 (hi:(P.info? t).map (·.size)=some 1) (h1:v.oneCell'=true) (hk:Blk w b cs tb) (hoff:off<cs.length)
 (k:∀ W,Upd w b W→Blk W b (cs.set off v) tb→K (a.put o.dst undef) W):o.wp P a w K Q:=by
 have hc:=hk.cell (B5 hoff)
 have hf:=hk.frozen off
 have a0:(Instr.storeAt t (.pointer (some ⟨b,off,none⟩)) v).run P w=.ok () (w.setCell ⟨b,off,none⟩ v):=by
  cases hq:P.info? t with
  | none=>simp[hq] at hi
  | some i =>
   have hs:i.size=1:=by simpa [hq] using hi
   cases v<;>simp_all [Instr.storeAt,Instr.sureAddr,storeVar,B8,sizeOf,typeInfo,Value.cells,storeCells,store,Sem.run,Value.oneCell',Addr.add]
 have h2:(execOp a.eval o).run P w=.ok .skip (w.setCell ⟨b,off,none⟩ v):=by
  simp only[execOp,ho,hx,hy,B8,a0];rfl
 simp only[Oper.wp,h2,Oper.upon]
 exact k _ (Upd.setCell _ _ _ _) (hk.set off v)
theorem Blk.setCells{b:Nat}{cs:List Value}{t:TypeId}:∀ (vs:List Value) (o:Nat) {w:World} {cs:List Value},Blk w b cs t→o+vs.length≤cs.length→Blk (w.setCells b o vs) b (cs.take o++vs++cs.drop (o+vs.length)) t∧Upd w b (w.setCells b o vs)
 | [],o,w,cs,h,hl=>by
  refine⟨?_,rfl,rfl,rfl,rfl,fun _ _=>rfl⟩
  simp only[World.setCells]
  simpa using h
 | v::r,o,w,cs,h,hl=>by
  rw[World.setCells]
  have a0:=h.set o v
  obtain⟨h1,h2⟩:=Blk.setCells (cs:=cs) r (o+1) a0 (by simp at hl ⊢;omega)
  refine⟨?_,(Upd.setCell _ _ _ _).trans h2⟩
  have e:(cs.set o v).take (o+1)++r++(cs.set o v).drop (o+1+r.length)=cs.take o++(v::r)++cs.drop (o+(v::r).length):=by
   have ho:o<cs.length:=by simp at hl;omega
   have h1:(cs.take o).length=o:=by simp;omega
   have h2:cs.set o v=(cs.take o++[v])++cs.drop (o+1):=by rw[List.set_eq_take_append_cons_drop,if_pos ho];simp
   have h3:(cs.take o++[v]).length=o+1:=by simp;omega
   rw[h2,List.take_left' h3,←L7,List.drop_left' h3,L7]
   simp[M3,Nat.add_left_comm]
  rwa [e] at h1
theorem Ib{o:Oper}{t:TypeId}{x y:Operand}{b off:Nat}{cs:List Value}{tb:TypeId}(vs:List Value)(ho:o.op=.store t x y)(hx:a.eval x=.pointer (some ⟨b,off,none⟩))(hy:a.eval y=.agg vs.toArray)
 (hi:(P.info? t).map (·.size)=some vs.length) (h1:∀ v∈vs,v.oneCell'=true) (hk:Blk w b cs tb) (hoff:off+vs.length≤cs.length)
 (k:∀ W,Upd w b W→Blk W b (cs.take off++vs++cs.drop (off+vs.length)) tb→K (a.put o.dst undef) W):o.wp P a w K Q :=
 wp_store_mid t x y ho b off vs.toArray hx hy (fun j hj=>⟨by rw[hk.cell (B5 (by simp at hj;omega))];rfl,hk.frozen _⟩) (by simpa using hi) (all_oneCell_toArray h1)
  (k _ (Blk.setCells (cs:=cs) vs off hk hoff).2 (Blk.setCells (cs:=cs) vs off hk hoff).1)
def Zhz(P:Program)(t:TypeId):Option (List Value):=((P.info? t).bind (·.zero)).map fun v=>v.cells.toList
theorem Cb{o:Oper}{t:TypeId}(cs:List Value)(ho:o.op=.alloc t)(hz:Zhz P t=some cs)(k:∀ b W,New w b cs t W→K (a.put o.dst (P0 b)) W):o.wp P a w K Q:=by
 unfold Zhz at hz
 cases hi:P.info? t with
 | none=>simp[hi] at hz
 | some i =>
  cases hq:i.zero with
  | none=>simp[hi,hq] at hz
  | some v =>
   simp only[hi,hq,Option.bind_some,C7,A0] at hz
   have hv:v.cells=cs.toArray:=by rw[←hz]
   exact Hb (w':=w.alloc (.cells cs.toArray t)) (by simp[execOp,ho,Instr.alloc,B8,zeroValue,typeInfo,program,hi,hq,newVar,newRow,newObj,Sem.run,hv]) (k _ _ (New.mk' w cs t))
theorem op_box{o:Oper}{t:TypeId}{x:Operand}(cs:List Value)(ho:o.op=.box t x)(hx:(a.eval x).cells=cs.toArray)(k:∀ b W,New w b cs t W→K (a.put o.dst (P0 b)) W):o.wp P a w K Q :=
 Hb (w':=w.alloc (.cells cs.toArray t)) (by simp[execOp,ho,Instr.box,newVar,newRow,newObj,Sem.run,hx]) (k _ _ (New.mk' w cs t))
def built(P:Program)(t:TypeId)(len:Nat)(parts:List (Nat×Value)):Option (TypeId×List Value) :=
  match P.underlying t with
  | some (.slice e)=>match P.info? e with
    | some i=>match i.zero with
      | some z=>if len*i.size>2 ^ 24 then none else if len*i.size=0 then none else(Instr.fill (fun j=>some (j*i.size,i.size)) ((Array.range (len*i.size)).map (z.cells[·%z.cells.size]!)) parts).map fun c=>(e,c.toList)
      | none=>none
    | none=>none
  | _=>none
theorem Qz{o:Oper}{t:TypeId}{n:Nat}{parts:Array (Nat×Operand)}(e:TypeId)(cs:List Value)(ho:o.op=.buildSlice t n parts)(hb:built P t n (parts.toList.map fun p=>(p.1,a.eval p.2))=some (e,cs))
 (k:∀ b W,New w b cs e W→K (a.put o.dst (.slice (S1 b) n n)) W):o.wp P a w K Q:=by
  unfold built at hb
  split at hb
  · rename_i e' hu
    split at hb
    · rename_i i hi
      split at hb
      · rename_i z hz
        split at hb
        · cases hb
        · split at hb
          · cases hb
          · rename_i h1 h2
            cases hf:Instr.fill (fun j=>some (j*i.size,i.size)) ((Array.range (n*i.size)).map (z.cells[·%z.cells.size]!)) (parts.toList.map fun p=>(p.1,a.eval p.2)) with
            | none=>rw[hf] at hb;cases hb
            | some c =>
              rw[hf] at hb
              simp only[C7,A0,C8] at hb
              obtain⟨rfl,hc⟩:=hb
              have a2:c=cs.toArray:=by rw[←hc]
              subst a2
              exact Hb (w':=w.alloc (.cells cs.toArray e')) (by
                simp[execOp,ho,Instr.buildSlice,B8,run_underlying hu,sizeOf,typeInfo,hi,zeroValue,hz,h1,h2]
                have a1:Instr.fill (fun a0=>some (a0*i.size,i.size)) (Array.map (fun x=>z.cells[x%z.cells.size]!) (Array.range (n*i.size))) (List.map (fun x=>(x.fst,a.eval x.snd)) parts.toList)=some cs.toArray:=hf
                rw[a1]
                simp[newRow,newObj,Sem.run]) (k _ _ (New.mk' w cs e'))
      · cases hb
    · cases hb
  · cases hb
theorem Fq{o:Oper}{t e:TypeId}(ho:o.op=.buildSlice t 0 #[])(hu:P.underlying t=some (.slice e))(hi:(P.info? e).isSome=true)
 (k:∀ b W,New w b [] e W→K (a.put o.dst (.slice (S1 b) 0 0)) W):o.wp P a w K Q:=by
 obtain⟨i,hi⟩:=Option.isSome_iff_exists.1 hi
 exact Hb (w':=w.alloc (.cells #[] e)) (by simp[execOp,ho,Instr.buildSlice,run_underlying hu,sizeOf,typeInfo,hi,Instr.fill,newRow,newObj,Sem.run,Array.range_zero']) (k _ _ (New.mk' w [] e))
theorem Hq{o:Oper}{c:Operand}{ops:Array Operand}{ts:Array TypeId}{lb:Array Value}(f:FuncId)(args:Array Value)(ho:o.op=.call { callee:=.value c,args:=ops,argTypes:=ts })(hc:a.eval c=.func (.func f) #[] lb)
 (hf:∀ xs w,(callFunc f xs).run P w=.ok (.enter f xs) w) (has:ops.map a.eval++lb=args) (h:Calls P f args w fun e w'=>∃ v,e=.returned v∧K (a.put o.dst v) w'):o.wp P a w K Q:=by
 have h2:(execOp a.eval o).run P w=.ok (.enter f args) w:=by
  simp only[execOp,ho,resolve,hc,Deferred.ofValue,B8,Ge,C9,invoke]
  rw[←has,←hf]
  simp
 simp only[Oper.wp,h2,Oper.upon]
 exact h.mono fun e w' ⟨v,he,hk⟩=>by subst he;exact hk
end
section
variable {P:Program} {Q:Exit→Act→World→Prop} {a:Act} {w:World} {K:Act→World→Prop}
theorem Zk7{o:Oper}(k:IntKind)(n m:Int)(hv:Gs P (execOp a.eval o)=some (.value (.int k (k.wrap n))))(hm:k.wrap n=m)(h:K (a.put o.dst (.int k m)) w):o.wp P a w K Q :=
 op_pure (.int k m) (by rw[hv,hm]) h
theorem My{o:Oper}{t e:TypeId}{x y:Operand}{b off len k:Nat}{i:Int}{ki:IntKind}(size off':Nat)(ho:o.op=.indexAddr t x y)(hx:a.eval x=.pointer (some ⟨b,off,none⟩))(hy:a.eval y=.int ki i)(hi:i=(k:Int))(hk:k<len)(hoff:off+k*size=off')
 (ht:P.underlying t=some (.array len e)) (hs:(P.info? e).map (·.size)=some size) (w:World):(execOp a.eval o).run P w=.ok (.value (.pointer (some ⟨b,off',none⟩))) w:=by
 cases hq:P.info? e with
 | none=>simp[hq] at hs
 | some j =>
  have hj:j.size=size:=by simpa [hq] using hs
  subst hi hoff
  have h1:(0:Int)≤(k:Int):=by omega
  have h2:(k:Int)<(len:Int):=by omega
  simp[execOp,ho,hx,hy,Instr.indexAt,Instr.sureAddr,asIntOf,run_underlying ht,sizeOf,typeInfo,hq,hj,hk,Addr.add_mid]
theorem Kf{o:Oper}{t e:TypeId}{x y:Operand}(n:Nat)(z:Value)(size bytes:Nat)(cs:List Value)(ho:o.op=.makeSlice t x y)(hx:a.eval x=V0 (n:Int))(hy:a.eval y=V0 (n:Int))(ht:P.underlying t=some (.slice e))
 (hi:(P.info? e).map (fun i=>(i.zero,i.size,i.bytes))=some (some z,size,bytes)) (hzs:z.cells.size=size) (hb:bytes*n≤281474976710656) (hn:n≤9223372036854775807) (hcs:Hn z.cells.toList n=cs)
 (h:∀ b W,New w b cs e W→K (a.put o.dst (.slice (S1 b) n n)) W):o.wp P a w K Q:=by
 cases hq:P.info? e with
 | none=>simp[hq] at hi
 | some i =>
  simp only[hq,C7,A0,C8] at hi
  have hr:=Zfd (P:=P) (t:=t) (e:=e) z.cells.toList ht hq hi.1 (by simp) (by rw[hi.2.1,←hzs];simp) hi.2.2 n hb hn w
  subst hcs
  refine Hb (w':=w.alloc (.cells (Hn z.cells.toList n).toArray e)) ?_ (h _ _ (New.mk' w _ e))
  simp only[execOp,ho,hx,hy,B8,hr]
  rfl
theorem Wt{o:Oper}{t e:TypeId}{x y:Operand}{b off n k c:Nat}{i:Int}{ki:IntKind}(size:Nat)(ho:o.op=.slice t x (some y) none none)(hx:a.eval x=.slice (some ⟨b,off,none⟩) n c)(hy:a.eval y=.int ki i)(hi:i=(k:Int))(hk:k≤n)(hc:k<c)
 (ht:P.underlying t=some (.slice e)) (hs:(P.info? e).map (·.size)=some size) (w:World):(execOp a.eval o).run P w=.ok (.value (.slice (some ⟨b,off+k*size,none⟩) (n-k) (c-k))) w:=by
 cases hq:P.info? e with
 | none=>simp[hq] at hs
 | some j =>
  have hj:j.size=size:=by simpa [hq] using hs
  subst hi
  have h1:(0:Int)≤(k:Int):=by omega
  have h2:(k:Int)≤(n:Int):=by omega
  have h3:¬ c=k:=by omega
  simp[execOp,ho,hx,hy,Instr.sliceAt,Instr.slice,Instr.sliceBounds,Instr.sliceBound,asIntOf,run_underlying ht,sizeOf,typeInfo,hq,hj,hk,Addr.add_mid,h3]
theorem Gd{o:Oper}{t e:TypeId}{x y:Operand}{b:O0}{n k c:Nat}{i:Int}{ki:IntKind}(ho:o.op=.slice t x none (some y) none)(hx:a.eval x=.slice b n c)(hy:a.eval y=.int ki i)(hi:i=(k:Int))(hk:k≤c)
 (ht:P.underlying t=some (.slice e)) (hs:(P.info? e).isSome=true) (w:World):(execOp a.eval o).run P w=.ok (.value (.slice b k c)) w:=by
 obtain⟨j,hq⟩:=Option.isSome_iff_exists.1 hs
 subst hi
 have h1:(0:Int)≤(k:Int):=by omega
 have h2:(k:Int)≤(c:Int):=by omega
 by_cases h3:c=0
 ·obtain rfl:k=0:=by omega
  subst h3
  simp[execOp,ho,hx,hy,Instr.sliceAt,Instr.slice,Instr.sliceBounds,Instr.sliceBound,asIntOf,run_underlying ht,sizeOf,typeInfo,hq]
 ·simp[execOp,ho,hx,hy,Instr.sliceAt,Instr.slice,Instr.sliceBounds,Instr.sliceBound,asIntOf,run_underlying ht,sizeOf,typeInfo,hq,hk,h3]
  cases b<;>simp[Addr.add]
theorem We{o:Oper}{d x:Operand}{dT sT e:TypeId}{base g off n cap dLen dCap:Nat}{u:Value}{xs:List Value}(m:Nat)(news xs':List Value)(ho:o.op=.call { callee:=.builtin .copy,args:=#[d,x],argTypes:=#[dT,sT] })(hu:P.underlying dT=some (.slice e))(hsz:(P.info? e).map (·.size)=some 1)
 (hd:a.eval d=.slice (some ⟨g,off,none⟩) dLen dCap) (hs:a.eval x=u) (hx:Sl w u m news) (hown:w.ownsRow base e 1 (.slice (S1 g) n cap) n xs) (hml:news.length=m) (hm:m≤dLen) (hfit:off+m≤n) (h1:∀ u∈news,u.oneCell'=true)
 (hbase:base≤w.heap.size) (hxs:xs.take off++news++xs.drop (off+m)=xs')
 (h:∀ W,W.ownsRow base e 1 (.slice (S1 g) n cap) n xs'→w.grownBy W (Value.slice (S1 g) n cap).ownBlock→Below base w W→K (a.put o.dst (V0 (m:Int))) W):o.wp P a w K Q:=by
 obtain⟨hl,hr⟩:=hown
 rcases hr with ⟨hv,_⟩|⟨g2,b2,a0,hv,a6,hh,a7,a8,a4,b0⟩
 ·cases hv
 simp only[B6,A0,Addr.mk.injEq] at hv
 obtain⟨⟨rfl,_,_⟩,_,rfl⟩:=hv
 obtain⟨sp,sc,rfl⟩:=hx.slice
 have a5:news.length=Nat.min m dLen:=by rw[hml];exact(F7 hm).symm
 have b1:xs.length=n:=by simpa using hl
 have a3:a0.toList.length=cap:=by simpa using a4
 have a9:∀ W,W.heap[g]? = some (.cells (a0.toList.take off++news++a0.toList.drop (off+news.length)).toArray e (0,0))→w.grownBy W (some g)→K (a.put o.dst (V0 (m:Int))) W:=by
  intro W hW hg
  refine h W ⟨?_,.inr ⟨g,cap,_,rfl,a6,hW,a7,a8,?_,?_⟩⟩ hg (Vx (v:=.slice (S1 g) n cap) hg ⟨hl,.inr ⟨g,cap,a0,rfl,a6,hh,a7,a8,a4,b0⟩⟩ (A6 _) hbase)
  ·rw[←hxs];simp;omega
  ·simp only[G8,A5,D1,I5,a3,D5];omega
  ·have hA:(a0.toList.take off++news).length=off+m:=by simp only[A5,D1,a3,hml];omega
   rw[←hxs,←b0,hml]
   simp only[D5]
   rw[List.take_append,A1 (by rw[hA];omega),hA,List.take_take,F7 (by omega:off≤n),List.drop_take]
 by_cases h0:m=0
 ·subst h0
  obtain rfl:news=[]:=G4 hml
  have a1:=run_copy_none (P:=P) w dT sT o.type e (some ⟨g,off,none⟩) sp dLen dCap 0 sc hu hsz (by simp)
  have h2:(execOp a.eval o).run P w=.ok (.value (V0 0)) w:=by
   simp[execOp,ho,resolve,invoke,builtin,hd,hs,a1,Result.andThen,goInt]
  refine Hb h2 (a9 w ?_ (World.grownBy.refl w _))
  rw[hh];simp
 ·rcases Sl.at hx with hn|⟨sb,so,rfl,a2⟩
  ·rw[hn] at hml;exact absurd hml.symm h0
  have a1:=run_copy_row (P:=P) w dT sT o.type e g off dLen dCap ⟨sb,so,none⟩ m sc a0 e news hu hsz hh a5 (fun j v hj=>by rw[Addr.add_mid];exact a2 j v hj) (by rw[hml,a4];omega) h1
  have h2:(execOp a.eval o).run P w=.ok (.value (V0 (m:Int))) (w.setRow g (a0.toList.take off++news++a0.toList.drop (off+news.length)).toArray):=by
   simp[execOp,ho,resolve,invoke,builtin,hd,hs,a1,Result.andThen,goInt,hml]
  refine Hb h2 (a9 _ (setRow_heap w g _ _ e _ hh) ⟨rfl,rfl,rfl,by simp,fun k _ hk=>setRow_other w g k _ (fun e=>hk (by rw[e]))⟩)
def Xa(a:O0)(j:Nat):Addr:=(a.getD ⟨0,0,none⟩).add j
theorem Sd{o:Oper}{t e:TypeId}{x y:Operand}{b:O0}{n k c size:Nat}{i:Int}{ki:IntKind}(ho:o.op=.indexAddr t x y)(hx:a.eval x=.slice b n c)(hy:a.eval y=.int ki i)(hi:i=(k:Int))(hk:k<n)(hb:b.isSome=true)
 (ht:P.underlying t=some (.slice e)) (hs:(P.info? e).map (·.size)=some size) (w:World):(execOp a.eval o).run P w=.ok (.value (.pointer (some (Xa b (k*size))))) w:=by
 obtain⟨b,rfl⟩:=Option.isSome_iff_exists.1 hb
 cases hq:P.info? e with
 | none=>simp[hq] at hs
 | some j =>
  have hj:j.size=size:=by simpa [hq] using hs
  subst hi
  have h1:(0:Int)≤(k:Int):=by omega
  have h2:(k:Int)<(n:Int):=by omega
  simp[execOp,ho,hx,hy,Instr.indexAt,asIntOf,run_underlying ht,sizeOf,typeInfo,hq,hj,hk,Xa]
theorem Zr{o:Oper}{s x:Operand}{t e:TypeId}{base:Nat}{v:Value}{n:Nat}{xs:List Value}{u:Value}{m:Nat}{news:List Value}(z:Value)(size bytes n':Nat)(xs':List Value)(ho:o.op=.call { callee:=.builtin .append,args:=#[s,x],argTypes:=#[t,t] })
 (ht:P.underlying t=some (.slice e)) (hi:(P.info? e).map (fun i=>(i.zero,i.size,i.bytes))=some (some z,size,bytes)) (hzs:z.cells.size=size) (hsz:0<size) (hs:a.eval s=v) (hown:w.ownsRow base e size v n xs) (hu:a.eval x=u) (hx:Sl w u m news)
 (hl:news.length=m*size) (h1:∀ u∈news,u.oneCell'=true) (h63:n+m≤maxLen) (hbytes:(n+m)*bytes≤140737488355328) (hbase:base≤w.heap.size) (hn:n+m=n') (hxs:xs++news=xs')
 (h:∀ b c W,W.ownsRow base e size (.slice b n' c) n' xs'→w.grownBy W v.ownBlock→Below base w W→K (a.put o.dst (.slice b n' c)) W):o.wp P a w K Q:=by
 cases hq:P.info? e with
 | none=>simp[hq] at hi
 | some i =>
  simp only[hq,C7,A0,C8] at hi
  refine Zh8 s x t ho base e i z size bytes ht hq hi.1 hi.2.1 hi.2.2 hzs hsz v n xs hs hown u m news hu hx hl h1 h63 hbytes hbase fun v' W h2 h3 h4=>?_
  subst hn hxs
  obtain⟨b,c,rfl⟩:=(Ze h2).slice
  exact h b c W h2 h3 h4
end
theorem Blk.grown{w w':World}{b:Nat}{cs:List Value}{t e:TypeId}{base size n:Nat}{v:Value}{xs:List Value}(k:Blk w b cs t)(hg:w.grownBy w' v.ownBlock)(hown:w.ownsRow base e size v n xs)(hne:e≠t):Blk w' b cs t:=by
 refine k.kept hg fun hb=>?_
 rcases hown.2 with ⟨rfl,_⟩|⟨g,a0,a1,rfl,_,hh,_⟩
 ·cases hb
 ·simp only[Value.ownBlock,A0] at hb
  subst hb
  have h1:w.heap[b]? = some (.cells cs.toArray t (0,0)):=k
  rw[hh] at h1
  simp only[A0,Obj.cells.injEq] at h1
  exact hne h1.2.1
theorem Upd.own2{w W:World}{b base:Nat}{e t:TypeId}{size:Nat}{v:Value}{n:Nat}{xs cs:List Value}(h:Upd w b W)(k:w.ownsRow base e size v n xs)(hk:Blk w b cs t)(hne:e≠t):W.ownsRow base e size v n xs:=by
 obtain⟨h1,h2⟩:=k
 refine⟨h1,?_⟩
 rcases h2 with h2|⟨g,a0,a1,hv,hg,hh,r⟩
 ·exact Or.inl h2
 ·refine Or.inr ⟨g,a0,a1,hv,hg,?_,r⟩
  rw[h.block g]
  ·exact hh
  ·rintro rfl
   have h1:w.heap[g]? = some (.cells cs.toArray t (0,0)):=hk
   rw[hh] at h1
   simp only[A0,Obj.cells.injEq] at h1
   exact hne h1.2.1
theorem Blk.sl{w:World}{b:Nat}{cs:List Value}{t:TypeId}(h:Blk w b cs t)(n c:Nat)(hn:n≤c)(hc:c≤maxLen):Sl w (.slice (S1 b) n c) n cs :=
 .inr ⟨b,0,c,rfl,hn,hc,fun j x hj=>by rw[F1];exact h.cell hj⟩
theorem _root_.Go.Proofs.YtekomodnkfhihaaGreatDoor.Sl.elem{w:World}{b:O0}{n c:Nat}{xs:List Value}(h:Sl w (.slice b n c) n xs){j:Nat}{x:Value}(hj:xs[j]? = some x):b.isSome=true∧w.cell? (Xa b j)=some x:=by
 rcases Sl.at h with rfl|⟨g,a0,rfl,hc⟩
 ·cases hj
 ·exact⟨rfl,by simpa [Xa,Addr.add_mid] using hc j x hj⟩
theorem _root_.Go.Proofs.YtekomodnkfhihaaGreatDoor.Ints.elem{w:World}{b:O0}{c:Nat}{l:List Int}(h:Ints w (.slice b l.length c) l){k:Nat}(hk:k<l.length):b.isSome=true∧w.cell? (Xa b (k*1))=some (V0 (l.getD k 0)):=by
 refine Sl.elem h ?_
 rw[D5,B9,B5 hk]
 simp[List.getD,B5 hk]
def Zd(T:List TypeId)(w w':World):Prop:=∀ (k:Nat) (cs:Array Value) (t:TypeId) (fr:Nat×Nat),w.heap[k]? = some (Obj.cells cs t fr)→T.contains t=false→w'.heap[k]? = some (Obj.cells cs t fr)
theorem Zd.refl(T:List TypeId)(w:World):Zd T w w:=fun _ _ _ _ h _=>h
theorem Zd.trans{T:List TypeId}{a b c:World}(h:Zd T a b)(k:Zd T b c):Zd T a c:=fun i cs t fr hi ht=>k i cs t fr (h i cs t fr hi ht) ht
theorem Zd.of_below{T:List TypeId}{w W:World}(h:B3 w W):Zd T w W:=fun k cs t fr hk _=>by
 rw[h.block k (Array.getElem?_eq_some_iff.1 hk).1];exact hk
theorem Zd.of_upd{T:List TypeId}{w W:World}{b:Nat}{cs:List Value}{t:TypeId}(h:Upd w b W)(k:Blk w b cs t)(ht:T.contains t=true):Zd T w W:=fun i a0 t' fr hi h2=>by
 rw[h.block i]
 ·exact hi
 ·rintro rfl
  have h1:w.heap[i]? = some (.cells cs.toArray t (0,0)):=k
  rw[hi] at h1
  simp only[A0,Obj.cells.injEq] at h1
  rw[h1.2.1,ht] at h2;cases h2
theorem Zd.of_grown{T:List TypeId}{w W:World}{base size n:Nat}{e:TypeId}{v:Value}{xs:List Value}(hg:w.grownBy W v.ownBlock)(hown:w.ownsRow base e size v n xs)(ht:T.contains e=true):Zd T w W:=fun i cs t fr hi h2=>by
 rw[hg.block i (Array.getElem?_eq_some_iff.1 hi).1]
 ·exact hi
 ·intro hb
  rcases hown.2 with ⟨rfl,_⟩|⟨g,a0,a1,rfl,_,hh,_⟩
  ·cases hb
  ·simp only[Value.ownBlock,A0] at hb
   subst hb
   rw[hi] at hh
   simp only[A0,Obj.cells.injEq] at hh
   rw[hh.2.1,ht] at h2;cases h2
theorem Blk.only{T:List TypeId}{w W:World}{b:Nat}{cs:List Value}{t:TypeId}(k:Blk w b cs t)(h:Zd T w W)(ht:T.contains t=false):Blk W b cs t:=h b _ _ _ k ht
theorem Zp{w w':World}{base size n:Nat}{e:TypeId}{v:Value}{xs:List Value}{base2 size2 n2:Nat}{e2:TypeId}{v2:Value}{xs2:List Value}(k:w.ownsRow base e size v n xs)(hg:w.grownBy w' v2.ownBlock)(hown:w.ownsRow base2 e2 size2 v2 n2 xs2)(hne:e2≠e):w'.ownsRow base e size v n xs:=by
 obtain⟨h1,h2⟩:=k
 refine⟨h1,?_⟩
 rcases h2 with h2|⟨g,a5,a4,hv,a2,hh,r⟩
 ·exact Or.inl h2
 ·refine Or.inr ⟨g,a5,a4,hv,a2,?_,r⟩
  rw[hg.block g (Array.getElem?_eq_some_iff.1 hh).1]
  ·exact hh
  ·intro hb
   rcases hown.2 with ⟨rfl,_⟩|⟨g2,a3,a1,rfl,_,a0,_⟩
   ·cases hb
   ·simp only[Value.ownBlock,A0] at hb
    subst hb
    rw[hh] at a0
    simp only[A0,Obj.cells.injEq] at a0
    exact hne a0.2.1.symm
theorem Zf{w:World}{base base' size n:Nat}{e:TypeId}{v:Value}{xs:List Value}(k:w.ownsRow base' e size v n xs)(h:base≤base'):w.ownsRow base e size v n xs:=by
 obtain⟨h1,h2⟩:=k
 refine⟨h1,?_⟩
 rcases h2 with h2|⟨g,a0,a1,hv,hg,r⟩
 ·exact Or.inl h2
 ·exact Or.inr ⟨g,a0,a1,hv,N0 h hg,r⟩
theorem Zi{T:List TypeId}{w W:World}{base size n:Nat}{e:TypeId}{v:Value}{xs:List Value}(k:w.ownsRow base e size v n xs)(h:Zd T w W)(ht:T.contains e=false):W.ownsRow base e size v n xs:=by
 obtain⟨h1,h2⟩:=k
 refine⟨h1,?_⟩
 rcases h2 with h2|⟨g,a0,a1,hv,hg,hh,r⟩
 ·exact Or.inl h2
 ·exact Or.inr ⟨g,a0,a1,hv,hg,h g _ _ _ hh ht,r⟩
theorem blB{B:Nat}{a w w':World}(h:Below B a w)(hs:B≤a.heap.size)(k:B3 w w'):Below B a w':=h.trans (k.mono (N0 hs h.size))
/-! ### slices of structs -/
def Sts {α:Type}(f:α→List Value)(w:World)(v:Value)(l:List α):Prop:=Sl w v l.length (l.flatMap f)
theorem Sts.below{α:Type}{f:α→List Value}{w w':World}{v:Value}{l:List α}(h:Sts f w v l)(hb:B3 w w'):Sts f w' v l:=Sl.below h hb
theorem Ck{α:Type}{f:α→List Value}{m:Nat}(hm:∀ x,(f x).length=m):∀ (l:List α) (k i:Nat) (d:α),k<l.length→i<m→(l.flatMap f)[k*m+i]? = (f (l.getD k d))[i]?
 | [],k,i,d,hk,_=>by simp at hk
 | x::l,0,i,d,_,hi=>by
  rw[I7,Nat.zero_mul,F1,I2 (by rw[hm];exact hi)];rfl
 | x::l,k+1,i,d,hk,hi=>by
  rw[I7,List.getElem?_append_right (by rw[hm,M1];omega),hm,show(k+1)*m+i-m=k*m+i by rw[M1];omega]
  simpa using Ck hm l k i d (by simpa using hk) hi
theorem Cs{α:Type}{f:α→List Value}{m:Nat}(hm:∀ x,(f x).length=m)(l:List α):(l.flatMap f).length=l.length*m:=by
 induction l with
 | nil=>simp
 | cons x l ih=>rw[I7,A5,hm,ih,E4,M1];omega
theorem Sts.cell{α:Type}{f:α→List Value}{m:Nat}{w:World}{b:O0}{c:Nat}{l:List α}(h:Sts f w (.slice b l.length c) l)(hm:∀ x,(f x).length=m)(d:α){k i:Nat}{v:Value}(hk:k<l.length)(hi:(f (l.getD k d))[i]? = some v):b.isSome=true∧w.cell? ((Xa b (k*m)).add i)=some v:=by
 have a2:i<m:=by have:=(List.getElem?_eq_some_iff.1 hi).1;rwa [hm] at this
 have hc:=Ck hm l k i d hk a2
 rw[hi] at hc
 rcases Sl.at h with a1|⟨g,og,rfl,a0⟩
 ·rw[a1] at hc;cases hc
 ·refine⟨rfl,?_⟩
  have:=a0 _ _ hc
  simpa [Xa,Addr.add_mid,D4] using this
theorem Sts.at{α:Type}{f:α→List Value}{m:Nat}{w:World}{b:O0}{c:Nat}{l:List α}(h:Sts f w (.slice b l.length c) l)(hm:∀ x,(f x).length=m)(hm0:0<m)(hl:0<l.length):∃ g o,b=some ⟨g,o,none⟩:=by
 rcases Sl.at h with a0|⟨g,og,rfl,a1⟩
 ·have:=Cs hm l
  rw[a0] at this
  have:=Nat.mul_pos hl hm0
  simp at *;omega
 ·exact⟨g,og,rfl⟩
theorem Ey{a b:Int}(h:(a==b)=false):a≠b:=by simpa using h
theorem Zj6{a b:Int}(h:(a != b)=true):a≠b:=by simpa using h
theorem Ex{a b:Int}(h:(a != b)=false):a=b:=by simpa using h
/-! ### a region that draws its order -/
def Si(P:Program)(md:Region.Mode)(ops:Array Oper):List Nat→Array Bool→Act→Option (Array Bool×Act)
 | [],L,a=>some (L,a)
 | i::r,L,a=>match ops[i]? with
  | none=>none
  | some o=>match Region.free md ops L i&&(Region.ready md ops L).contains i with
   | true=>match Ce P ops a o with
    | some a'=>Si P md ops r (L.setIfInBounds i true) a'
    | none=>none
   | false=>none
section
variable {P:Program} {ops:Array Oper} {Q:Exit→Act→World→Prop} {a a':Act} {w:World} {S:World→Prop} {md:Region.Mode} {L L':Array Bool} {fuel:Nat}
theorem Zi6(hQ:∀ c a (d:Tmp) v w,Q (.panic c) (a.put (some d) v) w→Q (.panic c) a w)(d:Option Tmp)(v:Value):∀ c a w,Q (.panic c) (a.put d v) w→Q (.panic c) a w:=fun c a w h=>by
 cases d with
 | none=>exact h
 | some d=>exact hQ c a d v w h
theorem Ba(hs:Region.noSelect ops=true)(hQ:∀ c a (d:Tmp) v w,Q (.panic c) (a.put (some d) v) w→Q (.panic c) a w)(hS:S w):∀ (is:List Nat) {fuel:Nat} {L L':Array Bool} {a a':Act},Si P md ops is L a=some (L',a')→wpAnyH P md ops Q S fuel L' a' w→wpAnyH P md ops Q S (fuel+is.length) L a w
 | [],fuel,L,L',a,a',h,k=>by simp only[Si,A0,C8] at h;obtain⟨rfl,rfl⟩:=h;exact k
 | i::r,fuel,L,L',a,a',h,k=>by
  simp only[Si] at h
  split at h
  ·cases h
  ·rename_i o ho
   split at h
   ·rename_i a0
    simp only[D3] at a0
    split at h
    ·rename_i a1 h1
     obtain⟨v,rfl,hy⟩:=Um h1
     exact wpAnyH_take ho hs a0.1 a0.2 (Zi6 hQ _ _) (hy S) hS (Ba hs hQ hS r h k)
    ·cases h
   ·cases h
theorem h_pure(is:List Nat)(fuel:Nat){f0:Nat}(hf:f0=fuel+is.length)(L':Array Bool)(a':Act)(hs:Region.noSelect ops=true)(hQ:∀ c a (d:Tmp) v w,Q (.panic c) (a.put (some d) v) w→Q (.panic c) a w)(h:Si P md ops is L a=some (L',a'))(hS:S w)
 (k:wpAnyH P md ops Q S fuel L' a' w):wpAnyH P md ops Q S f0 L a w:=hf▸Ba hs hQ hS is h k
theorem Fw{o:Oper}(i fuel:Nat){f0:Nat}(hf:f0=fuel+1)(hr:Region.ready md ops L=[i])(ho:ops.toList[i]? = some o)(hw:Region.wanted o (yielded ops a.tmps)=true)
 (h:o.wp P a w (fun a' w'=>S w'∧wpAnyH P md ops Q S fuel (L.setIfInBounds i true) a' w') Q):wpAnyH P md ops Q S f0 L a w:=by
 subst hf
 refine wpAnyH_all hr (by simp) fun j hj=>?_
 obtain rfl:j=i:=by simpa using hj
 have a0:ops[j]? = some o:=by rw[←ho];simp
 unfold wpOp
 simp only[a0,hw,if_true]
 exact .inl h
theorem h_two{o o2:Oper}(i j fuel:Nat){f0:Nat}(hf:f0=fuel+1)(hr:Region.ready md ops L=[i,j])(ho:ops.toList[i]? = some o)(ho2:ops.toList[j]? = some o2)(hw:Region.wanted o (yielded ops a.tmps)=true)(hw2:Region.wanted o2 (yielded ops a.tmps)=true)
 (h:o.wp P a w (fun a' w'=>S w'∧wpAnyH P md ops Q S fuel (L.setIfInBounds i true) a' w') Q) (h2:o2.wp P a w (fun a' w'=>S w'∧wpAnyH P md ops Q S fuel (L.setIfInBounds j true) a' w') Q):wpAnyH P md ops Q S f0 L a w:=by
 subst hf
 refine wpAnyH_all hr (by simp) fun k hk=>?_
 have a1:ops[i]? = some o:=by rw[←ho];simp
 have a0:ops[j]? = some o2:=by rw[←ho2];simp
 rcases E9.1 hk with rfl|hk
 ·unfold wpOp;simp only[a1,hw,if_true];exact .inl h
 ·obtain rfl:k=j:=by simpa using hk
  unfold wpOp;simp only[a0,hw2,if_true];exact .inl h2
theorem h_str{P:Program}{ops:Array Oper}{Q:Exit→Act→World→Prop}{S:World→Prop}{md:Region.Mode}(S':World→Prop)(hi:∀ V,S' V→S V):∀ {fuel:Nat} {L:Array Bool} {a:Act} {w:World},wpAnyH P md ops Q S' fuel L a w→wpAnyH P md ops Q S fuel L a w
 | 0,_,_,_,h=>h
 | fuel+1,_,_,_,h=>⟨h.1,fun i hj=>wpOp_mono (fun a' w' h'=>⟨hi w' h'.1,h_str S' hi h'.2⟩) (h.2 i hj)⟩
theorem Zks(fuel:Nat)(hr:Region.ready md ops L=[])(h:Q .normal a w):wpAnyH P md ops Q S fuel L a w:=wpAnyH_done hr h fuel
end
structure BelowBut(w:World)(b:Nat)(W:World):Prop where
 os:W.os=w.os
 tape:W.tape=w.tape
 output:W.output=w.output
 size:w.heap.size≤W.heap.size
 block:∀ k,k<w.heap.size→k≠b→W.heap[k]? = w.heap[k]?
theorem _root_.Go.RowKit.Below.but{w W:World}(h:B3 w W)(b:Nat):BelowBut w b W:=⟨h.os,h.tape,h.output,h.size,fun k hk _=>h.block k hk⟩
theorem BelowBut.upd{w W W':World}{b:Nat}(h:BelowBut w b W)(u:Upd W b W'):BelowBut w b W':=⟨u.os.trans h.os,u.tape.trans h.tape,u.output.trans h.output,by rw[u.size];exact h.size,fun k hk hne=>(u.block k hne).trans (h.block k hk hne)⟩
theorem BelowBut.next{w W W':World}{b:Nat}(h:BelowBut w b W)(u:B3 W W'):BelowBut w b W':=⟨u.os.trans h.os,u.tape.trans h.tape,u.output.trans h.output,N0 h.size u.size,fun k hk hne=>(u.block k (D0 hk h.size)).trans (h.block k hk hne)⟩
theorem BelowBut.blk{w W:World}{b b':Nat}{cs:List Value}{t:TypeId}(h:BelowBut w b W)(k:Blk w b' cs t)(hne:b'≠b):Blk W b' cs t:=(h.block b' k.lt hne).trans k
theorem BelowBut.own2{w W:World}{b base:Nat}{e t:TypeId}{size:Nat}{v:Value}{n:Nat}{xs cs:List Value}(h:BelowBut w b W)(k:w.ownsRow base e size v n xs)(hk:Blk w b cs t)(hne:e≠t):W.ownsRow base e size v n xs:=by
 obtain⟨h1,h2⟩:=k
 refine⟨h1,?_⟩
 rcases h2 with h2|⟨g,a0,a1,hv,hg,hh,r⟩
 ·exact Or.inl h2
 ·refine Or.inr ⟨g,a0,a1,hv,hg,?_,r⟩
  rw[h.block g (Array.getElem?_eq_some_iff.1 hh).1]
  ·exact hh
  ·rintro rfl
   rw[show w.heap[g]? = _ from hk] at hh
   simp only[A0,Obj.cells.injEq] at hh
   exact hne hh.2.1.symm
theorem BelowBut.below{A w W:World}{b B:Nat}(h:BelowBut w b W)(hB:Below B A w)(hb:B≤b)(hs:B≤w.heap.size):Below B A W:=hB.trans ⟨h.os,h.tape,h.output,h.size,fun k hk=>h.block k M0 M0⟩
theorem Zz{w:World}{b base:Nat}{cs:List Value}{t:TypeId}{size n:Nat}(k:Blk w b cs t)(hb:base≤b)(hl:cs.length=n*size)(hn:n≤maxLen):w.ownsRow base t size (.slice (S1 b) n n) n cs :=
 ⟨hl,.inr ⟨b,n,cs.toArray,rfl,hb,k,A6 _,hn,by simpa using hl,by rw[←hl];simp⟩⟩
theorem g_ret{P:Program}{fn:Func}{R:Ending→World→Prop}{a:Act}{w:World}(v:Value)(hd:a.defers=[])(hr:(results fn a.tmps).run P w=.ok v w)(h:R (.returned v) w):bodyPost P fn R .ret a w:=⟨hd,v,hr,h⟩
theorem g_end{P:Program}{fn:Func}{R:Ending→World→Prop}{a:Act}{w:World}(v:Value)(hd:a.defers=[])(hr:(results fn a.tmps).run P w=.ok v w)(h:R (.returned v) w):bodyPost P fn R .normal a w:=⟨hd,v,hr,h⟩
theorem New.ge0{b:Nat}{cs:List Value}{t:TypeId}{w W A:World}{B:Nat}(h:New w b cs t W)(k:Below B A w):A.heap.size≤b:=by have:=k.size;have:=h.at_;omega
theorem Zg{w W:World}{base size n:Nat}{e:TypeId}{v:Value}{xs cs:List Value}{b:Nat}{t:TypeId}(k:w.ownsRow base e size v n xs)(h:New w b cs t W):∀ j,v.ownBlock=some j→j≠b:=fun j hj=>by have:=(k.lt j hj).2;have:=h.at_;omega
theorem Upd.own3{w W:World}{b base:Nat}{e:TypeId}{size:Nat}{v:Value}{n:Nat}{xs:List Value}(h:Upd w b W)(k:w.ownsRow base e size v n xs)(hs:∀ j,v.ownBlock=some j→j≠b):W.ownsRow base e size v n xs:=by
 obtain⟨h1,h2⟩:=k
 refine⟨h1,?_⟩
 rcases h2 with h2|⟨g,a0,a1,rfl,hg,hh,r⟩
 ·exact Or.inl h2
 ·exact Or.inr ⟨g,a0,a1,rfl,hg,by rw[h.block g (hs g rfl)];exact hh,r⟩
theorem Zd.upd_new{T:List TypeId}{a w W:World}{b:Nat}(h:Zd T a w)(u:Upd w b W)(hb:a.heap.size≤b):Zd T a W:=fun k cs t fr hk ht=>by
 have:=(Array.getElem?_eq_some_iff.1 hk).1
 rw[u.block k M0];exact h k cs t fr hk ht
theorem Zd.grown_new{T:List TypeId}{a w W:World}{size n:Nat}{e:TypeId}{v:Value}{xs:List Value}(h:Zd T a w)(hg:w.grownBy W v.ownBlock)(hown:w.ownsRow a.heap.size e size v n xs):Zd T a W:=fun k cs t fr hk ht=>by
 have h1:=(Array.getElem?_eq_some_iff.1 hk).1
 have h2:=h k cs t fr hk ht
 rw[hg.block k (Array.getElem?_eq_some_iff.1 h2).1 (fun e=>by have:=(hown.lt k e.symm).1;omega)];exact h2
def putD(a:Act):List (Nat×Value)→Act
 | []=>a
 | (d,v)::r=>putD ⟨a.tmps.setIfInBounds d v,a.defers⟩ r
theorem Zjw(is:List Nat)(d b:Bool)(h:d=b){a:Act}(he:is.map (fun i=>a.tmps[i]?)=is.map (fun _=>some (Value.bool d))):putD a (is.map fun i=>(i,Value.bool b))=a:=by
 subst h
 induction is with
 | nil=>rfl
 | cons i r ih =>
  simp only[F4,I1] at he
  have e:a.tmps.setIfInBounds i (Value.bool d)=a.tmps:=by
   apply Array.ext_getElem?
   intro j
   by_cases hj:i=j
   ·subst hj
    obtain⟨a0,hv⟩:=Array.getElem?_eq_some_iff.1 he.1
    rw[Array.getElem?_setIfInBounds_self_of_lt a0,he.1]
   ·rw[Array.getElem?_setIfInBounds_ne hj]
  show putD ⟨a.tmps.setIfInBounds i (Value.bool d),a.defers⟩ (r.map fun i=>(i,Value.bool d))=a
  rw[e]
  exact ih he.2
theorem g_b{P:Program}{ops:Array Oper}{Q:Exit→Act→World→Prop}{a:Act}{w:World}{l:List Oper}(is:List Nat)(d b:Bool)(h:d=b)(he:is.map (fun i=>a.tmps[i]?)=is.map (fun _=>some (Value.bool d)))(k:wpList P ops Q l (putD a (is.map fun i=>(i,Value.bool b))) w):wpList P ops Q l a w:=Zjw is d b h he▸k
theorem Na{P:Program}{ops:Array Oper}{Q:Exit→Act→World→Prop}{a:Act}{w:World}{l:List Oper}(n:Nat)(ds:List (Nat×Value))(h:Re P ops (l.take n) a=some (putD a ds))(k:wpList P ops Q (l.drop n) (putD a ds) w):wpList P ops Q l a w:=g_pure n _ h k
theorem h_pv{P:Program}{ops:Array Oper}{Q:Exit→Act→World→Prop}{a:Act}{w:World}{S:World→Prop}{md:Region.Mode}{L:Array Bool}(is:List Nat)(fuel:Nat){f0:Nat}(hf:f0=fuel+is.length)(L':Array Bool)(ds:List (Nat×Value))(hs:Region.noSelect ops=true)(hQ:∀ c a (d:Tmp) v w,Q (.panic c) (a.put (some d) v) w→Q (.panic c) a w)(h:Si P md ops is L a=some (L',putD a ds))(hS:S w)
 (k:wpAnyH P md ops Q S fuel L' (putD a ds) w):wpAnyH P md ops Q S f0 L a w:=h_pure is fuel hf L' _ hs hQ h hS k
def pk:List Value→Nat→Value
 | [],_=>undef
 | x::_,0=>x
 | _::r,k+1=>pk r k
structure Fr(S:List Nat)(w W:World):Prop where
 size:w.heap.size≤W.heap.size
 block:∀ k,k<w.heap.size→k∉S→W.heap[k]? = w.heap[k]?
theorem Fr.refl(S:List Nat)(w:World):Fr S w w:=⟨A6 _,fun _ _ _=>rfl⟩
theorem Fr.trans{S:List Nat}{a b c:World}(h:Fr S a b)(k:Fr S b c):Fr S a c:=⟨N0 h.size k.size,fun i hi hs=>(k.block i (D0 hi h.size) hs).trans (h.block i hi hs)⟩
theorem Fr.mono{S T:List Nat}{a b:World}(h:Fr S a b)(hs:∀ k∈S,k∈T):Fr T a b:=⟨h.size,fun i hi ht=>h.block i hi fun hi=>ht (hs i hi)⟩
theorem Fr.of_below{S:List Nat}{w W:World}(h:B3 w W):Fr S w W:=⟨h.size,fun k hk _=>h.block k hk⟩
theorem Fr.of_upd{S:List Nat}{w W:World}{b:Nat}(h:Upd w b W)(hb:b∈S):Fr S w W:=⟨K5 h.size.symm,fun k _ hs=>h.block k fun e=>hs (e▸hb)⟩
theorem Fr.upd_new{S:List Nat}{a w W:World}{b:Nat}(h:Fr S a w)(u:Upd w b W)(hb:a.heap.size≤b):Fr S a W:=⟨N0 h.size (K5 u.size.symm),fun k hk hs=>(u.block k M0).trans (h.block k hk hs)⟩
theorem Fr.grown_new{S:List Nat}{a w W:World}{size n:Nat}{e:TypeId}{v:Value}{xs:List Value}(h:Fr S a w)(hg:w.grownBy W v.ownBlock)(hown:w.ownsRow a.heap.size e size v n xs):Fr S a W:=⟨N0 h.size hg.size,fun k hk hs=>(hg.block k (D0 hk h.size) (fun e=>by have:=(hown.lt k e.symm).1;omega)).trans (h.block k hk hs)⟩
theorem Fr.of_grown{S:List Nat}{w W:World}{g n cap:Nat}(hg:w.grownBy W (Value.slice (S1 g) n cap).ownBlock)(hb:g∈S):Fr S w W:=⟨hg.size,fun k hk hs=>hg.block k hk fun e=>hs (by simp only[Value.ownBlock,A0] at e;exact e▸hb)⟩
theorem Fr.trans_new{S:List Nat}{a w W:World}{z:Nat}(h:Fr S a w)(k:Fr (S++[z]) w W)(hz:a.heap.size≤z):Fr S a W:=⟨N0 h.size k.size,fun i hi hs=>(k.block i (D0 hi h.size) (fun hm=>by rcases List.mem_append.1 hm with hm|hm;exact hs hm;have:=E2.1 hm;omega)).trans (h.block i hi hs)⟩
theorem Blk.fr{S:List Nat}{w W:World}{b:Nat}{cs:List Value}{t:TypeId}(k:Blk w b cs t)(h:Fr S w W)(hb:b∉S):Blk W b cs t:=(h.block b k.lt hb).trans k
theorem Zkt{S:List Nat}{w W:World}{base size n:Nat}{e:TypeId}{v:Value}{xs:List Value}(k:w.ownsRow base e size v n xs)(h:Fr S w W)(hs:∀ b,v.ownBlock=some b→b∉S):W.ownsRow base e size v n xs:=by
 obtain⟨h1,h2⟩:=k
 refine⟨h1,?_⟩
 rcases h2 with h2|⟨g,a0,a1,rfl,hg,hh,r⟩
 ·exact Or.inl h2
 ·exact Or.inr ⟨g,a0,a1,rfl,hg,by rw[h.block g (Array.getElem?_eq_some_iff.1 hh).1 (hs g rfl)];exact hh,r⟩
theorem Zb(w:World):B3 w w.drew:=(Below.refl _ _).drew
theorem Zam{id:Nat}{K:Act→World→Prop}{Q:Exit→Act→World→Prop}{a:Act}{w:World}(h:Q (.exit id) a w):Exit.then K Q (.exit id) a w:=h
theorem Hh{K:Act→World→Prop}{Q:Exit→Act→World→Prop}{a:Act}{w:World}(h:Q .ret a w):Exit.then K Q .ret a w:=h
theorem Ua{id:Nat}{Q:Exit→Act→World→Prop}{a:Act}{w:World}(h:Q .ret a w):Exit.inBlock id Q .ret a w:=h
theorem Zb5{id:Nat}{Q:Exit→Act→World→Prop}{a:Act}{w:World}(h:Q .normal a w):Exit.inBlock id Q (.exit id) a w:=by simpa [Exit.inBlock] using h
end Go.Proofs.YtekomodnkfhihaaGreatDoor
namespace Go.Proofs.YtekomodnkfhihaaGreatDoor
set_option maxHeartbeats 8000000
set_option maxRecDepth 100000
open Go.RowKit
set_option linter.unusedVariables false
/-! ### frames -/
noncomputable def zlk (l:List (Nat×Value)) (k:Nat):Value:=List.rec (motive:=fun _=>Value) undef (fun p _ ih=>Bool.rec (motive:=fun _=>Value) ih p.2 (Nat.beq p.1 k)) l
theorem Nk(d:Nat)(v:Value)(l:List (Nat×Value))(k:Nat):zlk ((d,v)::l) k=if d=k then v else zlk l k:=by
 show Bool.rec (motive:=fun _=>Value) (zlk l k) v (Nat.beq d k)=_
 cases h:Nat.beq d k with
 | true=>rw[if_pos (H2 h)]
 | false=>rw[if_neg (Nat.ne_of_beq_eq_false h)]
noncomputable def zact (n:Nat) (kv:List (Nat×Value)):Act:=⟨((List.range n).map (zlk kv)).toArray,[]⟩
noncomputable def zget (n:Nat) (kv:List (Nat×Value)) (k:Nat):Value:=Bool.rec (motive:=fun _=>Value) undef (zlk kv k) (Nat.blt k n)
theorem Tj(k n:Nat):Nat.blt k n=decide (k<n):=by
 rw[Bool.eq_iff_iff];simp
theorem Zie(n:Nat)(kv:List (Nat×Value))(d:Nat):(zact n kv).tmps[d]? = Bool.rec (motive:=fun _=>Option Value) none (some (zlk kv d)) (Nat.blt d n):=by
 rw[Tj]
 by_cases h:d<n<;>simp[zact,h]
theorem Nt(n:Nat)(kv:List (Nat×Value))(d:Nat):(zact n kv).tmps.getD d undef=zget n kv d:=by
 have h:=Zie n kv d
 rw[Array.getD_eq_getD_getElem?,h]
 unfold zget
 cases Nat.blt d n<;>rfl
noncomputable def zev (n:Nat) (kv:List (Nat×Value)):Operand→Value
 | .tmp t=>zget n kv t
 | .const v=>v
 | .global g=>P0 g
 | .func f=>.func (.func f) #[] #[]
theorem Zy(n:Nat)(kv:List (Nat×Value)):(zact n kv).eval=zev n kv:=by
 funext x
 cases x with
 | tmp t=>exact Nt n kv t
 | _=>rfl
def Zhf(kv:List (Nat×Value))(d:Option Tmp)(v:Value):List (Nat×Value):=match d with
 | some d=>(d,v)::kv
 | none=>kv
theorem Mm(n:Nat)(kv:List (Nat×Value))(d:Option Tmp)(v:Value):(zact n kv).put d v=zact n (Zhf kv d v):=by
 cases d with
 | none=>rfl
 | some d =>
  show(⟨((List.range n).map (zlk kv)).toArray.setIfInBounds d v,[]⟩:Act)=⟨((List.range n).map (zlk ((d,v)::kv))).toArray,[]⟩
  congr 1
  rw[List.setIfInBounds_toArray]
  congr 1
  apply G0
  intro i
  rw[List.getElem?_set,B9,B9,At,List.length_range]
  by_cases hi:i<n
  ·simp only[B7 hi,C7,Nk]
   by_cases hd:d=i
   ·subst hd;simp[hi]
   ·simp[hd]
  ·have:(List.range n)[i]? = none:=by simp;omega
   simp only[this,Option.map_none]
   by_cases hd:d=i
   ·subst hd;simp[hi]
   ·simp[hd]
noncomputable def znth (l:List Oper) (k:Nat):Option Oper:=List.rec (motive:=fun _=>Nat→Option Oper) (fun _=>none) (fun o _ ih k=>Nat.rec (motive:=fun _=>Option Oper) (some o) (fun k' _=>ih k') k) l k
theorem Lg:∀ (l:List Oper) (k:Nat),znth l k=l[k]?
 | [],_=>rfl
 | _::_,0=>rfl
 | _::l,k+1=>by rw[List.getElem?_cons_succ,←Lg l k];rfl
noncomputable def zyl (all:List Oper) (n:Nat) (kv:List (Nat×Value)) (j:Nat):Option Bool :=
 match ((znth all j).bind (·.dst)) with
 | some d=>match zget n kv d with
  | .bool b=>some b
  | _=>none
 | none=>none
theorem Oz(all:List Oper)(n:Nat)(kv:List (Nat×Value)):yielded all.toArray (zact n kv).tmps=zyl all n kv:=by
 funext j
 unfold yielded zyl
 rw[Lg,H3]
 cases h:(all[j]?).bind (·.dst) with
 | none=>rfl
 | some d =>
  simp only[Option.bind_some,Zie]
  unfold zget
  cases Nat.blt d n
  ·rfl
  ·cases zlk kv d<;>rfl
noncomputable def zps (P:Program) (all:List Oper) (n:Nat) (kv:List (Nat×Value)) (o:Oper):Option (List (Nat×Value)) :=
 match Region.wanted o (zyl all n kv) with
 | true=>match Gs P (execOp (zev n kv) o) with
  | some (.value v)=>some (Zhf kv o.dst v)
  | _=>none
 | false=>some (Zhf kv o.dst undef)
theorem Sa{P:Program}{all:List Oper}{n:Nat}{kv kv':List (Nat×Value)}{o:Oper}(h:zps P all n kv o=some kv'):∃ v,kv'=Zhf kv o.dst v∧∀ S:World→Prop,YieldsIf P all.toArray S o v (zact n kv):=by
 unfold zps at h
 split at h
 ·rename_i hw
  split at h
  ·rename_i v hv
   simp only[A0] at h
   exact⟨v,h.symm,fun S=>.inl ⟨by rw[Oz];exact hw,fun w _=>by rw[Zy];exact Jt hv w⟩⟩
  ·cases h
 ·rename_i hw
  simp only[A0] at h
  exact⟨undef,h.symm,fun S=>.inr ⟨by rw[Oz];exact hw,rfl⟩⟩
/-! ### what stands of an order that is drawn -/
inductive SF
 | z
 | t (B:Nat) (T:List TypeId)
 | f (B:Nat) (S:List Nat)
def SF.rel:SF→World→World→Prop
 | .z,w,V=>B3 w V
 | .t B T,w,V=>Below (Nat.min B w.heap.size) w V∧Zd T w V
 | .f B S,w,V=>Below (Nat.min B w.heap.size) w V∧Fr S w V
theorem SF.refl(sf:SF)(w:World):sf.rel w w:=by
 cases sf with
 | z=>exact Below.refl _ _
 | t B T=>exact⟨Below.refl _ _,Zd.refl _ _⟩
 | f B S=>exact⟨Below.refl _ _,Fr.refl _ _⟩
theorem SF.of_below(sf:SF){w W:World}(h:B3 w W):sf.rel w W:=by
 cases sf with
 | z=>exact h
 | t B T=>exact⟨h.mono (Nat.min_le_right _ _),Zd.of_below h⟩
 | f B S=>exact⟨h.mono (Nat.min_le_right _ _),Fr.of_below h⟩
theorem SF.trans(sf:SF){a b c:World}(h:sf.rel a b)(k:sf.rel b c):sf.rel a c:=by
 cases sf with
 | z=>exact bln h k
 | t B T =>
  refine⟨h.1.trans (k.1.mono ?_),h.2.trans k.2⟩
  have:=h.1.size
  simp only[Nat.min_def];split<;>split<;>omega
 | f B S =>
  refine⟨h.1.trans (k.1.mono ?_),h.2.trans k.2⟩
  have:=h.1.size
  simp only[Nat.min_def];split<;>split<;>omega
noncomputable def zL (n:Nat) (done:List Nat):Array Bool:=((List.range n).map fun i=>done.elem i).toArray
theorem Ziy(n:Nat)(done:List Nat)(i:Nat)(b:Bool):(zL n done).getD i b=if i<n then done.elem i else b:=by
 rw[Array.getD_eq_getD_getElem?]
 by_cases h:i<n<;>simp[zL,h]
theorem Zdq(n:Nat)(done:List Nat)(i:Nat):(zL n done).setIfInBounds i true=zL n (i::done):=by
 unfold zL
 rw[List.setIfInBounds_toArray]
 congr 1
 apply G0
 intro j
 rw[List.getElem?_set,B9,B9,At,List.length_range]
 by_cases hj:j<n
 ·simp only[B7 hj,C7]
  by_cases hd:i=j
  ·subst hd;simp[hj]
  ·have:(j==i)=false:=by simp;exact fun e=>hd e.symm
   rw[if_neg hd,List.elem_cons,this]
 ·have:(List.range n)[j]? = none:=by simp;omega
  simp only[this,Option.map_none]
  by_cases hd:i=j
  ·subst hd;simp[hj]
  ·simp[hd]
theorem zL_nil(n:Nat):Array.replicate n false=zL n []:=by
 unfold zL
 apply Array.ext_getElem?
 intro i
 by_cases h:i<n<;>simp[h]
noncomputable def zready (all:List Oper) (done:List Nat):List Nat :=
 (List.range all.length).filter fun i=>!(done.elem i)&&match znth all i with
  | some o=>o.after.all fun e=>!Region.binds .any e||(Nat.blt e.on all.length&&done.elem e.on)
  | none=>false
theorem Wa(all:List Oper)(done:List Nat):Region.ready .any all.toArray (zL all.length done)=zready all done:=by
 unfold Region.ready zready
 rw[G8]
 refine List.filter_congr fun i hi=>?_
 have a0:i<all.length:=by simpa using hi
 rw[Ziy,if_pos a0,Lg,H3]
 congr 1
 cases all[i]? with
 | none=>rfl
 | some o =>
  simp only[C7,Option.getD_some]
  congr 1
  funext e
  rw[Ziy,Tj]
  by_cases he:e.on<all.length<;>simp[he]
/-! ### the state of a walk -/
inductive KF
 | seq (c:Code)
 | blk (id:Nat)
 | jn (J:Act→World→Prop)
 | rnd (c:Code) (n:Nat)
 | scp
inductive Zc
 | code (c:Code)
 | ops (all l:List Oper)
 | any (sf:SF) (all:List Oper) (f:Nat) (done:List Nat)
 | one (sf:SF) (all:List Oper) (f:Nat) (done:List Nat) (i:Nat)
 | tak (sf:SF) (all:List Oper) (f:Nat) (done:List Nat) (i:Nat)
 | ex (e:Exit)
structure Zs where
 n:Nat
 ks:List KF
 c:Zc
 kv:List (Nat×Value)
section
variable (P:Program) (fn:Func) (R:Ending→World→Prop)
def KQ:List KF→Exit→Act→World→Prop
 | []=>bodyPost P fn R
 | .seq c::ks=>Exit.then (c.wp P (KQ ks)) (KQ ks)
 | .blk id::ks=>Exit.inBlock id (KQ ks)
 | .jn J::ks=>Exit.then J (KQ ks)
 | .rnd c n::ks=>Exit.then (Code.rounds P c (KQ ks) n) (KQ ks)
 | .scp::ks=>Exit.noGoto (KQ ks)
theorem Ww:∀ (ks:List KF) (c:List PanicEntry) (a:Act) (w:World),KQ P fn R ks (.panic c) a w=bodyPost P fn R (.panic c) a w
 | [],_,_,_=>rfl
 | .seq _::ks,c,a,w=>Ww ks c a w
 | .blk _::ks,c,a,w=>Ww ks c a w
 | .jn _::ks,c,a,w=>Ww ks c a w
 | .rnd _ _::ks,c,a,w=>Ww ks c a w
 | .scp::ks,c,a,w=>Ww ks c a w
theorem KQ_put(ks:List KF)(d:Option Tmp)(v:Value)(c:List PanicEntry)(a:Act)(w:World)(h:KQ P fn R ks (.panic c) (a.put d v) w):KQ P fn R ks (.panic c) a w:=by
 rw[Ww] at h ⊢
 refine⟨?_,h.2⟩
 have:=h.1
 cases d<;>exact this
def Go (s:Zs)(w:World):Prop:=match s.c with
 | .code c=>c.wp P (KQ P fn R s.ks) (zact s.n s.kv) w
 | .ops all l=>wpList P all.toArray (KQ P fn R s.ks) l (zact s.n s.kv) w
 | .any sf all f done=>Region.noSelect all.toArray=true→wpAnyH P .any all.toArray (KQ P fn R s.ks) (sf.rel w) f (zL all.length done) (zact s.n s.kv) w
 | .one sf all f done i=>Region.noSelect all.toArray=true→wpOp P all.toArray (KQ P fn R s.ks) i (fun a' w'=>sf.rel w w'∧wpAnyH P .any all.toArray (KQ P fn R s.ks) (sf.rel w) f (zL all.length (i::done)) a' w') (zact s.n s.kv) w
 | .tak sf all f done i=>Region.free .any all.toArray (zL all.length done) i=true→(zready all done).contains i=true→Region.noSelect all.toArray=true→wpAnyH P .any all.toArray (KQ P fn R s.ks) (sf.rel w) (f+1) (zL all.length done) (zact s.n s.kv) w
 | .ex e=>KQ P fn R s.ks e (zact s.n s.kv) w
end
/-! ### steps that need no word -/
noncomputable def zstep (P:Program) (s:Zs):Zs:=match s with
  | ⟨n, ks, c, kv⟩ => match c with
    | .code c=>match c with
      | .skip=>⟨n,ks,.ex .normal,kv⟩
      | .label _=>⟨n,ks,.ex .normal,kv⟩
      | .seq a b=>⟨n,.seq b::ks,.code a,kv⟩
      | .block id a=>⟨n,.blk id::ks,.code a,kv⟩
      | .scope a=>⟨n,.scp::ks,.code a,kv⟩
      | .exit id=>⟨n,ks,.ex (.exit id),kv⟩
      | .ret=>⟨n,ks,.ex .ret,kv⟩
      | .region id ops d=>Bool.rec (motive:=fun _=>Zs) ⟨n,ks,.ops ops.toList ops.toList,kv⟩ ⟨n,ks,.code (.region id ops true),kv⟩ d
      | .cond c a b=>match zev n kv c with
        | .bool t=>⟨n,ks,.code (Bool.rec (motive:=fun _=>Code) b a t),kv⟩
        | _=>⟨n,ks,.code (.cond c a b),kv⟩
      | c=>⟨n,ks,.code c,kv⟩
    | .ops all l=>match l with
      | []=>⟨n,ks,.ex .normal,kv⟩
      | o::l=>match zps P all n kv o with
        | some kv'=>⟨n,ks,.ops all l,kv'⟩
        | none=>⟨n,ks,.ops all (o::l),kv⟩
    | .any sf all f done=>match zready all done with
      | []=>⟨n,ks,.ex .normal,kv⟩
      | _=>⟨n,ks,.any sf all f done,kv⟩
    | .one sf all f done i=>⟨n,ks,.one sf all f done i,kv⟩
    | .tak sf all f done i=>⟨n,ks,.tak sf all f done i,kv⟩
    | .ex e=>match ks with
      | []=>⟨n,[],.ex e,kv⟩
      | .seq c::ks=>match e with
        | .normal=>⟨n,ks,.code c,kv⟩
        | e=>⟨n,ks,.ex e,kv⟩
      | .blk id::ks=>match e with
        | .exit id'=>Bool.rec (motive:=fun _=>Zs) ⟨n,ks,.ex (.exit id'),kv⟩ ⟨n,ks,.ex .normal,kv⟩ (Nat.beq id' id)
        | e=>⟨n,ks,.ex e,kv⟩
      | .jn J::ks=>match e with
        | .normal=>⟨n,.jn J::ks,.ex .normal,kv⟩
        | e=>⟨n,ks,.ex e,kv⟩
      | .rnd c m::ks=>match e with
        | .normal=>Nat.rec (motive:=fun _=>Zs) ⟨n,.rnd c m::ks,.ex .normal,kv⟩ (fun m' _=>⟨n,.rnd c m'::ks,.code c,kv⟩) m
        | e=>⟨n,ks,.ex e,kv⟩
      | .scp::ks=>match e with
        | .goto l=>⟨n,.scp::ks,.ex (.goto l),kv⟩
        | e=>⟨n,ks,.ex e,kv⟩
section
variable {P:Program} {fn:Func} {R:Ending→World→Prop} {w:World}
theorem Zbc(s:Zs)(h:Go P fn R (zstep P s) w):Go P fn R s w:=by
 obtain⟨n,ks,c,kv⟩:=s
 cases c with
 | code c =>
  cases c with
  | skip=>exact wp_skip h
  | label l=>exact wp_label h
  | seq a b=>exact wp_seq h
  | block id a=>exact wp_block h
  | scope a=>exact wp_scope_straight h
  | exit id=>exact wp_exit h
  | ret=>exact wp_ret h
  | region id ops d =>
   cases d with
   | true=>exact h
   | false =>
    refine wp_region_list ?_
    have h':wpList P ops.toList.toArray (KQ P fn R ks) ops.toList (zact n kv) w:=h
    rwa [J0] at h'
  | cond c a b =>
   unfold zstep at h
   dsimp only at h
   split at h
   ·rename_i t ht
    refine wp_cond (t:=t) (by rw[Zy];exact ht) ?_
    cases t<;>exact h
   ·exact h
  | _=>exact h
 | ops all l =>
  cases l with
  | nil=>exact(h:KQ P fn R ks .normal (zact n kv) w)
  | cons o l =>
   unfold zstep at h
   dsimp only at h
   split at h
   ·rename_i a0 hk
    obtain⟨v,rfl,hy⟩:=Sa hk
    have h':wpList P all.toArray (KQ P fn R ks) l (zact n (Zhf kv o.dst v)) w:=h
    rw[←Mm] at h'
    exact Ud (hy _) h'
   ·exact h
 | any sf all f done =>
  unfold zstep at h
  dsimp only at h
  split at h
  ·rename_i hr
   exact fun _=>wpAnyH_done (by rw[Wa];exact hr) h f
  ·exact h
 | one sf all f done i=>exact h
 | tak sf all f done i=>exact h
 | ex e =>
  cases ks with
  | nil=>exact h
  | cons k ks =>
   cases k with
   | seq c=>cases e<;>exact h
   | blk id =>
    cases e with
    | exit id' =>
     show Exit.inBlock id (KQ P fn R ks) (.exit id') _ w
     unfold zstep at h
     dsimp only at h
     cases hb:Nat.beq id' id with
     | true =>
      rw[hb] at h
      have:id'=id:=H2 hb
      simp only[Exit.inBlock,this,if_true]
      exact h
     | false =>
      rw[hb] at h
      have:id'≠id:=Nat.ne_of_beq_eq_false hb
      simp only[Exit.inBlock,this,if_false]
      exact h
    | _=>exact h
   | jn J=>cases e<;>exact h
   | scp=>cases e<;>exact h
   | rnd c m =>
    cases e with
    | normal =>
     cases m with
     | zero=>exact h
     | succ m=>exact h
    | _=>exact h
noncomputable def zr (P:Program) (k:Nat) (s:Zs):Zs:=Nat.rec (motive:=fun _=>Zs→Zs) (fun s=>s) (fun _ ih s=>ih (zstep P s)) k s
theorem An:∀ (k:Nat) (s:Zs),Go P fn R (zr P k s) w→Go P fn R s w
 | 0,_,h=>h
 | k+1,s,h=>Zbc s (An k (zstep P s) h)
/-! ### a drawn region: what only computes is taken by number -/
noncomputable def zb1 (P:Program) (s:Zs) (i:Nat):Zs:=match s with
  | ⟨n, ks, c, kv⟩ => match c with
    | .any sf all f done=>match f with
      | f'+1=>match znth all i with
        | some o=>match Region.free .any all.toArray (zL all.length done) i&&(zready all done).contains i with
          | true=>match zps P all n kv o with
            | some kv'=>⟨n,ks,.any sf all f' (i::done),kv'⟩
            | none=>⟨n,ks,.any sf all f done,kv⟩
          | false=>⟨n,ks,.any sf all f done,kv⟩
        | none=>⟨n,ks,.any sf all f done,kv⟩
      | 0=>⟨n,ks,.any sf all f done,kv⟩
    | c=>⟨n,ks,c,kv⟩
theorem Zkg(s:Zs)(i:Nat)(h:Go P fn R (zb1 P s i) w):Go P fn R s w:=by
 obtain⟨n,ks,c,kv⟩:=s
 cases c with
 | any sf all f done =>
  cases f with
  | zero=>exact h
  | succ f =>
   unfold zb1 at h
   dsimp only at h
   split at h
   ·rename_i o ho
    split at h
    ·rename_i hc
     simp only[D3] at hc
     split at h
     ·rename_i a0 hk
      obtain⟨v,rfl,hy⟩:=Sa hk
      intro hs
      have h':=h hs
      rw[Lg] at ho
      rw[←Mm,←Zdq] at h'
      exact wpAnyH_take (by rw[H3];exact ho) hs hc.1 (by rw[Wa];exact hc.2) (KQ_put P fn R ks _ _) (hy _) (sf.refl w) h'
     ·exact h
    ·exact h
   ·exact h
 | _=>exact h
noncomputable def zb (P:Program) (is:List Nat) (s:Zs):Zs:=List.rec (motive:=fun _=>Zs→Zs) (fun s=>s) (fun i _ ih s=>ih (zb1 P s i)) is s
theorem Mo:∀ (is:List Nat) (s:Zs),Go P fn R (zb P is s) w→Go P fn R s w
 | [],_,h=>h
 | i::r,s,h=>Zkg s i (Mo r _ h)
noncomputable def zone (i:Nat) (s:Zs):Zs:=match s with
  | ⟨n, ks, c, kv⟩ => match c with
    | .any sf all f done=>match f with
      | f'+1=>match zready all done with
        | [j]=>Bool.rec (motive:=fun _=>Zs) ⟨n,ks,.any sf all f done,kv⟩ ⟨n,ks,.one sf all f' done i,kv⟩ (Nat.beq j i)
        | _=>⟨n,ks,.any sf all f done,kv⟩
      | 0=>⟨n,ks,.any sf all f done,kv⟩
    | c=>⟨n,ks,c,kv⟩
theorem Zfm(s:Zs)(i:Nat)(h:Go P fn R (zone i s) w):Go P fn R s w:=by
 obtain⟨n,ks,c,kv⟩:=s
 cases c with
 | any sf all f done =>
  cases f with
  | zero=>exact h
  | succ f =>
   unfold zone at h
   dsimp only at h
   split at h
   ·rename_i j hj
    cases hb:Nat.beq j i with
    | true =>
     rw[hb] at h
     obtain rfl:j=i:=H2 hb
     intro hs
     refine wpAnyH_all (rs:=[j]) (by rw[Wa];exact hj) (by simp) fun k hk=>?_
     obtain rfl:k=j:=by simpa using hk
     rw[Zdq]
     exact h hs
    | false=>rw[hb] at h;exact h
   ·exact h
 | _=>exact h
noncomputable def ztak (i:Nat) (s:Zs):Zs:=match s with
  | ⟨n, ks, c, kv⟩ => match c with
    | .any sf all f done=>match f with
      | f'+1=>match Region.free .any all.toArray (zL all.length done) i&&(zready all done).contains i with
        | true=>⟨n,ks,.tak sf all f' done i,kv⟩
        | false=>⟨n,ks,.any sf all f done,kv⟩
      | 0=>⟨n,ks,.any sf all f done,kv⟩
    | c=>⟨n,ks,c,kv⟩
theorem Zg5(s:Zs)(i:Nat)(h:Go P fn R (ztak i s) w):Go P fn R s w:=by
 obtain⟨n,ks,c,kv⟩:=s
 cases c with
 | any sf all f done =>
  cases f with
  | zero=>exact h
  | succ f =>
   unfold ztak at h
   dsimp only at h
   split at h
   ·rename_i hc
    simp only[D3] at hc
    exact h hc.1 hc.2
   ·exact h
 | _=>exact h
inductive Zq
 | p (k:Nat)
 | b (is:List Nat)
 | o (is:List Nat) (i:Nat)
 | e (is:List Nat) (i:Nat)
 | r (is:List Nat) (k:Nat)
instance (n:Nat):OfNat Zq n:=⟨.p n⟩
noncomputable def zq (P:Program) (q:Zq) (s:Zs):Zs:=match q with
 | .p k=>zr P k s
 | .b is=>zb P is s
 | .o is i=>zone i (zb P is s)
 | .e is i=>ztak i (zb P is s)
 | .r is k=>zr P k (zb P is s)
theorem Zx(q:Zq)(s:Zs)(h:Go P fn R (zq P q s) w):Go P fn R s w:=by
 cases q with
 | p k=>exact An k s h
 | b is=>exact Mo is s h
 | o is i=>exact Mo is s (Zfm _ i h)
 | e is i=>exact Mo is s (Zg5 _ i h)
 | r is k=>exact Mo is s (An k _ h)
/-! ### the operation at hand -/
noncomputable def zop (s:Zs):Option Oper:=match s with
  | ⟨n, ks, c, kv⟩ => match c with
    | .ops all l=>match l with
      | o::_=>match Region.wanted o (zyl all n kv) with
        | true=>some o
        | false=>none
      | []=>none
    | .one _ all _ _ i=>match znth all i with
      | some o=>match Region.wanted o (zyl all n kv) with
        | true=>some o
        | false=>none
      | none=>none
    | .tak _ all _ _ i=>match znth all i with
      | some o=>match Region.wanted o (zyl all n kv) with
        | true=>some o
        | false=>none
      | none=>none
    | _=>none
noncomputable def znx (s:Zs) (v:Value):Zs:=match s with
 | ⟨n,ks,c,kv⟩=>match c with
  | .ops all l=>match l with
   | o::l=>⟨n,ks,.ops all l,Zhf kv o.dst v⟩
   | []=>⟨n,ks,.ops all [],kv⟩
  | .one sf all f done i=>match znth all i with
   | some o=>⟨n,ks,.any sf all f (i::done),Zhf kv o.dst v⟩
   | none=>⟨n,ks,.one sf all f done i,kv⟩
  | .tak sf all f done i=>match znth all i with
   | some o=>⟨n,ks,.any sf all f (i::done),Zhf kv o.dst v⟩
   | none=>⟨n,ks,.tak sf all f done i,kv⟩
  | c=>⟨n,ks,c,kv⟩
def Zfo(s:Zs)(w W:World):Prop:=match s.c with
 | .one sf _ _ _ _=>sf.rel w W
 | .tak sf _ _ _ _=>sf.rel w W
 | _=>True
def Aq(s:Zs):Bool:=match s.c with
 | .tak _ _ _ _ _=>false
 | _=>true
theorem Je(s:Zs){W:World}(h:B3 w W):Zfo s w W:=by
 unfold Zfo
 split
 ·exact SF.of_below _ h
 ·exact SF.of_below _ h
 ·trivial
theorem Zf4{P:Program}{ops:Array Oper}{Q:Exit→Act→World→Prop}{S S':World→Prop}{md:Region.Mode}{fuel:Nat}{L:Array Bool}{a:Act}{w:World}(hi:∀ V,S' V→S V)(h:wpAnyH P md ops Q S' fuel L a w):wpAnyH P md ops Q S fuel L a w:=h_str S' hi h
theorem zgo{s:Zs}{o:Oper}(h:zop s=some o)(he:Aq s=true)(k:∀ (K:Act→World→Prop),(∀ v W,Zfo s w W→Go P fn R (znx s v) W→K ((zact s.n s.kv).put o.dst v) W)→o.wp P (zact s.n s.kv) w K (KQ P fn R s.ks)):Go P fn R s w:=by
 obtain⟨n,ks,c,kv⟩:=s
 cases c with
 | ops all l =>
  cases l with
  | nil=>cases h
  | cons o' l =>
   unfold zop at h
   dsimp only at h
   split at h
   ·rename_i hw
    obtain rfl:o'=o:=by simpa using h
    refine Nl (by rw[Oz];exact hw) (k _ fun v W _ hg=>?_)
    rw[Mm]
    exact hg
   ·cases h
 | one sf all f done i =>
  unfold zop at h
  dsimp only at h
  split at h
  ·rename_i o' ho
   split at h
   ·rename_i hw
    obtain rfl:o'=o:=by simpa using h
    intro hs
    have a0:all.toArray[i]? = some o':=by rw[H3,←Lg];exact ho
    unfold wpOp
    simp only[a0,Oz,hw,if_true]
    refine .inl (k _ fun v W hr hg=>⟨hr,?_⟩)
    have a1:Go P fn R ⟨n,ks,.any sf all f (i::done),Zhf kv o'.dst v⟩ W:=by
     have e:znx ⟨n,ks,.one sf all f done i,kv⟩ v=⟨n,ks,.any sf all f (i::done),Zhf kv o'.dst v⟩:=by simp only[znx,ho]
     rw[←e];exact hg
    have:=a1 hs
    rw[←Mm] at this
    exact Zf4 (fun V hV=>sf.trans hr hV) this
   ·cases h
  ·cases h
 | tak sf all f done i=>cases he
 | any sf all f done=>cases h
 | code c=>cases h
 | ex e=>cases h
theorem Zas{s:Zs}{o:Oper}{v:Value}(h:zop s=some o)(hv:∀ V,(V=w∨Aq s=false∧Zfo s w V)→(execOp (zact s.n s.kv).eval o).run P V=.ok (.value v) V)(k:Go P fn R (znx s v) w):Go P fn R s w:=by
 by_cases he:Aq s=true
 ·exact zgo h he fun K hK=>Hb (hv w (.inl rfl)) (hK _ _ (Je _ (Below.refl _ _)) k)
 ·obtain⟨n,ks,c,kv⟩:=s
  cases c with
  | tak sf all f done i =>
   unfold zop at h
   dsimp only at h
   split at h
   ·rename_i o' ho
    split at h
    ·rename_i hw
     obtain rfl:o'=o:=by simpa using h
     intro h1 h2 hs
     have a0:all.toArray[i]? = some o':=by rw[H3,←Lg];exact ho
     have a1:Go P fn R ⟨n,ks,.any sf all f (i::done),Zhf kv o'.dst v⟩ w:=by
      have e:znx ⟨n,ks,.tak sf all f done i,kv⟩ v=⟨n,ks,.any sf all f (i::done),Zhf kv o'.dst v⟩:=by simp only[znx,ho]
      rw[←e];exact k
     have:=a1 hs
     rw[←Mm,←Zdq] at this
     exact wpAnyH_take a0 hs h1 (by rw[Wa];exact h2) (KQ_put P fn R ks _ _) (.inl ⟨by rw[Oz];exact hw,fun V hV=>hv V (.inr ⟨rfl,hV⟩)⟩) (sf.refl w) this
    ·cases h
   ·cases h
  | _=>exact absurd rfl he
end
/-! ### the rules -/
def Zjz:Nat→List Value→List (Nat×Value)
 | _,[]=>[]
 | i,v::r=>(i,v)::Zjz (i+1) r
theorem Zds:∀ (l:List Value) (i k:Nat),i≤k→zlk (Zjz i l) k=(l[k-i]?).getD undef
 | [],_,_,_=>rfl
 | v::r,i,k,h=>by
  rw[Zjz,Nk]
  by_cases e:i=k
  ·subst e;simp
  ·rw[if_neg e,Zds r (i+1) k M0,show k-i=(k-(i+1))+1 by omega,List.getElem?_cons_succ]
def zbody(fn:Func):Code:=match fn.body with
 | some c=>c
 | none=>.skip
theorem Zjf(args:Array Value)(m:Nat):(⟨args++Array.replicate (m-args.size) undef,[]⟩:Act)=zact (args.size+(m-args.size)) (Zjz 0 args.toList):=by
 unfold zact
 congr 1
 apply Array.ext_getElem?
 intro i
 rw[Array.getElem?_append]
 conv=>rhs;rw[H3,B9]
 by_cases h:i<args.size+(m-args.size)
 ·rw[B7 h,C7,Zds _ _ _ (A3 _)]
  by_cases h2:i<args.size
  ·simp[h2]
  ·rw[if_neg h2,Array.getElem?_replicate,if_pos M0]
   simp[h2]
 ·have:(List.range (args.size+(m-args.size)))[i]? = none:=by simp;omega
  rw[this,if_neg M0,Array.getElem?_replicate,if_neg M0]
  rfl
def zsz (P:Program)(t:TypeId)(n:Nat):Bool:=match P.info? t with
 | some i=>Nat.beq i.size n
 | none=>false
theorem Zdy{P:Program}{t:TypeId}{n:Nat}(h:zsz P t n=true):(P.info? t).map (·.size)=some n:=by
 unfold zsz at h
 split at h
 ·rename_i i hi
  rw[hi]
  simp[H2 h]
 ·cases h
def zrow(P:Program)(t:TypeId):Bool:=match P.underlying t with
 | some d=>d.isRow
 | none=>false
def Ns(w:World)(p:Addr)(cs:List Value):Prop:=∃ b off,p=⟨b,off,none⟩∧w.rangeAt b off cs
theorem Blk.rp{w:World}{b:Nat}{cs:List Value}{t:TypeId}(h:Blk w b cs t):Ns w ⟨b,0,none⟩ cs:=⟨b,0,rfl,h.whole⟩
theorem Blk.rpp{w:World}{b:Nat}{cs:List Value}{t:TypeId}(h:Blk w b cs t)(off n:Nat)(hn:off+n≤cs.length:=by first|decide|simp):Ns w ⟨b,off,none⟩ ((cs.drop off).take n):=⟨b,off,rfl,h.part off n hn⟩
theorem Sts.rp{α:Type}{f:α→List Value}{m:Nat}{w:World}{b:O0}{c k:Nat}{l:List α}(h:Sts f w (.slice b l.length c) l)(hm:∀ x,(f x).length=m)(dflt:α)(hk:k<l.length)(hm0:0<m):Ns w (Xa b (k*m)) (f (l.getD k dflt)):=by
 obtain⟨g,og,rfl⟩:=h.at hm hm0 M0
 refine⟨g,og+k*m,by simp[Xa,Addr.add_mid],fun j v hj=>?_⟩
 have:=(h.cell hm dflt hk hj).2
 simpa [Xa,Addr.add_mid] using this
theorem Ns.below{w V:World}{p:Addr}{cs:List Value}(h:Ns w p cs)(hb:B3 w V):Ns V p cs:=by
 obtain⟨b,a0,e,h⟩:=h
 exact⟨b,a0,e,fun j v hj=>Zhb hb (h j v hj)⟩
noncomputable section
variable (P:Program) (s:Zs)
def Nj:Bool:=match s.c with
 | .tak sf _ _ _ _=>match sf with
  | .z=>true
  | .t _ _=>false
  | .f _ _=>false
 | .any _ _ _ _=>false
 | _=>true
def Hg:Bool:=match s.c with
 | .ops _ _=>true
 | _=>false
def zsf:Option SF:=match s.c with
 | .one sf _ _ _ _=>some sf
 | _=>none
def ztsf:Option SF:=match s.c with
 | .tak sf _ _ _ _=>some sf
 | _=>none
def zld:O0:=match zop s with
 | some o=>match o.op with
  | .load t x=>match aggB P t with
   | some b=>Bool.rec (motive:=fun _=>O0) (match zev s.n s.kv x with
    | .pointer (some p)=>some p
    | _=>none) none b
   | none=>none
  | _=>none
 | none=>none
def zldv(n:Nat):O0:=match zop s with
 | some o=>match o.op with
  | .load t x=>match zrow P t&&zsz P t n with
   | true=>match zev s.n s.kv x with
    | .pointer (some p)=>some p
    | _=>none
   | false=>none
  | _=>none
 | none=>none
def zldb(n:Nat):Option (Nat×Nat):=match zld P s with
 | some ⟨b,off,sp⟩=>match sp with
  | none=>Bool.rec (motive:=fun _=>Option (Nat×Nat)) none (some (b,off)) (Nat.blt off n)
  | some _=>none
 | none=>none
def zst:Option (Addr×Value):=match zop s with
 | some o=>match o.op with
  | .store t x y=>match zsz P t 1 with
   | true=>match zev s.n s.kv x with
    | .pointer (some p)=>match (zev s.n s.kv y).oneCell' with
     | true=>some (p,zev s.n s.kv y)
     | false=>none
    | _=>none
   | false=>none
  | _=>none
 | none=>none
def zstc(cs:List Value):Option (Nat×List Value):=match zst P s with
 | some (⟨b,off,sp⟩,v)=>match sp with
  | none=>Bool.rec (motive:=fun _=>Option (Nat×List Value)) none (some (b,cs.set off v)) (Nat.blt off cs.length)
  | some _=>none
 | none=>none
def zstv:Option (Addr×List Value):=match zop s with
 | some o=>match o.op with
  | .store t x y=>match zev s.n s.kv y with
   | .agg vs=>match zsz P t vs.size with
    | true=>match zev s.n s.kv x with
     | .pointer (some p)=>some (p,vs.toList)
     | _=>none
    | false=>none
   | _=>none
  | _=>none
 | none=>none
def zstvc(cs:List Value):Option (Nat×List Value):=match zstv P s with
 | some (⟨b,off,sp⟩,vs)=>match sp with
  | none=>match vs.all (·.oneCell')&&Nat.ble (off+vs.length) cs.length with
   | true=>some (b,cs.take off++vs++cs.drop (off+vs.length))
   | false=>none
  | some _=>none
 | none=>none
def zal:Option (TypeId×List Value):=match zop s with
 | some o=>match o.op with
  | .alloc t=>match Zhz P t with
   | some cs=>some (t,cs)
   | none=>none
  | .box t x=>some (t,(zev s.n s.kv x).cells.toList)
  | _=>none
 | none=>none
def zbs:Option (Nat×TypeId×List Value):=match zop s with
 | some o=>match o.op with
  | .buildSlice t n parts=>match built P t n (parts.toList.map fun p=>(p.1,zev s.n s.kv p.2)) with
   | some (e,cs)=>some (n,e,cs)
   | none=>none
  | _=>none
 | none=>none
def zb0:Option TypeId:=match zop s with
 | some o=>match o.op with
  | .buildSlice t m parts=>match P.underlying t with
   | some (.slice e)=>match Nat.beq m 0&&parts.toList.isEmpty&&(P.info? e).isSome with
    | true=>some e
    | false=>none
   | _=>none
  | _=>none
 | none=>none
def zcl:Option (FuncId×List Value):=match zop s with
 | some o=>match o.op with
  | .call c=>match c.callee with
   | .value x=>match zev s.n s.kv x with
    | .func (.func f) fi lb=>match fi.toList with
     | []=>some (f,c.args.toList.map (zev s.n s.kv)++lb.toList)
     | _=>none
    | _=>none
   | _=>none
  | _=>none
 | none=>none
def zpv:Option Value:=match zop s with
 | some o=>match Gs P (execOp (zev s.n s.kv) o) with
  | some (.value v)=>some v
  | _=>none
 | none=>none
def zix:Option (O0×Nat×Int×Nat):=match zop s with
 | some o=>match o.op with
  | .indexAddr t x y=>match P.underlying t with
   | some (.slice e)=>match P.info? e with
    | some i=>match zev s.n s.kv x with
     | .slice a n _=>match zev s.n s.kv y with
      | .int _ j=>some (a,n,j,i.size)
      | _=>none
     | _=>none
    | none=>none
   | _=>none
  | _=>none
 | none=>none
def zcd:Option Value:=match s.c with
 | .code c=>match c with
  | .cond x _ _=>some (zev s.n s.kv x)
  | _=>none
 | _=>none
def zth (t:Bool):Zs:=match s with
 | ⟨n,ks,c,kv⟩=>match c with
  | .code c=>match c with
   | .cond x a b=>⟨n,ks,.code (Bool.rec (motive:=fun _=>Code) b a t),kv⟩
   | c=>⟨n,ks,.code c,kv⟩
  | c=>⟨n,ks,c,kv⟩
def zset(is:List Nat)(t:Bool):Zs:=match s with
 | ⟨n,ks,c,kv⟩=>⟨n,ks,c,is.map (fun i=>(i,Value.bool t))++kv⟩
def zrl (n:Nat)(kv:List (Nat×Value))(l:List ResultVar):Option (List Value):=List.rec (motive:=fun _=>Option (List Value)) (some []) (fun r _ ih=>match r with
 | .tmp t=>match ih with
  | some vs=>some (zget n kv t::vs)
  | none=>none
 | .cell _ _=>none) l
def zvs (vs:List Value):Value:=match vs with
 | [v]=>v
 | vs=>.tuple vs.toArray
def zfin:Bool:=match s.ks with
 | []=>match s.c with
  | .ex e=>match e with
   | .normal=>true
   | .ret=>true
   | _=>false
  | _=>false
 | _=>false
def zres(fn:Func):Option Value:=match zfin s with
 | true=>match zrl s.n s.kv fn.results.toList with
  | some vs=>some (zvs vs)
  | none=>none
 | false=>none
def zrlc(n:Nat)(kv:List (Nat×Value))(cs:List Value)(l:List ResultVar):Option (Option Nat×List Value):=List.rec (motive:=fun _=>Option (Option Nat×List Value)) (some (none,[])) (fun r _ ih=>match r with
 | .tmp t=>match ih with
  | some (o,vs)=>some (o,zget n kv t::vs)
  | none=>none
 | .cell k t=>match zget n kv k with
  | .pointer (some ⟨b,off,sp⟩)=>match sp with
   | none=>match Nat.beq off 0&&(zrow P t&&zsz P t cs.length) with
    | true=>match ih with
     | some (o,vs)=>match o with
      | none=>some (some b,.agg cs.toArray::vs)
      | some _=>none
     | none=>none
    | false=>none
   | some _=>none
  | _=>none) l
def zresc(fn:Func)(cs:List Value):Option (Nat×Value):=match zfin s with
 | true=>match zrlc P s.n s.kv cs fn.results.toList with
  | some (o,vs)=>match o with
   | some b=>some (b,zvs vs)
   | none=>none
  | none=>none
 | false=>none
def zisl:Bool:=match s.c with
 | .code c=>match c with
  | .loop _=>true
  | _=>false
 | _=>false
def zlp (n:Nat)(J:Act→World→Prop)(kv:List (Nat×Value)):Zs:=match s with
 | ⟨_,ks,c,_⟩=>match c with
  | .code c=>match c with
   | .loop b=>⟨n,.jn J::ks,.code b,kv⟩
   | _=>⟨n,ks,.code c,kv⟩
  | c=>⟨n,ks,c,kv⟩
def zend:Option (Act→World→Prop):=match s.c with
 | .ex e=>match e with
  | .normal=>match s.ks with
   | .jn J::_=>some J
   | _=>none
  | _=>none
 | _=>none
def zun (m:Nat):Zs:=match s with
 | ⟨n,ks,c,kv⟩=>match c with
  | .code c=>match c with
   | .loop b=>⟨n,.rnd b m::ks,.code b,kv⟩
   | c=>⟨n,ks,.code c,kv⟩
  | c=>⟨n,ks,c,kv⟩
def zdr (sf:SF):Zs:=match s with
 | ⟨n,ks,c,kv⟩=>match c with
  | .code c=>match c with
   | .region _ ops _=>⟨n,ks,.any sf ops.toList ops.toList.length [],kv⟩
   | c=>⟨n,ks,.code c,kv⟩
  | c=>⟨n,ks,c,kv⟩
def zisd:Bool:=match s.c with
 | .code c=>match c with
  | .region _ ops d=>d&&Region.noSelect ops.toList.toArray
  | _=>false
 | _=>false
end
section
variable {P:Program} {fn:Func} {R:Ending→World→Prop} {w:World} {s:Zs}
theorem zin{f:FuncId}{args:Array Value}(n:Nat)(hf:P.funcs[f]? = some fn)(h:Go P fn R ⟨n,[],.code (zbody fn),Zjz 0 args.toList⟩ w)(hb:fn.body.isSome=true:=by kernel_rfl)(hn:args.size+(fn.ntmps-args.size)=n:=by kernel_rfl):Calls P f args w R:=by
 obtain⟨c,hc⟩:=Option.isSome_iff_exists.1 hb
 refine calls_of_wp hf hc ?_
 rw[Zjf,hn]
 have e:zbody fn=c:=by unfold zbody;rw[hc]
 rw[←e]
 exact h
theorem Qk{α:Type}{F:Oper→Option α}{a:α}(h:(match zop s with|some o=>F o|none=>none)=some a):∃ o,zop s=some o∧F o=some a:=by
 split at h
 ·exact⟨_,by assumption,h⟩
 ·cases h
theorem Gf{V:World}(h:Nj s=true)(hv:V=w∨Aq s=false∧Zfo s w V):B3 w V:=by
 rcases hv with rfl|⟨he,hr⟩
 ·exact Below.refl _ _
 ·obtain⟨n,ks,c,kv⟩:=s
  cases c with
  | tak sf all f done i =>
   cases sf with
   | z=>exact hr
   | t B T=>cases h
   | f B S=>cases h
  | _=>cases he
theorem Tv{V:World}{sf:SF}(h:ztsf s=some sf)(hv:V=w∨Aq s=false∧Zfo s w V):sf.rel w V:=by
 rcases hv with rfl|⟨he,hr⟩
 ·exact SF.refl _ _
 ·obtain⟨n,ks,c,kv⟩:=s
  cases c with
  | tak sf' all f done i =>
   obtain rfl:sf'=sf:=by simpa [ztsf] using h
   exact hr
  | _=>cases h
theorem Zjs{p:Addr}(h:zld P s=some p):∃ o,zop s=some o∧∀ V v,V.cell? p=some v→(execOp (zact s.n s.kv).eval o).run P V=.ok (.value v) V:=by
 obtain⟨o,ho,h⟩:=Qk h
 refine⟨o,ho,fun V v hv=>?_⟩
 split at h
 ·rename_i t x a0
  split at h
  ·rename_i b hb
   cases b with
   | true=>cases h
   | false =>
    dsimp only at h
    split at h
    ·rename_i p' hp
     simp only[A0] at h
     subst h
     simp only[execOp,a0,Zy,hp,B8,Iu hb hv]
     rfl
    ·cases h
  ·cases h
 ·cases h
theorem xl(q:Zq){p:Addr}{v:Value}(hc:w.cell? p=some v)(k:Go P fn R (znx (zq P q s) v) w)(h:zld P (zq P q s)=some p:=by kernel_rfl)(hz:Nj (zq P q s)=true:=by kernel_rfl):Go P fn R s w:=by
 obtain⟨o,ho,hr⟩:=Zjs h
 exact Zx q s (Zas ho (fun V hV=>hr V v (Zhb (Gf hz hV) hc)) k)
theorem xlt(q:Zq){p:Addr}{v:Value}(sf:SF)(hc:∀ V,sf.rel w V→V.cell? p=some v)(k:Go P fn R (znx (zq P q s) v) w)(h:zld P (zq P q s)=some p:=by kernel_rfl)(hz:ztsf (zq P q s)=some sf:=by kernel_rfl):Go P fn R s w:=by
 obtain⟨o,ho,hr⟩:=Zjs h
 exact Zx q s (Zas ho (fun V hV=>hr V v (hc V (Tv hz hV))) k)
theorem pk_get(cs:List Value)(i:Nat)(h:i<cs.length):cs[i]? = some (pk cs i):=by
 induction cs generalizing i with
 | nil=>simp at h
 | cons x r ih =>
  cases i with
  | zero=>rfl
  | succ j=>exact ih j (by simpa using h)
theorem Dz{b i:Nat}{cs:List Value}{t:TypeId}{V:World}(h:zldb P s cs.length=some (b,i))(kb:Blk V b cs t):zld P s=some ⟨b,i,none⟩∧V.cell? ⟨b,i,none⟩=some (pk cs i):=by
 unfold zldb at h
 split at h
 ·rename_i b' a0 sp hp
  cases sp with
  | some _=>cases h
  | none =>
   dsimp only at h
   rw[Tj] at h
   by_cases ho:a0<cs.length
   ·simp only[ho,decide_true,A0,C8] at h
    obtain⟨rfl,rfl⟩:=h
    exact⟨hp,kb.cell (pk_get cs _ ho)⟩
   ·simp[ho] at h
 ·cases h
theorem xb(q:Zq)(i:Nat){b:Nat}{cs:List Value}{t:TypeId}(kb:Blk w b cs t)(k:Go P fn R (znx (zq P q s) (pk cs i)) w)(h:zldb P (zq P q s) cs.length=some (b,i):=by kernel_rfl)(hz:Nj (zq P q s)=true:=by kernel_rfl):Go P fn R s w:=by
 obtain⟨hp,hc⟩:=Dz h kb
 exact xl q hc k hp hz
theorem xbt(q:Zq)(i:Nat){b:Nat}{cs:List Value}{t:TypeId}(B:Nat)(T:List TypeId)(kb:Blk w b cs t)(k:Go P fn R (znx (zq P q s) (pk cs i)) w)(h:zldb P (zq P q s) cs.length=some (b,i):=by kernel_rfl)(hz:ztsf (zq P q s)=some (.t B T):=by kernel_rfl)(hT:T.contains t=false:=by decide):Go P fn R s w:=by
 obtain⟨hp,_⟩:=Dz h kb
 exact xlt q (.t B T) (fun V hV=>(Dz h (kb.only hV.2 hT)).2) k hp hz
theorem Zdo{p:Addr}{n:Nat}(h:zldv P s n=some p):∃ o,zop s=some o∧∀ V cs,cs.length=n→Ns V p cs→(execOp (zact s.n s.kv).eval o).run P V=.ok (.value (.agg cs.toArray)) V:=by
 obtain⟨o,ho,h⟩:=Qk h
 refine⟨o,ho,fun V cs hn hv=>?_⟩
 subst hn
 split at h
 ·rename_i t x a0
  split at h
  ·rename_i hb
   simp only[D3] at hb
   split at h
   ·rename_i p' hp
    simp only[A0] at h
    subst h
    obtain⟨b,a1,rfl,hv⟩:=hv
    have hu:=hb.1
    unfold zrow at hu
    split at hu
    ·rename_i d hd
     simp only[execOp,a0,Zy,hp,Instr.loadAt,Instr.sureAddr,B8,Ge,C9,run_loadVar_mid V b a1 t cs d hv hd hu (Zdy hb.2)]
    ·cases hu
   ·cases h
  ·cases h
 ·cases h
theorem xlv(q:Zq){p:Addr}{cs:List Value}(hc:Ns w p cs)(k:Go P fn R (znx (zq P q s) (.agg cs.toArray)) w)(h:zldv P (zq P q s) cs.length=some p:=by kernel_rfl)(hz:Nj (zq P q s)=true:=by kernel_rfl):Go P fn R s w:=by
 obtain⟨o,ho,hr⟩:=Zdo h
 exact Zx q s (Zas ho (fun V hV=>hr V cs rfl (hc.below (Gf hz hV))) k)
theorem xlvt(q:Zq){p:Addr}{cs:List Value}(sf:SF)(hc:∀ V,sf.rel w V→Ns V p cs)(k:Go P fn R (znx (zq P q s) (.agg cs.toArray)) w)(h:zldv P (zq P q s) cs.length=some p:=by kernel_rfl)(hz:ztsf (zq P q s)=some sf:=by kernel_rfl):Go P fn R s w:=by
 obtain⟨o,ho,hr⟩:=Zdo h
 exact Zx q s (Zas ho (fun V hV=>hr V cs rfl (hc V (Tv hz hV))) k)
theorem Kb{s:Zs}{w W:World}(h:Hg s=true):Zfo s w W:=by
 obtain⟨n,ks,c,kv⟩:=s
 cases c<;>first|trivial|cases h
theorem Vz{s:Zs}(h:Hg s=true):Aq s=true:=by
 obtain⟨n,ks,c,kv⟩:=s
 cases c<;>first|rfl|cases h
theorem Fl{s:Zs}{sf:SF}{w W:World}(h:zsf s=some sf)(hr:sf.rel w W):Zfo s w W:=by
 obtain⟨n,ks,c,kv⟩:=s
 cases c with
 | one sf' _ _ _ _ =>
  obtain rfl:sf'=sf:=by simpa [zsf] using h
  exact hr
 | _=>cases h
theorem Dt{s:Zs}{sf:SF}(h:zsf s=some sf):Aq s=true:=by
 obtain⟨n,ks,c,kv⟩:=s
 cases c<;>first|rfl|cases h
theorem Zkm{b off:Nat}{v:Value}{cs:List Value}{t:TypeId}(h:zst P s=some (⟨b,off,none⟩,v))(kb:Blk w b cs t)(hoff:off<cs.length)(he:Aq s=true)(k:∀ W,Upd w b W→Blk W b (cs.set off v) t→Zfo s w W∧Go P fn R (znx s undef) W):Go P fn R s w:=by
 obtain⟨o,ho,h⟩:=Qk h
 refine zgo ho he fun K hK=>?_
 split at h
 ·rename_i t x y a0
  split at h
  ·rename_i hs
   split at h
   ·rename_i p hp
    split at h
    ·rename_i h1
     simp only[A0,C8] at h
     obtain⟨rfl,rfl⟩:=h
     exact Wo a0 (by rw[Zy];exact hp) (by rw[Zy]) (Zdy hs) h1 kb hoff fun W u kW=>hK _ _ (k W u kW).1 (k W u kW).2
    ·cases h
   ·cases h
  ·cases h
 ·cases h
theorem Zki{b:Nat}{cs cs':List Value}{t:TypeId}(h:zstc P s cs=some (b,cs'))(kb:Blk w b cs t)(he:Aq s=true)(k:∀ W,Upd w b W→Blk W b cs' t→Zfo s w W∧Go P fn R (znx s undef) W):Go P fn R s w:=by
 unfold zstc at h
 split at h
 ·rename_i b' a0 sp v hp
  cases sp with
  | some _=>cases h
  | none =>
   dsimp only at h
   rw[Tj] at h
   by_cases ho:a0<cs.length
   ·simp only[ho,decide_true,A0,C8] at h
    obtain⟨rfl,rfl⟩:=h
    exact Zkm hp kb ho he k
   ·simp[ho] at h
 ·cases h
theorem xs(q:Zq){b:Nat}{cs:List Value}{t:TypeId}(kb:Blk w b cs t)(cs':List Value)(k:∀ W,Upd w b W→Blk W b cs' t→Go P fn R (znx (zq P q s) undef) W)(h:zstc P (zq P q s) cs=some (b,cs'):=by kernel_rfl)(hz:Hg (zq P q s)=true:=by kernel_rfl):Go P fn R s w :=
 Zx q s (Zki h kb (Vz hz) fun W u kW=>⟨Kb hz,k W u kW⟩)
theorem ys(q:Zq){b:Nat}{cs:List Value}{t:TypeId}(kb:Blk w b cs t)(cs':List Value)(sf:SF)(k:∀ W,Upd w b W→Blk W b cs' t→sf.rel w W∧Go P fn R (znx (zq P q s) undef) W)(h:zstc P (zq P q s) cs=some (b,cs'):=by kernel_rfl)(hz:zsf (zq P q s)=some sf:=by kernel_rfl):Go P fn R s w :=
 Zx q s (Zki h kb (Dt hz) fun W u kW=>⟨Fl hz (k W u kW).1,(k W u kW).2⟩)
theorem xsg(q:Zq){b:Nat}{cs:List Value}{t:TypeId}(kb:Blk w b cs t)(off:Nat)(v:Value)(hoff:off<cs.length)(k:∀ W,Upd w b W→Blk W b (cs.set off v) t→Go P fn R (znx (zq P q s) undef) W)(h:zst P (zq P q s)=some (⟨b,off,none⟩,v):=by kernel_rfl)(hz:Hg (zq P q s)=true:=by kernel_rfl):Go P fn R s w :=
 Zx q s (Zkm h kb hoff (Vz hz) fun W u kW=>⟨Kb hz,k W u kW⟩)
theorem ysg(q:Zq){b:Nat}{cs:List Value}{t:TypeId}(kb:Blk w b cs t)(off:Nat)(v:Value)(hoff:off<cs.length)(sf:SF)(k:∀ W,Upd w b W→Blk W b (cs.set off v) t→sf.rel w W∧Go P fn R (znx (zq P q s) undef) W)(h:zst P (zq P q s)=some (⟨b,off,none⟩,v):=by kernel_rfl)(hz:zsf (zq P q s)=some sf:=by kernel_rfl):Go P fn R s w :=
 Zx q s (Zkm h kb hoff (Dt hz) fun W u kW=>⟨Fl hz (k W u kW).1,(k W u kW).2⟩)
theorem Zhs{b off:Nat}{vs cs:List Value}{t:TypeId}(h:zstv P s=some (⟨b,off,none⟩,vs))(h1:∀ v∈vs,v.oneCell'=true)(kb:Blk w b cs t)(hoff:off+vs.length≤cs.length)(he:Aq s=true)(k:∀ W,Upd w b W→Blk W b (cs.take off++vs++cs.drop (off+vs.length)) t→Zfo s w W∧Go P fn R (znx s undef) W):Go P fn R s w:=by
 obtain⟨o,ho,h⟩:=Qk h
 refine zgo ho he fun K hK=>?_
 split at h
 ·rename_i t x y a0
  split at h
  ·rename_i a1 hv
   split at h
   ·rename_i hs
    split at h
    ·rename_i p hp
     simp only[A0,C8] at h
     obtain⟨rfl,rfl⟩:=h
     exact Ib _ a0 (by rw[Zy];exact hp) (by rw[Zy];exact hv) (by rw[Zdy hs];simp) h1 kb hoff fun W u kW=>hK _ _ (k W u kW).1 (k W u kW).2
    ·cases h
   ·cases h
  ·cases h
 ·cases h
theorem Zcu{b:Nat}{cs cs':List Value}{t:TypeId}(h:zstvc P s cs=some (b,cs'))(kb:Blk w b cs t)(he:Aq s=true)(k:∀ W,Upd w b W→Blk W b cs' t→Zfo s w W∧Go P fn R (znx s undef) W):Go P fn R s w:=by
 unfold zstvc at h
 split at h
 ·rename_i b' a0 sp vs hp
  cases sp with
  | some _=>cases h
  | none =>
   dsimp only at h
   split at h
   ·rename_i hc
    simp only[D3,If] at hc
    simp only[A0,C8] at h
    obtain⟨rfl,rfl⟩:=h
    exact Zhs hp hc.1 kb (Nat.le_of_ble_eq_true hc.2) he k
   ·cases h
 ·cases h
theorem xsv(q:Zq){b:Nat}{cs:List Value}{t:TypeId}(kb:Blk w b cs t)(cs':List Value)(k:∀ W,Upd w b W→Blk W b cs' t→Go P fn R (znx (zq P q s) undef) W)(h:zstvc P (zq P q s) cs=some (b,cs'):=by kernel_rfl)(hz:Hg (zq P q s)=true:=by kernel_rfl):Go P fn R s w :=
 Zx q s (Zcu h kb (Vz hz) fun W u kW=>⟨Kb hz,k W u kW⟩)
theorem ysv(q:Zq){b:Nat}{cs:List Value}{t:TypeId}(kb:Blk w b cs t)(cs':List Value)(sf:SF)(k:∀ W,Upd w b W→Blk W b cs' t→sf.rel w W∧Go P fn R (znx (zq P q s) undef) W)(h:zstvc P (zq P q s) cs=some (b,cs'):=by kernel_rfl)(hz:zsf (zq P q s)=some sf:=by kernel_rfl):Go P fn R s w :=
 Zx q s (Zcu h kb (Dt hz) fun W u kW=>⟨Fl hz (k W u kW).1,(k W u kW).2⟩)
theorem xsvg(q:Zq){b:Nat}{cs:List Value}{t:TypeId}(kb:Blk w b cs t)(off:Nat)(vs:List Value)(h1:∀ v∈vs,v.oneCell'=true)(hoff:off+vs.length≤cs.length)(k:∀ W,Upd w b W→Blk W b (cs.take off++vs++cs.drop (off+vs.length)) t→Go P fn R (znx (zq P q s) undef) W)(h:zstv P (zq P q s)=some (⟨b,off,none⟩,vs):=by kernel_rfl)(hz:Hg (zq P q s)=true:=by kernel_rfl):Go P fn R s w :=
 Zx q s (Zhs h h1 kb hoff (Vz hz) fun W u kW=>⟨Kb hz,k W u kW⟩)
theorem xa(q:Zq)(cs:List Value)(t:TypeId)(k:∀ b W,New w b cs t W→Go P fn R (znx (zq P q s) (P0 b)) W)(h:zal P (zq P q s)=some (t,cs):=by kernel_rfl)(hz:Aq (zq P q s)=true:=by kernel_rfl):Go P fn R s w:=by
 obtain⟨o,ho,h⟩:=Qk h
 refine Zx q s (zgo ho hz fun K hK=>?_)
 split at h
 ·rename_i t' a0
  split at h
  ·rename_i a1 hc
   simp only[A0,C8] at h
   obtain⟨rfl,rfl⟩:=h
   exact Cb _ a0 hc fun b W n=>hK _ _ (Je _ n.below) (k b W n)
  ·cases h
 ·rename_i t' x a0
  simp only[A0,C8] at h
  obtain⟨rfl,rfl⟩:=h
  exact op_box _ a0 (by rw[Zy,J0]) fun b W n=>hK _ _ (Je _ n.below) (k b W n)
 ·cases h
theorem xbs(q:Zq)(m:Nat)(cs:List Value)(t:TypeId)(k:∀ b W,New w b cs t W→Go P fn R (znx (zq P q s) (.slice (S1 b) m m)) W)(h:zbs P (zq P q s)=some (m,t,cs):=by kernel_rfl)(hz:Aq (zq P q s)=true:=by kernel_rfl):Go P fn R s w:=by
 obtain⟨o,ho,h⟩:=Qk h
 refine Zx q s (zgo ho hz fun K hK=>?_)
 split at h
 ·rename_i t' m' a0 a1
  split at h
  ·rename_i e a2 hc
   simp only[A0,C8] at h
   obtain⟨rfl,rfl,rfl⟩:=h
   exact Qz _ _ a1 (by rw[Zy];exact hc) fun b W n=>hK _ _ (Je _ n.below) (k b W n)
  ·cases h
 ·cases h
theorem xb0(q:Zq)(e:TypeId)(k:∀ b W,New w b [] e W→Go P fn R (znx (zq P q s) (.slice (S1 b) 0 0)) W)(h:zb0 P (zq P q s)=some e:=by kernel_rfl)(hz:Aq (zq P q s)=true:=by kernel_rfl):Go P fn R s w:=by
 obtain⟨o,ho,h⟩:=Qk h
 refine Zx q s (zgo ho hz fun K hK=>?_)
 split at h
 ·rename_i t m a0 a1
  split at h
  ·rename_i e' hu
   split at h
   ·rename_i hc
    simp only[A0] at h
    subst h
    simp only[D3,List.isEmpty_iff] at hc
    obtain⟨⟨h1,h2⟩,h3⟩:=hc
    obtain rfl:m=0:=H2 h1
    obtain rfl:a0=#[]:=by apply Array.ext';simpa using h2
    exact Fq a1 hu h3 fun b W n=>hK _ _ (Je _ n.below) (k b W n)
   ·cases h
  ·cases h
 ·cases h
@[reducible] def zret (P:Program) (fn:Func) (R:Ending→World→Prop) (s:Zs) (e:Ending) (W:World):Prop:=match e with
 | .returned v=>Go P fn R (znx s v) W
 | _=>False
@[reducible] def zretd (P:Program) (fn:Func) (R:Ending→World→Prop) (s:Zs) (sf:SF) (w:World) (e:Ending) (W:World):Prop:=match e with
 | .returned v=>sf.rel w W∧Go P fn R (znx s v) W
 | _=>False
theorem Zla{f:FuncId}{args:Array Value}{post:Ending→World→Prop}(h:zcl s=some (f,args.toList))(he:Aq s=true)(hf:∀ xs w,(callFunc f xs).run P w=.ok (.enter f xs) w)(hc:Calls P f args w post)(k:∀ e W,post e W→∃ v,e=.returned v∧Zfo s w W∧Go P fn R (znx s v) W):Go P fn R s w:=by
 obtain⟨o,ho,h⟩:=Qk h
 refine zgo ho he fun K hK=>?_
 split at h
 ·rename_i c a4
  split at h
  ·rename_i x a0
   split at h
   ·rename_i f' fi lb hx
    split at h
    ·rename_i a5
     simp only[A0,C8] at h
     obtain⟨rfl,ha⟩:=h
     obtain⟨a2,a3,a6⟩:=c
     dsimp only at a0 ha
     subst a0
     have a1:fi=#[]:=by apply Array.ext';simpa using a5
     subst a1
     refine Hq (lb:=lb) f' args a4 (by rw[Zy];exact hx) hf ?_ (hc.mono fun e W hp=>?_)
     ·apply Array.ext'
      rw[←ha,Zy]
      simp
     ·obtain⟨v,rfl,hr,hg⟩:=k e W hp
      exact⟨v,rfl,hK _ _ hr hg⟩
    ·cases h
   ·cases h
  ·cases h
 ·cases h
theorem xc(q:Zq){f:FuncId}{args:Array Value}{post:Ending→World→Prop}(hc:Calls P f args w post)(k:∀ e W,post e W→zret P fn R (zq P q s) e W)(h:zcl (zq P q s)=some (f,args.toList):=by kernel_rfl)(hz:Hg (zq P q s)=true:=by kernel_rfl)(hf:∀ xs w,(callFunc f xs).run P w=.ok (.enter f xs) w:=by intro _ _;kernel_rfl):Go P fn R s w :=
 Zx q s (Zla h (Vz hz) hf hc fun e W hp=>by
  have:=k e W hp
  cases e with
  | returned v=>exact⟨v,rfl,Kb hz,this⟩
  | _=>exact this.elim)
theorem yc(q:Zq){f:FuncId}{args:Array Value}{post:Ending→World→Prop}(sf:SF)(hc:Calls P f args w post)(k:∀ e W,post e W→zretd P fn R (zq P q s) sf w e W)(h:zcl (zq P q s)=some (f,args.toList):=by kernel_rfl)(hz:zsf (zq P q s)=some sf:=by kernel_rfl)(hf:∀ xs w,(callFunc f xs).run P w=.ok (.enter f xs) w:=by intro _ _;kernel_rfl):Go P fn R s w :=
 Zx q s (Zla h (Dt hz) hf hc fun e W hp=>by
  have:=k e W hp
  cases e with
  | returned v=>exact⟨v,rfl,Fl hz this.1,this.2⟩
  | _=>exact this.elim)
theorem xr(q:Zq){f:FuncId}{args:Array Value}{v:Value}(hc:Calls P f args w (Ret v w))(k:∀ W,B3 w W→Go P fn R (znx (zq P q s) v) W)(h:zcl (zq P q s)=some (f,args.toList):=by kernel_rfl)(hz:Aq (zq P q s)=true:=by kernel_rfl)(hf:∀ xs w,(callFunc f xs).run P w=.ok (.enter f xs) w:=by intro _ _;kernel_rfl):Go P fn R s w :=
 Zx q s (Zla h hz hf hc fun e W hp=>⟨v,hp.1,Je _ hp.2,k W hp.2⟩)
theorem xq(q:Zq){v v':Value}(e:v'=v)(k:Go P fn R (znx (zq P q s) v) w)(h:zpv P (zq P q s)=some v':=by kernel_rfl):Go P fn R s w:=by
 obtain⟨o,ho,h⟩:=Qk h
 refine Zx q s (Zas ho (fun V _=>?_) k)
 split at h
 ·rename_i v2 hv
  simp only[A0] at h
  subst h e
  rw[Zy]
  exact Jt hv V
 ·cases h
theorem xw(q:Zq)(n:Int)(k:Go P fn R (znx (zq P q s) (V0 n)) w)(h:zpv P (zq P q s)=some (V0 (IntKind.i64.wrap n)):=by kernel_rfl)(hb : -9223372036854775808≤n∧n≤9223372036854775807:=by omega):Go P fn R s w :=
 xq q (congrArg V0 (IntWalk.i64_in n hb)) k h
theorem xwm(q:Zq)(n m:Int)(k:Go P fn R (znx (zq P q s) (V0 m)) w)(h:zpv P (zq P q s)=some (V0 (IntKind.i64.wrap n)):=by kernel_rfl)(hb:(-9223372036854775808≤n∧n≤9223372036854775807)∧n=m:=by omega):Go P fn R s w :=
 xq q (congrArg V0 ((IntWalk.i64_in n hb.1).trans hb.2)) k h
theorem zcd_op{t:Bool}(h:zcd s=some (.bool t))(k:Go P fn R (zth s t) w):Go P fn R s w:=by
 obtain⟨n,ks,c,kv⟩:=s
 cases c with
 | code c =>
  cases c with
  | cond x a b =>
   have hx:zev n kv x=.bool t:=by simpa [zcd] using h
   refine wp_cond (t:=t) (by rw[Zy];exact hx) ?_
   cases t<;>exact k
  | _=>cases h
 | _=>cases h
theorem xi(q:Zq)(t:Bool)(ht:t=true→Go P fn R (zth (zq P q s) true) w)(hf:t=false→Go P fn R (zth (zq P q s) false) w)(h:zcd (zq P q s)=some (.bool t):=by kernel_rfl):Go P fn R s w:=by
 refine Zx q s (zcd_op h ?_)
 cases t
 ·exact hf rfl
 ·exact ht rfl
theorem xid(q:Zq)(p:Prop)[Decidable p](ht:p→Go P fn R (zth (zq P q s) true) w)(hf:¬p→Go P fn R (zth (zq P q s) false) w)(h:zcd (zq P q s)=some (.bool (decide p)):=by kernel_rfl):Go P fn R s w :=
 xi q _ (fun e=>ht (of_decide_eq_true e)) (fun e=>hf (of_decide_eq_false e)) h
theorem xie(q:Zq)(a b:Int)(ht:a=b→Go P fn R (zth (zq P q s) true) w)(hf:a≠b→Go P fn R (zth (zq P q s) false) w)(h:zcd (zq P q s)=some (.bool (a==b)):=by kernel_rfl):Go P fn R s w :=
 xi q _ (fun e=>ht (eq_of_beq e)) (fun e=>hf (Ey e)) h
theorem xin(q:Zq)(a b:Int)(ht:a≠b→Go P fn R (zth (zq P q s) true) w)(hf:a=b→Go P fn R (zth (zq P q s) false) w)(h:zcd (zq P q s)=some (.bool (a != b)):=by kernel_rfl):Go P fn R s w :=
 xi q _ (fun e=>ht (Zj6 e)) (fun e=>hf (Ex e)) h
theorem xk(q:Zq){t u:Bool}(e:t=u)(k:Go P fn R (zth (zq P q s) u) w)(h:zcd (zq P q s)=some (.bool t):=by kernel_rfl):Go P fn R s w :=
 Zx q s (zcd_op h (e▸k))
theorem zlk_set(is:List Nat)(v:Value)(kv:List (Nat×Value))(h:is.map (zlk kv)=is.map fun _=>v)(k:Nat):zlk (is.map (fun i=>(i,v))++kv) k=zlk kv k:=by
 induction is with
 | nil=>rfl
 | cons i r ih =>
  simp only[F4,I1] at h
  rw[F4,H1,Nk]
  by_cases e:i=k
  ·subst e;rw[if_pos rfl];exact h.1.symm
  ·rw[if_neg e];exact ih h.2
theorem Zj8{is:List Nat}{t:Bool}(h:is.map (zlk s.kv)=is.map fun _=>Value.bool t)(k:Go P fn R (zset s is t) w):Go P fn R s w:=by
 obtain⟨n,ks,c,kv⟩:=s
 have e:zact n (is.map (fun i=>(i,Value.bool t))++kv)=zact n kv:=by
  unfold zact
  rw[show zlk (is.map (fun i=>(i,Value.bool t))++kv)=zlk kv from funext fun j=>zlk_set is _ kv h j]
 have k':Go P fn R ⟨n,ks,c,is.map (fun i=>(i,Value.bool t))++kv⟩ w:=k
 unfold Go at k' ⊢
 dsimp only at k' ⊢
 rw[e] at k'
 exact k'
theorem xg(q:Zq)(is:List Nat)(t:Bool)(ht:t=true→Go P fn R (zset (zq P q s) is true) w)(hf:t=false→Go P fn R (zset (zq P q s) is false) w)(h:is.map (zlk (zq P q s).kv)=is.map (fun _=>Value.bool t):=by kernel_rfl):Go P fn R s w:=by
 refine Zx q s (Zj8 h ?_)
 cases t
 ·exact hf rfl
 ·exact ht rfl
theorem xgk(q:Zq)(is:List Nat){t u:Bool}(e:t=u)(k:Go P fn R (zset (zq P q s) is u) w)(h:is.map (zlk (zq P q s).kv)=is.map (fun _=>Value.bool t):=by kernel_rfl):Go P fn R s w :=
 Zx q s (Zj8 h (e▸k))
noncomputable def zputs (i:Nat) (v:Value) (s:Zs):Zs:=match s with
 | ⟨n,ks,c,kv⟩=>⟨n,ks,c,(i,v)::kv⟩
theorem xv1(q:Zq)(i:Nat){v v':Value}(e:v'=v)(k:Go P fn R (zputs i v (zq P q s)) w)(h:zlk (zq P q s).kv i=v':=by kernel_rfl):Go P fn R s w:=by
 refine Zx q s ?_
 revert k h
 generalize zq P q s=s'
 intro k h
 obtain⟨n,ks,c,kv⟩:=s'
 have e2:zact n ((i,v)::kv)=zact n kv:=by
  unfold zact
  rw[show zlk ((i,v)::kv)=zlk kv from funext fun j=>by
   rw[Nk]
   by_cases hj:i=j
   ·subst hj;rw[if_pos rfl,←e];exact h.symm
   ·rw[if_neg hj]]
 have k':Go P fn R ⟨n,ks,c,(i,v)::kv⟩ w:=k
 unfold Go at k' ⊢
 dsimp only at k' ⊢
 rw[e2] at k'
 exact k'
def zrf (tmps:Array Value):ResultVar→Sem Value
 | .tmp t=>pure (tmps.getD t undef)
 | .cell a t=>do loadVar t (←asAddr (tmps.getD a undef))
theorem Zgx(fn:Func)(tmps:Array Value):results fn tmps=(do let vs ←fn.results.mapM (zrf tmps);pure (if h:vs.size=1 then vs[0] else .tuple vs)):=by
 unfold results
 congr 1
theorem Zld(n:Nat)(kv:List (Nat×Value))(P:Program)(w:World):∀ (l:List ResultVar) (vs:List Value),zrl n kv l=some vs→(l.mapM (zrf (zact n kv).tmps)).run P w=.ok vs w
 | [],vs,h=>by cases h;rfl
 | r::l,vs,h=>by
  cases r with
  | cell a t=>cases h
  | tmp t =>
   have h':(match zrl n kv l with|some vs=>some (zget n kv t::vs)|none=>none)=some vs:=h
   split at h'
   ·rename_i a0 hv
    simp only[A0] at h'
    subst h'
    rw[List.mapM_cons]
    simp only[zrf,B8,Ge,C9,Zld n kv P w l a0 hv,Nt]
   ·cases h'
theorem Ds{tmps:Array Value}{vs:List Value}(h:(fn.results.toList.mapM (zrf tmps)).run P w=.ok vs w):(results fn tmps).run P w=.ok (zvs vs) w:=by
 rw[Zgx]
 have e:fn.results.mapM (zrf tmps)=List.toArray <$> fn.results.toList.mapM (zrf tmps):=by
  rw[←List.mapM_toArray,J0]
 rw[e]
 simp only[B8,map_eq_pure_bind,h,C9,Ge]
 congr 1
 match vs with
 | []=>rfl
 | [v]=>rfl
 | v::u::r=>simp[zvs]
theorem Zhm{v:Value}(hf:zfin s=true)(hr:(results fn (zact s.n s.kv).tmps).run P w=.ok v w)(hR:R (.returned v) w):Go P fn R s w:=by
 obtain⟨n,ks,c,kv⟩:=s
 cases ks with
 | cons _ _=>cases hf
 | nil =>
  cases c with
  | ex e =>
   cases e with
   | normal=>exact g_end v rfl hr hR
   | ret=>exact g_ret v rfl hr hR
   | _=>cases hf
  | _=>cases hf
theorem xe(q:Zq)(v:Value)(hR:R (.returned v) w)(h:zres (zq P q s) fn=some v:=by kernel_rfl):Go P fn R s w:=by
 refine Zx q s ?_
 unfold zres at h
 split at h
 ·rename_i hf
  split at h
  ·rename_i vs hv
   simp only[A0] at h
   subst h
   exact Zhm hf (Ds (Zld _ _ _ _ _ _ hv)) hR
  ·cases h
 ·cases h
theorem Sy(n:Nat)(kv:List (Nat×Value))(w:World)(cs:List Value)(b:Nat)(t:TypeId)(kb:Blk w b cs t):∀ (l:List ResultVar) (o:Option Nat) (vs:List Value),zrlc P n kv cs l=some (o,vs)→(o=none∨o=some b)→(l.mapM (zrf (zact n kv).tmps)).run P w=.ok vs w
  | [],o,vs,h,_=>by cases h;rfl
  | r :: l, o, vs, h, ho => by
    rw[List.mapM_cons]
    cases r with
    | tmp t =>
      have h':(match zrlc P n kv cs l with|some (o,vs)=>some (o,zget n kv t::vs)|none=>none)=some (o,vs):=h
      split at h'
      · rename_i o' a0 hv
        simp only[A0,C8] at h'
        obtain⟨rfl,rfl⟩:=h'
        simp only[zrf,B8,Ge,C9,Sy n kv w cs b _ kb l _ a0 hv ho,Nt]
      · cases h'
    | cell k t' =>
      have h':(match zget n kv k with
        | .pointer (some ⟨b,a1,sp⟩)=>match sp with
          | none=>match Nat.beq a1 0&&(zrow P t'&&zsz P t' cs.length) with
            | true=>match zrlc P n kv cs l with
              | some (o,vs)=>match o with
                | none=>some (some b,.agg cs.toArray::vs)
                | some _=>none
              | none=>none
            | false=>none
          | some _=>none
        | _=>none)=some (o,vs):=h
      split at h'
      · rename_i b' a1 sp hb
        cases sp with
        | some _=>cases h'
        | none =>
          dsimp only at h'
          split at h'
          · rename_i hc
            simp only[D3] at hc
            split at h'
            · rename_i o' a0 hv
              split at h'
              · simp only[A0,C8] at h'
                obtain⟨rfl,rfl⟩:=h'
                obtain rfl:b'=b:=by simpa using ho
                obtain rfl:a1=0:=H2 hc.1
                have hu:=hc.2.1
                unfold zrow at hu
                split at hu
                · rename_i d hd
                  have hl:=run_loadVar_mid (P:=P) w b' 0 t' cs d kb.whole hd hu (Zdy hc.2.2)
                  have e:(zact n kv).tmps.getD k undef=P0 b':=by rw[Nt];exact hb
                  simp only[zrf,e,asAddr,B8,Ge,C9,hl,Sy n kv w cs b' _ kb l none a0 hv (.inl rfl)]
                · cases hu
              · cases h'
            · cases h'
          · cases h'
      · cases h'
theorem xec(q:Zq){b:Nat}{cs:List Value}{t:TypeId}(kb:Blk w b cs t)(v:Value)(hR:R (.returned v) w)(h:zresc P (zq P q s) fn cs=some (b,v):=by kernel_rfl):Go P fn R s w:=by
 refine Zx q s ?_
 unfold zresc at h
 split at h
 ·rename_i hf
  split at h
  ·rename_i o vs hv
   split at h
   ·rename_i b'
    simp only[A0,C8] at h
    obtain⟨rfl,rfl⟩:=h
    exact Zhm hf (Ds (Sy _ _ _ _ _ _ kb _ _ _ hv (.inr rfl))) hR
   ·cases h
  ·cases h
 ·cases h
theorem zlk_app(kv' kv:List (Nat×Value))(h:kv'.map (fun p=>zlk kv p.1)=kv'.map Prod.snd)(k:Nat):zlk (kv'++kv) k=zlk kv k:=by
 induction kv' with
 | nil=>rfl
 | cons p r ih =>
  obtain⟨d,v⟩:=p
  simp only[F4,I1] at h
  rw[H1,Nk]
  by_cases e:d=k
  ·subst e;rw[if_pos rfl];exact h.1.symm
  ·rw[if_neg e];exact ih h.2
theorem Zcn(n:Nat)(kv' kv:List (Nat×Value))(h:kv'.map (fun p=>zlk kv p.1)=kv'.map Prod.snd):zact n (kv'++kv)=zact n kv:=by
 unfold zact
 rw[show zlk (kv'++kv)=zlk kv from funext fun j=>zlk_app kv' kv h j]
theorem zl(q:Zq)(n:Nat)(I:Nat→List (Nat×Value)→World→Prop){m0:Nat}{kv0:List (Nat×Value)}(h0:I m0 kv0 w)
 (round:∀ m kv V,I m kv V→∀ (J:Act→World→Prop),(∀ m' kv' V',I m' kv' V'→m'<m→∀ rest,J (zact n (kv'++rest)) V')→∀ rest,Go P fn R (zlp (zq P q s) n J (kv++rest)) V)
 (hn:(zq P q s).n=n:=by kernel_rfl) (hl:zisl (zq P q s)=true:=by kernel_rfl) (hk:kv0.map (fun p=>zlk (zq P q s).kv p.1)=kv0.map Prod.snd:=by kernel_rfl):Go P fn R s w:=by
 refine Zx q s ?_
 revert hn hl hk round
 generalize zq P q s=s'
 intro round hn hl hk
 obtain⟨n',ks,c,kv⟩:=s'
 obtain rfl:n'=n:=hn
 cases c with
 | code c =>
  cases c with
  | loop b =>
   refine wp_loop_ghost (fun m a V=>∃ kv' rest,a=zact n' (kv'++rest)∧I m kv' V) m0 ⟨kv0,kv,(Zcn _ _ _ hk).symm,h0⟩ ?_
   rintro m _ V ⟨kv',rest,rfl,hI⟩
   exact round m kv' V hI _ (fun m' a1 V' a2 a3 a0=>⟨m',a3,a1,a0,rfl,a2⟩) rest
  | _=>cases hl
 | _=>cases hl
theorem ze(q:Zq){n:Nat}{J:Act→World→Prop}{kv':List (Nat×Value)}(hJ:∀ rest,J (zact n (kv'++rest)) w)(h:zend (zq P q s)=some J:=by kernel_rfl)(hn:(zq P q s).n=n:=by kernel_rfl)(hk:kv'.map (fun p=>zlk (zq P q s).kv p.1)=kv'.map Prod.snd:=by kernel_rfl):Go P fn R s w:=by
 refine Zx q s ?_
 revert h hn hk
 generalize zq P q s=s'
 intro h hn hk
 obtain⟨n',ks,c,kv⟩:=s'
 obtain rfl:n'=n:=hn
 have a0:=hJ kv
 rw[Zcn _ _ _ hk] at a0
 cases c with
 | ex e =>
  cases e with
  | normal =>
   cases ks with
   | nil=>cases h
   | cons k ks =>
    cases k with
    | jn J' =>
     obtain rfl:J'=J:=by simpa [zend] using h
     exact a0
    | _=>cases h
  | _=>cases h
 | _=>cases h
theorem xu(q:Zq)(m:Nat)(k:Go P fn R (zun (zq P q s) m) w)(hl:zisl (zq P q s)=true:=by kernel_rfl):Go P fn R s w:=by
 refine Zx q s ?_
 revert k hl
 generalize zq P q s=s'
 intro k hl
 obtain⟨n',ks,c,kv⟩:=s'
 cases c with
 | code c =>
  cases c with
  | loop b=>exact wp_loop_rounds (m+1) k
  | _=>cases hl
 | _=>cases hl
theorem xd(q:Zq)(sf:SF)(k:Go P fn R (zdr (zq P q s) sf) w.drew)(hd:zisd (zq P q s)=true:=by kernel_rfl)(hm:P.follows .mixedOrders=true:=by kernel_rfl):Go P fn R s w:=by
 refine Zx q s ?_
 revert k hd
 generalize zq P q s=s'
 intro k hd
 obtain⟨n',ks,c,kv⟩:=s'
 cases c with
 | code c =>
  cases c with
  | region id ops d =>
   have a0:(d&&Region.noSelect ops.toList.toArray)=true:=hd
   simp only[D3] at a0
   obtain⟨rfl,hs⟩:=a0
   have k':wpAnyH P .any ops.toList.toArray (KQ P fn R ks) (sf.rel w.drew) ops.toList.length (zL ops.toList.length []) (zact n' kv) w.drew:=k hs
   rw[J0,←zL_nil,K2] at k'
   exact wp_region_held_drew hm (SF.refl _ _) fun _=>k'
  | _=>cases hd
 | _=>cases hd
noncomputable def zoneOf (i:Nat) (s:Zs):Zs:=match s with
 | ⟨n,ks,c,kv⟩=>match c with
  | .any sf all f done=>match f with
   | f'+1=>⟨n,ks,.one sf all f' done i,kv⟩
   | 0=>⟨n,ks,c,kv⟩
  | c=>⟨n,ks,c,kv⟩
noncomputable def zrdy (s:Zs):Option (List Nat):=match s.c with
 | .any _ all f done=>match f with
  | _+1=>some (zready all done)
  | 0=>none
 | _=>none
theorem xm(q:Zq)(is:List Nat)(k:∀ i∈is,Go P fn R (zoneOf i (zq P q s)) w)(h:zrdy (zq P q s)=some is:=by kernel_rfl)(hn:is.isEmpty=false:=by kernel_rfl):Go P fn R s w:=by
 refine Zx q s ?_
 revert h k
 generalize zq P q s=s'
 intro k h
 obtain⟨n',ks,c,kv⟩:=s'
 cases c with
 | any sf all f done =>
  cases f with
  | zero=>cases h
  | succ f =>
   have hr:zready all done=is:=by simpa [zrdy] using h
   intro hs
   refine wpAnyH_all (rs:=is) (by rw[Wa];exact hr) (by rintro rfl;cases hn) fun j hj=>?_
   rw[Zdq]
   exact k j hj hs
 | _=>cases h
theorem xm2(q:Zq)(i j:Nat)(hi:Go P fn R (zoneOf i (zq P q s)) w)(hj:Go P fn R (zoneOf j (zq P q s)) w)(h:zrdy (zq P q s)=some [i,j]:=by kernel_rfl):Go P fn R s w :=
 xm q [i,j] (fun k hk=>by rcases E9.1 hk with rfl|hk;exact hi;obtain rfl:=E2.1 hk;exact hj) h
theorem xm3(q:Zq)(i j m:Nat)(hi:Go P fn R (zoneOf i (zq P q s)) w)(hj:Go P fn R (zoneOf j (zq P q s)) w)(hm:Go P fn R (zoneOf m (zq P q s)) w)(h:zrdy (zq P q s)=some [i,j,m]:=by kernel_rfl):Go P fn R s w :=
 xm q [i,j,m] (fun k hk=>by rcases E9.1 hk with rfl|hk;exact hi;rcases E9.1 hk with rfl|hk;exact hj;obtain rfl:=E2.1 hk;exact hm) h
end
/-! ### what is shown of the world in a drawn region -/
theorem Xb{B:Nat}{T:List TypeId}{w W:World}{b:Nat}{cs:List Value}{t:TypeId}(u:Upd w b W)(k:Blk w b cs t)(hb:B≤b)(ht:T.contains t=true):(SF.t B T).rel w W :=
 ⟨u.below (Below.refl _ _) (N0 (H5 _ _) hb),Zd.of_upd u k ht⟩
theorem Zt{B:Nat}{T:List TypeId}{w W:World}{base size n:Nat}{e:TypeId}{v:Value}{xs:List Value}(hb:Below B w W)(hg:w.grownBy W v.ownBlock)(hown:w.ownsRow base e size v n xs)(ht:T.contains e=true):(SF.t B T).rel w W :=
 ⟨hb.mono (H5 _ _),Zd.of_grown hg hown ht⟩
theorem Zd.wide{T T':List TypeId}{w W:World}(h:Zd T w W)(hs:T.all (fun t=>T'.contains t)=true:=by decide):Zd T' w W:=fun i cs t fr hk ht=>h i cs t fr hk (by
 cases hc:T.contains t with
 | false=>rfl
 | true =>
  have:=If.1 hs t (by simpa using hc)
  rw[ht] at this;cases this)
theorem Hd{B:Nat}{T T':List TypeId}{w W:World}(hb:Below B w W)(ho:Zd T w W)(hs:T.all (fun t=>T'.contains t)=true:=by decide):(SF.t B T').rel w W:=⟨hb.mono (H5 _ _),ho.wide hs⟩
theorem Vm{B:Nat}{T:List TypeId}{a w V:World}(h:Below B a w)(hV:(SF.t B T).rel w V)(hB:B≤a.heap.size):Below B a V:=by
 refine h.trans (hV.1.mono ?_)
 have:=h.size
 simp only[Nat.min_def];split<;>omega
theorem Upd.blkT{w W:World}{b b':Nat}{cs cs':List Value}{t t':TypeId}(u:Upd w b W)(k:Blk w b' cs' t')(kb:Blk w b cs t)(ht:t'≠t):Blk W b' cs' t':=u.blk k (by
 rintro rfl
 have h1:w.heap[b']? = some (.cells cs.toArray t (0,0)):=kb
 have h2:w.heap[b']? = some (.cells cs'.toArray t' (0,0)):=k
 rw[h1] at h2
 simp only[A0,Obj.cells.injEq] at h2
 exact ht h2.2.1.symm)
theorem Blk.tne{w:World}{b b':Nat}{cs cs':List Value}{t t':TypeId}(k:Blk w b cs t)(k':Blk w b' cs' t')(ht:t≠t'):b≠b':=by
 rintro rfl
 have h1:w.heap[b]? = some (.cells cs.toArray t (0,0)):=k
 have h2:w.heap[b]? = some (.cells cs'.toArray t' (0,0)):=k'
 rw[h1] at h2
 simp only[A0,Obj.cells.injEq] at h2
 exact ht h2.2.1
/-! ### operations by their kind,with laws that are told of any frame -/
inductive Zk
 | cv (src dst:TypeId) (u:Value)
 | bn (b:BinOp) (t t2:TypeId) (u v:Value)
 | ix (t:TypeId) (u v:Value)
 | sl (t:TypeId) (u:Value) (lo hi mx:Option Value)
 | bi (b:Builtin) (ts:List TypeId) (us:List Value)
 | mk (t:TypeId) (u v:Value)
 | st (t:TypeId) (u v:Value)
def oev (f:Operand→Value)(x:Option Operand):Option Value:=match x with
 | some x=>some (f x)
 | none=>none
noncomputable def zkf (n:Nat) (kv:List (Nat×Value)) (o:Oper):Option Zk:=match o.op with
 | .convert src dst x=>some (.cv src dst (zev n kv x))
 | .binOp b t x y t2=>some (.bn b t t2 (zev n kv x) (zev n kv y))
 | .indexAddr t x y=>some (.ix t (zev n kv x) (zev n kv y))
 | .slice t x lo hi mx=>some (.sl t (zev n kv x) (oev (zev n kv) lo) (oev (zev n kv) hi) (oev (zev n kv) mx))
 | .call c=>match c.callee with
  | .builtin b=>some (.bi b c.argTypes.toList (c.args.toList.map (zev n kv)))
  | _=>none
 | .makeSlice t x y=>some (.mk t (zev n kv x) (zev n kv y))
 | .store t x y=>some (.st t (zev n kv x) (zev n kv y))
 | _=>none
noncomputable def zk (s:Zs):Option Zk:=match zop s with
 | some o=>zkf s.n s.kv o
 | none=>none
def ZkOk(a:Act)(o:Oper):Zk→Prop
 | .cv src dst u=>∃ x,o.op=.convert src dst x∧a.eval x=u
 | .bn b t t2 u v=>∃ x y,o.op=.binOp b t x y t2∧a.eval x=u∧a.eval y=v
 | .ix t u v=>∃ x y,o.op=.indexAddr t x y∧a.eval x=u∧a.eval y=v
 | .sl t u lo hi mx=>∃ x l h m,o.op=.slice t x l h m∧a.eval x=u∧oev a.eval l=lo∧oev a.eval h=hi∧oev a.eval m=mx
 | .bi b ts us=>∃ xs:List Operand,o.op=.call { callee:=.builtin b,args:=xs.toArray,argTypes:=ts.toArray }∧xs.map a.eval=us
 | .mk t u v=>∃ x y,o.op=.makeSlice t x y∧a.eval x=u∧a.eval y=v
 | .st t u v=>∃ x y,o.op=.store t x y∧a.eval x=u∧a.eval y=v
theorem Wz{n:Nat}{kv:List (Nat×Value)}{o:Oper}{k:Zk}(h:zkf n kv o=some k):ZkOk (zact n kv) o k:=by
 unfold zkf at h
 split at h
 ·rename_i a0;cases h;exact⟨_,a0,by rw[Zy]⟩
 ·rename_i a0;cases h;exact⟨_,_,a0,by rw[Zy],by rw[Zy]⟩
 ·rename_i a0;cases h;exact⟨_,_,a0,by rw[Zy],by rw[Zy]⟩
 ·rename_i a0;cases h;exact⟨_,_,_,_,a0,by rw[Zy],by rw[Zy],by rw[Zy],by rw[Zy]⟩
 ·rename_i c a0
  split at h
  ·rename_i b hb
   cases h
   obtain⟨a2,a1,ts⟩:=c
   dsimp only at hb
   subst hb
   exact⟨a1.toList,a0,by rw[Zy]⟩
  ·cases h
 ·rename_i a0;cases h;exact⟨_,_,a0,by rw[Zy],by rw[Zy]⟩
 ·rename_i a0;cases h;exact⟨_,_,a0,by rw[Zy],by rw[Zy]⟩
 ·cases h
theorem Ny{f:Operand→Value}{x:Option Operand}{v:Value}(h:oev f x=some v):∃ y,x=some y∧f y=v:=by
 cases x with
 | none=>cases h
 | some y=>exact⟨y,rfl,by simpa [oev] using h⟩
theorem Cd{f:Operand→Value}{x:Option Operand}(h:oev f x=none):x=none:=by
 cases x with
 | none=>rfl
 | some y=>cases h
section
variable {P:Program} {fn:Func} {R:Ending→World→Prop} {w:World} {s:Zs}
theorem zk_val{k:Zk}{v:Value}(h:zk s=some k)(hz:Nj s=true)(hv:∀ a o,ZkOk a o k→∀ V,B3 w V→(execOp a.eval o).run P V=.ok (.value v) V)(g:Go P fn R (znx s v) w):Go P fn R s w:=by
 obtain⟨o,ho,h⟩:=Qk h
 exact Zas ho (fun V hV=>hv _ o (Wz h) V (Gf hz hV)) g
theorem zk_valt{k:Zk}{v:Value}{sf:SF}(h:zk s=some k)(hz:ztsf s=some sf)(hv:∀ a o,ZkOk a o k→∀ V,sf.rel w V→(execOp a.eval o).run P V=.ok (.value v) V)(g:Go P fn R (znx s v) w):Go P fn R s w:=by
 obtain⟨o,ho,h⟩:=Qk h
 exact Zas ho (fun V hV=>hv _ o (Wz h) V (Tv hz hV)) g
theorem Zdh{k:Zk}(h:zk s=some k)(hz:Hg s=true)(hv:∀ a o K Q,ZkOk a o k→(∀ v W,Go P fn R (znx s v) W→K (a.put o.dst v) W)→o.wp P a w K Q):Go P fn R s w:=by
 obtain⟨o,ho,h⟩:=Qk h
 exact zgo ho (Vz hz) fun K hK=>hv _ o K _ (Wz h) fun v W g=>hK v W (Kb hz) g
theorem Zhl{k:Zk}{sf:SF}(h:zk s=some k)(hz:zsf s=some sf)(hv:∀ a o K Q,ZkOk a o k→(∀ v W,sf.rel w W→Go P fn R (znx s v) W→K (a.put o.dst v) W)→o.wp P a w K Q):Go P fn R s w:=by
 obtain⟨o,ho,h⟩:=Qk h
 exact zgo ho (Dt hz) fun K hK=>hv _ o K _ (Wz h) fun v W hr g=>hK v W (Fl hz hr) g
theorem xcv(q:Zq){src dst:TypeId}{u v:Value}(hv:∀ (a:Act) (o:Oper) (x:Operand),o.op=.convert src dst x→a.eval x=u→∀ V,B3 w V→(execOp a.eval o).run P V=.ok (.value v) V)(g:Go P fn R (znx (zq P q s) v) w)(h:zk (zq P q s)=some (.cv src dst u):=by kernel_rfl)(hz:Nj (zq P q s)=true:=by kernel_rfl):Go P fn R s w :=
 Zx q s (zk_val h hz (fun a o ⟨x,h1,h2⟩ V hV=>hv a o x h1 h2 V hV) g)
theorem xcvt(q:Zq){src dst:TypeId}{u v:Value}(sf:SF)(hv:∀ (a:Act) (o:Oper) (x:Operand),o.op=.convert src dst x→a.eval x=u→∀ V,sf.rel w V→(execOp a.eval o).run P V=.ok (.value v) V)(g:Go P fn R (znx (zq P q s) v) w)(h:zk (zq P q s)=some (.cv src dst u):=by kernel_rfl)(hz:ztsf (zq P q s)=some sf:=by kernel_rfl):Go P fn R s w :=
 Zx q s (zk_valt h hz (fun a o ⟨x,h1,h2⟩ V hV=>hv a o x h1 h2 V hV) g)
theorem xcf(q:Zq){src dst:TypeId}{u:Value}(hv:∀ (a:Act) (o:Oper) (x:Operand) K Q,o.op=.convert src dst x→a.eval x=u→(∀ v W,Go P fn R (znx (zq P q s) v) W→K (a.put o.dst v) W)→o.wp P a w K Q)(h:zk (zq P q s)=some (.cv src dst u):=by kernel_rfl)(hz:Hg (zq P q s)=true:=by kernel_rfl):Go P fn R s w :=
 Zx q s (Zdh h hz fun a o K Q ⟨x,h1,h2⟩ hK=>hv a o x K Q h1 h2 hK)
theorem xbo(q:Zq){b:BinOp}{t t2:TypeId}{u1 u2 v:Value}(hv:∀ (a:Act) (o:Oper) (x y:Operand),o.op=.binOp b t x y t2→a.eval x=u1→a.eval y=u2→∀ V,B3 w V→(execOp a.eval o).run P V=.ok (.value v) V)(g:Go P fn R (znx (zq P q s) v) w)(h:zk (zq P q s)=some (.bn b t t2 u1 u2):=by kernel_rfl)(hz:Nj (zq P q s)=true:=by kernel_rfl):Go P fn R s w :=
 Zx q s (zk_val h hz (fun a o ⟨x,y,h1,h2,h3⟩ V hV=>hv a o x y h1 h2 h3 V hV) g)
theorem zk_val0{k:Zk}{v:Value}(h:zk s=some k)(hz:Aq s=true)(hv:∀ a o,ZkOk a o k→(execOp a.eval o).run P w=.ok (.value v) w)(g:Go P fn R (znx s v) w):Go P fn R s w:=by
 obtain⟨o,ho,h⟩:=Qk h
 exact Zas ho (fun V hV=>by
  rcases hV with rfl|⟨hV,_⟩
  ·exact hv _ o (Wz h)
  ·rw[hz] at hV;cases hV) g
theorem Zj5(q:Zq){src dst:TypeId}{u v:Value}(hv:∀ (a:Act) (o:Oper) (x:Operand),o.op=.convert src dst x→a.eval x=u→(execOp a.eval o).run P w=.ok (.value v) w)(g:Go P fn R (znx (zq P q s) v) w)(h:zk (zq P q s)=some (.cv src dst u):=by kernel_rfl)(hz:Aq (zq P q s)=true:=by kernel_rfl):Go P fn R s w :=
 Zx q s (zk_val0 h hz (fun a o ⟨x,h1,h2⟩=>hv a o x h1 h2) g)
theorem xia(q:Zq){t:TypeId}{u1 u2 v:Value}(hv:∀ (a:Act) (o:Oper) (x y:Operand),o.op=.indexAddr t x y→a.eval x=u1→a.eval y=u2→∀ V,(execOp a.eval o).run P V=.ok (.value v) V)(g:Go P fn R (znx (zq P q s) v) w)(h:zk (zq P q s)=some (.ix t u1 u2):=by kernel_rfl):Go P fn R s w:=by
 obtain⟨o,ho,h⟩:=Qk h
 obtain⟨x,y,h1,h2,h3⟩:=Wz h
 exact Zx q s (Zas ho (fun V _=>hv _ o x y h1 h2 h3 V) g)
theorem xx(q:Zq)(a:O0)(n k size:Nat)(ha:a.isSome=true)(g:Go P fn R (znx (zq P q s) (.pointer (some (Xa a (k*size))))) w)(h:zix P (zq P q s)=some (a,n,(k:Int),size):=by kernel_rfl)(hk:k<n:=by omega):Go P fn R s w:=by
 obtain⟨o,ho,h⟩:=Qk h
 refine Zx q s (Zas ho (fun V _=>?_) g)
 split at h
 ·rename_i t x y a0
  split at h
  ·rename_i e hu
   split at h
   ·rename_i i hi
    split at h
    ·rename_i a' n' c' hx
     split at h
     ·rename_i ki j hy
      simp only[A0,C8] at h
      obtain⟨rfl,rfl,rfl,rfl⟩:=h
      exact Sd a0 (by rw[Zy];exact hx) (by rw[Zy];exact hy) rfl hk ha hu (by rw[hi];rfl) V
     ·cases h
    ·cases h
   ·cases h
  ·cases h
 ·cases h
theorem Im(b off j:Nat):Xa (some ⟨b,off,none⟩) j=⟨b,off+j,none⟩:=by simp[Xa,Addr.add_mid]
theorem xxb(q:Zq)(b off n k size:Nat)(g:Go P fn R (znx (zq P q s) (.pointer (some ⟨b,off+k*size,none⟩))) w)(h:zix P (zq P q s)=some (some ⟨b,off,none⟩,n,(k:Int),size):=by kernel_rfl)(hk:k<n:=by omega):Go P fn R s w :=
 xx q (some ⟨b,off,none⟩) n k size rfl (by rw[Im];exact g) h hk
theorem xsL(q:Zq){t:TypeId}{u u1 v:Value}(hv:∀ (a:Act) (o:Oper) (x y:Operand),o.op=.slice t x (some y) none none→a.eval x=u→a.eval y=u1→∀ V,(execOp a.eval o).run P V=.ok (.value v) V)(g:Go P fn R (znx (zq P q s) v) w)(h:zk (zq P q s)=some (.sl t u (some u1) none none):=by kernel_rfl):Go P fn R s w:=by
 obtain⟨o,ho,h⟩:=Qk h
 obtain⟨x,l,hh,m,h1,h2,h3,h4,h5⟩:=Wz h
 obtain⟨y,rfl,hy⟩:=Ny h3
 obtain rfl:=Cd h4
 obtain rfl:=Cd h5
 exact Zx q s (Zas ho (fun V _=>hv _ o x y h1 h2 hy V) g)
theorem xsH(q:Zq){t:TypeId}{u u1 v:Value}(hv:∀ (a:Act) (o:Oper) (x y:Operand),o.op=.slice t x none (some y) none→a.eval x=u→a.eval y=u1→∀ V,(execOp a.eval o).run P V=.ok (.value v) V)(g:Go P fn R (znx (zq P q s) v) w)(h:zk (zq P q s)=some (.sl t u none (some u1) none):=by kernel_rfl):Go P fn R s w:=by
 obtain⟨o,ho,h⟩:=Qk h
 obtain⟨x,l,hh,m,h1,h2,h3,h4,h5⟩:=Wz h
 obtain⟨y,rfl,hy⟩:=Ny h4
 obtain rfl:=Cd h3
 obtain rfl:=Cd h5
 exact Zx q s (Zas ho (fun V _=>hv _ o x y h1 h2 hy V) g)
theorem xs3(q:Zq){t:TypeId}{u u1 u2 u3 v:Value}(hv:∀ (a:Act) (o:Oper) (x y z m:Operand),o.op=.slice t x (some y) (some z) (some m)→a.eval x=u→a.eval y=u1→a.eval z=u2→a.eval m=u3→∀ V,(execOp a.eval o).run P V=.ok (.value v) V)(g:Go P fn R (znx (zq P q s) v) w)(h:zk (zq P q s)=some (.sl t u (some u1) (some u2) (some u3)):=by kernel_rfl):Go P fn R s w:=by
 obtain⟨o,ho,h⟩:=Qk h
 obtain⟨x,l,hh,m,h1,h2,h3,h4,h5⟩:=Wz h
 obtain⟨y,rfl,hy⟩:=Ny h3
 obtain⟨z,rfl,hz⟩:=Ny h4
 obtain⟨m,rfl,hm⟩:=Ny h5
 exact Zx q s (Zas ho (fun V _=>hv _ o x y z m h1 h2 hy hz hm V) g)
theorem xbi(q:Zq){b:Builtin}{t1 t2:TypeId}{u1 u2:Value}(hv:∀ (a:Act) (o:Oper) (x y:Operand) K Q,o.op=.call { callee:=.builtin b,args:=#[x,y],argTypes:=#[t1,t2] }→a.eval x=u1→a.eval y=u2→(∀ v W,Go P fn R (znx (zq P q s) v) W→K (a.put o.dst v) W)→o.wp P a w K Q)(h:zk (zq P q s)=some (.bi b [t1,t2] [u1,u2]):=by kernel_rfl)(hz:Hg (zq P q s)=true:=by kernel_rfl):Go P fn R s w :=
 Zx q s (Zdh h hz fun a o K Q ⟨xs,h1,h2⟩ hK=>by
  obtain⟨x,r,rfl,hx,hr⟩:=List.map_eq_cons_iff.1 h2
  obtain⟨y,r,rfl,hy,hr⟩:=List.map_eq_cons_iff.1 hr
  obtain rfl:=List.map_eq_nil_iff.1 hr
  exact hv a o x y K Q h1 hx hy hK)
theorem ybi(q:Zq){b:Builtin}{t1 t2:TypeId}{u1 u2:Value}(sf:SF)(hv:∀ (a:Act) (o:Oper) (x y:Operand) K Q,o.op=.call { callee:=.builtin b,args:=#[x,y],argTypes:=#[t1,t2] }→a.eval x=u1→a.eval y=u2→(∀ v W,sf.rel w W→Go P fn R (znx (zq P q s) v) W→K (a.put o.dst v) W)→o.wp P a w K Q)(h:zk (zq P q s)=some (.bi b [t1,t2] [u1,u2]):=by kernel_rfl)(hz:zsf (zq P q s)=some sf:=by kernel_rfl):Go P fn R s w :=
 Zx q s (Zhl h hz fun a o K Q ⟨xs,h1,h2⟩ hK=>by
  obtain⟨x,r,rfl,hx,hr⟩:=List.map_eq_cons_iff.1 h2
  obtain⟨y,r,rfl,hy,hr⟩:=List.map_eq_cons_iff.1 hr
  obtain rfl:=List.map_eq_nil_iff.1 hr
  exact hv a o x y K Q h1 hx hy hK)
theorem xmk(q:Zq){t:TypeId}{u1 u2:Value}(hv:∀ (a:Act) (o:Oper) (x y:Operand) K Q,o.op=.makeSlice t x y→a.eval x=u1→a.eval y=u2→(∀ v W,Go P fn R (znx (zq P q s) v) W→K (a.put o.dst v) W)→o.wp P a w K Q)(h:zk (zq P q s)=some (.mk t u1 u2):=by kernel_rfl)(hz:Hg (zq P q s)=true:=by kernel_rfl):Go P fn R s w :=
 Zx q s (Zdh h hz fun a o K Q ⟨x,y,h1,h2,h3⟩ hK=>hv a o x y K Q h1 h2 h3 hK)
theorem xst(q:Zq){t:TypeId}{u1 u2:Value}(hv:∀ (a:Act) (o:Oper) (x y:Operand) K Q,o.op=.store t x y→a.eval x=u1→a.eval y=u2→(∀ v W,Go P fn R (znx (zq P q s) v) W→K (a.put o.dst v) W)→o.wp P a w K Q)(h:zk (zq P q s)=some (.st t u1 u2):=by kernel_rfl)(hz:Hg (zq P q s)=true:=by kernel_rfl):Go P fn R s w :=
 Zx q s (Zdh h hz fun a o K Q ⟨x,y,h1,h2,h3⟩ hK=>hv a o x y K Q h1 h2 h3 hK)
theorem yst(q:Zq){t:TypeId}{u1 u2:Value}(sf:SF)(hv:∀ (a:Act) (o:Oper) (x y:Operand) K Q,o.op=.store t x y→a.eval x=u1→a.eval y=u2→(∀ v W,sf.rel w W→Go P fn R (znx (zq P q s) v) W→K (a.put o.dst v) W)→o.wp P a w K Q)(h:zk (zq P q s)=some (.st t u1 u2):=by kernel_rfl)(hz:zsf (zq P q s)=some sf:=by kernel_rfl):Go P fn R s w :=
 Zx q s (Zhl h hz fun a o K Q ⟨x,y,h1,h2,h3⟩ hK=>hv a o x y K Q h1 h2 h3 hK)
end
end Go.Proofs.YtekomodnkfhihaaGreatDoor
namespace Go.Proofs.YtekomodnkfhihaaGreatDoor
set_option maxHeartbeats 8000000
set_option maxRecDepth 100000
open Go.RowKit Go.Extern.Stop Go.Stop Go.Extern
set_option linter.unusedVariables false
attribute [local irreducible] wpList wpAnyH Code.wp Oper.wp Go
def bv (x:UInt8):Value:=.int .u8 (x.toNat:Int)
def Bys (w:World)(v:Value)(l:Bl):Prop:=Sl w v l.length (l.map bv)
theorem Bys.below{w w':World}{v:Value}{l:Bl}(h:Bys w v l)(hb:B3 w w'):Bys w' v l:=Sl.below h hb
def Pj(base:Nat)(w:World)(v:Value)(l:Bl):Prop:=w.ownsRow base 5 1 v l.length (l.map bv)
theorem Pj.bys{base:Nat}{w:World}{v:Value}{l:Bl}(h:Pj base w v l):Bys w v l:=Ze h
theorem Xw(l:Bl):∀ u∈l.map bv,u.oneCell'=true:=by
 intro u hu
 obtain⟨x,_,rfl⟩:=List.mem_map.1 hu
 rfl
theorem Zfz(p:Addr)(c:Nat)(l:Bl)(w:World)(h:Bys w (.slice (some p) l.length c) l)(hl:l.length≤100000000) :
 C0 60 #[.slice (some p) l.length c] w (Qo (fun w' r=>Pj w.heap.size w' r l) w):=by
 refine zin 8 Tryz.func60 ?_
 refine xb0 17 5 fun b1 W1 n1=>?_
 have o1:=Zz (size:=1) (n:=0) n1.blk (n1.ge (B4 w)) rfl Do
 refine xbi 1 fun _ _ _ _ zJ zQ zo zx zy zK=>Zr (m:=l.length) (news:=l.map bv) (.int .u8 0) 1 1 (l.length) (l.map bv) zo Tryz.underlying50 K0 rfl Do zx o1 zy (h.below n1.below) (by simp) (Xw l) (by unfold maxLen;omega) M0 n1.below.size (by simp) (by simp) fun a1 a3 W2 o2 a4 a2=>?_
 refine zK _ _ ?_
 have a0:=n1.below.trans a2
 exact xe 4 (.slice a1 l.length a3) ⟨_,rfl,a0,o2⟩
theorem Zhx(c:Nat)(w:World) :
 C0 60 #[.slice none 0 c] w (Qo (fun w' r=>Pj w.heap.size w' r []) w):=by
 refine zin 8 Tryz.func60 ?_
 exact xe 20 (S0) ⟨_,rfl,(B4 w),A4 _ _ _ _⟩
theorem Pz(a:O0)(c:Nat)(l:Bl)(w:World)(h:Bys w (.slice a l.length c) l)(hl:l.length≤100000000) :
 C0 60 #[.slice a l.length c] w (Qo (fun w' r=>Pj w.heap.size w' r l) w):=by
 cases a with
 | some p=>exact Zfz p c l w h hl
 | none =>
  rcases Sl.at h with hn|⟨_,_,h1,_⟩
  ·obtain rfl:l=[]:=by simpa using hn
   exact Zhx c w
  ·cases h1
theorem Ks(a:O0)(n c:Nat)(l:Bl)(w:World)(hn:l.length=n)(h:Bys w (.slice a n c) l)(hl:n≤100000000) :
 C0 60 #[.slice a n c] w (Qo (fun w' r=>Pj w.heap.size w' r l) w):=by
 subst hn;exact Pz a c l w h hl
theorem Blk.bys{w:World}{b:Nat}{cs:List Value}{t:TypeId}(k:Blk w b cs t)(l:Bl)(n c:Nat)(hn:l.length=n)(h:cs.take n=l.map bv)(hc:n≤c)(hm:c≤maxLen):Bys w (.slice (S1 b) n c) l :=
 .inr ⟨b,0,c,by rw[hn],by omega,hm,fun j x hj=>by
  rw[F1]
  refine k.cell ?_
  rw[←h] at hj
  have a0:j<n:=by have:=(List.getElem?_eq_some_iff.1 hj).1;simp at this;omega
  rwa [F5 a0] at hj⟩
def Zu(n:Int)(i:Nat):UInt8:=UInt8.ofNat (n.toNat/256 ^ i)
def leB (n:Int)(w:Nat):Bl:=(List.range w).map (Zu n)
theorem Zj(n:Int)(w:Nat):(leB n w).length=w:=by simp[leB]
theorem Vp{n:Int}(h:0≤n)(i:Nat):IntKind.u8.wrap (Int.fdiv n (2 ^ (8*i)))=((Zu n i).toNat:Int):=by
 obtain⟨m,rfl⟩:=Int.eq_ofNat_of_zero_le h
 have e:(2:Int) ^ (8*i)=((256 ^ i:Nat):Int):=by rw[Int.pow_mul];simp
 rw[e,show Int.fdiv ((m:Nat):Int) ((256 ^ i:Nat):Int)=((m/256 ^ i:Nat):Int) from by rw[Int.fdiv_eq_ediv_of_nonneg _ (F2 _)];simp]
 simp[IntKind.wrap,Zu,IntKind.bits,IntKind.signed]
theorem Mg{n:Int}(h:0≤n):IntKind.u8.wrap n=((Zu n 0).toNat:Int):=by
 have:=Vp h 0
 simpa using this
def Km(l:Bl)(k:Nat)(x:Bl):Bl:=l.take k++x++l.drop (k+x.length)
theorem Pj.some{base:Nat}{w:World}{v:Value}{l:Bl}(h:Pj base w v l)(hl:0<l.length):∃ g cap,v=.slice (S1 g) l.length cap∧l.length≤cap:=by
 rcases h.2 with ⟨_,h0⟩|⟨g,cap,a0,hv,_,_,hc,_⟩
 ·omega
 ·exact⟨g,cap,hv,hc⟩
theorem Zk1(w:World) :
 C0 162 #[V0 1] w (Ret (.bool true) w):=by
 refine zin 17 Tryz.func162 ?_
 exact xe 25 (.bool true) ⟨rfl,(B4 w)⟩
theorem fits_1(n:Int)(h0:0≤n)(hb:n<256)(w:World) :
 C0 163 #[V0 n,V0 1] w (Ret (.bool true) w):=by
 refine zin 20 Tryz.func163 ?_
 refine xk 12 (show(decide (n<(0:Int)):Bool)=false from decide_eq_false M0) ?_
 exact xe 26 (.bool (decide (n<(256:Int)))) ⟨by rw[decide_eq_true hb],(B4 w)⟩
theorem Zkd(n:Int)(h0:0≤n)(w:World) :
 C0 164 #[V0 n,V0 1] w (Qo (fun w' r=>Pj w.heap.size w' r (leB n 1)) w):=by
 refine zin 43 Tryz.func164 ?_
 refine xa 7 [.int .u8 0,.int .u8 0,.int .u8 0,.int .u8 0,.int .u8 0,.int .u8 0,.int .u8 0,.int .u8 0] 331 fun b1 W1 n1=>?_
 refine xq 59 (congrArg (Value.int .u8) (show(IntKind.u8.wrap n:Int)=(↑(Zu n 0).toNat:Int) from Mg h0)) ?_
 refine xs 1 n1.blk [.int .u8 (↑(Zu n 0).toNat:Int),.int .u8 0,.int .u8 0,.int .u8 0,.int .u8 0,.int .u8 0,.int .u8 0,.int .u8 0] fun W2 u2 k2=>?_
 have g1:=n1.ge (B4 w)
 refine xc 9 (args:=#[.slice (S1 b1) 1 8]) (Ks (S1 b1) 1 8 (leB n 1) _ rfl (k2.bys (leB n 1) 1 8 rfl rfl Do Do) Do) ?_
 rintro _ W3 ⟨r,rfl,a2,ho⟩
 have a1:=(u2.below n1.below g1).size
 have hB:=bln (u2.below n1.below g1) a2
 have a0:=Zf ho a1
 exact xe 4 r ⟨_,rfl,hB,a0⟩
theorem Sq(w:World) :
 C0 162 #[V0 2] w (Ret (.bool true) w):=by
 refine zin 17 Tryz.func162 ?_
 exact xe 25 (.bool true) ⟨rfl,(B4 w)⟩
theorem Zc4(n:Int)(h0:0≤n)(hb:n<65536)(w:World) :
 C0 163 #[V0 n,V0 2] w (Ret (.bool true) w):=by
 refine zin 20 Tryz.func163 ?_
 refine xk 12 (show(decide (n<(0:Int)):Bool)=false from decide_eq_false M0) ?_
 exact xe 33 (.bool (decide (n<(65536:Int)))) ⟨by rw[decide_eq_true hb],(B4 w)⟩
theorem there_2(a:O0)(m c k:Nat)(hk:k+2≤m)(hm:m≤100000000)(w:World) :
 C0 222 #[.slice a m c,V0 (k:Int),V0 2] w (Ret (V0 0) w):=by
 refine zin 28 Tryz.func222 ?_
 refine xr 10 (args:=#[V0 2]) (Sq _) fun W1 a0=>?_
 refine xgk 10 [13,14] (show(decide ((k:Int)<(0:Int)):Bool)=false from decide_eq_false M0) ?_
 refine xgk 6 [18,19,20] (show(decide ((k:Int)>(m:Int)):Bool)=false from decide_eq_false M0) ?_
 refine xw 3 ((m:Int)-(k:Int)) ?_
 refine xk 6 (show(decide ((m:Int)-(k:Int)<(2:Int)):Bool)=false from decide_eq_false M0) ?_
 exact xe 9 (V0 0) ⟨rfl,a0⟩
theorem Sz(n:Int)(h0:0≤n)(w:World) :
 C0 164 #[V0 n,V0 2] w (Qo (fun w' r=>Pj w.heap.size w' r (leB n 2)) w):=by
 refine zin 43 Tryz.func164 ?_
 refine xa 7 [.int .u8 0,.int .u8 0,.int .u8 0,.int .u8 0,.int .u8 0,.int .u8 0,.int .u8 0,.int .u8 0] 331 fun b1 W1 n1=>?_
 refine xq 56 (congrArg (Value.int .u8) (show(IntKind.u8.wrap (Int.fdiv n (2 ^ 8)):Int)=(↑(Zu n 1).toNat:Int) from Vp h0 1)) ?_
 refine xs 1 n1.blk [.int .u8 0,.int .u8 (↑(Zu n 1).toNat:Int),.int .u8 0,.int .u8 0,.int .u8 0,.int .u8 0,.int .u8 0,.int .u8 0] fun W2 u2 k2=>?_
 have g1:=n1.ge (B4 w)
 refine xq 6 (congrArg (Value.int .u8) (show(IntKind.u8.wrap n:Int)=(↑(Zu n 0).toNat:Int) from Mg h0)) ?_
 refine xs 1 k2 [.int .u8 (↑(Zu n 0).toNat:Int),.int .u8 (↑(Zu n 1).toNat:Int),.int .u8 0,.int .u8 0,.int .u8 0,.int .u8 0,.int .u8 0,.int .u8 0] fun W3 u3 k3=>?_
 refine xc 9 (args:=#[.slice (S1 b1) 2 8]) (Ks (S1 b1) 2 8 (leB n 2) _ rfl (k3.bys (leB n 2) 2 8 rfl rfl Do Do) Do) ?_
 rintro _ W4 ⟨r,rfl,a2,ho⟩
 have a1:=(u3.below (u2.below n1.below g1) g1).size
 have hB:=bln (u3.below (u2.below n1.below g1) g1) a2
 have a0:=Zf ho a1
 exact xe 4 r ⟨_,rfl,hB,a0⟩
theorem Tm(w:World) :
 C0 162 #[V0 4] w (Ret (.bool true) w):=by
 refine zin 17 Tryz.func162 ?_
 exact xe 25 (.bool true) ⟨rfl,(B4 w)⟩
theorem Zc7(n:Int)(h0:0≤n)(hb:n<4294967296)(w:World) :
 C0 163 #[V0 n,V0 4] w (Ret (.bool true) w):=by
 refine zin 20 Tryz.func163 ?_
 refine xk 12 (show(decide (n<(0:Int)):Bool)=false from decide_eq_false M0) ?_
 exact xe 40 (.bool (decide (n<(4294967296:Int)))) ⟨by rw[decide_eq_true hb],(B4 w)⟩
theorem there_4(a:O0)(m c k:Nat)(hk:k+4≤m)(hm:m≤100000000)(w:World) :
 C0 222 #[.slice a m c,V0 (k:Int),V0 4] w (Ret (V0 0) w):=by
 refine zin 28 Tryz.func222 ?_
 refine xr 10 (args:=#[V0 4]) (Tm _) fun W1 a0=>?_
 refine xgk 10 [13,14] (show(decide ((k:Int)<(0:Int)):Bool)=false from decide_eq_false M0) ?_
 refine xgk 6 [18,19,20] (show(decide ((k:Int)>(m:Int)):Bool)=false from decide_eq_false M0) ?_
 refine xw 3 ((m:Int)-(k:Int)) ?_
 refine xk 6 (show(decide ((m:Int)-(k:Int)<(4:Int)):Bool)=false from decide_eq_false M0) ?_
 exact xe 9 (V0 0) ⟨rfl,a0⟩
theorem Tl(n:Int)(h0:0≤n)(w:World) :
 C0 164 #[V0 n,V0 4] w (Qo (fun w' r=>Pj w.heap.size w' r (leB n 4)) w):=by
 refine zin 43 Tryz.func164 ?_
 refine xa 7 [.int .u8 0,.int .u8 0,.int .u8 0,.int .u8 0,.int .u8 0,.int .u8 0,.int .u8 0,.int .u8 0] 331 fun b1 W1 n1=>?_
 refine xq 46 (congrArg (Value.int .u8) (show(IntKind.u8.wrap (Int.fdiv n (2 ^ 24)):Int)=(↑(Zu n 3).toNat:Int) from Vp h0 3)) ?_
 refine xq 2 (congrArg (Value.int .u8) (show(IntKind.u8.wrap (Int.fdiv n (2 ^ 16)):Int)=(↑(Zu n 2).toNat:Int) from Vp h0 2)) ?_
 refine xs 1 n1.blk [.int .u8 0,.int .u8 0,.int .u8 0,.int .u8 (↑(Zu n 3).toNat:Int),.int .u8 0,.int .u8 0,.int .u8 0,.int .u8 0] fun W2 u2 k2=>?_
 have g1:=n1.ge (B4 w)
 refine xs 1 k2 [.int .u8 0,.int .u8 0,.int .u8 (↑(Zu n 2).toNat:Int),.int .u8 (↑(Zu n 3).toNat:Int),.int .u8 0,.int .u8 0,.int .u8 0,.int .u8 0] fun W3 u3 k3=>?_
 refine xq 6 (congrArg (Value.int .u8) (show(IntKind.u8.wrap (Int.fdiv n (2 ^ 8)):Int)=(↑(Zu n 1).toNat:Int) from Vp h0 1)) ?_
 refine xs 1 k3 [.int .u8 0,.int .u8 (↑(Zu n 1).toNat:Int),.int .u8 (↑(Zu n 2).toNat:Int),.int .u8 (↑(Zu n 3).toNat:Int),.int .u8 0,.int .u8 0,.int .u8 0,.int .u8 0] fun W4 u4 k4=>?_
 refine xq 6 (congrArg (Value.int .u8) (show(IntKind.u8.wrap n:Int)=(↑(Zu n 0).toNat:Int) from Mg h0)) ?_
 refine xs 1 k4 [.int .u8 (↑(Zu n 0).toNat:Int),.int .u8 (↑(Zu n 1).toNat:Int),.int .u8 (↑(Zu n 2).toNat:Int),.int .u8 (↑(Zu n 3).toNat:Int),.int .u8 0,.int .u8 0,.int .u8 0,.int .u8 0] fun W5 u5 k5=>?_
 refine xc 9 (args:=#[.slice (S1 b1) 4 8]) (Ks (S1 b1) 4 8 (leB n 4) _ rfl (k5.bys (leB n 4) 4 8 rfl rfl Do Do) Do) ?_
 rintro _ W6 ⟨r,rfl,a2,ho⟩
 have a1:=(u5.below (u4.below (u3.below (u2.below n1.below g1) g1) g1) g1).size
 have hB:=bln (u5.below (u4.below (u3.below (u2.below n1.below g1) g1) g1) g1) a2
 have a0:=Zf ho a1
 exact xe 4 r ⟨_,rfl,hB,a0⟩
theorem known_8(w:World) :
 C0 162 #[V0 8] w (Ret (.bool true) w):=by
 refine zin 17 Tryz.func162 ?_
 exact xe 25 (.bool true) ⟨rfl,(B4 w)⟩
theorem fits_8(n:Int)(h0:0≤n)(w:World) :
 C0 163 #[V0 n,V0 8] w (Ret (.bool true) w):=by
 refine zin 20 Tryz.func163 ?_
 refine xk 12 (show(decide (n<(0:Int)):Bool)=false from decide_eq_false M0) ?_
 exact xe 39 (.bool true) ⟨by rfl,(B4 w)⟩
theorem bytes_8(n:Int)(h0:0≤n)(w:World) :
 C0 164 #[V0 n,V0 8] w (Qo (fun w' r=>Pj w.heap.size w' r (leB n 8)) w):=by
 refine zin 43 Tryz.func164 ?_
 refine xa 7 [.int .u8 0,.int .u8 0,.int .u8 0,.int .u8 0,.int .u8 0,.int .u8 0,.int .u8 0,.int .u8 0] 331 fun b1 W1 n1=>?_
 refine xu 37 6 ?_
 refine xq 18 (congrArg (Value.int .u8) (show(IntKind.u8.wrap (Int.fdiv n (2 ^ 32)):Int)=(↑(Zu n 4).toNat:Int) from Vp h0 4)) ?_
 refine xs 1 n1.blk [.int .u8 0,.int .u8 0,.int .u8 0,.int .u8 0,.int .u8 (↑(Zu n 4).toNat:Int),.int .u8 0,.int .u8 0,.int .u8 0] fun W2 u2 k2=>?_
 have g1:=n1.ge (B4 w)
 refine xq 27 (congrArg (Value.int .u8) (show(IntKind.u8.wrap (Int.fdiv n (2 ^ 40)):Int)=(↑(Zu n 5).toNat:Int) from Vp h0 5)) ?_
 refine xs 1 k2 [.int .u8 0,.int .u8 0,.int .u8 0,.int .u8 0,.int .u8 (↑(Zu n 4).toNat:Int),.int .u8 (↑(Zu n 5).toNat:Int),.int .u8 0,.int .u8 0] fun W3 u3 k3=>?_
 refine xq 27 (congrArg (Value.int .u8) (show(IntKind.u8.wrap (Int.fdiv n (2 ^ 48)):Int)=(↑(Zu n 6).toNat:Int) from Vp h0 6)) ?_
 refine xs 1 k3 [.int .u8 0,.int .u8 0,.int .u8 0,.int .u8 0,.int .u8 (↑(Zu n 4).toNat:Int),.int .u8 (↑(Zu n 5).toNat:Int),.int .u8 (↑(Zu n 6).toNat:Int),.int .u8 0] fun W4 u4 k4=>?_
 refine xq 27 (congrArg (Value.int .u8) (show(IntKind.u8.wrap (Int.fdiv n (2 ^ 56)):Int)=(↑(Zu n 7).toNat:Int) from Vp h0 7)) ?_
 refine xs 1 k4 [.int .u8 0,.int .u8 0,.int .u8 0,.int .u8 0,.int .u8 (↑(Zu n 4).toNat:Int),.int .u8 (↑(Zu n 5).toNat:Int),.int .u8 (↑(Zu n 6).toNat:Int),.int .u8 (↑(Zu n 7).toNat:Int)] fun W5 u5 k5=>?_
 refine xq 26 (congrArg (Value.int .u8) (show(IntKind.u8.wrap (Int.fdiv n (2 ^ 24)):Int)=(↑(Zu n 3).toNat:Int) from Vp h0 3)) ?_
 refine xq 2 (congrArg (Value.int .u8) (show(IntKind.u8.wrap (Int.fdiv n (2 ^ 16)):Int)=(↑(Zu n 2).toNat:Int) from Vp h0 2)) ?_
 refine xs 1 k5 [.int .u8 0,.int .u8 0,.int .u8 0,.int .u8 (↑(Zu n 3).toNat:Int),.int .u8 (↑(Zu n 4).toNat:Int),.int .u8 (↑(Zu n 5).toNat:Int),.int .u8 (↑(Zu n 6).toNat:Int),.int .u8 (↑(Zu n 7).toNat:Int)] fun W6 u6 k6=>?_
 refine xs 1 k6 [.int .u8 0,.int .u8 0,.int .u8 (↑(Zu n 2).toNat:Int),.int .u8 (↑(Zu n 3).toNat:Int),.int .u8 (↑(Zu n 4).toNat:Int),.int .u8 (↑(Zu n 5).toNat:Int),.int .u8 (↑(Zu n 6).toNat:Int),.int .u8 (↑(Zu n 7).toNat:Int)] fun W7 u7 k7=>?_
 refine xq 6 (congrArg (Value.int .u8) (show(IntKind.u8.wrap (Int.fdiv n (2 ^ 8)):Int)=(↑(Zu n 1).toNat:Int) from Vp h0 1)) ?_
 refine xs 1 k7 [.int .u8 0,.int .u8 (↑(Zu n 1).toNat:Int),.int .u8 (↑(Zu n 2).toNat:Int),.int .u8 (↑(Zu n 3).toNat:Int),.int .u8 (↑(Zu n 4).toNat:Int),.int .u8 (↑(Zu n 5).toNat:Int),.int .u8 (↑(Zu n 6).toNat:Int),.int .u8 (↑(Zu n 7).toNat:Int)] fun W8 u8 k8=>?_
 refine xq 6 (congrArg (Value.int .u8) (show(IntKind.u8.wrap n:Int)=(↑(Zu n 0).toNat:Int) from Mg h0)) ?_
 refine xs 1 k8 [.int .u8 (↑(Zu n 0).toNat:Int),.int .u8 (↑(Zu n 1).toNat:Int),.int .u8 (↑(Zu n 2).toNat:Int),.int .u8 (↑(Zu n 3).toNat:Int),.int .u8 (↑(Zu n 4).toNat:Int),.int .u8 (↑(Zu n 5).toNat:Int),.int .u8 (↑(Zu n 6).toNat:Int),.int .u8 (↑(Zu n 7).toNat:Int)] fun W9 u9 k9=>?_
 refine xc 9 (args:=#[.slice (S1 b1) 8 8]) (Ks (S1 b1) 8 8 (leB n 8) _ rfl (k9.bys (leB n 8) 8 8 rfl rfl Do Do) Do) ?_
 rintro _ a3 ⟨r,rfl,a1,ho⟩
 have a0:=(u9.below (u8.below (u7.below (u6.below (u5.below (u4.below (u3.below (u2.below n1.below g1) g1) g1) g1) g1) g1) g1) g1).size
 have hB:=bln (u9.below (u8.below (u7.below (u6.below (u5.below (u4.below (u3.below (u2.below n1.below g1) g1) g1) g1) g1) g1) g1) g1) a1
 have a2:=Zf ho a0
 exact xe 4 r ⟨_,rfl,hB,a2⟩
theorem Put_2(a:O0)(c k:Nat)(l:Bl)(n:Int)(w:World)(h:Bys w (.slice a l.length c) l)(hl:l.length≤100000)(hk:k+2≤l.length)(h0:0≤n)(hb:n<65536) :
 C0 166 #[.slice a l.length c,V0 (k:Int),V0 2,V0 n] w (Qo (fun w' r=>∃ v,r=.tuple #[v,V0 0]∧Pj w.heap.size w' v (Km l k (leB n 2))) w):=by
 refine zin 33 Tryz.func166 ?_
 refine xr 12 (args:=#[.slice a l.length c,V0 (k:Int),V0 2]) (there_2 a l.length c k hk M0 _) fun W1 a8=>?_
 refine xr 17 (args:=#[V0 n,V0 2]) (Zc4 n h0 hb _) fun W2 a9=>?_
 have hB:=bln a8 a9
 refine xc 9 (args:=#[.slice a l.length c]) (Pz a c l _ (h.below hB) M0) ?_
 rintro _ W3 ⟨_,rfl,b0,ho⟩
 have b2:=(bln a8 a9).size
 have a2:=Zf ho b2
 obtain⟨g,a4,rfl,b1⟩:=Pj.some a2 M0
 refine xd 4 (.t w.heap.size [5]) ?_
 refine xsL (.e [0,1] 2) (fun _ _ _ _ zo zx zy V=>Wt (k:=k) (b:=g) (off:=0) (n:=l.length) (c:=a4) (i:=(k:Int)) (ki:=.i64) 1 zo zx zy rfl M0 M0 Tryz.underlying50 K0 V) ?_
 refine yc (.o [3,4] 5) (args:=#[V0 n,V0 2]) (.t w.heap.size [5]) (Sz n h0 _) ?_
 rintro _ W4 ⟨_,rfl,a5,h2⟩
 have b4:=(bln (bln hB b0) (Zb W3)).size
 refine⟨(SF.of_below _ a5),?_⟩
 have a1:=Zf h2 b4
 obtain⟨p2,c2,rfl⟩:=(Ze a1).slice
 have a0:=Za (Za a2 (Zb W3)) a5
 have a3:=bln (bln (bln hB b0) (Zb W3)) a5
 refine ybi (.o [] 6) (t2:=50) (.t w.heap.size [5]) fun _ _ _ _ zJ zQ zo zx zy zK=>We (dLen:=(l.length-k)) (dCap:=(a4-k)) (off:=(0+k*1)) ((leB n 2).length) ((leB n 2).map bv) ((Km l k (leB n 2)).map bv) zo Tryz.underlying50 K0 zx zy (Ze a1) a0 (by simp) (by simp[leB];omega) (by simp[leB];omega) (Xw _) a3.size (by simp[Km,Gt,H7]) fun W5 o5 b3 a7=>?_
 refine zK _ _ (Zt a7 b3 a0 Do) ?_
 have a6:=a3.trans a7
 refine xe 10 (.tuple #[.slice (S1 g) l.length a4,V0 0]) ?_
 refine⟨_,rfl,a6,_,rfl,?_⟩
 unfold Pj
 rw[show(Km l k (leB n 2)).length=l.length by simp[Km,leB];omega]
 exact o5
theorem Put_4(a:O0)(c k:Nat)(l:Bl)(n:Int)(w:World)(h:Bys w (.slice a l.length c) l)(hl:l.length≤100000)(hk:k+4≤l.length)(h0:0≤n)(hb:n<4294967296) :
 C0 166 #[.slice a l.length c,V0 (k:Int),V0 4,V0 n] w (Qo (fun w' r=>∃ v,r=.tuple #[v,V0 0]∧Pj w.heap.size w' v (Km l k (leB n 4))) w):=by
 refine zin 33 Tryz.func166 ?_
 refine xr 12 (args:=#[.slice a l.length c,V0 (k:Int),V0 4]) (there_4 a l.length c k hk M0 _) fun W1 a8=>?_
 refine xr 17 (args:=#[V0 n,V0 4]) (Zc7 n h0 hb _) fun W2 a9=>?_
 have hB:=bln a8 a9
 refine xc 9 (args:=#[.slice a l.length c]) (Pz a c l _ (h.below hB) M0) ?_
 rintro _ W3 ⟨_,rfl,b0,ho⟩
 have b2:=(bln a8 a9).size
 have a2:=Zf ho b2
 obtain⟨g,a4,rfl,b1⟩:=Pj.some a2 M0
 refine xd 4 (.t w.heap.size [5]) ?_
 refine xsL (.e [0,1] 2) (fun _ _ _ _ zo zx zy V=>Wt (k:=k) (b:=g) (off:=0) (n:=l.length) (c:=a4) (i:=(k:Int)) (ki:=.i64) 1 zo zx zy rfl M0 M0 Tryz.underlying50 K0 V) ?_
 refine yc (.o [3,4] 5) (args:=#[V0 n,V0 4]) (.t w.heap.size [5]) (Tl n h0 _) ?_
 rintro _ W4 ⟨_,rfl,a5,h2⟩
 have b4:=(bln (bln hB b0) (Zb W3)).size
 refine⟨(SF.of_below _ a5),?_⟩
 have a1:=Zf h2 b4
 obtain⟨p2,c2,rfl⟩:=(Ze a1).slice
 have a0:=Za (Za a2 (Zb W3)) a5
 have a3:=bln (bln (bln hB b0) (Zb W3)) a5
 refine ybi (.o [] 6) (t2:=50) (.t w.heap.size [5]) fun _ _ _ _ zJ zQ zo zx zy zK=>We (dLen:=(l.length-k)) (dCap:=(a4-k)) (off:=(0+k*1)) ((leB n 4).length) ((leB n 4).map bv) ((Km l k (leB n 4)).map bv) zo Tryz.underlying50 K0 zx zy (Ze a1) a0 (by simp) (by simp[leB];omega) (by simp[leB];omega) (Xw _) a3.size (by simp[Km,Gt,H7]) fun W5 o5 b3 a7=>?_
 refine zK _ _ (Zt a7 b3 a0 Do) ?_
 have a6:=a3.trans a7
 refine xe 10 (.tuple #[.slice (S1 g) l.length a4,V0 0]) ?_
 refine⟨_,rfl,a6,_,rfl,?_⟩
 unfold Pj
 rw[show(Km l k (leB n 4)).length=l.length by simp[Km,leB];omega]
 exact o5
theorem Ef(g:Nat)(n:Int)(h0:0≤n)(hb:n<4294967296)(w:World)(hk:Blk w g [V0 4,V0 n] 178) :
 C0 97 #[.slice (S1 g) 1 1] w (Qo (fun w' r=>∃ p c,r=.tuple #[.slice p 4 c,V0 0]∧w'.ownsRow w.heap.size 5 1 (.slice p 4 c) 4 ((leB n 4).map bv)) w):=by
 refine zin 32 Tryz.func97 ?_
 refine xu 20 2 ?_
 refine xlv 14 hk.rp ?_
 refine xa 0 [V0 0,V0 0] 178 fun b1 W1 n1=>?_
 have b0:=n1.ne hk
 refine xsv 0 n1.blk [V0 4,V0 n] fun W2 u2 k2=>?_
 have g1:=n1.ge (B4 w)
 refine xb 6 0 k2 ?_
 refine xr 0 (args:=#[V0 4]) (Tm _) fun W3 a6=>?_
 have a1:=k2.below a6
 refine xb 10 1 a1 ?_
 refine xb 1 0 a1 ?_
 refine xr 0 (args:=#[V0 n,V0 4]) (Zc7 (n) (h0) (hb) _) fun W4 a5=>?_
 have a2:=a1.below a5
 refine xb 9 1 a2 ?_
 refine xb 1 0 a2 ?_
 refine xc 0 (args:=#[V0 n,V0 4]) (Tl (n) (h0) _) ?_
 rintro _ W5 ⟨_,rfl,a7,a3⟩
 have b4:=(bln (bln (u2.below n1.below g1) a6) a5).size
 have a0:=Zf a3 b4
 unfold Pj at a0
 rw[Zj] at a0
 obtain⟨b2,b3,rfl⟩:=(Ze a0).slice
 have o6:=A4 W5 w.heap.size 5 1
 have hB:=bln (bln (bln (u2.below n1.below g1) a6) a5) a7
 refine xbi 0 fun _ _ _ _ zJ zQ zo zx zy zK=>Zr (m:=4) (news:=(leB (n) 4).map bv) (.int .u8 0) 1 1 (4) ((leB (n) 4).map bv) zo Tryz.underlying50 K0 rfl Do zx o6 zy (Ze a0) (by simp[Zj]) (Xw _) (by unfold maxLen;omega) M0 hB.size (by rfl) (by simp) fun b5 a9 W7 o7 b6 a8=>?_
 refine zK _ _ ?_
 have a4:=hB.trans a8
 exact xe 29 (.tuple #[.slice b5 4 a9,V0 0]) ⟨_,rfl,a4,_,_,rfl,o7⟩
theorem Zkf(g:Nat)(n:Int)(h0:0≤n)(w:World)(hk:Blk w g [V0 8,V0 n] 178) :
 C0 97 #[.slice (S1 g) 1 1] w (Qo (fun w' r=>∃ p c,r=.tuple #[.slice p 8 c,V0 0]∧w'.ownsRow w.heap.size 5 1 (.slice p 8 c) 8 ((leB n 8).map bv)) w):=by
 refine zin 32 Tryz.func97 ?_
 refine xu 20 2 ?_
 refine xlv 14 hk.rp ?_
 refine xa 0 [V0 0,V0 0] 178 fun b1 W1 n1=>?_
 have b0:=n1.ne hk
 refine xsv 0 n1.blk [V0 8,V0 n] fun W2 u2 k2=>?_
 have g1:=n1.ge (B4 w)
 refine xb 6 0 k2 ?_
 refine xr 0 (args:=#[V0 8]) (known_8 _) fun W3 a6=>?_
 have a1:=k2.below a6
 refine xb 10 1 a1 ?_
 refine xb 1 0 a1 ?_
 refine xr 0 (args:=#[V0 n,V0 8]) (fits_8 (n) (h0) _) fun W4 a5=>?_
 have a2:=a1.below a5
 refine xb 9 1 a2 ?_
 refine xb 1 0 a2 ?_
 refine xc 0 (args:=#[V0 n,V0 8]) (bytes_8 (n) (h0) _) ?_
 rintro _ W5 ⟨_,rfl,a7,a3⟩
 have b4:=(bln (bln (u2.below n1.below g1) a6) a5).size
 have a0:=Zf a3 b4
 unfold Pj at a0
 rw[Zj] at a0
 obtain⟨b2,b3,rfl⟩:=(Ze a0).slice
 have o6:=A4 W5 w.heap.size 5 1
 have hB:=bln (bln (bln (u2.below n1.below g1) a6) a5) a7
 refine xbi 0 fun _ _ _ _ zJ zQ zo zx zy zK=>Zr (m:=8) (news:=(leB (n) 8).map bv) (.int .u8 0) 1 1 (8) ((leB (n) 8).map bv) zo Tryz.underlying50 K0 rfl Do zx o6 zy (Ze a0) (by simp[Zj]) (Xw _) (by unfold maxLen;omega) M0 hB.size (by rfl) (by simp) fun b5 a9 W7 o7 b6 a8=>?_
 refine zK _ _ ?_
 have a4:=hB.trans a8
 exact xe 29 (.tuple #[.slice b5 8 a9,V0 0]) ⟨_,rfl,a4,_,_,rfl,o7⟩
theorem Ziz(g:Nat)(f t k v m:Int)(hf:0≤f)(hf2:f<256)(ht:0≤t)(ht2:t<256)(hk1:0≤k)(hk2:k<65536)(hv:0≤v)(hv2:v<65536)(hm:0≤m)(hm2:m<65536)(w:World)(hk:Blk w g [V0 1,V0 f,V0 1,V0 t,V0 2,V0 k,V0 2,V0 v,V0 2,V0 m,V0 4,V0 0] 178) :
 C0 97 #[.slice (S1 g) 6 6] w (Qo (fun w' r=>∃ p c,r=.tuple #[.slice p 12 c,V0 0]∧w'.ownsRow w.heap.size 5 1 (.slice p 12 c) 12 ((leB f 1++leB t 1++leB k 2++leB v 2++leB m 2++leB 0 4).map bv)) w):=by
 refine zin 32 Tryz.func97 ?_
 refine xu 20 7 ?_
 refine xlv 14 (hk.rpp 0 2) ?_
 refine xa 0 [V0 0,V0 0] 178 fun b1 W1 n1=>?_
 have k4:=n1.ne hk
 refine xsv 0 n1.blk [V0 1,V0 f] fun W2 u2 k2=>?_
 have g1:=n1.ge (B4 w)
 refine xb 6 0 k2 ?_
 refine xr 0 (args:=#[V0 1]) (Zk1 _) fun W3 j8=>?_
 have f0:=k2.below j8
 refine xb 10 1 f0 ?_
 refine xb 1 0 f0 ?_
 refine xr 0 (args:=#[V0 f,V0 1]) (fits_1 (f) (hf) (hf2) _) fun W4 j7=>?_
 have f9:=f0.below j7
 refine xb 9 1 f9 ?_
 refine xb 1 0 f9 ?_
 refine xc 0 (args:=#[V0 f,V0 1]) (Zkd (f) (hf) _) ?_
 rintro _ W5 ⟨_,rfl,m5,l4⟩
 have o4:=(bln (bln (u2.below n1.below g1) j8) j7).size
 have a9:=Zf l4 o4
 unfold Pj at a9
 rw[Zj] at a9
 obtain⟨q1,p3,rfl⟩:=(Ze a9).slice
 have o6:=A4 W5 w.heap.size 5 1
 have hB:=bln (bln (bln (u2.below n1.below g1) j8) j7) m5
 refine xbi 0 fun _ _ _ _ zJ zQ zo zx zy zK=>Zr (m:=1) (news:=(leB (f) 1).map bv) (.int .u8 0) 1 1 (1) ((leB (f) 1).map bv) zo Tryz.underlying50 K0 rfl Do zx o6 zy (Ze a9) (by simp[Zj]) (Xw _) (by unfold maxLen;omega) M0 hB.size (by rfl) (by simp) fun r3 s7 W7 o7 n9 q8=>?_
 refine zK _ _ ?_
 have f8:=((((u2.blk (hk.below n1.below) k4).below j8).below j7).below m5).grown n9 o6 Do
 refine xlv 23 (f8.rpp 2 2) ?_
 refine xa 0 [V0 0,V0 0] 178 fun b8 W8 n8=>?_
 have l0:=n8.ne f8
 have i9:=(f9.below m5).grown n9 o6 Do
 have j1:=n8.ne i9
 have g3:=hB.trans q8
 have g8:=n8.ge g3
 refine xsv 0 n8.blk [V0 1,V0 t] fun W9 u9 k9=>?_
 refine xb 6 0 k9 ?_
 refine xr 0 (args:=#[V0 1]) (Zk1 _) fun r4 c1=>?_
 have f1:=k9.below c1
 refine xb 10 1 f1 ?_
 refine xb 1 0 f1 ?_
 refine xr 0 (args:=#[V0 t,V0 1]) (fits_1 (t) (ht) (ht2) _) fun t8 c4=>?_
 have g9:=f1.below c4
 refine xb 9 1 g9 ?_
 refine xb 1 0 g9 ?_
 refine xc 0 (args:=#[V0 t,V0 1]) (Zkd (t) (ht) _) ?_
 rintro _ t3 ⟨_,rfl,d3,l9⟩
 have m0:=(bln (bln (u9.below (bln g3 n8.below) g8) c1) c4).size
 have a4:=Zf l9 m0
 unfold Pj at a4
 rw[Zj] at a4
 obtain⟨p4,q6,rfl⟩:=(Ze a4).slice
 have d9:=Za (Za (Za (u9.own2 (Za o7 n8.below) n8.blk Do) c1) c4) d3
 have i6:=bln (bln (bln (u9.below (bln g3 n8.below) g8) c1) c4) d3
 refine xbi 0 fun _ _ _ _ zJ zQ zo zx zy zK=>Zr (m:=1) (news:=(leB (t) 1).map bv) (.int .u8 0) 1 1 (2) ((leB (f) 1++leB (t) 1).map bv) zo Tryz.underlying50 K0 rfl Do zx d9 zy (Ze a4) (by simp[Zj]) (Xw _) (by unfold maxLen;omega) M0 i6.size (by rfl) (by simp) fun p6 p0 s3 q4 f3 k6=>?_
 refine zK _ _ ?_
 have f5:=((((u9.blk (f8.below n8.below) l0).below c1).below c4).below d3).grown f3 d9 Do
 refine xlv 23 (f5.rpp 4 2) ?_
 refine xa 0 [V0 0,V0 0] 178 fun t4 r6 c6=>?_
 have i2:=c6.ne f5
 have i3:=((((u9.blk (i9.below n8.below) j1).below c1).below c4).below d3).grown f3 d9 Do
 have h1:=c6.ne i3
 have i8:=(g9.below d3).grown f3 d9 Do
 have f7:=c6.ne i8
 have h2:=i6.trans k6
 have n3:=c6.ge h2
 refine xsv 0 c6.blk [V0 2,V0 k] fun s0 h3 n6=>?_
 refine xb 6 0 n6 ?_
 refine xr 0 (args:=#[V0 2]) (Sq _) fun s2 b9=>?_
 have d0:=n6.below b9
 refine xb 10 1 d0 ?_
 refine xb 1 0 d0 ?_
 refine xr 0 (args:=#[V0 k,V0 2]) (Zc4 (k) (hk1) (hk2) _) fun r1 b7=>?_
 have d2:=d0.below b7
 refine xb 9 1 d2 ?_
 refine xb 1 0 d2 ?_
 refine xc 0 (args:=#[V0 k,V0 2]) (Sz (k) (hk1) _) ?_
 rintro _ u3 ⟨_,rfl,c3,m1⟩
 have k3:=(bln (bln (h3.below (bln h2 c6.below) n3) b9) b7).size
 have a8:=Zf m1 k3
 unfold Pj at a8
 rw[Zj] at a8
 obtain⟨q0,p5,rfl⟩:=(Ze a8).slice
 have b3:=Za (Za (Za (h3.own2 (Za q4 c6.below) c6.blk Do) b9) b7) c3
 have i1:=bln (bln (bln (h3.below (bln h2 c6.below) n3) b9) b7) c3
 refine xbi 0 fun _ _ _ _ zJ zQ zo zx zy zK=>Zr (m:=2) (news:=(leB (k) 2).map bv) (.int .u8 0) 1 1 (4) ((leB (f) 1++leB (t) 1++leB (k) 2).map bv) zo Tryz.underlying50 K0 rfl Do zx b3 zy (Ze a8) (by simp[Zj]) (Xw _) (by unfold maxLen;omega) M0 i1.size (by rfl) (by simp) fun q5 r0 t9 o1 e1 k5=>?_
 refine zK _ _ ?_
 have g6:=((((h3.blk (f5.below c6.below) i2).below b9).below b7).below c3).grown e1 b3 Do
 refine xlv 23 (g6.rpp 6 2) ?_
 refine xa 0 [V0 0,V0 0] 178 fun r2 u1 c0=>?_
 have j4:=c0.ne g6
 have j2:=((((h3.blk (i3.below c6.below) h1).below b9).below b7).below c3).grown e1 b3 Do
 have e9:=c0.ne j2
 have i4:=((((h3.blk (i8.below c6.below) f7).below b9).below b7).below c3).grown e1 b3 Do
 have f6:=c0.ne i4
 have e3:=(d2.below c3).grown e1 b3 Do
 have d7:=c0.ne e3
 have g7:=i1.trans k5
 have o0:=c0.ge g7
 refine xsv 0 c0.blk [V0 2,V0 v] fun u5 g2 m9=>?_
 refine xb 6 0 m9 ?_
 refine xr 0 (args:=#[V0 2]) (Sq _) fun s8 b2=>?_
 have c8:=m9.below b2
 refine xb 10 1 c8 ?_
 refine xb 1 0 c8 ?_
 refine xr 0 (args:=#[V0 v,V0 2]) (Zc4 (v) (hv) (hv2) _) fun r9 b4=>?_
 have d5:=c8.below b4
 refine xb 9 1 d5 ?_
 refine xb 1 0 d5 ?_
 refine xc 0 (args:=#[V0 v,V0 2]) (Sz (v) (hv) _) ?_
 rintro _ s6 ⟨_,rfl,b6,m7⟩
 have m3:=(bln (bln (g2.below (bln g7 c0.below) o0) b2) b4).size
 have a2:=Zf m7 m3
 unfold Pj at a2
 rw[Zj] at a2
 obtain⟨p1,p8,rfl⟩:=(Ze a2).slice
 have a1:=Za (Za (Za (g2.own2 (Za o1 c0.below) c0.blk Do) b2) b4) b6
 have h9:=bln (bln (bln (g2.below (bln g7 c0.below) o0) b2) b4) b6
 refine xbi 0 fun _ _ _ _ zJ zQ zo zx zy zK=>Zr (m:=2) (news:=(leB (v) 2).map bv) (.int .u8 0) 1 1 (6) ((leB (f) 1++leB (t) 1++leB (k) 2++leB (v) 2).map bv) zo Tryz.underlying50 K0 rfl Do zx a1 zy (Ze a2) (by simp[Zj]) (Xw _) (by unfold maxLen;omega) M0 h9.size (by rfl) (by simp) fun p9 p2 t6 q9 c7 m6=>?_
 refine zK _ _ ?_
 have g5:=((((g2.blk (g6.below c0.below) j4).below b2).below b4).below b6).grown c7 a1 Do
 refine xlv 23 (g5.rpp 8 2) ?_
 refine xa 0 [V0 0,V0 0] 178 fun s5 t1 b5=>?_
 have h8:=b5.ne g5
 have h4:=((((g2.blk (j2.below c0.below) e9).below b2).below b4).below b6).grown c7 a1 Do
 have h0:=b5.ne h4
 have j5:=((((g2.blk (i4.below c0.below) f6).below b2).below b4).below b6).grown c7 a1 Do
 have f2:=b5.ne j5
 have e6:=((((g2.blk (e3.below c0.below) d7).below b2).below b4).below b6).grown c7 a1 Do
 have d6:=b5.ne e6
 have e4:=(d5.below b6).grown c7 a1 Do
 have e0:=b5.ne e4
 have g0:=h9.trans m6
 have n7:=b5.ge g0
 refine xsv 0 b5.blk [V0 2,V0 m] fun r7 e7 n4=>?_
 refine xb 6 0 n4 ?_
 refine xr 0 (args:=#[V0 2]) (Sq _) fun s4 a3=>?_
 have d1:=n4.below a3
 refine xb 10 1 d1 ?_
 refine xb 1 0 d1 ?_
 refine xr 0 (args:=#[V0 m,V0 2]) (Zc4 (m) (hm) (hm2) _) fun t2 a6=>?_
 have c9:=d1.below a6
 refine xb 9 1 c9 ?_
 refine xb 1 0 c9 ?_
 refine xc 0 (args:=#[V0 m,V0 2]) (Sz (m) (hm) _) ?_
 rintro _ t0 ⟨_,rfl,b0,m4⟩
 have l5:=(bln (bln (e7.below (bln g0 b5.below) n7) a3) a6).size
 have a5:=Zf m4 l5
 unfold Pj at a5
 rw[Zj] at a5
 obtain⟨q7,p7,rfl⟩:=(Ze a5).slice
 have a0:=Za (Za (Za (e7.own2 (Za q9 b5.below) b5.blk Do) a3) a6) b0
 have h7:=bln (bln (bln (e7.below (bln g0 b5.below) n7) a3) a6) b0
 refine xbi 0 fun _ _ _ _ zJ zQ zo zx zy zK=>Zr (m:=2) (news:=(leB (m) 2).map bv) (.int .u8 0) 1 1 (8) ((leB (f) 1++leB (t) 1++leB (k) 2++leB (v) 2++leB (m) 2).map bv) zo Tryz.underlying50 K0 rfl Do zx a0 zy (Ze a5) (by simp[Zj]) (Xw _) (by unfold maxLen;omega) M0 h7.size (by rfl) (by simp) fun q2 q3 u4 o2 c2 m2=>?_
 refine zK _ _ ?_
 have h5:=((((e7.blk (g5.below b5.below) h8).below a3).below a6).below b0).grown c2 a0 Do
 refine xlv 23 (h5.rpp 10 2) ?_
 refine xa 0 [V0 0,V0 0] 178 fun s1 s9 c5=>?_
 have n2:=c5.ne h5
 have l7:=((((e7.blk (h4.below b5.below) h0).below a3).below a6).below b0).grown c2 a0 Do
 have l2:=c5.ne l7
 have m8:=((((e7.blk (j5.below b5.below) f2).below a3).below a6).below b0).grown c2 a0 Do
 have l3:=c5.ne m8
 have i5:=((((e7.blk (e6.below b5.below) d6).below a3).below a6).below b0).grown c2 a0 Do
 have j6:=c5.ne i5
 have i0:=((((e7.blk (e4.below b5.below) e0).below a3).below a6).below b0).grown c2 a0 Do
 have j9:=c5.ne i0
 have j0:=(c9.below b0).grown c2 a0 Do
 have k0:=c5.ne j0
 have f4:=h7.trans m2
 have n0:=c5.ge f4
 refine xsv 0 c5.blk [V0 4,V0 0] fun r8 k7 n5=>?_
 refine xb 6 0 n5 ?_
 refine xr 0 (args:=#[V0 4]) (Tm _) fun t7 d8=>?_
 have d4:=n5.below d8
 refine xb 10 1 d4 ?_
 refine xb 1 0 d4 ?_
 refine xr 0 (args:=#[V0 0,V0 4]) (Zc7 (0) Do Do _) fun t5 e2=>?_
 have e8:=d4.below e2
 refine xb 9 1 e8 ?_
 refine xb 1 0 e8 ?_
 refine xc 0 (args:=#[V0 0,V0 4]) (Tl (0) Do _) ?_
 rintro _ r5 ⟨_,rfl,j3,k8⟩
 have l8:=(bln (bln (k7.below (bln f4 c5.below) n0) d8) e2).size
 have a7:=Zf k8 l8
 unfold Pj at a7
 rw[Zj] at a7
 obtain⟨o9,o8,rfl⟩:=(Ze a7).slice
 have i7:=Za (Za (Za (k7.own2 (Za o2 c5.below) c5.blk Do) d8) e2) j3
 have e5:=bln (bln (bln (k7.below (bln f4 c5.below) n0) d8) e2) j3
 refine xbi 0 fun _ _ _ _ zJ zQ zo zx zy zK=>Zr (m:=4) (news:=(leB (0) 4).map bv) (.int .u8 0) 1 1 (12) ((leB (f) 1++leB (t) 1++leB (k) 2++leB (v) 2++leB (m) 2++leB (0) 4).map bv) zo Tryz.underlying50 K0 rfl Do zx i7 zy (Ze a7) (by simp[Zj]) (Xw _) (by unfold maxLen;omega) M0 e5.size (by rfl) (by simp) fun k1 l1 u0 o5 o3 l6=>?_
 refine zK _ _ ?_
 have h6:=e5.trans l6
 exact xe 29 (.tuple #[.slice k1 12 l1,V0 0]) ⟨_,rfl,h6,_,_,rfl,o5⟩
theorem Ch{n:Nat}(h:n<4294967296):IntKind.u32.wrap (n:Int)=(n:Int):=by
 simp[IntKind.wrap,IntKind.bits,IntKind.signed];omega
theorem Cy{a b:Nat}(ha:a<4294967296)(hb:b<4294967296):IntKind.u32.wrap (↑(BitVec.ofInt 32 (a:Int) ^^^ BitVec.ofInt 32 (b:Int)).toNat:Int)=((a ^^^ b:Nat):Int):=by
 rw[E6,E6,BitVec.toNat_xor,F3,F3,F0 ha,F0 hb]
 exact Ch (E3 (n:=32) ha hb)
theorem Zbe{a b:Nat}(ha:a<4294967296)(hb:b<4294967296):IntKind.u32.wrap (↑(BitVec.ofInt 32 (a:Int) &&& BitVec.ofInt 32 (b:Int)).toNat:Int)=((a &&& b:Nat):Int):=by
 rw[E6,E6,BitVec.toNat_and,F3,F3,F0 ha,F0 hb]
 exact Ch (Is Nat.and_le_left ha)
theorem Ee(a:Nat)(k:Nat):Int.fdiv (a:Int) (2 ^ k)=((a/2 ^ k:Nat):Int):=by
 rw[Int.fdiv_eq_ediv_of_nonneg _ (Int.pow_nonneg Do)]
 simp
def Hv(r:Nat):Nat:=if r%2=1 then(r/2) ^^^ 2197175160 else r/2
def Xz:Nat→Nat→Nat
 | 0,r=>r
 | j+1,r=>Hv (Xz j r)
def Pr(n:Nat):Nat:=Xz 4 n
theorem step1_lt{r:Nat}(h:r<4294967296):Hv r<4294967296:=by
 unfold Hv
 split
 ·exact E3 (n:=32) M0 Do
 ·omega
theorem Cl{j r:Nat}(h:r<4294967296):Xz j r<4294967296:=by
 induction j with
 | zero=>exact h
 | succ j ih=>exact step1_lt ih
theorem half_lt{r:Nat}(h:r<4294967296):Pr r<4294967296:=Cl h
def Qb(k:Nat):List Value:=(List.range 16).map fun i=>.int .u32 (if i<k then(Pr i:Int) else 0)
def Hi:List Value:=(List.range 16).map fun i=>.int .u32 (Pr i:Int)
theorem Zaw{k:Nat}(h:k<16):(Qb k).set k (.int .u32 (Pr k:Int))=Qb (k+1):=by
 apply G0
 intro i
 by_cases hi:i<16
 ·by_cases e:k=i
  ·subst e
   rw[K8 (by simpa [Qb] using h)]
   simp[Qb,B7 hi]
  ·rw[L0 e]
   simp only[Qb,B9,B7 hi,C7]
   by_cases h3:i<k
   ·rw[if_pos h3,if_pos M0]
   ·rw[if_neg h3,if_neg M0]
 ·rw[C5 (by simp[Qb];omega),C5 (by simp[Qb];omega)]
theorem Zav:Qb 16=Hi:=by
 unfold Qb Hi
 apply H9
 intro i hi
 rw[if_pos (D9.1 hi)]
theorem Em{k:Nat}(h:k<16):Hi[k]? = some (.int .u32 (Pr k:Int)):=by
 simp[Hi,B7 h]
theorem and_one(a:Nat):a &&& 1=a%2:=Nat.and_one_is_mod a
theorem and_15(a:Nat):a &&& 15=a%16:=Nat.and_two_pow_sub_one_eq_mod a 4
theorem Zgc(w:World) :
 C0 281 #[] w (Ret (.agg Hi.toArray) w):=by
 refine zin 26 Tryz.func281 ?_
 refine xa 2 [.int .u32 0,.int .u32 0,.int .u32 0,.int .u32 0,.int .u32 0,.int .u32 0,.int .u32 0,.int .u32 0,.int .u32 0,.int .u32 0,.int .u32 0,.int .u32 0,.int .u32 0,.int .u32 0,.int .u32 0,.int .u32 0] 390 fun b1 W1 n1=>?_
 refine xa 4 [.int .u32 0,.int .u32 0,.int .u32 0,.int .u32 0,.int .u32 0,.int .u32 0,.int .u32 0,.int .u32 0,.int .u32 0,.int .u32 0,.int .u32 0,.int .u32 0,.int .u32 0,.int .u32 0,.int .u32 0,.int .u32 0] 390 fun b2 W2 n2=>?_
 have a7:=n2.ne n1.blk
 have hB:=bln n1.below n2.below
 have a9:=n1.blk.below n2.below
 refine zl 9 26 (fun zm b0 V=>∃ (k:Nat),b0=[(0,P0 b1),(1,P0 b2),(5,V0 (k:Int))]∧zm=16-((k:Int)).toNat∧B3 w V∧Blk V b1 ([.int .u32 0,.int .u32 0,.int .u32 0,.int .u32 0,.int .u32 0,.int .u32 0,.int .u32 0,.int .u32 0,.int .u32 0,.int .u32 0,.int .u32 0,.int .u32 0,.int .u32 0,.int .u32 0,.int .u32 0,.int .u32 0]) 390∧Blk V b2 (Qb k) 390∧k≤16) ⟨0,rfl,rfl,hB,a9,n2.blk,by decide⟩ ?_
 rintro _ _ W3 ⟨k,rfl,rfl,a6,a4,a3,hk⟩ J3 b6 r3
 refine xid 6 ((k:Int)<(16:Int)) (fun b7=>?_) (fun b7=>?_)
 ·refine xq 13 (congrArg (Value.int .u32) (show(IntKind.u32.wrap (k:Int):Int)=(k:Int) from Ch M0)) ?_
  refine zl 10 26 (fun zm b0 V=>∃ (j:Nat),b0=[(0,P0 b1),(1,P0 b2),(2,V0 (k:Int)),(3,.int .u32 (↑(Xz j k):Int)),(5,V0 (k:Int)),(10,V0 (j:Int))]∧zm=4-((j:Int)).toNat∧B3 w V∧Blk V b1 ([.int .u32 0,.int .u32 0,.int .u32 0,.int .u32 0,.int .u32 0,.int .u32 0,.int .u32 0,.int .u32 0,.int .u32 0,.int .u32 0,.int .u32 0,.int .u32 0,.int .u32 0,.int .u32 0,.int .u32 0,.int .u32 0]) 390∧Blk V b2 (Qb k) 390∧j≤4) ⟨0,rfl,rfl,a6,a4,a3,by decide⟩ ?_
  rintro _ _ W5 ⟨j,rfl,rfl,a5,a0,a1,hj⟩ J5 b4 r5
  have hr:Xz j k<4294967296:=Cl M0
  refine xid 6 ((j:Int)<(4:Int)) (fun b8=>?_) (fun b8=>?_)
  ·refine xq 7 (congrArg (Value.int .u32) (show(IntKind.u32.wrap (↑(BitVec.ofInt 32 (↑(Xz j k):Int) &&& BitVec.ofInt 32 (1:Int)).toNat:Int):Int)=(↑((Xz j k)%2):Int) from(Zbe (b:=1) hr Do).trans (by rw[and_one]))) ?_
   refine xq 6 (congrArg (Value.int .u32) (show(Int.fdiv (↑(Xz j k):Int) (2 ^ 1):Int)=(↑((Xz j k)/2):Int) from Ee _ 1)) ?_
   refine xie 9 (↑((Xz j k)%2):Int) (1:Int) (fun b5=>?_) (fun b5=>?_)
   ·refine xq 2 (congrArg (Value.int .u32) (show(IntKind.u32.wrap (↑(BitVec.ofInt 32 (↑((Xz j k)/2):Int) ^^^ BitVec.ofInt 32 (2197175160:Int)).toNat:Int):Int)=(↑(((Xz j k)/2) ^^^ 2197175160):Int) from Cy (b:=2197175160) M0 Do)) ?_
    refine xw 5 ((j:Int)+1) ?_
    refine xv1 2 3 (show(.int .u32 (↑(((Xz j k)/2) ^^^ 2197175160):Int):Value)=.int .u32 (↑(Xz (j+1) k):Int) from by rw[show Xz (j+1) k=(((Xz j k)/2) ^^^ 2197175160) by simp only[Xz,Hv];first|rw[if_pos M0]|rw[if_neg M0]]) ?_
    exact ze 0 (b4 _ _ _ ⟨j+1,rfl,rfl,a5,a0,a1,by omega⟩ M0)
   refine xw 4 ((j:Int)+1) ?_
   refine xv1 2 3 (show(.int .u32 (↑((Xz j k)/2):Int):Value)=.int .u32 (↑(Xz (j+1) k):Int) from by rw[show Xz (j+1) k=((Xz j k)/2) by simp only[Xz,Hv];first|rw[if_pos M0]|rw[if_neg M0]]) ?_
   exact ze 0 (b4 _ _ _ ⟨j+1,rfl,rfl,a5,a0,a1,by omega⟩ M0)
  refine xia 8 (fun _ _ _ _ zo zx zy V=>My (k:=k) (b:=b2) (off:=0) (i:=(k:Int)) (ki:=.i64) 1 k zo zx zy rfl M0 M0 Tryz.underlying390 K0 V) ?_
  refine xsg 0 a1 k (.int .u32 (↑(Xz j k):Int)) (by first|decide|(simp[Qb];omega)) fun W8 u8 k8=>?_
  replace k8:Blk W8 b2 (Qb (k+1)) 390:=by rw[←(show(Qb k).set k (.int .u32 (↑(Xz j k):Int))=Qb (k+1) from by rw[show j=4 by omega];exact Zaw M0)];exact k8
  have g2:=n2.ge n1.below
  refine xw 4 ((k:Int)+1) ?_
  have a8:=u8.below a5 g2
  have a2:=u8.blk a0 a7
  exact ze 2 (b6 _ _ _ ⟨k+1,rfl,rfl,a8,a2,k8,by omega⟩ M0)
 refine xlv 7 a3.rp ?_
 refine xsvg 0 a4 0 (Qb k) (by simp[Qb,Value.oneCell']) (by simp[Qb]) fun W9 u9 k9=>?_
 change Blk _ _ (Qb k) _ at k9
 have g1:=n1.ge (B4 w)
 have b3:=u9.below a6 g1
 refine xec 3 k9 (.agg (Qb k).toArray) ?_
 rw[show k=16 by omega,Zav]
 exact⟨rfl,b3⟩
def Tb(r:Nat)(x:UInt8):Nat:=((((r ^^^ x.toNat)/16) ^^^ Pr ((r ^^^ x.toNat)%16))/16) ^^^ Pr ((((r ^^^ x.toNat)/16) ^^^ Pr ((r ^^^ x.toNat)%16))%16)
def Xc(r:Nat)(l:Bl):Nat:=l.foldl Tb r
theorem Zex(x:UInt8):x.toNat<4294967296:=Nat.lt_trans x.toNat_lt Do
theorem Ut(n:Nat):Pr (n%16)<4294967296:=half_lt M0
theorem Zgm{r:Nat}(h:r<4294967296)(x:UInt8):Tb r x<4294967296:=by
 have h1:r ^^^ x.toNat<4294967296:=E3 (n:=32) h (Zex x)
 have h2:((r ^^^ x.toNat)/16) ^^^ Pr ((r ^^^ x.toNat)%16)<4294967296:=E3 (n:=32) M0 (Ut _)
 exact E3 (n:=32) M0 (Ut _)
theorem Hx{r:Nat}(h:r<4294967296)(l:Bl):Xc r l<4294967296:=by
 unfold Xc
 induction l generalizing r with
 | nil=>exact h
 | cons x l ih=>exact ih (Zgm h x)
theorem Ed{r:Nat}{l:Bl}{k:Nat}(h:k<l.length):Xc r (l.take (k+1))=Tb (Xc r (l.take k)) (l.getD k 0):=by
 unfold Xc
 rw[A8 h,List.foldl_append]
 simp[List.getD,B5 h]
theorem Bys.elem{w:World}{b:O0}{c:Nat}{l:Bl}(h:Bys w (.slice b l.length c) l){k:Nat}(hk:k<l.length):b.isSome=true∧w.cell? (Xa b (k*1))=some (.int .u8 ((l.getD k 0).toNat:Int)):=by
 refine Sl.elem h ?_
 rw[D5,B9,B5 hk]
 simp[List.getD,B5 hk,bv]
theorem u32_byte(x:UInt8):IntKind.u32.wrap (x.toNat:Int)=(x.toNat:Int):=Ch (Zex x)
theorem crc_run(r:Nat)(hr0:r<4294967296)(a:O0)(c:Nat)(l:Bl)(w:World)(h:Bys w (.slice a l.length c) l)(hl:l.length≤100000000) :
 C0 264 #[.int .u32 (r:Int),.slice a l.length c] w (Ret (.int .u32 (Xc r l:Int)) w):=by
 refine zin 35 Tryz.func264 ?_
 refine xr 7 (args:=#[]) (Zgc _) fun W1 a2=>?_
 refine xa 0 [.int .u32 0,.int .u32 0,.int .u32 0,.int .u32 0,.int .u32 0,.int .u32 0,.int .u32 0,.int .u32 0,.int .u32 0,.int .u32 0,.int .u32 0,.int .u32 0,.int .u32 0,.int .u32 0,.int .u32 0,.int .u32 0] 390 fun b2 W2 n2=>?_
 refine xsvg 0 n2.blk 0 Hi (by simp[Hi,Value.oneCell']) (by simp[Hi]) fun W3 u3 k3=>?_
 change Blk _ _ Hi _ at k3
 have g2:=n2.ge a2
 have hB:=u3.below (bln a2 n2.below) g2
 refine zl 11 35 (fun zm a5 V=>∃ (k:Nat),a5=[(0,.int .u32 (↑(Xc r (l.take k)):Int)),(4,.int .u32 0),(5,P0 b2),(9,.slice a l.length c),(10,V0 (l.length:Int)),(11,V0 (k:Int))]∧zm=l.length-((k:Int)).toNat∧B3 w V∧Blk V b2 Hi 390∧k≤l.length) ⟨0,rfl,rfl,hB,k3,A3 _⟩ ?_
 rintro _ _ W4 ⟨k,rfl,rfl,a1,a0,hk⟩ J4 a4 r4
 have h0:Xc r (l.take k)<4294967296:=Hx hr0 _
 have h1:(Xc r (l.take k)) ^^^ (l.getD k 0).toNat<4294967296:=E3 (n:=32) h0 (Zex _)
 have h2:(((Xc r (l.take k)) ^^^ (l.getD k 0).toNat)/16) ^^^ Pr (((Xc r (l.take k)) ^^^ (l.getD k 0).toNat)%16)<4294967296:=E3 (n:=32) M0 (Ut _)
 refine xid 6 ((k:Int)<(l.length:Int)) (fun a3=>?_) (fun a3=>?_)
 ·refine xx 6 _ l.length k 1 (Bys.elem h (k:=k) M0).1 ?_
  refine xl 0 ((Bys.elem (h.below a1) (k:=k) M0).2) ?_
  refine xq 7 (congrArg (Value.int .u32) (show(IntKind.u32.wrap (↑(l.getD k 0).toNat:Int):Int)=(↑(l.getD k 0).toNat:Int) from u32_byte _)) ?_
  refine xq 0 (congrArg (Value.int .u32) (show(IntKind.u32.wrap (↑(BitVec.ofInt 32 (↑(Xc r (l.take k)):Int) ^^^ BitVec.ofInt 32 (↑(l.getD k 0).toNat:Int)).toNat:Int):Int)=(↑((Xc r (l.take k)) ^^^ (l.getD k 0).toNat):Int) from Cy h0 (Zex _))) ?_
  refine xq 6 (congrArg (Value.int .u32) (show(Int.fdiv (↑((Xc r (l.take k)) ^^^ (l.getD k 0).toNat):Int) (2 ^ 4):Int)=(↑(((Xc r (l.take k)) ^^^ (l.getD k 0).toNat)/16):Int) from Ee _ 4)) ?_
  refine xq 1 (congrArg (Value.int .u32) (show(IntKind.u32.wrap (↑(BitVec.ofInt 32 (↑((Xc r (l.take k)) ^^^ (l.getD k 0).toNat):Int) &&& BitVec.ofInt 32 (15:Int)).toNat:Int):Int)=(↑(((Xc r (l.take k)) ^^^ (l.getD k 0).toNat)%16):Int) from(Zbe (b:=15) h1 Do).trans (by rw[and_15]))) ?_
  refine xia 0 (fun _ _ _ _ zo zx zy V=>My (k:=(((Xc r (l.take k)) ^^^ (l.getD k 0).toNat)%16)) (b:=b2) (off:=0) (i:=(↑(((Xc r (l.take k)) ^^^ (l.getD k 0).toNat)%16):Int)) (ki:=.u32) 1 (((Xc r (l.take k)) ^^^ (l.getD k 0).toNat)%16) zo zx zy rfl M0 M0 Tryz.underlying390 K0 V) ?_
  refine xl 0 (a0.cell (i:=(((Xc r (l.take k)) ^^^ (l.getD k 0).toNat)%16)) (Em M0)) ?_
  refine xq 0 (congrArg (Value.int .u32) (show(IntKind.u32.wrap (↑(BitVec.ofInt 32 (↑(((Xc r (l.take k)) ^^^ (l.getD k 0).toNat)/16):Int) ^^^ BitVec.ofInt 32 (↑(Pr (((Xc r (l.take k)) ^^^ (l.getD k 0).toNat)%16)):Int)).toNat:Int):Int)=(↑((((Xc r (l.take k)) ^^^ (l.getD k 0).toNat)/16) ^^^ Pr (((Xc r (l.take k)) ^^^ (l.getD k 0).toNat)%16)):Int) from Cy (Is (K3 _ _) h1) (Ut _))) ?_
  refine xq 5 (congrArg (Value.int .u32) (show(Int.fdiv (↑((((Xc r (l.take k)) ^^^ (l.getD k 0).toNat)/16) ^^^ Pr (((Xc r (l.take k)) ^^^ (l.getD k 0).toNat)%16)):Int) (2 ^ 4):Int)=(↑(((((Xc r (l.take k)) ^^^ (l.getD k 0).toNat)/16) ^^^ Pr (((Xc r (l.take k)) ^^^ (l.getD k 0).toNat)%16))/16):Int) from Ee _ 4)) ?_
  refine xq 1 (congrArg (Value.int .u32) (show(IntKind.u32.wrap (↑(BitVec.ofInt 32 (↑((((Xc r (l.take k)) ^^^ (l.getD k 0).toNat)/16) ^^^ Pr (((Xc r (l.take k)) ^^^ (l.getD k 0).toNat)%16)):Int) &&& BitVec.ofInt 32 (15:Int)).toNat:Int):Int)=(↑(((((Xc r (l.take k)) ^^^ (l.getD k 0).toNat)/16) ^^^ Pr (((Xc r (l.take k)) ^^^ (l.getD k 0).toNat)%16))%16):Int) from(Zbe (b:=15) h2 Do).trans (by rw[and_15]))) ?_
  refine xia 0 (fun _ _ _ _ zo zx zy V=>My (k:=(((((Xc r (l.take k)) ^^^ (l.getD k 0).toNat)/16) ^^^ Pr (((Xc r (l.take k)) ^^^ (l.getD k 0).toNat)%16))%16)) (b:=b2) (off:=0) (i:=(↑(((((Xc r (l.take k)) ^^^ (l.getD k 0).toNat)/16) ^^^ Pr (((Xc r (l.take k)) ^^^ (l.getD k 0).toNat)%16))%16):Int)) (ki:=.u32) 1 (((((Xc r (l.take k)) ^^^ (l.getD k 0).toNat)/16) ^^^ Pr (((Xc r (l.take k)) ^^^ (l.getD k 0).toNat)%16))%16) zo zx zy rfl M0 M0 Tryz.underlying390 K0 V) ?_
  refine xl 0 (a0.cell (i:=(((((Xc r (l.take k)) ^^^ (l.getD k 0).toNat)/16) ^^^ Pr (((Xc r (l.take k)) ^^^ (l.getD k 0).toNat)%16))%16)) (Em M0)) ?_
  refine xq 0 (congrArg (Value.int .u32) (show(IntKind.u32.wrap (↑(BitVec.ofInt 32 (↑(((((Xc r (l.take k)) ^^^ (l.getD k 0).toNat)/16) ^^^ Pr (((Xc r (l.take k)) ^^^ (l.getD k 0).toNat)%16))/16):Int) ^^^ BitVec.ofInt 32 (↑(Pr (((((Xc r (l.take k)) ^^^ (l.getD k 0).toNat)/16) ^^^ Pr (((Xc r (l.take k)) ^^^ (l.getD k 0).toNat)%16))%16)):Int)).toNat:Int):Int)=(↑((((((Xc r (l.take k)) ^^^ (l.getD k 0).toNat)/16) ^^^ Pr (((Xc r (l.take k)) ^^^ (l.getD k 0).toNat)%16))/16) ^^^ Pr (((((Xc r (l.take k)) ^^^ (l.getD k 0).toNat)/16) ^^^ Pr (((Xc r (l.take k)) ^^^ (l.getD k 0).toNat)%16))%16)):Int) from Cy (Is (K3 _ _) h2) (Ut _))) ?_
  refine xw 5 ((k:Int)+1) ?_
  refine xv1 2 0 (show(.int .u32 (↑((((((Xc r (l.take k)) ^^^ (l.getD k 0).toNat)/16) ^^^ Pr (((Xc r (l.take k)) ^^^ (l.getD k 0).toNat)%16))/16) ^^^ Pr (((((Xc r (l.take k)) ^^^ (l.getD k 0).toNat)/16) ^^^ Pr (((Xc r (l.take k)) ^^^ (l.getD k 0).toNat)%16))%16)):Int):Value)=.int .u32 (↑(Xc r (l.take (k+1))):Int) from by rw[Ed M0];rfl) ?_
  exact ze 0 (a4 _ _ _ ⟨k+1,rfl,rfl,a1,a0,by omega⟩ M0)
 refine xe 12 (.int .u32 (↑(Xc r (l.take k)):Int)) ?_
 rw[A1 M0]
 exact⟨rfl,a1⟩
def Kl(l:Bl):Nat:=Xc 4294967295 l ^^^ 4294967295
theorem Uj(l:Bl):Kl l<4294967296:=E3 (n:=32) (Hx Do l) Do
theorem Cv{n:Nat}(h:n<9223372036854775808):IntKind.i64.wrap (n:Int)=(n:Int):=IntWalk.i64_in _ M0
theorem Dd{a b:Nat}(ha:a<4294967296)(hb:b<4294967296):IntKind.i64.wrap (↑(BitVec.ofInt 64 (a:Int) ^^^ BitVec.ofInt 64 (b:Int)).toNat:Int)=((a ^^^ b:Nat):Int):=by
 rw[E6,E6,BitVec.toNat_xor,F3,F3,F0 M0,F0 M0]
 have:=E3 (n:=32) ha hb
 exact Cv M0
theorem crc_Sum1(g:Nat)(a:O0)(c:Nat)(l:Bl)(w:World)(hk:Blk w g [.slice a l.length c] 50)(h:Bys w (.slice a l.length c) l)(hl:l.length≤100000000) :
 C0 223 #[.slice (S1 g) 1 1] w (Ret (V0 (Kl l:Int)) w):=by
 refine zin 19 Tryz.func223 ?_
 refine xu 19 3 ?_
 refine xb 14 0 hk ?_
 refine xr 6 (args:=#[.int .u32 4294967295,.slice a l.length c]) (crc_run 4294967295 Do a c l _ (h.below (B4 w)) hl) fun W1 a0=>?_
 refine xq 24 (congrArg (Value.int .u32) (show(IntKind.u32.wrap (↑(BitVec.ofInt 32 (↑(Xc 4294967295 l):Int) ^^^ BitVec.ofInt 32 (4294967295:Int)).toNat:Int):Int)=(↑(Kl l):Int) from Cy (b:=4294967295) (Hx Do l) Do)) ?_
 refine xq 0 (congrArg V0 (show(IntKind.i64.wrap (↑(Kl l):Int):Int)=(↑(Kl l):Int) from Cv (by have:=Uj l;omega))) ?_
 exact xe 4 (V0 (↑(Kl l):Int)) ⟨rfl,a0⟩
theorem Zjn(g:Nat)(a:O0)(n c:Nat)(l:Bl)(w:World)(hn:l.length=n)(hk:Blk w g [.slice a n c] 50)(h:Bys w (.slice a n c) l)(hl:n≤100000000) :
 C0 223 #[.slice (S1 g) 1 1] w (Ret (V0 (Kl l:Int)) w):=by
 subst hn;exact crc_Sum1 g a c l w hk h hl
def Hm(kind:Int):Nat:=if kind=1 then 160774 else if kind=2 then 121107 else if kind=3 then 240779 else if kind=4 then 160478 else 0
theorem Ca(kind:Int):Hm kind<4294967296:=by unfold Hm;(repeat' split)<;>omega
theorem Zj0(kind:Int)(w:World) :
 C0 224 #[V0 kind] w (Ret (V0 (Hm kind:Int)) w):=by
 refine zin 12 Tryz.func224 ?_
 refine xie 18 kind (1:Int) (fun a1=>?_) (fun a1=>?_)
 ·exact xe 8 (V0 160774) ⟨by simp_all [Hm],(B4 w)⟩
 refine xie 6 kind (2:Int) (fun a0=>?_) (fun a0=>?_)
 ·exact xe 8 (V0 121107) ⟨by simp_all [Hm],(B4 w)⟩
 refine xie 6 kind (3:Int) (fun a2=>?_) (fun a2=>?_)
 ·exact xe 8 (V0 240779) ⟨by simp_all [Hm],(B4 w)⟩
 refine xie 6 kind (4:Int) (fun a3=>?_) (fun a3=>?_)
 ·exact xe 8 (V0 160478) ⟨by simp_all [Hm],(B4 w)⟩
 exact xe 9 (V0 0) ⟨by simp_all [Hm],(B4 w)⟩
theorem Zg9(kind no:Int)(h1:1≤kind)(h2:kind≤4)(h3:0≤no)(h4:no<14400)(w:World) :
 C0 165 #[V0 kind,V0 no] w (Ret (.bool true) w):=by
 refine zin 19 Tryz.func165 ?_
 refine xgk 10 [6,7] (show(decide (kind≥(1:Int)):Bool)=true from decide_eq_true h1) ?_
 refine xgk 4 [9,10,11] (show(decide (kind≤(4:Int)):Bool)=true from decide_eq_true h2) ?_
 refine xgk 4 [13,14,15] (show(decide (no≥(0:Int)):Bool)=true from decide_eq_true h3) ?_
 exact xe 7 (.bool (decide (no<(14400:Int)))) ⟨by rw[decide_eq_true h4],(B4 w)⟩
theorem Bys.take{w:World}{a:O0}{n c:Nat}{l:Bl}(h:Bys w (.slice a n c) l)(hn:l.length=n)(m:Nat)(hm:m≤n):Bys w (.slice a m c) (l.take m):=by
 have a0:(l.take m).length=m:=by simp;omega
 rcases h with ⟨a',c',h1,h2,h3⟩|⟨b,a2,a3,h1,h2,h3,h4⟩
 ·obtain rfl:m=0:=by omega
  simp only[B6] at h1
  exact .inl ⟨a,c,rfl,by simp,by simp⟩
 ·simp only[B6] at h1
  obtain⟨rfl,_,rfl⟩:=h1
  refine .inr ⟨b,a2,c,by rw[a0],by omega,h3,fun j x hj=>h4 j x ?_⟩
  have a1:j<m:=by have:=(List.getElem?_eq_some_iff.1 hj).1;simp at this;omega
  rwa [Gt,F5 a1] at hj
def sumB(l:Bl)(kind:Int):Nat:=Kl (l.take 252) ^^^ Hm kind
theorem sumB_lt(l:Bl)(kind:Int):sumB l kind<4294967296:=E3 (n:=32) (Uj _) (Ca _)
theorem seal_sum(kind:Int)(a:O0)(c:Nat)(l:Bl)(w:World)(hn:l.length=256)(hc:256≤c)(h:Bys w (.slice a 256 c) l) :
 C0 167 #[.slice a 256 c,V0 kind] w (Ret (V0 (sumB l kind:Int)) w):=by
 refine zin 12 Tryz.func167 ?_
 refine xsH 8 (fun _ _ _ _ zo zx zy V=>Gd (k:=252) (b:=a) (n:=256) (c:=c) (i:=252) (ki:=.i64) zo zx zy rfl M0 Tryz.underlying50 K0 V) ?_
 refine xbs 0 1 [.slice a 252 c] 50 fun b1 W1 n1=>?_
 refine xr 0 (args:=#[.slice (S1 b1) 1 1]) (Zjn b1 a 252 c (l.take 252) _ (by simp;omega) n1.blk ((h.take hn 252 Do).below n1.below) Do) fun W2 a2=>?_
 refine xr 1 (args:=#[V0 kind]) (Zj0 kind _) fun W3 a1=>?_
 refine xq 0 (congrArg V0 (show(IntKind.i64.wrap (↑(BitVec.ofInt 64 (↑(Kl (l.take 252)):Int) ^^^ BitVec.ofInt 64 (↑(Hm kind):Int)).toNat:Int):Int)=(↑(sumB l kind):Int) from Dd (Uj _) (Ca _))) ?_
 have a0:=bln (bln n1.below a2) a1
 exact xe 4 (V0 (↑(sumB l kind):Int)) ⟨rfl,a0⟩
theorem Kk{l:Bl}{k:Nat}{x:Bl}(h:k+x.length≤l.length):(Km l k x).length=l.length:=by simp[Km];omega
theorem Ea(n:Nat):Hn (Value.int .u8 0).cells.toList n=(List.replicate n (0:UInt8)).map bv:=by
 rw[show(Value.int .u8 0).cells.toList=[Value.int .u8 0] from rfl,Hn,K6]
 induction n with
 | zero=>rfl
 | succ n ih=>rw[H0,K7,ih,H0];rfl
theorem Ya{w:World}{v:Value}{n:Nat}{l:Bl}(h:Sl w v n (l.map bv))(hn:l.length=n):Bys w v l:=by subst hn;exact h
theorem Ao{w:World}{base n c size:Nat}{e:TypeId}{p:O0}{xs:List Value}(h:w.ownsRow base e size (.slice p n c) n xs)(hn:0<n):n≤c:=by
 rcases h.2 with ⟨_,h0⟩|⟨g,a0,a1,hv,_,_,hc,_⟩
 ·omega
 ·simp only[B6] at hv;omega
theorem putN{m:Nat}{l:Bl}{k:Nat}{x:Bl}{w:World}{e:Ending}{w':World}(hm:l.length=m)(hk:k+x.length≤m)(h:Qo (fun w' r=>∃ v,r=.tuple #[v,V0 0]∧Pj w.heap.size w' v (Km l k x)) w e w') :
 Qo (fun w' r=>∃ p c,r=.tuple #[.slice p m c,V0 0]∧w'.ownsRow w.heap.size 5 1 (.slice p m c) m ((Km l k x).map bv)) w e w':=by
 obtain⟨r,h1,h2,v,h3,h4⟩:=h
 unfold Pj at h4
 rw[Kk M0,hm] at h4
 obtain⟨p,c,rfl⟩:=(Ze h4).slice
 exact⟨r,h1,h2,p,c,h3,h4⟩
theorem Put_4N(a:O0)(m c k:Nat)(ki:Int)(l:Bl)(n:Int)(w:World)(hm:l.length=m)(hki:ki=(k:Int))(h:Bys w (.slice a m c) l)(hl:m≤100000)(hk:k+4≤m)(h0:0≤n)(hb:n<4294967296) :
 C0 166 #[.slice a m c,V0 ki,V0 4,V0 n] w (Qo (fun w' r=>∃ p c,r=.tuple #[.slice p m c,V0 0]∧w'.ownsRow w.heap.size 5 1 (.slice p m c) m ((Km l k (leB n 4)).map bv)) w):=by
 subst hki
 refine(show Calls _ _ #[.slice a m c,V0 (k:Int),V0 4,V0 n] w _ from ?_)
 have:=Put_4 a c k l n w (by rw[hm];exact h) M0 M0 h0 hb
 rw[hm] at this
 exact this.mono fun e w' q=>putN hm (by rw[Zj];omega) q
theorem Put_2N(a:O0)(m c k:Nat)(ki:Int)(l:Bl)(n:Int)(w:World)(hm:l.length=m)(hki:ki=(k:Int))(h:Bys w (.slice a m c) l)(hl:m≤100000)(hk:k+2≤m)(h0:0≤n)(hb:n<65536) :
 C0 166 #[.slice a m c,V0 ki,V0 2,V0 n] w (Qo (fun w' r=>∃ p c,r=.tuple #[.slice p m c,V0 0]∧w'.ownsRow w.heap.size 5 1 (.slice p m c) m ((Km l k (leB n 2)).map bv)) w):=by
 subst hki
 have:=Put_2 a c k l n w (by rw[hm];exact h) M0 M0 h0 hb
 rw[hm] at this
 exact this.mono fun e w' q=>putN hm (by rw[Zj];omega) q
def Sr(li:Bl):Bl:=Km (List.replicate 256 0) 8 li
def Zfg(no:Int)(li:Bl):Bl:=Km (Sr li) 0 (leB no 4)
def Lj(kind no:Int)(li:Bl):Bl:=Km (Zfg no li) 4 (leB kind 2)
def Ja(kind no:Int)(li:Bl):Bl:=Km (Lj kind no li) 252 (leB (sumB (Lj kind no li) kind) 4)
theorem Uz{li:Bl}(h:li.length≤244):(Sr li).length=256:=by rw[Sr,Kk (by rw[A7];omega),A7]
theorem Ui{no:Int}{li:Bl}(h:li.length≤244):(Zfg no li).length=256:=by rw[Zfg,Kk (by rw[Zj,Uz h];omega),Uz h]
theorem Ky{kind no:Int}{li:Bl}(h:li.length≤244):(Lj kind no li).length=256:=by rw[Lj,Kk (by rw[Zj,Ui h];omega),Ui h]
theorem Du{kind no:Int}{li:Bl}(h:li.length≤244):(Ja kind no li).length=256:=by rw[Ja,Kk (by rw[Zj,Ky h];omega),Ky h]
theorem Zlc(kind no:Int)(h1:1≤kind)(h2:kind≤4)(h3:0≤no)(h4:no<14400)(a:O0)(c:Nat)(li:Bl)(w:World)(hl:li.length≤244)(h:Bys w (.slice a li.length c) li) :
 C0 98 #[V0 kind,V0 no,.slice a li.length c] w (Qo (fun w' r=>∃ p c,r=.tuple #[.slice p 256 c,V0 0]∧w'.ownsRow w.heap.size 5 1 (.slice p 256 c) 256 ((Ja kind no li).map bv)) w):=by
 refine zin 54 Tryz.func98 ?_
 refine xr 11 (args:=#[V0 kind,V0 no]) (Zg9 kind no h1 h2 h3 h4 _) fun W1 c6=>?_
 refine xk 14 (show(decide ((li.length:Int)>(244:Int)):Bool)=false from decide_eq_false M0) ?_
 refine xmk 4 fun _ _ _ _ zJ zQ zo zx zy zK=>Kf 256 (.int .u8 0) 1 1 ((List.replicate 256 (0:UInt8)).map bv) zo zx zy Tryz.underlying50 K0 rfl M0 M0 (Ea 256) fun b2 W2 n2=>?_
 refine zK _ _ ?_
 have o2:=Zz (size:=1) (n:=256) n2.blk (n2.ge c6) (by simp) (by unfold maxLen;omega)
 have hB:=bln c6 n2.below
 refine xbi 8 (t2:=50) fun _ _ _ _ zJ zQ zo zx zy zK=>We (dLen:=248) (dCap:=248) (off:=8) li.length (li.map bv) ((Sr li).map bv) zo Tryz.underlying50 K0 zx zy (h.below hB) o2 (by simp) M0 M0 (Xw li) hB.size (by simp[Sr,Km,H7]) fun W3 o3 d3 d0=>?_
 refine zK _ _ ?_
 refine xbs 9 2 [V0 0,V0 4,V0 no,V0 4,V0 2,V0 kind] 261 fun b4 W4 n4=>?_
 have a6:=hB.trans d0
 have g4:=n4.ge a6
 refine xu 5 4 ?_
 refine xlv 14 (n4.blk.rpp 0 3) ?_
 refine xa 0 [V0 0,V0 0,V0 0] 261 fun b5 W5 n5=>?_
 have a7:=n5.ne n4.blk
 have a3:=bln a6 n4.below
 have g5:=n5.ge a3
 refine xsv 0 n5.blk [V0 0,V0 4,V0 no] fun W6 u6 k6=>?_
 refine xb 5 0 k6 ?_
 refine xb 1 1 k6 ?_
 refine xb 1 2 k6 ?_
 have a8:=u6.own2 (Za (Za o3 n4.below) n5.below) n5.blk Do
 refine xc 0 (args:=#[.slice (S1 b2) 256 256,V0 0,V0 4,V0 no]) (Put_4N (S1 b2) 256 256 0 0 (Sr li) (no) _ (Uz hl) rfl (Ya (Ze a8) (Uz hl)) Do Do (h3) M0) ?_
 rintro _ W7 ⟨_,rfl,a9,p1,c1,rfl,o1⟩
 have c9:=(u6.below (bln a3 n5.below) g5).size
 have a5:=(u6.blk (n4.blk.below n5.below) a7).below a9
 refine xlv 26 (a5.rpp 3 3) ?_
 refine xa 0 [V0 0,V0 0,V0 0] 261 fun b8 W8 n8=>?_
 have c5:=n8.ne a5
 have c0:=k6.below a9
 have c7:=n8.ne c0
 have a0:=bln (u6.below (bln a3 n5.below) g5) a9
 have g8:=n8.ge a0
 refine xsv 0 n8.blk [V0 4,V0 2,V0 kind] fun W9 u9 k9=>?_
 refine xb 5 0 k9 ?_
 refine xb 1 1 k9 ?_
 refine xb 1 2 k9 ?_
 have c4:=u9.own2 (Za (Zf o1 c9) n8.below) n8.blk Do
 refine xc 0 (args:=#[.slice p1 256 c1,V0 4,V0 2,V0 kind]) (Put_2N p1 256 c1 4 4 (Zfg no li) (kind) _ (Ui hl) rfl (Ya (Ze c4) (Ui hl)) Do Do M0 M0) ?_
 rintro _ d2 ⟨_,rfl,a4,p2,c2,rfl,o2⟩
 have b9:=(u9.below (bln a0 n8.below) g8).size
 have a2:=Zf o2 b9
 refine xr 29 (args:=#[.slice p2 256 c2,V0 kind]) (seal_sum kind p2 c2 (Lj kind no li) _ (Ky hl) (Ao a2 Do) (Ya (Ze a2) (Ky hl))) fun d4 a1=>?_
 have b7:=Za a2 a1
 refine xc 0 (args:=#[.slice p2 256 c2,V0 252,V0 4,V0 (↑(sumB (Lj kind no li) kind):Int)]) (Put_4N p2 256 c2 252 252 (Lj kind no li) ((sumB (Lj kind no li) kind:Int)) _ (Ky hl) rfl (Ya (Ze b7) (Ky hl)) Do Do (F2 _) (by have:=sumB_lt (Lj kind no li) kind;omega)) ?_
 have c8:=Za a8 a9
 rintro _ d1 ⟨_,rfl,b3,p3,c3,rfl,o3⟩
 have b0:=(bln (bln (u9.below (bln a0 n8.below) g8) a4) a1).size
 have b1:=bln (bln (bln (u9.below (bln a0 n8.below) g8) a4) a1) b3
 have b6:=Zf o3 b0
 exact xe 14 (.tuple #[.slice p3 256 c3,V0 0]) ⟨_,rfl,b1,_,_,rfl,b6⟩
end Go.Proofs.YtekomodnkfhihaaGreatDoor
