/- General words for all walks of this seat: what a call returns while everything that lay there before is unchanged ('Ret'), slices as lists ('Sl', 'Ints'), and one rule for a region that draws its order while its operations read, or call what returns one value ('wp_region_ext'). No program is named here. -/
import Derived.WalkKit
import Derived.WalkSpells
import Derived.WalkLawsBesides
import Derived.Deep.QuietTactic
import Derived.BigQuiet
import Derived.Lib.Hide
import Derived.RangeFuncNested
import Derived.RangeFuncBound
import Derived.RangeFuncCalls
import Derived.RangeFuncLeaves
import Derived.Shelf.Abstract
import Derived.Shelf.RegionOpen
import Derived.OwnWalkIn
import Derived.TacticsInMore
import Derived.LoopNIn
import Derived.LoopIn
import Derived.Test.YtegcamkgeacjfaaGreatDoorProg
import Derived.LaidEql
import Derived.Stop.Asserts
import Derived.RowKitTokens
import Derived.Deep.LoopGhost
import Derived.Test.YtegcamkgeacjfaaGreatDoorRows
import Derived.ChangeSame
import Derived.ChangeVars
import Derived.JoinedOf
import Derived.RowKit
import Derived.LaidLaws
import Derived.LaidHandle
import Derived.Stop.Joined
import Derived.SevenTiedAt
import Derived.Maps.AppendAt
import Derived.Deep.AppendLies
import Derived.Deep.RegionHeld3
import Derived.Deep.MidRow
import Derived.Deep.RegionHeld
import Derived.IntWalk
import Derived.LoopN
import Derived.OrdersIn
import Derived.ProofKit
import Derived.OpenShut
import Derived.ShutString
import Derived.ChangeOld
import Derived.Below
import Derived.Lib.SmallJoins
import Derived.Laws.IdiomStrings
import Derived.Lib.ItoaNum
import Derived.Deep.Slices
import Derived.Deep.Fields
import Derived.Deep.Strs
namespace Go.Proofs.YtegcamkgeacjfaaGreatDoor
set_option maxHeartbeats 8000000
set_option maxRecDepth 100000
open Go.RowKit
abbrev V0(z:Int):Value:=.int .i64 z
abbrev S0:Value:=.slice none 0 0
abbrev P0(b:Nat):Value:=.pointer (some ⟨b,0,none⟩)
abbrev S1(b:Nat):Option Addr:=some ⟨b,0,none⟩
abbrev Bl:=List UInt8
abbrev O0:=Option Addr
abbrev C0:=Calls Tryz.prog
abbrev B3(w:World):World→Prop:=Below w.heap.size w
theorem B4(w:World):Below w.heap.size w w:=Below.refl _ _
def Ret (v:Value)(w:World)(e:Ending)(w':World):Prop:=e=.returned v∧B3 w w'
theorem Zfz{W w1:World}(hb:B3 W w1){p:Addr}{v:Value}(h:W.cell? p=some v):w1.cell? p=some v :=
 (hb.cell (World.block_lt_of_cell? W p h)).trans h
theorem ltC{w:World}{p:Addr}{v:Value}(h:w.cell? p=some v):p.block<w.heap.size:=World.block_lt_of_cell? w p h
theorem ltB{W w1:World}(hb:B3 W w1){b:Nat}(h:b<W.heap.size):b<w1.heap.size:=Nat.lt_of_lt_of_le h hb.size
theorem getA{w:World}{p:Addr}{v:Value}(o:Obj)(h:w.cell? p=some v):(w.alloc o).cell? p=some v:=by
 rw[World.cell?_alloc_lt _ _ _ (ltC h)];exact h
theorem blD{B:Nat}{a w:World}(h:Below B a w)(n:Nat):Below B a (w.drewN n):=⟨h.os,h.tape,h.output,h.size,h.block⟩
theorem bln{a w w':World}(h:Below a.heap.size a w)(k:B3 w w'):Below a.heap.size a w':=h.trans (k.mono h.size)
theorem blx(w:World)(o:Obj):B3 w (w.alloc o):=(Below.refl _ _).alloc (Nat.le_refl _) _
def Sl (w:World)(v:Value)(n:Nat)(xs:List Value):Prop :=
 (∃ a c,v=.slice a 0 c∧n=0∧xs=[])∨∃ b off cap,v=.slice (some ⟨b,off,none⟩) n cap∧n≤cap∧cap≤maxLen∧∀ j x,xs[j]? = some x→w.cell? ⟨b,off+j,none⟩=some x
def Ints(w:World)(v:Value)(l:List Int):Prop:=Sl w v l.length (l.map V0)
theorem Sl.below{w w':World}{v:Value}{n:Nat}{xs:List Value}(h:Sl w v n xs)(hb:B3 w w'):Sl w' v n xs:=by
 rcases h with h|⟨b,a0,a1,h1,h2,h3,h4⟩
 ·exact .inl h
 ·exact .inr ⟨b,a0,a1,h1,h2,h3,fun j x hj=>Zfz hb (h4 j x hj)⟩
theorem Ints.below{w w':World}{v:Value}{l:List Int}(h:Ints w v l)(hb:B3 w w'):Ints w' v l:=Sl.below h hb
theorem Ints.blk{w:World}{v:Value}{l:List Int}(h:Ints w v l)(hl:l.length≠0){b off n cap:Nat}(hv:v=.slice (some ⟨b,off,none⟩) n cap):b<w.heap.size:=by
 rcases h with ⟨_,_,h1,h2,h3⟩|⟨b',a1,a0,h1,h2,h3,h4⟩
 ·exact absurd h2 hl
 ·rw[hv] at h1
  simp only[Value.slice.injEq,Option.some.injEq,Addr.mk.injEq] at h1
  obtain⟨⟨rfl,rfl,_⟩,_,_⟩:=h1
  exact ltC (h4 0 (V0 l[0]) (by simp))
theorem Ints.slice{w:World}{v:Value}{l:List Int}(h:Ints w v l):∃ a c,v=.slice a l.length c:=by
 rcases h with ⟨_,_,rfl,h,_⟩|⟨b,a0,a1,rfl,_⟩
 ·rw[h];exact⟨_,_,rfl⟩
 ·exact⟨_,_,rfl⟩
def Qn(R:World→Value→Prop)(w:World)(e:Ending)(w':World):Prop:=∃ r,e=.returned r∧B3 w w'∧R w' r
theorem Sl.slice{w:World}{v:Value}{n:Nat}{xs:List Value}(h:Sl w v n xs):∃ a c,v=.slice a n c:=by
 rcases h with ⟨_,_,rfl,h,_⟩|⟨b,a0,a1,rfl,_⟩
 ·rw[h];exact⟨_,_,rfl⟩
 ·exact⟨_,_,rfl⟩
theorem Sl.at{w:World}{a:O0}{n c:Nat}{xs:List Value}(h:Sl w (.slice a n c) n xs):xs=[]∨∃ b off,a=some ⟨b,off,none⟩∧∀ j x,xs[j]? = some x→w.cell? ⟨b,off+j,none⟩=some x:=by
 rcases h with ⟨_,_,_,_,h2⟩|⟨b,off,a0,h1,_,_,h4⟩
 ·exact .inl h2
 ·simp only[Value.slice.injEq] at h1;exact .inr ⟨b,off,h1.1,h4⟩
theorem Sl.len{w:World}{v:Value}{n:Nat}{xs:List Value}(h:Sl w v n xs):n≤9223372036854775807:=by
 rcases h with ⟨_,_,_,h,_⟩|⟨b,a0,a1,_,h1,h2,_⟩
 ·omega
 ·unfold maxLen at h2;omega
/-! ### the walk halts here: 'go_wp2_with (at_builtin;refine Stop.go ?_)',then 'unfold Stop' -/
def Stop(p:Prop):Prop:=p
theorem Stop.go{p:Prop}(h:Stop p):p:=h
/-! ### a row that the call owns -/
theorem Zb{w w':World}{base:Nat}{e:TypeId}{size:Nat}{v:Value}{n:Nat}{xs:List Value}(h:w.ownsRow base e size v n xs)(hb:B3 w w'):w'.ownsRow base e size v n xs :=
 h.kept (row:=none) ⟨hb.os,hb.tape,hb.output,hb.size,fun k hk _=>hb.block k hk⟩ (by cases v.ownBlock<;>simp)
theorem Zf{w:World}{base:Nat}{e:TypeId}{size:Nat}{v:Value}{n:Nat}{xs:List Value}(h:w.ownsRow base e size v n xs):Sl w v n xs:=by
 have hx:=h.1
 rcases h.2 with ⟨rfl,rfl⟩|⟨g,a0,a1,rfl,_,hg,h2,h3,_,h5⟩
 ·exact .inl ⟨_,_,rfl,rfl,List.eq_nil_of_length_eq_zero (by simpa using hx)⟩
 ·refine .inr ⟨g,0,a0,rfl,h2,h3,fun j x hj=>?_⟩
  have hc:=h.cells (g:=g) rfl j x hj
  rw[Nat.zero_add]
  by_cases h0:j=0
  ·subst h0;simpa [Addr.add] using hc
  ·simpa [Addr.add,h0] using hc
theorem Vu{B:Nat}{w w':World}{v:Value}{base:Nat}{e:TypeId}{size n:Nat}{xs:List Value}(hg:w.grownBy w' v.ownBlock)(h:w.ownsRow base e size v n xs)(hB:B≤base)(hw:B≤w.heap.size):Below B w w' :=
 (Below.refl B w).grown hg hw (fun k e=>Nat.le_trans hB (h.lt k e).1)
/-! ### make: n elements of Hs -/
def Hs(cs:List Value)(n:Nat):List Value:=(List.replicate n cs).flatten
theorem Zcz(cs:List Value)(n:Nat):Hs cs (n+1)=Hs cs n++cs:=by simp[Hs,List.replicate_succ']
theorem Ze4(cs:List Value)(n:Nat):madeCells cs.toArray (n*cs.length)=(Hs cs n).toArray:=by
 have h:((List.range (n*cs.length)).map fun j=>cs.toArray[j%cs.toArray.size]!)=Hs cs n:=by
  induction n with
  | zero=>simp[Hs]
  | succ n ih =>
   rw[Nat.succ_mul,List.range_add,List.map_append,ih,Zcz,List.map_map]
   congr 1
   apply List.ext_getElem
   ·simp
   ·intro i h1 h2
    simp[Nat.mod_eq_of_lt h2,h2]
 rw[←h];apply Array.ext
 ·simp[madeCells]
 ·intro i h1 h2;simp[madeCells]
theorem Zd1{P:Program}{t e:TypeId}{i:TypeInfo}{z:Value}(cs:List Value)(ht:P.underlying t=some (.slice e))(hi:P.info? e=some i)(hz:i.zero=some z)(hc:z.cells=cs.toArray)(hs:i.size=cs.length){k:Nat}(hk:i.bytes=k)
 (n:Nat) (hb:k*n≤281474976710656) (hn:n≤9223372036854775807) (w:World) :
 (Instr.makeSlice t (V0 (n:Int)) (V0 (n:Int))).run P w=.ok (.slice (some ⟨w.heap.size,0,none⟩) n n) (w.alloc (.cells (Hs cs n).toArray e)):=by
 have a0:(i.bytes:Int)*(n:Int)≤281474976710656:=by
  have h:((i.bytes*n:Nat):Int)≤281474976710656:=by rw[hk];omega
  rwa [Int.natCast_mul] at h
 have hr:=run_make (P:=P) w t e i z ht hi hz .i64 .i64 n n (by omega) (by omega) a0 (by omega)
 simp only[Int.toNat_natCast] at hr
 rw[hr,hc,hs,Ze4]
/-! ### A region that draws its order: in every later world -/
structure Ext(W:World) where
 val:World
 below:Below W.heap.size W val
instance (W:World):Nonempty (Ext W):=⟨⟨W,Below.refl _ _⟩⟩
theorem Ext.get{W:World}(z:Ext W){p:Addr}{v:Value}(h:W.cell? p=some v):z.val.cell? p=some v:=Zfz z.below h
theorem Ext.lt{W:World}(z:Ext W){b:Nat}(h:b<W.heap.size):b<z.val.heap.size:=ltB z.below h
theorem Sd{P:Program}{id:Nat}{Q:Exit→Act→World→Prop}{a:Act}{w:World}{l:List Oper}(hm:P.follows .mixedOrders=true)(hB:Region.lexB .any l.toArray=true)
 (h:wpQuiet P l.toArray (fun w'=>∃ x:Ext w,w'=x.val) (fun a'=>∀ x:Ext w,Q .normal a' x.val) l a):(Code.region id l.toArray true).wp P Q a w :=
 wp_region_quiet (C:=fun w'=>∃ x:Ext w,w'=x.val) hm hB ⟨⟨_,(Below.refl _ w).drew⟩,rfl⟩ (by
  have e:(fun a'=>∀ x:Ext w,Q .normal a' x.val)=(fun a'=>∀ w',(∃ x:Ext w,w'=x.val)→Q .normal a' w'):=by
   funext a';apply propext;exact⟨fun h w' ⟨x,hx⟩=>hx▸h x,fun h x=>h _ ⟨x,rfl⟩⟩
  rw[e] at h;simpa using h)
theorem Ret.ext{P:Program}{f:FuncId}{args:Array Value}{w:World}{v:Value}{x:Ext w}(h:Calls P f args x.val (Ret v x.val)) :
 Calls P f args x.val fun e w''=>e=.returned v∧∃ y:Ext w,w''=y.val :=
 h.mono fun _ w'' ⟨he,hb⟩=>⟨he,⟨w'',x.below.trans (hb.mono x.below.size)⟩,rfl⟩
end Go.Proofs.YtegcamkgeacjfaaGreatDoor
namespace Go.Proofs.YtegcamkgeacjfaaGreatDoor
set_option maxHeartbeats 8000000
set_option maxRecDepth 100000
open Go.RowKit
set_option linter.unusedVariables false
def Blk (W:World)(b:Nat)(cs:List Value)(t:TypeId):Prop:=W.heap[b]? = some (.cells cs.toArray t (0,0))
theorem Blk.lt{W:World}{b:Nat}{cs:List Value}{t:TypeId}(h:Blk W b cs t):b<W.heap.size:=(Array.getElem?_eq_some_iff.1 h).1
theorem Blk.cell{W:World}{b:Nat}{cs:List Value}{t:TypeId}(h:Blk W b cs t){i:Nat}{v:Value}(hv:cs[i]? = some v):W.cell? ⟨b,i,none⟩=some v:=by
 simp[World.cell?,show W.heap[b]? = _ from h,hv]
theorem Blk.frozen{W:World}{b:Nat}{cs:List Value}{t:TypeId}(h:Blk W b cs t)(i:Nat):W.frozen? ⟨b,i,none⟩=false:=by
 simp[World.frozen?,show W.heap[b]? = _ from h]
theorem Blk.new(W:World)(cs:List Value)(t:TypeId):Blk (W.alloc (.cells cs.toArray t)) W.heap.size cs t:=World.alloc_heap_new W _
theorem Blk.kept{W W':World}{row:Option Nat}{b:Nat}{cs:List Value}{t:TypeId}(h:Blk W b cs t)(hg:W.grownBy W' row)(hne:some b≠row):Blk W' b cs t:=(hg.block b h.lt hne).trans h
theorem Blk.alloc{W:World}{b:Nat}{cs:List Value}{t:TypeId}(h:Blk W b cs t)(o:Obj):Blk (W.alloc o) b cs t:=h.kept (World.grownBy_alloc W o none) (by simp)
theorem Blk.below{W W':World}{b:Nat}{cs:List Value}{t:TypeId}(h:Blk W b cs t)(hb:B3 W W'):Blk W' b cs t:=(hb.block b h.lt).trans h
theorem Blk.below'{B:Nat}{W W':World}{b:Nat}{cs:List Value}{t:TypeId}(h:Blk W b cs t)(hb:Below B W W')(hB:b<B):Blk W' b cs t:=(hb.block b hB).trans h
theorem app_own{P:Program}{w:World}{ops:Array Oper}{rest:List Oper}{o:Oper}{a:Act}{Q:Exit→Act→World→Prop}(hgd:o.guard=none)(s x:Operand)(t:TypeId)
  (ho:o.op=.call { callee:=.builtin .append,args:=#[s,x],argTypes:=#[t,t] }) (base:Nat) (e:TypeId) (i:TypeInfo) (z:Value) (size bytes:Nat) (ht:P.underlying t=some (.slice e)) (hi:P.info? e=some i)
  (hz:i.zero=some z) (hsize:i.size=size) (hby:i.bytes=bytes) (hzs:z.cells.size=size) (hsz:0<size) (v:Value) (n:Nat) (xs:List Value) (hs:a.eval s=v) (hown:w.ownsRow base e size v n xs)
  (b m c:Nat) (news:List Value) (te:TypeId) (hx:a.eval x=.slice (S1 b) m c) (hnew:Blk w b news te) (hl:news.length=m*size) (h1:∀ u∈news,u.oneCell'=true)
  (h63:n+m≤maxLen) (hbytes:(n+m)*bytes≤140737488355328) (hbase:base≤w.heap.size)
  (h:∀ v' w',w'.ownsRow base e size v' (n+m) (xs++news)→w.grownBy w' v.ownBlock→Below base w w'→wpList P ops Q rest (a.put o.dst v') w'):wpList P ops Q (o::rest) a w :=
 wpList_append_own w hgd s x t ho base e i z size bytes ht hi hz hsize hby hzs hsz v n xs hs hown ⟨b,0,none⟩ m c news hx hl
  (fun j u hj=>by
   have hc:=hnew.cell hj
   by_cases h0:j=0
   ·subst h0;simpa [Addr.add] using hc
   ·simpa [Addr.add,h0] using hc) h1 h63 hbytes hbase (fun v' w' h2 h3 _=>h v' w' h2 h3 (Vu h3 hown (Nat.le_refl _) hbase))
theorem Blk.other{W:World}{b:Nat}{cs:List Value}{t:TypeId}(h:Blk W b cs t){p:Addr}(hp:b≠p.block)(u:Value):Blk (W.setCell p u) b cs t :=
 (Below.heap_setCell W p u b hp).trans h
theorem Blk.set{W:World}{b:Nat}{cs:List Value}{t:TypeId}(h:Blk W b cs t)(i:Nat)(u:Value):Blk (W.setCell ⟨b,i,none⟩ u) b (cs.set i u) t:=by
 obtain⟨a0,hk⟩:=Array.getElem?_eq_some_iff.1 h
 show(W.heap.modify b _)[b]? = _
 rw[Array.getElem?_eq_getElem (by rw[Array.size_modify];exact a0),Array.getElem_modify_self,hk]
 simp
theorem Blk.own{β:Type}(b:Nat)(t:TypeId)(f:β→List Value):Own (fun s W=>Blk W b (f s) t):=fun s X Y a1 hs hg a0 =>
 hs.kept hg (fun e'=>by obtain⟨o,ho,hc⟩:=a0 b e'.symm;rw[show X.heap[b]? = _ from hs] at ho;cases ho;cases hc)
theorem Blk.turn{A B:World}{row:Option Nat}{b:Nat}{cs:List Value}{t:TypeId}(h:Blk A b cs t)(hg:A.grownBy B row)(hr:∀ r,row=some r→∃ o:Obj,A.heap[r]? = some o∧o.isCells=false):Blk B b cs t :=
 h.kept hg (fun e'=>by obtain⟨o,ho,hc⟩:=hr b e'.symm;rw[show A.heap[b]? = _ from h] at ho;cases ho;cases hc)
theorem Blk.put{W:World}{b l:Nat}{cs:List Value}{t:TypeId}(h:Blk W b cs t){o:Obj}(hl:W.heap[l]? = some o)(ho:o.isCells=false)(o':Obj):Blk (W.putObj l o') b cs t :=
 h.turn (grownBy_putObj' W l o') (fun r e=>by cases e;exact⟨o,hl,ho⟩)
structure Keeps(p:Nat→Prop)(W W':World):Prop where
 size:W.heap.size≤W'.heap.size
 block:∀ b,p b→W'.heap[b]? = W.heap[b]?
theorem Keeps.refl(p:Nat→Prop)(W:World):Keeps p W W:=⟨Nat.le_refl _,fun _ _=>rfl⟩
theorem Keeps.trans{p:Nat→Prop}{A B C:World}(h:Keeps p A B)(k:Keeps p B C):Keeps p A C:=⟨Nat.le_trans h.size k.size,fun b hb=>(k.block b hb).trans (h.block b hb)⟩
theorem Keeps.of_below{p:Nat→Prop}{B:Nat}{W W':World}(h:Below B W W')(hp:∀ b,p b→b<B):Keeps p W W':=⟨h.size,fun b hb=>h.block b (hp b hb)⟩
theorem Keeps.setCell{p:Nat→Prop}{A W:World}(h:Keeps p A W){a:Addr}(ha:¬ p a.block)(u:Value):Keeps p A (W.setCell a u) :=
 h.trans ⟨by simp[World.setCell],fun b hb=>Below.heap_setCell W a u b (fun e=>ha (e▸hb))⟩
theorem Keeps.cell{p:Nat→Prop}{W W':World}(h:Keeps p W W'){a:Addr}(hb:p a.block):W'.cell? a=W.cell? a:=World.cell?_of_block (h.block a.block hb)
theorem Za0{p:Nat→Prop}{B:Nat}(hp:∀ b,p b→b<B)(W:World)(l:Nat)(o o':Obj)(hl:B≤l)(h:W.heap[l]? = some o)(_:o.isCells=false)(_:o.isWalk=false):Keeps p W (W.putObj l o') :=
 ⟨(grownBy_putObj' W l o').size,fun b hb=>World.putObj_heap_other (by have:=hp b hb;omega)⟩
theorem Pt{P:Program}{f:FuncId}{fn:Func}{c:Code}{args:Array Value}{w:World}{R:Ending→World→Prop}(hf:P.funcs[f]? = some fn)(hb:fn.body=some c)
 (h:c.wp P (bodyPostM Fence.wide 4 P fn R) { tmps:=args++Array.replicate (fn.ntmps-args.size) undef,defers:=[] } w):Calls P f args w R :=
 callsIn_wide.1 (callsIn_of_wp_marks hf hb trivial (wpIn_wide.2 h))
theorem wp_range{α:Type}{P:Program}{g:Operand}{ps:Array Tmp}{assign body:Code}{Q:Exit→Act→World→Prop}{a:Act}{w:World}{gf:Nat}{lb:Array Value}
  (hg:a.eval g=.func (.func gf) #[] lb) (eg:∀ args w,(callFunc gf args).run P w=.ok (.enter gf args) w) {encs:α→Array Value} {S Sp:List α→Prop} {N:Nat} (p:Nat→Prop) (hp:∀ b,p b→b<w.heap.size)
  (hseq:SeqStopsK Fence.wide 3 P gf lb encs (Keeps p) S Sp N w) (hps:∀ x,(encs x).size=ps.size)
  (I:List α→World→Prop) (Ix:Code→List α→World→Prop) (hI:OwnFrom w.heap.size I) (hIx:∀ c,OwnFrom w.heap.size (Ix c)) (h0:I [] w) (Ax:α→Act→World→Prop) (hAx:∀ x a',OwnFrom w.heap.size (fun(_:Unit) W=>Ax x a' W))
  (hassign:∀ (l:Nat) (pre:List α) (x:α) (W:World) (K:Act→World→Prop),I pre W→(∀ a' W',KeepsFrom w.heap.size W W'→Keeps p W W'→I pre W'→Ax x a' W'→K a' W') →
   assign.wpIn (Fence.wide.inRound l) 2 P (Exit.then K (fun _ _ _=>False)) { tmps:=(ps.zip (encs x)).foldl (fun t (p,v)=>t.setIfInBounds p v) a.tmps,defers:=[] } W)
  (hbody:∀ (l:Nat) (pre:List α) (x:α) (a':Act) (W:World),w.heap.size≤l→I pre W→Ax x a' W→pre.length<N→body.wpIn (Fence.wide.inRound l) 2 P (ownPostG w.heap.size (Keeps p) I Ix (pre++[x]) W) a' W)
  (hdone:∀ (D:Nat) (xs:List α) (W:World),w.heap.size≤D→S xs→I xs W→W.heap[D]? = some (.deferred (some []))→Q .normal { a with defers:={ target:=.collected D,args:=#[] }::a.defers } W)
  (hstop:∀ (D:Nat) (c:Code) (pre:List α) (W:World),w.heap.size≤D→Sp pre→Ix c pre W→W.heap[D]? = some (.deferred (some []))→c.wp P Q { a with defers:={ target:=.collected D,args:=#[] }::a.defers } W) :
  (Code.rangeFunc g ps assign body).wp P Q a w :=
 (wpIn_wide (n:=4)).1 (wpIn_rangeFunc_ownH (F:=Fence.wide) (n:=4) rfl (by omega) hg trivial eg hseq (fun h k=>h.trans k) (Za0 hp) (Below.refl _ _) hps I Ix hI hIx h0 Ax hAx hassign
  (fun l pre x a' W hl _ h1 h2 h3=>hbody l pre x a' W hl h1 h2 h3) hdone (fun D c pre W h1 h2 h3 h4=>wpIn_wide.2 (hstop D c pre W h1 h2 h3 h4)))
end Go.Proofs.YtegcamkgeacjfaaGreatDoor
namespace Go.Proofs.YtegcamkgeacjfaaGreatDoor
set_option maxHeartbeats 8000000
set_option maxRecDepth 100000
open Go.RowKit Go.Extern.Stop Go.Stop Go.Extern
set_option linter.unusedVariables false
def Gw(w:World):List (Option Int)→Option Int→Value→Prop
 | [],none,v=>v=.nilIface
 | [],some c,v=>v=.iface 63 (V0 c)
 | some b::r,t,v=>∃ blk v',v=.iface 185 (P0 blk)∧Blk w blk [V0 b,v'] 188∧Gw w r t v'
 | none::r,t,v=>False
theorem Gw.kept{w w':World}(hb:∀ blk cs,Blk w blk cs 188→Blk w' blk cs 188):∀ {l:List (Option Int)} {t:Option Int} {v:Value},Gw w l t v→Gw w' l t v
 | [],none,v,h=>h
 | [],some c,v,h=>h
 | some b::r,t,v,⟨blk,v',h1,h2,h4⟩=>⟨blk,v',h1,hb _ _ h2,Gw.kept hb h4⟩
 | none::r,t,v,h=>h.elim
theorem Gw.below{w w':World}(hb:B3 w w'){l:List (Option Int)}{t:Option Int}{v:Value}(h:Gw w l t v):Gw w' l t v:=h.kept fun _ _ k=>k.below hb
def Bw(l:List (Option Int))(t:Option Int):Bool:=l.isEmpty&&t.isNone
theorem Gw.nil_or{w:World}{l:List (Option Int)}{t:Option Int}{v:Value}(h:Gw w l t v):(Bw l t=true∧v=.nilIface)∨(Bw l t=false∧∃ ty x,v=.iface ty x):=by
 match l,t,h with
 | [],none,h=>exact .inl ⟨rfl,h⟩
 | [],some c,h=>exact .inr ⟨rfl,_,_,h⟩
 | some b::r,t,⟨_,_,h,_⟩=>exact .inr ⟨rfl,_,_,h⟩
 | none::r,t,h=>exact h.elim
theorem Fy{l:List (Option Int)}{t:Option Int}(h:Bw l t=true):l=[]∧t=none:=by
 cases l<;>cases t<;>simp_all [Bw]
/-! ### what the model's entries for internal/reflectlite give at these types -/
theorem Tryz.valueOfPN(t:Addr)(w:World):(ReflectliteValue.unpack (.iface 191 (.pointer (some t)))).run Tryz.prog w
 = .ok (.agg #[.pointer (some ⟨1,191,none⟩),.pointer (some ⟨w.heap.size,0,none⟩),.int .u64 150]) (w.alloc (.cells #[.pointer (some t)] 191)):=by kernel_rfl
theorem Tryz.typePN (a : Addr) (w : World) : (ReflectliteValue.methodAny (ReflectliteValue.valueError "reflectlite.Value.Type" 0) (fun t _ _ _ => ReflectliteType.toType t) #[.agg #[.pointer (some ⟨1, 191, none⟩), .pointer (some a), .int .u64 150]]).run Tryz.prog w
 = .ok (.iface 360 (.agg #[.pointer (some ⟨1,191,none⟩)])) w:=by kernel_rfl
theorem Tryz.kindPN(w:World):((ReflectliteType.abiMethod fun t=>(fun a:Nat=>Value.int IntKind.u8 (a:Int)) <$> Rtype.kind t) #[.pointer (some ⟨1,191,none⟩)]).run Tryz.prog w=.ok (.int .u8 22) w:=by kernel_rfl
theorem Tryz.kindN(w:World):((ReflectliteType.abiMethod fun t=>(fun a:Nat=>Value.int IntKind.u8 (a:Int)) <$> Rtype.kind t) #[.pointer (some ⟨1,63,none⟩)]).run Tryz.prog w=.ok (.int .u8 2) w:=by kernel_rfl
theorem as_rlm(z:Sem Value)(f:TypeId→Addr→Nat→Nat→Sem Value)(v:Value) :
 ReflectliteValue.method z f #[v]=(do match ←ReflectliteValue.parts v with|none=>z|some (t,a,fl)=>f t a fl (fl%32)):=rfl
theorem Tryz.partsPN(a:Addr)(w:World):(ReflectliteValue.parts (.agg #[.pointer (some ⟨1,191,none⟩),.pointer (some a),.int .u64 150])).run Tryz.prog w=.ok (some (191,a,150)) w:=by kernel_rfl
theorem Tryz.isNilPN(a p:Addr)(W:World)(ha:W.cell? a=some (.pointer (some p))) :
 (ReflectliteValue.method (ReflectliteValue.valueError "reflectlite.Value.IsNil" 0) ReflectliteValue.isNil #[.agg #[.pointer (some ⟨1, 191, none⟩), .pointer (some a), .int .u64 150]]).run Tryz.prog W = .ok (.bool false) W := by
 rw[as_rlm]
 simp only[Sem.run_bind,Tryz.partsPN,Result.andThen]
 simp[ReflectliteValue.isNil,loadVar,isAgg,underlying,Tryz.underlying191,ha,Result.andThen]
theorem Tryz.elemPN(w:World):(ReflectliteType.method ReflectliteType.elem #[.agg #[.pointer (some ⟨1,191,none⟩)]]).run Tryz.prog w=.ok (.iface 360 (.agg #[.pointer (some ⟨1,63,none⟩)])) w:=by kernel_rfl
theorem Tryz.implementsN (w : World) : (ReflectliteType.relation "Implements" ReflectliteType.implements_ #[.agg #[.pointer (some ⟨1, 63, none⟩)], .iface 360 (.agg #[.pointer (some ⟨1, 29, none⟩)])]).run Tryz.prog w = .ok (.bool true) w := by kernel_rfl
theorem Tryz.typeOfN(v:Value)(w:World):(ReflectliteType.typeOf #[.iface 63 v]).run Tryz.prog w=.ok (.iface 360 (.agg #[.pointer (some ⟨1,63,none⟩)])) w:=by kernel_rfl
theorem Tryz.typeOfF(v:Value)(w:World):(ReflectliteType.typeOf #[.iface 185 v]).run Tryz.prog w=.ok (.iface 360 (.agg #[.pointer (some ⟨1,185,none⟩)])) w:=by kernel_rfl
theorem Tryz.assignN (w : World) : (ReflectliteType.relation "AssignableTo" ReflectliteType.assignableTo #[.agg #[.pointer (some ⟨1, 63, none⟩)], .iface 360 (.agg #[.pointer (some ⟨1, 63, none⟩)])]).run Tryz.prog w = .ok (.bool true) w := by kernel_rfl
theorem Tryz.assignF (w : World) : (ReflectliteType.relation "AssignableTo" ReflectliteType.assignableTo #[.agg #[.pointer (some ⟨1, 185, none⟩)], .iface 360 (.agg #[.pointer (some ⟨1, 63, none⟩)])]).run Tryz.prog w = .ok (.bool false) w := by kernel_rfl
theorem Tryz.valueOfN(c:Int)(w:World):(ReflectliteValue.unpack (.iface 63 (V0 c))).run Tryz.prog w
 = .ok (.agg #[.pointer (some ⟨1,63,none⟩),.pointer (some ⟨w.heap.size,0,none⟩),.int .u64 130]) (w.alloc (.cells #[V0 c] 63)):=by kernel_rfl
theorem Tryz.elemOfPN(w:World):(Rtype.elem? 191).run Tryz.prog w=.ok (some 63) w:=by kernel_rfl
theorem Tryz.mkN(p:Addr)(w:World):(ReflectliteValue.mk 63 p ReflectliteValue.flagAddr).run Tryz.prog w=.ok (.agg #[.pointer (some ⟨1,63,none⟩),.pointer (some p),.int .u64 386]) w:=by kernel_rfl
theorem Tryz.elemVPN(a p:Addr)(W:World)(ha:W.cell? a=some (.pointer (some p))) :
 (ReflectliteValue.method (ReflectliteValue.valueError "reflectlite.Value.Elem" 0) ReflectliteValue.elem #[.agg #[.pointer (some ⟨1, 191, none⟩), .pointer (some a), .int .u64 150]]).run Tryz.prog W
 = .ok (.agg #[.pointer (some ⟨1,63,none⟩),.pointer (some p),.int .u64 386]) W:=by
 rw[as_rlm]
 simp only[Sem.run_bind,Tryz.partsPN,Result.andThen]
 simp[ReflectliteValue.elem,loadVar,isAgg,underlying,Tryz.underlying191,ha,Result.andThen,Tryz.elemOfPN,Tryz.mkN]
theorem as_rls(v x:Value):ReflectliteValue.set #[v,x]=(do
 let (some (dst,a,fl),some (src,b,_)):=(←ReflectliteValue.parts v,←ReflectliteValue.parts x)
  | unsupported (.noEntry "extern/(internal/reflectlite.Value).Set.zeroValue")
 if fl / ReflectliteValue.flagAddr % 2 == 0 then unsupported (.noEntry "extern/(internal/reflectlite.Value).Set.unaddressable")
 let val ←loadVar src b
 if ←Rtype.directlyAssignable dst src then storeVar dst a val
 else if ←Rtype.implements dst src then
  if(←Rtype.kind src)==20 then
   match val with
   | .nilIface => unsupported (.noEntry "extern/reflectlite: a nil value of one interface type handed on as a value of another")
   | _=>storeVar dst a val
  else storeVar dst a (.iface src val)
 else panicString ("reflectlite.Set: value of type " ++ (← Rtype.spelt src) ++ " is not assignable to type " ++ (← Rtype.spelt dst))
 pure (.tuple #[])):=rfl
theorem Tryz.partsNa(a:Addr)(w:World):(ReflectliteValue.parts (.agg #[.pointer (some ⟨1,63,none⟩),.pointer (some a),.int .u64 386])).run Tryz.prog w=.ok (some (63,a,386)) w:=by kernel_rfl
theorem Tryz.partsN(a:Addr)(w:World):(ReflectliteValue.parts (.agg #[.pointer (some ⟨1,63,none⟩),.pointer (some a),.int .u64 130])).run Tryz.prog w=.ok (some (63,a,130)) w:=by kernel_rfl
theorem Tryz.directN(w:World):(Rtype.directlyAssignable 63 63).run Tryz.prog w=.ok true w:=by kernel_rfl
theorem Tryz.setN(ta b:Addr)(c:Int)(old:Value)(W:World)(hb:W.cell? b=some (V0 c))(ht:W.cell? ta=some old)(hf:W.frozen? ta=false) :
 (ReflectliteValue.set #[.agg #[.pointer (some ⟨1,63,none⟩),.pointer (some ta),.int .u64 386],.agg #[.pointer (some ⟨1,63,none⟩),.pointer (some b),.int .u64 130]]).run Tryz.prog W
 = .ok (.tuple #[]) (W.setCell ta (V0 c)):=by
 rw[as_rls]
 simp only[Sem.run_bind,Tryz.partsNa,Tryz.partsN,Result.andThen]
 simp[ReflectliteValue.flagAddr,loadVar,isAgg,underlying,Tryz.underlying63,hb,Result.andThen,Tryz.directN,storeVar,Value.cells,storeCells,Addr.add]
 rw[run_store Tryz.prog W ta _ _ (by rfl)]
 simp[ht,hf]
/-! ### what the library's assertions find -/
theorem Tryz.noAsF(v:Value)(xT:TypeId)(w:World):(Instr.typeAssert (.iface 185 v) xT 365 true).run Tryz.prog w=.ok (.tuple #[.nilIface,.bool false]) w:=run_typeAssert_lacksB Tryz.underlying365 (by kernel_rfl) (by kernel_rfl) v xT w
theorem Tryz.hasUnwrapF(v:Value)(xT:TypeId)(w:World):(Instr.typeAssert (.iface 185 v) xT 291 true).run Tryz.prog w=.ok (.tuple #[.iface 185 v,.bool true]) w:=run_typeAssert_hasB Tryz.underlying291 (by kernel_rfl) v xT w
theorem Tryz.noIsN(v:Value)(xT:TypeId)(w:World):(Instr.typeAssert (.iface 63 v) xT 413 true).run Tryz.prog w=.ok (.tuple #[.nilIface,.bool false]) w:=run_typeAssert_lacksB Tryz.underlying413 (by kernel_rfl) (by kernel_rfl) v xT w
theorem Tryz.noUnwrapN(v:Value)(xT:TypeId)(w:World):(Instr.typeAssert (.iface 63 v) xT 291 true).run Tryz.prog w=.ok (.tuple #[.nilIface,.bool false]) w:=run_typeAssert_lacksB Tryz.underlying291 (by kernel_rfl) (by kernel_rfl) v xT w
theorem Tryz.noUnwrapsN(v:Value)(xT:TypeId)(w:World):(Instr.typeAssert (.iface 63 v) xT 368 true).run Tryz.prog w=.ok (.tuple #[.nilIface,.bool false]) w:=run_typeAssert_lacksB Tryz.underlying368 (by kernel_rfl) (by kernel_rfl) v xT w
theorem Tryz.isFF(v:Value)(w:World):(Instr.typeAssert (.iface 185 v) 29 185 true).run Tryz.prog w=.ok (.tuple #[v,.bool true]) w:=by kernel_rfl
theorem Tryz.isNF(v:Value)(w:World):(Instr.typeAssert (.iface 63 v) 29 185 true).run Tryz.prog w=.ok (.tuple #[.pointer none,.bool false]) w:=by kernel_rfl
theorem Tryz.methUnwrapF (v : Value) (w : World) : (Go.method 562 185 v "Unwrap").run Tryz.prog w = .ok (340, v) w := by kernel_rfl
theorem Tryz.nilUnwrapF (a : Addr) (w : World) : (nilAhead 562 185 (.pointer (some a)) "Unwrap").run Tryz.prog w = .ok (some false) w := by kernel_rfl
theorem Nt(blk:Nat)(v':Value)(w:World)(h:w.cell? ⟨blk,1,none⟩=some v') :
 C0 340 #[P0 blk] w fun e w'=>e=.returned v'∧w'=w:=by
 go_enter Tryz.func340,Tryz.ntmps340
 go_wp2_with fail
 go_ret
 exact⟨rfl,rfl⟩
theorem Fn(blk:Nat)(v':Value)(w:World)(h:w.cell? ⟨blk,1,none⟩=some v') :
 C0 100 #[.iface 185 (P0 blk)] w fun e w'=>e=.returned v'∧w'=w:=by
 have h1:=Tryz.hasUnwrapF
 have h2:=Tryz.methUnwrapF
 have h3:=Tryz.nilUnwrapF
 go_enter Tryz.func100,Tryz.ntmps100
 go_wp2_with fail
 refine(Nt _ _ _ h).mono ?_
 rintro e w' ⟨rfl,rfl⟩
 go_wp2_with fail
 go_ret
 exact⟨rfl,rfl⟩
theorem Fq(c:Value)(w:World):C0 100 #[.iface 63 c] w (Ret .nilIface w):=by
 have h1:=Tryz.noUnwrapN
 go_enter Tryz.func100,Tryz.ntmps100
 go_wp2_with fail
 go_ret
 exact⟨rfl,Below.refl _ _⟩
theorem Tryz.methAssign (h : Value) (w : World) : (Go.method 562 360 (.agg #[h]) "AssignableTo").run Tryz.prog w = .ok (346, .agg #[h]) w := by kernel_rfl
theorem Tryz.methKind (h : Value) (w : World) : (Go.method 562 360 (.agg #[h]) "Kind").run Tryz.prog w = .ok (335, h) w := by kernel_rfl
theorem Tryz.methElem (h : Value) (w : World) : (Go.method 562 360 (.agg #[h]) "Elem").run Tryz.prog w = .ok (348, .agg #[h]) w := by kernel_rfl
theorem Tryz.methImplements (h : Value) (w : World) : (Go.method 562 360 (.agg #[h]) "Implements").run Tryz.prog w = .ok (349, .agg #[h]) w := by kernel_rfl
def refTV(a:Nat):Value:=.agg #[.pointer (some ⟨1,191,none⟩),P0 a,.int .u64 150]
def AsPost(T:Nat)(t:Option Int)(w:World)(e:Ending)(w':World):Prop :=
 match t with
 | some c=>e=.returned (.bool true)∧∃ w1,B3 w w1∧w'=w1.setCell ⟨T,0,none⟩ (V0 c)
 | none=>e=.returned (.bool false)∧B3 w w'
theorem Zfw(T bV:Nat)(old:Int)(t:Option Int)(l:List (Option Int))(v:Value)(w:World)(hv:Gw w l t v)(hn:Bw l t=false)
 (hT:Blk w T [V0 old] 63) (hV:w.cell? ⟨bV,0,none⟩=some (P0 T)) :
 C0 192 #[v,.iface 191 (P0 T),refTV bV,.iface 360 (.agg #[.pointer (some ⟨1,63,none⟩)])] w (AsPost T t w):=by
 have a9:=@run_callFunc_extern Tryz.prog 189 _ (fun a2=>ReflectliteValue.unpack (a2.getD 0 (.tuple #[]))) Tryz.func189 (by kernel_rfl) (by kernel_rfl) (by kernel_rfl) (by kernel_rfl)
 have b0:=@run_callFunc_extern Tryz.prog 251 _ ReflectliteType.typeOf Tryz.func251 (by kernel_rfl) (by kernel_rfl) (by kernel_rfl) (by kernel_rfl)
 have b4 := @run_callFunc_extern Tryz.prog 346 _ (ReflectliteType.relation "AssignableTo" ReflectliteType.assignableTo) Tryz.func346 (by kernel_rfl) (by kernel_rfl) (by kernel_rfl) (by kernel_rfl)
 have b6 := @run_callFunc_extern Tryz.prog 252 _ (ReflectliteValue.method (ReflectliteValue.valueError "reflectlite.Value.Elem" 0) ReflectliteValue.elem) Tryz.func252 (by kernel_rfl) (by kernel_rfl) (by kernel_rfl) (by kernel_rfl)
 have b2:=@run_callFunc_extern Tryz.prog 253 _ ReflectliteValue.set Tryz.func253 (by kernel_rfl) (by kernel_rfl) (by kernel_rfl) (by kernel_rfl)
 have y1:=Tryz.typeOfN
 have y2:=Tryz.typeOfF
 have y4:=Tryz.assignN
 have y5:=Tryz.assignF
 have y7:=Tryz.methAssign
 have y8:=Tryz.valueOfN
 have y9:=Tryz.noAsF
 have a6:=Tryz.hasUnwrapF
 have b1:=Tryz.methUnwrapF
 unfold refTV
 go_enter Tryz.func192,Tryz.ntmps192
 go_wp2_with fail
 have kV:=Blk.new w [.pointer (some ⟨1,191,none⟩),P0 bV,.int .u64 150] 297
 have hB:=blx w (.cells #[.pointer (some ⟨1,191,none⟩),P0 bV,.int .u64 150] 297)
 obtain⟨W,hW⟩:∃ W,w.alloc (.cells #[.pointer (some ⟨1,191,none⟩),P0 bV,.int .u64 150] 297)=W:=⟨_,rfl⟩
 change Blk (w.alloc (.cells #[.pointer (some ⟨1,191,none⟩),P0 bV,.int .u64 150] 297)) _ _ _ at kV
 rw[hW] at kV hB ⊢
 have a5:=hT.below hB
 have a3:=Zfz hB hV
 have a4:=hv.below hB
 clear hW hT hV hv
 go_loopg [0] l.length (fun k x wr=>∃ l',l'.length=k∧Gw wr l' t x∧Bw l' t=false∧B3 W wr)
 case atStart=>exact⟨l,rfl,a4,hn,Below.refl _ _⟩
 case round =>
  obtain⟨l',hk,hx,a1,a0⟩:=hrel
  have kT:=a5.below a0
  have kW:=kV.below a0
  have cV:=Zfz a0 a3
  have cT:=kT.cell (i:=0) rfl
  have fT:=kT.frozen 0
  have b3:=kW.cell (i:=0) rfl
  have a8:=kW.cell (i:=1) rfl
  have a7:=kW.cell (i:=2) rfl
  have HK:=Lib.hid hk;clear hk
  match l',hx,a1 with
  | [],hx,a1 =>
   cases t with
   | none=>simp[Bw] at a1
   | some c =>
    obtain rfl:u0=_:=hx
    have z1:=Tryz.elemVPN ⟨bV,0,none⟩ ⟨T,0,none⟩ wr cV
    have z2:=Tryz.setN ⟨T,0,none⟩ ⟨wr.heap.size,0,none⟩ c (V0 old) (wr.alloc (.cells #[V0 c] 63)) ((Blk.new wr [V0 c] 63).cell (i:=0) rfl) (getA _ cT) ((kT.alloc _).frozen 0)
    go_wp2_with fail
    go_ret
    exact⟨rfl,_,bln hB (bln a0 (blx _ _)),rfl⟩
  | some b::r,hx,_ =>
   obtain⟨b5,v',rfl,hk,h3⟩:=hx
   have h1:=hk.cell (i:=0) rfl
   have h2:=hk.cell (i:=1) rfl
   go_wp2_with fail
   refine(Nt _ _ _ h2).mono ?_
   rintro e w' ⟨rfl,rfl⟩
   rcases h3.nil_or with ⟨hz,rfl⟩|⟨hz,ty,x,rfl⟩
   ·obtain⟨rfl,rfl⟩:=Fy hz
    go_wp2_with fail
    go_ret
    exact⟨rfl,bln hB a0⟩
   ·go_wp2_with fail
    change _=_ at HK
    go_roundg r.length
    case measure=>rw[←HK];simp
    case rel=>exact⟨r,rfl,h3,hz,a0⟩
  | none::r,hx,_=>exact hx.elim
def Zhi(w:World):Prop:=w.cell? ⟨0,0,none⟩=some (.iface 360 (.agg #[.pointer (some ⟨1,29,none⟩)]))
theorem Zhi.below{w w':World}(h:Zhi w)(hb:B3 w w'):Zhi w':=Zfz hb h
def Br(l:List (Option Int))(t:Option Int):Int:=if Bw l t then 0 else t.getD 18
theorem Zft(T:Nat)(old:Int)(t:Option Int)(l:List (Option Int))(v:Value)(w:World)(hg:Zhi w)(hv:Gw w l t v)(hn:Bw l t=false)
 (hT:Blk w T [V0 old] 63) :
 C0 101 #[v,.iface 191 (P0 T)] w (AsPost T t w):=by
 have h1:=@run_callFunc_extern Tryz.prog 189 _ (fun a1=>ReflectliteValue.unpack (a1.getD 0 (.tuple #[]))) Tryz.func189 (by kernel_rfl) (by kernel_rfl) (by kernel_rfl) (by kernel_rfl)
 have h2 := @run_callFunc_extern Tryz.prog 190 _ (ReflectliteValue.methodAny (ReflectliteValue.valueError "reflectlite.Value.Type" 0) (fun t _ _ _ => ReflectliteType.toType t)) Tryz.func190 (by kernel_rfl) (by kernel_rfl) (by kernel_rfl) (by kernel_rfl)
 have h3 := @run_callFunc_extern Tryz.prog 191 _ (ReflectliteValue.method (ReflectliteValue.valueError "reflectlite.Value.IsNil" 0) ReflectliteValue.isNil) Tryz.func191 (by kernel_rfl) (by kernel_rfl) (by kernel_rfl) (by kernel_rfl)
 have h4:=@run_callFunc_extern Tryz.prog 335 _ (ReflectliteType.abiMethod fun t=>do pure (.int .u8 (←Rtype.kind t))) Tryz.func335 (by kernel_rfl) (by kernel_rfl) (by kernel_rfl) (by kernel_rfl)
 have h5:=@run_callFunc_extern Tryz.prog 348 _ (ReflectliteType.method ReflectliteType.elem) Tryz.func348 (by kernel_rfl) (by kernel_rfl) (by kernel_rfl) (by kernel_rfl)
 have h6 := @run_callFunc_extern Tryz.prog 349 _ (ReflectliteType.relation "Implements" ReflectliteType.implements_) Tryz.func349 (by kernel_rfl) (by kernel_rfl) (by kernel_rfl) (by kernel_rfl)
 have f1:=Tryz.valueOfPN
 have f2:=Tryz.typePN
 have f3:=Tryz.methKind
 have f4:=Tryz.methElem
 have f5:=Tryz.methImplements
 have f6:=Tryz.kindPN
 have f7:=Tryz.kindN
 have f8:=Tryz.elemPN
 have f9:=Tryz.implementsN
 have hV:Blk (w.alloc (.cells #[P0 T] 191)) w.heap.size [P0 T] 191:=Blk.new w _ _
 obtain⟨O,hO⟩:∃ O:Obj,O=.cells #[.pointer (some ⟨1,191,none⟩),.pointer (some ⟨w.heap.size,0,none⟩),.int .u64 150] 297:=⟨_,rfl⟩
 have a2:=(hV.alloc O).cell (i:=0) rfl
 have n8:=Tryz.isNilPN ⟨w.heap.size,0,none⟩ ⟨T,0,none⟩ ((w.alloc (.cells #[P0 T] 191)).alloc O) a2
 have hB:B3 w ((w.alloc (.cells #[P0 T] 191)).alloc O):=bln (blx _ _) (blx _ _)
 have g2:=hg.below hB
 have a0:=Zfw T w.heap.size old t l v _ (hv.below hB) hn (hT.below hB) a2
 subst hO
 unfold Zhi at g2
 unfold refTV at a0
 clear hV a2 hg hT
 rcases hv.nil_or with ⟨hz,_⟩|⟨_,ty,x,rfl⟩
 ·rw[hz] at hn;exact nomatch hn
 go_enter Tryz.func101,Tryz.ntmps101
 go_wp2_with fail
 refine a0.mono ?_
 intro e w' h
 cases t with
 | some c =>
  obtain⟨rfl,w1,h1,rfl⟩:=h
  go_wp2_with fail
  go_ret
  exact⟨rfl,w1,bln hB h1,rfl⟩
 | none =>
  obtain⟨rfl,h1⟩:=h
  go_wp2_with fail
  go_ret
  exact⟨rfl,bln hB h1⟩
theorem Zfq(t:Option Int)(l:List (Option Int))(v:Value)(w:World)(hg:Zhi w)(hv:Gw w l t v) :
 C0 43 #[v] w (Ret (V0 (Br l t)) w):=by
 rcases hv.nil_or with ⟨hz,rfl⟩|⟨hz,ty,x,rfl⟩
 ·simp only[Br,hz,if_true]
  go_enter Tryz.func43,Tryz.ntmps43
  go_wp2_with fail
  go_ret
  exact⟨rfl,Below.refl _ _⟩
 simp only[Br,hz,Bool.false_eq_true,if_false]
 have hB:=blx w (.cells #[V0 0] 63)
 have kT:Blk (w.alloc (.cells #[V0 0] 63)) w.heap.size [V0 0] 63:=Blk.new w _ _
 have a0:=Zft w.heap.size 0 t l _ _ (hg.below hB) (hv.below hB) hz kT
 clear hg hv
 go_enter Tryz.func43,Tryz.ntmps43
 go_wp2_with fail
 refine a0.mono ?_
 intro e w' h
 cases t with
 | some c =>
  obtain⟨rfl,w1,h1,rfl⟩:=h
  have k2:=((kT.below h1).set 0 (V0 c)).cell (i:=0) rfl
  go_wp2_with fail
  go_ret
  exact⟨rfl,(bln hB h1).setCell (Nat.le_refl _) _⟩
 | none =>
  obtain⟨rfl,h1⟩:=h
  go_wp2_with fail
  go_ret
  exact⟨rfl,bln hB h1⟩
def atL (b:Int)(l:List (Option Int))(t:Option Int):List (Option Int):=if Bw l t then l else some b::l
theorem fault_At(b:Int)(t:Option Int)(l:List (Option Int))(v:Value)(w:World)(hv:Gw w l t v) :
 C0 127 #[V0 b,v] w (Qn (fun w' r=>Gw w' (atL b l t) t r) w):=by
 rcases hv.nil_or with ⟨hz,rfl⟩|⟨hz,ty,x,rfl⟩
 ·simp only[atL,hz,if_true]
  go_enter Tryz.func127,Tryz.ntmps127
  go_wp2_with fail
  go_ret
  exact⟨_,rfl,Below.refl _ _,hv⟩
 simp only[atL,hz,Bool.false_eq_true,if_false]
 go_enter Tryz.func127,Tryz.ntmps127
 go_wp2_with fail
 go_ret
 have k:=Blk.new w [V0 b,.iface ty x] 188
 exact⟨_,rfl,blx _ _,w.heap.size,_,rfl,k,hv.below (blx _ _)⟩
def errM(l:List (Option Int))(t:Option Int):Nat:=l.length+if t.isSome then 1 else 0
def Vo(l:List (Option Int)):List Int:=l.filterMap id
theorem Ac(t:Option Int)(l:List (Option Int))(v:Value)(w:World)(hlen:l.length≤1000000)(hv:Gw w l t v) :
 C0 42 #[v] w (Qn (fun w' r=>w'.ownsRow w.heap.size 3 1 r (Vo l).length ((Vo l).map V0)) w):=by
 obtain⟨i0,a5,a7,b0,a6⟩:=info_parts (P:=Tryz.prog) (e:=3) (z:=V0 0) (size:=1) (bytes:=8) (by kernel_rfl)
 have y1:=Tryz.hasUnwrapF
 have y2:=Tryz.methUnwrapF
 have y3:=Tryz.nilUnwrapF
 have y4:=Tryz.noUnwrapN
 have y7:=Tryz.isFF
 have y8:=Tryz.isNF
 go_enter Tryz.func42,Tryz.ntmps42
 go_wp2_with fail
 go_loopg [0,3] (errM l t) (fun k x u wr=>∃ l' t' xs,k=errM l' t'∧Gw w l' t' x∧wr.ownsRow w.heap.size 3 1 u xs.length (xs.map V0)∧Vo l=xs++Vo l'∧B3 w wr)
 case atStart=>exact⟨l,t,[],rfl,hv,World.ownsRow_nil _ _ _ _,rfl,Below.refl _ _⟩
 case round =>
  obtain⟨l',t',xs,hk,hx,a0,a3,a2⟩:=hrel
  have HK:=Lib.hid hk;clear hk
  have b1:xs.length+(Vo l').length≤1000000:=by
   have:(Vo l).length≤l.length:=List.length_filterMap_le _ _
   rw[a3,List.length_append] at this;omega
  have HB:=Lib.hid a3;clear a3
  match l',hx with
  | [],hx =>
   cases t' with
   | none =>
    obtain rfl:u0=_:=hx
    have HO:=Lib.hid a0;clear a0
    go_wp2_with fail
    go_ret
    refine⟨_,rfl,a2,?_⟩
    rw[HB.out,show Vo []=[] from rfl,List.append_nil]
    exact HO.out
   | some c =>
    obtain rfl:u0=_:=hx
    have HO:=Lib.hid a0;clear a0
    go_wp2_with fail
    refine(Fq _ _).mono ?_
    rintro e w' ⟨rfl,hb⟩
    have a9:=Lib.hid (Zb HO.out hb)
    go_wp2_with fail
    go_roundg 0
    case measure=>rw[HK.out];simp[errM]
    case rel=>exact⟨[],none,xs,rfl,rfl,a9.out,HB.out,bln a2 hb⟩
  | some b::r,hx =>
   obtain⟨b2,v',rfl,hk,h3⟩:=hx
   have h1:=hk.cell (i:=0) rfl
   have h2:=hk.cell (i:=1) rfl
   have c1:=Zfz a2 h1
   go_wp2_with (at_builtin;refine Stop.go ?_)
   unfold Stop
   refine app_own rfl _ _ 33 rfl w.heap.size 3 i0 (V0 0) 1 8 Tryz.underlying33 a5 a7 b0 a6 rfl (by decide) u3 xs.length _ rfl (a0.alloc _) wr.heap.size 1 1 [V0 b] 3 rfl
    (Blk.new wr [V0 b] 3) rfl (by simp[Value.oneCell']) (by unfold maxLen;omega) (by omega) (by have:=a2.size;simp;omega) ?_
   intro v2 w3 a1 _ a8
   have a4:B3 w w3:=(a2.trans ((blx wr _).mono a2.size)).trans a8
   have HO:=Lib.hid a1
   have g2:=Zfz a4 h2
   clear a0 a1
   go_wp2_with fail
   refine(Fn _ _ _ g2).mono ?_
   rintro e w' ⟨rfl,rfl⟩
   go_wp2_with fail
   go_roundg (errM r t')
   case measure=>rw[HK.out];simp[errM]
   case rel=>exact⟨r,t',xs++[b],rfl,h3,by simpa using HO.out,by rw[HB.out];simp[Vo],a4⟩
  | none::r,hx=>exact hx.elim
end Go.Proofs.YtegcamkgeacjfaaGreatDoor
namespace Go.Proofs.YtegcamkgeacjfaaGreatDoor
set_option maxHeartbeats 8000000
set_option maxRecDepth 100000
open Go.ChangeShapes Go.WideShapes Go.ChangeAt Go.RowKit Go.Joins
set_option linter.unusedVariables false
theorem ownKnobs:ownKnob Tryz.prog.godebug=none:=by kernel_rfl
theorem laidOuts:laidOutB Tryz.prog=true:=by kernel_rfl
theorem Tryz.et : Tryz.prog.globalNamed "errors.errorType" = some 0 := by kernel_rfl
theorem Tryz.rt : (Tryz.prog.cutTypes.find? (·.1 == "internal/reflectlite.rtype")).map (·.2) = some 360 := by kernel_rfl
theorem Tryz.oneRow:((List.range 462).filter fun t=>Tryz.prog.rowNamed t [101,114,114,111,114])=[29]:=by kernel_rfl
theorem Tryz.ntypes:Tryz.prog.types.size=462:=by kernel_rfl
theorem It {W : World} (h : laidMetH Tryz.prog [("errors.errorType", Rows.laid_errors_errorType)] W) : Zhi W := by
 have h' : laidMet Tryz.prog [] W ∧ handlesMet Tryz.prog [("errors.errorType", Rows.laid_errors_errorType)] W := h
 obtain⟨a0,u,ty,e1,e2,e3,e4,e5⟩:=h'.2 _ (List.mem_singleton.2 rfl)
 have en:a0=[101,114,114,111,114]:=(Option.some.inj e1).symm
 subst en
 obtain rfl:=Option.some.inj (Tryz.rt.symm.trans e2)
 have hm:ty∈(List.range 462).filter fun t=>Tryz.prog.rowNamed t [101,114,114,111,114]:=List.mem_filter.2 ⟨List.mem_range.2 (by rw[←Tryz.ntypes];exact e3),e4⟩
 rw[Tryz.oneRow] at hm
 obtain rfl:=List.mem_singleton.1 hm
 have hh:typeHandle Tryz.prog 29=.pointer (some ⟨1,29,none⟩):=by kernel_rfl
 rw[hh] at e5
 simpa [Zhi] using World.var?_cell Tryz.et e5 0
noncomputable def laidWorld (os:Os):World :=
 let w0:=World.holding Tryz.prog os ⟨#[],#[],[]⟩
 { w0 with heap:=w0.heap.modify 0 fun
  | .cells _ t frozen=>.cells #[.iface 360 (.agg #[.pointer (some ⟨1,29,none⟩)])] t frozen
  | o=>o }
theorem Sk (os : Os) (args : Array Value) : laidMetH Tryz.prog [("errors.errorType", Rows.laid_errors_errorType)] ((laidWorld os).forCall (fun _ _ => 0) ⟨#[], args, []⟩).memory :=
 laidMetH_of_parts (laidMet_nil _ _) (by kernel_rfl)
end Go.Proofs.YtegcamkgeacjfaaGreatDoor
namespace Go.Proofs.YtegcamkgeacjfaaGreatDoor
set_option maxHeartbeats 8000000
set_option maxRecDepth 100000
open Go.RowKit
set_option linter.unusedVariables false
theorem Zfa{P:Program}(w:World)(base:Nat)(t ty e:TypeId)(i:TypeInfo)(z:Value)(size bytes:Nat)(ht:P.underlying t=some (.slice e))(hi:P.info? e=some i)(hz:i.zero=some z)
 (hsize:i.size=size) (hby:i.bytes=bytes) (hzs:z.cells.size=size) (hsz:0<size) (v:Value) (n:Nat) (xs:List Value) (hown:w.ownsRow base e size v n xs)
 (x:Value) (m:Nat) (news:List Value) (hx:Sl w x m news) (hl:news.length=m*size) (h1:∀ u∈news,u.oneCell'=true)
 (h63:n+m≤maxLen) (hbytes:(n+m)*bytes≤140737488355328) (hbase:base≤w.heap.size) :
 ∃ v' w',(Builtin.append_ #[t,t] ty #[v,x]).run P w=.ok v' w'∧w'.ownsRow base e size v' (n+m) (xs++news)∧w.grownBy w' v.ownBlock:=by
 have a0:∀ (a:Addr) (c:Nat),x=.slice (some a) m c→(∀ j u,news[j]? = some u→w.cell? (a.add j)=some u) →
   ∃ v' w',(Builtin.append_ #[t,t] ty #[v,x]).run P w=.ok v' w'∧w'.ownsRow base e size v' (n+m) (xs++news)∧w.grownBy w' v.ownBlock:=by
  rintro a c rfl hc
  obtain⟨v',w',h2,h3,h4,_⟩:=run_append_own_at (P:=P) w base t ty e i z size bytes ht hi hz hsize hby hzs hsz v n xs hown a m c news hl hc h1 h63 hbytes hbase
  exact⟨v',w',h2,h3,h4⟩
 rcases hx with ⟨a,c,rfl,rfl,rfl⟩|⟨b,a2,a1,rfl,a3,a4,hc⟩
 ·cases a with
  | some a=>exact a0 a c rfl (fun j u hu=>by simp at hu)
  | none =>
   refine⟨v,w,?_,by simpa using hown,World.grownBy.refl w _⟩
   rcases hown.2 with ⟨rfl,rfl⟩|⟨g,a1,a6,rfl,_,_,a5,_⟩
   ·simp[Builtin.append_,run_underlying ht,sizeOf,typeInfo,hi,Builtin.lenOf,Builtin.firstCells]
   ·simp[Builtin.append_,run_underlying ht,sizeOf,typeInfo,hi,Builtin.lenOf,Builtin.firstCells,a5,storeCells]
 ·refine a0 ⟨b,a2,none⟩ a1 rfl (fun j u hu=>?_)
  have:=hc j u hu
  by_cases h0:j=0
  ·subst h0;simpa [Addr.add] using this
  ·simpa [Addr.add,h0] using this
theorem wp_app_sl{P:Program}{w:World}{o:Oper}{a:Act}{K:Act→World→Prop}{Q:Exit→Act→World→Prop}(s x:Operand)(t:TypeId)
  (ho:o.op=.call { callee:=.builtin .append,args:=#[s,x],argTypes:=#[t,t] }) (base:Nat) (e:TypeId) (i:TypeInfo) (z:Value) (size bytes:Nat) (ht:P.underlying t=some (.slice e)) (hi:P.info? e=some i)
  (hz:i.zero=some z) (hsize:i.size=size) (hby:i.bytes=bytes) (hzs:z.cells.size=size) (hsz:0<size) (v:Value) (n:Nat) (xs:List Value) (hs:a.eval s=v) (hown:w.ownsRow base e size v n xs)
  (u:Value) (m:Nat) (news:List Value) (hu:a.eval x=u) (hx:Sl w u m news) (hl:news.length=m*size) (h1:∀ u∈news,u.oneCell'=true)
  (h63:n+m≤maxLen) (hbytes:(n+m)*bytes≤140737488355328) (hbase:base≤w.heap.size)
  (h:∀ v' w',w'.ownsRow base e size v' (n+m) (xs++news)→w.grownBy w' v.ownBlock→Below base w w'→K (a.put o.dst v') w'):o.wp P a w K Q:=by
 obtain⟨v',w',a0,h2,h3⟩:=Zfa (P:=P) w base t o.type e i z size bytes ht hi hz hsize hby hzs hsz v n xs hown u m news hx hl h1 h63 hbytes hbase
 unfold Oper.wp execOp
 simp only[ho,resolve,invoke,builtin,Sem.run_bind,Sem.run_pure,Result.andThen_ok,List.map_toArray,List.map_cons,List.map_nil,hs,hu,a0]
 exact h v' w' h2 h3 (Vu h3 hown (Nat.le_refl _) hbase)
end Go.Proofs.YtegcamkgeacjfaaGreatDoor
namespace Go.Proofs.YtegcamkgeacjfaaGreatDoor
set_option maxHeartbeats 8000000
set_option maxRecDepth 100000
open Go.RowKit
set_option linter.unusedVariables false
/-! ### operations that only compute -/
def Gx(P:Program){α:Type}:Sem α→Option α
 | .pure a=>some a
 | .program k=>Gx P (k P)
 | _=>none
theorem Jp{P:Program}{α:Type}:∀ {s:Sem α} {a:α},Gx P s=some a→∀ w,s.run P w=.ok a w
 | .pure a,b,h,w=>by simp only[Gx,Option.some.injEq] at h;subst h;rfl
 | .program k,b,h,w=>by simp only[Gx] at h;exact Jp (s:=k P) h w
def Ch(P:Program)(ops:Array Oper)(a:Act)(o:Oper):Option Act :=
 match Region.wanted o (yielded ops a.tmps) with
 | true=>match Gx P (execOp a.eval o) with
  | some (.value v)=>some (a.put o.dst v)
  | _=>none
 | false=>some (a.put o.dst undef)
theorem Wa{P:Program}{ops:Array Oper}{a a':Act}{o:Oper}(h:Ch P ops a o=some a'):∃ v,a'=a.put o.dst v∧∀ S:World→Prop,YieldsIf P ops S o v a:=by
 unfold Ch at h
 split at h
 ·rename_i hw
  split at h
  ·rename_i v hv
   simp only[Option.some.injEq] at h
   exact⟨v,h.symm,fun S=>.inl ⟨hw,fun w _=>Jp hv w⟩⟩
  ·cases h
 ·rename_i hw
  simp only[Option.some.injEq] at h
  exact⟨undef,h.symm,fun S=>.inr ⟨hw,rfl⟩⟩
def Rp(P:Program)(ops:Array Oper):List Oper→Act→Option Act
 | [],a=>some a
 | o::r,a=>match Ch P ops a o with
  | some a'=>Rp P ops r a'
  | none=>none
section
variable {P:Program} {ops:Array Oper} {Q:Exit→Act→World→Prop} {a a':Act} {w:World} {K:Act→World→Prop}
theorem Un{o:Oper}{rest:List Oper}{v:Value}(hy:YieldsIf P ops (fun _=>True) o v a)(k:wpList P ops Q rest (a.put o.dst v) w):wpList P ops Q (o::rest) a w:=by
 unfold wpList
 rcases hy with ⟨hw,hv⟩|⟨hw,rfl⟩
 ·simp only[hw,if_true];exact .inl (by simp only[Oper.wp,hv w trivial,Oper.upon];exact k)
 ·simp only[hw,Bool.false_eq_true,if_false];exact k
theorem Lq:∀ (l:List Oper) {rest:List Oper} {a a':Act},Rp P ops l a=some a'→wpList P ops Q rest a' w→wpList P ops Q (l++rest) a w
 | [],_,_,_,h,k=>by simp only[Rp,Option.some.injEq] at h;subst h;exact k
 | o::r,rest,a,a',h,k=>by
  simp only[Rp] at h
  split at h
  ·rename_i a1 h1
   obtain⟨v,rfl,hy⟩:=Wa h1
   exact Un (hy _) (Lq r h k)
  ·cases h
theorem g_pure{l:List Oper}(n:Nat)(a':Act)(h:Rp P ops (l.take n) a=some a')(k:wpList P ops Q (l.drop n) a' w):wpList P ops Q l a w:=by
 have:=Lq (P:=P) (ops:=ops) (Q:=Q) (w:=w) (l.take n) h k
 rwa [List.take_append_drop] at this
theorem Qa{o:Oper}{rest:List Oper}(hw:Region.wanted o (yielded ops a.tmps)=true)(h:o.wp P a w (wpList P ops Q rest) Q):wpList P ops Q (o::rest) a w:=by
 unfold wpList;simp only[hw,if_true];exact .inl h
theorem g_fr{c:Code}(a':Act)(h:a=a')(k:c.wp P Q a' w):c.wp P Q a w:=h▸k
theorem g_nfr(a':Act)(h:a=a')(k:Q .normal a' w):Q .normal a w:=h▸k
/-! ### one operation -/
theorem Gp{o:Oper}{v:Value}{w':World}(hv:(execOp a.eval o).run P w=.ok (.value v) w')(k:K (a.put o.dst v) w'):o.wp P a w K Q:=by
 simp only[Oper.wp,hv,Oper.upon];exact k
theorem op_pure{o:Oper}(v:Value)(hv:Gx P (execOp a.eval o)=some (.value v))(k:K (a.put o.dst v) w):o.wp P a w K Q:=Gp (Jp hv w) k
def aggB(P:Program)(t:TypeId):Option Bool:=(P.underlying t).map fun d=>match d with|.struct _|.array _ _=>true|_=>false
theorem As{t:TypeId}{b:Bool}(h:aggB P t=some b)(w:World):(isAgg t).run P w=.ok b w:=by
 unfold aggB at h
 cases hu:P.underlying t with
 | none=>rw[hu] at h;cases h
 | some d =>
  rw[hu] at h
  unfold isAgg
  rw[Sem.run_bind,run_underlying hu w]
  cases d<;>simp_all
theorem Oc{t:TypeId}{p:Addr}{v:Value}(hag:aggB P t=some false)(hc:w.cell? p=some v):(Instr.loadAt t (.pointer (some p))).run P w=.ok v w:=by
 simp[Instr.loadAt,Instr.sureAddr,loadVar,Sem.run_bind,As hag w,load,Sem.run,hc]
theorem Kz{o:Oper}{t:TypeId}{x:Operand}(p:Addr)(v:Value)(ho:o.op=.load t x)(hx:a.eval x=.pointer (some p))(hag:aggB P t=some false)(hc:w.cell? p=some v)
 (k:K (a.put o.dst v) w):o.wp P a w K Q :=
 Gp (by simp only[execOp,ho,hx,Sem.run_bind,Oc hag hc];rfl) k
theorem Blk.part{b:Nat}{cs:List Value}{t:TypeId}(h:Blk w b cs t)(off n:Nat)(hn:off+n≤cs.length):w.rangeAt b off ((cs.drop off).take n):=fun j v hj=>h.cell (by
 have a0:j<n:=by have:=(List.getElem?_eq_some_iff.1 hj).1;simp at this;omega
 rw[List.getElem?_take_of_lt a0,List.getElem?_drop] at hj;exact hj)
theorem Blk.whole{w:World}{b:Nat}{cs:List Value}{t:TypeId}(h:Blk w b cs t):w.rangeAt b 0 cs:=fun j v hj=>by rw[Nat.zero_add];exact h.cell hj
theorem Jf{o:Oper}{t:TypeId}{x:Operand}{b off:Nat}(cs:List Value)(d:TypeDesc)(ho:o.op=.load t x)(hx:a.eval x=.pointer (some ⟨b,off,none⟩))(hu:P.underlying t=some d)(hd:d.isRow=true)
 (hi:(P.info? t).map (·.size)=some cs.length) (hc:w.rangeAt b off cs) (k:K (a.put o.dst (.agg cs.toArray)) w):o.wp P a w K Q:=wp_load_mid t x ho b off hx cs d hc hu hd hi k
/-! ### what became of the memory -/
structure New(w:World)(b:Nat)(cs:List Value)(t:TypeId)(W:World):Prop where
 at_:b=w.heap.size
 below:Below w.heap.size w W
 blk:Blk W b cs t
 size:W.heap.size=w.heap.size+1
theorem New.mk'(w:World)(cs:List Value)(t:TypeId):New w w.heap.size cs t (w.alloc (.cells cs.toArray t)):=⟨rfl,blx _ _,Blk.new _ _ _,by simp⟩
theorem New.ne{b b':Nat}{cs cs':List Value}{t t':TypeId}{w W:World}(h:New w b cs t W)(k:Blk w b' cs' t'):b'≠b:=by have:=k.lt;have:=h.at_;omega
theorem New.ge{b:Nat}{cs:List Value}{t:TypeId}{w W A:World}(h:New w b cs t W)(k:Below A.heap.size A w):A.heap.size≤b:=by have:=k.size;have:=h.at_;omega
theorem New.lt{b:Nat}{cs:List Value}{t:TypeId}{W:World}(h:New w b cs t W):b<W.heap.size:=h.blk.lt
structure Upd(w:World)(b:Nat)(W:World):Prop where
 os:W.os=w.os
 tape:W.tape=w.tape
 output:W.output=w.output
 size:W.heap.size=w.heap.size
 block:∀ k,k≠b→W.heap[k]? = w.heap[k]?
theorem Upd.setCell(w:World)(b i:Nat)(v:Value):Upd w b (w.setCell ⟨b,i,none⟩ v):=⟨rfl,rfl,rfl,by simp[World.setCell],fun k hk=>Below.heap_setCell w _ v k hk⟩
theorem Upd.trans{w1 w2:World}{b:Nat}(h:Upd w b w1)(k:Upd w1 b w2):Upd w b w2 :=
 ⟨k.os.trans h.os,k.tape.trans h.tape,k.output.trans h.output,k.size.trans h.size,fun i hi=>(k.block i hi).trans (h.block i hi)⟩
theorem Upd.below{A W:World}{b B:Nat}(h:Upd w b W)(hB:Below B A w)(hb:B≤b):Below B A W :=
 hB.trans ⟨h.os,h.tape,h.output,Nat.le_of_eq h.size.symm,fun k hk=>h.block k (by omega)⟩
theorem Upd.blk{W:World}{b b':Nat}{cs:List Value}{t:TypeId}(h:Upd w b W)(k:Blk w b' cs t)(hne:b'≠b):Blk W b' cs t:=(h.block b' hne).trans k
theorem Upd.own{W:World}{b base:Nat}{e:TypeId}{size:Nat}{v:Value}{n:Nat}{xs:List Value}(h:Upd w b W)(k:w.ownsRow base e size v n xs)(hb:b<base):W.ownsRow base e size v n xs:=by
 obtain⟨h1,h2⟩:=k
 refine⟨h1,?_⟩
 rcases h2 with h2|⟨g,a0,a1,hv,hg,hh,r⟩
 ·exact Or.inl h2
 ·exact Or.inr ⟨g,a0,a1,hv,hg,by rw[h.block g (by omega)];exact hh,r⟩
theorem Yh{o:Oper}{t:TypeId}{x y:Operand}{b off:Nat}{cs:List Value}{tb:TypeId}{v:Value}(ho:o.op=.store t x y)(hx:a.eval x=.pointer (some ⟨b,off,none⟩))(hy:a.eval y=v)
 (hi:(P.info? t).map (·.size)=some 1) (h1:v.oneCell'=true) (hk:Blk w b cs tb) (hoff:off<cs.length)
 (k:∀ W,Upd w b W→Blk W b (cs.set off v) tb→K (a.put o.dst undef) W):o.wp P a w K Q:=by
 have hc:=hk.cell (List.getElem?_eq_getElem hoff)
 have hf:=hk.frozen off
 have a0:(Instr.storeAt t (.pointer (some ⟨b,off,none⟩)) v).run P w=.ok () (w.setCell ⟨b,off,none⟩ v):=by
  cases hq:P.info? t with
  | none=>simp[hq] at hi
  | some i =>
   have hs:i.size=1:=by simpa [hq] using hi
   cases v<;>simp_all [Instr.storeAt,Instr.sureAddr,storeVar,Sem.run_bind,sizeOf,typeInfo,Value.cells,storeCells,store,Sem.run,Value.oneCell',Addr.add]
 have h2:(execOp a.eval o).run P w=.ok .skip (w.setCell ⟨b,off,none⟩ v):=by
  simp only[execOp,ho,hx,hy,Sem.run_bind,a0];rfl
 simp only[Oper.wp,h2,Oper.upon]
 exact k _ (Upd.setCell _ _ _ _) (hk.set off v)
theorem Blk.setCells{b:Nat}{cs:List Value}{t:TypeId}:∀ (vs:List Value) (o:Nat) {w:World} {cs:List Value},Blk w b cs t→o+vs.length≤cs.length→Blk (w.setCells b o vs) b (cs.take o++vs++cs.drop (o+vs.length)) t∧Upd w b (w.setCells b o vs)
 | [],o,w,cs,h,hl=>by
  refine⟨?_,rfl,rfl,rfl,rfl,fun _ _=>rfl⟩
  simp only[World.setCells]
  simpa using h
 | v::r,o,w,cs,h,hl=>by
  rw[World.setCells]
  have a0:=h.set o v
  obtain⟨h1,h2⟩:=Blk.setCells (cs:=cs) r (o+1) a0 (by simp at hl ⊢;omega)
  refine⟨?_,(Upd.setCell _ _ _ _).trans h2⟩
  have e:(cs.set o v).take (o+1)++r++(cs.set o v).drop (o+1+r.length)=cs.take o++(v::r)++cs.drop (o+(v::r).length):=by
   have ho:o<cs.length:=by simp at hl;omega
   have h1:(cs.take o).length=o:=by simp;omega
   have h2:cs.set o v=(cs.take o++[v])++cs.drop (o+1):=by rw[List.set_eq_take_append_cons_drop,if_pos ho];simp
   have h3:(cs.take o++[v]).length=o+1:=by simp;omega
   rw[h2,List.take_left' h3,←List.drop_drop,List.drop_left' h3,List.drop_drop]
   simp[Nat.add_comm,Nat.add_left_comm]
  rwa [e] at h1
theorem Ig{o:Oper}{t:TypeId}{x y:Operand}{b off:Nat}{cs:List Value}{tb:TypeId}(vs:List Value)(ho:o.op=.store t x y)(hx:a.eval x=.pointer (some ⟨b,off,none⟩))(hy:a.eval y=.agg vs.toArray)
 (hi:(P.info? t).map (·.size)=some vs.length) (h1:∀ v∈vs,v.oneCell'=true) (hk:Blk w b cs tb) (hoff:off+vs.length≤cs.length)
 (k:∀ W,Upd w b W→Blk W b (cs.take off++vs++cs.drop (off+vs.length)) tb→K (a.put o.dst undef) W):o.wp P a w K Q :=
 wp_store_mid t x y ho b off vs.toArray hx hy (fun j hj=>⟨by rw[hk.cell (List.getElem?_eq_getElem (by simp at hj;omega))];rfl,hk.frozen _⟩) (by simpa using hi) (all_oneCell_toArray h1)
  (k _ (Blk.setCells (cs:=cs) vs off hk hoff).2 (Blk.setCells (cs:=cs) vs off hk hoff).1)
def zeroOf(P:Program)(t:TypeId):Option (List Value):=((P.info? t).bind (·.zero)).map fun v=>v.cells.toList
theorem Vq{o:Oper}{t:TypeId}(cs:List Value)(ho:o.op=.alloc t)(hz:zeroOf P t=some cs)(k:∀ b W,New w b cs t W→K (a.put o.dst (P0 b)) W):o.wp P a w K Q:=by
 unfold zeroOf at hz
 cases hi:P.info? t with
 | none=>simp[hi] at hz
 | some i =>
  cases hq:i.zero with
  | none=>simp[hi,hq] at hz
  | some v =>
   simp only[hi,hq,Option.bind_some,Option.map_some,Option.some.injEq] at hz
   have hv:v.cells=cs.toArray:=by rw[←hz]
   exact Gp (w':=w.alloc (.cells cs.toArray t)) (by simp[execOp,ho,Instr.alloc,Sem.run_bind,zeroValue,typeInfo,program,hi,hq,newVar,newRow,newObj,Sem.run,hv]) (k _ _ (New.mk' w cs t))
theorem Ry{o:Oper}{t:TypeId}{x:Operand}(cs:List Value)(ho:o.op=.box t x)(hx:(a.eval x).cells=cs.toArray)(k:∀ b W,New w b cs t W→K (a.put o.dst (P0 b)) W):o.wp P a w K Q :=
 Gp (w':=w.alloc (.cells cs.toArray t)) (by simp[execOp,ho,Instr.box,newVar,newRow,newObj,Sem.run,hx]) (k _ _ (New.mk' w cs t))
def built(P:Program)(t:TypeId)(len:Nat)(parts:List (Nat×Value)):Option (TypeId×List Value) :=
  match P.underlying t with
  | some (.slice e)=>match P.info? e with
    | some i=>match i.zero with
      | some z=>if len*i.size>2 ^ 24 then none else if len*i.size=0 then none else(Instr.fill (fun j=>some (j*i.size,i.size)) ((Array.range (len*i.size)).map (z.cells[·%z.cells.size]!)) parts).map fun c=>(e,c.toList)
      | none=>none
    | none=>none
  | _=>none
theorem Qz{o:Oper}{t:TypeId}{n:Nat}{parts:Array (Nat×Operand)}(e:TypeId)(cs:List Value)(ho:o.op=.buildSlice t n parts)(hb:built P t n (parts.toList.map fun p=>(p.1,a.eval p.2))=some (e,cs))
 (k:∀ b W,New w b cs e W→K (a.put o.dst (.slice (S1 b) n n)) W):o.wp P a w K Q:=by
  unfold built at hb
  split at hb
  · rename_i e' hu
    split at hb
    · rename_i i hi
      split at hb
      · rename_i z hz
        split at hb
        · cases hb
        · split at hb
          · cases hb
          · rename_i h1 h2
            cases hf:Instr.fill (fun j=>some (j*i.size,i.size)) ((Array.range (n*i.size)).map (z.cells[·%z.cells.size]!)) (parts.toList.map fun p=>(p.1,a.eval p.2)) with
            | none=>rw[hf] at hb;cases hb
            | some c =>
              rw[hf] at hb
              simp only[Option.map_some,Option.some.injEq,Prod.mk.injEq] at hb
              obtain⟨rfl,hc⟩:=hb
              have a2:c=cs.toArray:=by rw[←hc]
              subst a2
              exact Gp (w':=w.alloc (.cells cs.toArray e')) (by
                simp[execOp,ho,Instr.buildSlice,Sem.run_bind,run_underlying hu,sizeOf,typeInfo,hi,zeroValue,hz,h1,h2]
                have a1:Instr.fill (fun a0=>some (a0*i.size,i.size)) (Array.map (fun x=>z.cells[x%z.cells.size]!) (Array.range (n*i.size))) (List.map (fun x=>(x.fst,a.eval x.snd)) parts.toList)=some cs.toArray:=hf
                rw[a1]
                simp[newRow,newObj,Sem.run]) (k _ _ (New.mk' w cs e'))
      · cases hb
    · cases hb
  · cases hb
theorem Fo{o:Oper}{t e:TypeId}(ho:o.op=.buildSlice t 0 #[])(hu:P.underlying t=some (.slice e))(hi:(P.info? e).isSome=true)
 (k:∀ b W,New w b [] e W→K (a.put o.dst (.slice (S1 b) 0 0)) W):o.wp P a w K Q:=by
 obtain⟨i,hi⟩:=Option.isSome_iff_exists.1 hi
 exact Gp (w':=w.alloc (.cells #[] e)) (by simp[execOp,ho,Instr.buildSlice,run_underlying hu,sizeOf,typeInfo,hi,Instr.fill,newRow,newObj,Sem.run,Array.range_zero']) (k _ _ (New.mk' w [] e))
theorem Yl{o:Oper}{c:Operand}{ops:Array Operand}{ts:Array TypeId}{lb:Array Value}(f:FuncId)(args:Array Value)(ho:o.op=.call { callee:=.value c,args:=ops,argTypes:=ts })(hc:a.eval c=.func (.func f) #[] lb)
 (hf:∀ xs w,(callFunc f xs).run P w=.ok (.enter f xs) w) (has:ops.map a.eval++lb=args) (h:Calls P f args w fun e w'=>∃ v,e=.returned v∧K (a.put o.dst v) w'):o.wp P a w K Q:=by
 have h2:(execOp a.eval o).run P w=.ok (.enter f args) w:=by
  simp only[execOp,ho,resolve,hc,Deferred.ofValue,Sem.run_bind,Sem.run_pure,Result.andThen_ok,invoke]
  rw[←has,←hf]
  simp
 simp only[Oper.wp,h2,Oper.upon]
 exact h.mono fun e w' ⟨v,he,hk⟩=>by subst he;exact hk
end
section
variable {P:Program} {Q:Exit→Act→World→Prop} {a:Act} {w:World} {K:Act→World→Prop}
theorem Zgh{o:Oper}(k:IntKind)(n m:Int)(hv:Gx P (execOp a.eval o)=some (.value (.int k (k.wrap n))))(hm:k.wrap n=m)(h:K (a.put o.dst (.int k m)) w):o.wp P a w K Q :=
 op_pure (.int k m) (by rw[hv,hm]) h
theorem Lc{o:Oper}{t e:TypeId}{x y:Operand}{b off len k:Nat}{i:Int}{ki:IntKind}(size off':Nat)(ho:o.op=.indexAddr t x y)(hx:a.eval x=.pointer (some ⟨b,off,none⟩))(hy:a.eval y=.int ki i)(hi:i=(k:Int))(hk:k<len)(hoff:off+k*size=off')
 (ht:P.underlying t=some (.array len e)) (hs:(P.info? e).map (·.size)=some size) (w:World):(execOp a.eval o).run P w=.ok (.value (.pointer (some ⟨b,off',none⟩))) w:=by
 cases hq:P.info? e with
 | none=>simp[hq] at hs
 | some j =>
  have hj:j.size=size:=by simpa [hq] using hs
  subst hi hoff
  have h1:(0:Int)≤(k:Int):=by omega
  have h2:(k:Int)<(len:Int):=by omega
  simp[execOp,ho,hx,hy,Instr.indexAt,Instr.sureAddr,asIntOf,run_underlying ht,sizeOf,typeInfo,hq,hj,hk,Addr.add_mid]
theorem Kn{o:Oper}{t e:TypeId}{x y:Operand}(n:Nat)(z:Value)(size bytes:Nat)(cs:List Value)(ho:o.op=.makeSlice t x y)(hx:a.eval x=V0 (n:Int))(hy:a.eval y=V0 (n:Int))(ht:P.underlying t=some (.slice e))
 (hi:(P.info? e).map (fun i=>(i.zero,i.size,i.bytes))=some (some z,size,bytes)) (hzs:z.cells.size=size) (hb:bytes*n≤281474976710656) (hn:n≤9223372036854775807) (hcs:Hs z.cells.toList n=cs)
 (h:∀ b W,New w b cs e W→K (a.put o.dst (.slice (S1 b) n n)) W):o.wp P a w K Q:=by
 cases hq:P.info? e with
 | none=>simp[hq] at hi
 | some i =>
  simp only[hq,Option.map_some,Option.some.injEq,Prod.mk.injEq] at hi
  have hr:=Zd1 (P:=P) (t:=t) (e:=e) z.cells.toList ht hq hi.1 (by simp) (by rw[hi.2.1,←hzs];simp) hi.2.2 n hb hn w
  subst hcs
  refine Gp (w':=w.alloc (.cells (Hs z.cells.toList n).toArray e)) ?_ (h _ _ (New.mk' w _ e))
  simp only[execOp,ho,hx,hy,Sem.run_bind,hr]
  rfl
theorem Pb{o:Oper}{t e:TypeId}{x y:Operand}{b off n k c:Nat}{i:Int}{ki:IntKind}(size:Nat)(ho:o.op=.slice t x (some y) none none)(hx:a.eval x=.slice (some ⟨b,off,none⟩) n c)(hy:a.eval y=.int ki i)(hi:i=(k:Int))(hk:k≤n)(hc:k<c)
 (ht:P.underlying t=some (.slice e)) (hs:(P.info? e).map (·.size)=some size) (w:World):(execOp a.eval o).run P w=.ok (.value (.slice (some ⟨b,off+k*size,none⟩) (n-k) (c-k))) w:=by
 cases hq:P.info? e with
 | none=>simp[hq] at hs
 | some j =>
  have hj:j.size=size:=by simpa [hq] using hs
  subst hi
  have h1:(0:Int)≤(k:Int):=by omega
  have h2:(k:Int)≤(n:Int):=by omega
  have h3:¬ c=k:=by omega
  simp[execOp,ho,hx,hy,Instr.sliceAt,Instr.slice,Instr.sliceBounds,Instr.sliceBound,asIntOf,run_underlying ht,sizeOf,typeInfo,hq,hj,hk,Addr.add_mid,h3]
theorem Gg{o:Oper}{t e:TypeId}{x y:Operand}{b:O0}{n k c:Nat}{i:Int}{ki:IntKind}(ho:o.op=.slice t x none (some y) none)(hx:a.eval x=.slice b n c)(hy:a.eval y=.int ki i)(hi:i=(k:Int))(hk:k≤c)
 (ht:P.underlying t=some (.slice e)) (hs:(P.info? e).isSome=true) (w:World):(execOp a.eval o).run P w=.ok (.value (.slice b k c)) w:=by
 obtain⟨j,hq⟩:=Option.isSome_iff_exists.1 hs
 subst hi
 have h1:(0:Int)≤(k:Int):=by omega
 have h2:(k:Int)≤(c:Int):=by omega
 by_cases h3:c=0
 ·obtain rfl:k=0:=by omega
  subst h3
  simp[execOp,ho,hx,hy,Instr.sliceAt,Instr.slice,Instr.sliceBounds,Instr.sliceBound,asIntOf,run_underlying ht,sizeOf,typeInfo,hq]
 ·simp[execOp,ho,hx,hy,Instr.sliceAt,Instr.slice,Instr.sliceBounds,Instr.sliceBound,asIntOf,run_underlying ht,sizeOf,typeInfo,hq,hk,h3]
  cases b<;>simp[Addr.add]
theorem Uw{o:Oper}{d x:Operand}{dT sT e:TypeId}{base g off n cap dLen dCap:Nat}{u:Value}{xs:List Value}(m:Nat)(news xs':List Value)(ho:o.op=.call { callee:=.builtin .copy,args:=#[d,x],argTypes:=#[dT,sT] })(hu:P.underlying dT=some (.slice e))(hsz:(P.info? e).map (·.size)=some 1)
 (hd:a.eval d=.slice (some ⟨g,off,none⟩) dLen dCap) (hs:a.eval x=u) (hx:Sl w u m news) (hown:w.ownsRow base e 1 (.slice (S1 g) n cap) n xs) (hml:news.length=m) (hm:m≤dLen) (hfit:off+m≤n) (h1:∀ u∈news,u.oneCell'=true)
 (hbase:base≤w.heap.size) (hxs:xs.take off++news++xs.drop (off+m)=xs')
 (h:∀ W,W.ownsRow base e 1 (.slice (S1 g) n cap) n xs'→w.grownBy W (Value.slice (S1 g) n cap).ownBlock→Below base w W→K (a.put o.dst (V0 (m:Int))) W):o.wp P a w K Q:=by
 obtain⟨hl,hr⟩:=hown
 rcases hr with ⟨hv,_⟩|⟨g2,b1,a0,hv,a6,hh,a7,b0,a5,a8⟩
 ·cases hv
 simp only[Value.slice.injEq,Option.some.injEq,Addr.mk.injEq] at hv
 obtain⟨⟨rfl,_,_⟩,_,rfl⟩:=hv
 obtain⟨sp,sc,rfl⟩:=hx.slice
 have a4:news.length=Nat.min m dLen:=by rw[hml];exact(Nat.min_eq_left hm).symm
 have b2:xs.length=n:=by simpa using hl
 have a2:a0.toList.length=cap:=by simpa using a5
 have a9:∀ W,W.heap[g]? = some (.cells (a0.toList.take off++news++a0.toList.drop (off+news.length)).toArray e (0,0))→w.grownBy W (some g)→K (a.put o.dst (V0 (m:Int))) W:=by
  intro W hW hg
  refine h W ⟨?_,.inr ⟨g,cap,_,rfl,a6,hW,a7,b0,?_,?_⟩⟩ hg (Vu (v:=.slice (S1 g) n cap) hg ⟨hl,.inr ⟨g,cap,a0,rfl,a6,hh,a7,b0,a5,a8⟩⟩ (Nat.le_refl _) hbase)
  ·rw[←hxs];simp;omega
  ·simp only[List.size_toArray,List.length_append,List.length_take,List.length_drop,a2,Nat.mul_one];omega
  ·have hA:(a0.toList.take off++news).length=off+m:=by simp only[List.length_append,List.length_take,a2,hml];omega
   rw[←hxs,←a8,hml]
   simp only[Nat.mul_one]
   rw[List.take_append,List.take_of_length_le (by rw[hA];omega),hA,List.take_take,Nat.min_eq_left (by omega:off≤n),List.drop_take]
 by_cases h0:m=0
 ·subst h0
  obtain rfl:news=[]:=List.eq_nil_of_length_eq_zero hml
  have a1:=run_copy_none (P:=P) w dT sT o.type e (some ⟨g,off,none⟩) sp dLen dCap 0 sc hu hsz (by simp)
  have h2:(execOp a.eval o).run P w=.ok (.value (V0 0)) w:=by
   simp[execOp,ho,resolve,invoke,builtin,hd,hs,a1,Result.andThen,goInt]
  refine Gp h2 (a9 w ?_ (World.grownBy.refl w _))
  rw[hh];simp
 ·rcases Sl.at hx with hn|⟨sb,so,rfl,a3⟩
  ·rw[hn] at hml;exact absurd hml.symm h0
  have a1:=run_copy_row (P:=P) w dT sT o.type e g off dLen dCap ⟨sb,so,none⟩ m sc a0 e news hu hsz hh a4 (fun j v hj=>by rw[Addr.add_mid];exact a3 j v hj) (by rw[hml,a5];omega) h1
  have h2:(execOp a.eval o).run P w=.ok (.value (V0 (m:Int))) (w.setRow g (a0.toList.take off++news++a0.toList.drop (off+news.length)).toArray):=by
   simp[execOp,ho,resolve,invoke,builtin,hd,hs,a1,Result.andThen,goInt,hml]
  refine Gp h2 (a9 _ (setRow_heap w g _ _ e _ hh) ⟨rfl,rfl,rfl,by simp,fun k _ hk=>setRow_other w g k _ (fun e=>hk (by rw[e]))⟩)
def Zz(a:O0)(j:Nat):Addr:=(a.getD ⟨0,0,none⟩).add j
theorem Ra{o:Oper}{t e:TypeId}{x y:Operand}{b:O0}{n k c size:Nat}{i:Int}{ki:IntKind}(ho:o.op=.indexAddr t x y)(hx:a.eval x=.slice b n c)(hy:a.eval y=.int ki i)(hi:i=(k:Int))(hk:k<n)(hb:b.isSome=true)
 (ht:P.underlying t=some (.slice e)) (hs:(P.info? e).map (·.size)=some size) (w:World):(execOp a.eval o).run P w=.ok (.value (.pointer (some (Zz b (k*size))))) w:=by
 obtain⟨b,rfl⟩:=Option.isSome_iff_exists.1 hb
 cases hq:P.info? e with
 | none=>simp[hq] at hs
 | some j =>
  have hj:j.size=size:=by simpa [hq] using hs
  subst hi
  have h1:(0:Int)≤(k:Int):=by omega
  have h2:(k:Int)<(n:Int):=by omega
  simp[execOp,ho,hx,hy,Instr.indexAt,asIntOf,run_underlying ht,sizeOf,typeInfo,hq,hj,hk,Zz]
theorem Zn{o:Oper}{s x:Operand}{t e:TypeId}{base:Nat}{v:Value}{n:Nat}{xs:List Value}{u:Value}{m:Nat}{news:List Value}(z:Value)(size bytes n':Nat)(xs':List Value)(ho:o.op=.call { callee:=.builtin .append,args:=#[s,x],argTypes:=#[t,t] })
 (ht:P.underlying t=some (.slice e)) (hi:(P.info? e).map (fun i=>(i.zero,i.size,i.bytes))=some (some z,size,bytes)) (hzs:z.cells.size=size) (hsz:0<size) (hs:a.eval s=v) (hown:w.ownsRow base e size v n xs) (hu:a.eval x=u) (hx:Sl w u m news)
 (hl:news.length=m*size) (h1:∀ u∈news,u.oneCell'=true) (h63:n+m≤maxLen) (hbytes:(n+m)*bytes≤140737488355328) (hbase:base≤w.heap.size) (hn:n+m=n') (hxs:xs++news=xs')
 (h:∀ b c W,W.ownsRow base e size (.slice b n' c) n' xs'→w.grownBy W v.ownBlock→Below base w W→K (a.put o.dst (.slice b n' c)) W):o.wp P a w K Q:=by
 cases hq:P.info? e with
 | none=>simp[hq] at hi
 | some i =>
  simp only[hq,Option.map_some,Option.some.injEq,Prod.mk.injEq] at hi
  refine wp_app_sl s x t ho base e i z size bytes ht hq hi.1 hi.2.1 hi.2.2 hzs hsz v n xs hs hown u m news hu hx hl h1 h63 hbytes hbase fun v' W h2 h3 h4=>?_
  subst hn hxs
  obtain⟨b,c,rfl⟩:=(Zf h2).slice
  exact h b c W h2 h3 h4
end
theorem Blk.grown{w w':World}{b:Nat}{cs:List Value}{t e:TypeId}{base size n:Nat}{v:Value}{xs:List Value}(k:Blk w b cs t)(hg:w.grownBy w' v.ownBlock)(hown:w.ownsRow base e size v n xs)(hne:e≠t):Blk w' b cs t:=by
 refine k.kept hg fun hb=>?_
 rcases hown.2 with ⟨rfl,_⟩|⟨g,a0,a1,rfl,_,hh,_⟩
 ·cases hb
 ·simp only[Value.ownBlock,Option.some.injEq] at hb
  subst hb
  have h1:w.heap[b]? = some (.cells cs.toArray t (0,0)):=k
  rw[hh] at h1
  simp only[Option.some.injEq,Obj.cells.injEq] at h1
  exact hne h1.2.1
theorem Upd.own2{w W:World}{b base:Nat}{e t:TypeId}{size:Nat}{v:Value}{n:Nat}{xs cs:List Value}(h:Upd w b W)(k:w.ownsRow base e size v n xs)(hk:Blk w b cs t)(hne:e≠t):W.ownsRow base e size v n xs:=by
 obtain⟨h1,h2⟩:=k
 refine⟨h1,?_⟩
 rcases h2 with h2|⟨g,a0,a1,hv,hg,hh,r⟩
 ·exact Or.inl h2
 ·refine Or.inr ⟨g,a0,a1,hv,hg,?_,r⟩
  rw[h.block g]
  ·exact hh
  ·rintro rfl
   have h1:w.heap[g]? = some (.cells cs.toArray t (0,0)):=hk
   rw[hh] at h1
   simp only[Option.some.injEq,Obj.cells.injEq] at h1
   exact hne h1.2.1
theorem Blk.sl{w:World}{b:Nat}{cs:List Value}{t:TypeId}(h:Blk w b cs t)(n c:Nat)(hn:n≤c)(hc:c≤maxLen):Sl w (.slice (S1 b) n c) n cs :=
 .inr ⟨b,0,c,rfl,hn,hc,fun j x hj=>by rw[Nat.zero_add];exact h.cell hj⟩
theorem _root_.Go.Proofs.YtegcamkgeacjfaaGreatDoor.Sl.elem{w:World}{b:O0}{n c:Nat}{xs:List Value}(h:Sl w (.slice b n c) n xs){j:Nat}{x:Value}(hj:xs[j]? = some x):b.isSome=true∧w.cell? (Zz b j)=some x:=by
 rcases Sl.at h with rfl|⟨g,a0,rfl,hc⟩
 ·cases hj
 ·exact⟨rfl,by simpa [Zz,Addr.add_mid] using hc j x hj⟩
theorem _root_.Go.Proofs.YtegcamkgeacjfaaGreatDoor.Ints.elem{w:World}{b:O0}{c:Nat}{l:List Int}(h:Ints w (.slice b l.length c) l){k:Nat}(hk:k<l.length):b.isSome=true∧w.cell? (Zz b (k*1))=some (V0 (l.getD k 0)):=by
 refine Sl.elem h ?_
 rw[Nat.mul_one,List.getElem?_map,List.getElem?_eq_getElem hk]
 simp[List.getD,List.getElem?_eq_getElem hk]
def Zd(T:List TypeId)(w w':World):Prop:=∀ (k:Nat) (cs:Array Value) (t:TypeId) (fr:Nat×Nat),w.heap[k]? = some (Obj.cells cs t fr)→T.contains t=false→w'.heap[k]? = some (Obj.cells cs t fr)
theorem Zd.refl(T:List TypeId)(w:World):Zd T w w:=fun _ _ _ _ h _=>h
theorem Zd.trans{T:List TypeId}{a b c:World}(h:Zd T a b)(k:Zd T b c):Zd T a c:=fun i cs t fr hi ht=>k i cs t fr (h i cs t fr hi ht) ht
theorem Zd.of_below{T:List TypeId}{w W:World}(h:B3 w W):Zd T w W:=fun k cs t fr hk _=>by
 rw[h.block k (Array.getElem?_eq_some_iff.1 hk).1];exact hk
theorem Zd.of_upd{T:List TypeId}{w W:World}{b:Nat}{cs:List Value}{t:TypeId}(h:Upd w b W)(k:Blk w b cs t)(ht:T.contains t=true):Zd T w W:=fun i a0 t' fr hi h2=>by
 rw[h.block i]
 ·exact hi
 ·rintro rfl
  have h1:w.heap[i]? = some (.cells cs.toArray t (0,0)):=k
  rw[hi] at h1
  simp only[Option.some.injEq,Obj.cells.injEq] at h1
  rw[h1.2.1,ht] at h2;cases h2
theorem Zd.of_grown{T:List TypeId}{w W:World}{base size n:Nat}{e:TypeId}{v:Value}{xs:List Value}(hg:w.grownBy W v.ownBlock)(hown:w.ownsRow base e size v n xs)(ht:T.contains e=true):Zd T w W:=fun i cs t fr hi h2=>by
 rw[hg.block i (Array.getElem?_eq_some_iff.1 hi).1]
 ·exact hi
 ·intro hb
  rcases hown.2 with ⟨rfl,_⟩|⟨g,a0,a1,rfl,_,hh,_⟩
  ·cases hb
  ·simp only[Value.ownBlock,Option.some.injEq] at hb
   subst hb
   rw[hi] at hh
   simp only[Option.some.injEq,Obj.cells.injEq] at hh
   rw[hh.2.1,ht] at h2;cases h2
theorem Blk.only{T:List TypeId}{w W:World}{b:Nat}{cs:List Value}{t:TypeId}(k:Blk w b cs t)(h:Zd T w W)(ht:T.contains t=false):Blk W b cs t:=h b _ _ _ k ht
theorem Zo{w w':World}{base size n:Nat}{e:TypeId}{v:Value}{xs:List Value}{base2 size2 n2:Nat}{e2:TypeId}{v2:Value}{xs2:List Value}(k:w.ownsRow base e size v n xs)(hg:w.grownBy w' v2.ownBlock)(hown:w.ownsRow base2 e2 size2 v2 n2 xs2)(hne:e2≠e):w'.ownsRow base e size v n xs:=by
 obtain⟨h1,h2⟩:=k
 refine⟨h1,?_⟩
 rcases h2 with h2|⟨g,a5,a3,hv,a2,hh,r⟩
 ·exact Or.inl h2
 ·refine Or.inr ⟨g,a5,a3,hv,a2,?_,r⟩
  rw[hg.block g (Array.getElem?_eq_some_iff.1 hh).1]
  ·exact hh
  ·intro hb
   rcases hown.2 with ⟨rfl,_⟩|⟨g2,a1,a4,rfl,_,a0,_⟩
   ·cases hb
   ·simp only[Value.ownBlock,Option.some.injEq] at hb
    subst hb
    rw[hh] at a0
    simp only[Option.some.injEq,Obj.cells.injEq] at a0
    exact hne a0.2.1.symm
theorem Ze{w:World}{base base' size n:Nat}{e:TypeId}{v:Value}{xs:List Value}(k:w.ownsRow base' e size v n xs)(h:base≤base'):w.ownsRow base e size v n xs:=by
 obtain⟨h1,h2⟩:=k
 refine⟨h1,?_⟩
 rcases h2 with h2|⟨g,a0,a1,hv,hg,r⟩
 ·exact Or.inl h2
 ·exact Or.inr ⟨g,a0,a1,hv,Nat.le_trans h hg,r⟩
theorem Zi{T:List TypeId}{w W:World}{base size n:Nat}{e:TypeId}{v:Value}{xs:List Value}(k:w.ownsRow base e size v n xs)(h:Zd T w W)(ht:T.contains e=false):W.ownsRow base e size v n xs:=by
 obtain⟨h1,h2⟩:=k
 refine⟨h1,?_⟩
 rcases h2 with h2|⟨g,a0,a1,hv,hg,hh,r⟩
 ·exact Or.inl h2
 ·exact Or.inr ⟨g,a0,a1,hv,hg,h g _ _ _ hh ht,r⟩
theorem blB{B:Nat}{a w w':World}(h:Below B a w)(hs:B≤a.heap.size)(k:B3 w w'):Below B a w':=h.trans (k.mono (Nat.le_trans hs h.size))
/-! ### slices of structs -/
def Sts {α:Type}(f:α→List Value)(w:World)(v:Value)(l:List α):Prop:=Sl w v l.length (l.flatMap f)
theorem Sts.below{α:Type}{f:α→List Value}{w w':World}{v:Value}{l:List α}(h:Sts f w v l)(hb:B3 w w'):Sts f w' v l:=Sl.below h hb
theorem Cg{α:Type}{f:α→List Value}{m:Nat}(hm:∀ x,(f x).length=m):∀ (l:List α) (k i:Nat) (d:α),k<l.length→i<m→(l.flatMap f)[k*m+i]? = (f (l.getD k d))[i]?
 | [],k,i,d,hk,_=>by simp at hk
 | x::l,0,i,d,_,hi=>by
  rw[List.flatMap_cons,Nat.zero_mul,Nat.zero_add,List.getElem?_append_left (by rw[hm];exact hi)];rfl
 | x::l,k+1,i,d,hk,hi=>by
  rw[List.flatMap_cons,List.getElem?_append_right (by rw[hm,Nat.succ_mul];omega),hm,show(k+1)*m+i-m=k*m+i by rw[Nat.succ_mul];omega]
  simpa using Cg hm l k i d (by simpa using hk) hi
theorem Fi{α:Type}{f:α→List Value}{m:Nat}(hm:∀ x,(f x).length=m)(l:List α):(l.flatMap f).length=l.length*m:=by
 induction l with
 | nil=>simp
 | cons x l ih=>rw[List.flatMap_cons,List.length_append,hm,ih,List.length_cons,Nat.succ_mul];omega
theorem Sts.cell{α:Type}{f:α→List Value}{m:Nat}{w:World}{b:O0}{c:Nat}{l:List α}(h:Sts f w (.slice b l.length c) l)(hm:∀ x,(f x).length=m)(d:α){k i:Nat}{v:Value}(hk:k<l.length)(hi:(f (l.getD k d))[i]? = some v):b.isSome=true∧w.cell? ((Zz b (k*m)).add i)=some v:=by
 have a2:i<m:=by have:=(List.getElem?_eq_some_iff.1 hi).1;rwa [hm] at this
 have hc:=Cg hm l k i d hk a2
 rw[hi] at hc
 rcases Sl.at h with a1|⟨g,og,rfl,a0⟩
 ·rw[a1] at hc;cases hc
 ·refine⟨rfl,?_⟩
  have:=a0 _ _ hc
  simpa [Zz,Addr.add_mid,Nat.add_assoc] using this
theorem Sts.at{α:Type}{f:α→List Value}{m:Nat}{w:World}{b:O0}{c:Nat}{l:List α}(h:Sts f w (.slice b l.length c) l)(hm:∀ x,(f x).length=m)(hm0:0<m)(hl:0<l.length):∃ g o,b=some ⟨g,o,none⟩:=by
 rcases Sl.at h with a0|⟨g,og,rfl,a1⟩
 ·have:=Fi hm l
  rw[a0] at this
  have:=Nat.mul_pos hl hm0
  simp at *;omega
 ·exact⟨g,og,rfl⟩
theorem Dp{a b:Int}(h:(a==b)=false):a≠b:=by simpa using h
theorem ne_of_bne{a b:Int}(h:(a != b)=true):a≠b:=by simpa using h
theorem Ur{a b:Int}(h:(a != b)=false):a=b:=by simpa using h
/-! ### a region that draws its order -/
def Fv(P:Program)(md:Region.Mode)(ops:Array Oper):List Nat→Array Bool→Act→Option (Array Bool×Act)
 | [],L,a=>some (L,a)
 | i::r,L,a=>match ops[i]? with
  | none=>none
  | some o=>match Region.free md ops L i&&(Region.ready md ops L).contains i with
   | true=>match Ch P ops a o with
    | some a'=>Fv P md ops r (L.setIfInBounds i true) a'
    | none=>none
   | false=>none
section
variable {P:Program} {ops:Array Oper} {Q:Exit→Act→World→Prop} {a a':Act} {w:World} {S:World→Prop} {md:Region.Mode} {L L':Array Bool} {fuel:Nat}
theorem Zf6(hQ:∀ c a (d:Tmp) v w,Q (.panic c) (a.put (some d) v) w→Q (.panic c) a w)(d:Option Tmp)(v:Value):∀ c a w,Q (.panic c) (a.put d v) w→Q (.panic c) a w:=fun c a w h=>by
 cases d with
 | none=>exact h
 | some d=>exact hQ c a d v w h
theorem Bt(hs:Region.noSelect ops=true)(hQ:∀ c a (d:Tmp) v w,Q (.panic c) (a.put (some d) v) w→Q (.panic c) a w)(hS:S w):∀ (is:List Nat) {fuel:Nat} {L L':Array Bool} {a a':Act},Fv P md ops is L a=some (L',a')→wpAnyH P md ops Q S fuel L' a' w→wpAnyH P md ops Q S (fuel+is.length) L a w
 | [],fuel,L,L',a,a',h,k=>by simp only[Fv,Option.some.injEq,Prod.mk.injEq] at h;obtain⟨rfl,rfl⟩:=h;exact k
 | i::r,fuel,L,L',a,a',h,k=>by
  simp only[Fv] at h
  split at h
  ·cases h
  ·rename_i o ho
   split at h
   ·rename_i a0
    simp only[Bool.and_eq_true] at a0
    split at h
    ·rename_i a1 h1
     obtain⟨v,rfl,hy⟩:=Wa h1
     exact wpAnyH_take ho hs a0.1 a0.2 (Zf6 hQ _ _) (hy S) hS (Bt hs hQ hS r h k)
    ·cases h
   ·cases h
theorem h_pure(is:List Nat)(fuel:Nat){f0:Nat}(hf:f0=fuel+is.length)(L':Array Bool)(a':Act)(hs:Region.noSelect ops=true)(hQ:∀ c a (d:Tmp) v w,Q (.panic c) (a.put (some d) v) w→Q (.panic c) a w)(h:Fv P md ops is L a=some (L',a'))(hS:S w)
 (k:wpAnyH P md ops Q S fuel L' a' w):wpAnyH P md ops Q S f0 L a w:=hf▸Bt hs hQ hS is h k
theorem Fs{o:Oper}(i fuel:Nat){f0:Nat}(hf:f0=fuel+1)(hr:Region.ready md ops L=[i])(ho:ops.toList[i]? = some o)(hw:Region.wanted o (yielded ops a.tmps)=true)
 (h:o.wp P a w (fun a' w'=>S w'∧wpAnyH P md ops Q S fuel (L.setIfInBounds i true) a' w') Q):wpAnyH P md ops Q S f0 L a w:=by
 subst hf
 refine wpAnyH_all hr (by simp) fun j hj=>?_
 obtain rfl:j=i:=by simpa using hj
 have a0:ops[j]? = some o:=by rw[←ho];simp
 unfold wpOp
 simp only[a0,hw,if_true]
 exact .inl h
theorem h_two{o o2:Oper}(i j fuel:Nat){f0:Nat}(hf:f0=fuel+1)(hr:Region.ready md ops L=[i,j])(ho:ops.toList[i]? = some o)(ho2:ops.toList[j]? = some o2)(hw:Region.wanted o (yielded ops a.tmps)=true)(hw2:Region.wanted o2 (yielded ops a.tmps)=true)
 (h:o.wp P a w (fun a' w'=>S w'∧wpAnyH P md ops Q S fuel (L.setIfInBounds i true) a' w') Q) (h2:o2.wp P a w (fun a' w'=>S w'∧wpAnyH P md ops Q S fuel (L.setIfInBounds j true) a' w') Q):wpAnyH P md ops Q S f0 L a w:=by
 subst hf
 refine wpAnyH_all hr (by simp) fun k hk=>?_
 have a1:ops[i]? = some o:=by rw[←ho];simp
 have a0:ops[j]? = some o2:=by rw[←ho2];simp
 rcases List.mem_cons.1 hk with rfl|hk
 ·unfold wpOp;simp only[a1,hw,if_true];exact .inl h
 ·obtain rfl:k=j:=by simpa using hk
  unfold wpOp;simp only[a0,hw2,if_true];exact .inl h2
theorem h_str{P:Program}{ops:Array Oper}{Q:Exit→Act→World→Prop}{S:World→Prop}{md:Region.Mode}(S':World→Prop)(hi:∀ V,S' V→S V):∀ {fuel:Nat} {L:Array Bool} {a:Act} {w:World},wpAnyH P md ops Q S' fuel L a w→wpAnyH P md ops Q S fuel L a w
 | 0,_,_,_,h=>h
 | fuel+1,_,_,_,h=>⟨h.1,fun i hj=>wpOp_mono (fun a' w' h'=>⟨hi w' h'.1,h_str S' hi h'.2⟩) (h.2 i hj)⟩
theorem Zgv(fuel:Nat)(hr:Region.ready md ops L=[])(h:Q .normal a w):wpAnyH P md ops Q S fuel L a w:=wpAnyH_done hr h fuel
end
structure BelowBut(w:World)(b:Nat)(W:World):Prop where
 os:W.os=w.os
 tape:W.tape=w.tape
 output:W.output=w.output
 size:w.heap.size≤W.heap.size
 block:∀ k,k<w.heap.size→k≠b→W.heap[k]? = w.heap[k]?
theorem _root_.Go.RowKit.Below.but{w W:World}(h:B3 w W)(b:Nat):BelowBut w b W:=⟨h.os,h.tape,h.output,h.size,fun k hk _=>h.block k hk⟩
theorem BelowBut.upd{w W W':World}{b:Nat}(h:BelowBut w b W)(u:Upd W b W'):BelowBut w b W':=⟨u.os.trans h.os,u.tape.trans h.tape,u.output.trans h.output,by rw[u.size];exact h.size,fun k hk hne=>(u.block k hne).trans (h.block k hk hne)⟩
theorem BelowBut.next{w W W':World}{b:Nat}(h:BelowBut w b W)(u:B3 W W'):BelowBut w b W':=⟨u.os.trans h.os,u.tape.trans h.tape,u.output.trans h.output,Nat.le_trans h.size u.size,fun k hk hne=>(u.block k (Nat.lt_of_lt_of_le hk h.size)).trans (h.block k hk hne)⟩
theorem BelowBut.blk{w W:World}{b b':Nat}{cs:List Value}{t:TypeId}(h:BelowBut w b W)(k:Blk w b' cs t)(hne:b'≠b):Blk W b' cs t:=(h.block b' k.lt hne).trans k
theorem BelowBut.own2{w W:World}{b base:Nat}{e t:TypeId}{size:Nat}{v:Value}{n:Nat}{xs cs:List Value}(h:BelowBut w b W)(k:w.ownsRow base e size v n xs)(hk:Blk w b cs t)(hne:e≠t):W.ownsRow base e size v n xs:=by
 obtain⟨h1,h2⟩:=k
 refine⟨h1,?_⟩
 rcases h2 with h2|⟨g,a0,a1,hv,hg,hh,r⟩
 ·exact Or.inl h2
 ·refine Or.inr ⟨g,a0,a1,hv,hg,?_,r⟩
  rw[h.block g (Array.getElem?_eq_some_iff.1 hh).1]
  ·exact hh
  ·rintro rfl
   rw[show w.heap[g]? = _ from hk] at hh
   simp only[Option.some.injEq,Obj.cells.injEq] at hh
   exact hne hh.2.1.symm
theorem BelowBut.below{A w W:World}{b B:Nat}(h:BelowBut w b W)(hB:Below B A w)(hb:B≤b)(hs:B≤w.heap.size):Below B A W:=hB.trans ⟨h.os,h.tape,h.output,h.size,fun k hk=>h.block k (by omega) (by omega)⟩
theorem Zw{w:World}{b base:Nat}{cs:List Value}{t:TypeId}{size n:Nat}(k:Blk w b cs t)(hb:base≤b)(hl:cs.length=n*size)(hn:n≤maxLen):w.ownsRow base t size (.slice (S1 b) n n) n cs :=
 ⟨hl,.inr ⟨b,n,cs.toArray,rfl,hb,k,Nat.le_refl _,hn,by simpa using hl,by rw[←hl];simp⟩⟩
theorem g_ret{P:Program}{fn:Func}{R:Ending→World→Prop}{a:Act}{w:World}(v:Value)(hd:a.defers=[])(hr:(results fn a.tmps).run P w=.ok v w)(h:R (.returned v) w):bodyPost P fn R .ret a w:=⟨hd,v,hr,h⟩
theorem g_end{P:Program}{fn:Func}{R:Ending→World→Prop}{a:Act}{w:World}(v:Value)(hd:a.defers=[])(hr:(results fn a.tmps).run P w=.ok v w)(h:R (.returned v) w):bodyPost P fn R .normal a w:=⟨hd,v,hr,h⟩
theorem New.ge0{b:Nat}{cs:List Value}{t:TypeId}{w W A:World}{B:Nat}(h:New w b cs t W)(k:Below B A w):A.heap.size≤b:=by have:=k.size;have:=h.at_;omega
theorem Zr{w W:World}{base size n:Nat}{e:TypeId}{v:Value}{xs cs:List Value}{b:Nat}{t:TypeId}(k:w.ownsRow base e size v n xs)(h:New w b cs t W):∀ j,v.ownBlock=some j→j≠b:=fun j hj=>by have:=(k.lt j hj).2;have:=h.at_;omega
theorem Upd.own3{w W:World}{b base:Nat}{e:TypeId}{size:Nat}{v:Value}{n:Nat}{xs:List Value}(h:Upd w b W)(k:w.ownsRow base e size v n xs)(hs:∀ j,v.ownBlock=some j→j≠b):W.ownsRow base e size v n xs:=by
 obtain⟨h1,h2⟩:=k
 refine⟨h1,?_⟩
 rcases h2 with h2|⟨g,a0,a1,rfl,hg,hh,r⟩
 ·exact Or.inl h2
 ·exact Or.inr ⟨g,a0,a1,rfl,hg,by rw[h.block g (hs g rfl)];exact hh,r⟩
theorem Zd.upd_new{T:List TypeId}{a w W:World}{b:Nat}(h:Zd T a w)(u:Upd w b W)(hb:a.heap.size≤b):Zd T a W:=fun k cs t fr hk ht=>by
 have:=(Array.getElem?_eq_some_iff.1 hk).1
 rw[u.block k (by omega)];exact h k cs t fr hk ht
theorem Zd.grown_new{T:List TypeId}{a w W:World}{size n:Nat}{e:TypeId}{v:Value}{xs:List Value}(h:Zd T a w)(hg:w.grownBy W v.ownBlock)(hown:w.ownsRow a.heap.size e size v n xs):Zd T a W:=fun k cs t fr hk ht=>by
 have h1:=(Array.getElem?_eq_some_iff.1 hk).1
 have h2:=h k cs t fr hk ht
 rw[hg.block k (Array.getElem?_eq_some_iff.1 h2).1 (fun e=>by have:=(hown.lt k e.symm).1;omega)];exact h2
def putD(a:Act):List (Nat×Value)→Act
 | []=>a
 | (d,v)::r=>putD ⟨a.tmps.setIfInBounds d v,a.defers⟩ r
theorem Zg4(is:List Nat)(d b:Bool)(h:d=b){a:Act}(he:is.map (fun i=>a.tmps[i]?)=is.map (fun _=>some (Value.bool d))):putD a (is.map fun i=>(i,Value.bool b))=a:=by
 subst h
 induction is with
 | nil=>rfl
 | cons i r ih =>
  simp only[List.map_cons,List.cons.injEq] at he
  have e:a.tmps.setIfInBounds i (Value.bool d)=a.tmps:=by
   apply Array.ext_getElem?
   intro j
   by_cases hj:i=j
   ·subst hj
    obtain⟨a0,hv⟩:=Array.getElem?_eq_some_iff.1 he.1
    rw[Array.getElem?_setIfInBounds_self_of_lt a0,he.1]
   ·rw[Array.getElem?_setIfInBounds_ne hj]
  show putD ⟨a.tmps.setIfInBounds i (Value.bool d),a.defers⟩ (r.map fun i=>(i,Value.bool d))=a
  rw[e]
  exact ih he.2
theorem g_b{P:Program}{ops:Array Oper}{Q:Exit→Act→World→Prop}{a:Act}{w:World}{l:List Oper}(is:List Nat)(d b:Bool)(h:d=b)(he:is.map (fun i=>a.tmps[i]?)=is.map (fun _=>some (Value.bool d)))(k:wpList P ops Q l (putD a (is.map fun i=>(i,Value.bool b))) w):wpList P ops Q l a w:=Zg4 is d b h he▸k
theorem Vy{P:Program}{ops:Array Oper}{Q:Exit→Act→World→Prop}{a:Act}{w:World}{l:List Oper}(n:Nat)(ds:List (Nat×Value))(h:Rp P ops (l.take n) a=some (putD a ds))(k:wpList P ops Q (l.drop n) (putD a ds) w):wpList P ops Q l a w:=g_pure n _ h k
theorem h_pv{P:Program}{ops:Array Oper}{Q:Exit→Act→World→Prop}{a:Act}{w:World}{S:World→Prop}{md:Region.Mode}{L:Array Bool}(is:List Nat)(fuel:Nat){f0:Nat}(hf:f0=fuel+is.length)(L':Array Bool)(ds:List (Nat×Value))(hs:Region.noSelect ops=true)(hQ:∀ c a (d:Tmp) v w,Q (.panic c) (a.put (some d) v) w→Q (.panic c) a w)(h:Fv P md ops is L a=some (L',putD a ds))(hS:S w)
 (k:wpAnyH P md ops Q S fuel L' (putD a ds) w):wpAnyH P md ops Q S f0 L a w:=h_pure is fuel hf L' _ hs hQ h hS k
def pk:List Value→Nat→Value
 | [],_=>undef
 | x::_,0=>x
 | _::r,k+1=>pk r k
structure Fr(S:List Nat)(w W:World):Prop where
 size:w.heap.size≤W.heap.size
 block:∀ k,k<w.heap.size→k∉S→W.heap[k]? = w.heap[k]?
theorem Fr.refl(S:List Nat)(w:World):Fr S w w:=⟨Nat.le_refl _,fun _ _ _=>rfl⟩
theorem Fr.trans{S:List Nat}{a b c:World}(h:Fr S a b)(k:Fr S b c):Fr S a c:=⟨Nat.le_trans h.size k.size,fun i hi hs=>(k.block i (Nat.lt_of_lt_of_le hi h.size) hs).trans (h.block i hi hs)⟩
theorem Fr.mono{S T:List Nat}{a b:World}(h:Fr S a b)(hs:∀ k∈S,k∈T):Fr T a b:=⟨h.size,fun i hi ht=>h.block i hi fun hi=>ht (hs i hi)⟩
theorem Fr.of_below{S:List Nat}{w W:World}(h:B3 w W):Fr S w W:=⟨h.size,fun k hk _=>h.block k hk⟩
theorem Fr.of_upd{S:List Nat}{w W:World}{b:Nat}(h:Upd w b W)(hb:b∈S):Fr S w W:=⟨Nat.le_of_eq h.size.symm,fun k _ hs=>h.block k fun e=>hs (e▸hb)⟩
theorem Fr.upd_new{S:List Nat}{a w W:World}{b:Nat}(h:Fr S a w)(u:Upd w b W)(hb:a.heap.size≤b):Fr S a W:=⟨Nat.le_trans h.size (Nat.le_of_eq u.size.symm),fun k hk hs=>(u.block k (by omega)).trans (h.block k hk hs)⟩
theorem Fr.grown_new{S:List Nat}{a w W:World}{size n:Nat}{e:TypeId}{v:Value}{xs:List Value}(h:Fr S a w)(hg:w.grownBy W v.ownBlock)(hown:w.ownsRow a.heap.size e size v n xs):Fr S a W:=⟨Nat.le_trans h.size hg.size,fun k hk hs=>(hg.block k (Nat.lt_of_lt_of_le hk h.size) (fun e=>by have:=(hown.lt k e.symm).1;omega)).trans (h.block k hk hs)⟩
theorem Fr.of_grown{S:List Nat}{w W:World}{g n cap:Nat}(hg:w.grownBy W (Value.slice (S1 g) n cap).ownBlock)(hb:g∈S):Fr S w W:=⟨hg.size,fun k hk hs=>hg.block k hk fun e=>hs (by simp only[Value.ownBlock,Option.some.injEq] at e;exact e▸hb)⟩
theorem Fr.trans_new{S:List Nat}{a w W:World}{z:Nat}(h:Fr S a w)(k:Fr (S++[z]) w W)(hz:a.heap.size≤z):Fr S a W:=⟨Nat.le_trans h.size k.size,fun i hi hs=>(k.block i (Nat.lt_of_lt_of_le hi h.size) (fun hm=>by rcases List.mem_append.1 hm with hm|hm;exact hs hm;have:=List.mem_singleton.1 hm;omega)).trans (h.block i hi hs)⟩
theorem Blk.fr{S:List Nat}{w W:World}{b:Nat}{cs:List Value}{t:TypeId}(k:Blk w b cs t)(h:Fr S w W)(hb:b∉S):Blk W b cs t:=(h.block b k.lt hb).trans k
theorem own_fr{S:List Nat}{w W:World}{base size n:Nat}{e:TypeId}{v:Value}{xs:List Value}(k:w.ownsRow base e size v n xs)(h:Fr S w W)(hs:∀ b,v.ownBlock=some b→b∉S):W.ownsRow base e size v n xs:=by
 obtain⟨h1,h2⟩:=k
 refine⟨h1,?_⟩
 rcases h2 with h2|⟨g,a0,a1,rfl,hg,hh,r⟩
 ·exact Or.inl h2
 ·exact Or.inr ⟨g,a0,a1,rfl,hg,by rw[h.block g (Array.getElem?_eq_some_iff.1 hh).1 (hs g rfl)];exact hh,r⟩
theorem Za(w:World):B3 w w.drew:=(Below.refl _ _).drew
theorem Oa{id:Nat}{K:Act→World→Prop}{Q:Exit→Act→World→Prop}{a:Act}{w:World}(h:Q (.exit id) a w):Exit.then K Q (.exit id) a w:=h
theorem Kd{K:Act→World→Prop}{Q:Exit→Act→World→Prop}{a:Act}{w:World}(h:Q .ret a w):Exit.then K Q .ret a w:=h
theorem Ug{id:Nat}{Q:Exit→Act→World→Prop}{a:Act}{w:World}(h:Q .ret a w):Exit.inBlock id Q .ret a w:=h
theorem Zai{id:Nat}{Q:Exit→Act→World→Prop}{a:Act}{w:World}(h:Q .normal a w):Exit.inBlock id Q (.exit id) a w:=by simpa [Exit.inBlock] using h
end Go.Proofs.YtegcamkgeacjfaaGreatDoor
namespace Go.Proofs.YtegcamkgeacjfaaGreatDoor
set_option maxHeartbeats 8000000
set_option maxRecDepth 100000
open Go.RowKit
set_option linter.unusedVariables false
theorem rows_in{n:Nat}{P:Program}{row:String}{args:Array Value}{w:World}{R:Value→World→Prop}(h:Rows P row args w R):RowsIn Fence.wide n P row args w R :=
 fun c cs _=>let ⟨v,w',r,q⟩:=h c cs;⟨v,w',r,stepsIn_wide.2 q⟩
theorem oper_in{P:Program}{l n:Nat}{o:Oper}{a:Act}{w:World}{K:Act→World→Prop}{Q:Exit→Act→World→Prop}(hd:∀ c,o.op≠.defer c)(h:o.wp P a w K Q):o.wpIn (Fence.wide.inRound l) n P a w K Q:=by
 unfold Oper.wpIn
 refine⟨fun f _=>trivial,?_⟩
 rw[Oper.semAt_plain _ _ _ hd]
 unfold Oper.wp at h
 generalize (execOp a.eval o).run P w=r at *
 cases r with
 | ok nx w' =>
  cases nx with
  | value v=>exact h
  | skip=>exact h
  | defer d=>exact h
  | enter f args=>exact⟨(fun q=>by cases q),callsIn_wide.2 h⟩
  | row r args=>exact⟨(fun q=>by cases q),rows_in h⟩
  | _=>exact h.elim
 | halt hh w' =>
  cases hh with
  | panic v=>exact h
  | _=>exact h.elim
theorem op_in{P:Program}{l n i:Nat}{ops:Array Oper}{a:Act}{w:World}{K K':Act→World→Prop}{Q:Exit→Act→World→Prop}(hQ:¬ LetsOut Q)(hd:∀ o∈ops.toList,∀ c,o.op≠.defer c)(hK:∀ a w,K a w→K' a w)(h:wpOp P ops Q i K a w):wpOpIn (Fence.wide.inRound l) n P ops Q i K' a w:=by
 unfold wpOp at h
 unfold wpOpIn
 cases ho:ops[i]? with
 | none=>rw[ho] at h;exact hK _ _ h
 | some o =>
  rw[ho] at h
  dsimp only at h ⊢
  split at h
  ·rename_i hw
   rw[if_pos hw]
   have a0:o∈ops.toList:=by
    obtain⟨hi,e⟩:=Array.getElem?_eq_some_iff.1 ho
    rw[←e];exact Array.mem_toList_iff.2 (Array.getElem_mem hi)
   exact Oper.wpIn_mono hK (oper_in (hd o a0) (h.resolve_right fun q=>hQ q.2))
  ·rename_i hw
   rw[if_neg hw]
   exact⟨fun f _=>trivial,hK _ _ h⟩
theorem any_in{P:Program}{l n:Nat}{md:Region.Mode}{ops:Array Oper}{Q:Exit→Act→World→Prop}(hQ:¬ LetsOut Q)(hd:∀ o∈ops.toList,∀ c,o.op≠.defer c):∀ (fuel:Nat) (L:Array Bool) (a:Act) (w:World),wpAny P md ops Q fuel L a w→wpAnyIn (Fence.wide.inRound l) n P md ops Q fuel L a w
 | 0,_,_,_,h=>h
 | fuel+1,L,a,w,h=>⟨h.1,fun i hi=>op_in hQ hd (fun a w=>any_in hQ hd fuel _ a w) (h.2 i hi)⟩
theorem h_regIn{P:Program}{l0 n0 id:Nat}{l:List Oper}{Q:Exit→Act→World→Prop}{a:Act}{w:World}(S:World→Prop)(n:Nat)(hn:l.toArray.size=n)(L:Array Bool)(hL:Array.replicate n false=L)(hm:P.follows .mixedOrders=true)(hQ:¬ LetsOut Q)(hd:∀ o∈l,∀ c,o.op≠.defer c)(hS:S w.drew)(h:S w.drew→wpAnyH P .any l.toArray Q S n L a w.drew):(Code.region id l.toArray true).wpIn (Fence.wide.inRound l0) n0 P Q a w :=
 wpIn_region_any hm (any_in hQ (by simpa using hd) _ _ _ _ (wpAny_of_held _ _ _ _ (by rw[hn,hL];exact h hS)))
def rdPost(B:Nat)(Kp:World→World→Prop)(I:Nat→World→Prop)(Ix:Code→Nat→World→Prop)(k:Nat)(W:World):Exit→Act→World→Prop
 | .normal,_,V=>KeepsFrom B W V∧Kp W V∧I (k+1) V
 | .ret,_,V=>KeepsFrom B W V∧Ix .ret k V
 | .exit id,_,V=>KeepsFrom B W V∧Ix (.exit id) k V
 | .goto _,_,_=>False
 | .panic _,_,_=>False
 | .outgrown,_,_=>False
structure RecAt(n:Nat)(r:Loop)(W:World):Prop where
 l:W.heap[n+1]? = some (.loop r)
 d:W.heap[n]? = some (.deferred (some []))
theorem RecAt.lt{n:Nat}{r:Loop}{W:World}(h:RecAt n r W):n+1<W.heap.size:=(Array.getElem?_eq_some_iff.1 h.l).1
theorem RecAt.kept{n:Nat}{r:Loop}{A B:World}{row:Option Nat}(h:RecAt n r A)(hg:A.grownBy B row)(hr:∀ k,row=some k→k<n):RecAt n r B :=
 ⟨(hg.block _ h.lt (fun e=>by have:=hr _ e.symm;omega)).trans h.l,(hg.block _ (by have:=h.lt;omega) (fun e=>by have:=hr _ e.symm;omega)).trans h.d⟩
theorem RecAt.from{n:Nat}{r:Loop}{A B:World}(h:RecAt n r A)(k:KeepsFrom n A B):RecAt n r B:=⟨k.same _ _ (by omega) h.l rfl,k.same _ _ (Nat.le_refl _) h.d rfl⟩
theorem RecAt.put{n:Nat}{r:Loop}{A:World}(h:RecAt n r A)(r':Loop):RecAt n r' (A.putObj (n+1) (.loop r')) :=
 ⟨World.putObj_heap_same h.lt,(World.putObj_heap_other (by omega)).trans h.d⟩
def SeqB{α:Type}(P:Program)(g:Nat)(lb:Array Value)(encs:α→Array Value)(Kp:World→World→Prop)(R:List α)(w:World):Prop :=
 ∀ (l:Nat) (J Jx:Nat→World→Prop) (W:World),B3 w W →
  (∀ k A B,J k A→Below A.heap.size A B→J k B) →
  (∀ k x V,R[k]? = some x→J k V→YieldAt Fence.wide 2 P l (encs x) V fun e U =>
   (e=.returned (.bool true)∧J (k+1) U∧Kp V U)∨(e=.returned (.bool false)∧Jx k U)) →
  J 0 W →
  CallsIn Fence.wide 3 P g (#[.func (.yield l) #[] #[]]++lb) W fun e U=>(∃ v,e=.returned v)∧(J R.length U∨∃ k,k<R.length∧Jx k U)
theorem RecAt.bel{n:Nat}{r:Loop}{A B:World}(h:RecAt n r A)(k:Below A.heap.size A B):RecAt n r B:=⟨(k.block _ h.lt).trans h.l,(k.block _ (by have:=h.lt;omega)).trans h.d⟩
theorem wp_rangeD{α:Type}{P:Program}{g:Operand}{ps:Array Tmp}{assign body:Code}{Q:Exit→Act→World→Prop}{a:Act}{w:World}{gf:Nat}{lb:Array Value}
  (hg:a.eval g=.func (.func gf) #[] lb) (eg:∀ args w,(callFunc gf args).run P w=.ok (.enter gf args) w) {encs:α→Array Value} {R:List α} (p:Nat→Prop) (hp:∀ b,p b→b<w.heap.size)
  (hseq:SeqB P gf lb encs (Keeps p) R w) (hps:∀ x,(encs x).size=ps.size)
  (I:Nat→World→Prop) (Ix:Code→Nat→World→Prop) (hIb:∀ k A B,I k A→Below A.heap.size A B→I k B) (hI:∀ k A B row,I k A→A.grownBy B row→(∀ r,row=some r→w.heap.size≤r∧∃ o:Obj,A.heap[r]? = some o∧o.isCells=false)→I k B)
  (hIx:∀ c k A B row,Ix c k A→A.grownBy B row→(∀ r,row=some r→w.heap.size≤r∧∃ o:Obj,A.heap[r]? = some o∧o.isCells=false)→Ix c k B) (h0:I 0 w) (A2:α→Act→World→Prop)
  (hA2:∀ x a A B row,A2 x a A→A.grownBy B row→(∀ r,row=some r→w.heap.size≤r∧∃ o:Obj,A.heap[r]? = some o∧o.isCells=false)→A2 x a B)
  (hassign:∀ (l k:Nat) (x:α) (W:World) (K:Act→World→Prop),R[k]? = some x→I k W→(∀ a2 W2,B3 W W2→A2 x a2 W2→K a2 W2) →
   assign.wpIn (Fence.wide.inRound l) 2 P (Exit.then K (fun _ _ _=>False)) { tmps:=(ps.zip (encs x)).foldl (fun t (p,v)=>t.setIfInBounds p v) a.tmps,defers:=[] } W)
  (hbody:∀ (l k:Nat) (x:α) (a2:Act) (W:World),w.heap.size≤l→R[k]? = some x→I k W→A2 x a2 W→body.wpIn (Fence.wide.inRound l) 2 P (rdPost w.heap.size (Keeps p) I Ix k W) a2 W)
  (hdone:∀ (D:Nat) (W:World),w.heap.size≤D→I R.length W→W.heap[D]? = some (.deferred (some []))→Q .normal { a with defers:={ target:=.collected D,args:=#[] }::a.defers } W)
  (hstop:∀ (D:Nat) (c:Code) (k:Nat) (W:World),w.heap.size≤D→k<R.length→Ix c k W→W.heap[D]? = some (.deferred (some []))→c.wp P Q { a with defers:={ target:=.collected D,args:=#[] }::a.defers } W) :
  (Code.rangeFunc g ps assign body).wp P Q a w:=by
 refine(wpIn_wide (n:=4)).1 (wpIn_rangeFunc fun fn _=>?_)
 obtain⟨a4,a0⟩:∃ a4:LoopState→Option Code→Loop,a4=fun st pe=>{ state:=st,pending:=pe,fn,tmps:=a.tmps,params:=ps,assign,body,defers:=w.heap.size }:=⟨_,rfl⟩
 obtain⟨W1,b3⟩:∃ W1,(w.alloc (.deferred (some []))).alloc (.loop (a4 .ready none))=W1:=⟨_,rfl⟩
 have c3:RecAt w.heap.size (a4 .ready none) W1:=by
  rw[←b3]
  refine⟨?_,(Below.heap_alloc _ _ _ (by simp)).trans (World.alloc_heap_new w _)⟩
  have:=World.alloc_heap_new (w.alloc (.deferred (some []))) (.loop (a4 .ready none))
  rwa [World.size_alloc] at this
 have c4:I 0 W1:=by
  rw[←b3]
  exact hI _ _ _ none (hI _ _ _ none h0 (World.grownBy_alloc _ _ _) (fun _ e=>by cases e)) (World.grownBy_alloc _ _ _) (fun _ e=>by cases e)
 have c0:B3 w W1:=by
  rw[←b3];exact((Below.refl _ w).alloc (Nat.le_refl _) _).alloc (by simp) _
 refine⟨w.heap.size+1,[{ target:=.collected w.heap.size,args:=#[] }],W1,{ target:=.fn (.func gf) lb,args:=#[.func (.yield (w.heap.size+1)) #[] #[]] },W1,gf,
  #[.func (.yield (w.heap.size+1)) #[] #[]]++lb,W1,?_,?_,fun _ _=>trivial,?_,fun _=>by omega,?_⟩
 ·rw[←b3,a0];exact run_enterLoop_outer _ _ _ _ _
 ·simp only[resolve,hg]
  simp[go_sem]
 ·simp[invoke,go_sem,eg]
 refine(hseq (w.heap.size+1) (fun k W=>I k W∧RecAt w.heap.size (a4 .ready none) W) (fun k W=>∃ c,Ix c k W∧RecAt w.heap.size (a4 .done (some c)) W) W1 c0
  (fun k A B hs hb=>⟨hIb _ _ _ hs.1 hb,hs.2.bel hb⟩) ?_ ⟨c4,c3⟩).mono ?_
 ·rintro k x W hx ⟨hi,hl⟩
  have hy:=run_yield (P:=P) (args:=encs x) hl.l (by rw[a0];exact hps x)
  rw[a0] at hy
  refine⟨fn,_,assign,body,hy,roundIn_of_wpIn trivial (hassign _ k x W _ hx hi fun a2 W2 a7 c2=>⟨_,run_beginRound (hl.bel a7).l (by rw[a0]),?_⟩)⟩
  have b2:=hl.bel a7
  obtain⟨Wb,a6⟩:∃ Wb,W2.putObj (w.heap.size+1) (.loop { a4 .ready none with state:=.busy })=Wb:=⟨_,rfl⟩
  have b7:RecAt w.heap.size (a4 .busy none) Wb:=by
   have:=b2.put (a4 .busy none)
   rw[a0] at this a6
   rw[a6] at this
   rw[a0]
   exact this
  have c1:I k Wb:=by
   rw[←a6]
   exact hI _ _ _ _ (hIb _ _ _ hi a7) (grownBy_putObj' W2 _ _) (fun r e=>by cases e;exact⟨by omega,_,b2.l,rfl⟩)
  have b8:A2 x a2 Wb:=by
   rw[←a6]
   exact hA2 _ _ _ _ _ c2 (grownBy_putObj' W2 _ _) (fun r e=>by cases e;exact⟨by omega,_,b2.l,rfl⟩)
  have b9:Keeps p W Wb:=by
   have h1:Keeps p W W2:=⟨a7.size,fun b hb=>a7.block b (Nat.lt_trans (hp b hb) (by have:=hl.lt;omega))⟩
   rw[←a6]
   exact h1.trans (Za0 hp W2 _ _ _ (by omega) b2.l rfl rfl)
  rw[a6]
  refine wpIn_mono (hbody _ k x a2 Wb (by omega) hx c1 b8) ?_
  have b5:∀ (a1:Option Code) (V:World),KeepsFrom w.heap.size Wb V→RecAt w.heap.size (a4 .busy none) V∧∃ U,U=V.putObj (w.heap.size+1) (.loop (a4 (if a1.isNone then .ready else .done) a1)) ∧
    (Instr.endRound (w.heap.size+1) a1).run P V=.ok (.bool a1.isNone) U∧RecAt w.heap.size (a4 (if a1.isNone then .ready else .done) a1) U:=fun a1 V hk=>by
   have hv:=b7.from hk
   have he:=run_endRound (P:=P) a1 hv.l
   refine⟨hv,_,rfl,?_,hv.put _⟩
   rw[a0] at he ⊢
   exact he
  have b6:∀ {V:World} {r r':Loop} {k:Nat},RecAt w.heap.size r V→I k V→I k (V.putObj (w.heap.size+1) (.loop r')):=fun hv h=>hI _ _ _ _ h (grownBy_putObj' _ _ _) (fun r e=>(by cases e;exact⟨by omega,_,hv.l,rfl⟩))
  have a8:∀ {V:World} {r r':Loop} {c:Code} {k:Nat},RecAt w.heap.size r V→Ix c k V→Ix c k (V.putObj (w.heap.size+1) (.loop r')):=fun hv h=>hIx _ _ _ _ _ h (grownBy_putObj' _ _ _) (fun r e=>by cases e;exact⟨by omega,_,hv.l,rfl⟩)
  rintro e a3 V a5
  cases e with
  | normal =>
   obtain⟨b0,b4,a9⟩:=a5
   obtain⟨hv,U,rfl,hr,b1⟩:=b5 none V b0
   exact⟨_,_,hr,.inl ⟨rfl,⟨b6 hv a9,b1⟩,(b9.trans b4).trans (Za0 hp V _ _ _ (by omega) hv.l rfl rfl)⟩⟩
  | ret =>
   obtain⟨b0,a9⟩:=a5
   obtain⟨hv,U,rfl,hr,b1⟩:=b5 (some .ret) V b0
   exact⟨_,_,hr,.inr ⟨rfl,.ret,a8 hv a9,b1⟩⟩
  | exit id =>
   obtain⟨b0,a9⟩:=a5
   obtain⟨hv,U,rfl,hr,b1⟩:=b5 (some (.exit id)) V b0
   exact⟨_,_,hr,.inr ⟨rfl,.exit id,a8 hv a9,b1⟩⟩
  | goto t=>exact a5.elim
  | panic ch=>exact a5.elim
  | outgrown=>exact a5.elim
 ·rintro e W2 ⟨⟨v,rfl⟩,(⟨hi,hl⟩|⟨k,hk,c,hi,hl⟩)⟩
  ·have he:=run_endLoop (P:=P) hl.l (by rw[a0];simp)
   rw[show(a4 .ready none).pending=none by rw[a0]] at he
   exact⟨none,_,he,hdone _ _ (Nat.le_refl _) (hI _ _ _ _ hi (grownBy_putObj' _ _ _) (fun r e=>(by cases e;exact⟨by omega,_,hl.l,rfl⟩))) ((World.putObj_heap_other (by omega)).trans hl.d)⟩
  ·have he:=run_endLoop (P:=P) hl.l (by rw[a0];simp)
   rw[show(a4 .done (some c)).pending=some c by rw[a0]] at he
   exact⟨some c,_,he,wpIn_wide.2 (hstop _ c k _ (Nat.le_refl _) hk (hIx _ _ _ _ _ hi (grownBy_putObj' _ _ _) (fun r e=>by cases e;exact⟨by omega,_,hl.l,rfl⟩)) ((World.putObj_heap_other (by omega)).trans hl.d))⟩
end Go.Proofs.YtegcamkgeacjfaaGreatDoor
namespace Go.Proofs.YtegcamkgeacjfaaGreatDoor
set_option maxHeartbeats 8000000
set_option maxRecDepth 100000
open Go.RowKit
set_option linter.unusedVariables false
/-! ### frames -/
noncomputable def zlk (l:List (Nat×Value)) (k:Nat):Value:=List.rec (motive:=fun _=>Value) undef (fun p _ ih=>Bool.rec (motive:=fun _=>Value) ih p.2 (Nat.beq p.1 k)) l
theorem Mk(d:Nat)(v:Value)(l:List (Nat×Value))(k:Nat):zlk ((d,v)::l) k=if d=k then v else zlk l k:=by
 show Bool.rec (motive:=fun _=>Value) (zlk l k) v (Nat.beq d k)=_
 cases h:Nat.beq d k with
 | true=>rw[if_pos (Nat.eq_of_beq_eq_true h)]
 | false=>rw[if_neg (Nat.ne_of_beq_eq_false h)]
noncomputable def zact (n:Nat) (kv:List (Nat×Value)):Act:=⟨((List.range n).map (zlk kv)).toArray,[]⟩
noncomputable def zget (n:Nat) (kv:List (Nat×Value)) (k:Nat):Value:=Bool.rec (motive:=fun _=>Value) undef (zlk kv k) (Nat.blt k n)
theorem Tc(k n:Nat):Nat.blt k n=decide (k<n):=by
 rw[Bool.eq_iff_iff];simp
theorem Zgg(n:Nat)(kv:List (Nat×Value))(d:Nat):(zact n kv).tmps[d]? = Bool.rec (motive:=fun _=>Option Value) none (some (zlk kv d)) (Nat.blt d n):=by
 rw[Tc]
 by_cases h:d<n<;>simp[zact,h]
theorem Nx(n:Nat)(kv:List (Nat×Value))(d:Nat):(zact n kv).tmps.getD d undef=zget n kv d:=by
 have h:=Zgg n kv d
 rw[Array.getD_eq_getD_getElem?,h]
 unfold zget
 cases Nat.blt d n<;>rfl
noncomputable def zev (n:Nat) (kv:List (Nat×Value)):Operand→Value
 | .tmp t=>zget n kv t
 | .const v=>v
 | .global g=>P0 g
 | .func f=>.func (.func f) #[] #[]
theorem Xb(n:Nat)(kv:List (Nat×Value)):(zact n kv).eval=zev n kv:=by
 funext x
 cases x with
 | tmp t=>exact Nx n kv t
 | _=>rfl
def Zf0(kv:List (Nat×Value))(d:Option Tmp)(v:Value):List (Nat×Value):=match d with
 | some d=>(d,v)::kv
 | none=>kv
theorem Ml(n:Nat)(kv:List (Nat×Value))(d:Option Tmp)(v:Value):(zact n kv).put d v=zact n (Zf0 kv d v):=by
 cases d with
 | none=>rfl
 | some d =>
  show(⟨((List.range n).map (zlk kv)).toArray.setIfInBounds d v,[]⟩:Act)=⟨((List.range n).map (zlk ((d,v)::kv))).toArray,[]⟩
  congr 1
  rw[List.setIfInBounds_toArray]
  congr 1
  apply List.ext_getElem?
  intro i
  rw[List.getElem?_set,List.getElem?_map,List.getElem?_map,List.length_map,List.length_range]
  by_cases hi:i<n
  ·simp only[List.getElem?_range hi,Option.map_some,Mk]
   by_cases hd:d=i
   ·subst hd;simp[hi]
   ·simp[hd]
  ·have:(List.range n)[i]? = none:=by simp;omega
   simp only[this,Option.map_none]
   by_cases hd:d=i
   ·subst hd;simp[hi]
   ·simp[hd]
noncomputable def znth (l:List Oper) (k:Nat):Option Oper:=List.rec (motive:=fun _=>Nat→Option Oper) (fun _=>none) (fun o _ ih k=>Nat.rec (motive:=fun _=>Option Oper) (some o) (fun k' _=>ih k') k) l k
theorem My:∀ (l:List Oper) (k:Nat),znth l k=l[k]?
 | [],_=>rfl
 | _::_,0=>rfl
 | _::l,k+1=>by rw[List.getElem?_cons_succ,←My l k];rfl
noncomputable def zyl (all:List Oper) (n:Nat) (kv:List (Nat×Value)) (j:Nat):Option Bool :=
 match ((znth all j).bind (·.dst)) with
 | some d=>match zget n kv d with
  | .bool b=>some b
  | _=>none
 | none=>none
theorem Ib(all:List Oper)(n:Nat)(kv:List (Nat×Value)):yielded all.toArray (zact n kv).tmps=zyl all n kv:=by
 funext j
 unfold yielded zyl
 rw[My,List.getElem?_toArray]
 cases h:(all[j]?).bind (·.dst) with
 | none=>rfl
 | some d =>
  simp only[Option.bind_some,Zgg]
  unfold zget
  cases Nat.blt d n
  ·rfl
  ·cases zlk kv d<;>rfl
noncomputable def zps (P:Program) (all:List Oper) (n:Nat) (kv:List (Nat×Value)) (o:Oper):Option (List (Nat×Value)) :=
 match Region.wanted o (zyl all n kv) with
 | true=>match Gx P (execOp (zev n kv) o) with
  | some (.value v)=>some (Zf0 kv o.dst v)
  | _=>none
 | false=>some (Zf0 kv o.dst undef)
theorem Fu{P:Program}{all:List Oper}{n:Nat}{kv kv':List (Nat×Value)}{o:Oper}(h:zps P all n kv o=some kv'):∃ v,kv'=Zf0 kv o.dst v∧∀ S:World→Prop,YieldsIf P all.toArray S o v (zact n kv):=by
 unfold zps at h
 split at h
 ·rename_i hw
  split at h
  ·rename_i v hv
   simp only[Option.some.injEq] at h
   exact⟨v,h.symm,fun S=>.inl ⟨by rw[Ib];exact hw,fun w _=>by rw[Xb];exact Jp hv w⟩⟩
  ·cases h
 ·rename_i hw
  simp only[Option.some.injEq] at h
  exact⟨undef,h.symm,fun S=>.inr ⟨by rw[Ib];exact hw,rfl⟩⟩
/-! ### what stands of an order that is drawn -/
inductive SF
 | z
 | t (B:Nat) (T:List TypeId)
 | f (B:Nat) (S:List Nat)
def SF.rel:SF→World→World→Prop
 | .z,w,V=>B3 w V
 | .t B T,w,V=>Below (Nat.min B w.heap.size) w V∧Zd T w V
 | .f B S,w,V=>Below (Nat.min B w.heap.size) w V∧Fr S w V
theorem SF.refl(sf:SF)(w:World):sf.rel w w:=by
 cases sf with
 | z=>exact Below.refl _ _
 | t B T=>exact⟨Below.refl _ _,Zd.refl _ _⟩
 | f B S=>exact⟨Below.refl _ _,Fr.refl _ _⟩
theorem SF.of_below(sf:SF){w W:World}(h:B3 w W):sf.rel w W:=by
 cases sf with
 | z=>exact h
 | t B T=>exact⟨h.mono (Nat.min_le_right _ _),Zd.of_below h⟩
 | f B S=>exact⟨h.mono (Nat.min_le_right _ _),Fr.of_below h⟩
theorem SF.trans(sf:SF){a b c:World}(h:sf.rel a b)(k:sf.rel b c):sf.rel a c:=by
 cases sf with
 | z=>exact bln h k
 | t B T =>
  refine⟨h.1.trans (k.1.mono ?_),h.2.trans k.2⟩
  have:=h.1.size
  simp only[Nat.min_def];split<;>split<;>omega
 | f B S =>
  refine⟨h.1.trans (k.1.mono ?_),h.2.trans k.2⟩
  have:=h.1.size
  simp only[Nat.min_def];split<;>split<;>omega
noncomputable def zL (n:Nat) (done:List Nat):Array Bool:=((List.range n).map fun i=>done.elem i).toArray
theorem Zgd(n:Nat)(done:List Nat)(i:Nat)(b:Bool):(zL n done).getD i b=if i<n then done.elem i else b:=by
 rw[Array.getD_eq_getD_getElem?]
 by_cases h:i<n<;>simp[zL,h]
theorem Zca(n:Nat)(done:List Nat)(i:Nat):(zL n done).setIfInBounds i true=zL n (i::done):=by
 unfold zL
 rw[List.setIfInBounds_toArray]
 congr 1
 apply List.ext_getElem?
 intro j
 rw[List.getElem?_set,List.getElem?_map,List.getElem?_map,List.length_map,List.length_range]
 by_cases hj:j<n
 ·simp only[List.getElem?_range hj,Option.map_some]
  by_cases hd:i=j
  ·subst hd;simp[hj]
  ·have:(j==i)=false:=by simp;exact fun e=>hd e.symm
   rw[if_neg hd,List.elem_cons,this]
 ·have:(List.range n)[j]? = none:=by simp;omega
  simp only[this,Option.map_none]
  by_cases hd:i=j
  ·subst hd;simp[hj]
  ·simp[hd]
theorem zL_nil(n:Nat):Array.replicate n false=zL n []:=by
 unfold zL
 apply Array.ext_getElem?
 intro i
 by_cases h:i<n<;>simp[h]
noncomputable def zready (all:List Oper) (done:List Nat):List Nat :=
 (List.range all.length).filter fun i=>!(done.elem i)&&match znth all i with
  | some o=>o.after.all fun e=>!Region.binds .any e||(Nat.blt e.on all.length&&done.elem e.on)
  | none=>false
theorem Uy(all:List Oper)(done:List Nat):Region.ready .any all.toArray (zL all.length done)=zready all done:=by
 unfold Region.ready zready
 rw[List.size_toArray]
 refine List.filter_congr fun i hi=>?_
 have a0:i<all.length:=by simpa using hi
 rw[Zgd,if_pos a0,My,List.getElem?_toArray]
 congr 1
 cases all[i]? with
 | none=>rfl
 | some o =>
  simp only[Option.map_some,Option.getD_some]
  congr 1
  funext e
  rw[Zgd,Tc]
  by_cases he:e.on<all.length<;>simp[he]
/-! ### the state of a walk -/
inductive KF
 | seq (c:Code)
 | blk (id:Nat)
 | jn (J:Act→World→Prop)
 | rnd (c:Code) (n:Nat)
inductive Zc
 | code (c:Code)
 | ops (all l:List Oper)
 | any (sf:SF) (all:List Oper) (f:Nat) (done:List Nat)
 | one (sf:SF) (all:List Oper) (f:Nat) (done:List Nat) (i:Nat)
 | tak (sf:SF) (all:List Oper) (f:Nat) (done:List Nat) (i:Nat)
 | ex (e:Exit)
structure Zs where
 n:Nat
 ks:List KF
 c:Zc
 kv:List (Nat×Value)
section
variable (P:Program) (fn:Func) (R:Ending→World→Prop)
def KQ:List KF→Exit→Act→World→Prop
 | []=>bodyPost P fn R
 | .seq c::ks=>Exit.then (c.wp P (KQ ks)) (KQ ks)
 | .blk id::ks=>Exit.inBlock id (KQ ks)
 | .jn J::ks=>Exit.then J (KQ ks)
 | .rnd c n::ks=>Exit.then (Code.rounds P c (KQ ks) n) (KQ ks)
theorem Mi:∀ (ks:List KF) (c:List PanicEntry) (a:Act) (w:World),KQ P fn R ks (.panic c) a w=bodyPost P fn R (.panic c) a w
 | [],_,_,_=>rfl
 | .seq _::ks,c,a,w=>Mi ks c a w
 | .blk _::ks,c,a,w=>Mi ks c a w
 | .jn _::ks,c,a,w=>Mi ks c a w
 | .rnd _ _::ks,c,a,w=>Mi ks c a w
theorem KQ_put(ks:List KF)(d:Option Tmp)(v:Value)(c:List PanicEntry)(a:Act)(w:World)(h:KQ P fn R ks (.panic c) (a.put d v) w):KQ P fn R ks (.panic c) a w:=by
 rw[Mi] at h ⊢
 refine⟨?_,h.2⟩
 have:=h.1
 cases d<;>exact this
def Go (s:Zs)(w:World):Prop:=match s.c with
 | .code c=>c.wp P (KQ P fn R s.ks) (zact s.n s.kv) w
 | .ops all l=>wpList P all.toArray (KQ P fn R s.ks) l (zact s.n s.kv) w
 | .any sf all f done=>Region.noSelect all.toArray=true→wpAnyH P .any all.toArray (KQ P fn R s.ks) (sf.rel w) f (zL all.length done) (zact s.n s.kv) w
 | .one sf all f done i=>Region.noSelect all.toArray=true→wpOp P all.toArray (KQ P fn R s.ks) i (fun a' w'=>sf.rel w w'∧wpAnyH P .any all.toArray (KQ P fn R s.ks) (sf.rel w) f (zL all.length (i::done)) a' w') (zact s.n s.kv) w
 | .tak sf all f done i=>Region.free .any all.toArray (zL all.length done) i=true→(zready all done).contains i=true→Region.noSelect all.toArray=true→wpAnyH P .any all.toArray (KQ P fn R s.ks) (sf.rel w) (f+1) (zL all.length done) (zact s.n s.kv) w
 | .ex e=>KQ P fn R s.ks e (zact s.n s.kv) w
end
/-! ### steps that need no word -/
noncomputable def zstep (P:Program) (s:Zs):Zs:=match s with
  | ⟨n, ks, c, kv⟩ => match c with
    | .code c=>match c with
      | .skip=>⟨n,ks,.ex .normal,kv⟩
      | .label _=>⟨n,ks,.ex .normal,kv⟩
      | .seq a b=>⟨n,.seq b::ks,.code a,kv⟩
      | .block id a=>⟨n,.blk id::ks,.code a,kv⟩
      | .exit id=>⟨n,ks,.ex (.exit id),kv⟩
      | .ret=>⟨n,ks,.ex .ret,kv⟩
      | .region id ops d=>Bool.rec (motive:=fun _=>Zs) ⟨n,ks,.ops ops.toList ops.toList,kv⟩ ⟨n,ks,.code (.region id ops true),kv⟩ d
      | .cond c a b=>match zev n kv c with
        | .bool t=>⟨n,ks,.code (Bool.rec (motive:=fun _=>Code) b a t),kv⟩
        | _=>⟨n,ks,.code (.cond c a b),kv⟩
      | c=>⟨n,ks,.code c,kv⟩
    | .ops all l=>match l with
      | []=>⟨n,ks,.ex .normal,kv⟩
      | o::l=>match zps P all n kv o with
        | some kv'=>⟨n,ks,.ops all l,kv'⟩
        | none=>⟨n,ks,.ops all (o::l),kv⟩
    | .any sf all f done=>match zready all done with
      | []=>⟨n,ks,.ex .normal,kv⟩
      | _=>⟨n,ks,.any sf all f done,kv⟩
    | .one sf all f done i=>⟨n,ks,.one sf all f done i,kv⟩
    | .tak sf all f done i=>⟨n,ks,.tak sf all f done i,kv⟩
    | .ex e=>match ks with
      | []=>⟨n,[],.ex e,kv⟩
      | .seq c::ks=>match e with
        | .normal=>⟨n,ks,.code c,kv⟩
        | e=>⟨n,ks,.ex e,kv⟩
      | .blk id::ks=>match e with
        | .exit id'=>Bool.rec (motive:=fun _=>Zs) ⟨n,ks,.ex (.exit id'),kv⟩ ⟨n,ks,.ex .normal,kv⟩ (Nat.beq id' id)
        | e=>⟨n,ks,.ex e,kv⟩
      | .jn J::ks=>match e with
        | .normal=>⟨n,.jn J::ks,.ex .normal,kv⟩
        | e=>⟨n,ks,.ex e,kv⟩
      | .rnd c m::ks=>match e with
        | .normal=>Nat.rec (motive:=fun _=>Zs) ⟨n,.rnd c m::ks,.ex .normal,kv⟩ (fun m' _=>⟨n,.rnd c m'::ks,.code c,kv⟩) m
        | e=>⟨n,ks,.ex e,kv⟩
section
variable {P:Program} {fn:Func} {R:Ending→World→Prop} {w:World}
theorem Zbb(s:Zs)(h:Go P fn R (zstep P s) w):Go P fn R s w:=by
 obtain⟨n,ks,c,kv⟩:=s
 cases c with
 | code c =>
  cases c with
  | skip=>exact wp_skip h
  | label l=>exact wp_label h
  | seq a b=>exact wp_seq h
  | block id a=>exact wp_block h
  | exit id=>exact wp_exit h
  | ret=>exact wp_ret h
  | region id ops d =>
   cases d with
   | true=>exact h
   | false =>
    refine wp_region_list ?_
    have h':wpList P ops.toList.toArray (KQ P fn R ks) ops.toList (zact n kv) w:=h
    rwa [Array.toArray_toList] at h'
  | cond c a b =>
   unfold zstep at h
   dsimp only at h
   split at h
   ·rename_i t ht
    refine wp_cond (t:=t) (by rw[Xb];exact ht) ?_
    cases t<;>exact h
   ·exact h
  | _=>exact h
 | ops all l =>
  cases l with
  | nil=>exact(h:KQ P fn R ks .normal (zact n kv) w)
  | cons o l =>
   unfold zstep at h
   dsimp only at h
   split at h
   ·rename_i a0 hk
    obtain⟨v,rfl,hy⟩:=Fu hk
    have h':wpList P all.toArray (KQ P fn R ks) l (zact n (Zf0 kv o.dst v)) w:=h
    rw[←Ml] at h'
    exact Un (hy _) h'
   ·exact h
 | any sf all f done =>
  unfold zstep at h
  dsimp only at h
  split at h
  ·rename_i hr
   exact fun _=>wpAnyH_done (by rw[Uy];exact hr) h f
  ·exact h
 | one sf all f done i=>exact h
 | tak sf all f done i=>exact h
 | ex e =>
  cases ks with
  | nil=>exact h
  | cons k ks =>
   cases k with
   | seq c=>cases e<;>exact h
   | blk id =>
    cases e with
    | exit id' =>
     show Exit.inBlock id (KQ P fn R ks) (.exit id') _ w
     unfold zstep at h
     dsimp only at h
     cases hb:Nat.beq id' id with
     | true =>
      rw[hb] at h
      have:id'=id:=Nat.eq_of_beq_eq_true hb
      simp only[Exit.inBlock,this,if_true]
      exact h
     | false =>
      rw[hb] at h
      have:id'≠id:=Nat.ne_of_beq_eq_false hb
      simp only[Exit.inBlock,this,if_false]
      exact h
    | _=>exact h
   | jn J=>cases e<;>exact h
   | rnd c m =>
    cases e with
    | normal =>
     cases m with
     | zero=>exact h
     | succ m=>exact h
    | _=>exact h
noncomputable def zr (P:Program) (k:Nat) (s:Zs):Zs:=Nat.rec (motive:=fun _=>Zs→Zs) (fun s=>s) (fun _ ih s=>ih (zstep P s)) k s
theorem Tl:∀ (k:Nat) (s:Zs),Go P fn R (zr P k s) w→Go P fn R s w
 | 0,_,h=>h
 | k+1,s,h=>Zbb s (Tl k (zstep P s) h)
/-! ### a drawn region: what only computes is taken by number -/
noncomputable def zb1 (P:Program) (s:Zs) (i:Nat):Zs:=match s with
  | ⟨n, ks, c, kv⟩ => match c with
    | .any sf all f done=>match f with
      | f'+1=>match znth all i with
        | some o=>match Region.free .any all.toArray (zL all.length done) i&&(zready all done).contains i with
          | true=>match zps P all n kv o with
            | some kv'=>⟨n,ks,.any sf all f' (i::done),kv'⟩
            | none=>⟨n,ks,.any sf all f done,kv⟩
          | false=>⟨n,ks,.any sf all f done,kv⟩
        | none=>⟨n,ks,.any sf all f done,kv⟩
      | 0=>⟨n,ks,.any sf all f done,kv⟩
    | c=>⟨n,ks,c,kv⟩
theorem Zgr(s:Zs)(i:Nat)(h:Go P fn R (zb1 P s i) w):Go P fn R s w:=by
 obtain⟨n,ks,c,kv⟩:=s
 cases c with
 | any sf all f done =>
  cases f with
  | zero=>exact h
  | succ f =>
   unfold zb1 at h
   dsimp only at h
   split at h
   ·rename_i o ho
    split at h
    ·rename_i hc
     simp only[Bool.and_eq_true] at hc
     split at h
     ·rename_i a0 hk
      obtain⟨v,rfl,hy⟩:=Fu hk
      intro hs
      have h':=h hs
      rw[My] at ho
      rw[←Ml,←Zca] at h'
      exact wpAnyH_take (by rw[List.getElem?_toArray];exact ho) hs hc.1 (by rw[Uy];exact hc.2) (KQ_put P fn R ks _ _) (hy _) (sf.refl w) h'
     ·exact h
    ·exact h
   ·exact h
 | _=>exact h
noncomputable def zb (P:Program) (is:List Nat) (s:Zs):Zs:=List.rec (motive:=fun _=>Zs→Zs) (fun s=>s) (fun i _ ih s=>ih (zb1 P s i)) is s
theorem Nz:∀ (is:List Nat) (s:Zs),Go P fn R (zb P is s) w→Go P fn R s w
 | [],_,h=>h
 | i::r,s,h=>Zgr s i (Nz r _ h)
noncomputable def zone (i:Nat) (s:Zs):Zs:=match s with
  | ⟨n, ks, c, kv⟩ => match c with
    | .any sf all f done=>match f with
      | f'+1=>match zready all done with
        | [j]=>Bool.rec (motive:=fun _=>Zs) ⟨n,ks,.any sf all f done,kv⟩ ⟨n,ks,.one sf all f' done i,kv⟩ (Nat.beq j i)
        | _=>⟨n,ks,.any sf all f done,kv⟩
      | 0=>⟨n,ks,.any sf all f done,kv⟩
    | c=>⟨n,ks,c,kv⟩
theorem Zc0(s:Zs)(i:Nat)(h:Go P fn R (zone i s) w):Go P fn R s w:=by
 obtain⟨n,ks,c,kv⟩:=s
 cases c with
 | any sf all f done =>
  cases f with
  | zero=>exact h
  | succ f =>
   unfold zone at h
   dsimp only at h
   split at h
   ·rename_i j hj
    cases hb:Nat.beq j i with
    | true =>
     rw[hb] at h
     obtain rfl:j=i:=Nat.eq_of_beq_eq_true hb
     intro hs
     refine wpAnyH_all (rs:=[j]) (by rw[Uy];exact hj) (by simp) fun k hk=>?_
     obtain rfl:k=j:=by simpa using hk
     rw[Zca]
     exact h hs
    | false=>rw[hb] at h;exact h
   ·exact h
 | _=>exact h
noncomputable def ztak (i:Nat) (s:Zs):Zs:=match s with
  | ⟨n, ks, c, kv⟩ => match c with
    | .any sf all f done=>match f with
      | f'+1=>match Region.free .any all.toArray (zL all.length done) i&&(zready all done).contains i with
        | true=>⟨n,ks,.tak sf all f' done i,kv⟩
        | false=>⟨n,ks,.any sf all f done,kv⟩
      | 0=>⟨n,ks,.any sf all f done,kv⟩
    | c=>⟨n,ks,c,kv⟩
theorem Zd5(s:Zs)(i:Nat)(h:Go P fn R (ztak i s) w):Go P fn R s w:=by
 obtain⟨n,ks,c,kv⟩:=s
 cases c with
 | any sf all f done =>
  cases f with
  | zero=>exact h
  | succ f =>
   unfold ztak at h
   dsimp only at h
   split at h
   ·rename_i hc
    simp only[Bool.and_eq_true] at hc
    exact h hc.1 hc.2
   ·exact h
 | _=>exact h
inductive Zq
 | p (k:Nat)
 | b (is:List Nat)
 | o (is:List Nat) (i:Nat)
 | e (is:List Nat) (i:Nat)
 | r (is:List Nat) (k:Nat)
instance (n:Nat):OfNat Zq n:=⟨.p n⟩
noncomputable def zq (P:Program) (q:Zq) (s:Zs):Zs:=match q with
 | .p k=>zr P k s
 | .b is=>zb P is s
 | .o is i=>zone i (zb P is s)
 | .e is i=>ztak i (zb P is s)
 | .r is k=>zr P k (zb P is s)
theorem Zu(q:Zq)(s:Zs)(h:Go P fn R (zq P q s) w):Go P fn R s w:=by
 cases q with
 | p k=>exact Tl k s h
 | b is=>exact Nz is s h
 | o is i=>exact Nz is s (Zc0 _ i h)
 | e is i=>exact Nz is s (Zd5 _ i h)
 | r is k=>exact Nz is s (Tl k _ h)
/-! ### the operation at hand -/
noncomputable def zop (s:Zs):Option Oper:=match s with
  | ⟨n, ks, c, kv⟩ => match c with
    | .ops all l=>match l with
      | o::_=>match Region.wanted o (zyl all n kv) with
        | true=>some o
        | false=>none
      | []=>none
    | .one _ all _ _ i=>match znth all i with
      | some o=>match Region.wanted o (zyl all n kv) with
        | true=>some o
        | false=>none
      | none=>none
    | .tak _ all _ _ i=>match znth all i with
      | some o=>match Region.wanted o (zyl all n kv) with
        | true=>some o
        | false=>none
      | none=>none
    | _=>none
noncomputable def znx (s:Zs) (v:Value):Zs:=match s with
 | ⟨n,ks,c,kv⟩=>match c with
  | .ops all l=>match l with
   | o::l=>⟨n,ks,.ops all l,Zf0 kv o.dst v⟩
   | []=>⟨n,ks,.ops all [],kv⟩
  | .one sf all f done i=>match znth all i with
   | some o=>⟨n,ks,.any sf all f (i::done),Zf0 kv o.dst v⟩
   | none=>⟨n,ks,.one sf all f done i,kv⟩
  | .tak sf all f done i=>match znth all i with
   | some o=>⟨n,ks,.any sf all f (i::done),Zf0 kv o.dst v⟩
   | none=>⟨n,ks,.tak sf all f done i,kv⟩
  | c=>⟨n,ks,c,kv⟩
def Zdn(s:Zs)(w W:World):Prop:=match s.c with
 | .one sf _ _ _ _=>sf.rel w W
 | .tak sf _ _ _ _=>sf.rel w W
 | _=>True
def Tz(s:Zs):Bool:=match s.c with
 | .tak _ _ _ _ _=>false
 | _=>true
theorem Ji(s:Zs){W:World}(h:B3 w W):Zdn s w W:=by
 unfold Zdn
 split
 ·exact SF.of_below _ h
 ·exact SF.of_below _ h
 ·trivial
theorem Ze5{P:Program}{ops:Array Oper}{Q:Exit→Act→World→Prop}{S S':World→Prop}{md:Region.Mode}{fuel:Nat}{L:Array Bool}{a:Act}{w:World}(hi:∀ V,S' V→S V)(h:wpAnyH P md ops Q S' fuel L a w):wpAnyH P md ops Q S fuel L a w:=h_str S' hi h
theorem zgo{s:Zs}{o:Oper}(h:zop s=some o)(he:Tz s=true)(k:∀ (K:Act→World→Prop),(∀ v W,Zdn s w W→Go P fn R (znx s v) W→K ((zact s.n s.kv).put o.dst v) W)→o.wp P (zact s.n s.kv) w K (KQ P fn R s.ks)):Go P fn R s w:=by
 obtain⟨n,ks,c,kv⟩:=s
 cases c with
 | ops all l =>
  cases l with
  | nil=>cases h
  | cons o' l =>
   unfold zop at h
   dsimp only at h
   split at h
   ·rename_i hw
    obtain rfl:o'=o:=by simpa using h
    refine Qa (by rw[Ib];exact hw) (k _ fun v W _ hg=>?_)
    rw[Ml]
    exact hg
   ·cases h
 | one sf all f done i =>
  unfold zop at h
  dsimp only at h
  split at h
  ·rename_i o' ho
   split at h
   ·rename_i hw
    obtain rfl:o'=o:=by simpa using h
    intro hs
    have a0:all.toArray[i]? = some o':=by rw[List.getElem?_toArray,←My];exact ho
    unfold wpOp
    simp only[a0,Ib,hw,if_true]
    refine .inl (k _ fun v W hr hg=>⟨hr,?_⟩)
    have a1:Go P fn R ⟨n,ks,.any sf all f (i::done),Zf0 kv o'.dst v⟩ W:=by
     have e:znx ⟨n,ks,.one sf all f done i,kv⟩ v=⟨n,ks,.any sf all f (i::done),Zf0 kv o'.dst v⟩:=by simp only[znx,ho]
     rw[←e];exact hg
    have:=a1 hs
    rw[←Ml] at this
    exact Ze5 (fun V hV=>sf.trans hr hV) this
   ·cases h
  ·cases h
 | tak sf all f done i=>cases he
 | any sf all f done=>cases h
 | code c=>cases h
 | ex e=>cases h
theorem Zak{s:Zs}{o:Oper}{v:Value}(h:zop s=some o)(hv:∀ V,(V=w∨Tz s=false∧Zdn s w V)→(execOp (zact s.n s.kv).eval o).run P V=.ok (.value v) V)(k:Go P fn R (znx s v) w):Go P fn R s w:=by
 by_cases he:Tz s=true
 ·exact zgo h he fun K hK=>Gp (hv w (.inl rfl)) (hK _ _ (Ji _ (Below.refl _ _)) k)
 ·obtain⟨n,ks,c,kv⟩:=s
  cases c with
  | tak sf all f done i =>
   unfold zop at h
   dsimp only at h
   split at h
   ·rename_i o' ho
    split at h
    ·rename_i hw
     obtain rfl:o'=o:=by simpa using h
     intro h1 h2 hs
     have a0:all.toArray[i]? = some o':=by rw[List.getElem?_toArray,←My];exact ho
     have a1:Go P fn R ⟨n,ks,.any sf all f (i::done),Zf0 kv o'.dst v⟩ w:=by
      have e:znx ⟨n,ks,.tak sf all f done i,kv⟩ v=⟨n,ks,.any sf all f (i::done),Zf0 kv o'.dst v⟩:=by simp only[znx,ho]
      rw[←e];exact k
     have:=a1 hs
     rw[←Ml,←Zca] at this
     exact wpAnyH_take a0 hs h1 (by rw[Uy];exact h2) (KQ_put P fn R ks _ _) (.inl ⟨by rw[Ib];exact hw,fun V hV=>hv V (.inr ⟨rfl,hV⟩)⟩) (sf.refl w) this
    ·cases h
   ·cases h
  | _=>exact absurd rfl he
end
/-! ### the rules -/
def zargs:Nat→List Value→List (Nat×Value)
 | _,[]=>[]
 | i,v::r=>(i,v)::zargs (i+1) r
theorem Zbr:∀ (l:List Value) (i k:Nat),i≤k→zlk (zargs i l) k=(l[k-i]?).getD undef
 | [],_,_,_=>rfl
 | v::r,i,k,h=>by
  rw[zargs,Mk]
  by_cases e:i=k
  ·subst e;simp
  ·rw[if_neg e,Zbr r (i+1) k (by omega),show k-i=(k-(i+1))+1 by omega,List.getElem?_cons_succ]
def zbody(fn:Func):Code:=match fn.body with
 | some c=>c
 | none=>.skip
theorem Zg6(args:Array Value)(m:Nat):(⟨args++Array.replicate (m-args.size) undef,[]⟩:Act)=zact (args.size+(m-args.size)) (zargs 0 args.toList):=by
 unfold zact
 congr 1
 apply Array.ext_getElem?
 intro i
 rw[Array.getElem?_append]
 conv=>rhs;rw[List.getElem?_toArray,List.getElem?_map]
 by_cases h:i<args.size+(m-args.size)
 ·rw[List.getElem?_range h,Option.map_some,Zbr _ _ _ (Nat.zero_le _)]
  by_cases h2:i<args.size
  ·simp[h2]
  ·rw[if_neg h2,Array.getElem?_replicate,if_pos (by omega)]
   simp[h2]
 ·have:(List.range (args.size+(m-args.size)))[i]? = none:=by simp;omega
  rw[this,if_neg (by omega),Array.getElem?_replicate,if_neg (by omega)]
  rfl
def zsz (P:Program)(t:TypeId)(n:Nat):Bool:=match P.info? t with
 | some i=>Nat.beq i.size n
 | none=>false
theorem Zcu{P:Program}{t:TypeId}{n:Nat}(h:zsz P t n=true):(P.info? t).map (·.size)=some n:=by
 unfold zsz at h
 split at h
 ·rename_i i hi
  rw[hi]
  simp[Nat.eq_of_beq_eq_true h]
 ·cases h
def zrow(P:Program)(t:TypeId):Bool:=match P.underlying t with
 | some d=>d.isRow
 | none=>false
def Mj(w:World)(p:Addr)(cs:List Value):Prop:=∃ b off,p=⟨b,off,none⟩∧w.rangeAt b off cs
theorem Blk.rp{w:World}{b:Nat}{cs:List Value}{t:TypeId}(h:Blk w b cs t):Mj w ⟨b,0,none⟩ cs:=⟨b,0,rfl,h.whole⟩
theorem Blk.rpp{w:World}{b:Nat}{cs:List Value}{t:TypeId}(h:Blk w b cs t)(off n:Nat)(hn:off+n≤cs.length:=by first|decide|simp):Mj w ⟨b,off,none⟩ ((cs.drop off).take n):=⟨b,off,rfl,h.part off n hn⟩
theorem Sts.rp{α:Type}{f:α→List Value}{m:Nat}{w:World}{b:O0}{c k:Nat}{l:List α}(h:Sts f w (.slice b l.length c) l)(hm:∀ x,(f x).length=m)(dflt:α)(hk:k<l.length)(hm0:0<m):Mj w (Zz b (k*m)) (f (l.getD k dflt)):=by
 obtain⟨g,og,rfl⟩:=h.at hm hm0 (by omega)
 refine⟨g,og+k*m,by simp[Zz,Addr.add_mid],fun j v hj=>?_⟩
 have:=(h.cell hm dflt hk hj).2
 simpa [Zz,Addr.add_mid] using this
theorem Mj.below{w V:World}{p:Addr}{cs:List Value}(h:Mj w p cs)(hb:B3 w V):Mj V p cs:=by
 obtain⟨b,a0,e,h⟩:=h
 exact⟨b,a0,e,fun j v hj=>Zfz hb (h j v hj)⟩
noncomputable section
variable (P:Program) (s:Zs)
def El:Bool:=match s.c with
 | .tak sf _ _ _ _=>match sf with
  | .z=>true
  | .t _ _=>false
  | .f _ _=>false
 | .any _ _ _ _=>false
 | _=>true
def Um:Bool:=match s.c with
 | .ops _ _=>true
 | _=>false
def zsf:Option SF:=match s.c with
 | .one sf _ _ _ _=>some sf
 | _=>none
def ztsf:Option SF:=match s.c with
 | .tak sf _ _ _ _=>some sf
 | _=>none
def zld:O0:=match zop s with
 | some o=>match o.op with
  | .load t x=>match aggB P t with
   | some b=>Bool.rec (motive:=fun _=>O0) (match zev s.n s.kv x with
    | .pointer (some p)=>some p
    | _=>none) none b
   | none=>none
  | _=>none
 | none=>none
def zldv(n:Nat):O0:=match zop s with
 | some o=>match o.op with
  | .load t x=>match zrow P t&&zsz P t n with
   | true=>match zev s.n s.kv x with
    | .pointer (some p)=>some p
    | _=>none
   | false=>none
  | _=>none
 | none=>none
def zldb(n:Nat):Option (Nat×Nat):=match zld P s with
 | some ⟨b,off,sp⟩=>match sp with
  | none=>Bool.rec (motive:=fun _=>Option (Nat×Nat)) none (some (b,off)) (Nat.blt off n)
  | some _=>none
 | none=>none
def zst:Option (Addr×Value):=match zop s with
 | some o=>match o.op with
  | .store t x y=>match zsz P t 1 with
   | true=>match zev s.n s.kv x with
    | .pointer (some p)=>match (zev s.n s.kv y).oneCell' with
     | true=>some (p,zev s.n s.kv y)
     | false=>none
    | _=>none
   | false=>none
  | _=>none
 | none=>none
def zstc(cs:List Value):Option (Nat×List Value):=match zst P s with
 | some (⟨b,off,sp⟩,v)=>match sp with
  | none=>Bool.rec (motive:=fun _=>Option (Nat×List Value)) none (some (b,cs.set off v)) (Nat.blt off cs.length)
  | some _=>none
 | none=>none
def zstv:Option (Addr×List Value):=match zop s with
 | some o=>match o.op with
  | .store t x y=>match zev s.n s.kv y with
   | .agg vs=>match zsz P t vs.size with
    | true=>match zev s.n s.kv x with
     | .pointer (some p)=>some (p,vs.toList)
     | _=>none
    | false=>none
   | _=>none
  | _=>none
 | none=>none
def zstvc(cs:List Value):Option (Nat×List Value):=match zstv P s with
 | some (⟨b,off,sp⟩,vs)=>match sp with
  | none=>match vs.all (·.oneCell')&&Nat.ble (off+vs.length) cs.length with
   | true=>some (b,cs.take off++vs++cs.drop (off+vs.length))
   | false=>none
  | some _=>none
 | none=>none
def zal:Option (TypeId×List Value):=match zop s with
 | some o=>match o.op with
  | .alloc t=>match zeroOf P t with
   | some cs=>some (t,cs)
   | none=>none
  | .box t x=>some (t,(zev s.n s.kv x).cells.toList)
  | _=>none
 | none=>none
def zbs:Option (Nat×TypeId×List Value):=match zop s with
 | some o=>match o.op with
  | .buildSlice t n parts=>match built P t n (parts.toList.map fun p=>(p.1,zev s.n s.kv p.2)) with
   | some (e,cs)=>some (n,e,cs)
   | none=>none
  | _=>none
 | none=>none
def zb0:Option TypeId:=match zop s with
 | some o=>match o.op with
  | .buildSlice t m parts=>match P.underlying t with
   | some (.slice e)=>match Nat.beq m 0&&parts.toList.isEmpty&&(P.info? e).isSome with
    | true=>some e
    | false=>none
   | _=>none
  | _=>none
 | none=>none
def zcl:Option (FuncId×List Value):=match zop s with
 | some o=>match o.op with
  | .call c=>match c.callee with
   | .value x=>match zev s.n s.kv x with
    | .func (.func f) fi lb=>match fi.toList with
     | []=>some (f,c.args.toList.map (zev s.n s.kv)++lb.toList)
     | _=>none
    | _=>none
   | _=>none
  | _=>none
 | none=>none
def zpv:Option Value:=match zop s with
 | some o=>match Gx P (execOp (zev s.n s.kv) o) with
  | some (.value v)=>some v
  | _=>none
 | none=>none
def zix:Option (O0×Nat×Int×Nat):=match zop s with
 | some o=>match o.op with
  | .indexAddr t x y=>match P.underlying t with
   | some (.slice e)=>match P.info? e with
    | some i=>match zev s.n s.kv x with
     | .slice a n _=>match zev s.n s.kv y with
      | .int _ j=>some (a,n,j,i.size)
      | _=>none
     | _=>none
    | none=>none
   | _=>none
  | _=>none
 | none=>none
def zcd:Option Value:=match s.c with
 | .code c=>match c with
  | .cond x _ _=>some (zev s.n s.kv x)
  | _=>none
 | _=>none
def zth (t:Bool):Zs:=match s with
 | ⟨n,ks,c,kv⟩=>match c with
  | .code c=>match c with
   | .cond x a b=>⟨n,ks,.code (Bool.rec (motive:=fun _=>Code) b a t),kv⟩
   | c=>⟨n,ks,.code c,kv⟩
  | c=>⟨n,ks,c,kv⟩
def zset(is:List Nat)(t:Bool):Zs:=match s with
 | ⟨n,ks,c,kv⟩=>⟨n,ks,c,is.map (fun i=>(i,Value.bool t))++kv⟩
def zrl (n:Nat)(kv:List (Nat×Value))(l:List ResultVar):Option (List Value):=List.rec (motive:=fun _=>Option (List Value)) (some []) (fun r _ ih=>match r with
 | .tmp t=>match ih with
  | some vs=>some (zget n kv t::vs)
  | none=>none
 | .cell _ _=>none) l
def zvs (vs:List Value):Value:=match vs with
 | [v]=>v
 | vs=>.tuple vs.toArray
def zfin:Bool:=match s.ks with
 | []=>match s.c with
  | .ex e=>match e with
   | .normal=>true
   | .ret=>true
   | _=>false
  | _=>false
 | _=>false
def zres(fn:Func):Option Value:=match zfin s with
 | true=>match zrl s.n s.kv fn.results.toList with
  | some vs=>some (zvs vs)
  | none=>none
 | false=>none
def zrlc(n:Nat)(kv:List (Nat×Value))(cs:List Value)(l:List ResultVar):Option (Option Nat×List Value):=List.rec (motive:=fun _=>Option (Option Nat×List Value)) (some (none,[])) (fun r _ ih=>match r with
 | .tmp t=>match ih with
  | some (o,vs)=>some (o,zget n kv t::vs)
  | none=>none
 | .cell k t=>match zget n kv k with
  | .pointer (some ⟨b,off,sp⟩)=>match sp with
   | none=>match Nat.beq off 0&&(zrow P t&&zsz P t cs.length) with
    | true=>match ih with
     | some (o,vs)=>match o with
      | none=>some (some b,.agg cs.toArray::vs)
      | some _=>none
     | none=>none
    | false=>none
   | some _=>none
  | _=>none) l
def zresc(fn:Func)(cs:List Value):Option (Nat×Value):=match zfin s with
 | true=>match zrlc P s.n s.kv cs fn.results.toList with
  | some (o,vs)=>match o with
   | some b=>some (b,zvs vs)
   | none=>none
  | none=>none
 | false=>none
def zisl:Bool:=match s.c with
 | .code c=>match c with
  | .loop _=>true
  | _=>false
 | _=>false
def zlp (n:Nat)(J:Act→World→Prop)(kv:List (Nat×Value)):Zs:=match s with
 | ⟨_,ks,c,_⟩=>match c with
  | .code c=>match c with
   | .loop b=>⟨n,.jn J::ks,.code b,kv⟩
   | _=>⟨n,ks,.code c,kv⟩
  | c=>⟨n,ks,c,kv⟩
def zend:Option (Act→World→Prop):=match s.c with
 | .ex e=>match e with
  | .normal=>match s.ks with
   | .jn J::_=>some J
   | _=>none
  | _=>none
 | _=>none
def zun (m:Nat):Zs:=match s with
 | ⟨n,ks,c,kv⟩=>match c with
  | .code c=>match c with
   | .loop b=>⟨n,.rnd b m::ks,.code b,kv⟩
   | c=>⟨n,ks,.code c,kv⟩
  | c=>⟨n,ks,c,kv⟩
def zdr (sf:SF):Zs:=match s with
 | ⟨n,ks,c,kv⟩=>match c with
  | .code c=>match c with
   | .region _ ops _=>⟨n,ks,.any sf ops.toList ops.toList.length [],kv⟩
   | c=>⟨n,ks,.code c,kv⟩
  | c=>⟨n,ks,c,kv⟩
def zisd:Bool:=match s.c with
 | .code c=>match c with
  | .region _ ops d=>d&&Region.noSelect ops.toList.toArray
  | _=>false
 | _=>false
end
section
variable {P:Program} {fn:Func} {R:Ending→World→Prop} {w:World} {s:Zs}
theorem zin{f:FuncId}{args:Array Value}(n:Nat)(hf:P.funcs[f]? = some fn)(h:Go P fn R ⟨n,[],.code (zbody fn),zargs 0 args.toList⟩ w)(hb:fn.body.isSome=true:=by kernel_rfl)(hn:args.size+(fn.ntmps-args.size)=n:=by kernel_rfl):Calls P f args w R:=by
 obtain⟨c,hc⟩:=Option.isSome_iff_exists.1 hb
 refine calls_of_wp hf hc ?_
 rw[Zg6,hn]
 have e:zbody fn=c:=by unfold zbody;rw[hc]
 rw[←e]
 exact h
theorem Vg{α:Type}{F:Oper→Option α}{a:α}(h:(match zop s with|some o=>F o|none=>none)=some a):∃ o,zop s=some o∧F o=some a:=by
 split at h
 ·exact⟨_,by assumption,h⟩
 ·cases h
theorem Lj{V:World}(h:El s=true)(hv:V=w∨Tz s=false∧Zdn s w V):B3 w V:=by
 rcases hv with rfl|⟨he,hr⟩
 ·exact Below.refl _ _
 ·obtain⟨n,ks,c,kv⟩:=s
  cases c with
  | tak sf all f done i =>
   cases sf with
   | z=>exact hr
   | t B T=>cases h
   | f B S=>cases h
  | _=>cases he
theorem St{V:World}{sf:SF}(h:ztsf s=some sf)(hv:V=w∨Tz s=false∧Zdn s w V):sf.rel w V:=by
 rcases hv with rfl|⟨he,hr⟩
 ·exact SF.refl _ _
 ·obtain⟨n,ks,c,kv⟩:=s
  cases c with
  | tak sf' all f done i =>
   obtain rfl:sf'=sf:=by simpa [ztsf] using h
   exact hr
  | _=>cases h
theorem zld_run{p:Addr}(h:zld P s=some p):∃ o,zop s=some o∧∀ V v,V.cell? p=some v→(execOp (zact s.n s.kv).eval o).run P V=.ok (.value v) V:=by
 obtain⟨o,ho,h⟩:=Vg h
 refine⟨o,ho,fun V v hv=>?_⟩
 split at h
 ·rename_i t x a0
  split at h
  ·rename_i b hb
   cases b with
   | true=>cases h
   | false =>
    dsimp only at h
    split at h
    ·rename_i p' hp
     simp only[Option.some.injEq] at h
     subst h
     simp only[execOp,a0,Xb,hp,Sem.run_bind,Oc hb hv]
     rfl
    ·cases h
  ·cases h
 ·cases h
theorem xl(q:Zq){p:Addr}{v:Value}(hc:w.cell? p=some v)(k:Go P fn R (znx (zq P q s) v) w)(h:zld P (zq P q s)=some p:=by kernel_rfl)(hz:El (zq P q s)=true:=by kernel_rfl):Go P fn R s w:=by
 obtain⟨o,ho,hr⟩:=zld_run h
 exact Zu q s (Zak ho (fun V hV=>hr V v (Zfz (Lj hz hV) hc)) k)
theorem xlt(q:Zq){p:Addr}{v:Value}(sf:SF)(hc:∀ V,sf.rel w V→V.cell? p=some v)(k:Go P fn R (znx (zq P q s) v) w)(h:zld P (zq P q s)=some p:=by kernel_rfl)(hz:ztsf (zq P q s)=some sf:=by kernel_rfl):Go P fn R s w:=by
 obtain⟨o,ho,hr⟩:=zld_run h
 exact Zu q s (Zak ho (fun V hV=>hr V v (hc V (St hz hV))) k)
theorem pk_get(cs:List Value)(i:Nat)(h:i<cs.length):cs[i]? = some (pk cs i):=by
 induction cs generalizing i with
 | nil=>simp at h
 | cons x r ih =>
  cases i with
  | zero=>rfl
  | succ j=>exact ih j (by simpa using h)
theorem Eg{b i:Nat}{cs:List Value}{t:TypeId}{V:World}(h:zldb P s cs.length=some (b,i))(kb:Blk V b cs t):zld P s=some ⟨b,i,none⟩∧V.cell? ⟨b,i,none⟩=some (pk cs i):=by
 unfold zldb at h
 split at h
 ·rename_i b' a0 sp hp
  cases sp with
  | some _=>cases h
  | none =>
   dsimp only at h
   rw[Tc] at h
   by_cases ho:a0<cs.length
   ·simp only[ho,decide_true,Option.some.injEq,Prod.mk.injEq] at h
    obtain⟨rfl,rfl⟩:=h
    exact⟨hp,kb.cell (pk_get cs _ ho)⟩
   ·simp[ho] at h
 ·cases h
theorem xb(q:Zq)(i:Nat){b:Nat}{cs:List Value}{t:TypeId}(kb:Blk w b cs t)(k:Go P fn R (znx (zq P q s) (pk cs i)) w)(h:zldb P (zq P q s) cs.length=some (b,i):=by kernel_rfl)(hz:El (zq P q s)=true:=by kernel_rfl):Go P fn R s w:=by
 obtain⟨hp,hc⟩:=Eg h kb
 exact xl q hc k hp hz
theorem xbt(q:Zq)(i:Nat){b:Nat}{cs:List Value}{t:TypeId}(B:Nat)(T:List TypeId)(kb:Blk w b cs t)(k:Go P fn R (znx (zq P q s) (pk cs i)) w)(h:zldb P (zq P q s) cs.length=some (b,i):=by kernel_rfl)(hz:ztsf (zq P q s)=some (.t B T):=by kernel_rfl)(hT:T.contains t=false:=by decide):Go P fn R s w:=by
 obtain⟨hp,_⟩:=Eg h kb
 exact xlt q (.t B T) (fun V hV=>(Eg h (kb.only hV.2 hT)).2) k hp hz
theorem Zco{p:Addr}{n:Nat}(h:zldv P s n=some p):∃ o,zop s=some o∧∀ V cs,cs.length=n→Mj V p cs→(execOp (zact s.n s.kv).eval o).run P V=.ok (.value (.agg cs.toArray)) V:=by
 obtain⟨o,ho,h⟩:=Vg h
 refine⟨o,ho,fun V cs hn hv=>?_⟩
 subst hn
 split at h
 ·rename_i t x a1
  split at h
  ·rename_i hb
   simp only[Bool.and_eq_true] at hb
   split at h
   ·rename_i p' hp
    simp only[Option.some.injEq] at h
    subst h
    obtain⟨b,a0,rfl,hv⟩:=hv
    have hu:=hb.1
    unfold zrow at hu
    split at hu
    ·rename_i d hd
     simp only[execOp,a1,Xb,hp,Instr.loadAt,Instr.sureAddr,Sem.run_bind,Sem.run_pure,Result.andThen_ok,run_loadVar_mid V b a0 t cs d hv hd hu (Zcu hb.2)]
    ·cases hu
   ·cases h
  ·cases h
 ·cases h
theorem xlv(q:Zq){p:Addr}{cs:List Value}(hc:Mj w p cs)(k:Go P fn R (znx (zq P q s) (.agg cs.toArray)) w)(h:zldv P (zq P q s) cs.length=some p:=by kernel_rfl)(hz:El (zq P q s)=true:=by kernel_rfl):Go P fn R s w:=by
 obtain⟨o,ho,hr⟩:=Zco h
 exact Zu q s (Zak ho (fun V hV=>hr V cs rfl (hc.below (Lj hz hV))) k)
theorem xlvt(q:Zq){p:Addr}{cs:List Value}(sf:SF)(hc:∀ V,sf.rel w V→Mj V p cs)(k:Go P fn R (znx (zq P q s) (.agg cs.toArray)) w)(h:zldv P (zq P q s) cs.length=some p:=by kernel_rfl)(hz:ztsf (zq P q s)=some sf:=by kernel_rfl):Go P fn R s w:=by
 obtain⟨o,ho,hr⟩:=Zco h
 exact Zu q s (Zak ho (fun V hV=>hr V cs rfl (hc V (St hz hV))) k)
theorem Jh{s:Zs}{w W:World}(h:Um s=true):Zdn s w W:=by
 obtain⟨n,ks,c,kv⟩:=s
 cases c<;>first|trivial|cases h
theorem Jj{s:Zs}(h:Um s=true):Tz s=true:=by
 obtain⟨n,ks,c,kv⟩:=s
 cases c<;>first|rfl|cases h
theorem Eo{s:Zs}{sf:SF}{w W:World}(h:zsf s=some sf)(hr:sf.rel w W):Zdn s w W:=by
 obtain⟨n,ks,c,kv⟩:=s
 cases c with
 | one sf' _ _ _ _ =>
  obtain rfl:sf'=sf:=by simpa [zsf] using h
  exact hr
 | _=>cases h
theorem Fa{s:Zs}{sf:SF}(h:zsf s=some sf):Tz s=true:=by
 obtain⟨n,ks,c,kv⟩:=s
 cases c<;>first|rfl|cases h
theorem zst_op{b off:Nat}{v:Value}{cs:List Value}{t:TypeId}(h:zst P s=some (⟨b,off,none⟩,v))(kb:Blk w b cs t)(hoff:off<cs.length)(he:Tz s=true)(k:∀ W,Upd w b W→Blk W b (cs.set off v) t→Zdn s w W∧Go P fn R (znx s undef) W):Go P fn R s w:=by
 obtain⟨o,ho,h⟩:=Vg h
 refine zgo ho he fun K hK=>?_
 split at h
 ·rename_i t x y a0
  split at h
  ·rename_i hs
   split at h
   ·rename_i p hp
    split at h
    ·rename_i h1
     simp only[Option.some.injEq,Prod.mk.injEq] at h
     obtain⟨rfl,rfl⟩:=h
     exact Yh a0 (by rw[Xb];exact hp) (by rw[Xb]) (Zcu hs) h1 kb hoff fun W u kW=>hK _ _ (k W u kW).1 (k W u kW).2
    ·cases h
   ·cases h
  ·cases h
 ·cases h
theorem Zhd{b:Nat}{cs cs':List Value}{t:TypeId}(h:zstc P s cs=some (b,cs'))(kb:Blk w b cs t)(he:Tz s=true)(k:∀ W,Upd w b W→Blk W b cs' t→Zdn s w W∧Go P fn R (znx s undef) W):Go P fn R s w:=by
 unfold zstc at h
 split at h
 ·rename_i b' a0 sp v hp
  cases sp with
  | some _=>cases h
  | none =>
   dsimp only at h
   rw[Tc] at h
   by_cases ho:a0<cs.length
   ·simp only[ho,decide_true,Option.some.injEq,Prod.mk.injEq] at h
    obtain⟨rfl,rfl⟩:=h
    exact zst_op hp kb ho he k
   ·simp[ho] at h
 ·cases h
theorem xs(q:Zq){b:Nat}{cs:List Value}{t:TypeId}(kb:Blk w b cs t)(cs':List Value)(k:∀ W,Upd w b W→Blk W b cs' t→Go P fn R (znx (zq P q s) undef) W)(h:zstc P (zq P q s) cs=some (b,cs'):=by kernel_rfl)(hz:Um (zq P q s)=true:=by kernel_rfl):Go P fn R s w :=
 Zu q s (Zhd h kb (Jj hz) fun W u kW=>⟨Jh hz,k W u kW⟩)
theorem ys(q:Zq){b:Nat}{cs:List Value}{t:TypeId}(kb:Blk w b cs t)(cs':List Value)(sf:SF)(k:∀ W,Upd w b W→Blk W b cs' t→sf.rel w W∧Go P fn R (znx (zq P q s) undef) W)(h:zstc P (zq P q s) cs=some (b,cs'):=by kernel_rfl)(hz:zsf (zq P q s)=some sf:=by kernel_rfl):Go P fn R s w :=
 Zu q s (Zhd h kb (Fa hz) fun W u kW=>⟨Eo hz (k W u kW).1,(k W u kW).2⟩)
theorem xsg(q:Zq){b:Nat}{cs:List Value}{t:TypeId}(kb:Blk w b cs t)(off:Nat)(v:Value)(hoff:off<cs.length)(k:∀ W,Upd w b W→Blk W b (cs.set off v) t→Go P fn R (znx (zq P q s) undef) W)(h:zst P (zq P q s)=some (⟨b,off,none⟩,v):=by kernel_rfl)(hz:Um (zq P q s)=true:=by kernel_rfl):Go P fn R s w :=
 Zu q s (zst_op h kb hoff (Jj hz) fun W u kW=>⟨Jh hz,k W u kW⟩)
theorem ysg(q:Zq){b:Nat}{cs:List Value}{t:TypeId}(kb:Blk w b cs t)(off:Nat)(v:Value)(hoff:off<cs.length)(sf:SF)(k:∀ W,Upd w b W→Blk W b (cs.set off v) t→sf.rel w W∧Go P fn R (znx (zq P q s) undef) W)(h:zst P (zq P q s)=some (⟨b,off,none⟩,v):=by kernel_rfl)(hz:zsf (zq P q s)=some sf:=by kernel_rfl):Go P fn R s w :=
 Zu q s (zst_op h kb hoff (Fa hz) fun W u kW=>⟨Eo hz (k W u kW).1,(k W u kW).2⟩)
theorem zstv_op{b off:Nat}{vs cs:List Value}{t:TypeId}(h:zstv P s=some (⟨b,off,none⟩,vs))(h1:∀ v∈vs,v.oneCell'=true)(kb:Blk w b cs t)(hoff:off+vs.length≤cs.length)(he:Tz s=true)(k:∀ W,Upd w b W→Blk W b (cs.take off++vs++cs.drop (off+vs.length)) t→Zdn s w W∧Go P fn R (znx s undef) W):Go P fn R s w:=by
 obtain⟨o,ho,h⟩:=Vg h
 refine zgo ho he fun K hK=>?_
 split at h
 ·rename_i t x y a0
  split at h
  ·rename_i a1 hv
   split at h
   ·rename_i hs
    split at h
    ·rename_i p hp
     simp only[Option.some.injEq,Prod.mk.injEq] at h
     obtain⟨rfl,rfl⟩:=h
     exact Ig _ a0 (by rw[Xb];exact hp) (by rw[Xb];exact hv) (by rw[Zcu hs];simp) h1 kb hoff fun W u kW=>hK _ _ (k W u kW).1 (k W u kW).2
    ·cases h
   ·cases h
  ·cases h
 ·cases h
theorem Zbs{b:Nat}{cs cs':List Value}{t:TypeId}(h:zstvc P s cs=some (b,cs'))(kb:Blk w b cs t)(he:Tz s=true)(k:∀ W,Upd w b W→Blk W b cs' t→Zdn s w W∧Go P fn R (znx s undef) W):Go P fn R s w:=by
 unfold zstvc at h
 split at h
 ·rename_i b' a0 sp vs hp
  cases sp with
  | some _=>cases h
  | none =>
   dsimp only at h
   split at h
   ·rename_i hc
    simp only[Bool.and_eq_true,List.all_eq_true] at hc
    simp only[Option.some.injEq,Prod.mk.injEq] at h
    obtain⟨rfl,rfl⟩:=h
    exact zstv_op hp hc.1 kb (Nat.le_of_ble_eq_true hc.2) he k
   ·cases h
 ·cases h
theorem xsv(q:Zq){b:Nat}{cs:List Value}{t:TypeId}(kb:Blk w b cs t)(cs':List Value)(k:∀ W,Upd w b W→Blk W b cs' t→Go P fn R (znx (zq P q s) undef) W)(h:zstvc P (zq P q s) cs=some (b,cs'):=by kernel_rfl)(hz:Um (zq P q s)=true:=by kernel_rfl):Go P fn R s w :=
 Zu q s (Zbs h kb (Jj hz) fun W u kW=>⟨Jh hz,k W u kW⟩)
theorem ysv(q:Zq){b:Nat}{cs:List Value}{t:TypeId}(kb:Blk w b cs t)(cs':List Value)(sf:SF)(k:∀ W,Upd w b W→Blk W b cs' t→sf.rel w W∧Go P fn R (znx (zq P q s) undef) W)(h:zstvc P (zq P q s) cs=some (b,cs'):=by kernel_rfl)(hz:zsf (zq P q s)=some sf:=by kernel_rfl):Go P fn R s w :=
 Zu q s (Zbs h kb (Fa hz) fun W u kW=>⟨Eo hz (k W u kW).1,(k W u kW).2⟩)
theorem xsvg(q:Zq){b:Nat}{cs:List Value}{t:TypeId}(kb:Blk w b cs t)(off:Nat)(vs:List Value)(h1:∀ v∈vs,v.oneCell'=true)(hoff:off+vs.length≤cs.length)(k:∀ W,Upd w b W→Blk W b (cs.take off++vs++cs.drop (off+vs.length)) t→Go P fn R (znx (zq P q s) undef) W)(h:zstv P (zq P q s)=some (⟨b,off,none⟩,vs):=by kernel_rfl)(hz:Um (zq P q s)=true:=by kernel_rfl):Go P fn R s w :=
 Zu q s (zstv_op h h1 kb hoff (Jj hz) fun W u kW=>⟨Jh hz,k W u kW⟩)
theorem xa(q:Zq)(cs:List Value)(t:TypeId)(k:∀ b W,New w b cs t W→Go P fn R (znx (zq P q s) (P0 b)) W)(h:zal P (zq P q s)=some (t,cs):=by kernel_rfl)(hz:Tz (zq P q s)=true:=by kernel_rfl):Go P fn R s w:=by
 obtain⟨o,ho,h⟩:=Vg h
 refine Zu q s (zgo ho hz fun K hK=>?_)
 split at h
 ·rename_i t' a0
  split at h
  ·rename_i a1 hc
   simp only[Option.some.injEq,Prod.mk.injEq] at h
   obtain⟨rfl,rfl⟩:=h
   exact Vq _ a0 hc fun b W n=>hK _ _ (Ji _ n.below) (k b W n)
  ·cases h
 ·rename_i t' x a0
  simp only[Option.some.injEq,Prod.mk.injEq] at h
  obtain⟨rfl,rfl⟩:=h
  exact Ry _ a0 (by rw[Xb,Array.toArray_toList]) fun b W n=>hK _ _ (Ji _ n.below) (k b W n)
 ·cases h
theorem xbs(q:Zq)(m:Nat)(cs:List Value)(t:TypeId)(k:∀ b W,New w b cs t W→Go P fn R (znx (zq P q s) (.slice (S1 b) m m)) W)(h:zbs P (zq P q s)=some (m,t,cs):=by kernel_rfl)(hz:Tz (zq P q s)=true:=by kernel_rfl):Go P fn R s w:=by
 obtain⟨o,ho,h⟩:=Vg h
 refine Zu q s (zgo ho hz fun K hK=>?_)
 split at h
 ·rename_i t' m' a0 a1
  split at h
  ·rename_i e a2 hc
   simp only[Option.some.injEq,Prod.mk.injEq] at h
   obtain⟨rfl,rfl,rfl⟩:=h
   exact Qz _ _ a1 (by rw[Xb];exact hc) fun b W n=>hK _ _ (Ji _ n.below) (k b W n)
  ·cases h
 ·cases h
theorem xb0(q:Zq)(e:TypeId)(k:∀ b W,New w b [] e W→Go P fn R (znx (zq P q s) (.slice (S1 b) 0 0)) W)(h:zb0 P (zq P q s)=some e:=by kernel_rfl)(hz:Tz (zq P q s)=true:=by kernel_rfl):Go P fn R s w:=by
 obtain⟨o,ho,h⟩:=Vg h
 refine Zu q s (zgo ho hz fun K hK=>?_)
 split at h
 ·rename_i t m a0 a1
  split at h
  ·rename_i e' hu
   split at h
   ·rename_i hc
    simp only[Option.some.injEq] at h
    subst h
    simp only[Bool.and_eq_true,List.isEmpty_iff] at hc
    obtain⟨⟨h1,h2⟩,h3⟩:=hc
    obtain rfl:m=0:=Nat.eq_of_beq_eq_true h1
    obtain rfl:a0=#[]:=by apply Array.ext';simpa using h2
    exact Fo a1 hu h3 fun b W n=>hK _ _ (Ji _ n.below) (k b W n)
   ·cases h
  ·cases h
 ·cases h
@[reducible] def zret (P:Program) (fn:Func) (R:Ending→World→Prop) (s:Zs) (e:Ending) (W:World):Prop:=match e with
 | .returned v=>Go P fn R (znx s v) W
 | _=>False
@[reducible] def zretd (P:Program) (fn:Func) (R:Ending→World→Prop) (s:Zs) (sf:SF) (w:World) (e:Ending) (W:World):Prop:=match e with
 | .returned v=>sf.rel w W∧Go P fn R (znx s v) W
 | _=>False
theorem Zgt{f:FuncId}{args:Array Value}{post:Ending→World→Prop}(h:zcl s=some (f,args.toList))(he:Tz s=true)(hf:∀ xs w,(callFunc f xs).run P w=.ok (.enter f xs) w)(hc:Calls P f args w post)(k:∀ e W,post e W→∃ v,e=.returned v∧Zdn s w W∧Go P fn R (znx s v) W):Go P fn R s w:=by
 obtain⟨o,ho,h⟩:=Vg h
 refine zgo ho he fun K hK=>?_
 split at h
 ·rename_i c a5
  split at h
  ·rename_i x a0
   split at h
   ·rename_i f' fi lb hx
    split at h
    ·rename_i a4
     simp only[Option.some.injEq,Prod.mk.injEq] at h
     obtain⟨rfl,ha⟩:=h
     obtain⟨a1,a3,a6⟩:=c
     dsimp only at a0 ha
     subst a0
     have a2:fi=#[]:=by apply Array.ext';simpa using a4
     subst a2
     refine Yl (lb:=lb) f' args a5 (by rw[Xb];exact hx) hf ?_ (hc.mono fun e W hp=>?_)
     ·apply Array.ext'
      rw[←ha,Xb]
      simp
     ·obtain⟨v,rfl,hr,hg⟩:=k e W hp
      exact⟨v,rfl,hK _ _ hr hg⟩
    ·cases h
   ·cases h
  ·cases h
 ·cases h
theorem xc(q:Zq){f:FuncId}{args:Array Value}{post:Ending→World→Prop}(hc:Calls P f args w post)(k:∀ e W,post e W→zret P fn R (zq P q s) e W)(h:zcl (zq P q s)=some (f,args.toList):=by kernel_rfl)(hz:Um (zq P q s)=true:=by kernel_rfl)(hf:∀ xs w,(callFunc f xs).run P w=.ok (.enter f xs) w:=by intro _ _;kernel_rfl):Go P fn R s w :=
 Zu q s (Zgt h (Jj hz) hf hc fun e W hp=>by
  have:=k e W hp
  cases e with
  | returned v=>exact⟨v,rfl,Jh hz,this⟩
  | _=>exact this.elim)
theorem yc(q:Zq){f:FuncId}{args:Array Value}{post:Ending→World→Prop}(sf:SF)(hc:Calls P f args w post)(k:∀ e W,post e W→zretd P fn R (zq P q s) sf w e W)(h:zcl (zq P q s)=some (f,args.toList):=by kernel_rfl)(hz:zsf (zq P q s)=some sf:=by kernel_rfl)(hf:∀ xs w,(callFunc f xs).run P w=.ok (.enter f xs) w:=by intro _ _;kernel_rfl):Go P fn R s w :=
 Zu q s (Zgt h (Fa hz) hf hc fun e W hp=>by
  have:=k e W hp
  cases e with
  | returned v=>exact⟨v,rfl,Eo hz this.1,this.2⟩
  | _=>exact this.elim)
theorem xr(q:Zq){f:FuncId}{args:Array Value}{v:Value}(hc:Calls P f args w (Ret v w))(k:∀ W,B3 w W→Go P fn R (znx (zq P q s) v) W)(h:zcl (zq P q s)=some (f,args.toList):=by kernel_rfl)(hz:Tz (zq P q s)=true:=by kernel_rfl)(hf:∀ xs w,(callFunc f xs).run P w=.ok (.enter f xs) w:=by intro _ _;kernel_rfl):Go P fn R s w :=
 Zu q s (Zgt h hz hf hc fun e W hp=>⟨v,hp.1,Ji _ hp.2,k W hp.2⟩)
theorem xq(q:Zq){v v':Value}(e:v'=v)(k:Go P fn R (znx (zq P q s) v) w)(h:zpv P (zq P q s)=some v':=by kernel_rfl):Go P fn R s w:=by
 obtain⟨o,ho,h⟩:=Vg h
 refine Zu q s (Zak ho (fun V _=>?_) k)
 split at h
 ·rename_i v2 hv
  simp only[Option.some.injEq] at h
  subst h e
  rw[Xb]
  exact Jp hv V
 ·cases h
theorem xw(q:Zq)(n:Int)(k:Go P fn R (znx (zq P q s) (V0 n)) w)(h:zpv P (zq P q s)=some (V0 (IntKind.i64.wrap n)):=by kernel_rfl)(hb : -9223372036854775808≤n∧n≤9223372036854775807:=by omega):Go P fn R s w :=
 xq q (congrArg V0 (IntWalk.i64_in n hb)) k h
theorem xwm(q:Zq)(n m:Int)(k:Go P fn R (znx (zq P q s) (V0 m)) w)(h:zpv P (zq P q s)=some (V0 (IntKind.i64.wrap n)):=by kernel_rfl)(hb:(-9223372036854775808≤n∧n≤9223372036854775807)∧n=m:=by omega):Go P fn R s w :=
 xq q (congrArg V0 ((IntWalk.i64_in n hb.1).trans hb.2)) k h
theorem zcd_op{t:Bool}(h:zcd s=some (.bool t))(k:Go P fn R (zth s t) w):Go P fn R s w:=by
 obtain⟨n,ks,c,kv⟩:=s
 cases c with
 | code c =>
  cases c with
  | cond x a b =>
   have hx:zev n kv x=.bool t:=by simpa [zcd] using h
   refine wp_cond (t:=t) (by rw[Xb];exact hx) ?_
   cases t<;>exact k
  | _=>cases h
 | _=>cases h
theorem xi(q:Zq)(t:Bool)(ht:t=true→Go P fn R (zth (zq P q s) true) w)(hf:t=false→Go P fn R (zth (zq P q s) false) w)(h:zcd (zq P q s)=some (.bool t):=by kernel_rfl):Go P fn R s w:=by
 refine Zu q s (zcd_op h ?_)
 cases t
 ·exact hf rfl
 ·exact ht rfl
theorem xid(q:Zq)(p:Prop)[Decidable p](ht:p→Go P fn R (zth (zq P q s) true) w)(hf:¬p→Go P fn R (zth (zq P q s) false) w)(h:zcd (zq P q s)=some (.bool (decide p)):=by kernel_rfl):Go P fn R s w :=
 xi q _ (fun e=>ht (of_decide_eq_true e)) (fun e=>hf (of_decide_eq_false e)) h
theorem xie(q:Zq)(a b:Int)(ht:a=b→Go P fn R (zth (zq P q s) true) w)(hf:a≠b→Go P fn R (zth (zq P q s) false) w)(h:zcd (zq P q s)=some (.bool (a==b)):=by kernel_rfl):Go P fn R s w :=
 xi q _ (fun e=>ht (eq_of_beq e)) (fun e=>hf (Dp e)) h
theorem xin(q:Zq)(a b:Int)(ht:a≠b→Go P fn R (zth (zq P q s) true) w)(hf:a=b→Go P fn R (zth (zq P q s) false) w)(h:zcd (zq P q s)=some (.bool (a != b)):=by kernel_rfl):Go P fn R s w :=
 xi q _ (fun e=>ht (ne_of_bne e)) (fun e=>hf (Ur e)) h
theorem xk(q:Zq){t u:Bool}(e:t=u)(k:Go P fn R (zth (zq P q s) u) w)(h:zcd (zq P q s)=some (.bool t):=by kernel_rfl):Go P fn R s w :=
 Zu q s (zcd_op h (e▸k))
theorem zlk_set(is:List Nat)(v:Value)(kv:List (Nat×Value))(h:is.map (zlk kv)=is.map fun _=>v)(k:Nat):zlk (is.map (fun i=>(i,v))++kv) k=zlk kv k:=by
 induction is with
 | nil=>rfl
 | cons i r ih =>
  simp only[List.map_cons,List.cons.injEq] at h
  rw[List.map_cons,List.cons_append,Mk]
  by_cases e:i=k
  ·subst e;rw[if_pos rfl];exact h.1.symm
  ·rw[if_neg e];exact ih h.2
theorem zset_op{is:List Nat}{t:Bool}(h:is.map (zlk s.kv)=is.map fun _=>Value.bool t)(k:Go P fn R (zset s is t) w):Go P fn R s w:=by
 obtain⟨n,ks,c,kv⟩:=s
 have e:zact n (is.map (fun i=>(i,Value.bool t))++kv)=zact n kv:=by
  unfold zact
  rw[show zlk (is.map (fun i=>(i,Value.bool t))++kv)=zlk kv from funext fun j=>zlk_set is _ kv h j]
 have k':Go P fn R ⟨n,ks,c,is.map (fun i=>(i,Value.bool t))++kv⟩ w:=k
 unfold Go at k' ⊢
 dsimp only at k' ⊢
 rw[e] at k'
 exact k'
theorem xg(q:Zq)(is:List Nat)(t:Bool)(ht:t=true→Go P fn R (zset (zq P q s) is true) w)(hf:t=false→Go P fn R (zset (zq P q s) is false) w)(h:is.map (zlk (zq P q s).kv)=is.map (fun _=>Value.bool t):=by kernel_rfl):Go P fn R s w:=by
 refine Zu q s (zset_op h ?_)
 cases t
 ·exact hf rfl
 ·exact ht rfl
theorem xgk(q:Zq)(is:List Nat){t u:Bool}(e:t=u)(k:Go P fn R (zset (zq P q s) is u) w)(h:is.map (zlk (zq P q s).kv)=is.map (fun _=>Value.bool t):=by kernel_rfl):Go P fn R s w :=
 Zu q s (zset_op h (e▸k))
noncomputable def zputs (i:Nat) (v:Value) (s:Zs):Zs:=match s with
 | ⟨n,ks,c,kv⟩=>⟨n,ks,c,(i,v)::kv⟩
theorem xv1(q:Zq)(i:Nat){v v':Value}(e:v'=v)(k:Go P fn R (zputs i v (zq P q s)) w)(h:zlk (zq P q s).kv i=v':=by kernel_rfl):Go P fn R s w:=by
 refine Zu q s ?_
 revert k h
 generalize zq P q s=s'
 intro k h
 obtain⟨n,ks,c,kv⟩:=s'
 have e2:zact n ((i,v)::kv)=zact n kv:=by
  unfold zact
  rw[show zlk ((i,v)::kv)=zlk kv from funext fun j=>by
   rw[Mk]
   by_cases hj:i=j
   ·subst hj;rw[if_pos rfl,←e];exact h.symm
   ·rw[if_neg hj]]
 have k':Go P fn R ⟨n,ks,c,(i,v)::kv⟩ w:=k
 unfold Go at k' ⊢
 dsimp only at k' ⊢
 rw[e2] at k'
 exact k'
def zrf (tmps:Array Value):ResultVar→Sem Value
 | .tmp t=>pure (tmps.getD t undef)
 | .cell a t=>do loadVar t (←asAddr (tmps.getD a undef))
theorem Zev(fn:Func)(tmps:Array Value):results fn tmps=(do let vs ←fn.results.mapM (zrf tmps);pure (if h:vs.size=1 then vs[0] else .tuple vs)):=by
 unfold results
 congr 1
theorem Zf5(n:Nat)(kv:List (Nat×Value))(P:Program)(w:World):∀ (l:List ResultVar) (vs:List Value),zrl n kv l=some vs→(l.mapM (zrf (zact n kv).tmps)).run P w=.ok vs w
 | [],vs,h=>by cases h;rfl
 | r::l,vs,h=>by
  cases r with
  | cell a t=>cases h
  | tmp t =>
   have h':(match zrl n kv l with|some vs=>some (zget n kv t::vs)|none=>none)=some vs:=h
   split at h'
   ·rename_i a0 hv
    simp only[Option.some.injEq] at h'
    subst h'
    rw[List.mapM_cons]
    simp only[zrf,Sem.run_bind,Sem.run_pure,Result.andThen_ok,Zf5 n kv P w l a0 hv,Nx]
   ·cases h'
theorem Dn{tmps:Array Value}{vs:List Value}(h:(fn.results.toList.mapM (zrf tmps)).run P w=.ok vs w):(results fn tmps).run P w=.ok (zvs vs) w:=by
 rw[Zev]
 have e:fn.results.mapM (zrf tmps)=List.toArray <$> fn.results.toList.mapM (zrf tmps):=by
  rw[←List.mapM_toArray,Array.toArray_toList]
 rw[e]
 simp only[Sem.run_bind,map_eq_pure_bind,h,Result.andThen_ok,Sem.run_pure]
 congr 1
 match vs with
 | []=>rfl
 | [v]=>rfl
 | v::u::r=>simp[zvs]
theorem zfin_go{v:Value}(hf:zfin s=true)(hr:(results fn (zact s.n s.kv).tmps).run P w=.ok v w)(hR:R (.returned v) w):Go P fn R s w:=by
 obtain⟨n,ks,c,kv⟩:=s
 cases ks with
 | cons _ _=>cases hf
 | nil =>
  cases c with
  | ex e =>
   cases e with
   | normal=>exact g_end v rfl hr hR
   | ret=>exact g_ret v rfl hr hR
   | _=>cases hf
  | _=>cases hf
theorem xe(q:Zq)(v:Value)(hR:R (.returned v) w)(h:zres (zq P q s) fn=some v:=by kernel_rfl):Go P fn R s w:=by
 refine Zu q s ?_
 unfold zres at h
 split at h
 ·rename_i hf
  split at h
  ·rename_i vs hv
   simp only[Option.some.injEq] at h
   subst h
   exact zfin_go hf (Dn (Zf5 _ _ _ _ _ _ hv)) hR
  ·cases h
 ·cases h
theorem Td(n:Nat)(kv:List (Nat×Value))(w:World)(cs:List Value)(b:Nat)(t:TypeId)(kb:Blk w b cs t):∀ (l:List ResultVar) (o:Option Nat) (vs:List Value),zrlc P n kv cs l=some (o,vs)→(o=none∨o=some b)→(l.mapM (zrf (zact n kv).tmps)).run P w=.ok vs w
  | [],o,vs,h,_=>by cases h;rfl
  | r :: l, o, vs, h, ho => by
    rw[List.mapM_cons]
    cases r with
    | tmp t =>
      have h':(match zrlc P n kv cs l with|some (o,vs)=>some (o,zget n kv t::vs)|none=>none)=some (o,vs):=h
      split at h'
      · rename_i o' a1 hv
        simp only[Option.some.injEq,Prod.mk.injEq] at h'
        obtain⟨rfl,rfl⟩:=h'
        simp only[zrf,Sem.run_bind,Sem.run_pure,Result.andThen_ok,Td n kv w cs b _ kb l _ a1 hv ho,Nx]
      · cases h'
    | cell k t' =>
      have h':(match zget n kv k with
        | .pointer (some ⟨b,a0,sp⟩)=>match sp with
          | none=>match Nat.beq a0 0&&(zrow P t'&&zsz P t' cs.length) with
            | true=>match zrlc P n kv cs l with
              | some (o,vs)=>match o with
                | none=>some (some b,.agg cs.toArray::vs)
                | some _=>none
              | none=>none
            | false=>none
          | some _=>none
        | _=>none)=some (o,vs):=h
      split at h'
      · rename_i b' a0 sp hb
        cases sp with
        | some _=>cases h'
        | none =>
          dsimp only at h'
          split at h'
          · rename_i hc
            simp only[Bool.and_eq_true] at hc
            split at h'
            · rename_i o' a1 hv
              split at h'
              · simp only[Option.some.injEq,Prod.mk.injEq] at h'
                obtain⟨rfl,rfl⟩:=h'
                obtain rfl:b'=b:=by simpa using ho
                obtain rfl:a0=0:=Nat.eq_of_beq_eq_true hc.1
                have hu:=hc.2.1
                unfold zrow at hu
                split at hu
                · rename_i d hd
                  have hl:=run_loadVar_mid (P:=P) w b' 0 t' cs d kb.whole hd hu (Zcu hc.2.2)
                  have e:(zact n kv).tmps.getD k undef=P0 b':=by rw[Nx];exact hb
                  simp only[zrf,e,asAddr,Sem.run_bind,Sem.run_pure,Result.andThen_ok,hl,Td n kv w cs b' _ kb l none a1 hv (.inl rfl)]
                · cases hu
              · cases h'
            · cases h'
          · cases h'
      · cases h'
theorem xec(q:Zq){b:Nat}{cs:List Value}{t:TypeId}(kb:Blk w b cs t)(v:Value)(hR:R (.returned v) w)(h:zresc P (zq P q s) fn cs=some (b,v):=by kernel_rfl):Go P fn R s w:=by
 refine Zu q s ?_
 unfold zresc at h
 split at h
 ·rename_i hf
  split at h
  ·rename_i o vs hv
   split at h
   ·rename_i b'
    simp only[Option.some.injEq,Prod.mk.injEq] at h
    obtain⟨rfl,rfl⟩:=h
    exact zfin_go hf (Dn (Td _ _ _ _ _ _ kb _ _ _ hv (.inr rfl))) hR
   ·cases h
  ·cases h
 ·cases h
theorem zlk_app(kv' kv:List (Nat×Value))(h:kv'.map (fun p=>zlk kv p.1)=kv'.map Prod.snd)(k:Nat):zlk (kv'++kv) k=zlk kv k:=by
 induction kv' with
 | nil=>rfl
 | cons p r ih =>
  obtain⟨d,v⟩:=p
  simp only[List.map_cons,List.cons.injEq] at h
  rw[List.cons_append,Mk]
  by_cases e:d=k
  ·subst e;rw[if_pos rfl];exact h.1.symm
  ·rw[if_neg e];exact ih h.2
theorem Zcc(n:Nat)(kv' kv:List (Nat×Value))(h:kv'.map (fun p=>zlk kv p.1)=kv'.map Prod.snd):zact n (kv'++kv)=zact n kv:=by
 unfold zact
 rw[show zlk (kv'++kv)=zlk kv from funext fun j=>zlk_app kv' kv h j]
theorem zl(q:Zq)(n:Nat)(I:Nat→List (Nat×Value)→World→Prop){m0:Nat}{kv0:List (Nat×Value)}(h0:I m0 kv0 w)
 (round:∀ m kv V,I m kv V→∀ (J:Act→World→Prop),(∀ m' kv' V',I m' kv' V'→m'<m→∀ rest,J (zact n (kv'++rest)) V')→∀ rest,Go P fn R (zlp (zq P q s) n J (kv++rest)) V)
 (hn:(zq P q s).n=n:=by kernel_rfl) (hl:zisl (zq P q s)=true:=by kernel_rfl) (hk:kv0.map (fun p=>zlk (zq P q s).kv p.1)=kv0.map Prod.snd:=by kernel_rfl):Go P fn R s w:=by
 refine Zu q s ?_
 revert hn hl hk round
 generalize zq P q s=s'
 intro round hn hl hk
 obtain⟨n',ks,c,kv⟩:=s'
 obtain rfl:n'=n:=hn
 cases c with
 | code c =>
  cases c with
  | loop b =>
   refine wp_loop_ghost (fun m a V=>∃ kv' rest,a=zact n' (kv'++rest)∧I m kv' V) m0 ⟨kv0,kv,(Zcc _ _ _ hk).symm,h0⟩ ?_
   rintro m _ V ⟨kv',rest,rfl,hI⟩
   exact round m kv' V hI _ (fun m' a1 V' a3 a2 a0=>⟨m',a2,a1,a0,rfl,a3⟩) rest
  | _=>cases hl
 | _=>cases hl
theorem ze(q:Zq){n:Nat}{J:Act→World→Prop}{kv':List (Nat×Value)}(hJ:∀ rest,J (zact n (kv'++rest)) w)(h:zend (zq P q s)=some J:=by kernel_rfl)(hn:(zq P q s).n=n:=by kernel_rfl)(hk:kv'.map (fun p=>zlk (zq P q s).kv p.1)=kv'.map Prod.snd:=by kernel_rfl):Go P fn R s w:=by
 refine Zu q s ?_
 revert h hn hk
 generalize zq P q s=s'
 intro h hn hk
 obtain⟨n',ks,c,kv⟩:=s'
 obtain rfl:n'=n:=hn
 have a0:=hJ kv
 rw[Zcc _ _ _ hk] at a0
 cases c with
 | ex e =>
  cases e with
  | normal =>
   cases ks with
   | nil=>cases h
   | cons k ks =>
    cases k with
    | jn J' =>
     obtain rfl:J'=J:=by simpa [zend] using h
     exact a0
    | _=>cases h
  | _=>cases h
 | _=>cases h
theorem xu(q:Zq)(m:Nat)(k:Go P fn R (zun (zq P q s) m) w)(hl:zisl (zq P q s)=true:=by kernel_rfl):Go P fn R s w:=by
 refine Zu q s ?_
 revert k hl
 generalize zq P q s=s'
 intro k hl
 obtain⟨n',ks,c,kv⟩:=s'
 cases c with
 | code c =>
  cases c with
  | loop b=>exact wp_loop_rounds (m+1) k
  | _=>cases hl
 | _=>cases hl
theorem xd(q:Zq)(sf:SF)(k:Go P fn R (zdr (zq P q s) sf) w.drew)(hd:zisd (zq P q s)=true:=by kernel_rfl)(hm:P.follows .mixedOrders=true:=by kernel_rfl):Go P fn R s w:=by
 refine Zu q s ?_
 revert k hd
 generalize zq P q s=s'
 intro k hd
 obtain⟨n',ks,c,kv⟩:=s'
 cases c with
 | code c =>
  cases c with
  | region id ops d =>
   have a0:(d&&Region.noSelect ops.toList.toArray)=true:=hd
   simp only[Bool.and_eq_true] at a0
   obtain⟨rfl,hs⟩:=a0
   have k':wpAnyH P .any ops.toList.toArray (KQ P fn R ks) (sf.rel w.drew) ops.toList.length (zL ops.toList.length []) (zact n' kv) w.drew:=k hs
   rw[Array.toArray_toList,←zL_nil,Array.length_toList] at k'
   exact wp_region_held_drew hm (SF.refl _ _) fun _=>k'
  | _=>cases hd
 | _=>cases hd
noncomputable def zoneOf (i:Nat) (s:Zs):Zs:=match s with
 | ⟨n,ks,c,kv⟩=>match c with
  | .any sf all f done=>match f with
   | f'+1=>⟨n,ks,.one sf all f' done i,kv⟩
   | 0=>⟨n,ks,c,kv⟩
  | c=>⟨n,ks,c,kv⟩
noncomputable def zrdy (s:Zs):Option (List Nat):=match s.c with
 | .any _ all f done=>match f with
  | _+1=>some (zready all done)
  | 0=>none
 | _=>none
theorem xm(q:Zq)(is:List Nat)(k:∀ i∈is,Go P fn R (zoneOf i (zq P q s)) w)(h:zrdy (zq P q s)=some is:=by kernel_rfl)(hn:is.isEmpty=false:=by kernel_rfl):Go P fn R s w:=by
 refine Zu q s ?_
 revert h k
 generalize zq P q s=s'
 intro k h
 obtain⟨n',ks,c,kv⟩:=s'
 cases c with
 | any sf all f done =>
  cases f with
  | zero=>cases h
  | succ f =>
   have hr:zready all done=is:=by simpa [zrdy] using h
   intro hs
   refine wpAnyH_all (rs:=is) (by rw[Uy];exact hr) (by rintro rfl;cases hn) fun j hj=>?_
   rw[Zca]
   exact k j hj hs
 | _=>cases h
theorem xm2(q:Zq)(i j:Nat)(hi:Go P fn R (zoneOf i (zq P q s)) w)(hj:Go P fn R (zoneOf j (zq P q s)) w)(h:zrdy (zq P q s)=some [i,j]:=by kernel_rfl):Go P fn R s w :=
 xm q [i,j] (fun k hk=>by rcases List.mem_cons.1 hk with rfl|hk;exact hi;obtain rfl:=List.mem_singleton.1 hk;exact hj) h
theorem xm3(q:Zq)(i j m:Nat)(hi:Go P fn R (zoneOf i (zq P q s)) w)(hj:Go P fn R (zoneOf j (zq P q s)) w)(hm:Go P fn R (zoneOf m (zq P q s)) w)(h:zrdy (zq P q s)=some [i,j,m]:=by kernel_rfl):Go P fn R s w :=
 xm q [i,j,m] (fun k hk=>by rcases List.mem_cons.1 hk with rfl|hk;exact hi;rcases List.mem_cons.1 hk with rfl|hk;exact hj;obtain rfl:=List.mem_singleton.1 hk;exact hm) h
end
/-! ### what is shown of the world in a drawn region -/
theorem Zx{B:Nat}{T:List TypeId}{w W:World}{b:Nat}{cs:List Value}{t:TypeId}(u:Upd w b W)(k:Blk w b cs t)(hb:B≤b)(ht:T.contains t=true):(SF.t B T).rel w W :=
 ⟨u.below (Below.refl _ _) (Nat.le_trans (Nat.min_le_left _ _) hb),Zd.of_upd u k ht⟩
theorem Zt{B:Nat}{T:List TypeId}{w W:World}{base size n:Nat}{e:TypeId}{v:Value}{xs:List Value}(hb:Below B w W)(hg:w.grownBy W v.ownBlock)(hown:w.ownsRow base e size v n xs)(ht:T.contains e=true):(SF.t B T).rel w W :=
 ⟨hb.mono (Nat.min_le_left _ _),Zd.of_grown hg hown ht⟩
theorem Zd.wide{T T':List TypeId}{w W:World}(h:Zd T w W)(hs:T.all (fun t=>T'.contains t)=true:=by decide):Zd T' w W:=fun i cs t fr hk ht=>h i cs t fr hk (by
 cases hc:T.contains t with
 | false=>rfl
 | true =>
  have:=List.all_eq_true.1 hs t (by simpa using hc)
  rw[ht] at this;cases this)
theorem Ki{B:Nat}{T T':List TypeId}{w W:World}(hb:Below B w W)(ho:Zd T w W)(hs:T.all (fun t=>T'.contains t)=true:=by decide):(SF.t B T').rel w W:=⟨hb.mono (Nat.min_le_left _ _),ho.wide hs⟩
theorem Vr{B:Nat}{T:List TypeId}{a w V:World}(h:Below B a w)(hV:(SF.t B T).rel w V)(hB:B≤a.heap.size):Below B a V:=by
 refine h.trans (hV.1.mono ?_)
 have:=h.size
 simp only[Nat.min_def];split<;>omega
theorem Upd.blkT{w W:World}{b b':Nat}{cs cs':List Value}{t t':TypeId}(u:Upd w b W)(k:Blk w b' cs' t')(kb:Blk w b cs t)(ht:t'≠t):Blk W b' cs' t':=u.blk k (by
 rintro rfl
 have h1:w.heap[b']? = some (.cells cs.toArray t (0,0)):=kb
 have h2:w.heap[b']? = some (.cells cs'.toArray t' (0,0)):=k
 rw[h1] at h2
 simp only[Option.some.injEq,Obj.cells.injEq] at h2
 exact ht h2.2.1.symm)
theorem Blk.tne{w:World}{b b':Nat}{cs cs':List Value}{t t':TypeId}(k:Blk w b cs t)(k':Blk w b' cs' t')(ht:t≠t'):b≠b':=by
 rintro rfl
 have h1:w.heap[b]? = some (.cells cs.toArray t (0,0)):=k
 have h2:w.heap[b]? = some (.cells cs'.toArray t' (0,0)):=k'
 rw[h1] at h2
 simp only[Option.some.injEq,Obj.cells.injEq] at h2
 exact ht h2.2.1
/-! ### operations by their kind,with laws that are told of any frame -/
inductive Zk
 | cv (src dst:TypeId) (u:Value)
 | bn (b:BinOp) (t t2:TypeId) (u v:Value)
 | ix (t:TypeId) (u v:Value)
 | sl (t:TypeId) (u:Value) (lo hi mx:Option Value)
 | bi (b:Builtin) (ts:List TypeId) (us:List Value)
 | mk (t:TypeId) (u v:Value)
 | st (t:TypeId) (u v:Value)
def oev (f:Operand→Value)(x:Option Operand):Option Value:=match x with
 | some x=>some (f x)
 | none=>none
noncomputable def zkf (n:Nat) (kv:List (Nat×Value)) (o:Oper):Option Zk:=match o.op with
 | .convert src dst x=>some (.cv src dst (zev n kv x))
 | .binOp b t x y t2=>some (.bn b t t2 (zev n kv x) (zev n kv y))
 | .indexAddr t x y=>some (.ix t (zev n kv x) (zev n kv y))
 | .slice t x lo hi mx=>some (.sl t (zev n kv x) (oev (zev n kv) lo) (oev (zev n kv) hi) (oev (zev n kv) mx))
 | .call c=>match c.callee with
  | .builtin b=>some (.bi b c.argTypes.toList (c.args.toList.map (zev n kv)))
  | _=>none
 | .makeSlice t x y=>some (.mk t (zev n kv x) (zev n kv y))
 | .store t x y=>some (.st t (zev n kv x) (zev n kv y))
 | _=>none
noncomputable def zk (s:Zs):Option Zk:=match zop s with
 | some o=>zkf s.n s.kv o
 | none=>none
def ZkOk(a:Act)(o:Oper):Zk→Prop
 | .cv src dst u=>∃ x,o.op=.convert src dst x∧a.eval x=u
 | .bn b t t2 u v=>∃ x y,o.op=.binOp b t x y t2∧a.eval x=u∧a.eval y=v
 | .ix t u v=>∃ x y,o.op=.indexAddr t x y∧a.eval x=u∧a.eval y=v
 | .sl t u lo hi mx=>∃ x l h m,o.op=.slice t x l h m∧a.eval x=u∧oev a.eval l=lo∧oev a.eval h=hi∧oev a.eval m=mx
 | .bi b ts us=>∃ xs:List Operand,o.op=.call { callee:=.builtin b,args:=xs.toArray,argTypes:=ts.toArray }∧xs.map a.eval=us
 | .mk t u v=>∃ x y,o.op=.makeSlice t x y∧a.eval x=u∧a.eval y=v
 | .st t u v=>∃ x y,o.op=.store t x y∧a.eval x=u∧a.eval y=v
theorem Wg{n:Nat}{kv:List (Nat×Value)}{o:Oper}{k:Zk}(h:zkf n kv o=some k):ZkOk (zact n kv) o k:=by
 unfold zkf at h
 split at h
 ·rename_i a0;cases h;exact⟨_,a0,by rw[Xb]⟩
 ·rename_i a0;cases h;exact⟨_,_,a0,by rw[Xb],by rw[Xb]⟩
 ·rename_i a0;cases h;exact⟨_,_,a0,by rw[Xb],by rw[Xb]⟩
 ·rename_i a0;cases h;exact⟨_,_,_,_,a0,by rw[Xb],by rw[Xb],by rw[Xb],by rw[Xb]⟩
 ·rename_i c a0
  split at h
  ·rename_i b hb
   cases h
   obtain⟨a2,a1,ts⟩:=c
   dsimp only at hb
   subst hb
   exact⟨a1.toList,a0,by rw[Xb]⟩
  ·cases h
 ·rename_i a0;cases h;exact⟨_,_,a0,by rw[Xb],by rw[Xb]⟩
 ·rename_i a0;cases h;exact⟨_,_,a0,by rw[Xb],by rw[Xb]⟩
 ·cases h
theorem Gy{f:Operand→Value}{x:Option Operand}{v:Value}(h:oev f x=some v):∃ y,x=some y∧f y=v:=by
 cases x with
 | none=>cases h
 | some y=>exact⟨y,rfl,by simpa [oev] using h⟩
theorem Np{f:Operand→Value}{x:Option Operand}(h:oev f x=none):x=none:=by
 cases x with
 | none=>rfl
 | some y=>cases h
section
variable {P:Program} {fn:Func} {R:Ending→World→Prop} {w:World} {s:Zs}
theorem zk_val{k:Zk}{v:Value}(h:zk s=some k)(hz:El s=true)(hv:∀ a o,ZkOk a o k→∀ V,B3 w V→(execOp a.eval o).run P V=.ok (.value v) V)(g:Go P fn R (znx s v) w):Go P fn R s w:=by
 obtain⟨o,ho,h⟩:=Vg h
 exact Zak ho (fun V hV=>hv _ o (Wg h) V (Lj hz hV)) g
theorem zk_valt{k:Zk}{v:Value}{sf:SF}(h:zk s=some k)(hz:ztsf s=some sf)(hv:∀ a o,ZkOk a o k→∀ V,sf.rel w V→(execOp a.eval o).run P V=.ok (.value v) V)(g:Go P fn R (znx s v) w):Go P fn R s w:=by
 obtain⟨o,ho,h⟩:=Vg h
 exact Zak ho (fun V hV=>hv _ o (Wg h) V (St hz hV)) g
theorem Zbx{k:Zk}(h:zk s=some k)(hz:Um s=true)(hv:∀ a o K Q,ZkOk a o k→(∀ v W,Go P fn R (znx s v) W→K (a.put o.dst v) W)→o.wp P a w K Q):Go P fn R s w:=by
 obtain⟨o,ho,h⟩:=Vg h
 exact zgo ho (Jj hz) fun K hK=>hv _ o K _ (Wg h) fun v W g=>hK v W (Jh hz) g
theorem Zaq{k:Zk}{sf:SF}(h:zk s=some k)(hz:zsf s=some sf)(hv:∀ a o K Q,ZkOk a o k→(∀ v W,sf.rel w W→Go P fn R (znx s v) W→K (a.put o.dst v) W)→o.wp P a w K Q):Go P fn R s w:=by
 obtain⟨o,ho,h⟩:=Vg h
 exact zgo ho (Fa hz) fun K hK=>hv _ o K _ (Wg h) fun v W hr g=>hK v W (Eo hz hr) g
theorem xcv(q:Zq){src dst:TypeId}{u v:Value}(hv:∀ (a:Act) (o:Oper) (x:Operand),o.op=.convert src dst x→a.eval x=u→∀ V,B3 w V→(execOp a.eval o).run P V=.ok (.value v) V)(g:Go P fn R (znx (zq P q s) v) w)(h:zk (zq P q s)=some (.cv src dst u):=by kernel_rfl)(hz:El (zq P q s)=true:=by kernel_rfl):Go P fn R s w :=
 Zu q s (zk_val h hz (fun a o ⟨x,h1,h2⟩ V hV=>hv a o x h1 h2 V hV) g)
theorem xcvt(q:Zq){src dst:TypeId}{u v:Value}(sf:SF)(hv:∀ (a:Act) (o:Oper) (x:Operand),o.op=.convert src dst x→a.eval x=u→∀ V,sf.rel w V→(execOp a.eval o).run P V=.ok (.value v) V)(g:Go P fn R (znx (zq P q s) v) w)(h:zk (zq P q s)=some (.cv src dst u):=by kernel_rfl)(hz:ztsf (zq P q s)=some sf:=by kernel_rfl):Go P fn R s w :=
 Zu q s (zk_valt h hz (fun a o ⟨x,h1,h2⟩ V hV=>hv a o x h1 h2 V hV) g)
theorem xcf(q:Zq){src dst:TypeId}{u:Value}(hv:∀ (a:Act) (o:Oper) (x:Operand) K Q,o.op=.convert src dst x→a.eval x=u→(∀ v W,Go P fn R (znx (zq P q s) v) W→K (a.put o.dst v) W)→o.wp P a w K Q)(h:zk (zq P q s)=some (.cv src dst u):=by kernel_rfl)(hz:Um (zq P q s)=true:=by kernel_rfl):Go P fn R s w :=
 Zu q s (Zbx h hz fun a o K Q ⟨x,h1,h2⟩ hK=>hv a o x K Q h1 h2 hK)
theorem xbo(q:Zq){b:BinOp}{t t2:TypeId}{u1 u2 v:Value}(hv:∀ (a:Act) (o:Oper) (x y:Operand),o.op=.binOp b t x y t2→a.eval x=u1→a.eval y=u2→∀ V,B3 w V→(execOp a.eval o).run P V=.ok (.value v) V)(g:Go P fn R (znx (zq P q s) v) w)(h:zk (zq P q s)=some (.bn b t t2 u1 u2):=by kernel_rfl)(hz:El (zq P q s)=true:=by kernel_rfl):Go P fn R s w :=
 Zu q s (zk_val h hz (fun a o ⟨x,y,h1,h2,h3⟩ V hV=>hv a o x y h1 h2 h3 V hV) g)
theorem zk_val0{k:Zk}{v:Value}(h:zk s=some k)(hz:Tz s=true)(hv:∀ a o,ZkOk a o k→(execOp a.eval o).run P w=.ok (.value v) w)(g:Go P fn R (znx s v) w):Go P fn R s w:=by
 obtain⟨o,ho,h⟩:=Vg h
 exact Zak ho (fun V hV=>by
  rcases hV with rfl|⟨hV,_⟩
  ·exact hv _ o (Wg h)
  ·rw[hz] at hV;cases hV) g
theorem xcv0(q:Zq){src dst:TypeId}{u v:Value}(hv:∀ (a:Act) (o:Oper) (x:Operand),o.op=.convert src dst x→a.eval x=u→(execOp a.eval o).run P w=.ok (.value v) w)(g:Go P fn R (znx (zq P q s) v) w)(h:zk (zq P q s)=some (.cv src dst u):=by kernel_rfl)(hz:Tz (zq P q s)=true:=by kernel_rfl):Go P fn R s w :=
 Zu q s (zk_val0 h hz (fun a o ⟨x,h1,h2⟩=>hv a o x h1 h2) g)
theorem xia(q:Zq){t:TypeId}{u1 u2 v:Value}(hv:∀ (a:Act) (o:Oper) (x y:Operand),o.op=.indexAddr t x y→a.eval x=u1→a.eval y=u2→∀ V,(execOp a.eval o).run P V=.ok (.value v) V)(g:Go P fn R (znx (zq P q s) v) w)(h:zk (zq P q s)=some (.ix t u1 u2):=by kernel_rfl):Go P fn R s w:=by
 obtain⟨o,ho,h⟩:=Vg h
 obtain⟨x,y,h1,h2,h3⟩:=Wg h
 exact Zu q s (Zak ho (fun V _=>hv _ o x y h1 h2 h3 V) g)
theorem xx(q:Zq)(a:O0)(n k size:Nat)(ha:a.isSome=true)(g:Go P fn R (znx (zq P q s) (.pointer (some (Zz a (k*size))))) w)(h:zix P (zq P q s)=some (a,n,(k:Int),size):=by kernel_rfl)(hk:k<n:=by omega):Go P fn R s w:=by
 obtain⟨o,ho,h⟩:=Vg h
 refine Zu q s (Zak ho (fun V _=>?_) g)
 split at h
 ·rename_i t x y a0
  split at h
  ·rename_i e hu
   split at h
   ·rename_i i hi
    split at h
    ·rename_i a' n' c' hx
     split at h
     ·rename_i ki j hy
      simp only[Option.some.injEq,Prod.mk.injEq] at h
      obtain⟨rfl,rfl,rfl,rfl⟩:=h
      exact Ra a0 (by rw[Xb];exact hx) (by rw[Xb];exact hy) rfl hk ha hu (by rw[hi];rfl) V
     ·cases h
    ·cases h
   ·cases h
  ·cases h
 ·cases h
theorem Ad(b off j:Nat):Zz (some ⟨b,off,none⟩) j=⟨b,off+j,none⟩:=by simp[Zz,Addr.add_mid]
theorem xxb(q:Zq)(b off n k size:Nat)(g:Go P fn R (znx (zq P q s) (.pointer (some ⟨b,off+k*size,none⟩))) w)(h:zix P (zq P q s)=some (some ⟨b,off,none⟩,n,(k:Int),size):=by kernel_rfl)(hk:k<n:=by omega):Go P fn R s w :=
 xx q (some ⟨b,off,none⟩) n k size rfl (by rw[Ad];exact g) h hk
theorem xsL(q:Zq){t:TypeId}{u u1 v:Value}(hv:∀ (a:Act) (o:Oper) (x y:Operand),o.op=.slice t x (some y) none none→a.eval x=u→a.eval y=u1→∀ V,(execOp a.eval o).run P V=.ok (.value v) V)(g:Go P fn R (znx (zq P q s) v) w)(h:zk (zq P q s)=some (.sl t u (some u1) none none):=by kernel_rfl):Go P fn R s w:=by
 obtain⟨o,ho,h⟩:=Vg h
 obtain⟨x,l,hh,m,h1,h2,h3,h4,h5⟩:=Wg h
 obtain⟨y,rfl,hy⟩:=Gy h3
 obtain rfl:=Np h4
 obtain rfl:=Np h5
 exact Zu q s (Zak ho (fun V _=>hv _ o x y h1 h2 hy V) g)
theorem xsH(q:Zq){t:TypeId}{u u1 v:Value}(hv:∀ (a:Act) (o:Oper) (x y:Operand),o.op=.slice t x none (some y) none→a.eval x=u→a.eval y=u1→∀ V,(execOp a.eval o).run P V=.ok (.value v) V)(g:Go P fn R (znx (zq P q s) v) w)(h:zk (zq P q s)=some (.sl t u none (some u1) none):=by kernel_rfl):Go P fn R s w:=by
 obtain⟨o,ho,h⟩:=Vg h
 obtain⟨x,l,hh,m,h1,h2,h3,h4,h5⟩:=Wg h
 obtain⟨y,rfl,hy⟩:=Gy h4
 obtain rfl:=Np h3
 obtain rfl:=Np h5
 exact Zu q s (Zak ho (fun V _=>hv _ o x y h1 h2 hy V) g)
theorem xsB(q:Zq){t:TypeId}{u u1 u2 v:Value}(hv:∀ (a:Act) (o:Oper) (x y z:Operand),o.op=.slice t x (some y) (some z) none→a.eval x=u→a.eval y=u1→a.eval z=u2→∀ V,(execOp a.eval o).run P V=.ok (.value v) V)(g:Go P fn R (znx (zq P q s) v) w)(h:zk (zq P q s)=some (.sl t u (some u1) (some u2) none):=by kernel_rfl):Go P fn R s w:=by
 obtain⟨o,ho,h⟩:=Vg h
 obtain⟨x,l,hh,m,h1,h2,h3,h4,h5⟩:=Wg h
 obtain⟨y,rfl,hy⟩:=Gy h3
 obtain⟨z,rfl,hz⟩:=Gy h4
 obtain rfl:=Np h5
 exact Zu q s (Zak ho (fun V _=>hv _ o x y z h1 h2 hy hz V) g)
theorem xs3(q:Zq){t:TypeId}{u u1 u2 u3 v:Value}(hv:∀ (a:Act) (o:Oper) (x y z m:Operand),o.op=.slice t x (some y) (some z) (some m)→a.eval x=u→a.eval y=u1→a.eval z=u2→a.eval m=u3→∀ V,(execOp a.eval o).run P V=.ok (.value v) V)(g:Go P fn R (znx (zq P q s) v) w)(h:zk (zq P q s)=some (.sl t u (some u1) (some u2) (some u3)):=by kernel_rfl):Go P fn R s w:=by
 obtain⟨o,ho,h⟩:=Vg h
 obtain⟨x,l,hh,m,h1,h2,h3,h4,h5⟩:=Wg h
 obtain⟨y,rfl,hy⟩:=Gy h3
 obtain⟨z,rfl,hz⟩:=Gy h4
 obtain⟨m,rfl,hm⟩:=Gy h5
 exact Zu q s (Zak ho (fun V _=>hv _ o x y z m h1 h2 hy hz hm V) g)
theorem xbi(q:Zq){b:Builtin}{t1 t2:TypeId}{u1 u2:Value}(hv:∀ (a:Act) (o:Oper) (x y:Operand) K Q,o.op=.call { callee:=.builtin b,args:=#[x,y],argTypes:=#[t1,t2] }→a.eval x=u1→a.eval y=u2→(∀ v W,Go P fn R (znx (zq P q s) v) W→K (a.put o.dst v) W)→o.wp P a w K Q)(h:zk (zq P q s)=some (.bi b [t1,t2] [u1,u2]):=by kernel_rfl)(hz:Um (zq P q s)=true:=by kernel_rfl):Go P fn R s w :=
 Zu q s (Zbx h hz fun a o K Q ⟨xs,h1,h2⟩ hK=>by
  obtain⟨x,r,rfl,hx,hr⟩:=List.map_eq_cons_iff.1 h2
  obtain⟨y,r,rfl,hy,hr⟩:=List.map_eq_cons_iff.1 hr
  obtain rfl:=List.map_eq_nil_iff.1 hr
  exact hv a o x y K Q h1 hx hy hK)
theorem ybi(q:Zq){b:Builtin}{t1 t2:TypeId}{u1 u2:Value}(sf:SF)(hv:∀ (a:Act) (o:Oper) (x y:Operand) K Q,o.op=.call { callee:=.builtin b,args:=#[x,y],argTypes:=#[t1,t2] }→a.eval x=u1→a.eval y=u2→(∀ v W,sf.rel w W→Go P fn R (znx (zq P q s) v) W→K (a.put o.dst v) W)→o.wp P a w K Q)(h:zk (zq P q s)=some (.bi b [t1,t2] [u1,u2]):=by kernel_rfl)(hz:zsf (zq P q s)=some sf:=by kernel_rfl):Go P fn R s w :=
 Zu q s (Zaq h hz fun a o K Q ⟨xs,h1,h2⟩ hK=>by
  obtain⟨x,r,rfl,hx,hr⟩:=List.map_eq_cons_iff.1 h2
  obtain⟨y,r,rfl,hy,hr⟩:=List.map_eq_cons_iff.1 hr
  obtain rfl:=List.map_eq_nil_iff.1 hr
  exact hv a o x y K Q h1 hx hy hK)
theorem xmk(q:Zq){t:TypeId}{u1 u2:Value}(hv:∀ (a:Act) (o:Oper) (x y:Operand) K Q,o.op=.makeSlice t x y→a.eval x=u1→a.eval y=u2→(∀ v W,Go P fn R (znx (zq P q s) v) W→K (a.put o.dst v) W)→o.wp P a w K Q)(h:zk (zq P q s)=some (.mk t u1 u2):=by kernel_rfl)(hz:Um (zq P q s)=true:=by kernel_rfl):Go P fn R s w :=
 Zu q s (Zbx h hz fun a o K Q ⟨x,y,h1,h2,h3⟩ hK=>hv a o x y K Q h1 h2 h3 hK)
theorem ymk(q:Zq){t:TypeId}{u1 u2:Value}(sf:SF)(hv:∀ (a:Act) (o:Oper) (x y:Operand) K Q,o.op=.makeSlice t x y→a.eval x=u1→a.eval y=u2→(∀ v W,sf.rel w W→Go P fn R (znx (zq P q s) v) W→K (a.put o.dst v) W)→o.wp P a w K Q)(h:zk (zq P q s)=some (.mk t u1 u2):=by kernel_rfl)(hz:zsf (zq P q s)=some sf:=by kernel_rfl):Go P fn R s w :=
 Zu q s (Zaq h hz fun a o K Q ⟨x,y,h1,h2,h3⟩ hK=>hv a o x y K Q h1 h2 h3 hK)
theorem xst(q:Zq){t:TypeId}{u1 u2:Value}(hv:∀ (a:Act) (o:Oper) (x y:Operand) K Q,o.op=.store t x y→a.eval x=u1→a.eval y=u2→(∀ v W,Go P fn R (znx (zq P q s) v) W→K (a.put o.dst v) W)→o.wp P a w K Q)(h:zk (zq P q s)=some (.st t u1 u2):=by kernel_rfl)(hz:Um (zq P q s)=true:=by kernel_rfl):Go P fn R s w :=
 Zu q s (Zbx h hz fun a o K Q ⟨x,y,h1,h2,h3⟩ hK=>hv a o x y K Q h1 h2 h3 hK)
theorem yst(q:Zq){t:TypeId}{u1 u2:Value}(sf:SF)(hv:∀ (a:Act) (o:Oper) (x y:Operand) K Q,o.op=.store t x y→a.eval x=u1→a.eval y=u2→(∀ v W,sf.rel w W→Go P fn R (znx (zq P q s) v) W→K (a.put o.dst v) W)→o.wp P a w K Q)(h:zk (zq P q s)=some (.st t u1 u2):=by kernel_rfl)(hz:zsf (zq P q s)=some sf:=by kernel_rfl):Go P fn R s w :=
 Zu q s (Zaq h hz fun a o K Q ⟨x,y,h1,h2,h3⟩ hK=>hv a o x y K Q h1 h2 h3 hK)
end
end Go.Proofs.YtegcamkgeacjfaaGreatDoor
namespace Go.Proofs.YtegcamkgeacjfaaGreatDoor
set_option maxHeartbeats 8000000
set_option maxRecDepth 100000
open Go.RowKit Go.Extern.Stop Go.Stop Go.Extern
set_option linter.unusedVariables false
attribute [local irreducible] wpList wpAnyH Code.wp Oper.wp Go
def bv (x:UInt8):Value:=.int .u8 (x.toNat:Int)
def Bys (w:World)(v:Value)(l:Bl):Prop:=Sl w v l.length (l.map bv)
theorem Bys.below{w w':World}{v:Value}{l:Bl}(h:Bys w v l)(hb:B3 w w'):Bys w' v l:=Sl.below h hb
def Pe(base:Nat)(w:World)(v:Value)(l:Bl):Prop:=w.ownsRow base 5 1 v l.length (l.map bv)
theorem Pe.bys{base:Nat}{w:World}{v:Value}{l:Bl}(h:Pe base w v l):Bys w v l:=Zf h
theorem Xs(l:Bl):∀ u∈l.map bv,u.oneCell'=true:=by
 intro u hu
 obtain⟨x,_,rfl⟩:=List.mem_map.1 hu
 rfl
theorem Zc2(p:Addr)(c:Nat)(l:Bl)(w:World)(h:Bys w (.slice (some p) l.length c) l)(hl:l.length≤100000000) :
 C0 44 #[.slice (some p) l.length c] w (Qn (fun w' r=>Pe w.heap.size w' r l) w):=by
 refine zin 8 Tryz.func44 ?_
 refine xb0 17 5 fun b1 W1 n1=>?_
 have o1:=Zw (size:=1) (n:=0) n1.blk (n1.ge (B4 w)) rfl (by decide)
 refine xbi 1 fun _ _ _ _ zJ zQ zo zx zy zK=>Zn (m:=l.length) (news:=l.map bv) (.int .u8 0) 1 1 (l.length) (l.map bv) zo Tryz.underlying40 (by kernel_rfl) rfl (by decide) zx o1 zy (h.below n1.below) (by simp) (Xs l) (by unfold maxLen;omega) (by omega) n1.below.size (by simp) (by simp) fun a1 a3 W2 o2 a4 a2=>?_
 refine zK _ _ ?_
 have a0:=n1.below.trans a2
 exact xe 4 (.slice a1 l.length a3) ⟨_,rfl,a0,o2⟩
theorem clone_nil(c:Nat)(w:World) :
 C0 44 #[.slice none 0 c] w (Qn (fun w' r=>Pe w.heap.size w' r []) w):=by
 refine zin 8 Tryz.func44 ?_
 exact xe 20 (S0) ⟨_,rfl,(B4 w),World.ownsRow_nil _ _ _ _⟩
theorem Nc(a:O0)(c:Nat)(l:Bl)(w:World)(h:Bys w (.slice a l.length c) l)(hl:l.length≤100000000) :
 C0 44 #[.slice a l.length c] w (Qn (fun w' r=>Pe w.heap.size w' r l) w):=by
 cases a with
 | some p=>exact Zc2 p c l w h hl
 | none =>
  rcases Sl.at h with hn|⟨_,_,h1,_⟩
  ·obtain rfl:l=[]:=by simpa using hn
   exact clone_nil c w
  ·cases h1
theorem Qt(a:O0)(n c:Nat)(l:Bl)(w:World)(hn:l.length=n)(h:Bys w (.slice a n c) l)(hl:n≤100000000) :
 C0 44 #[.slice a n c] w (Qn (fun w' r=>Pe w.heap.size w' r l) w):=by
 subst hn;exact Nc a c l w h hl
theorem Blk.bys{w:World}{b:Nat}{cs:List Value}{t:TypeId}(k:Blk w b cs t)(l:Bl)(n c:Nat)(hn:l.length=n)(h:cs.take n=l.map bv)(hc:n≤c)(hm:c≤maxLen):Bys w (.slice (S1 b) n c) l :=
 .inr ⟨b,0,c,by rw[hn],by omega,hm,fun j x hj=>by
  rw[Nat.zero_add]
  refine k.cell ?_
  rw[←h] at hj
  have a0:j<n:=by have:=(List.getElem?_eq_some_iff.1 hj).1;simp at this;omega
  rwa [List.getElem?_take_of_lt a0] at hj⟩
def Zp(n:Int)(i:Nat):UInt8:=UInt8.ofNat (n.toNat/256 ^ i)
def leB (n:Int)(w:Nat):Bl:=(List.range w).map (Zp n)
theorem Zh(n:Int)(w:Nat):(leB n w).length=w:=by simp[leB]
theorem Vn{n:Int}(h:0≤n)(i:Nat):IntKind.u8.wrap (Int.fdiv n (2 ^ (8*i)))=((Zp n i).toNat:Int):=by
 obtain⟨m,rfl⟩:=Int.eq_ofNat_of_zero_le h
 have e:(2:Int) ^ (8*i)=((256 ^ i:Nat):Int):=by rw[Int.pow_mul];simp
 rw[e,show Int.fdiv ((m:Nat):Int) ((256 ^ i:Nat):Int)=((m/256 ^ i:Nat):Int) from by rw[Int.fdiv_eq_ediv_of_nonneg _ (Int.natCast_nonneg _)];simp]
 simp[IntKind.wrap,Zp,IntKind.bits,IntKind.signed]
theorem Nv{n:Int}(h:0≤n):IntKind.u8.wrap n=((Zp n 0).toNat:Int):=by
 have:=Vn h 0
 simpa using this
def Vc(l:Bl)(k:Nat)(x:Bl):Bl:=l.take k++x++l.drop (k+x.length)
theorem Pe.some{base:Nat}{w:World}{v:Value}{l:Bl}(h:Pe base w v l)(hl:0<l.length):∃ g cap,v=.slice (S1 g) l.length cap∧l.length≤cap:=by
 rcases h.2 with ⟨_,h0⟩|⟨g,cap,a0,hv,_,_,hc,_⟩
 ·omega
 ·exact⟨g,cap,hv,hc⟩
theorem Zaf(w:World) :
 C0 238 #[V0 1] w (Ret (.bool true) w):=by
 refine zin 17 Tryz.func238 ?_
 exact xe 25 (.bool true) ⟨rfl,(B4 w)⟩
theorem fits_1(n:Int)(h0:0≤n)(hb:n<256)(w:World) :
 C0 239 #[V0 n,V0 1] w (Ret (.bool true) w):=by
 refine zin 20 Tryz.func239 ?_
 refine xk 12 (show(decide (n<(0:Int)):Bool)=false from decide_eq_false (by omega)) ?_
 exact xe 26 (.bool (decide (n<(256:Int)))) ⟨by rw[decide_eq_true hb],(B4 w)⟩
theorem there_1(a:O0)(m c k:Nat)(hk:k+1≤m)(hm:m≤100000000)(w:World) :
 C0 215 #[.slice a m c,V0 (k:Int),V0 1] w (Ret (V0 0) w):=by
 refine zin 28 Tryz.func215 ?_
 refine xr 10 (args:=#[V0 1]) (Zaf _) fun W1 a0=>?_
 refine xgk 10 [13,14] (show(decide ((k:Int)<(0:Int)):Bool)=false from decide_eq_false (by omega)) ?_
 refine xgk 6 [18,19,20] (show(decide ((k:Int)>(m:Int)):Bool)=false from decide_eq_false (by omega)) ?_
 refine xw 3 ((m:Int)-(k:Int)) ?_
 refine xk 6 (show(decide ((m:Int)-(k:Int)<(1:Int)):Bool)=false from decide_eq_false (by omega)) ?_
 exact xe 9 (V0 0) ⟨rfl,a0⟩
theorem Zgw(n:Int)(h0:0≤n)(w:World) :
 C0 240 #[V0 n,V0 1] w (Qn (fun w' r=>Pe w.heap.size w' r (leB n 1)) w):=by
 refine zin 43 Tryz.func240 ?_
 refine xa 7 [.int .u8 0,.int .u8 0,.int .u8 0,.int .u8 0,.int .u8 0,.int .u8 0,.int .u8 0,.int .u8 0] 391 fun b1 W1 n1=>?_
 refine xq 59 (congrArg (Value.int .u8) (show(IntKind.u8.wrap n:Int)=(↑(Zp n 0).toNat:Int) from Nv h0)) ?_
 refine xs 1 n1.blk [.int .u8 (↑(Zp n 0).toNat:Int),.int .u8 0,.int .u8 0,.int .u8 0,.int .u8 0,.int .u8 0,.int .u8 0,.int .u8 0] fun W2 u2 k2=>?_
 have g1:=n1.ge (B4 w)
 refine xc 9 (args:=#[.slice (S1 b1) 1 8]) (Qt (S1 b1) 1 8 (leB n 1) _ rfl (k2.bys (leB n 1) 1 8 rfl rfl (by decide) (by decide)) (by decide)) ?_
 rintro _ W3 ⟨r,rfl,a1,ho⟩
 have a2:=(u2.below n1.below g1).size
 have hB:=bln (u2.below n1.below g1) a1
 have a0:=Ze ho a2
 exact xe 4 r ⟨_,rfl,hB,a0⟩
theorem Si(w:World) :
 C0 238 #[V0 2] w (Ret (.bool true) w):=by
 refine zin 17 Tryz.func238 ?_
 exact xe 25 (.bool true) ⟨rfl,(B4 w)⟩
theorem Zby(n:Int)(h0:0≤n)(hb:n<65536)(w:World) :
 C0 239 #[V0 n,V0 2] w (Ret (.bool true) w):=by
 refine zin 20 Tryz.func239 ?_
 refine xk 12 (show(decide (n<(0:Int)):Bool)=false from decide_eq_false (by omega)) ?_
 exact xe 33 (.bool (decide (n<(65536:Int)))) ⟨by rw[decide_eq_true hb],(B4 w)⟩
theorem Zg3(a:O0)(m c k:Nat)(hk:k+2≤m)(hm:m≤100000000)(w:World) :
 C0 215 #[.slice a m c,V0 (k:Int),V0 2] w (Ret (V0 0) w):=by
 refine zin 28 Tryz.func215 ?_
 refine xr 10 (args:=#[V0 2]) (Si _) fun W1 a0=>?_
 refine xgk 10 [13,14] (show(decide ((k:Int)<(0:Int)):Bool)=false from decide_eq_false (by omega)) ?_
 refine xgk 6 [18,19,20] (show(decide ((k:Int)>(m:Int)):Bool)=false from decide_eq_false (by omega)) ?_
 refine xw 3 ((m:Int)-(k:Int)) ?_
 refine xk 6 (show(decide ((m:Int)-(k:Int)<(2:Int)):Bool)=false from decide_eq_false (by omega)) ?_
 exact xe 9 (V0 0) ⟨rfl,a0⟩
theorem Tk(n:Int)(h0:0≤n)(w:World) :
 C0 240 #[V0 n,V0 2] w (Qn (fun w' r=>Pe w.heap.size w' r (leB n 2)) w):=by
 refine zin 43 Tryz.func240 ?_
 refine xa 7 [.int .u8 0,.int .u8 0,.int .u8 0,.int .u8 0,.int .u8 0,.int .u8 0,.int .u8 0,.int .u8 0] 391 fun b1 W1 n1=>?_
 refine xq 56 (congrArg (Value.int .u8) (show(IntKind.u8.wrap (Int.fdiv n (2 ^ 8)):Int)=(↑(Zp n 1).toNat:Int) from Vn h0 1)) ?_
 refine xs 1 n1.blk [.int .u8 0,.int .u8 (↑(Zp n 1).toNat:Int),.int .u8 0,.int .u8 0,.int .u8 0,.int .u8 0,.int .u8 0,.int .u8 0] fun W2 u2 k2=>?_
 have g1:=n1.ge (B4 w)
 refine xq 6 (congrArg (Value.int .u8) (show(IntKind.u8.wrap n:Int)=(↑(Zp n 0).toNat:Int) from Nv h0)) ?_
 refine xs 1 k2 [.int .u8 (↑(Zp n 0).toNat:Int),.int .u8 (↑(Zp n 1).toNat:Int),.int .u8 0,.int .u8 0,.int .u8 0,.int .u8 0,.int .u8 0,.int .u8 0] fun W3 u3 k3=>?_
 refine xc 9 (args:=#[.slice (S1 b1) 2 8]) (Qt (S1 b1) 2 8 (leB n 2) _ rfl (k3.bys (leB n 2) 2 8 rfl rfl (by decide) (by decide)) (by decide)) ?_
 rintro _ W4 ⟨r,rfl,a1,ho⟩
 have a2:=(u3.below (u2.below n1.below g1) g1).size
 have hB:=bln (u3.below (u2.below n1.below g1) g1) a1
 have a0:=Ze ho a2
 exact xe 4 r ⟨_,rfl,hB,a0⟩
theorem Sc(w:World) :
 C0 238 #[V0 4] w (Ret (.bool true) w):=by
 refine zin 17 Tryz.func238 ?_
 exact xe 25 (.bool true) ⟨rfl,(B4 w)⟩
theorem Zcb(n:Int)(h0:0≤n)(hb:n<4294967296)(w:World) :
 C0 239 #[V0 n,V0 4] w (Ret (.bool true) w):=by
 refine zin 20 Tryz.func239 ?_
 refine xk 12 (show(decide (n<(0:Int)):Bool)=false from decide_eq_false (by omega)) ?_
 exact xe 40 (.bool (decide (n<(4294967296:Int)))) ⟨by rw[decide_eq_true hb],(B4 w)⟩
theorem there_4(a:O0)(m c k:Nat)(hk:k+4≤m)(hm:m≤100000000)(w:World) :
 C0 215 #[.slice a m c,V0 (k:Int),V0 4] w (Ret (V0 0) w):=by
 refine zin 28 Tryz.func215 ?_
 refine xr 10 (args:=#[V0 4]) (Sc _) fun W1 a0=>?_
 refine xgk 10 [13,14] (show(decide ((k:Int)<(0:Int)):Bool)=false from decide_eq_false (by omega)) ?_
 refine xgk 6 [18,19,20] (show(decide ((k:Int)>(m:Int)):Bool)=false from decide_eq_false (by omega)) ?_
 refine xw 3 ((m:Int)-(k:Int)) ?_
 refine xk 6 (show(decide ((m:Int)-(k:Int)<(4:Int)):Bool)=false from decide_eq_false (by omega)) ?_
 exact xe 9 (V0 0) ⟨rfl,a0⟩
theorem Ta(n:Int)(h0:0≤n)(w:World) :
 C0 240 #[V0 n,V0 4] w (Qn (fun w' r=>Pe w.heap.size w' r (leB n 4)) w):=by
 refine zin 43 Tryz.func240 ?_
 refine xa 7 [.int .u8 0,.int .u8 0,.int .u8 0,.int .u8 0,.int .u8 0,.int .u8 0,.int .u8 0,.int .u8 0] 391 fun b1 W1 n1=>?_
 refine xq 46 (congrArg (Value.int .u8) (show(IntKind.u8.wrap (Int.fdiv n (2 ^ 24)):Int)=(↑(Zp n 3).toNat:Int) from Vn h0 3)) ?_
 refine xq 2 (congrArg (Value.int .u8) (show(IntKind.u8.wrap (Int.fdiv n (2 ^ 16)):Int)=(↑(Zp n 2).toNat:Int) from Vn h0 2)) ?_
 refine xs 1 n1.blk [.int .u8 0,.int .u8 0,.int .u8 0,.int .u8 (↑(Zp n 3).toNat:Int),.int .u8 0,.int .u8 0,.int .u8 0,.int .u8 0] fun W2 u2 k2=>?_
 have g1:=n1.ge (B4 w)
 refine xs 1 k2 [.int .u8 0,.int .u8 0,.int .u8 (↑(Zp n 2).toNat:Int),.int .u8 (↑(Zp n 3).toNat:Int),.int .u8 0,.int .u8 0,.int .u8 0,.int .u8 0] fun W3 u3 k3=>?_
 refine xq 6 (congrArg (Value.int .u8) (show(IntKind.u8.wrap (Int.fdiv n (2 ^ 8)):Int)=(↑(Zp n 1).toNat:Int) from Vn h0 1)) ?_
 refine xs 1 k3 [.int .u8 0,.int .u8 (↑(Zp n 1).toNat:Int),.int .u8 (↑(Zp n 2).toNat:Int),.int .u8 (↑(Zp n 3).toNat:Int),.int .u8 0,.int .u8 0,.int .u8 0,.int .u8 0] fun W4 u4 k4=>?_
 refine xq 6 (congrArg (Value.int .u8) (show(IntKind.u8.wrap n:Int)=(↑(Zp n 0).toNat:Int) from Nv h0)) ?_
 refine xs 1 k4 [.int .u8 (↑(Zp n 0).toNat:Int),.int .u8 (↑(Zp n 1).toNat:Int),.int .u8 (↑(Zp n 2).toNat:Int),.int .u8 (↑(Zp n 3).toNat:Int),.int .u8 0,.int .u8 0,.int .u8 0,.int .u8 0] fun W5 u5 k5=>?_
 refine xc 9 (args:=#[.slice (S1 b1) 4 8]) (Qt (S1 b1) 4 8 (leB n 4) _ rfl (k5.bys (leB n 4) 4 8 rfl rfl (by decide) (by decide)) (by decide)) ?_
 rintro _ W6 ⟨r,rfl,a2,ho⟩
 have a1:=(u5.below (u4.below (u3.below (u2.below n1.below g1) g1) g1) g1).size
 have hB:=bln (u5.below (u4.below (u3.below (u2.below n1.below g1) g1) g1) g1) a2
 have a0:=Ze ho a1
 exact xe 4 r ⟨_,rfl,hB,a0⟩
theorem known_8(w:World) :
 C0 238 #[V0 8] w (Ret (.bool true) w):=by
 refine zin 17 Tryz.func238 ?_
 exact xe 25 (.bool true) ⟨rfl,(B4 w)⟩
theorem fits_8(n:Int)(h0:0≤n)(w:World) :
 C0 239 #[V0 n,V0 8] w (Ret (.bool true) w):=by
 refine zin 20 Tryz.func239 ?_
 refine xk 12 (show(decide (n<(0:Int)):Bool)=false from decide_eq_false (by omega)) ?_
 exact xe 39 (.bool true) ⟨by rfl,(B4 w)⟩
theorem there_8(a:O0)(m c k:Nat)(hk:k+8≤m)(hm:m≤100000000)(w:World) :
 C0 215 #[.slice a m c,V0 (k:Int),V0 8] w (Ret (V0 0) w):=by
 refine zin 28 Tryz.func215 ?_
 refine xr 10 (args:=#[V0 8]) (known_8 _) fun W1 a0=>?_
 refine xgk 10 [13,14] (show(decide ((k:Int)<(0:Int)):Bool)=false from decide_eq_false (by omega)) ?_
 refine xgk 6 [18,19,20] (show(decide ((k:Int)>(m:Int)):Bool)=false from decide_eq_false (by omega)) ?_
 refine xw 3 ((m:Int)-(k:Int)) ?_
 refine xk 6 (show(decide ((m:Int)-(k:Int)<(8:Int)):Bool)=false from decide_eq_false (by omega)) ?_
 exact xe 9 (V0 0) ⟨rfl,a0⟩
theorem bytes_8(n:Int)(h0:0≤n)(w:World) :
 C0 240 #[V0 n,V0 8] w (Qn (fun w' r=>Pe w.heap.size w' r (leB n 8)) w):=by
 refine zin 43 Tryz.func240 ?_
 refine xa 7 [.int .u8 0,.int .u8 0,.int .u8 0,.int .u8 0,.int .u8 0,.int .u8 0,.int .u8 0,.int .u8 0] 391 fun b1 W1 n1=>?_
 refine xu 37 6 ?_
 refine xq 18 (congrArg (Value.int .u8) (show(IntKind.u8.wrap (Int.fdiv n (2 ^ 32)):Int)=(↑(Zp n 4).toNat:Int) from Vn h0 4)) ?_
 refine xs 1 n1.blk [.int .u8 0,.int .u8 0,.int .u8 0,.int .u8 0,.int .u8 (↑(Zp n 4).toNat:Int),.int .u8 0,.int .u8 0,.int .u8 0] fun W2 u2 k2=>?_
 have g1:=n1.ge (B4 w)
 refine xq 27 (congrArg (Value.int .u8) (show(IntKind.u8.wrap (Int.fdiv n (2 ^ 40)):Int)=(↑(Zp n 5).toNat:Int) from Vn h0 5)) ?_
 refine xs 1 k2 [.int .u8 0,.int .u8 0,.int .u8 0,.int .u8 0,.int .u8 (↑(Zp n 4).toNat:Int),.int .u8 (↑(Zp n 5).toNat:Int),.int .u8 0,.int .u8 0] fun W3 u3 k3=>?_
 refine xq 27 (congrArg (Value.int .u8) (show(IntKind.u8.wrap (Int.fdiv n (2 ^ 48)):Int)=(↑(Zp n 6).toNat:Int) from Vn h0 6)) ?_
 refine xs 1 k3 [.int .u8 0,.int .u8 0,.int .u8 0,.int .u8 0,.int .u8 (↑(Zp n 4).toNat:Int),.int .u8 (↑(Zp n 5).toNat:Int),.int .u8 (↑(Zp n 6).toNat:Int),.int .u8 0] fun W4 u4 k4=>?_
 refine xq 27 (congrArg (Value.int .u8) (show(IntKind.u8.wrap (Int.fdiv n (2 ^ 56)):Int)=(↑(Zp n 7).toNat:Int) from Vn h0 7)) ?_
 refine xs 1 k4 [.int .u8 0,.int .u8 0,.int .u8 0,.int .u8 0,.int .u8 (↑(Zp n 4).toNat:Int),.int .u8 (↑(Zp n 5).toNat:Int),.int .u8 (↑(Zp n 6).toNat:Int),.int .u8 (↑(Zp n 7).toNat:Int)] fun W5 u5 k5=>?_
 refine xq 26 (congrArg (Value.int .u8) (show(IntKind.u8.wrap (Int.fdiv n (2 ^ 24)):Int)=(↑(Zp n 3).toNat:Int) from Vn h0 3)) ?_
 refine xq 2 (congrArg (Value.int .u8) (show(IntKind.u8.wrap (Int.fdiv n (2 ^ 16)):Int)=(↑(Zp n 2).toNat:Int) from Vn h0 2)) ?_
 refine xs 1 k5 [.int .u8 0,.int .u8 0,.int .u8 0,.int .u8 (↑(Zp n 3).toNat:Int),.int .u8 (↑(Zp n 4).toNat:Int),.int .u8 (↑(Zp n 5).toNat:Int),.int .u8 (↑(Zp n 6).toNat:Int),.int .u8 (↑(Zp n 7).toNat:Int)] fun W6 u6 k6=>?_
 refine xs 1 k6 [.int .u8 0,.int .u8 0,.int .u8 (↑(Zp n 2).toNat:Int),.int .u8 (↑(Zp n 3).toNat:Int),.int .u8 (↑(Zp n 4).toNat:Int),.int .u8 (↑(Zp n 5).toNat:Int),.int .u8 (↑(Zp n 6).toNat:Int),.int .u8 (↑(Zp n 7).toNat:Int)] fun W7 u7 k7=>?_
 refine xq 6 (congrArg (Value.int .u8) (show(IntKind.u8.wrap (Int.fdiv n (2 ^ 8)):Int)=(↑(Zp n 1).toNat:Int) from Vn h0 1)) ?_
 refine xs 1 k7 [.int .u8 0,.int .u8 (↑(Zp n 1).toNat:Int),.int .u8 (↑(Zp n 2).toNat:Int),.int .u8 (↑(Zp n 3).toNat:Int),.int .u8 (↑(Zp n 4).toNat:Int),.int .u8 (↑(Zp n 5).toNat:Int),.int .u8 (↑(Zp n 6).toNat:Int),.int .u8 (↑(Zp n 7).toNat:Int)] fun W8 u8 k8=>?_
 refine xq 6 (congrArg (Value.int .u8) (show(IntKind.u8.wrap n:Int)=(↑(Zp n 0).toNat:Int) from Nv h0)) ?_
 refine xs 1 k8 [.int .u8 (↑(Zp n 0).toNat:Int),.int .u8 (↑(Zp n 1).toNat:Int),.int .u8 (↑(Zp n 2).toNat:Int),.int .u8 (↑(Zp n 3).toNat:Int),.int .u8 (↑(Zp n 4).toNat:Int),.int .u8 (↑(Zp n 5).toNat:Int),.int .u8 (↑(Zp n 6).toNat:Int),.int .u8 (↑(Zp n 7).toNat:Int)] fun W9 u9 k9=>?_
 refine xc 9 (args:=#[.slice (S1 b1) 8 8]) (Qt (S1 b1) 8 8 (leB n 8) _ rfl (k9.bys (leB n 8) 8 8 rfl rfl (by decide) (by decide)) (by decide)) ?_
 rintro _ a3 ⟨r,rfl,a1,ho⟩
 have a0:=(u9.below (u8.below (u7.below (u6.below (u5.below (u4.below (u3.below (u2.below n1.below g1) g1) g1) g1) g1) g1) g1) g1).size
 have hB:=bln (u9.below (u8.below (u7.below (u6.below (u5.below (u4.below (u3.below (u2.below n1.below g1) g1) g1) g1) g1) g1) g1) g1) a1
 have a2:=Ze ho a0
 exact xe 4 r ⟨_,rfl,hB,a2⟩
theorem Put_2(a:O0)(c k:Nat)(l:Bl)(n:Int)(w:World)(h:Bys w (.slice a l.length c) l)(hl:l.length≤100000)(hk:k+2≤l.length)(h0:0≤n)(hb:n<65536) :
 C0 241 #[.slice a l.length c,V0 (k:Int),V0 2,V0 n] w (Qn (fun w' r=>∃ v,r=.tuple #[v,V0 0]∧Pe w.heap.size w' v (Vc l k (leB n 2))) w):=by
 refine zin 33 Tryz.func241 ?_
 refine xr 12 (args:=#[.slice a l.length c,V0 (k:Int),V0 2]) (Zg3 a l.length c k hk (by omega) _) fun W1 a8=>?_
 refine xr 17 (args:=#[V0 n,V0 2]) (Zby n h0 hb _) fun W2 a7=>?_
 have hB:=bln a8 a7
 refine xc 9 (args:=#[.slice a l.length c]) (Nc a c l _ (h.below hB) (by omega)) ?_
 rintro _ W3 ⟨_,rfl,a9,ho⟩
 have b1:=(bln a8 a7).size
 have a2:=Ze ho b1
 obtain⟨g,a6,rfl,b3⟩:=Pe.some a2 (by omega)
 refine xd 4 (.t w.heap.size [5]) ?_
 refine xsL (.e [0,1] 2) (fun _ _ _ _ zo zx zy V=>Pb (k:=k) (b:=g) (off:=0) (n:=l.length) (c:=a6) (i:=(k:Int)) (ki:=.i64) 1 zo zx zy rfl (by omega) (by omega) Tryz.underlying40 (by kernel_rfl) V) ?_
 refine yc (.o [3,4] 5) (args:=#[V0 n,V0 2]) (.t w.heap.size [5]) (Tk n h0 _) ?_
 rintro _ W4 ⟨_,rfl,a4,h2⟩
 have b4:=(bln (bln hB a9) (Za W3)).size
 refine⟨(SF.of_below _ a4),?_⟩
 have a0:=Ze h2 b4
 obtain⟨p2,c2,rfl⟩:=(Zf a0).slice
 have a1:=Zb (Zb a2 (Za W3)) a4
 have a3:=bln (bln (bln hB a9) (Za W3)) a4
 refine ybi (.o [] 6) (t2:=40) (.t w.heap.size [5]) fun _ _ _ _ zJ zQ zo zx zy zK=>Uw (dLen:=(l.length-k)) (dCap:=(a6-k)) (off:=(0+k*1)) ((leB n 2).length) ((leB n 2).map bv) ((Vc l k (leB n 2)).map bv) zo Tryz.underlying40 (by kernel_rfl) zx zy (Zf a0) a1 (by simp) (by simp[leB];omega) (by simp[leB];omega) (Xs _) a3.size (by simp[Vc,List.map_take,List.map_drop]) fun W5 o5 b2 b0=>?_
 refine zK _ _ (Zt b0 b2 a1 (by decide)) ?_
 have a5:=a3.trans b0
 refine xe 10 (.tuple #[.slice (S1 g) l.length a6,V0 0]) ?_
 refine⟨_,rfl,a5,_,rfl,?_⟩
 unfold Pe
 rw[show(Vc l k (leB n 2)).length=l.length by simp[Vc,leB];omega]
 exact o5
theorem Put_4(a:O0)(c k:Nat)(l:Bl)(n:Int)(w:World)(h:Bys w (.slice a l.length c) l)(hl:l.length≤100000)(hk:k+4≤l.length)(h0:0≤n)(hb:n<4294967296) :
 C0 241 #[.slice a l.length c,V0 (k:Int),V0 4,V0 n] w (Qn (fun w' r=>∃ v,r=.tuple #[v,V0 0]∧Pe w.heap.size w' v (Vc l k (leB n 4))) w):=by
 refine zin 33 Tryz.func241 ?_
 refine xr 12 (args:=#[.slice a l.length c,V0 (k:Int),V0 4]) (there_4 a l.length c k hk (by omega) _) fun W1 a8=>?_
 refine xr 17 (args:=#[V0 n,V0 4]) (Zcb n h0 hb _) fun W2 a7=>?_
 have hB:=bln a8 a7
 refine xc 9 (args:=#[.slice a l.length c]) (Nc a c l _ (h.below hB) (by omega)) ?_
 rintro _ W3 ⟨_,rfl,a9,ho⟩
 have b1:=(bln a8 a7).size
 have a2:=Ze ho b1
 obtain⟨g,a6,rfl,b3⟩:=Pe.some a2 (by omega)
 refine xd 4 (.t w.heap.size [5]) ?_
 refine xsL (.e [0,1] 2) (fun _ _ _ _ zo zx zy V=>Pb (k:=k) (b:=g) (off:=0) (n:=l.length) (c:=a6) (i:=(k:Int)) (ki:=.i64) 1 zo zx zy rfl (by omega) (by omega) Tryz.underlying40 (by kernel_rfl) V) ?_
 refine yc (.o [3,4] 5) (args:=#[V0 n,V0 4]) (.t w.heap.size [5]) (Ta n h0 _) ?_
 rintro _ W4 ⟨_,rfl,a4,h2⟩
 have b4:=(bln (bln hB a9) (Za W3)).size
 refine⟨(SF.of_below _ a4),?_⟩
 have a0:=Ze h2 b4
 obtain⟨p2,c2,rfl⟩:=(Zf a0).slice
 have a1:=Zb (Zb a2 (Za W3)) a4
 have a3:=bln (bln (bln hB a9) (Za W3)) a4
 refine ybi (.o [] 6) (t2:=40) (.t w.heap.size [5]) fun _ _ _ _ zJ zQ zo zx zy zK=>Uw (dLen:=(l.length-k)) (dCap:=(a6-k)) (off:=(0+k*1)) ((leB n 4).length) ((leB n 4).map bv) ((Vc l k (leB n 4)).map bv) zo Tryz.underlying40 (by kernel_rfl) zx zy (Zf a0) a1 (by simp) (by simp[leB];omega) (by simp[leB];omega) (Xs _) a3.size (by simp[Vc,List.map_take,List.map_drop]) fun W5 o5 b2 b0=>?_
 refine zK _ _ (Zt b0 b2 a1 (by decide)) ?_
 have a5:=a3.trans b0
 refine xe 10 (.tuple #[.slice (S1 g) l.length a6,V0 0]) ?_
 refine⟨_,rfl,a5,_,rfl,?_⟩
 unfold Pe
 rw[show(Vc l k (leB n 4)).length=l.length by simp[Vc,leB];omega]
 exact o5
theorem Fg(g:Nat)(n:Int)(h0:0≤n)(hb:n<4294967296)(w:World)(hk:Blk w g [V0 4,V0 n] 271) :
 C0 169 #[.slice (S1 g) 1 1] w (Qn (fun w' r=>∃ p c,r=.tuple #[.slice p 4 c,V0 0]∧w'.ownsRow w.heap.size 5 1 (.slice p 4 c) 4 ((leB n 4).map bv)) w):=by
 refine zin 32 Tryz.func169 ?_
 refine xu 20 2 ?_
 refine xlv 14 hk.rp ?_
 refine xa 0 [V0 0,V0 0] 271 fun b1 W1 n1=>?_
 have a8:=n1.ne hk
 refine xsv 0 n1.blk [V0 4,V0 n] fun W2 u2 k2=>?_
 have g1:=n1.ge (B4 w)
 refine xb 6 0 k2 ?_
 refine xr 0 (args:=#[V0 4]) (Sc _) fun W3 a5=>?_
 have a1:=k2.below a5
 refine xb 10 1 a1 ?_
 refine xb 1 0 a1 ?_
 refine xr 0 (args:=#[V0 n,V0 4]) (Zcb (n) (h0) (hb) _) fun W4 a3=>?_
 have a2:=a1.below a3
 refine xb 9 1 a2 ?_
 refine xb 1 0 a2 ?_
 refine xc 0 (args:=#[V0 n,V0 4]) (Ta (n) (h0) _) ?_
 rintro _ W5 ⟨_,rfl,a9,a4⟩
 have b2:=(bln (bln (u2.below n1.below g1) a5) a3).size
 have a0:=Ze a4 b2
 unfold Pe at a0
 rw[Zh] at a0
 obtain⟨b0,b3,rfl⟩:=(Zf a0).slice
 have o6:=World.ownsRow_nil W5 w.heap.size 5 1
 have hB:=bln (bln (bln (u2.below n1.below g1) a5) a3) a9
 refine xbi 0 fun _ _ _ _ zJ zQ zo zx zy zK=>Zn (m:=4) (news:=(leB (n) 4).map bv) (.int .u8 0) 1 1 (4) ((leB (n) 4).map bv) zo Tryz.underlying40 (by kernel_rfl) rfl (by decide) zx o6 zy (Zf a0) (by simp[Zh]) (Xs _) (by unfold maxLen;omega) (by omega) hB.size (by rfl) (by simp) fun b5 b4 W7 o7 b6 a7=>?_
 refine zK _ _ ?_
 have a6:=hB.trans a7
 exact xe 29 (.tuple #[.slice b5 4 b4,V0 0]) ⟨_,rfl,a6,_,_,rfl,o7⟩
theorem Pack_8(g:Nat)(n:Int)(h0:0≤n)(w:World)(hk:Blk w g [V0 8,V0 n] 271) :
 C0 169 #[.slice (S1 g) 1 1] w (Qn (fun w' r=>∃ p c,r=.tuple #[.slice p 8 c,V0 0]∧w'.ownsRow w.heap.size 5 1 (.slice p 8 c) 8 ((leB n 8).map bv)) w):=by
 refine zin 32 Tryz.func169 ?_
 refine xu 20 2 ?_
 refine xlv 14 hk.rp ?_
 refine xa 0 [V0 0,V0 0] 271 fun b1 W1 n1=>?_
 have a8:=n1.ne hk
 refine xsv 0 n1.blk [V0 8,V0 n] fun W2 u2 k2=>?_
 have g1:=n1.ge (B4 w)
 refine xb 6 0 k2 ?_
 refine xr 0 (args:=#[V0 8]) (known_8 _) fun W3 a5=>?_
 have a1:=k2.below a5
 refine xb 10 1 a1 ?_
 refine xb 1 0 a1 ?_
 refine xr 0 (args:=#[V0 n,V0 8]) (fits_8 (n) (h0) _) fun W4 a3=>?_
 have a2:=a1.below a3
 refine xb 9 1 a2 ?_
 refine xb 1 0 a2 ?_
 refine xc 0 (args:=#[V0 n,V0 8]) (bytes_8 (n) (h0) _) ?_
 rintro _ W5 ⟨_,rfl,a9,a4⟩
 have b2:=(bln (bln (u2.below n1.below g1) a5) a3).size
 have a0:=Ze a4 b2
 unfold Pe at a0
 rw[Zh] at a0
 obtain⟨b0,b3,rfl⟩:=(Zf a0).slice
 have o6:=World.ownsRow_nil W5 w.heap.size 5 1
 have hB:=bln (bln (bln (u2.below n1.below g1) a5) a3) a9
 refine xbi 0 fun _ _ _ _ zJ zQ zo zx zy zK=>Zn (m:=8) (news:=(leB (n) 8).map bv) (.int .u8 0) 1 1 (8) ((leB (n) 8).map bv) zo Tryz.underlying40 (by kernel_rfl) rfl (by decide) zx o6 zy (Zf a0) (by simp[Zh]) (Xs _) (by unfold maxLen;omega) (by omega) hB.size (by rfl) (by simp) fun b5 b4 W7 o7 b6 a7=>?_
 refine zK _ _ ?_
 have a6:=hB.trans a7
 exact xe 29 (.tuple #[.slice b5 8 b4,V0 0]) ⟨_,rfl,a6,_,_,rfl,o7⟩
theorem Pack_node(g:Nat)(f t k v m:Int)(hf:0≤f)(hf2:f<256)(ht:0≤t)(ht2:t<256)(hk1:0≤k)(hk2:k<65536)(hv:0≤v)(hv2:v<65536)(hm:0≤m)(hm2:m<65536)(w:World)(hk:Blk w g [V0 1,V0 f,V0 1,V0 t,V0 2,V0 k,V0 2,V0 v,V0 2,V0 m,V0 4,V0 0] 271) :
 C0 169 #[.slice (S1 g) 6 6] w (Qn (fun w' r=>∃ p c,r=.tuple #[.slice p 12 c,V0 0]∧w'.ownsRow w.heap.size 5 1 (.slice p 12 c) 12 ((leB f 1++leB t 1++leB k 2++leB v 2++leB m 2++leB 0 4).map bv)) w):=by
 refine zin 32 Tryz.func169 ?_
 refine xu 20 7 ?_
 refine xlv 14 (hk.rpp 0 2) ?_
 refine xa 0 [V0 0,V0 0] 271 fun b1 W1 n1=>?_
 have m7:=n1.ne hk
 refine xsv 0 n1.blk [V0 1,V0 f] fun W2 u2 k2=>?_
 have g1:=n1.ge (B4 w)
 refine xb 6 0 k2 ?_
 refine xr 0 (args:=#[V0 1]) (Zaf _) fun W3 k0=>?_
 have f5:=k2.below k0
 refine xb 10 1 f5 ?_
 refine xb 1 0 f5 ?_
 refine xr 0 (args:=#[V0 f,V0 1]) (fits_1 (f) (hf) (hf2) _) fun W4 j6=>?_
 have g3:=f5.below j6
 refine xb 9 1 g3 ?_
 refine xb 1 0 g3 ?_
 refine xc 0 (args:=#[V0 f,V0 1]) (Zgw (f) (hf) _) ?_
 rintro _ W5 ⟨_,rfl,k6,m6⟩
 have q7:=(bln (bln (u2.below n1.below g1) k0) j6).size
 have a8:=Ze m6 q7
 unfold Pe at a8
 rw[Zh] at a8
 obtain⟨p0,q1,rfl⟩:=(Zf a8).slice
 have o6:=World.ownsRow_nil W5 w.heap.size 5 1
 have hB:=bln (bln (bln (u2.below n1.below g1) k0) j6) k6
 refine xbi 0 fun _ _ _ _ zJ zQ zo zx zy zK=>Zn (m:=1) (news:=(leB (f) 1).map bv) (.int .u8 0) 1 1 (1) ((leB (f) 1).map bv) zo Tryz.underlying40 (by kernel_rfl) rfl (by decide) zx o6 zy (Zf a8) (by simp[Zh]) (Xs _) (by unfold maxLen;omega) (by omega) hB.size (by rfl) (by simp) fun u4 t5 W7 o7 m9 p4=>?_
 refine zK _ _ ?_
 have h0:=((((u2.blk (hk.below n1.below) (Ne.symm (Ne.symm m7))).below k0).below j6).below k6).grown m9 o6 (by decide)
 refine xlv 23 (h0.rpp 2 2) ?_
 refine xa 0 [V0 0,V0 0] 271 fun b8 W8 n8=>?_
 have l7:=n8.ne h0
 have j1:=(g3.below k6).grown m9 o6 (by decide)
 have h5:=n8.ne j1
 have f1:=hB.trans p4
 have g8:=n8.ge f1
 refine xsv 0 n8.blk [V0 1,V0 t] fun W9 u9 k9=>?_
 refine xb 6 0 k9 ?_
 refine xr 0 (args:=#[V0 1]) (Zaf _) fun r8 c2=>?_
 have h1:=k9.below c2
 refine xb 10 1 h1 ?_
 refine xb 1 0 h1 ?_
 refine xr 0 (args:=#[V0 t,V0 1]) (fits_1 (t) (ht) (ht2) _) fun u1 c1=>?_
 have g9:=h1.below c1
 refine xb 9 1 g9 ?_
 refine xb 1 0 g9 ?_
 refine xc 0 (args:=#[V0 t,V0 1]) (Zgw (t) (ht) _) ?_
 rintro _ r5 ⟨_,rfl,c7,k8⟩
 have l8:=(bln (bln (u9.below (bln f1 n8.below) g8) c2) c1).size
 have a2:=Ze k8 l8
 unfold Pe at a2
 rw[Zh] at a2
 obtain⟨p6,o3,rfl⟩:=(Zf a2).slice
 have d7:=Zb (Zb (Zb (u9.own2 (Zb o7 n8.below) n8.blk (by decide)) c2) c1) c7
 have h8:=bln (bln (bln (u9.below (bln f1 n8.below) g8) c2) c1) c7
 refine xbi 0 fun _ _ _ _ zJ zQ zo zx zy zK=>Zn (m:=1) (news:=(leB (t) 1).map bv) (.int .u8 0) 1 1 (2) ((leB (f) 1++leB (t) 1).map bv) zo Tryz.underlying40 (by kernel_rfl) rfl (by decide) zx d7 zy (Zf a2) (by simp[Zh]) (Xs _) (by unfold maxLen;omega) (by omega) h8.size (by rfl) (by simp) fun o1 r0 r1 o9 f6 l1=>?_
 refine zK _ _ ?_
 have f9:=((((u9.blk (h0.below n8.below) (Ne.symm (Ne.symm l7))).below c2).below c1).below c7).grown f6 d7 (by decide)
 refine xlv 23 (f9.rpp 4 2) ?_
 refine xa 0 [V0 0,V0 0] 271 fun t6 u0 c5=>?_
 have h4:=c5.ne f9
 have i1:=((((u9.blk (j1.below n8.below) (Ne.symm (Ne.symm h5))).below c2).below c1).below c7).grown f6 d7 (by decide)
 have f7:=c5.ne i1
 have i4:=(g9.below c7).grown f6 d7 (by decide)
 have e9:=c5.ne i4
 have f3:=h8.trans l1
 have n2:=c5.ge f3
 refine xsv 0 c5.blk [V0 2,V0 k] fun u3 h3 n5=>?_
 refine xb 6 0 n5 ?_
 refine xr 0 (args:=#[V0 2]) (Si _) fun t7 b6=>?_
 have d5:=n5.below b6
 refine xb 10 1 d5 ?_
 refine xb 1 0 d5 ?_
 refine xr 0 (args:=#[V0 k,V0 2]) (Zby (k) (hk1) (hk2) _) fun s5 b9=>?_
 have c9:=d5.below b9
 refine xb 9 1 c9 ?_
 refine xb 1 0 c9 ?_
 refine xc 0 (args:=#[V0 k,V0 2]) (Tk (k) (hk1) _) ?_
 rintro _ s0 ⟨_,rfl,c4,l4⟩
 have k7:=(bln (bln (h3.below (bln f3 c5.below) n2) b6) b9).size
 have a6:=Ze l4 k7
 unfold Pe at a6
 rw[Zh] at a6
 obtain⟨q4,o5,rfl⟩:=(Zf a6).slice
 have b3:=Zb (Zb (Zb (h3.own2 (Zb o9 c5.below) c5.blk (by decide)) b6) b9) c4
 have j3:=bln (bln (bln (h3.below (bln f3 c5.below) n2) b6) b9) c4
 refine xbi 0 fun _ _ _ _ zJ zQ zo zx zy zK=>Zn (m:=2) (news:=(leB (k) 2).map bv) (.int .u8 0) 1 1 (4) ((leB (f) 1++leB (t) 1++leB (k) 2).map bv) zo Tryz.underlying40 (by kernel_rfl) rfl (by decide) zx b3 zy (Zf a6) (by simp[Zh]) (Xs _) (by unfold maxLen;omega) (by omega) j3.size (by rfl) (by simp) fun p5 q8 t2 p3 d6 m1=>?_
 refine zK _ _ ?_
 have g0:=((((h3.blk (f9.below c5.below) (Ne.symm (Ne.symm h4))).below b6).below b9).below c4).grown d6 b3 (by decide)
 refine xlv 23 (g0.rpp 6 2) ?_
 refine xa 0 [V0 0,V0 0] 271 fun s4 s1 c0=>?_
 have j5:=c0.ne g0
 have h9:=((((h3.blk (i1.below c5.below) (Ne.symm (Ne.symm f7))).below b6).below b9).below c4).grown d6 b3 (by decide)
 have f0:=c0.ne h9
 have i3:=((((h3.blk (i4.below c5.below) (Ne.symm (Ne.symm e9))).below b6).below b9).below c4).grown d6 b3 (by decide)
 have f4:=c0.ne i3
 have e4:=(c9.below c4).grown d6 b3 (by decide)
 have e0:=c0.ne e4
 have g6:=j3.trans m1
 have n3:=c0.ge g6
 refine xsv 0 c0.blk [V0 2,V0 v] fun s7 g7 o0=>?_
 refine xb 6 0 o0 ?_
 refine xr 0 (args:=#[V0 2]) (Si _) fun s8 b2=>?_
 have c8:=o0.below b2
 refine xb 10 1 c8 ?_
 refine xb 1 0 c8 ?_
 refine xr 0 (args:=#[V0 v,V0 2]) (Zby (v) (hv) (hv2) _) fun r4 b4=>?_
 have d4:=c8.below b4
 refine xb 9 1 d4 ?_
 refine xb 1 0 d4 ?_
 refine xc 0 (args:=#[V0 v,V0 2]) (Tk (v) (hv) _) ?_
 rintro _ t3 ⟨_,rfl,b7,k3⟩
 have m2:=(bln (bln (g7.below (bln g6 c0.below) n3) b2) b4).size
 have a5:=Ze k3 m2
 unfold Pe at a5
 rw[Zh] at a5
 obtain⟨o8,o4,rfl⟩:=(Zf a5).slice
 have a1:=Zb (Zb (Zb (g7.own2 (Zb p3 c0.below) c0.blk (by decide)) b2) b4) b7
 have j2:=bln (bln (bln (g7.below (bln g6 c0.below) n3) b2) b4) b7
 refine xbi 0 fun _ _ _ _ zJ zQ zo zx zy zK=>Zn (m:=2) (news:=(leB (v) 2).map bv) (.int .u8 0) 1 1 (6) ((leB (f) 1++leB (t) 1++leB (k) 2++leB (v) 2).map bv) zo Tryz.underlying40 (by kernel_rfl) rfl (by decide) zx a1 zy (Zf a5) (by simp[Zh]) (Xs _) (by unfold maxLen;omega) (by omega) j2.size (by rfl) (by simp) fun q0 q6 t1 p8 d0 l3=>?_
 refine zK _ _ ?_
 have g2:=((((g7.blk (g0.below c0.below) (Ne.symm (Ne.symm j5))).below b2).below b4).below b7).grown d0 a1 (by decide)
 refine xlv 23 (g2.rpp 8 2) ?_
 refine xa 0 [V0 0,V0 0] 271 fun t4 s9 b5=>?_
 have i7:=b5.ne g2
 have i5:=((((g7.blk (h9.below c0.below) (Ne.symm (Ne.symm f0))).below b2).below b4).below b7).grown d0 a1 (by decide)
 have f2:=b5.ne i5
 have i6:=((((g7.blk (i3.below c0.below) (Ne.symm (Ne.symm f4))).below b2).below b4).below b7).grown d0 a1 (by decide)
 have h2:=b5.ne i6
 have e8:=((((g7.blk (e4.below c0.below) (Ne.symm (Ne.symm e0))).below b2).below b4).below b7).grown d0 a1 (by decide)
 have e2:=b5.ne e8
 have e3:=(d4.below b7).grown d0 a1 (by decide)
 have d8:=b5.ne e3
 have f8:=j2.trans l3
 have n7:=b5.ge f8
 refine xsv 0 b5.blk [V0 2,V0 m] fun t8 e5 n0=>?_
 refine xb 6 0 n0 ?_
 refine xr 0 (args:=#[V0 2]) (Si _) fun r9 a7=>?_
 have d2:=n0.below a7
 refine xb 10 1 d2 ?_
 refine xb 1 0 d2 ?_
 refine xr 0 (args:=#[V0 m,V0 2]) (Zby (m) (hm) (hm2) _) fun t9 a4=>?_
 have d3:=d2.below a4
 refine xb 9 1 d3 ?_
 refine xb 1 0 d3 ?_
 refine xc 0 (args:=#[V0 m,V0 2]) (Tk (m) (hm) _) ?_
 rintro _ r7 ⟨_,rfl,b0,k5⟩
 have l0:=(bln (bln (e5.below (bln f8 b5.below) n7) a7) a4).size
 have a3:=Ze k5 l0
 unfold Pe at a3
 rw[Zh] at a3
 obtain⟨q5,o2,rfl⟩:=(Zf a3).slice
 have a0:=Zb (Zb (Zb (e5.own2 (Zb p8 b5.below) b5.blk (by decide)) a7) a4) b0
 have h7:=bln (bln (bln (e5.below (bln f8 b5.below) n7) a7) a4) b0
 refine xbi 0 fun _ _ _ _ zJ zQ zo zx zy zK=>Zn (m:=2) (news:=(leB (m) 2).map bv) (.int .u8 0) 1 1 (8) ((leB (f) 1++leB (t) 1++leB (k) 2++leB (v) 2++leB (m) 2).map bv) zo Tryz.underlying40 (by kernel_rfl) rfl (by decide) zx a0 zy (Zf a3) (by simp[Zh]) (Xs _) (by unfold maxLen;omega) (by omega) h7.size (by rfl) (by simp) fun q3 p1 r3 q2 c3 m3=>?_
 refine zK _ _ ?_
 have j4:=((((e5.blk (g2.below b5.below) (Ne.symm (Ne.symm i7))).below a7).below a4).below b0).grown c3 a0 (by decide)
 refine xlv 23 (j4.rpp 10 2) ?_
 refine xa 0 [V0 0,V0 0] 271 fun r2 s6 c6=>?_
 have n6:=c6.ne j4
 have l2:=((((e5.blk (i5.below b5.below) (Ne.symm (Ne.symm f2))).below a7).below a4).below b0).grown c3 a0 (by decide)
 have l5:=c6.ne l2
 have l6:=((((e5.blk (i6.below b5.below) (Ne.symm (Ne.symm h2))).below a7).below a4).below b0).grown c3 a0 (by decide)
 have l9:=c6.ne l6
 have i0:=((((e5.blk (e8.below b5.below) (Ne.symm (Ne.symm e2))).below a7).below a4).below b0).grown c3 a0 (by decide)
 have j9:=c6.ne i0
 have i8:=((((e5.blk (e3.below b5.below) (Ne.symm (Ne.symm d8))).below a7).below a4).below b0).grown c3 a0 (by decide)
 have j8:=c6.ne i8
 have h6:=(d3.below b0).grown c3 a0 (by decide)
 have j7:=c6.ne h6
 have g5:=h7.trans m3
 have n4:=c6.ge g5
 refine xsv 0 c6.blk [V0 4,V0 0] fun u5 k4 n9=>?_
 refine xb 6 0 n9 ?_
 refine xr 0 (args:=#[V0 4]) (Sc _) fun t0 e1=>?_
 have d1:=n9.below e1
 refine xb 10 1 d1 ?_
 refine xb 1 0 d1 ?_
 refine xr 0 (args:=#[V0 0,V0 4]) (Zcb (0) (by decide) (by decide) _) fun s3 d9=>?_
 have e7:=d1.below d9
 refine xb 9 1 e7 ?_
 refine xb 1 0 e7 ?_
 refine xc 0 (args:=#[V0 0,V0 4]) (Ta (0) (by decide) _) ?_
 rintro _ s2 ⟨_,rfl,j0,m5⟩
 have m0:=(bln (bln (k4.below (bln g5 c6.below) n4) e1) d9).size
 have a9:=Ze m5 m0
 unfold Pe at a9
 rw[Zh] at a9
 obtain⟨p9,p2,rfl⟩:=(Zf a9).slice
 have i2:=Zb (Zb (Zb (k4.own2 (Zb q2 c6.below) c6.blk (by decide)) e1) d9) j0
 have e6:=bln (bln (bln (k4.below (bln g5 c6.below) n4) e1) d9) j0
 refine xbi 0 fun _ _ _ _ zJ zQ zo zx zy zK=>Zn (m:=4) (news:=(leB (0) 4).map bv) (.int .u8 0) 1 1 (12) ((leB (f) 1++leB (t) 1++leB (k) 2++leB (v) 2++leB (m) 2++leB (0) 4).map bv) zo Tryz.underlying40 (by kernel_rfl) rfl (by decide) zx i2 zy (Zf a9) (by simp[Zh]) (Xs _) (by unfold maxLen;omega) (by omega) e6.size (by rfl) (by simp) fun m8 k1 r6 p7 q9 m4=>?_
 refine zK _ _ ?_
 have i9:=e6.trans m4
 exact xe 29 (.tuple #[.slice m8 12 k1,V0 0]) ⟨_,rfl,i9,_,_,rfl,p7⟩
theorem Cw{n:Nat}(h:n<4294967296):IntKind.u32.wrap (n:Int)=(n:Int):=by
 simp[IntKind.wrap,IntKind.bits,IntKind.signed];omega
theorem Eu{a b:Nat}(ha:a<4294967296)(hb:b<4294967296):IntKind.u32.wrap (↑(BitVec.ofInt 32 (a:Int) ^^^ BitVec.ofInt 32 (b:Int)).toNat:Int)=((a ^^^ b:Nat):Int):=by
 rw[BitVec.ofInt_natCast,BitVec.ofInt_natCast,BitVec.toNat_xor,BitVec.toNat_ofNat,BitVec.toNat_ofNat,Nat.mod_eq_of_lt ha,Nat.mod_eq_of_lt hb]
 exact Cw (Nat.xor_lt_two_pow (n:=32) ha hb)
theorem Zay{a b:Nat}(ha:a<4294967296)(hb:b<4294967296):IntKind.u32.wrap (↑(BitVec.ofInt 32 (a:Int) &&& BitVec.ofInt 32 (b:Int)).toNat:Int)=((a &&& b:Nat):Int):=by
 rw[BitVec.ofInt_natCast,BitVec.ofInt_natCast,BitVec.toNat_and,BitVec.toNat_ofNat,BitVec.toNat_ofNat,Nat.mod_eq_of_lt ha,Nat.mod_eq_of_lt hb]
 exact Cw (Nat.lt_of_le_of_lt Nat.and_le_left ha)
theorem Ew(a:Nat)(k:Nat):Int.fdiv (a:Int) (2 ^ k)=((a/2 ^ k:Nat):Int):=by
 rw[Int.fdiv_eq_ediv_of_nonneg _ (Int.pow_nonneg (by decide))]
 simp
def Gf(r:Nat):Nat:=if r%2=1 then(r/2) ^^^ 2197175160 else r/2
def Xu:Nat→Nat→Nat
 | 0,r=>r
 | j+1,r=>Gf (Xu j r)
def Pz(n:Nat):Nat:=Xu 4 n
theorem step1_lt{r:Nat}(h:r<4294967296):Gf r<4294967296:=by
 unfold Gf
 split
 ·exact Nat.xor_lt_two_pow (n:=32) (by omega) (by decide)
 ·omega
theorem Cj{j r:Nat}(h:r<4294967296):Xu j r<4294967296:=by
 induction j with
 | zero=>exact h
 | succ j ih=>exact step1_lt ih
theorem half_lt{r:Nat}(h:r<4294967296):Pz r<4294967296:=Cj h
def Yz(k:Nat):List Value:=(List.range 16).map fun i=>.int .u32 (if i<k then(Pz i:Int) else 0)
def Hw:List Value:=(List.range 16).map fun i=>.int .u32 (Pz i:Int)
theorem Zac{k:Nat}(h:k<16):(Yz k).set k (.int .u32 (Pz k:Int))=Yz (k+1):=by
 apply List.ext_getElem?
 intro i
 by_cases hi:i<16
 ·by_cases e:k=i
  ·subst e
   rw[List.getElem?_set_self (by simpa [Yz] using h)]
   simp[Yz,List.getElem?_range hi]
  ·rw[List.getElem?_set_ne e]
   simp only[Yz,List.getElem?_map,List.getElem?_range hi,Option.map_some]
   by_cases h3:i<k
   ·rw[if_pos h3,if_pos (by omega)]
   ·rw[if_neg h3,if_neg (by omega)]
 ·rw[List.getElem?_eq_none (by simp[Yz];omega),List.getElem?_eq_none (by simp[Yz];omega)]
theorem Zau:Yz 16=Hw:=by
 unfold Yz Hw
 apply List.map_congr_left
 intro i hi
 rw[if_pos (List.mem_range.1 hi)]
theorem Dt{k:Nat}(h:k<16):Hw[k]? = some (.int .u32 (Pz k:Int)):=by
 simp[Hw,List.getElem?_range h]
theorem and_one(a:Nat):a &&& 1=a%2:=Nat.and_one_is_mod a
theorem and_15(a:Nat):a &&& 15=a%16:=Nat.and_two_pow_sub_one_eq_mod a 4
theorem Ze0(w:World) :
 C0 296 #[] w (Ret (.agg Hw.toArray) w):=by
 refine zin 26 Tryz.func296 ?_
 refine xa 2 [.int .u32 0,.int .u32 0,.int .u32 0,.int .u32 0,.int .u32 0,.int .u32 0,.int .u32 0,.int .u32 0,.int .u32 0,.int .u32 0,.int .u32 0,.int .u32 0,.int .u32 0,.int .u32 0,.int .u32 0,.int .u32 0] 410 fun b1 W1 n1=>?_
 refine xa 4 [.int .u32 0,.int .u32 0,.int .u32 0,.int .u32 0,.int .u32 0,.int .u32 0,.int .u32 0,.int .u32 0,.int .u32 0,.int .u32 0,.int .u32 0,.int .u32 0,.int .u32 0,.int .u32 0,.int .u32 0,.int .u32 0] 410 fun b2 W2 n2=>?_
 have a6:=n2.ne n1.blk
 have hB:=bln n1.below n2.below
 have b0:=n1.blk.below n2.below
 refine zl 9 26 (fun zm a8 V=>∃ (k:Nat),a8=[(0,P0 b1),(1,P0 b2),(5,V0 (k:Int))]∧zm=16-((k:Int)).toNat∧B3 w V∧Blk V b1 ([.int .u32 0,.int .u32 0,.int .u32 0,.int .u32 0,.int .u32 0,.int .u32 0,.int .u32 0,.int .u32 0,.int .u32 0,.int .u32 0,.int .u32 0,.int .u32 0,.int .u32 0,.int .u32 0,.int .u32 0,.int .u32 0]) 410∧Blk V b2 (Yz k) 410∧k≤16) ⟨0,rfl,rfl,hB,b0,n2.blk,by decide⟩ ?_
 rintro _ _ W3 ⟨k,rfl,rfl,a7,a3,a4,hk⟩ J3 b8 r3
 refine xid 6 ((k:Int)<(16:Int)) (fun b5=>?_) (fun b5=>?_)
 ·refine xq 13 (congrArg (Value.int .u32) (show(IntKind.u32.wrap (k:Int):Int)=(k:Int) from Cw (by omega))) ?_
  refine zl 10 26 (fun zm a8 V=>∃ (j:Nat),a8=[(0,P0 b1),(1,P0 b2),(2,V0 (k:Int)),(3,.int .u32 (↑(Xu j k):Int)),(5,V0 (k:Int)),(10,V0 (j:Int))]∧zm=4-((j:Int)).toNat∧B3 w V∧Blk V b1 ([.int .u32 0,.int .u32 0,.int .u32 0,.int .u32 0,.int .u32 0,.int .u32 0,.int .u32 0,.int .u32 0,.int .u32 0,.int .u32 0,.int .u32 0,.int .u32 0,.int .u32 0,.int .u32 0,.int .u32 0,.int .u32 0]) 410∧Blk V b2 (Yz k) 410∧j≤4) ⟨0,rfl,rfl,a7,a3,a4,by decide⟩ ?_
  rintro _ _ W5 ⟨j,rfl,rfl,a5,a0,a1,hj⟩ J5 b4 r5
  have hr:Xu j k<4294967296:=Cj (by omega)
  refine xid 6 ((j:Int)<(4:Int)) (fun b6=>?_) (fun b6=>?_)
  ·refine xq 7 (congrArg (Value.int .u32) (show(IntKind.u32.wrap (↑(BitVec.ofInt 32 (↑(Xu j k):Int) &&& BitVec.ofInt 32 (1:Int)).toNat:Int):Int)=(↑((Xu j k)%2):Int) from(Zay (b:=1) hr (by decide)).trans (by rw[and_one]))) ?_
   refine xq 6 (congrArg (Value.int .u32) (show(Int.fdiv (↑(Xu j k):Int) (2 ^ 1):Int)=(↑((Xu j k)/2):Int) from Ew _ 1)) ?_
   refine xie 9 (↑((Xu j k)%2):Int) (1:Int) (fun b7=>?_) (fun b7=>?_)
   ·refine xq 2 (congrArg (Value.int .u32) (show(IntKind.u32.wrap (↑(BitVec.ofInt 32 (↑((Xu j k)/2):Int) ^^^ BitVec.ofInt 32 (2197175160:Int)).toNat:Int):Int)=(↑(((Xu j k)/2) ^^^ 2197175160):Int) from Eu (b:=2197175160) (by omega) (by decide))) ?_
    refine xw 5 ((j:Int)+1) ?_
    refine xv1 2 3 (show(.int .u32 (↑(((Xu j k)/2) ^^^ 2197175160):Int):Value)=.int .u32 (↑(Xu (j+1) k):Int) from by rw[show Xu (j+1) k=(((Xu j k)/2) ^^^ 2197175160) by simp only[Xu,Gf];first|rw[if_pos (by omega)]|rw[if_neg (by omega)]]) ?_
    exact ze 0 (b4 _ _ _ ⟨j+1,rfl,rfl,a5,a0,a1,by omega⟩ (by omega))
   refine xw 4 ((j:Int)+1) ?_
   refine xv1 2 3 (show(.int .u32 (↑((Xu j k)/2):Int):Value)=.int .u32 (↑(Xu (j+1) k):Int) from by rw[show Xu (j+1) k=((Xu j k)/2) by simp only[Xu,Gf];first|rw[if_pos (by omega)]|rw[if_neg (by omega)]]) ?_
   exact ze 0 (b4 _ _ _ ⟨j+1,rfl,rfl,a5,a0,a1,by omega⟩ (by omega))
  refine xia 8 (fun _ _ _ _ zo zx zy V=>Lc (k:=k) (b:=b2) (off:=0) (i:=(k:Int)) (ki:=.i64) 1 k zo zx zy rfl (by omega) (by omega) Tryz.underlying410 (by kernel_rfl) V) ?_
  refine xsg 0 a1 k (.int .u32 (↑(Xu j k):Int)) (by first|decide|(simp[Yz];omega)) fun W8 u8 k8=>?_
  replace k8:Blk W8 b2 (Yz (k+1)) 410:=by rw[←(show(Yz k).set k (.int .u32 (↑(Xu j k):Int))=Yz (k+1) from by rw[show j=4 by omega];exact Zac (by omega))];exact k8
  have g2:=n2.ge n1.below
  refine xw 4 ((k:Int)+1) ?_
  have b3:=u8.below a5 g2
  have a2:=u8.blk a0 (Ne.symm (Ne.symm a6))
  exact ze 2 (b8 _ _ _ ⟨k+1,rfl,rfl,b3,a2,k8,by omega⟩ (by omega))
 refine xlv 7 a4.rp ?_
 refine xsvg 0 a3 0 (Yz k) (by simp[Yz,Value.oneCell']) (by simp[Yz]) fun W9 u9 k9=>?_
 change Blk _ _ (Yz k) _ at k9
 have g1:=n1.ge (B4 w)
 have a9:=u9.below a7 g1
 refine xec 3 k9 (.agg (Yz k).toArray) ?_
 rw[show k=16 by omega,Zau]
 exact⟨rfl,a9⟩
def Tq(r:Nat)(x:UInt8):Nat:=((((r ^^^ x.toNat)/16) ^^^ Pz ((r ^^^ x.toNat)%16))/16) ^^^ Pz ((((r ^^^ x.toNat)/16) ^^^ Pz ((r ^^^ x.toNat)%16))%16)
def Xa(r:Nat)(l:Bl):Nat:=l.foldl Tq r
theorem Zfu(x:UInt8):x.toNat<4294967296:=Nat.lt_trans x.toNat_lt (by decide)
theorem Wk(n:Nat):Pz (n%16)<4294967296:=half_lt (by omega)
theorem Zex{r:Nat}(h:r<4294967296)(x:UInt8):Tq r x<4294967296:=by
 have h1:r ^^^ x.toNat<4294967296:=Nat.xor_lt_two_pow (n:=32) h (Zfu x)
 have h2:((r ^^^ x.toNat)/16) ^^^ Pz ((r ^^^ x.toNat)%16)<4294967296:=Nat.xor_lt_two_pow (n:=32) (by omega) (Wk _)
 exact Nat.xor_lt_two_pow (n:=32) (by omega) (Wk _)
theorem Ga{r:Nat}(h:r<4294967296)(l:Bl):Xa r l<4294967296:=by
 unfold Xa
 induction l generalizing r with
 | nil=>exact h
 | cons x l ih=>exact ih (Zex h x)
theorem Dl{r:Nat}{l:Bl}{k:Nat}(h:k<l.length):Xa r (l.take (k+1))=Tq (Xa r (l.take k)) (l.getD k 0):=by
 unfold Xa
 rw[List.take_succ_eq_append_getElem h,List.foldl_append]
 simp[List.getD,List.getElem?_eq_getElem h]
theorem Bys.elem{w:World}{b:O0}{c:Nat}{l:Bl}(h:Bys w (.slice b l.length c) l){k:Nat}(hk:k<l.length):b.isSome=true∧w.cell? (Zz b (k*1))=some (.int .u8 ((l.getD k 0).toNat:Int)):=by
 refine Sl.elem h ?_
 rw[Nat.mul_one,List.getElem?_map,List.getElem?_eq_getElem hk]
 simp[List.getD,List.getElem?_eq_getElem hk,bv]
theorem u32_byte(x:UInt8):IntKind.u32.wrap (x.toNat:Int)=(x.toNat:Int):=Cw (Zfu x)
theorem crc_run(r:Nat)(hr0:r<4294967296)(a:O0)(c:Nat)(l:Bl)(w:World)(h:Bys w (.slice a l.length c) l)(hl:l.length≤100000000) :
 C0 266 #[.int .u32 (r:Int),.slice a l.length c] w (Ret (.int .u32 (Xa r l:Int)) w):=by
 refine zin 35 Tryz.func266 ?_
 refine xr 7 (args:=#[]) (Ze0 _) fun W1 a2=>?_
 refine xa 0 [.int .u32 0,.int .u32 0,.int .u32 0,.int .u32 0,.int .u32 0,.int .u32 0,.int .u32 0,.int .u32 0,.int .u32 0,.int .u32 0,.int .u32 0,.int .u32 0,.int .u32 0,.int .u32 0,.int .u32 0,.int .u32 0] 410 fun b2 W2 n2=>?_
 refine xsvg 0 n2.blk 0 Hw (by simp[Hw,Value.oneCell']) (by simp[Hw]) fun W3 u3 k3=>?_
 change Blk _ _ Hw _ at k3
 have g2:=n2.ge a2
 have hB:=u3.below (bln a2 n2.below) g2
 refine zl 11 35 (fun zm a3 V=>∃ (k:Nat),a3=[(0,.int .u32 (↑(Xa r (l.take k)):Int)),(4,.int .u32 0),(5,P0 b2),(9,.slice a l.length c),(10,V0 (l.length:Int)),(11,V0 (k:Int))]∧zm=l.length-((k:Int)).toNat∧B3 w V∧Blk V b2 Hw 410∧k≤l.length) ⟨0,rfl,rfl,hB,k3,Nat.zero_le _⟩ ?_
 rintro _ _ W4 ⟨k,rfl,rfl,a1,a0,hk⟩ J4 a4 r4
 have h0:Xa r (l.take k)<4294967296:=Ga hr0 _
 have h1:(Xa r (l.take k)) ^^^ (l.getD k 0).toNat<4294967296:=Nat.xor_lt_two_pow (n:=32) h0 (Zfu _)
 have h2:(((Xa r (l.take k)) ^^^ (l.getD k 0).toNat)/16) ^^^ Pz (((Xa r (l.take k)) ^^^ (l.getD k 0).toNat)%16)<4294967296:=Nat.xor_lt_two_pow (n:=32) (by omega) (Wk _)
 refine xid 6 ((k:Int)<(l.length:Int)) (fun a5=>?_) (fun a5=>?_)
 ·refine xx 6 _ l.length k 1 (Bys.elem h (k:=k) (by omega)).1 ?_
  refine xl 0 ((Bys.elem (h.below a1) (k:=k) (by omega)).2) ?_
  refine xq 7 (congrArg (Value.int .u32) (show(IntKind.u32.wrap (↑(l.getD k 0).toNat:Int):Int)=(↑(l.getD k 0).toNat:Int) from u32_byte _)) ?_
  refine xq 0 (congrArg (Value.int .u32) (show(IntKind.u32.wrap (↑(BitVec.ofInt 32 (↑(Xa r (l.take k)):Int) ^^^ BitVec.ofInt 32 (↑(l.getD k 0).toNat:Int)).toNat:Int):Int)=(↑((Xa r (l.take k)) ^^^ (l.getD k 0).toNat):Int) from Eu h0 (Zfu _))) ?_
  refine xq 6 (congrArg (Value.int .u32) (show(Int.fdiv (↑((Xa r (l.take k)) ^^^ (l.getD k 0).toNat):Int) (2 ^ 4):Int)=(↑(((Xa r (l.take k)) ^^^ (l.getD k 0).toNat)/16):Int) from Ew _ 4)) ?_
  refine xq 1 (congrArg (Value.int .u32) (show(IntKind.u32.wrap (↑(BitVec.ofInt 32 (↑((Xa r (l.take k)) ^^^ (l.getD k 0).toNat):Int) &&& BitVec.ofInt 32 (15:Int)).toNat:Int):Int)=(↑(((Xa r (l.take k)) ^^^ (l.getD k 0).toNat)%16):Int) from(Zay (b:=15) h1 (by decide)).trans (by rw[and_15]))) ?_
  refine xia 0 (fun _ _ _ _ zo zx zy V=>Lc (k:=(((Xa r (l.take k)) ^^^ (l.getD k 0).toNat)%16)) (b:=b2) (off:=0) (i:=(↑(((Xa r (l.take k)) ^^^ (l.getD k 0).toNat)%16):Int)) (ki:=.u32) 1 (((Xa r (l.take k)) ^^^ (l.getD k 0).toNat)%16) zo zx zy rfl (by omega) (by omega) Tryz.underlying410 (by kernel_rfl) V) ?_
  refine xl 0 (a0.cell (i:=(((Xa r (l.take k)) ^^^ (l.getD k 0).toNat)%16)) (Dt (by omega))) ?_
  refine xq 0 (congrArg (Value.int .u32) (show(IntKind.u32.wrap (↑(BitVec.ofInt 32 (↑(((Xa r (l.take k)) ^^^ (l.getD k 0).toNat)/16):Int) ^^^ BitVec.ofInt 32 (↑(Pz (((Xa r (l.take k)) ^^^ (l.getD k 0).toNat)%16)):Int)).toNat:Int):Int)=(↑((((Xa r (l.take k)) ^^^ (l.getD k 0).toNat)/16) ^^^ Pz (((Xa r (l.take k)) ^^^ (l.getD k 0).toNat)%16)):Int) from Eu (Nat.lt_of_le_of_lt (Nat.div_le_self _ _) h1) (Wk _))) ?_
  refine xq 5 (congrArg (Value.int .u32) (show(Int.fdiv (↑((((Xa r (l.take k)) ^^^ (l.getD k 0).toNat)/16) ^^^ Pz (((Xa r (l.take k)) ^^^ (l.getD k 0).toNat)%16)):Int) (2 ^ 4):Int)=(↑(((((Xa r (l.take k)) ^^^ (l.getD k 0).toNat)/16) ^^^ Pz (((Xa r (l.take k)) ^^^ (l.getD k 0).toNat)%16))/16):Int) from Ew _ 4)) ?_
  refine xq 1 (congrArg (Value.int .u32) (show(IntKind.u32.wrap (↑(BitVec.ofInt 32 (↑((((Xa r (l.take k)) ^^^ (l.getD k 0).toNat)/16) ^^^ Pz (((Xa r (l.take k)) ^^^ (l.getD k 0).toNat)%16)):Int) &&& BitVec.ofInt 32 (15:Int)).toNat:Int):Int)=(↑(((((Xa r (l.take k)) ^^^ (l.getD k 0).toNat)/16) ^^^ Pz (((Xa r (l.take k)) ^^^ (l.getD k 0).toNat)%16))%16):Int) from(Zay (b:=15) h2 (by decide)).trans (by rw[and_15]))) ?_
  refine xia 0 (fun _ _ _ _ zo zx zy V=>Lc (k:=(((((Xa r (l.take k)) ^^^ (l.getD k 0).toNat)/16) ^^^ Pz (((Xa r (l.take k)) ^^^ (l.getD k 0).toNat)%16))%16)) (b:=b2) (off:=0) (i:=(↑(((((Xa r (l.take k)) ^^^ (l.getD k 0).toNat)/16) ^^^ Pz (((Xa r (l.take k)) ^^^ (l.getD k 0).toNat)%16))%16):Int)) (ki:=.u32) 1 (((((Xa r (l.take k)) ^^^ (l.getD k 0).toNat)/16) ^^^ Pz (((Xa r (l.take k)) ^^^ (l.getD k 0).toNat)%16))%16) zo zx zy rfl (by omega) (by omega) Tryz.underlying410 (by kernel_rfl) V) ?_
  refine xl 0 (a0.cell (i:=(((((Xa r (l.take k)) ^^^ (l.getD k 0).toNat)/16) ^^^ Pz (((Xa r (l.take k)) ^^^ (l.getD k 0).toNat)%16))%16)) (Dt (by omega))) ?_
  refine xq 0 (congrArg (Value.int .u32) (show(IntKind.u32.wrap (↑(BitVec.ofInt 32 (↑(((((Xa r (l.take k)) ^^^ (l.getD k 0).toNat)/16) ^^^ Pz (((Xa r (l.take k)) ^^^ (l.getD k 0).toNat)%16))/16):Int) ^^^ BitVec.ofInt 32 (↑(Pz (((((Xa r (l.take k)) ^^^ (l.getD k 0).toNat)/16) ^^^ Pz (((Xa r (l.take k)) ^^^ (l.getD k 0).toNat)%16))%16)):Int)).toNat:Int):Int)=(↑((((((Xa r (l.take k)) ^^^ (l.getD k 0).toNat)/16) ^^^ Pz (((Xa r (l.take k)) ^^^ (l.getD k 0).toNat)%16))/16) ^^^ Pz (((((Xa r (l.take k)) ^^^ (l.getD k 0).toNat)/16) ^^^ Pz (((Xa r (l.take k)) ^^^ (l.getD k 0).toNat)%16))%16)):Int) from Eu (Nat.lt_of_le_of_lt (Nat.div_le_self _ _) h2) (Wk _))) ?_
  refine xw 5 ((k:Int)+1) ?_
  refine xv1 2 0 (show(.int .u32 (↑((((((Xa r (l.take k)) ^^^ (l.getD k 0).toNat)/16) ^^^ Pz (((Xa r (l.take k)) ^^^ (l.getD k 0).toNat)%16))/16) ^^^ Pz (((((Xa r (l.take k)) ^^^ (l.getD k 0).toNat)/16) ^^^ Pz (((Xa r (l.take k)) ^^^ (l.getD k 0).toNat)%16))%16)):Int):Value)=.int .u32 (↑(Xa r (l.take (k+1))):Int) from by rw[Dl (by omega)];rfl) ?_
  exact ze 0 (a4 _ _ _ ⟨k+1,rfl,rfl,a1,a0,by omega⟩ (by omega))
 refine xe 12 (.int .u32 (↑(Xa r (l.take k)):Int)) ?_
 rw[List.take_of_length_le (by omega)]
 exact⟨rfl,a1⟩
end Go.Proofs.YtegcamkgeacjfaaGreatDoor
