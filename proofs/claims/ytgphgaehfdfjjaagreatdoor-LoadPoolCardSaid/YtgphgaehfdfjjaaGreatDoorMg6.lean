/- A region that draws its order, inside a round of a range over a function: walked as everywhere. No program is named here. -/
import Derived.RangeFuncNested
import Derived.RangeFuncBound
import Derived.RangeFuncCalls
import Derived.RangeFuncLeaves
import Derived.OwnWalkIn
import Derived.OrdersIn
import Derived.Shelf.Abstract
import Derived.Shelf.RegionOpen
import Derived.TacticsInMore
import Derived.LoopNIn
import Derived.LoopIn
import Derived.Sort.BigQuietIn
import Derived.Test.YtgphgaehfdfjjaaGreatDoorMg5
namespace Go.Proofs.YtgphgaehfdfjjaaGreatDoor
set_option maxHeartbeats 8000000
set_option maxRecDepth 100000
open Go.RowKit
set_option linter.unusedVariables false
theorem rows_in{n:Nat}{P:Program}{row:String}{args:Array Value}{w:World}{R:Value→World→Prop}(h:Rows P row args w R):RowsIn Fence.wide n P row args w R :=
 fun c cs _=>let ⟨v,w',r,q⟩:=h c cs;⟨v,w',r,stepsIn_wide.2 q⟩
theorem oper_in{P:Program}{l n:Nat}{o:Oper}{a:Act}{w:World}{K:Act→World→Prop}{Q:Exit→Act→World→Prop}(hd:∀ c,o.op≠.defer c)(h:o.wp P a w K Q):o.wpIn (Fence.wide.inRound l) n P a w K Q:=by
 unfold Oper.wpIn
 refine⟨fun f _=>trivial,?_⟩
 rw[Oper.semAt_plain _ _ _ hd]
 unfold Oper.wp at h
 generalize (execOp a.eval o).run P w=r at *
 cases r with
 | ok nx w' =>
  cases nx with
  | value v=>exact h
  | skip=>exact h
  | defer d=>exact h
  | enter f args=>exact⟨(fun q=>by cases q),callsIn_wide.2 h⟩
  | row r args=>exact⟨(fun q=>by cases q),rows_in h⟩
  | _=>exact h.elim
 | halt hh w' =>
  cases hh with
  | panic v=>exact h
  | _=>exact h.elim
theorem op_in{P:Program}{l n i:Nat}{ops:Array Oper}{a:Act}{w:World}{K K':Act→World→Prop}{Q:Exit→Act→World→Prop}(hQ:¬ LetsOut Q)(hd:∀ o∈ops.toList,∀ c,o.op≠.defer c)(hK:∀ a w,K a w→K' a w)(h:wpOp P ops Q i K a w):wpOpIn (Fence.wide.inRound l) n P ops Q i K' a w:=by
 unfold wpOp at h
 unfold wpOpIn
 cases ho:ops[i]? with
 | none=>rw[ho] at h;exact hK _ _ h
 | some o =>
  rw[ho] at h
  dsimp only at h ⊢
  split at h
  ·rename_i hw
   rw[if_pos hw]
   have a0:o∈ops.toList:=by
    obtain⟨hi,e⟩:=Array.getElem?_eq_some_iff.1 ho
    rw[←e];exact Array.mem_toList_iff.2 (Array.getElem_mem hi)
   exact Oper.wpIn_mono hK (oper_in (hd o a0) (h.resolve_right fun q=>hQ q.2))
  ·rename_i hw
   rw[if_neg hw]
   exact⟨fun f _=>trivial,hK _ _ h⟩
theorem any_in{P:Program}{l n:Nat}{md:Region.Mode}{ops:Array Oper}{Q:Exit→Act→World→Prop}(hQ:¬ LetsOut Q)(hd:∀ o∈ops.toList,∀ c,o.op≠.defer c):∀ (fuel:Nat) (L:Array Bool) (a:Act) (w:World),wpAny P md ops Q fuel L a w→wpAnyIn (Fence.wide.inRound l) n P md ops Q fuel L a w
 | 0,_,_,_,h=>h
 | fuel+1,L,a,w,h=>⟨h.1,fun i hi=>op_in hQ hd (fun a w=>any_in hQ hd fuel _ a w) (h.2 i hi)⟩
theorem h_regIn{P:Program}{l0 n0 id:Nat}{l:List Oper}{Q:Exit→Act→World→Prop}{a:Act}{w:World}(S:World→Prop)(n:Nat)(hn:l.toArray.size=n)(L:Array Bool)(hL:Array.replicate n false=L)(hm:P.follows .mixedOrders=true)(hQ:¬ LetsOut Q)(hd:∀ o∈l,∀ c,o.op≠.defer c)(hS:S w.drew)(h:S w.drew→wpAnyH P .any l.toArray Q S n L a w.drew):(Code.region id l.toArray true).wpIn (Fence.wide.inRound l0) n0 P Q a w :=
 wpIn_region_any hm (any_in hQ (by simpa using hd) _ _ _ _ (wpAny_of_held _ _ _ _ (by rw[hn,hL];exact h hS)))
def SeqL{α:Type}(P:Program)(g:Nat)(lb:Array Value)(encs:α→Array Value)(Kp:World→World→Prop)(q:Nat→Prop)(R:List α)(w:World):Prop :=
 ∀ (l:Nat) (J Jx:Nat→World→Prop) (W:World),B0 w W →
  (∀ k A B row,J k A→A.grownBy B row→(∀ r,row=some r→q r)→J k B) →
  (∀ k x V,R[k]? = some x→J k V→YieldAt Fence.wide 2 P l (encs x) V fun e U =>
   (e=.returned (.bool true)∧J (k+1) U∧Kp V U)∨(e=.returned (.bool false)∧Jx k U)) →
  J 0 W →
  CallsIn Fence.wide 3 P g (#[.func (.yield l) #[] #[]]++lb) W fun e U=>(∃ v,e=.returned v)∧(J R.length U∨∃ k,k<R.length∧Jx k U)
def rdPost(B:Nat)(Kp:World→World→Prop)(I:Nat→World→Prop)(Ix:Code→Nat→World→Prop)(k:Nat)(W:World):Exit→Act→World→Prop
 | .normal,_,V=>KeepsFrom B W V∧Kp W V∧I (k+1) V
 | .ret,_,V=>KeepsFrom B W V∧Ix .ret k V
 | .exit id,_,V=>KeepsFrom B W V∧Ix (.exit id) k V
 | .goto _,_,_=>False
 | .panic _,_,_=>False
 | .outgrown,_,_=>False
structure RecAt(n:Nat)(r:Loop)(W:World):Prop where
 l:W.heap[n+1]? = some (.loop r)
 d:W.heap[n]? = some (.deferred (some []))
theorem RecAt.lt{n:Nat}{r:Loop}{W:World}(h:RecAt n r W):n+1<W.heap.size:=(Array.getElem?_eq_some_iff.1 h.l).1
theorem RecAt.kept{n:Nat}{r:Loop}{A B:World}{row:Option Nat}(h:RecAt n r A)(hg:A.grownBy B row)(hr:∀ k,row=some k→k<n):RecAt n r B :=
 ⟨(hg.block _ h.lt (fun e=>by have:=hr _ e.symm;omega)).trans h.l,(hg.block _ (by have:=h.lt;omega) (fun e=>by have:=hr _ e.symm;omega)).trans h.d⟩
theorem RecAt.from{n:Nat}{r:Loop}{A B:World}(h:RecAt n r A)(k:KeepsFrom n A B):RecAt n r B:=⟨k.same _ _ (by omega) h.l rfl,k.same _ _ (Nat.le_refl _) h.d rfl⟩
theorem RecAt.put{n:Nat}{r:Loop}{A:World}(h:RecAt n r A)(r':Loop):RecAt n r' (A.putObj (n+1) (.loop r')) :=
 ⟨World.putObj_heap_same h.lt,(World.putObj_heap_other (by omega)).trans h.d⟩
theorem Zay{α:Type}{P:Program}{g:Operand}{ps:Array Tmp}{assign body:Code}{Q:Exit→Act→World→Prop}{a:Act}{w:World}{gf:Nat}{lb:Array Value}
  (hg:a.eval g=.func (.func gf) #[] lb) (eg:∀ args w,(callFunc gf args).run P w=.ok (.enter gf args) w) {encs:α→Array Value} {R:List α} (p q:Nat→Prop) (hp:∀ b,p b→b<w.heap.size) (hq:∀ b,q b→b<w.heap.size)
  (hseq:SeqL P gf lb encs (Keeps p) q R w) (hps:∀ x,(encs x).size=ps.size)
  (I:Nat→World→Prop) (Ix:Code→Nat→World→Prop) (hI:∀ k A B row,I k A→A.grownBy B row→(∀ r,row=some r→q r∨w.heap.size≤r∧∃ o:Obj,A.heap[r]? = some o∧o.isCells=false)→I k B)
  (hIx:∀ c k A B row,Ix c k A→A.grownBy B row→(∀ r,row=some r→w.heap.size≤r∧∃ o:Obj,A.heap[r]? = some o∧o.isCells=false)→Ix c k B) (h0:I 0 w) (a₁:α→Act)
  (hassign:∀ (l k:Nat) (x:α) (W:World) (K:Act→World→Prop),R[k]? = some x→K (a₁ x) W →
   assign.wpIn (Fence.wide.inRound l) 2 P (Exit.then K (fun _ _ _=>False)) { tmps:=(ps.zip (encs x)).foldl (fun t (p,v)=>t.setIfInBounds p v) a.tmps,defers:=[] } W)
  (hbody:∀ (l k:Nat) (x:α) (W:World),w.heap.size≤l→R[k]? = some x→I k W→body.wpIn (Fence.wide.inRound l) 2 P (rdPost w.heap.size (Keeps p) I Ix k W) (a₁ x) W)
  (hdone:∀ (D:Nat) (W:World),w.heap.size≤D→I R.length W→W.heap[D]? = some (.deferred (some []))→Q .normal { a with defers:={ target:=.collected D,args:=#[] }::a.defers } W)
  (hstop:∀ (D:Nat) (c:Code) (k:Nat) (W:World),w.heap.size≤D→k<R.length→Ix c k W→W.heap[D]? = some (.deferred (some []))→c.wp P Q { a with defers:={ target:=.collected D,args:=#[] }::a.defers } W) :
  (Code.rangeFunc g ps assign body).wp P Q a w:=by
 refine(wpIn_wide (n:=4)).1 (wpIn_rangeFunc fun fn _=>?_)
 obtain⟨a2,a0⟩:∃ a2:LoopState→Option Code→Loop,a2=fun st pe=>{ state:=st,pending:=pe,fn,tmps:=a.tmps,params:=ps,assign,body,defers:=w.heap.size }:=⟨_,rfl⟩
 obtain⟨W1,b0⟩:∃ W1,(w.alloc (.deferred (some []))).alloc (.loop (a2 .ready none))=W1:=⟨_,rfl⟩
 have b9:RecAt w.heap.size (a2 .ready none) W1:=by
  rw[←b0]
  refine⟨?_,(Below.heap_alloc _ _ _ (by simp)).trans (World.alloc_heap_new w _)⟩
  have:=World.alloc_heap_new (w.alloc (.deferred (some []))) (.loop (a2 .ready none))
  rwa [World.size_alloc] at this
 have b7:I 0 W1:=by
  rw[←b0]
  exact hI _ _ _ none (hI _ _ _ none h0 (World.grownBy_alloc _ _ _) (fun _ e=>by cases e)) (World.grownBy_alloc _ _ _) (fun _ e=>by cases e)
 have c0:B0 w W1:=by
  rw[←b0];exact((Below.refl _ w).alloc (Nat.le_refl _) _).alloc (by simp) _
 refine⟨w.heap.size+1,[{ target:=.collected w.heap.size,args:=#[] }],W1,{ target:=.fn (.func gf) lb,args:=#[.func (.yield (w.heap.size+1)) #[] #[]] },W1,gf,
  #[.func (.yield (w.heap.size+1)) #[] #[]]++lb,W1,?_,?_,fun _ _=>trivial,?_,fun _=>by omega,?_⟩
 ·rw[←b0,a0];exact run_enterLoop_outer _ _ _ _ _
 ·simp only[resolve,hg]
  simp[go_sem]
 ·simp[invoke,go_sem,eg]
 refine(hseq (w.heap.size+1) (fun k W=>I k W∧RecAt w.heap.size (a2 .ready none) W) (fun k W=>∃ c,Ix c k W∧RecAt w.heap.size (a2 .done (some c)) W) W1 c0
  (fun k A B row hs b4 hr=>⟨hI _ _ _ _ hs.1 b4 (fun r e=>.inl (hr r e)),hs.2.kept b4 (fun r e=>hq r (hr r e))⟩) ?_ ⟨b7,b9⟩).mono ?_
 ·rintro k x W hx ⟨hi,hl⟩
  have hy:=run_yield (P:=P) (args:=encs x) hl.l (by rw[a0];exact hps x)
  rw[a0] at hy
  refine⟨fn,_,assign,body,hy,roundIn_of_wpIn trivial (hassign _ k x W _ hx ⟨_,run_beginRound hl.l (by rw[a0]),?_⟩)⟩
  obtain⟨Wb,a8⟩:∃ Wb,W.putObj (w.heap.size+1) (.loop { a2 .ready none with state:=.busy })=Wb:=⟨_,rfl⟩
  have b8:RecAt w.heap.size (a2 .busy none) Wb:=by
   have:=hl.put (a2 .busy none)
   rw[a0] at this a8
   rw[a8] at this
   rw[a0]
   exact this
  have b5:I k Wb:=by
   rw[←a8]
   exact hI _ _ _ _ hi (grownBy_putObj' W _ _) (fun r e=>.inr (by cases e;exact⟨by omega,_,hl.l,rfl⟩))
  have b6:Keeps p W Wb:=by
   rw[←a8]
   exact Zbz hp W _ _ _ (by omega) hl.l rfl rfl
  rw[a8]
  refine wpIn_mono (hbody _ k x Wb (by omega) hx b5) ?_
  have b1:∀ (a1:Option Code) (V:World),KeepsFrom w.heap.size Wb V→RecAt w.heap.size (a2 .busy none) V∧∃ U,U=V.putObj (w.heap.size+1) (.loop (a2 (if a1.isNone then .ready else .done) a1)) ∧
    (Instr.endRound (w.heap.size+1) a1).run P V=.ok (.bool a1.isNone) U∧RecAt w.heap.size (a2 (if a1.isNone then .ready else .done) a1) U:=fun a1 V hk=>by
   have hv:=b8.from hk
   have he:=run_endRound (P:=P) a1 hv.l
   refine⟨hv,_,rfl,?_,hv.put _⟩
   rw[a0] at he ⊢
   exact he
  have b3:∀ {V:World} {r r':Loop} {k:Nat},RecAt w.heap.size r V→I k V→I k (V.putObj (w.heap.size+1) (.loop r')):=fun hv h=>hI _ _ _ _ h (grownBy_putObj' _ _ _) (fun r e=>.inr (by cases e;exact⟨by omega,_,hv.l,rfl⟩))
  have a6:∀ {V:World} {r r':Loop} {c:Code} {k:Nat},RecAt w.heap.size r V→Ix c k V→Ix c k (V.putObj (w.heap.size+1) (.loop r')):=fun hv h=>hIx _ _ _ _ _ h (grownBy_putObj' _ _ _) (fun r e=>by cases e;exact⟨by omega,_,hv.l,rfl⟩)
  rintro e a3 V a4
  cases e with
  | normal =>
   obtain⟨a5,b2,a7⟩:=a4
   obtain⟨hv,U,rfl,hr,a9⟩:=b1 none V a5
   exact⟨_,_,hr,.inl ⟨rfl,⟨b3 hv a7,a9⟩,(b6.trans b2).trans (Zbz hp V _ _ _ (by omega) hv.l rfl rfl)⟩⟩
  | ret =>
   obtain⟨a5,a7⟩:=a4
   obtain⟨hv,U,rfl,hr,a9⟩:=b1 (some .ret) V a5
   exact⟨_,_,hr,.inr ⟨rfl,.ret,a6 hv a7,a9⟩⟩
  | exit id =>
   obtain⟨a5,a7⟩:=a4
   obtain⟨hv,U,rfl,hr,a9⟩:=b1 (some (.exit id)) V a5
   exact⟨_,_,hr,.inr ⟨rfl,.exit id,a6 hv a7,a9⟩⟩
  | goto t=>exact a4.elim
  | panic ch=>exact a4.elim
  | outgrown=>exact a4.elim
 ·rintro e W2 ⟨⟨v,rfl⟩,(⟨hi,hl⟩|⟨k,hk,c,hi,hl⟩)⟩
  ·have he:=run_endLoop (P:=P) hl.l (by rw[a0];simp)
   rw[show(a2 .ready none).pending=none by rw[a0]] at he
   exact⟨none,_,he,hdone _ _ (Nat.le_refl _) (hI _ _ _ _ hi (grownBy_putObj' _ _ _) (fun r e=>.inr (by cases e;exact⟨by omega,_,hl.l,rfl⟩))) ((World.putObj_heap_other (by omega)).trans hl.d)⟩
  ·have he:=run_endLoop (P:=P) hl.l (by rw[a0];simp)
   rw[show(a2 .done (some c)).pending=some c by rw[a0]] at he
   exact⟨some c,_,he,wpIn_wide.2 (hstop _ c k _ (Nat.le_refl _) hk (hIx _ _ _ _ _ hi (grownBy_putObj' _ _ _) (fun r e=>by cases e;exact⟨by omega,_,hl.l,rfl⟩)) ((World.putObj_heap_other (by omega)).trans hl.d))⟩
end Go.Proofs.YtgphgaehfdfjjaaGreatDoor
namespace Go.Proofs.YtgphgaehfdfjjaaGreatDoor
set_option maxHeartbeats 8000000
set_option maxRecDepth 100000
open Go.RowKit Go.Extern.Stop Go.Stop Go.Extern
set_option linter.unusedVariables false
attribute [local irreducible] wpList wpAnyH Code.wp Oper.wp Go
abbrev Rnd:=Option Nat×Option Nat
def Xs(i j:Nat)(a b:List Ent):List Rnd :=
 match a,b with
 | [],[]=>[]
 | [],_::b=>(none,some j)::Xs i (j+1) [] b
 | _::a,[]=>(some i,none)::Xs (i+1) j a []
 | x::a,y::b =>
  if x.1=y.1 then(some i,some j)::Xs (i+1) (j+1) a b
  else if x.1<y.1 then(some i,none)::Xs (i+1) j a (y::b)
  else(none,some j)::Xs i (j+1) (x::a) b
termination_by a.length+b.length
theorem Ef(i j:Nat):Xs i j [] []=[]:=by rw[Xs]
theorem Ff(i j:Nat)(y:Ent)(b:List Ent):Xs i j [] (y::b)=(none,some j)::Xs i (j+1) [] b:=by rw[Xs]
theorem Ec(i j:Nat)(x:Ent)(a:List Ent):Xs i j (x::a) []=(some i,none)::Xs (i+1) j a []:=by rw[Xs]
theorem Fx{i j:Nat}{x y:Ent}{a b:List Ent}(h:x.1=y.1):Xs i j (x::a) (y::b)=(some i,some j)::Xs (i+1) (j+1) a b:=by rw[Xs,if_pos h]
theorem Dt{i j:Nat}{x y:Ent}{a b:List Ent}(h:x.1<y.1):Xs i j (x::a) (y::b)=(some i,none)::Xs (i+1) j a (y::b):=by rw[Xs,if_neg (by omega),if_pos h]
theorem Rg{i j:Nat}{x y:Ent}{a b:List Ent}(h:y.1<x.1):Xs i j (x::a) (y::b)=(none,some j)::Xs i (j+1) (x::a) b:=by rw[Xs,if_neg (by omega),if_neg (by omega)]
def Zbr(r:Rnd):Bool:=r.1.isSome&&r.2.isSome
theorem Fh:∀ (a b:List Ent) (i j:Nat),(Xs i j a b).all Zbr=true→Qd a b=0∧Xs i j a b=(List.range a.length).map fun k=>(some (i+k),some (j+k))
 | [],[],i,j,_=>⟨rfl,by rw[Ef];rfl⟩
 | [],y::b,i,j,h=>by rw[Ff] at h;simp[Zbr] at h
 | x::a,[],i,j,h=>by rw[Ec] at h;simp[Zbr] at h
 | x::a,y::b,i,j,h=>by
  by_cases e:x.1=y.1
  ·rw[Fx e] at h ⊢
   rw[List.all_cons] at h
   obtain⟨h1,h2⟩:=Fh a b (i+1) (j+1) (by simpa [Zbr] using h)
   refine⟨?_,?_⟩
   ·show(if x.1=y.1 then Qd a b else _)=0
    rw[if_pos e,h1]
   ·rw[h2,List.length_cons,List.range_succ_eq_map,List.map_cons,List.map_map]
    congr 1
    apply List.map_congr_left
    intro k _
    simp only[Function.comp,Nat.succ_eq_add_one]
    congr 2<;>omega
  ·by_cases q:x.1<y.1
   ·rw[Dt q] at h;simp[Zbr] at h
   ·rw[Rg (by omega)] at h;simp[Zbr] at h
theorem Uu:∀ (a b:List Ent) (i j k:Nat) (r:Rnd),((Xs i j a b).take k).all Zbr=true→(Xs i j a b)[k]? = some r→Zbr r=false→Qd a b=(if r.1=none then 1 else 2)
 | [],[],i,j,k,r,_,h,_=>by rw[Ef] at h;simp at h
 | [],y::b,i,j,k,r,hp,h,hr=>by
  rw[Ff] at hp h
  cases k with
  | zero=>simp at h;subst h;rfl
  | succ k=>simp[Zbr] at hp
 | x::a,[],i,j,k,r,hp,h,hr=>by
  rw[Ec] at hp h
  cases k with
  | zero=>simp at h;subst h;rfl
  | succ k=>simp[Zbr] at hp
 | x::a,y::b,i,j,k,r,hp,h,hr=>by
  by_cases e:x.1=y.1
  ·rw[Fx e] at hp h
   cases k with
   | zero=>simp at h;subst h;simp[Zbr] at hr
   | succ k =>
    have ih:=Uu a b (i+1) (j+1) k r (by simpa [Zbr] using hp) (by simpa using h) hr
    show(if x.1=y.1 then Qd a b else _)=_
    rw[if_pos e,ih]
  ·by_cases q:x.1<y.1
   ·rw[Dt q] at hp h
    cases k with
    | zero =>
     simp at h;subst h
     show(if x.1=y.1 then Qd a b else if x.1<y.1 then 2 else 1)=2
     rw[if_neg e,if_pos q]
    | succ k=>simp[Zbr] at hp
   ·rw[Rg (by omega)] at hp h
    cases k with
    | zero =>
     simp at h;subst h
     show(if x.1=y.1 then Qd a b else if x.1<y.1 then 2 else 1)=1
     rw[if_neg e,if_neg q]
    | succ k=>simp[Zbr] at hp
end Go.Proofs.YtgphgaehfdfjjaaGreatDoor
namespace Go.Proofs.YtgphgaehfdfjjaaGreatDoor
set_option maxHeartbeats 8000000
set_option maxRecDepth 100000
open Go.RowKit
set_option linter.unusedVariables false
attribute [local go_sem] Oper.semAt_some
def Zcw(g off n cap:Nat)(i:Nat)(v:Value):Prop:=(i=n∧∃ a c,v=.slice a 0 c)∨(i<n∧n≤cap∧v=.slice (some ⟨g,off+3*i,none⟩) (n-i) (cap-i))
def Dc(g off:Nat):Option Nat→Value
 | none=>.pointer none
 | some i=>.pointer (some ⟨g,off+3*i,none⟩)
def encR(ga oa gb ob:Nat)(r:Rnd):Array Value:=#[Dc ga oa r.1,Dc gb ob r.2]
def lenAt(W:World)(b:Nat):Nat:=match W.cell? ⟨b,0,none⟩ with
 | some (.slice _ n _)=>n
 | _=>0
theorem Yl{W:World}{b n c:Nat}{a:O0}{t:TypeId}(h:Blk W b [.slice a n c] t):lenAt W b=n:=by
 unfold lenAt
 rw[h.cell (i:=0) rfl]
theorem Wj{α:Type}{L:List α}{k:Nat}{x:α}{r:List α}(h:L.drop k=x::r):L[k]? = some x∧k<L.length∧L.drop (k+1)=r:=by
 have h1:k<L.length:=by
  rcases Nat.lt_or_ge k L.length with q|q
  ·exact q
  ·rw[List.drop_eq_nil_of_le q] at h;cases h
 rw[List.drop_eq_getElem_cons h1] at h
 simp only[List.cons.injEq] at h
 exact⟨by rw[List.getElem?_eq_getElem h1,h.1],h1,h.2⟩
theorem Gj{A:List Ent}{i n:Nat}(hA:A.length=n)(hi:i<n):A.drop i=A.getD i Zn::A.drop (i+1):=by
 subst hA
 rw[List.drop_eq_getElem_cons hi,show A.getD i Zn=A[i] from by simp[List.getD,hi]]
theorem Pq{T:Nat→Prop}{W X V:World}{B k B1 B2:Nat}{u x:Value}{t:TypeId}{J:Nat→World→Prop}(hV:X.setCell ⟨B,0,none⟩ u=V)(m:Blk X B [x] t)(hT:¬ T B)(hB:B=B1∨B=B2)
 (hJ:∀ k X Y row,J k X→X.grownBy Y row→(∀ r,row=some r→r=B1∨r=B2)→J k Y) (hK:Keeps T W X) (h:J k X):Blk V B [u] t∧Keeps T W V∧J k V∧∀ b cs t',b≠B→Blk X b cs t'→Blk V b cs t':=by
 subst hV
 exact⟨m.set 0 u,hK.setCell hT u,hJ _ _ _ _ h (grownBy_setCell' X B u) (fun r e=>by cases e;exact hB),fun b cs t' hb h'=>h'.other (p:=⟨B,0,none⟩) hb u⟩
theorem Gq{T:Nat→Prop}{W X:World}{N k B1 B2:Nat}{J:Nat→World→Prop}(hJ:∀ k X Y row,J k X→X.grownBy Y row→(∀ r,row=some r→r=B1∨r=B2)→J k Y)(hK:Keeps T W X)(h:J k X):Keeps T W (X.drewN N)∧J k (X.drewN N) :=
 ⟨hK.trans ⟨Nat.le_refl _,fun _ _=>rfl⟩,hJ _ _ _ none h ⟨rfl,rfl,rfl,Nat.le_refl _,fun _ _ _=>rfl⟩ (fun _ e=>by cases e)⟩
theorem Jy{g off n cap i m:Nat}(hi:i<n)(hm:n-i=m+1)(hc:n≤cap):(cap-i=1→Zcw g off n cap (i+1) (.slice (some ⟨g,off+3*i,none⟩) m 0))∧(Zcw g off n cap (i+1) (.slice (some ⟨g,off+3*i+3,none⟩) m (cap-i-1))):=by
 refine⟨fun h=>?_,?_⟩
 ·obtain rfl:m=0:=by omega
  exact .inl ⟨by omega,_,_,rfl⟩
 ·by_cases h:m=0
  ·subst h;exact .inl ⟨by omega,_,_,rfl⟩
  ·refine .inr ⟨by omega,hc,?_⟩
   rw[show off+3*(i+1)=off+3*i+3 by omega,show n-(i+1)=m by omega,show cap-(i+1)=cap-i-1 by omega]
theorem Vz{T:Nat→Prop}{V U:World}{b:Nat}{cs:List Value}{t:TypeId}(h:Keeps T V U)(hb:T b)(m:Blk V b cs t):Blk U b cs t:=(h.block b hb).trans m
theorem pairs1_in(l B1 B2:Nat)(ga oa na ca gb ob nb cb:Nat)(A E:List Ent)(hA:A.length=na)(hE:E.length=nb)(hna:na≤1000000)(hnb:nb≤1000000)(hB:B1≠B2)(T:Nat→Prop)(hT1:¬ T B1)(hT2:¬ T B2)
  (J Jx:Nat→World→Prop)
  (hJ:∀ k X Y row,J k X→X.grownBy Y row→(∀ r,row=some r→r=B1∨r=B2)→J k Y)
  (hY:∀ k x V,(Xs 0 0 A E)[k]? = some x→J k V→YieldAt Fence.wide 2 Tryz.prog l (encR ga oa gb ob x) V fun e U =>
   (e=.returned (.bool true)∧J (k+1) U∧Keeps (fun b=>b=B1∨b=B2∨T b) V U)∨(e=.returned (.bool false)∧Jx k U))
  (W:World) (va vb:Value) (k1:Blk W B1 [va] 101) (k2:Blk W B2 [vb] 101) (hva:Zcw ga oa na ca 0 va) (hvb:Zcw gb ob nb cb 0 vb)
  (hkA:∀ i,i<na→W.cell? ⟨ga,oa+3*i,none⟩=some (V0 (A.getD i Zn).1)∧T ga) (hkE:∀ i,i<nb→W.cell? ⟨gb,ob+3*i,none⟩=some (V0 (E.getD i Zn).1)∧T gb) (h0:J 0 W) :
  CallsIn Fence.wide 3 Tryz.prog 142 #[.func (.yield l) #[] #[],P0 B1,P0 B2] W fun e W'=>(∃ v,e=.returned v)∧(J (Xs 0 0 A E).length W'∨∃ k,k<(Xs 0 0 A E).length∧Jx k W'):=by
 refine callsIn_of_wp Tryz.func142 rfl trivial ?_ rfl
 simp only[Tryz.ntmps142,List.size_toArray,List.length_cons,List.length_nil,Nat.reduceAdd,Nat.reduceSub,Array.replicate_succ,Array.replicate_zero,List.push_toArray,List.append_toArray,List.nil_append,List.cons_append]
 gi_wp2
 gi_loopw [] (fun wr=>∃ (k i j:Nat) (va vb:Value),i≤na∧j≤nb∧k≤(Xs 0 0 A E).length∧(Xs 0 0 A E).drop k=Xs i j (A.drop i) (E.drop j)∧Blk wr B1 [va] 101∧Blk wr B2 [vb] 101∧Zcw ga oa na ca i va∧Zcw gb ob nb cb j vb∧J k wr∧Keeps T W wr)
  (fun wr=>lenAt wr B1+lenAt wr B2)
 case atStart=>exact⟨0,0,0,va,vb,Nat.zero_le _,Nat.zero_le _,Nat.zero_le _,by simp,k1,k2,hva,hvb,h0,Keeps.refl _ _⟩
 case round =>
  obtain⟨k,i,j,va,vb,hi,hj,hk,d4,m1,m2,hva,hvb,b3,a8⟩:=hrel
  have c5:=hva
  have d0:=hvb
  rcases hva with ⟨rfl,a1,c1,rfl⟩|⟨a4,b5,rfl⟩
  ·rcases hvb with ⟨rfl,a2,c2,rfl⟩|⟨a3,d7,rfl⟩
   ·have e0:(Xs 0 0 A E).drop k=[]:=by rw[d4,show A.drop i=[] from List.drop_eq_nil_of_le (by omega),show E.drop j=[] from List.drop_eq_nil_of_le (by omega),Ef]
    have e4:k=(Xs 0 0 A E).length:=by
     have:=List.drop_eq_nil_iff.1 e0;omega
    have z1:=m1.cell (i:=0) rfl
    have z2:=m2.cell (i:=0) rfl
    have f1:=m1.frozen 0
    have f2:=m2.frozen 0
    gi_wp2
    go_end0
    exact⟨⟨_,rfl⟩,.inl (e4▸b3)⟩
   ·have b8:(Xs 0 0 A E).drop k=(none,some j)::Xs i (j+1) (A.drop i) (E.drop (j+1)):=by rw[d4,show A.drop i=[] from List.drop_eq_nil_of_le (by omega),Gj hE a3,Ff]
    obtain⟨hx,b0,a7⟩:=Wj b8
    obtain⟨p,hp⟩:∃ m,nb-j=m+1:=⟨nb-j-1,by omega⟩
    rw[hp] at m2
    have b4:=Jy (g:=gb) (off:=ob) a3 hp d7
    have d6:=Lib.hid hp;clear hp
    have y2:wr.cell? ⟨gb,ob+3*j,none⟩=some (V0 (E.getD j Zn).1):=(a8.cell (hkE j a3).2).trans (hkE j a3).1
    have b9:=Yl m1
    have c9:=Yl m2
    have z1:=m1.cell (i:=0) rfl
    have z2:=m2.cell (i:=0) rfl
    have f1:=m1.frozen 0
    have f2:=m2.frozen 0
    gi_wp2
    gi_big_quiet_th (fail)
    gi_wp2
    gi_big_quiet_th (fail)
    gi_wp2
    all_goals
     generalize hV:World.setCell _ _ _=V
     obtain⟨q2,c7,c6,c4⟩:=Pq (x:=_) (B1:=B1) (B2:=B2) hV m2 hT2 (.inr rfl) hJ (Gq hJ a8 b3).1 (Gq hJ a8 b3).2
     have q1:=c4 _ _ _ hB m1
     obtain⟨fn,b6,a5,c0,hy,hR⟩:=hY k (none,some j) V hx c6
     have a9:=hy;clear hy
     simp only[encR,Dc] at a9
     rw[a9]
     refine⟨fun _=>by omega,hR.mono ?_⟩
     rintro e U (⟨rfl,c8,a0⟩|⟨rfl,a6⟩)
     ·have r1:=Vz a0 (.inl rfl) q1
      have r2:=Vz a0 (.inr (.inl rfl)) q2
      have d3:=Yl r1
      have b7:=Yl r2
      gi_wp2
      go_roundw
      case rel =>
       exact⟨k+1,_,j+1,_,_,hi,a3,b0,a7,r1,r2,(by first|exact c5|(rw[←d5.out];exact c5)),(by first|exact b4.2|exact b4.1 (by omega)),c8,c7.trans ⟨a0.size,fun b hb=>a0.block b (.inr (.inr hb))⟩⟩
      case measure=>rw[d3,b7,b9,c9];omega
     ·gi_wp2
      refine bodyPost_ret (results_none rfl _ _ _) rfl ?_
      exact⟨⟨_,rfl⟩,.inr ⟨k,b0,a6⟩⟩
  ·rcases hvb with ⟨rfl,a2,c2,rfl⟩|⟨a3,d7,rfl⟩
   ·have b8:(Xs 0 0 A E).drop k=(some i,none)::Xs (i+1) j (A.drop (i+1)) (E.drop j):=by rw[d4,show E.drop j=[] from List.drop_eq_nil_of_le (by omega),Gj hA a4,Ec]
    obtain⟨hx,b0,a7⟩:=Wj b8
    obtain⟨m,hm⟩:∃ m,na-i=m+1:=⟨na-i-1,by omega⟩
    rw[hm] at m1
    have c3:=Jy (g:=ga) (off:=oa) a4 hm b5
    have d5:=Lib.hid hm;clear hm
    have y1:wr.cell? ⟨ga,oa+3*i,none⟩=some (V0 (A.getD i Zn).1):=(a8.cell (hkA i a4).2).trans (hkA i a4).1
    have b9:=Yl m1
    have c9:=Yl m2
    have z1:=m1.cell (i:=0) rfl
    have z2:=m2.cell (i:=0) rfl
    have f1:=m1.frozen 0
    have f2:=m2.frozen 0
    gi_wp2
    gi_big_quiet_th (fail)
    gi_wp2
    gi_big_quiet_th (fail)
    gi_wp2
    all_goals
     generalize hV:World.setCell _ _ _=V
     obtain⟨q1,c7,c6,c4⟩:=Pq (x:=_) (B1:=B1) (B2:=B2) hV m1 hT1 (.inl rfl) hJ (Gq hJ a8 b3).1 (Gq hJ a8 b3).2
     have q2:=c4 _ _ _ (Ne.symm hB) m2
     obtain⟨fn,b6,a5,c0,hy,hR⟩:=hY k (some i,none) V hx c6
     have a9:=hy;clear hy
     simp only[encR,Dc] at a9
     rw[a9]
     refine⟨fun _=>by omega,hR.mono ?_⟩
     rintro e U (⟨rfl,c8,a0⟩|⟨rfl,a6⟩)
     ·have r1:=Vz a0 (.inl rfl) q1
      have r2:=Vz a0 (.inr (.inl rfl)) q2
      have d3:=Yl r1
      have b7:=Yl r2
      gi_wp2
      go_roundw
      case rel =>
       exact⟨k+1,i+1,_,_,_,a4,hj,b0,a7,r1,r2,(by first|exact c3.2|exact c3.1 (by omega)),(by first|exact d0|(rw[←d6.out];exact d0)),c8,c7.trans ⟨a0.size,fun b hb=>a0.block b (.inr (.inr hb))⟩⟩
      case measure=>rw[d3,b7,b9,c9];omega
     ·gi_wp2
      refine bodyPost_ret (results_none rfl _ _ _) rfl ?_
      exact⟨⟨_,rfl⟩,.inr ⟨k,b0,a6⟩⟩
   ·by_cases hc:(A.getD i Zn).1=(E.getD j Zn).1
    ·have b8:(Xs 0 0 A E).drop k=(some i,some j)::Xs (i+1) (j+1) (A.drop (i+1)) (E.drop (j+1)):=by rw[d4,Gj hA a4,Gj hE a3,Fx hc]
     obtain⟨hx,b0,a7⟩:=Wj b8
     obtain⟨m,hm⟩:∃ m,na-i=m+1:=⟨na-i-1,by omega⟩
     rw[hm] at m1
     have c3:=Jy (g:=ga) (off:=oa) a4 hm b5
     have d5:=Lib.hid hm;clear hm
     have y1:wr.cell? ⟨ga,oa+3*i,none⟩=some (V0 (A.getD i Zn).1):=(a8.cell (hkA i a4).2).trans (hkA i a4).1
     obtain⟨p,hp⟩:∃ m,nb-j=m+1:=⟨nb-j-1,by omega⟩
     rw[hp] at m2
     have b4:=Jy (g:=gb) (off:=ob) a3 hp d7
     have d6:=Lib.hid hp;clear hp
     have y2:wr.cell? ⟨gb,ob+3*j,none⟩=some (V0 (E.getD j Zn).1):=(a8.cell (hkE j a3).2).trans (hkE j a3).1
     have b9:=Yl m1
     have c9:=Yl m2
     obtain⟨ya,b1⟩:∃ y,(A.getD i Zn).1=y:=⟨_,rfl⟩
     obtain⟨yb,b2⟩:∃ y,(E.getD j Zn).1=y:=⟨_,rfl⟩
     rw[b1] at y1
     rw[b2] at y2
     have d1:decide (ya≤yb)=true:=by simp;omega
     have d2:decide (yb≤ya)=true:=by simp;omega
     have w1:(ya≤yb)=True:=by simp;omega
     have w2:(yb≤ya)=True:=by simp;omega
     have e1:((p:Int)+1==0)=false:=beq_false_of_ne (by omega)
     have e2:((m:Int)+1==0)=false:=beq_false_of_ne (by omega)
     have b1:=Lib.hid b1
     have b2:=Lib.hid b2
     clear d1 d2
     have z1:=m1.cell (i:=0) rfl
     have z2:=m2.cell (i:=0) rfl
     have f1:=m1.frozen 0
     have f2:=m2.frozen 0
     gi_wp2
     gi_big_quiet_th (fail)
     gi_wp2
     gi_big_quiet_th (fail)
     gi_wp2
     all_goals
      generalize hV:World.setCell (World.setCell _ _ _) _ _=V
      generalize hX:World.setCell (World.drewN _ _) _ _=X at hV
      obtain⟨q1,d9,d8,e3⟩:=Pq (x:=_) (B1:=B1) (B2:=B2) hX m1 hT1 (.inl rfl) hJ (Gq hJ a8 b3).1 (Gq hJ a8 b3).2
      obtain⟨q2,c7,c6,c4⟩:=Pq (x:=_) (B1:=B1) (B2:=B2) hV (e3 _ _ _ (Ne.symm hB) m2) hT2 (.inr rfl) hJ d9 d8
      replace q1:=c4 _ _ _ hB q1
      obtain⟨fn,b6,a5,c0,hy,hR⟩:=hY k (some i,some j) V hx c6
      have a9:=hy;clear hy
      simp only[encR,Dc] at a9
      rw[a9]
      refine⟨fun _=>by omega,hR.mono ?_⟩
      rintro e U (⟨rfl,c8,a0⟩|⟨rfl,a6⟩)
      ·have r1:=Vz a0 (.inl rfl) q1
       have r2:=Vz a0 (.inr (.inl rfl)) q2
       have d3:=Yl r1
       have b7:=Yl r2
       gi_wp2
       go_roundw
       case rel =>
        exact⟨k+1,i+1,j+1,_,_,a4,a3,b0,a7,r1,r2,(by first|exact c3.2|exact c3.1 (by omega)),(by first|exact b4.2|exact b4.1 (by omega)),c8,c7.trans ⟨a0.size,fun b hb=>a0.block b (.inr (.inr hb))⟩⟩
       case measure=>rw[d3,b7,b9,c9];omega
      ·gi_wp2
       refine bodyPost_ret (results_none rfl _ _ _) rfl ?_
       exact⟨⟨_,rfl⟩,.inr ⟨k,b0,a6⟩⟩
    ·by_cases hl:(A.getD i Zn).1<(E.getD j Zn).1
     ·have b8:(Xs 0 0 A E).drop k=(some i,none)::Xs (i+1) j (A.drop (i+1)) (E.drop j):=by rw[d4,Gj hA a4,Gj hE a3,Dt hl]
      obtain⟨hx,b0,a7⟩:=Wj b8
      obtain⟨m,hm⟩:∃ m,na-i=m+1:=⟨na-i-1,by omega⟩
      rw[hm] at m1
      have c3:=Jy (g:=ga) (off:=oa) a4 hm b5
      have d5:=Lib.hid hm;clear hm
      have y1:wr.cell? ⟨ga,oa+3*i,none⟩=some (V0 (A.getD i Zn).1):=(a8.cell (hkA i a4).2).trans (hkA i a4).1
      obtain⟨p,hp⟩:∃ m,nb-j=m+1:=⟨nb-j-1,by omega⟩
      rw[hp] at m2
      have b4:=Jy (g:=gb) (off:=ob) a3 hp d7
      have d6:=Lib.hid hp;clear hp
      have y2:wr.cell? ⟨gb,ob+3*j,none⟩=some (V0 (E.getD j Zn).1):=(a8.cell (hkE j a3).2).trans (hkE j a3).1
      have b9:=Yl m1
      have c9:=Yl m2
      obtain⟨ya,b1⟩:∃ y,(A.getD i Zn).1=y:=⟨_,rfl⟩
      obtain⟨yb,b2⟩:∃ y,(E.getD j Zn).1=y:=⟨_,rfl⟩
      rw[b1] at y1
      rw[b2] at y2
      have d1:decide (ya≤yb)=true:=by simp;omega
      have d2:decide (yb≤ya)=false:=by simp;omega
      have w1:(ya≤yb)=True:=by simp;omega
      have w2:(yb≤ya)=False:=by simp;omega
      have e1:((p:Int)+1==0)=false:=beq_false_of_ne (by omega)
      have e2:((m:Int)+1==0)=false:=beq_false_of_ne (by omega)
      have b1:=Lib.hid b1
      have b2:=Lib.hid b2
      clear d1 d2
      have z1:=m1.cell (i:=0) rfl
      have z2:=m2.cell (i:=0) rfl
      have f1:=m1.frozen 0
      have f2:=m2.frozen 0
      gi_wp2
      gi_big_quiet_th (fail)
      gi_wp2
      gi_big_quiet_th (fail)
      gi_wp2
      all_goals
       generalize hV:World.setCell _ _ _=V
       obtain⟨q1,c7,c6,c4⟩:=Pq (x:=_) (B1:=B1) (B2:=B2) hV m1 hT1 (.inl rfl) hJ (Gq hJ a8 b3).1 (Gq hJ a8 b3).2
       have q2:=c4 _ _ _ (Ne.symm hB) m2
       obtain⟨fn,b6,a5,c0,hy,hR⟩:=hY k (some i,none) V hx c6
       have a9:=hy;clear hy
       simp only[encR,Dc] at a9
       rw[a9]
       refine⟨fun _=>by omega,hR.mono ?_⟩
       rintro e U (⟨rfl,c8,a0⟩|⟨rfl,a6⟩)
       ·have r1:=Vz a0 (.inl rfl) q1
        have r2:=Vz a0 (.inr (.inl rfl)) q2
        have d3:=Yl r1
        have b7:=Yl r2
        gi_wp2
        go_roundw
        case rel =>
         exact⟨k+1,i+1,_,_,_,a4,hj,b0,a7,r1,r2,(by first|exact c3.2|exact c3.1 (by omega)),(by first|exact d0|(rw[←d6.out];exact d0)),c8,c7.trans ⟨a0.size,fun b hb=>a0.block b (.inr (.inr hb))⟩⟩
        case measure=>rw[d3,b7,b9,c9];omega
       ·gi_wp2
        refine bodyPost_ret (results_none rfl _ _ _) rfl ?_
        exact⟨⟨_,rfl⟩,.inr ⟨k,b0,a6⟩⟩
     ·have b8:(Xs 0 0 A E).drop k=(none,some j)::Xs i (j+1) (A.drop i) (E.drop (j+1)):=by rw[d4,Gj hA a4,Gj hE a3,Rg (show(E.getD j Zn).1<(A.getD i Zn).1 by omega)]
      obtain⟨hx,b0,a7⟩:=Wj b8
      obtain⟨m,hm⟩:∃ m,na-i=m+1:=⟨na-i-1,by omega⟩
      rw[hm] at m1
      have c3:=Jy (g:=ga) (off:=oa) a4 hm b5
      have d5:=Lib.hid hm;clear hm
      have y1:wr.cell? ⟨ga,oa+3*i,none⟩=some (V0 (A.getD i Zn).1):=(a8.cell (hkA i a4).2).trans (hkA i a4).1
      obtain⟨p,hp⟩:∃ m,nb-j=m+1:=⟨nb-j-1,by omega⟩
      rw[hp] at m2
      have b4:=Jy (g:=gb) (off:=ob) a3 hp d7
      have d6:=Lib.hid hp;clear hp
      have y2:wr.cell? ⟨gb,ob+3*j,none⟩=some (V0 (E.getD j Zn).1):=(a8.cell (hkE j a3).2).trans (hkE j a3).1
      have b9:=Yl m1
      have c9:=Yl m2
      obtain⟨ya,b1⟩:∃ y,(A.getD i Zn).1=y:=⟨_,rfl⟩
      obtain⟨yb,b2⟩:∃ y,(E.getD j Zn).1=y:=⟨_,rfl⟩
      rw[b1] at y1
      rw[b2] at y2
      have d1:decide (ya≤yb)=false:=by simp;omega
      have d2:decide (yb≤ya)=true:=by simp;omega
      have w1:(ya≤yb)=False:=by simp;omega
      have w2:(yb≤ya)=True:=by simp;omega
      have e1:((p:Int)+1==0)=false:=beq_false_of_ne (by omega)
      have e2:((m:Int)+1==0)=false:=beq_false_of_ne (by omega)
      have b1:=Lib.hid b1
      have b2:=Lib.hid b2
      clear d1 d2
      have z1:=m1.cell (i:=0) rfl
      have z2:=m2.cell (i:=0) rfl
      have f1:=m1.frozen 0
      have f2:=m2.frozen 0
      gi_wp2
      gi_big_quiet_th (fail)
      gi_wp2
      gi_big_quiet_th (fail)
      gi_wp2
      all_goals
       generalize hV:World.setCell _ _ _=V
       obtain⟨q2,c7,c6,c4⟩:=Pq (x:=_) (B1:=B1) (B2:=B2) hV m2 hT2 (.inr rfl) hJ (Gq hJ a8 b3).1 (Gq hJ a8 b3).2
       have q1:=c4 _ _ _ hB m1
       obtain⟨fn,b6,a5,c0,hy,hR⟩:=hY k (none,some j) V hx c6
       have a9:=hy;clear hy
       simp only[encR,Dc] at a9
       rw[a9]
       refine⟨fun _=>by omega,hR.mono ?_⟩
       rintro e U (⟨rfl,c8,a0⟩|⟨rfl,a6⟩)
       ·have r1:=Vz a0 (.inl rfl) q1
        have r2:=Vz a0 (.inr (.inl rfl)) q2
        have d3:=Yl r1
        have b7:=Yl r2
        gi_wp2
        go_roundw
        case rel =>
         exact⟨k+1,_,j+1,_,_,hi,a3,b0,a7,r1,r2,(by first|exact c5|(rw[←d5.out];exact c5)),(by first|exact b4.2|exact b4.1 (by omega)),c8,c7.trans ⟨a0.size,fun b hb=>a0.block b (.inr (.inr hb))⟩⟩
        case measure=>rw[d3,b7,b9,c9];omega
       ·gi_wp2
        refine bodyPost_ret (results_none rfl _ _ _) rfl ?_
        exact⟨⟨_,rfl⟩,.inr ⟨k,b0,a6⟩⟩
theorem Zgi(a:O0)(n c:Nat)(b:O0)(m d:Nat)(w:World):C0 85 #[.slice a n c,.slice b m d] w fun e w' =>
 e=.returned (.func (.func 142) #[] #[.pointer (some ⟨w.heap.size,0,none⟩),.pointer (some ⟨w.heap.size+1,0,none⟩)]) ∧
 w'=(w.alloc (.cells #[.slice a n c] 101)).alloc (.cells #[.slice b m d] 101):=by
 go_enter Tryz.func85,Tryz.ntmps85
 go_wp2
 go_ret
 exact⟨rfl,rfl⟩
theorem rest_of{w W:World}{p:O0}{n c:Nat}{A:List Ent}(hA:A.length=n)(s:Sts Ji w (.slice p n c) A)(hb:B0 w W) :
 ∃ g o,Zcw g o n c 0 (.slice p n c)∧(∀ i,i<n→W.cell? ⟨g,o+3*i,none⟩=some (V0 (A.getD i Zn).1)∧g<w.heap.size)∧(n≠0→p=some ⟨g,o,none⟩):=by
 subst hA
 by_cases h0:A.length=0
 ·exact⟨0,0,.inl ⟨h0.symm,p,c,by rw[h0]⟩,fun i hi=>by omega,fun h=>absurd h0 h⟩
 ·have s':Sl w (.slice p A.length c) A.length (A.flatMap Ji):=s
  rcases s' with ⟨a,d,h1,h2,_⟩|⟨g,o,a0,h1,h2,_,h4⟩
  ·simp only[Value.slice.injEq] at h1;omega
  ·simp only[Value.slice.injEq] at h1
   obtain⟨rfl,_,rfl⟩:=h1
   refine⟨g,o,.inr ⟨by omega,h2,by simp⟩,fun i hi=>?_,fun _=>rfl⟩
   have hc:=Ip Xo A i 0 Zn hi (by decide)
   have h5:=h4 (i*3+0) (V0 (A.getD i Zn).1) (hc.trans rfl)
   rw[show o+(i*3+0)=o+3*i by omega] at h5
   refine⟨Nx hb h5,?_⟩
   rcases Nat.lt_or_ge g w.heap.size with q|q
   ·exact q
   ·rw[World.cell?,Array.getElem?_eq_none q] at h5;simp at h5
theorem Ey(a:O0)(n c:Nat)(b:O0)(m d:Nat)(w:World):C0 85 #[.slice a n c,.slice b m d] w (fun e w'=>∃ b1 b2,e=.returned (.func (.func 142) #[] #[P0 b1,P0 b2])∧B0 w w'∧w.heap.size≤b1∧w.heap.size≤b2∧b1≠b2∧Blk w' b1 [.slice a n c] 101∧Blk w' b2 [.slice b m d] 101) :=
 (Zgi a n c b m d w).mono fun e w' ⟨h1,h2⟩=>by
  subst h1 h2
  have h3:(w.alloc (.cells #[.slice a n c] 101)).heap.size=w.heap.size+1:=World.size_alloc _ _
  have k2:=Blk.new (w.alloc (.cells #[.slice a n c] 101)) [.slice b m d] 101
  rw[h3] at k2
  exact⟨_,_,rfl,((Below.refl _ w).alloc (Nat.le_refl _) _).alloc (by simp) _,Nat.le_refl _,Nat.le_succ _,by omega,(Blk.new w [.slice a n c] 101).alloc _,k2⟩
theorem Oo{w W:World}{B1 B2 na ca nb cb:Nat}{pa pb:O0}{A E:List Ent}(hA:A.length=na)(hE:E.length=nb)(hna:na≤1000000)(hnb:nb≤1000000)(sA:Sts Ji w (.slice pa na ca) A)(sE:Sts Ji w (.slice pb nb cb) E)
 (hb:B0 w W) (g1:w.heap.size≤B1) (g2:w.heap.size≤B2) (hB:B1≠B2) (k1:Blk W B1 [.slice pa na ca] 101) (k2:Blk W B2 [.slice pb nb cb] 101) :
 ∃ ga oa gb ob,SeqL Tryz.prog 142 #[P0 B1,P0 B2] (encR ga oa gb ob) (Keeps fun b=>b=B1∨b=B2∨(na≠0∧b=ga)∨(nb≠0∧b=gb)) (fun r=>r=B1∨r=B2) (Xs 0 0 A E) W∧(na≠0→pa=some ⟨ga,oa,none⟩)∧(nb≠0→pb=some ⟨gb,ob,none⟩):=by
 obtain⟨ga,oa,ra,ka,ea⟩:=rest_of hA sA hb
 obtain⟨gb,ob,rb,kb,eb⟩:=rest_of hE sE hb
 refine⟨ga,oa,gb,ob,?_,ea,eb⟩
 intro l J Jx V hV hJ hY h0
 have ha:na≠0→ga<w.heap.size:=fun h=>(ka 0 (by omega)).2
 have he:nb≠0→gb<w.heap.size:=fun h=>(kb 0 (by omega)).2
 have hT:¬ ((na≠0∧B1=ga)∨(nb≠0∧B1=gb)):=by
  rintro(⟨h,e⟩|⟨h,e⟩)
  ·have:=ha h;omega
  ·have:=he h;omega
 have a1:¬ ((na≠0∧B2=ga)∨(nb≠0∧B2=gb)):=by
  rintro(⟨h,e⟩|⟨h,e⟩)
  ·have:=ha h;omega
  ·have:=he h;omega
 have a2:Blk V B1 _ _:=k1.below hV
 have a0:Blk V B2 _ _:=k2.below hV
 exact pairs1_in l B1 B2 ga oa na ca gb ob nb cb A E hA hE hna hnb hB (fun b=>(na≠0∧b=ga)∨(nb≠0∧b=gb)) hT a1 J Jx hJ hY V _ _ a2 a0 ra rb
  (fun i hi=>⟨Nx hV (ka i hi).1,.inl ⟨by omega,rfl⟩⟩) (fun i hi=>⟨Nx hV (kb i hi).1,.inr ⟨by omega,rfl⟩⟩) h0
end Go.Proofs.YtgphgaehfdfjjaaGreatDoor
namespace Go.Proofs.YtgphgaehfdfjjaaGreatDoor
set_option maxHeartbeats 8000000
set_option maxRecDepth 100000
open Go.RowKit
set_option linter.unusedVariables false
theorem Zck{P:Program}{l n:Nat}{ops:Array Oper}{Q:Exit→Act→World→Prop}(hQ:¬ LetsOut Q):∀ (r:List Oper) (a:Act) (w:World),(∀ o∈r,∀ c,o.op≠.defer c)→wpList P ops Q r a w→wpListIn (Fence.wide.inRound l) n P ops Q r a w
 | [],_,_,_,h=>h
 | o::r,a,w,hd,h=>by
  unfold wpList at h
  unfold wpListIn
  split at h
  ·rename_i hw
   rw[if_pos hw]
   exact Oper.wpIn_mono (fun a w=>Zck hQ r a w (fun o ho=>hd o (by simp[ho]))) (oper_in (hd o (by simp)) (h.resolve_right fun q=>hQ q.2))
  ·rename_i hw
   rw[if_neg hw]
   exact⟨fun _ _=>trivial,Zck hQ r _ _ (fun o ho=>hd o (by simp[ho])) h⟩
theorem Kc{P:Program}{l0 n0 id:Nat}{l:List Oper}{Q:Exit→Act→World→Prop}{a:Act}{w:World}(hQ:¬ LetsOut Q)(hd:∀ o∈l,∀ c,o.op≠.defer c)(h:wpList P l.toArray Q l a w):(Code.region id l.toArray false).wpIn (Fence.wide.inRound l0) n0 P Q a w :=
 wpIn_region_lit (Zck hQ l a w hd h)
structure RdS(w0:World)(S:List Nat)(W V:World):Prop where
 ko:KeepsOthers W V
 fr:∀ k,k<w0.heap.size→k∉S→V.heap[k]? = W.heap[k]?
 le:W.heap.size≤V.heap.size
 l0:w0.heap.size≤W.heap.size
theorem RdS.refl{w0 W:World}(S:List Nat)(h:w0.heap.size≤W.heap.size):RdS w0 S W W:=⟨⟨Nat.le_refl _,fun _ _ h _=>h⟩,fun _ _ _=>rfl,Nat.le_refl _,h⟩
theorem RdS.below{w0 W V U:World}{S:List Nat}(h:RdS w0 S W V)(hb:Below V.heap.size V U):RdS w0 S W U :=
 ⟨h.ko.trans (Ci hb),fun k hk hn=>(hb.block k (Nat.lt_of_lt_of_le hk (Nat.le_trans h.l0 h.le))).trans (h.fr k hk hn),Nat.le_trans h.le hb.size,h.l0⟩
theorem RdS.upd{w0 W V U:World}{S:List Nat}{b:Nat}{cs:List Value}{t:TypeId}(h:RdS w0 S W V)(u:Upd V b U)(k:Blk V b cs t)(hb:b∈S∨w0.heap.size≤b):RdS w0 S W U :=
 ⟨h.ko.trans (Zhj u k),fun i hi hn=>(u.block i (fun e=>by subst e;rcases hb with hb|hb;exact hn hb;omega)).trans (h.fr i hi hn),Nat.le_trans h.le (Nat.le_of_eq u.size.symm),h.l0⟩
theorem RdS.frm{w0 W V U:World}{S:List Nat}{b:Nat}{cs:List Value}{t:TypeId}(h:RdS w0 S W V)(u:Fr [b] V U)(k:Blk V b cs t)(hb:b∈S):RdS w0 S W U :=
 ⟨h.ko.trans ⟨u.size,fun i o hi ho=>(u.block i (Array.getElem?_eq_some_iff.1 hi).1 (by
  simp only[List.mem_singleton]
  rintro rfl
  rw[show V.heap[i]? = _ from k] at hi
  cases hi;cases ho)).trans hi⟩,fun i hi hn=>(u.block i (Nat.lt_of_lt_of_le hi (Nat.le_trans h.l0 h.le)) (by simp only[List.mem_singleton];rintro rfl;exact hn hb)).trans (h.fr i hi hn),Nat.le_trans h.le u.size,h.l0⟩
theorem RdS.grown{w0 W V U:World}{S:List Nat}{size n:Nat}{e:TypeId}{v:Value}{xs:List Value}(h:RdS w0 S W V)(hg:V.grownBy U v.ownBlock)(k:V.ownsRow w0.heap.size e size v n xs):RdS w0 S W U :=
 ⟨h.ko.trans ⟨hg.size,fun i o hi ho=>by
   rw[hg.block i (Array.getElem?_eq_some_iff.1 hi).1 (fun q=>by
    rcases k.2 with ⟨rfl,_⟩|⟨g,a0,a1,rfl,_,hh,_⟩
    ·cases q
    ·simp only[Value.ownBlock,Option.some.injEq] at q
     subst q
     rw[hh] at hi
     cases hi
     cases ho)]
   exact hi⟩,
  fun i hi hn=>(hg.block i (Nat.lt_of_lt_of_le hi (Nat.le_trans h.l0 h.le)) (fun e=>by have:=(k.lt i e.symm).1;omega)).trans (h.fr i hi hn),Nat.le_trans h.le hg.size,h.l0⟩
def Turns(q:Nat→Prop)(n:Nat)(A:World)(row:Option Nat):Prop:=∀ r,row=some r→q r∨n≤r∧∃ o:Obj,A.heap[r]? = some o∧o.isCells=false
theorem fr_ab{S:List Nat}{q:Nat→Prop}{w0 A B:World}{row:Option Nat}(h:Fr S w0 A)(hg:A.grownBy B row)(hr:Turns q w0.heap.size A row)(hq:∀ r,q r→r∈S):Fr S w0 B :=
 ⟨Nat.le_trans h.size hg.size,fun k hk hn=>(hg.block k (Nat.lt_of_lt_of_le hk h.size) (fun e=>by
  rcases hr k e.symm with h1|h1
  ·exact hn (hq _ h1)
  ·omega)).trans (h.block k hk hn)⟩
theorem Ze7{n m:Nat}{q:Nat→Prop}{w A B:World}{row:Option Nat}(h:Below n w A)(hg:A.grownBy B row)(hr:Turns q m A row)(hn:n≤w.heap.size)(hm:n≤m)(hq:∀ r,q r→n≤r):Below n w B :=
 h.grown hg (Nat.le_trans hn h.size) (fun r e=>by rcases hr r e with h1|h1;exact hq _ h1;omega)
theorem own_ab{q:Nat→Prop}{A B:World}{row:Option Nat}{base size n m:Nat}{e:TypeId}{v:Value}{xs:List Value}(k:A.ownsRow base e size v n xs)(hg:A.grownBy B row)(hr:Turns q m A row)(hq:∀ r,q r→r<base):B.ownsRow base e size v n xs:=by
 obtain⟨h1,h2⟩:=k
 refine⟨h1,?_⟩
 rcases h2 with h2|⟨g,a0,a1,hv,hb,hh,r⟩
 ·exact Or.inl h2
 ·refine Or.inr ⟨g,a0,a1,hv,hb,?_,r⟩
  rw[hg.block g (Array.getElem?_eq_some_iff.1 hh).1 (fun q=>by
   rcases hr g q.symm with h3|⟨_,o,ho,hc⟩
   ·have:=hq _ h3;omega
   ·rw[hh] at ho
    cases ho
    cases hc)]
  exact hh
theorem blk_ab{q:Nat→Prop}{A B:World}{row:Option Nat}{b m:Nat}{cs:List Value}{t:TypeId}(k:Blk A b cs t)(hg:A.grownBy B row)(hr:Turns q m A row)(hq:∀ r,q r→b≠r):Blk B b cs t :=
 k.kept hg (fun e'=>by
  rcases hr b e'.symm with h3|⟨_,o,ho,hc⟩
  ·exact hq _ h3 rfl
  ·rw[show A.heap[b]? = _ from k] at ho;cases ho;cases hc)
theorem Zca{F:Fence}{n:Nat}{P:Program}{c:Code}{Q:Exit→Act→World→Prop}{a:Act}{w:World}(a':Act)(h:a=a')(k:c.wpIn F n P Q a' w):c.wpIn F n P Q a w:=h▸k
theorem fr_join{S S2:List Nat}{w0 W V:World}(h:Fr S w0 W)(z:RdS w0 S2 W V)(hs:∀ k,k∈S2→k∈S∨V.heap[k]? = w0.heap[k]?):Fr S w0 V :=
 ⟨Nat.le_trans h.size z.le,fun k hk hn=>by
  by_cases h2:k∈S2
  ·exact(hs k h2).resolve_left hn
  ·exact(z.fr k hk h2).trans (h.block k hk hn)⟩
theorem Dfr.put{D D2:Nat}{w:World}(h:Dfr D w)(hne:D≠D2)(o:Obj):Dfr D (w.putObj D2 o):=(World.putObj_heap_other hne).trans h
theorem Vw.pt{D:Nat}{w:World}{l:List (Option Int)}{c:Option Int}{v:Value}(h:Vw w l c v)(hK:Dfr D w)(o:Obj):Vw (w.putObj D o) l c v:=h.kept fun _ _ k=>k.put hK rfl o
theorem own_pt{D:Nat}{w:World}{base size n:Nat}{e:TypeId}{v:Value}{xs:List Value}(k:w.ownsRow base e size v n xs)(hK:Dfr D w)(o:Obj):(w.putObj D o).ownsRow base e size v n xs:=(Upd.of_put w D o).own3 k (hK.row k)
theorem Mv{n D:Nat}{w W:World}(h:Below n w W)(hn:n≤W.heap.size)(hD:n≤D)(o:Obj):Below n w (W.putObj D o):=h.grown (grownBy_putObj' W D o) hn (fun r e=>by cases e;exact hD)
theorem ret0{P:Program}{fn:Func}{R:Ending→World→Prop}{a:Act}{w:World}{v:Value}{b10 b11:Nat}{x y:Value}{t t':TypeId}(k10:Blk w b10 [x] t)(k11:Blk w b11 [y] t')(hr:∀ U,Blk U b10 [x] t→Blk U b11 [y] t'→(results fn a.tmps).run P U=.ok v U)(hd:a.defers=[])(h:R (.returned v) w):bodyPostM Fence.wide 4 P fn R .ret a w:=by
 show LeavesInM _ _ _ _ a.tmps R a.defers .returning w
 rw[hd]
 exact⟨v,hr w k10 k11,h⟩
theorem ret1{P:Program}{fn:Func}{R:Ending→World→Prop}{a:Act}{w:World}{v:Value}{b10 b11 D:Nat}{x y:Value}{t t':TypeId}(k10:Blk w b10 [x] t)(k11:Blk w b11 [y] t')(hK:Dfr D w)(hr:∀ U,Blk U b10 [x] t→Blk U b11 [y] t'→(results fn a.tmps).run P U=.ok v U)(hd:a.defers=[{ target:=.collected D,args:=#[] }])(h:R (.returned v) (w.putObj D (.deferred none))):bodyPostM Fence.wide 4 P fn R .ret a w:=by
 show LeavesInM _ _ _ _ a.tmps R a.defers .returning w
 rw[hd]
 exact⟨by simp,.inl ⟨_,_,rfl,run_takeDeferred hK,v,hr _ (k10.put hK rfl _) (k11.put hK rfl _),h⟩⟩
theorem ret2{P:Program}{fn:Func}{R:Ending→World→Prop}{a:Act}{w:World}{v:Value}{b10 b11 D E:Nat}{x y:Value}{t t':TypeId}(k10:Blk w b10 [x] t)(k11:Blk w b11 [y] t')(hK:Dfr D w)(hE:Dfr E w)(hne:D≠E)(hr:∀ U,Blk U b10 [x] t→Blk U b11 [y] t'→(results fn a.tmps).run P U=.ok v U)(hd:a.defers=[{ target:=.collected E,args:=#[] },{ target:=.collected D,args:=#[] }])(h:R (.returned v) ((w.putObj E (.deferred none)).putObj D (.deferred none))):bodyPostM Fence.wide 4 P fn R .ret a w:=by
 have hD:=hK.put hne (.deferred none)
 show LeavesInM _ _ _ _ a.tmps R a.defers .returning w
 rw[hd]
 exact⟨by simp,.inl ⟨_,_,rfl,run_takeDeferred hE,by simp,.inl ⟨_,_,rfl,run_takeDeferred hD,v,hr _ ((k10.put hE rfl _).put hD rfl _) ((k11.put hE rfl _).put hD rfl _),h⟩⟩⟩
end Go.Proofs.YtgphgaehfdfjjaaGreatDoor
namespace Go.Proofs.YtgphgaehfdfjjaaGreatDoor
set_option maxHeartbeats 8000000
set_option maxRecDepth 100000
open Go.RowKit Go.Extern.Stop Go.Stop Go.Extern
set_option linter.unusedVariables false
attribute [local irreducible] wpList wpAnyH Code.wp Oper.wp Go
def LDevsP(O:List Int×Int×List Dv)(w:World)(e:Ending)(w':World):Prop :=
 (O.2.1≠0∧∃ ty v,e=.returned (.tuple #[S0,.iface ty v])∧B0 w w'∧Vw w' (O.1.map some) (some O.2.1) (.iface ty v)) ∨
 (O.2.1=0∧∃ p c Z,e=.returned (.tuple #[.slice p O.2.2.length c,.nilIface])∧B0 w w'∧Z.map Prod.fst=O.2.2∧Xu w.heap.size w' Z∧w'.ownsRow w.heap.size 108 5 (.slice p O.2.2.length c) O.2.2.length (Z.flatMap Lg))
theorem Wp{O:List Int×Int×List Dv}{bl:List Int}{er:Int}{w W:World}{ty:TypeId}{v:Value}(h:O=(bl,er,[]))(her:er≠0)(hb:B0 w W)(hv:Vw W (bl.map some) (some er) (.iface ty v)):LDevsP O w (.returned (.tuple #[S0,.iface ty v])) W:=by
 subst h;exact .inl ⟨her,ty,v,rfl,hb,hv⟩
theorem ldevs_ok{O:List Int×Int×List Dv}{L:List Dv}{Z:List Zv}{n c:Nat}{w W:World}{p:O0}(h:O=([],0,L))(hn:Z.length=n)(hZ:Z.map Prod.fst=L)(hb:B0 w W)(hM:Xu w.heap.size W Z)(ho:W.ownsRow w.heap.size 108 5 (.slice p n c) n (Z.flatMap Lg)):LDevsP O w (.returned (.tuple #[.slice p n c,.nilIface])) W:=by
 subst h
 have hl:L.length=n:=by rw[←hZ,List.length_map,hn]
 subst hl
 exact .inr ⟨rfl,p,c,Z,rfl,hb,hZ,hM,ho⟩
theorem Xu.mono{B B':Nat}{w:World}{Z:List Zv}(h:Xu B' w Z)(hB:B≤B'):Xu B w Z:=fun i hi=>Zg (h i hi) hB
theorem Xu.ab{q:Nat→Prop}{A C:World}{row:Option Nat}{B m:Nat}{Z:List Zv}(h:Xu B A Z)(hg:A.grownBy C row)(hr:Turns q m A row)(hq:∀ r,q r→r<B):Xu B C Z:=fun i hi=>own_ab (h i hi) hg hr hq
theorem Xu.pt{D B:Nat}{w:World}{Z:List Zv}(h:Xu B w Z)(hK:Dfr D w)(o:Obj):Xu B (w.putObj D o) Z:=fun i hi=>own_pt (h i hi) hK o
theorem Zgc{B1 B2:Nat}{a:O0}{n c:Nat}{y:Value}{t t':TypeId}(hy:y=.nilIface∨∃ ty v,y=.iface ty v){tmps:Array Value}(e:tmps.getD 10 undef=P0 B1)(e2:tmps.getD 11 undef=P0 B2) :
 ∀ U,Blk U B1 [.slice a n c] t→Blk U B2 [y] t'→(results Tryz.f39 tmps).run Tryz.prog U=.ok (.tuple #[.slice a n c,y]) U:=by
 intro U h h2
 have c0:=h.cell (i:=0) rfl
 have c1:=h2.cell (i:=0) rfl
 have e':tmps[10]?.getD undef=P0 B1:=by simpa using e
 have a0:tmps[11]?.getD undef=P0 B2:=by simpa using e2
 rcases hy with rfl|⟨ty,v,rfl⟩<;>simp[results,Tryz.results39,go_sem,c0,c1,e',a0]
def BadAt(O:List Int×Int×List Dv)(w:World)(b10 b11:Nat)(V:World):Prop :=
 ∃ ty v bl er,O=(bl,er,[])∧er≠0∧Blk V b10 [S0] 46∧Blk V b11 [.iface ty v] 30∧Vw V (bl.map some) (some er) (.iface ty v)∧B0 w V
theorem BadAt.ab{q:Nat→Prop}{O:List Int×Int×List Dv}{w A B:World}{row:Option Nat}{b10 b11 m:Nat}(h:BadAt O w b10 b11 A)(hg:A.grownBy B row)(hr:∀ r,row=some r→m≤r∧∃ o:Obj,A.heap[r]? = some o∧o.isCells=false)(hm:w.heap.size≤m):BadAt O w b10 b11 B:=by
 obtain⟨ty,v,bl,er,h1,h2,k1,k2,hv,hb⟩:=h
 have ht:∀ r,row=some r→∃ o:Obj,A.heap[r]? = some o∧o.isCells=false:=fun r e=>(hr r e).2
 exact⟨ty,v,bl,er,h1,h2,k1.turn hg ht,k2.turn hg ht,hv.turn hg ht,hb.grown hg hb.size (fun r e=>Nat.le_trans hm (hr r e).1)⟩
theorem Tl{A E:List Ent}(h:(Xs 0 0 A E).all Zbr=true):(Xs 0 0 A E).length=A.length∧∀ k x,(Xs 0 0 A E)[k]? = some x→k<A.length∧x=(some k,some k):=by
 obtain⟨_,h2⟩:=Fh A E 0 0 h
 rw[h2]
 refine⟨by simp,fun k x hx=>?_⟩
 rw[List.getElem?_map] at hx
 by_cases hk:k<A.length
 ·rw[List.getElem?_range hk] at hx
  simp only[Option.map_some,Option.some.injEq,Nat.zero_add] at hx
  exact⟨hk,hx.symm⟩
 ·rw[List.getElem?_eq_none (by simp;omega)] at hx;cases hx
theorem Ar{α:Type}{L:List α}{p:α→Bool}{k:Nat}{x:α}(h:(L.take k).all p=true)(hx:L[k]? = some x)(hp:p x=true):(L.take (k+1)).all p=true:=by
 obtain⟨hk,rfl⟩:=List.getElem?_eq_some_iff.1 hx
 rw[List.take_succ_eq_append_getElem hk,List.all_append,h];simpa using hp
theorem dev_sum{l:Bl}{x y:Ent}{data fuel:Int}{sum:Nat}(h:(Dg l x y data fuel sum).2=0):sum+(Qa l y data fuel).2.2.length≤16384:=by
 unfold Dg at h
 repeat' split at h
 all_goals first|omega|(simp at h;done)|(exact absurd h (by assumption))
theorem Zem{ga oa i:Nat}{p:O0}(h:p=some ⟨ga,oa,none⟩):Dc ga oa (some i)=.pointer (some (Xj p (i*3))):=by
 subst h
 show Value.pointer (some ⟨ga,oa+3*i,none⟩)=_
 simp[Xj,Addr.add_mid,Nat.mul_comm]
theorem Bn(Bi b:Nat)(pi:O0)(ni ci:Nat)(l:Bl)(top details data fuel:Int)(w:World)(hI:ImgR Bi b pi ni ci l w)(hfu:fuel≤1000) :
 C0 39 #[P0 b,V0 top,V0 details,V0 data,V0 fuel] w (LDevsP (Yk l top details data fuel) w):=by
 have kg:=(Ja l details 3 fuel hfu).1
 have jp:=(Ja l top 1 fuel hfu).1
 refine Gp Tryz.func39 rfl ?_
 refine g_fr ⟨#[P0 b,V0 top,V0 details,V0 data,V0 fuel,undef,undef,undef,undef,undef,undef,undef,undef,undef,undef,undef,undef,undef,undef,undef,undef,undef,undef,undef,undef,undef,undef,undef,undef,undef,undef,undef,undef,undef,undef,undef,undef,undef,undef,undef,undef,undef,undef,undef,undef,undef,undef,undef,undef,undef,undef,undef,undef,undef,undef,undef,undef,undef,undef,undef,undef,undef,undef,undef,undef,undef,undef,undef,undef,undef,undef,undef,undef,undef,undef,undef,undef,undef,undef,undef,undef,undef,undef,undef,undef,undef,undef,undef,undef,undef,undef,undef,undef,undef,undef,undef,undef],[]⟩ (by kernel_rfl) ?_
 refine wp_seq ?_
 refine wp_region_lit ?_
 refine Vv (by kernel_rfl) (Zbh [V0 top] rfl (by kernel_rfl) ?_)
 intro b1 W1 n1
 have g1:=n1.ge (B3 w)
 have hB:=n1.below
 have k1:=n1.blk
 refine Vv (by kernel_rfl) (Zbh [V0 details] rfl (by kernel_rfl) ?_)
 intro b2 W2 n2
 have ik:=n2.ne k1
 have g2:=n2.ge hB
 replace hB:=bln hB n2.below
 replace k1:=k1.below n2.below
 have k2:=n2.blk
 refine Vv (by kernel_rfl) (Kk [S0] rfl (by kernel_rfl) ?_)
 intro b3 W3 n3
 have j4:=n3.ne k1
 have j6:=n3.ne k2
 have g3:=n3.ge hB
 replace hB:=bln hB n3.below
 replace k1:=k1.below n3.below
 replace k2:=k2.below n3.below
 have k3:=n3.blk
 refine Vv (by kernel_rfl) (Kk [.nilIface] rfl (by kernel_rfl) ?_)
 intro b4 W4 n4
 have j8:=n4.ne k1
 have j9:=n4.ne k2
 have c8:=n4.ne k3
 have g4:=n4.ge hB
 replace hB:=bln hB n4.below
 replace k1:=k1.below n4.below
 replace k2:=k2.below n4.below
 replace k3:=k3.below n4.below
 have k4:=n4.blk
 refine wpList_nil ?_
 refine wp_seq ?_
 refine wp_region_lit ?_
 refine Gx 1 [(24,P0 b)] (by kernel_rfl) ?_
 refine Vv (by kernel_rfl) (Qm ⟨b2,0,none⟩ (V0 details) rfl (by kernel_rfl) (by kernel_rfl) (k2.cell (i:=0) rfl) ?_)
 refine Gx 1 [(26,V0 fuel)] (by kernel_rfl) ?_
 have ka:w.heap.size≤(W4).heap.size:=hB.size
 refine Vv (by kernel_rfl) (He (lb:=#[]) 83 #[P0 b,V0 details,V0 3,V0 fuel] rfl (by kernel_rfl) (fun _ _=>by kernel_rfl) (by kernel_rfl) ((Uz Bi b pi ni ci l details 3 fuel _ hfu (hI.below hB)).mono ?_))
 rintro e W5 kw
 rcases kw with ⟨v1,pe,ce,pb,cb,pf,cf,o8,vw,rfl,t3,d9⟩|⟨v1,pd,cd,e4,e2,e0,e1,e3,d8,e5,rfl,t3,hd⟩
 ·refine⟨_,rfl,?_⟩
  replace hB:=bln hB t3
  replace k1:=k1.below t3
  replace k2:=k2.below t3
  replace k3:=k3.below t3
  replace k4:=k4.below t3
  refine Gx 3 [(23,.tuple #[.agg #[.slice pe 0 ce,.slice pb 0 cb,V0 0,V0 0,.slice pf 0 cf],.iface o8 (vw)]),(28,.agg #[.slice pe 0 ce,.slice pb 0 cb,V0 0,V0 0,.slice pf 0 cf]),(29,.iface o8 (vw))] (by kernel_rfl) ?_
  refine Vv (by kernel_rfl) (Kk [S0,S0,V0 0,V0 0,S0] rfl (by kernel_rfl) ?_)
  intro b6 W6 n6
  have io:=n6.ne k1
  have jr:=n6.ne k2
  have dr:=n6.ne k3
  have dc:=n6.ne k4
  have g6:=n6.ge hB
  replace hB:=bln hB n6.below
  replace k3:=k3.below n6.below
  replace k4:=k4.below n6.below
  replace d9:=d9.below n6.below
  have k6:=n6.blk
  refine Vv (by kernel_rfl) (Kx (b:=b6) (off:=0) [.slice pe 0 ce,.slice pb 0 cb,V0 0,V0 0,.slice pf 0 cf] rfl (by kernel_rfl) (by kernel_rfl) (by kernel_rfl) (by first|decide|simp[Value.oneCell']) k6 (by first|decide|simp) ?_)
  intro W7 u7 k7
  change Blk _ _ [.slice pe 0 ce,.slice pb 0 cb,V0 0,V0 0,.slice pf 0 cf] _ at k7
  replace hB:=u7.below hB g6
  replace k3:=u7.blk k3 (Ne.symm (Ne.symm dr))
  replace k4:=u7.blk k4 (Ne.symm (Ne.symm dc))
  replace d9:=d9.only (Zf.of_upd (T:=[175]) u7 k6 (by decide)) (by decide)
  refine Gx 1 [(13,.iface o8 (vw))] (by kernel_rfl) ?_
  refine wpList_nil ?_
  refine wp_seq ?_
  refine wp_seq ?_
  refine wp_region_lit ?_
  refine Gx 2 [(30,.iface o8 (vw)),(31,.bool true)] (by kernel_rfl) ?_
  refine wpList_nil ?_
  refine wp_cond_true (by kernel_rfl) ?_
  refine wp_seq ?_
  refine wp_region_lit ?_
  refine Gx 1 [(32,.iface o8 (vw))] (by kernel_rfl) ?_
  refine Vv (by kernel_rfl) (Ya (v:=S0) (b:=b3) (off:=0) rfl (by kernel_rfl) (by kernel_rfl) (by kernel_rfl) rfl k3 (by first|decide|simp) ?_)
  intro W8 u8 k8
  change Blk _ _ [S0] _ at k8
  replace hB:=u8.below hB g3
  replace k4:=u8.blk k4 (Ne.symm c8)
  replace d9:=d9.only (Zf.of_upd (T:=[46]) u8 k3 (by decide)) (by decide)
  refine Vv (by kernel_rfl) (Ya (v:=.iface o8 (vw)) (b:=b4) (off:=0) rfl (by kernel_rfl) (by kernel_rfl) (by kernel_rfl) rfl k4 (by first|decide|simp) ?_)
  intro W9 u9 k9
  change Blk _ _ [.iface o8 (vw)] _ at k9
  replace hB:=u9.below hB g4
  replace k8:=u9.blk k8 (Ne.symm (Ne.symm c8))
  replace d9:=d9.only (Zf.of_upd (T:=[30]) u9 k4 (by decide)) (by decide)
  refine wpList_nil ?_
  exact wp_ret (ret0 k8 k9 (Zgc (.inr ⟨_,_,rfl⟩) (by kernel_rfl) (by kernel_rfl)) rfl (Wp (devsO_d v1) (Kd v1) hB d9))
 ·refine⟨_,rfl,?_⟩
  replace hB:=bln hB t3
  replace k1:=k1.below t3
  replace k2:=k2.below t3
  replace k3:=k3.below t3
  replace k4:=k4.below t3
  replace hd:=Zg hd ka
  refine Gx 3 [(23,.tuple #[.agg #[.slice pd ((Zd l details 3 fuel).es.length) cd,.slice e4 e2 e0,V0 e1,V0 e3,.slice d8 0 e5],.nilIface]),(28,.agg #[.slice pd ((Zd l details 3 fuel).es.length) cd,.slice e4 e2 e0,V0 e1,V0 e3,.slice d8 0 e5]),(29,.nilIface)] (by kernel_rfl) ?_
  refine Vv (by kernel_rfl) (Kk [S0,S0,V0 0,V0 0,S0] rfl (by kernel_rfl) ?_)
  intro d5 mr s8
  have bc:=s8.ne k1
  have bw:=s8.ne k2
  have e7:=s8.ne k3
  have f0:=s8.ne k4
  have km:=s8.ge hB
  replace hB:=bln hB s8.below
  replace k1:=k1.below s8.below
  replace k2:=k2.below s8.below
  replace k3:=k3.below s8.below
  replace k4:=k4.below s8.below
  replace hd:=Zb hd s8.below
  have bx:=s8.blk
  refine Vv (by kernel_rfl) (Kx (b:=d5) (off:=0) [.slice pd ((Zd l details 3 fuel).es.length) cd,.slice e4 e2 e0,V0 e1,V0 e3,.slice d8 0 e5] rfl (by kernel_rfl) (by kernel_rfl) (by kernel_rfl) (by first|decide|simp[Value.oneCell']) bx (by first|decide|simp) ?_)
  intro ky ch j1
  change Blk _ _ [.slice pd ((Zd l details 3 fuel).es.length) cd,.slice e4 e2 e0,V0 e1,V0 e3,.slice d8 0 e5] _ at j1
  replace hB:=ch.below hB km
  replace k1:=ch.blk k1 (Ne.symm (Ne.symm bc))
  replace k2:=ch.blk k2 (Ne.symm (Ne.symm bw))
  replace k3:=ch.blk k3 (Ne.symm (Ne.symm e7))
  replace k4:=ch.blk k4 (Ne.symm (Ne.symm f0))
  replace hd:=ch.own2 hd bx (by decide)
  refine Gx 1 [(13,.nilIface)] (by kernel_rfl) ?_
  refine wpList_nil ?_
  refine wp_seq ?_
  refine wp_seq ?_
  refine wp_region_lit ?_
  refine Gx 2 [(30,.nilIface),(31,.bool false)] (by kernel_rfl) ?_
  refine wpList_nil ?_
  refine wp_cond_false (by kernel_rfl) ?_
  refine wp_skip ?_
  refine wp_seq ?_
  refine wp_region_lit ?_
  refine Gx 1 [(34,P0 b)] (by kernel_rfl) ?_
  refine Vv (by kernel_rfl) (Qm ⟨b1,0,none⟩ (V0 top) rfl (by kernel_rfl) (by kernel_rfl) (k1.cell (i:=0) rfl) ?_)
  refine Gx 1 [(36,V0 fuel)] (by kernel_rfl) ?_
  have gd:w.heap.size≤(ky).heap.size:=hB.size
  refine Vv (by kernel_rfl) (He (lb:=#[]) 83 #[P0 b,V0 top,V0 1,V0 fuel] rfl (by kernel_rfl) (fun _ _=>by kernel_rfl) (by kernel_rfl) ((Uz Bi b pi ni ci l top 1 fuel _ hfu (hI.below hB)).mono ?_))
  rintro e lf fq
  rcases fq with ⟨w0,pe,ce,pb,cb,pf,cf,o8,vw,rfl,f8,d9⟩|⟨w0,pt,ct,b9,a9,c0,b5,b0,b8,b7,rfl,f8,ht⟩
  ·refine⟨_,rfl,?_⟩
   replace hB:=bln hB f8
   replace k1:=k1.below f8
   replace k2:=k2.below f8
   replace k3:=k3.below f8
   replace k4:=k4.below f8
   replace j1:=j1.below f8
   refine Gx 3 [(33,.tuple #[.agg #[.slice pe 0 ce,.slice pb 0 cb,V0 0,V0 0,.slice pf 0 cf],.iface o8 (vw)]),(38,.agg #[.slice pe 0 ce,.slice pb 0 cb,V0 0,V0 0,.slice pf 0 cf]),(39,.iface o8 (vw))] (by kernel_rfl) ?_
   refine Vv (by kernel_rfl) (Kk [S0,S0,V0 0,V0 0,S0] rfl (by kernel_rfl) ?_)
   intro kr lx u4
   have gr:=u4.ne k1
   have gb:=u4.ne k2
   have bu:=u4.ne k3
   have bt:=u4.ne k4
   have fe:=u4.ne j1
   have jz:=u4.ge hB
   replace hB:=bln hB u4.below
   replace k3:=k3.below u4.below
   replace k4:=k4.below u4.below
   replace d9:=d9.below u4.below
   have jg:=u4.blk
   refine Vv (by kernel_rfl) (Kx (b:=kr) (off:=0) [.slice pe 0 ce,.slice pb 0 cb,V0 0,V0 0,.slice pf 0 cf] rfl (by kernel_rfl) (by kernel_rfl) (by kernel_rfl) (by first|decide|simp[Value.oneCell']) jg (by first|decide|simp) ?_)
   intro ms fk kc
   change Blk _ _ [.slice pe 0 ce,.slice pb 0 cb,V0 0,V0 0,.slice pf 0 cf] _ at kc
   replace hB:=fk.below hB jz
   replace k3:=fk.blk k3 (Ne.symm (Ne.symm bu))
   replace k4:=fk.blk k4 (Ne.symm (Ne.symm bt))
   replace d9:=d9.only (Zf.of_upd (T:=[175]) fk jg (by decide)) (by decide)
   refine Gx 1 [(13,.iface o8 (vw))] (by kernel_rfl) ?_
   refine wpList_nil ?_
   refine wp_seq ?_
   refine wp_seq ?_
   refine wp_region_lit ?_
   refine Gx 2 [(40,.iface o8 (vw)),(41,.bool true)] (by kernel_rfl) ?_
   refine wpList_nil ?_
   refine wp_cond_true (by kernel_rfl) ?_
   refine wp_seq ?_
   refine wp_region_lit ?_
   refine Gx 1 [(42,.iface o8 (vw))] (by kernel_rfl) ?_
   refine Vv (by kernel_rfl) (Ya (v:=S0) (b:=b3) (off:=0) rfl (by kernel_rfl) (by kernel_rfl) (by kernel_rfl) rfl k3 (by first|decide|simp) ?_)
   intro mv hh fm
   change Blk _ _ [S0] _ at fm
   replace hB:=hh.below hB g3
   replace k4:=hh.blk k4 (Ne.symm c8)
   replace d9:=d9.only (Zf.of_upd (T:=[46]) hh k3 (by decide)) (by decide)
   refine Vv (by kernel_rfl) (Ya (v:=.iface o8 (vw)) (b:=b4) (off:=0) rfl (by kernel_rfl) (by kernel_rfl) (by kernel_rfl) rfl k4 (by first|decide|simp) ?_)
   intro lj hy jh
   change Blk _ _ [.iface o8 (vw)] _ at jh
   replace hB:=hy.below hB g4
   replace fm:=hy.blk fm (Ne.symm (Ne.symm c8))
   replace d9:=d9.only (Zf.of_upd (T:=[30]) hy k4 (by decide)) (by decide)
   refine wpList_nil ?_
   exact wp_ret (ret0 fm jh (Zgc (.inr ⟨_,_,rfl⟩) (by kernel_rfl) (by kernel_rfl)) rfl (Wp (devsO_t v1 w0) (Kd w0) hB d9))
  ·refine⟨_,rfl,?_⟩
   replace hB:=bln hB f8
   replace k1:=k1.below f8
   replace k2:=k2.below f8
   replace k3:=k3.below f8
   replace k4:=k4.below f8
   replace j1:=j1.below f8
   replace hd:=Zb hd f8
   replace ht:=Zg ht gd
   refine Gx 3 [(33,.tuple #[.agg #[.slice pt ((Zd l top 1 fuel).es.length) ct,.slice b9 a9 c0,V0 b5,V0 b0,.slice b8 0 b7],.nilIface]),(38,.agg #[.slice pt ((Zd l top 1 fuel).es.length) ct,.slice b9 a9 c0,V0 b5,V0 b0,.slice b8 0 b7]),(39,.nilIface)] (by kernel_rfl) ?_
   refine Vv (by kernel_rfl) (Kk [S0,S0,V0 0,V0 0,S0] rfl (by kernel_rfl) ?_)
   intro e6 ln p9
   have bm:=p9.ne k1
   have ba:=p9.ne k2
   have f1:=p9.ne k3
   have f2:=p9.ne k4
   have x8:=p9.ne j1
   have kn:=p9.ge hB
   replace hB:=bln hB p9.below
   replace k1:=k1.below p9.below
   replace k2:=k2.below p9.below
   replace k3:=k3.below p9.below
   replace k4:=k4.below p9.below
   replace j1:=j1.below p9.below
   replace hd:=Zb hd p9.below
   replace ht:=Zb ht p9.below
   have hi:=p9.blk
   refine Vv (by kernel_rfl) (Kx (b:=e6) (off:=0) [.slice pt ((Zd l top 1 fuel).es.length) ct,.slice b9 a9 c0,V0 b5,V0 b0,.slice b8 0 b7] rfl (by kernel_rfl) (by kernel_rfl) (by kernel_rfl) (by first|decide|simp[Value.oneCell']) hi (by first|decide|simp) ?_)
   intro mm z6 ca
   change Blk _ _ [.slice pt ((Zd l top 1 fuel).es.length) ct,.slice b9 a9 c0,V0 b5,V0 b0,.slice b8 0 b7] _ at ca
   replace hB:=z6.below hB kn
   replace k1:=z6.blk k1 (Ne.symm (Ne.symm bm))
   replace k2:=z6.blk k2 (Ne.symm (Ne.symm ba))
   replace k3:=z6.blk k3 (Ne.symm (Ne.symm f1))
   replace k4:=z6.blk k4 (Ne.symm (Ne.symm f2))
   replace j1:=z6.blk j1 (Ne.symm (Ne.symm x8))
   replace hd:=z6.own2 hd hi (by decide)
   replace ht:=z6.own2 ht hi (by decide)
   refine Gx 1 [(13,.nilIface)] (by kernel_rfl) ?_
   refine wpList_nil ?_
   refine wp_seq ?_
   refine wp_seq ?_
   refine wp_region_lit ?_
   refine Gx 2 [(40,.nilIface),(41,.bool false)] (by kernel_rfl) ?_
   refine wpList_nil ?_
   refine wp_cond_false (by kernel_rfl) ?_
   refine wp_skip ?_
   refine wp_seq ?_
   refine wp_seq ?_
   refine wp_region_lit ?_
   refine Gx 1 [(43,P0 d5)] (by kernel_rfl) ?_
   refine Vv (by kernel_rfl) (Qm ⟨d5,0,none⟩ (.slice pd ((Zd l details 3 fuel).es.length) cd) rfl (by kernel_rfl) (by kernel_rfl) (j1.cell (i:=0) rfl) ?_)
   refine Gx 2 [(45,V0 (↑((Zd l details 3 fuel).es.length):Int)),(46,.bool (decide ((↑((Zd l details 3 fuel).es.length):Int)>(4096:Int))))] (by kernel_rfl) ?_
   refine wpList_nil ?_
   refine wp_cond_split (t:=decide ((↑((Zd l details 3 fuel).es.length):Int)>(4096:Int))) (by kernel_rfl) (fun u2=>?_) (fun u2=>?_)
   ·have u2:=of_decide_eq_true u2
    refine wp_seq ?_
    refine wp_region_lit ?_
    refine Vv (by kernel_rfl) (Qm ⟨b2,0,none⟩ (V0 details) rfl (by kernel_rfl) (by kernel_rfl) (k2.cell (i:=0) rfl) ?_)
    refine Vv (by kernel_rfl) (He (lb:=#[]) 84 #[V0 details,V0 2] rfl (by kernel_rfl) (fun _ _=>by kernel_rfl) (by kernel_rfl) ((Hd details 2 _ (by omega)).mono ?_))
    rintro e mu ⟨db,iu,rfl,ar,i6⟩
    refine⟨_,rfl,?_⟩
    replace hB:=bln hB ar
    replace k3:=k3.below ar
    replace k4:=k4.below ar
    refine Vv (by kernel_rfl) (Ya (v:=S0) (b:=b3) (off:=0) rfl (by kernel_rfl) (by kernel_rfl) (by kernel_rfl) rfl k3 (by first|decide|simp) ?_)
    intro mp fv en
    change Blk _ _ [S0] _ at en
    replace hB:=fv.below hB g3
    replace k4:=fv.blk k4 (Ne.symm c8)
    replace i6:=i6.only (Zf.of_upd (T:=[46]) fv k3 (by decide)) (by decide)
    refine Vv (by kernel_rfl) (Ya (v:=.iface db (iu)) (b:=b4) (off:=0) rfl (by kernel_rfl) (by kernel_rfl) (by kernel_rfl) rfl k4 (by first|decide|simp) ?_)
    intro lu gx il
    change Blk _ _ [.iface db (iu)] _ at il
    replace hB:=gx.below hB g4
    replace en:=gx.blk en (Ne.symm (Ne.symm c8))
    replace i6:=i6.only (Zf.of_upd (T:=[30]) gx k4 (by decide)) (by decide)
    refine wpList_nil ?_
    exact wp_ret (ret0 en il (Zgc (.inr ⟨_,_,rfl⟩) (by kernel_rfl) (by kernel_rfl)) rfl (Wp (Ac v1 w0 (by omega)) (by decide) hB i6))
   ·have u2:=of_decide_eq_false u2
    refine wp_skip ?_
    refine wp_seq ?_
    refine wp_seq ?_
    refine wp_region_lit ?_
    refine Gx 1 [(49,P0 d5)] (by kernel_rfl) ?_
    refine Vv (by kernel_rfl) (Qm ⟨d5,0,none⟩ (.slice pd ((Zd l details 3 fuel).es.length) cd) rfl (by kernel_rfl) (by kernel_rfl) (j1.cell (i:=0) rfl) ?_)
    refine Gx 1 [(51,P0 e6)] (by kernel_rfl) ?_
    refine Vv (by kernel_rfl) (Qm ⟨e6,0,none⟩ (.slice pt ((Zd l top 1 fuel).es.length) ct) rfl (by kernel_rfl) (by kernel_rfl) (ca.cell (i:=0) rfl) ?_)
    have gk:=Zh hd
    have ft:=Zh ht
    have dk:=hB.size
    have ha:=k1.lt
    have ib:=k2.lt
    have gn:=k3.lt
    have gy:=k4.lt
    have ef:=j1.lt
    have ee:=ca.lt
    refine Vv (by kernel_rfl) (He (lb:=#[]) 85 #[.slice pd ((Zd l details 3 fuel).es.length) cd,.slice pt ((Zd l top 1 fuel).es.length) ct] rfl (by kernel_rfl) (fun _ _=>by kernel_rfl) (by kernel_rfl) ((Ey pd (Zd l details 3 fuel).es.length cd pt (Zd l top 1 fuel).es.length ct _).mono ?_))
    rintro e ao ⟨p1,q1,rfl,j3,dj,cu,ga,ak,bs⟩
    refine⟨_,rfl,?_⟩
    replace hB:=bln hB j3
    replace k1:=k1.below j3
    replace k2:=k2.below j3
    replace k3:=k3.below j3
    replace k4:=k4.below j3
    replace j1:=j1.below j3
    replace ca:=ca.below j3
    replace hd:=Zb hd j3
    replace ht:=Zb ht j3
    refine wpList_nil ?_
    refine wp_block ?_
    obtain⟨s3,w1,s5,y1,hf,au,aj⟩:=Oo (A:=(Zd l details 3 fuel).es) (E:=(Zd l top 1 fuel).es) rfl rfl (by omega) (by omega) gk ft j3 dj cu ga ak bs
    have m0:w.heap.size≤ao.heap.size:=hB.size
    have kk:w.heap.size≤p1:=Nat.le_trans dk dj
    have kz:w.heap.size≤q1:=Nat.le_trans dk cu
    have dq:=ak.lt
    have cv:=bs.lt
    have hw:=hB
    have m5:=k1
    have o1:=k2
    have i3:=k3
    have i4:=k4
    have i2:=j1
    have i7:=ca
    have y7:=ak
    have z9:=bs
    have bz:=hd
    have cg:=ht
    have fy:∀ d,(fun d=>d=p1∨d=q1∨((Zd l details 3 fuel).es.length≠0∧d=s3)∨((Zd l top 1 fuel).es.length≠0∧d=s5)) d→d<ao.heap.size:=by
     rintro d (rfl|rfl|⟨h,rfl⟩|⟨h,rfl⟩)
     ·exact dq
     ·exact cv
     ·exact(bz.lt _ (by rw[au h];rfl)).2
     ·exact(cg.lt _ (by rw[aj h];rfl)).2
    have ku:∀ d,(fun d=>d=p1∨d=q1∨((Zd l details 3 fuel).es.length≠0∧d=s3)∨((Zd l top 1 fuel).es.length≠0∧d=s5)) d→d∉[b3,b4]:=by
     rintro d (rfl|rfl|⟨h,rfl⟩|⟨h,rfl⟩)<;>simp only[List.mem_cons,List.not_mem_nil,or_false]
     ·omega
     ·omega
     ·rintro(h9|h9)
      ·exact Xq bz i3 (by decide) _ (by rw[au h];rfl) h9
      ·exact Xq bz i4 (by decide) _ (by rw[au h];rfl) h9
     ·rintro(h9|h9)
      ·exact Xq cg i3 (by decide) _ (by rw[aj h];rfl) h9
      ·exact Xq cg i4 (by decide) _ (by rw[aj h];rfl) h9
    refine g_fr ⟨#[P0 b,V0 top,V0 details,V0 data,V0 fuel,undef,P0 b1,P0 b2,undef,undef,P0 b3,P0 b4,P0 d5,.nilIface,P0 e6,undef,undef,undef,undef,undef,undef,undef,undef,.tuple #[.agg #[.slice pd ((Zd l details 3 fuel).es.length) cd,.slice e4 e2 e0,V0 e1,V0 e3,.slice d8 0 e5],.nilIface],P0 b,V0 details,V0 fuel,.tuple #[.agg #[.slice pd ((Zd l details 3 fuel).es.length) cd,.slice e4 e2 e0,V0 e1,V0 e3,.slice d8 0 e5],.nilIface],.agg #[.slice pd ((Zd l details 3 fuel).es.length) cd,.slice e4 e2 e0,V0 e1,V0 e3,.slice d8 0 e5],.nilIface,.nilIface,.bool false,undef,.tuple #[.agg #[.slice pt ((Zd l top 1 fuel).es.length) ct,.slice b9 a9 c0,V0 b5,V0 b0,.slice b8 0 b7],.nilIface],P0 b,V0 top,V0 fuel,.tuple #[.agg #[.slice pt ((Zd l top 1 fuel).es.length) ct,.slice b9 a9 c0,V0 b5,V0 b0,.slice b8 0 b7],.nilIface],.agg #[.slice pt ((Zd l top 1 fuel).es.length) ct,.slice b9 a9 c0,V0 b5,V0 b0,.slice b8 0 b7],.nilIface,.nilIface,.bool false,undef,P0 d5,.slice pd ((Zd l details 3 fuel).es.length) cd,V0 (↑((Zd l details 3 fuel).es.length):Int),.bool (decide ((↑((Zd l details 3 fuel).es.length):Int)>(4096:Int))),undef,undef,P0 d5,.slice pd ((Zd l details 3 fuel).es.length) cd,P0 e6,.slice pt ((Zd l top 1 fuel).es.length) ct,.func (.func 142) #[] #[P0 p1,P0 q1],undef,undef,undef,undef,undef,undef,undef,undef,undef,undef,undef,undef,undef,undef,undef,undef,undef,undef,undef,undef,undef,undef,undef,undef,undef,undef,undef,undef,undef,undef,undef,undef,undef,undef,undef,undef,undef,undef,undef,undef,undef,undef,undef],[]⟩ (by kernel_rfl) ?_
    refine Zay (g:=.tmp 53) (gf:=142) (lb:=#[P0 p1,P0 q1]) rfl (enters_of Tryz.func142 (by kernel_rfl) rfl) (fun d=>d=p1∨d=q1∨((Zd l details 3 fuel).es.length≠0∧d=s3)∨((Zd l top 1 fuel).es.length≠0∧d=s5)) (fun d=>d=p1∨d=q1) fy (fun d h=>h.elim (fun q=>q▸dq) (fun q=>q▸cv)) hf (fun _=>rfl)
     (fun i V=>B0 w V∧Fr [p1,q1] ao V∧((Xs 0 0 (Zd l details 3 fuel).es (Zd l top 1 fuel).es).take i).all Zbr=true)
     (fun c i V=>c=.ret∧BadAt (Yk l top details data fuel) w b3 b4 V) ?own (fun c k A B gc h hg hr=>⟨h.1,h.2.ab (q:=fun _=>False) hg hr m0⟩) ?start
     (fun x=>{ tmps:=#[P0 b,V0 top,V0 details,V0 data,V0 fuel,undef,P0 b1,P0 b2,undef,undef,P0 b3,P0 b4,P0 d5,.nilIface,P0 e6,(Dc s3 w1 x.1),(Dc s5 y1 x.2),undef,undef,undef,undef,undef,undef,.tuple #[.agg #[.slice pd ((Zd l details 3 fuel).es.length) cd,.slice e4 e2 e0,V0 e1,V0 e3,.slice d8 0 e5],.nilIface],P0 b,V0 details,V0 fuel,.tuple #[.agg #[.slice pd ((Zd l details 3 fuel).es.length) cd,.slice e4 e2 e0,V0 e1,V0 e3,.slice d8 0 e5],.nilIface],.agg #[.slice pd ((Zd l details 3 fuel).es.length) cd,.slice e4 e2 e0,V0 e1,V0 e3,.slice d8 0 e5],.nilIface,.nilIface,.bool false,undef,.tuple #[.agg #[.slice pt ((Zd l top 1 fuel).es.length) ct,.slice b9 a9 c0,V0 b5,V0 b0,.slice b8 0 b7],.nilIface],P0 b,V0 top,V0 fuel,.tuple #[.agg #[.slice pt ((Zd l top 1 fuel).es.length) ct,.slice b9 a9 c0,V0 b5,V0 b0,.slice b8 0 b7],.nilIface],.agg #[.slice pt ((Zd l top 1 fuel).es.length) ct,.slice b9 a9 c0,V0 b5,V0 b0,.slice b8 0 b7],.nilIface,.nilIface,.bool false,undef,P0 d5,.slice pd ((Zd l details 3 fuel).es.length) cd,V0 (↑((Zd l details 3 fuel).es.length):Int),.bool (decide ((↑((Zd l details 3 fuel).es.length):Int)>(4096:Int))),undef,undef,P0 d5,.slice pd ((Zd l details 3 fuel).es.length) cd,P0 e6,.slice pt ((Zd l top 1 fuel).es.length) ct,.func (.func 142) #[] #[P0 p1,P0 q1],(Dc s3 w1 x.1),(Dc s5 y1 x.2),undef,undef,undef,undef,undef,undef,undef,undef,undef,undef,undef,undef,undef,undef,undef,undef,undef,undef,undef,undef,undef,undef,undef,undef,undef,undef,undef,undef,undef,undef,undef,undef,undef,undef,undef,undef,undef,undef,undef,undef,undef],defers:=[] }) ?assign ?body ?done ?stop
    case own =>
     exact fun k A B gc h hg hr=>⟨Ze7 h.1 hg hr (Nat.le_refl _) m0 (fun r q=>by rcases q with rfl|rfl;exact kk;exact kz),fr_ab h.2.1 hg hr (fun r h=>by rcases h with rfl|rfl<;>simp),h.2.2⟩
    case start =>
     exact⟨hw,Fr.refl _ _,by simp⟩
    case assign =>
     intro lr i x W K hx hK
     refine Zca { tmps:=#[P0 b,V0 top,V0 details,V0 data,V0 fuel,undef,P0 b1,P0 b2,undef,undef,P0 b3,P0 b4,P0 d5,.nilIface,P0 e6,undef,undef,undef,undef,undef,undef,undef,undef,.tuple #[.agg #[.slice pd ((Zd l details 3 fuel).es.length) cd,.slice e4 e2 e0,V0 e1,V0 e3,.slice d8 0 e5],.nilIface],P0 b,V0 details,V0 fuel,.tuple #[.agg #[.slice pd ((Zd l details 3 fuel).es.length) cd,.slice e4 e2 e0,V0 e1,V0 e3,.slice d8 0 e5],.nilIface],.agg #[.slice pd ((Zd l details 3 fuel).es.length) cd,.slice e4 e2 e0,V0 e1,V0 e3,.slice d8 0 e5],.nilIface,.nilIface,.bool false,undef,.tuple #[.agg #[.slice pt ((Zd l top 1 fuel).es.length) ct,.slice b9 a9 c0,V0 b5,V0 b0,.slice b8 0 b7],.nilIface],P0 b,V0 top,V0 fuel,.tuple #[.agg #[.slice pt ((Zd l top 1 fuel).es.length) ct,.slice b9 a9 c0,V0 b5,V0 b0,.slice b8 0 b7],.nilIface],.agg #[.slice pt ((Zd l top 1 fuel).es.length) ct,.slice b9 a9 c0,V0 b5,V0 b0,.slice b8 0 b7],.nilIface,.nilIface,.bool false,undef,P0 d5,.slice pd ((Zd l details 3 fuel).es.length) cd,V0 (↑((Zd l details 3 fuel).es.length):Int),.bool (decide ((↑((Zd l details 3 fuel).es.length):Int)>(4096:Int))),undef,undef,P0 d5,.slice pd ((Zd l details 3 fuel).es.length) cd,P0 e6,.slice pt ((Zd l top 1 fuel).es.length) ct,.func (.func 142) #[] #[P0 p1,P0 q1],(Dc s3 w1 x.1),(Dc s5 y1 x.2),undef,undef,undef,undef,undef,undef,undef,undef,undef,undef,undef,undef,undef,undef,undef,undef,undef,undef,undef,undef,undef,undef,undef,undef,undef,undef,undef,undef,undef,undef,undef,undef,undef,undef,undef,undef,undef,undef,undef,undef,undef],defers:=[] } (by kernel_rfl) ?_
     refine wpIn_seq ?_
     refine Kc (fun⟨_,_,q⟩=>q) (by simp) ?_
     refine Gx 1 [(15,(Dc s3 w1 x.1))] (by kernel_rfl) ?_
     refine wpList_nil ?_
     refine Kc (fun⟨_,_,q⟩=>q) (by simp) ?_
     refine Gx 1 [(16,(Dc s5 y1 x.2))] (by kernel_rfl) ?_
     refine wpList_nil ?_
     exact hK
    case body =>
     rintro lr i x W ki hx ⟨o7,hF,ep⟩
     obtain⟨xa,xb⟩:=x
     rcases xa with _|ja<;>rcases xb with _|jb
     ·
      have g9:w.heap.size≤W.heap.size:=Nat.le_trans m0 hF.size
      have ek:=hI.below o7
      have hZ:RdS ao [b3,b4] W W:=RdS.refl _ hF.size
      have c3:=m5.fr hF (by simp only[List.mem_cons,List.not_mem_nil,or_false];omega)
      have c2:=o1.fr hF (by simp only[List.mem_cons,List.not_mem_nil,or_false];omega)
      have c7:=i3.fr hF (by simp only[List.mem_cons,List.not_mem_nil,or_false];omega)
      have c1:=i4.fr hF (by simp only[List.mem_cons,List.not_mem_nil,or_false];omega)
      have a7:=i2.fr hF (by simp only[List.mem_cons,List.not_mem_nil,or_false];omega)
      have a8:=i7.fr hF (by simp only[List.mem_cons,List.not_mem_nil,or_false];omega)
      refine Zca { tmps:=#[P0 b,V0 top,V0 details,V0 data,V0 fuel,undef,P0 b1,P0 b2,undef,undef,P0 b3,P0 b4,P0 d5,.nilIface,P0 e6,.pointer none,.pointer none,undef,undef,undef,undef,undef,undef,.tuple #[.agg #[.slice pd ((Zd l details 3 fuel).es.length) cd,.slice e4 e2 e0,V0 e1,V0 e3,.slice d8 0 e5],.nilIface],P0 b,V0 details,V0 fuel,.tuple #[.agg #[.slice pd ((Zd l details 3 fuel).es.length) cd,.slice e4 e2 e0,V0 e1,V0 e3,.slice d8 0 e5],.nilIface],.agg #[.slice pd ((Zd l details 3 fuel).es.length) cd,.slice e4 e2 e0,V0 e1,V0 e3,.slice d8 0 e5],.nilIface,.nilIface,.bool false,undef,.tuple #[.agg #[.slice pt ((Zd l top 1 fuel).es.length) ct,.slice b9 a9 c0,V0 b5,V0 b0,.slice b8 0 b7],.nilIface],P0 b,V0 top,V0 fuel,.tuple #[.agg #[.slice pt ((Zd l top 1 fuel).es.length) ct,.slice b9 a9 c0,V0 b5,V0 b0,.slice b8 0 b7],.nilIface],.agg #[.slice pt ((Zd l top 1 fuel).es.length) ct,.slice b9 a9 c0,V0 b5,V0 b0,.slice b8 0 b7],.nilIface,.nilIface,.bool false,undef,P0 d5,.slice pd ((Zd l details 3 fuel).es.length) cd,V0 (↑((Zd l details 3 fuel).es.length):Int),.bool (decide ((↑((Zd l details 3 fuel).es.length):Int)>(4096:Int))),undef,undef,P0 d5,.slice pd ((Zd l details 3 fuel).es.length) cd,P0 e6,.slice pt ((Zd l top 1 fuel).es.length) ct,.func (.func 142) #[] #[P0 p1,P0 q1],.pointer none,.pointer none,undef,undef,undef,undef,undef,undef,undef,undef,undef,undef,undef,undef,undef,undef,undef,undef,undef,undef,undef,undef,undef,undef,undef,undef,undef,undef,undef,undef,undef,undef,undef,undef,undef,undef,undef,undef,undef,undef,undef,undef,undef],defers:=[] } rfl ?_
      refine wpIn_block ?_
      refine wpIn_block ?_
      refine wpIn_seq ?_
      refine Kc (fun⟨_,_,q⟩=>q) (by simp) ?_
      refine Gx 3 [(57,.pointer none),(58,.bool true),(56,.bool true)] (by kernel_rfl) ?_
      refine wpList_nil ?_
      refine wpIn_cond_true (by kernel_rfl) ?_
      refine wpIn_seq ?_
      refine Kc (fun⟨_,_,q⟩=>q) (by simp) ?_
      refine Vv (by kernel_rfl) (Qm ⟨b2,0,none⟩ (V0 details) rfl (by kernel_rfl) (by kernel_rfl) (c2.cell (i:=0) rfl) ?_)
      refine Vv (by kernel_rfl) (He (lb:=#[]) 84 #[V0 details,V0 18] rfl (by kernel_rfl) (fun _ _=>by kernel_rfl) (by kernel_rfl) ((Hd details 18 _ (by omega)).mono ?_))
      rintro e ma ⟨df,ir,rfl,n7,i6⟩
      refine⟨_,rfl,?_⟩
      have hB:=blB (Below.refl w.heap.size W) g9 n7
      replace c3:=c3.below n7
      replace c2:=c2.below n7
      replace c7:=c7.below n7
      replace c1:=c1.below n7
      replace a7:=a7.below n7
      replace a8:=a8.below n7
      replace hZ:=hZ.below n7
      refine Vv (by kernel_rfl) (Ya (v:=S0) (b:=b3) (off:=0) rfl (by kernel_rfl) (by kernel_rfl) (by kernel_rfl) rfl c7 (by first|decide|simp) ?_)
      intro la z3 eh
      change Blk _ _ [S0] _ at eh
      replace hB:=z3.below hB g3
      replace c3:=z3.blk c3 (Ne.symm (Ne.symm j4))
      replace c2:=z3.blk c2 (Ne.symm (Ne.symm j6))
      replace c1:=z3.blk c1 (Ne.symm c8)
      replace a7:=z3.blk a7 (Ne.symm e7)
      replace a8:=z3.blk a8 (Ne.symm f1)
      replace hZ:=hZ.upd z3 c7 (.inl (by simp))
      replace i6:=i6.only (Zf.of_upd (T:=[46]) z3 c7 (by decide)) (by decide)
      refine Vv (by kernel_rfl) (Ya (v:=.iface df (ir)) (b:=b4) (off:=0) rfl (by kernel_rfl) (by kernel_rfl) (by kernel_rfl) rfl c1 (by first|decide|simp) ?_)
      intro lv z5 ih
      change Blk _ _ [.iface df (ir)] _ at ih
      replace hB:=z5.below hB g4
      replace c3:=z5.blk c3 (Ne.symm (Ne.symm j8))
      replace c2:=z5.blk c2 (Ne.symm (Ne.symm j9))
      replace eh:=z5.blk eh (Ne.symm (Ne.symm c8))
      replace a7:=z5.blk a7 (Ne.symm f0)
      replace a8:=z5.blk a8 (Ne.symm f2)
      replace hZ:=hZ.upd z5 c1 (.inl (by simp))
      replace i6:=i6.only (Zf.of_upd (T:=[30]) z5 c1 (by decide)) (by decide)
      refine wpList_nil ?_
      refine wpIn_ret (Qh (Qh ?_))
      exact⟨hZ.ko.from _,rfl,_,_,_,_,(Dj v1 w0 (by omega) ((Uu _ _ 0 0 i _ ep hx rfl).trans rfl)),(by decide),eh,ih,i6,o7.trans hB⟩
     ·
      have g9:w.heap.size≤W.heap.size:=Nat.le_trans m0 hF.size
      have ek:=hI.below o7
      have hZ:RdS ao [b3,b4] W W:=RdS.refl _ hF.size
      have c3:=m5.fr hF (by simp only[List.mem_cons,List.not_mem_nil,or_false];omega)
      have c2:=o1.fr hF (by simp only[List.mem_cons,List.not_mem_nil,or_false];omega)
      have c7:=i3.fr hF (by simp only[List.mem_cons,List.not_mem_nil,or_false];omega)
      have c1:=i4.fr hF (by simp only[List.mem_cons,List.not_mem_nil,or_false];omega)
      have a7:=i2.fr hF (by simp only[List.mem_cons,List.not_mem_nil,or_false];omega)
      have a8:=i7.fr hF (by simp only[List.mem_cons,List.not_mem_nil,or_false];omega)
      refine Zca { tmps:=#[P0 b,V0 top,V0 details,V0 data,V0 fuel,undef,P0 b1,P0 b2,undef,undef,P0 b3,P0 b4,P0 d5,.nilIface,P0 e6,.pointer none,.pointer (some ⟨s5,y1+3*jb,none⟩),undef,undef,undef,undef,undef,undef,.tuple #[.agg #[.slice pd ((Zd l details 3 fuel).es.length) cd,.slice e4 e2 e0,V0 e1,V0 e3,.slice d8 0 e5],.nilIface],P0 b,V0 details,V0 fuel,.tuple #[.agg #[.slice pd ((Zd l details 3 fuel).es.length) cd,.slice e4 e2 e0,V0 e1,V0 e3,.slice d8 0 e5],.nilIface],.agg #[.slice pd ((Zd l details 3 fuel).es.length) cd,.slice e4 e2 e0,V0 e1,V0 e3,.slice d8 0 e5],.nilIface,.nilIface,.bool false,undef,.tuple #[.agg #[.slice pt ((Zd l top 1 fuel).es.length) ct,.slice b9 a9 c0,V0 b5,V0 b0,.slice b8 0 b7],.nilIface],P0 b,V0 top,V0 fuel,.tuple #[.agg #[.slice pt ((Zd l top 1 fuel).es.length) ct,.slice b9 a9 c0,V0 b5,V0 b0,.slice b8 0 b7],.nilIface],.agg #[.slice pt ((Zd l top 1 fuel).es.length) ct,.slice b9 a9 c0,V0 b5,V0 b0,.slice b8 0 b7],.nilIface,.nilIface,.bool false,undef,P0 d5,.slice pd ((Zd l details 3 fuel).es.length) cd,V0 (↑((Zd l details 3 fuel).es.length):Int),.bool (decide ((↑((Zd l details 3 fuel).es.length):Int)>(4096:Int))),undef,undef,P0 d5,.slice pd ((Zd l details 3 fuel).es.length) cd,P0 e6,.slice pt ((Zd l top 1 fuel).es.length) ct,.func (.func 142) #[] #[P0 p1,P0 q1],.pointer none,.pointer (some ⟨s5,y1+3*jb,none⟩),undef,undef,undef,undef,undef,undef,undef,undef,undef,undef,undef,undef,undef,undef,undef,undef,undef,undef,undef,undef,undef,undef,undef,undef,undef,undef,undef,undef,undef,undef,undef,undef,undef,undef,undef,undef,undef,undef,undef,undef,undef],defers:=[] } rfl ?_
      refine wpIn_block ?_
      refine wpIn_block ?_
      refine wpIn_seq ?_
      refine Kc (fun⟨_,_,q⟩=>q) (by simp) ?_
      refine Gx 3 [(57,.pointer none),(58,.bool true),(56,.bool true)] (by kernel_rfl) ?_
      refine wpList_nil ?_
      refine wpIn_cond_true (by kernel_rfl) ?_
      refine wpIn_seq ?_
      refine Kc (fun⟨_,_,q⟩=>q) (by simp) ?_
      refine Vv (by kernel_rfl) (Qm ⟨b2,0,none⟩ (V0 details) rfl (by kernel_rfl) (by kernel_rfl) (c2.cell (i:=0) rfl) ?_)
      refine Vv (by kernel_rfl) (He (lb:=#[]) 84 #[V0 details,V0 18] rfl (by kernel_rfl) (fun _ _=>by kernel_rfl) (by kernel_rfl) ((Hd details 18 _ (by omega)).mono ?_))
      rintro e mt ⟨cq,iw,rfl,o2,i6⟩
      refine⟨_,rfl,?_⟩
      have hB:=blB (Below.refl w.heap.size W) g9 o2
      replace c3:=c3.below o2
      replace c2:=c2.below o2
      replace c7:=c7.below o2
      replace c1:=c1.below o2
      replace a7:=a7.below o2
      replace a8:=a8.below o2
      replace hZ:=hZ.below o2
      refine Vv (by kernel_rfl) (Ya (v:=S0) (b:=b3) (off:=0) rfl (by kernel_rfl) (by kernel_rfl) (by kernel_rfl) rfl c7 (by first|decide|simp) ?_)
      intro mf z1 eo
      change Blk _ _ [S0] _ at eo
      replace hB:=z1.below hB g3
      replace c3:=z1.blk c3 (Ne.symm (Ne.symm j4))
      replace c2:=z1.blk c2 (Ne.symm (Ne.symm j6))
      replace c1:=z1.blk c1 (Ne.symm c8)
      replace a7:=z1.blk a7 (Ne.symm e7)
      replace a8:=z1.blk a8 (Ne.symm f1)
      replace hZ:=hZ.upd z1 c7 (.inl (by simp))
      replace i6:=i6.only (Zf.of_upd (T:=[46]) z1 c7 (by decide)) (by decide)
      refine Vv (by kernel_rfl) (Ya (v:=.iface cq (iw)) (b:=b4) (off:=0) rfl (by kernel_rfl) (by kernel_rfl) (by kernel_rfl) rfl c1 (by first|decide|simp) ?_)
      intro ls y9 ji
      change Blk _ _ [.iface cq (iw)] _ at ji
      replace hB:=y9.below hB g4
      replace c3:=y9.blk c3 (Ne.symm (Ne.symm j8))
      replace c2:=y9.blk c2 (Ne.symm (Ne.symm j9))
      replace eo:=y9.blk eo (Ne.symm (Ne.symm c8))
      replace a7:=y9.blk a7 (Ne.symm f0)
      replace a8:=y9.blk a8 (Ne.symm f2)
      replace hZ:=hZ.upd y9 c1 (.inl (by simp))
      replace i6:=i6.only (Zf.of_upd (T:=[30]) y9 c1 (by decide)) (by decide)
      refine wpList_nil ?_
      refine wpIn_ret (Qh (Qh ?_))
      exact⟨hZ.ko.from _,rfl,_,_,_,_,(Dj v1 w0 (by omega) ((Uu _ _ 0 0 i _ ep hx rfl).trans rfl)),(by decide),eo,ji,i6,o7.trans hB⟩
     ·
      have g9:w.heap.size≤W.heap.size:=Nat.le_trans m0 hF.size
      have ek:=hI.below o7
      have hZ:RdS ao [b3,b4] W W:=RdS.refl _ hF.size
      have c3:=m5.fr hF (by simp only[List.mem_cons,List.not_mem_nil,or_false];omega)
      have c2:=o1.fr hF (by simp only[List.mem_cons,List.not_mem_nil,or_false];omega)
      have c7:=i3.fr hF (by simp only[List.mem_cons,List.not_mem_nil,or_false];omega)
      have c1:=i4.fr hF (by simp only[List.mem_cons,List.not_mem_nil,or_false];omega)
      have a7:=i2.fr hF (by simp only[List.mem_cons,List.not_mem_nil,or_false];omega)
      have a8:=i7.fr hF (by simp only[List.mem_cons,List.not_mem_nil,or_false];omega)
      refine Zca { tmps:=#[P0 b,V0 top,V0 details,V0 data,V0 fuel,undef,P0 b1,P0 b2,undef,undef,P0 b3,P0 b4,P0 d5,.nilIface,P0 e6,.pointer (some ⟨s3,w1+3*ja,none⟩),.pointer none,undef,undef,undef,undef,undef,undef,.tuple #[.agg #[.slice pd ((Zd l details 3 fuel).es.length) cd,.slice e4 e2 e0,V0 e1,V0 e3,.slice d8 0 e5],.nilIface],P0 b,V0 details,V0 fuel,.tuple #[.agg #[.slice pd ((Zd l details 3 fuel).es.length) cd,.slice e4 e2 e0,V0 e1,V0 e3,.slice d8 0 e5],.nilIface],.agg #[.slice pd ((Zd l details 3 fuel).es.length) cd,.slice e4 e2 e0,V0 e1,V0 e3,.slice d8 0 e5],.nilIface,.nilIface,.bool false,undef,.tuple #[.agg #[.slice pt ((Zd l top 1 fuel).es.length) ct,.slice b9 a9 c0,V0 b5,V0 b0,.slice b8 0 b7],.nilIface],P0 b,V0 top,V0 fuel,.tuple #[.agg #[.slice pt ((Zd l top 1 fuel).es.length) ct,.slice b9 a9 c0,V0 b5,V0 b0,.slice b8 0 b7],.nilIface],.agg #[.slice pt ((Zd l top 1 fuel).es.length) ct,.slice b9 a9 c0,V0 b5,V0 b0,.slice b8 0 b7],.nilIface,.nilIface,.bool false,undef,P0 d5,.slice pd ((Zd l details 3 fuel).es.length) cd,V0 (↑((Zd l details 3 fuel).es.length):Int),.bool (decide ((↑((Zd l details 3 fuel).es.length):Int)>(4096:Int))),undef,undef,P0 d5,.slice pd ((Zd l details 3 fuel).es.length) cd,P0 e6,.slice pt ((Zd l top 1 fuel).es.length) ct,.func (.func 142) #[] #[P0 p1,P0 q1],.pointer (some ⟨s3,w1+3*ja,none⟩),.pointer none,undef,undef,undef,undef,undef,undef,undef,undef,undef,undef,undef,undef,undef,undef,undef,undef,undef,undef,undef,undef,undef,undef,undef,undef,undef,undef,undef,undef,undef,undef,undef,undef,undef,undef,undef,undef,undef,undef,undef,undef,undef],defers:=[] } rfl ?_
      refine wpIn_block ?_
      refine wpIn_block ?_
      refine wpIn_seq ?_
      refine Kc (fun⟨_,_,q⟩=>q) (by simp) ?_
      refine Gx 3 [(57,.pointer (some ⟨s3,w1+3*ja,none⟩)),(58,.bool false),(56,.bool false)] (by kernel_rfl) ?_
      refine wpList_nil ?_
      refine wpIn_cond_false (by kernel_rfl) ?_
      refine wpIn_seq ?_
      refine Kc (fun⟨_,_,q⟩=>q) (by simp) ?_
      refine Gx 3 [(62,.pointer none),(63,.bool true),(61,.bool true)] (by kernel_rfl) ?_
      refine wpList_nil ?_
      refine wpIn_cond_true (by kernel_rfl) ?_
      refine wpIn_seq ?_
      refine Kc (fun⟨_,_,q⟩=>q) (by simp) ?_
      refine Vv (by kernel_rfl) (Qm ⟨b1,0,none⟩ (V0 top) rfl (by kernel_rfl) (by kernel_rfl) (c3.cell (i:=0) rfl) ?_)
      refine Vv (by kernel_rfl) (He (lb:=#[]) 84 #[V0 top,V0 18] rfl (by kernel_rfl) (fun _ _=>by kernel_rfl) (by kernel_rfl) ((Hd top 18 _ (by omega)).mono ?_))
      rintro e ml ⟨cw,jm,rfl,n5,i6⟩
      refine⟨_,rfl,?_⟩
      have hB:=blB (Below.refl w.heap.size W) g9 n5
      replace c3:=c3.below n5
      replace c2:=c2.below n5
      replace c7:=c7.below n5
      replace c1:=c1.below n5
      replace a7:=a7.below n5
      replace a8:=a8.below n5
      replace hZ:=hZ.below n5
      refine Vv (by kernel_rfl) (Ya (v:=S0) (b:=b3) (off:=0) rfl (by kernel_rfl) (by kernel_rfl) (by kernel_rfl) rfl c7 (by first|decide|simp) ?_)
      intro ll z4 dy
      change Blk _ _ [S0] _ at dy
      replace hB:=z4.below hB g3
      replace c3:=z4.blk c3 (Ne.symm (Ne.symm j4))
      replace c2:=z4.blk c2 (Ne.symm (Ne.symm j6))
      replace c1:=z4.blk c1 (Ne.symm c8)
      replace a7:=z4.blk a7 (Ne.symm e7)
      replace a8:=z4.blk a8 (Ne.symm f1)
      replace hZ:=hZ.upd z4 c7 (.inl (by simp))
      replace i6:=i6.only (Zf.of_upd (T:=[46]) z4 c7 (by decide)) (by decide)
      refine Vv (by kernel_rfl) (Ya (v:=.iface cw (jm)) (b:=b4) (off:=0) rfl (by kernel_rfl) (by kernel_rfl) (by kernel_rfl) rfl c1 (by first|decide|simp) ?_)
      intro lp y6 ie
      change Blk _ _ [.iface cw (jm)] _ at ie
      replace hB:=y6.below hB g4
      replace c3:=y6.blk c3 (Ne.symm (Ne.symm j8))
      replace c2:=y6.blk c2 (Ne.symm (Ne.symm j9))
      replace dy:=y6.blk dy (Ne.symm (Ne.symm c8))
      replace a7:=y6.blk a7 (Ne.symm f0)
      replace a8:=y6.blk a8 (Ne.symm f2)
      replace hZ:=hZ.upd y6 c1 (.inl (by simp))
      replace i6:=i6.only (Zf.of_upd (T:=[30]) y6 c1 (by decide)) (by decide)
      refine wpList_nil ?_
      refine wpIn_ret (Qh (Qh ?_))
      exact⟨hZ.ko.from _,rfl,_,_,_,_,(Iv v1 w0 (by omega) ((Uu _ _ 0 0 i _ ep hx rfl).trans rfl)),(by decide),dy,ie,i6,o7.trans hB⟩
     ·
      have g9:w.heap.size≤W.heap.size:=Nat.le_trans m0 hF.size
      have ek:=hI.below o7
      have hZ:RdS ao [b3,b4] W W:=RdS.refl _ hF.size
      have c3:=m5.fr hF (by simp only[List.mem_cons,List.not_mem_nil,or_false];omega)
      have c2:=o1.fr hF (by simp only[List.mem_cons,List.not_mem_nil,or_false];omega)
      have c7:=i3.fr hF (by simp only[List.mem_cons,List.not_mem_nil,or_false];omega)
      have c1:=i4.fr hF (by simp only[List.mem_cons,List.not_mem_nil,or_false];omega)
      have a7:=i2.fr hF (by simp only[List.mem_cons,List.not_mem_nil,or_false];omega)
      have a8:=i7.fr hF (by simp only[List.mem_cons,List.not_mem_nil,or_false];omega)
      refine Zca { tmps:=#[P0 b,V0 top,V0 details,V0 data,V0 fuel,undef,P0 b1,P0 b2,undef,undef,P0 b3,P0 b4,P0 d5,.nilIface,P0 e6,.pointer (some ⟨s3,w1+3*ja,none⟩),.pointer (some ⟨s5,y1+3*jb,none⟩),undef,undef,undef,undef,undef,undef,.tuple #[.agg #[.slice pd ((Zd l details 3 fuel).es.length) cd,.slice e4 e2 e0,V0 e1,V0 e3,.slice d8 0 e5],.nilIface],P0 b,V0 details,V0 fuel,.tuple #[.agg #[.slice pd ((Zd l details 3 fuel).es.length) cd,.slice e4 e2 e0,V0 e1,V0 e3,.slice d8 0 e5],.nilIface],.agg #[.slice pd ((Zd l details 3 fuel).es.length) cd,.slice e4 e2 e0,V0 e1,V0 e3,.slice d8 0 e5],.nilIface,.nilIface,.bool false,undef,.tuple #[.agg #[.slice pt ((Zd l top 1 fuel).es.length) ct,.slice b9 a9 c0,V0 b5,V0 b0,.slice b8 0 b7],.nilIface],P0 b,V0 top,V0 fuel,.tuple #[.agg #[.slice pt ((Zd l top 1 fuel).es.length) ct,.slice b9 a9 c0,V0 b5,V0 b0,.slice b8 0 b7],.nilIface],.agg #[.slice pt ((Zd l top 1 fuel).es.length) ct,.slice b9 a9 c0,V0 b5,V0 b0,.slice b8 0 b7],.nilIface,.nilIface,.bool false,undef,P0 d5,.slice pd ((Zd l details 3 fuel).es.length) cd,V0 (↑((Zd l details 3 fuel).es.length):Int),.bool (decide ((↑((Zd l details 3 fuel).es.length):Int)>(4096:Int))),undef,undef,P0 d5,.slice pd ((Zd l details 3 fuel).es.length) cd,P0 e6,.slice pt ((Zd l top 1 fuel).es.length) ct,.func (.func 142) #[] #[P0 p1,P0 q1],.pointer (some ⟨s3,w1+3*ja,none⟩),.pointer (some ⟨s5,y1+3*jb,none⟩),undef,undef,undef,undef,undef,undef,undef,undef,undef,undef,undef,undef,undef,undef,undef,undef,undef,undef,undef,undef,undef,undef,undef,undef,undef,undef,undef,undef,undef,undef,undef,undef,undef,undef,undef,undef,undef,undef,undef,undef,undef],defers:=[] } rfl ?_
      refine wpIn_block ?_
      refine wpIn_block ?_
      refine wpIn_seq ?_
      refine Kc (fun⟨_,_,q⟩=>q) (by simp) ?_
      refine Gx 3 [(57,.pointer (some ⟨s3,w1+3*ja,none⟩)),(58,.bool false),(56,.bool false)] (by kernel_rfl) ?_
      refine wpList_nil ?_
      refine wpIn_cond_false (by kernel_rfl) ?_
      refine wpIn_seq ?_
      refine Kc (fun⟨_,_,q⟩=>q) (by simp) ?_
      refine Gx 3 [(62,.pointer (some ⟨s5,y1+3*jb,none⟩)),(63,.bool false),(61,.bool false)] (by kernel_rfl) ?_
      refine wpList_nil ?_
      refine wpIn_cond_false (by kernel_rfl) ?_
      refine wpIn_skip ?_
      exact⟨KeepsFrom.refl _ _,Keeps.refl _ _,o7,hF,Ar ep hx rfl⟩
    case stop =>
     rintro D c k V hD hk ⟨rfl,ty,v,bl,er,hO,gs,bx,j1,hv,hb⟩ y3
     have hK:Dfr D V:=y3
     refine wp_ret (Qh (Di ?_))
     exact ret1 bx j1 hK (Zgc (.inr ⟨_,_,rfl⟩) (by kernel_rfl) (by kernel_rfl)) rfl (Wp hO gs (Mv hb hb.size (Nat.le_trans m0 hD) _) (hv.pt hK _))
    case done =>
     rintro D1 W9 im ⟨jy,z0,ag⟩ y3
     have hK:Dfr D1 W9:=y3;clear y3
     rw[List.take_length] at ag
     have dl:=ag
     have el:=(Fh _ _ 0 0 ag).1
     have jx:=(Bb el).1
     have d2:=m5.fr z0 (by simp only[List.mem_cons,List.not_mem_nil,or_false];omega)
     have d3:=o1.fr z0 (by simp only[List.mem_cons,List.not_mem_nil,or_false];omega)
     have d1:=i3.fr z0 (by simp only[List.mem_cons,List.not_mem_nil,or_false];omega)
     have d4:=i4.fr z0 (by simp only[List.mem_cons,List.not_mem_nil,or_false];omega)
     have c4:=i2.fr z0 (by simp only[List.mem_cons,List.not_mem_nil,or_false];omega)
     have c5:=i7.fr z0 (by simp only[List.mem_cons,List.not_mem_nil,or_false];omega)
     have s4:=Sv bz z0 (fun d hd=>by simp only[List.mem_cons,List.not_mem_nil,or_false];rintro(h|h);exact Xq bz y7 (by decide) d hd h;exact Xq bz z9 (by decide) d hd h)
     have s7:=Sv cg z0 (fun d hd=>by simp only[List.mem_cons,List.not_mem_nil,or_false];rintro(h|h);exact Xq cg y7 (by decide) d hd h;exact Xq cg z9 (by decide) d hd h)
     replace hB:=jy
     refine wp_seq ?_
     refine wp_region_lit ?_
     refine Gx 4 [(66,P0 b),(67,V0 data),(68,V0 fuel),(69,.agg #[P0 b,V0 data,V0 fuel,V0 0])] (by kernel_rfl) ?_
     refine Vv (by kernel_rfl) (Zbh [P0 b,V0 data,V0 fuel,V0 0] rfl (by kernel_rfl) ?_)
     intro g8 lm m4
     have av:=m4.ne d2
     have ae:=m4.ne d3
     have ad:=m4.ne d1
     have al:=m4.ne d4
     have w4:=m4.ne c4
     have x6:=m4.ne c5
     have kq:=m4.ge hB
     replace hB:=bln hB m4.below
     replace d2:=d2.below m4.below
     replace d3:=d3.below m4.below
     replace d1:=d1.below m4.below
     replace d4:=d4.below m4.below
     replace c4:=c4.below m4.below
     replace c5:=c5.below m4.below
     replace s4:=Zb s4 m4.below
     replace s7:=Zb s7 m4.below
     replace hK:=hK.below m4.below
     have s0:=m4.blk
     refine Vv (by kernel_rfl) (Kk [.pointer none] rfl (by kernel_rfl) ?_)
     intro z2 ly j5
     have ap:=j5.ne d2
     have aq:=j5.ne d3
     have l7:=j5.ne d1
     have l2:=j5.ne d4
     have w6:=j5.ne c4
     have x7:=j5.ne c5
     have q8:=j5.ne s0
     have kh:=j5.ge hB
     replace hB:=bln hB j5.below
     replace d2:=d2.below j5.below
     replace d3:=d3.below j5.below
     replace d1:=d1.below j5.below
     replace d4:=d4.below j5.below
     replace c4:=c4.below j5.below
     replace c5:=c5.below j5.below
     replace s0:=s0.below j5.below
     replace s4:=Zb s4 j5.below
     replace s7:=Zb s7 j5.below
     replace hK:=hK.below j5.below
     have ds:=j5.blk
     refine Vv (by kernel_rfl) (Ya (v:=P0 g8) (b:=z2) (off:=0) rfl (by kernel_rfl) (by kernel_rfl) (by kernel_rfl) rfl ds (by first|decide|simp) ?_)
     intro lw v7 z7
     change Blk _ _ [P0 g8] _ at z7
     replace hB:=v7.below hB kh
     replace d2:=v7.blk d2 (Ne.symm (Ne.symm ap))
     replace d3:=v7.blk d3 (Ne.symm (Ne.symm aq))
     replace d1:=v7.blk d1 (Ne.symm (Ne.symm l7))
     replace d4:=v7.blk d4 (Ne.symm (Ne.symm l2))
     replace c4:=v7.blk c4 (Ne.symm (Ne.symm w6))
     replace c5:=v7.blk c5 (Ne.symm (Ne.symm x7))
     replace s0:=v7.blk s0 (Ne.symm (Ne.symm q8))
     replace s4:=v7.own2 s4 ds (by decide)
     replace s7:=v7.own2 s7 ds (by decide)
     replace hK:=hK.upd v7 ds
     refine wpList_nil ?_
     refine wp_seq ?_
     refine wp_region_lit ?_
     refine Vv (by kernel_rfl) (Kk [S0] rfl (by kernel_rfl) ?_)
     intro i9 lh j0
     have p7:=j0.ne d2
     have q3:=j0.ne d3
     have g5:=j0.ne d1
     have g7:=j0.ne d4
     have k5:=j0.ne c4
     have l6:=j0.ne c5
     have q4:=j0.ne s0
     have l3:=j0.ne z7
     have js:=j0.ge hB
     replace hB:=bln hB j0.below
     replace d2:=d2.below j0.below
     replace d3:=d3.below j0.below
     replace d1:=d1.below j0.below
     replace d4:=d4.below j0.below
     replace c4:=c4.below j0.below
     replace c5:=c5.below j0.below
     replace s0:=s0.below j0.below
     replace z7:=z7.below j0.below
     replace s4:=Zb s4 j0.below
     replace s7:=Zb s7 j0.below
     replace hK:=hK.below j0.below
     have de:=j0.blk
     refine wpList_nil ?_
     refine wp_seq ?_
     refine wp_seq ?_
     refine wp_region_lit ?_
     refine Gx 1 [(71,P0 d5)] (by kernel_rfl) ?_
     refine Vv (by kernel_rfl) (Qm ⟨d5,0,none⟩ (.slice pd ((Zd l details 3 fuel).es.length) cd) rfl (by kernel_rfl) (by kernel_rfl) (c4.cell (i:=0) rfl) ?_)
     refine Gx 1 [(73,P0 e6)] (by kernel_rfl) ?_
     refine Vv (by kernel_rfl) (Qm ⟨e6,0,none⟩ (.slice pt ((Zd l top 1 fuel).es.length) ct) rfl (by kernel_rfl) (by kernel_rfl) (c5.cell (i:=0) rfl) ?_)
     have hz:=Zh s4
     have hq:=Zh s7
     have dn:=hB.size
     have gq:=d2.lt
     have ia:=d3.lt
     have hu:=d1.lt
     have hp:=d4.lt
     have fc:=c4.lt
     have ed:=c5.lt
     have fb:=s0.lt
     have fd:=z7.lt
     have fn:=de.lt
     refine Vv (by kernel_rfl) (He (lb:=#[]) 85 #[.slice pd ((Zd l details 3 fuel).es.length) cd,.slice pt ((Zd l top 1 fuel).es.length) ct] rfl (by kernel_rfl) (fun _ _=>by kernel_rfl) (by kernel_rfl) ((Ey pd (Zd l details 3 fuel).es.length cd pt (Zd l top 1 fuel).es.length ct _).mono ?_))
     rintro e az ⟨p2,q2,rfl,f9,dg,co,fp,bb,bo⟩
     refine⟨_,rfl,?_⟩
     replace hB:=bln hB f9
     replace d2:=d2.below f9
     replace d3:=d3.below f9
     replace d1:=d1.below f9
     replace d4:=d4.below f9
     replace c4:=c4.below f9
     replace c5:=c5.below f9
     replace s0:=s0.below f9
     replace z7:=z7.below f9
     replace de:=de.below f9
     replace s4:=Zb s4 f9
     replace s7:=Zb s7 f9
     replace hK:=hK.below f9
     refine wpList_nil ?_
     refine wp_block ?_
     obtain⟨bj,dz,ah,eg,gl,s2,s1⟩:=Oo (A:=(Zd l details 3 fuel).es) (E:=(Zd l top 1 fuel).es) rfl rfl (by omega) (by omega) hz hq f9 dg co fp bb bo
     have l1:w.heap.size≤az.heap.size:=hB.size
     have kx:w.heap.size≤p2:=Nat.le_trans dn dg
     have ks:w.heap.size≤q2:=Nat.le_trans dn co
     have x3:=bb.lt
     have x5:=bo.lt
     have gt:=hB
     have aa:=d2
     have z8:=d3
     have j7:=d1
     have k0:=d4
     have t7:=c4
     have v4:=c5
     have i8:=s0
     have t1:=z7
     have i5:=de
     have t8:=bb
     have t2:=bo
     have w3:=s4
     have w2:=s7
     have je:w.heap.size≤g8:=kq
     have q6:b1≠g8:=(Ne.symm (Ne.symm av))
     have r8:b1≠i9:=(Ne.symm (Ne.symm p7))
     have r3:b2≠g8:=(Ne.symm (Ne.symm ae))
     have r2:b2≠i9:=(Ne.symm (Ne.symm q3))
     have r5:b3≠g8:=(Ne.symm (Ne.symm ad))
     have q7:b3≠i9:=(Ne.symm (Ne.symm g5))
     have r9:b4≠g8:=(Ne.symm (Ne.symm al))
     have q9:b4≠i9:=(Ne.symm (Ne.symm g7))
     have m7:d5≠g8:=(Ne.symm (Ne.symm w4))
     have n0:d5≠i9:=(Ne.symm (Ne.symm k5))
     have n9:e6≠g8:=(Ne.symm (Ne.symm x6))
     have m8:e6≠i9:=(Ne.symm (Ne.symm l6))
     have m9:z2≠g8:=(Ne.symm q8)
     have o0:z2≠i9:=(Ne.symm (Ne.symm l3))
     have kv:g8≠p2:=by omega
     have kf:g8≠q2:=by omega
     have kb:i9≠p2:=by omega
     have jw:i9≠q2:=by omega
     have bg:∀ d,(fun d=>d=p2∨d=q2∨((Zd l details 3 fuel).es.length≠0∧d=bj)∨((Zd l top 1 fuel).es.length≠0∧d=ah)) d→d<az.heap.size:=by
      rintro d (rfl|rfl|⟨h,rfl⟩|⟨h,rfl⟩)
      ·exact x3
      ·exact x5
      ·exact(w3.lt _ (by rw[s2 h];rfl)).2
      ·exact(w2.lt _ (by rw[s1 h];rfl)).2
     have cz:∀ d,(fun d=>d=p2∨d=q2∨((Zd l details 3 fuel).es.length≠0∧d=bj)∨((Zd l top 1 fuel).es.length≠0∧d=ah)) d→d∉[b3,b4,g8,i9]:=by
      rintro d (rfl|rfl|⟨h,rfl⟩|⟨h,rfl⟩)<;>simp only[List.mem_cons,List.not_mem_nil,or_false]
      ·omega
      ·omega
      ·rintro(h9|h9|h9|h9)
       ·exact Xq w3 j7 (by decide) _ (by rw[s2 h];rfl) h9
       ·exact Xq w3 k0 (by decide) _ (by rw[s2 h];rfl) h9
       ·exact Xq w3 i8 (by decide) _ (by rw[s2 h];rfl) h9
       ·exact Xq w3 i5 (by decide) _ (by rw[s2 h];rfl) h9
      ·rintro(h9|h9|h9|h9)
       ·exact Xq w2 j7 (by decide) _ (by rw[s1 h];rfl) h9
       ·exact Xq w2 k0 (by decide) _ (by rw[s1 h];rfl) h9
       ·exact Xq w2 i8 (by decide) _ (by rw[s1 h];rfl) h9
       ·exact Xq w2 i5 (by decide) _ (by rw[s1 h];rfl) h9
     have bq:D1<az.heap.size:=(Array.getElem?_eq_some_iff.1 hK).1
     have gg:D1∉[p2,q2,g8,i9]:=by simp only[List.mem_cons,List.not_mem_nil,or_false];rintro(h9|h9|h9|h9);exact(hK.ne t8) h9.symm;exact(hK.ne t2) h9.symm;exact(hK.ne i8) h9.symm;exact(hK.ne i5) h9.symm
     have fx:=hK
     refine g_fr ⟨#[P0 b,V0 top,V0 details,V0 data,V0 fuel,undef,P0 b1,P0 b2,undef,undef,P0 b3,P0 b4,P0 d5,.nilIface,P0 e6,undef,undef,P0 z2,P0 i9,undef,undef,undef,undef,.tuple #[.agg #[.slice pd ((Zd l details 3 fuel).es.length) cd,.slice e4 e2 e0,V0 e1,V0 e3,.slice d8 0 e5],.nilIface],P0 b,V0 details,V0 fuel,.tuple #[.agg #[.slice pd ((Zd l details 3 fuel).es.length) cd,.slice e4 e2 e0,V0 e1,V0 e3,.slice d8 0 e5],.nilIface],.agg #[.slice pd ((Zd l details 3 fuel).es.length) cd,.slice e4 e2 e0,V0 e1,V0 e3,.slice d8 0 e5],.nilIface,.nilIface,.bool false,undef,.tuple #[.agg #[.slice pt ((Zd l top 1 fuel).es.length) ct,.slice b9 a9 c0,V0 b5,V0 b0,.slice b8 0 b7],.nilIface],P0 b,V0 top,V0 fuel,.tuple #[.agg #[.slice pt ((Zd l top 1 fuel).es.length) ct,.slice b9 a9 c0,V0 b5,V0 b0,.slice b8 0 b7],.nilIface],.agg #[.slice pt ((Zd l top 1 fuel).es.length) ct,.slice b9 a9 c0,V0 b5,V0 b0,.slice b8 0 b7],.nilIface,.nilIface,.bool false,undef,P0 d5,.slice pd ((Zd l details 3 fuel).es.length) cd,V0 (↑((Zd l details 3 fuel).es.length):Int),.bool (decide ((↑((Zd l details 3 fuel).es.length):Int)>(4096:Int))),undef,undef,P0 d5,.slice pd ((Zd l details 3 fuel).es.length) cd,P0 e6,.slice pt ((Zd l top 1 fuel).es.length) ct,.func (.func 142) #[] #[P0 p1,P0 q1],undef,undef,undef,undef,undef,undef,undef,undef,undef,undef,undef,undef,P0 b,V0 data,V0 fuel,.agg #[P0 b,V0 data,V0 fuel,V0 0],P0 g8,P0 d5,.slice pd ((Zd l details 3 fuel).es.length) cd,P0 e6,.slice pt ((Zd l top 1 fuel).es.length) ct,.func (.func 142) #[] #[P0 p2,P0 q2],undef,undef,undef,undef,undef,undef,undef,undef,undef,undef,undef,undef,undef,undef,undef,undef,undef,undef,undef,undef,undef],[{ target:=.collected D1,args:=#[] }]⟩ (by kernel_rfl) ?_
     refine Zay (g:=.tmp 75) (gf:=142) (lb:=#[P0 p2,P0 q2]) rfl (enters_of Tryz.func142 (by kernel_rfl) rfl) (fun d=>d=p2∨d=q2∨((Zd l details 3 fuel).es.length≠0∧d=bj)∨((Zd l top 1 fuel).es.length≠0∧d=ah)) (fun d=>d=p2∨d=q2) bg (fun d h=>h.elim (fun q=>q▸x3) (fun q=>q▸x5)) gl (fun _=>rfl)
      (fun i V=>B0 w V∧Fr [p2,q2,g8,i9] az V∧Blk V g8 [P0 b,V0 data,V0 fuel,V0 (↑(Oh l (Zd l top 1 fuel).es data fuel i):Int)] 185∧(Oh l (Zd l top 1 fuel).es data fuel i)≤16384∧devK l (Zd l details 3 fuel).es (Zd l top 1 fuel).es data fuel i∧∃ (p:O0) (c:Nat) (Z:List Zv),Blk V i9 [.slice p i c] 46∧V.ownsRow az.heap.size 108 5 (.slice p i c) i (Z.flatMap Lg)∧Xu az.heap.size V Z∧Z.length=i∧Z.map Prod.fst=devL l (Zd l details 3 fuel).es (Zd l top 1 fuel).es data fuel i)
      (fun c i V=>c=.ret∧Dfr D1 V∧BadAt (Yk l top details data fuel) w b3 b4 V) ?own (fun c k A B gc h hg hr=>⟨h.1,(hg.block D1 (Array.getElem?_eq_some_iff.1 h.2.1).1 (fun e=>by have:=(hr _ e.symm).1;omega)).trans h.2.1,h.2.2.ab (q:=fun _=>False) hg hr l1⟩) ?start
      (fun x=>{ tmps:=#[P0 b,V0 top,V0 details,V0 data,V0 fuel,undef,P0 b1,P0 b2,undef,undef,P0 b3,P0 b4,P0 d5,.nilIface,P0 e6,undef,undef,P0 z2,P0 i9,(Dc bj dz x.1),(Dc ah eg x.2),undef,undef,.tuple #[.agg #[.slice pd ((Zd l details 3 fuel).es.length) cd,.slice e4 e2 e0,V0 e1,V0 e3,.slice d8 0 e5],.nilIface],P0 b,V0 details,V0 fuel,.tuple #[.agg #[.slice pd ((Zd l details 3 fuel).es.length) cd,.slice e4 e2 e0,V0 e1,V0 e3,.slice d8 0 e5],.nilIface],.agg #[.slice pd ((Zd l details 3 fuel).es.length) cd,.slice e4 e2 e0,V0 e1,V0 e3,.slice d8 0 e5],.nilIface,.nilIface,.bool false,undef,.tuple #[.agg #[.slice pt ((Zd l top 1 fuel).es.length) ct,.slice b9 a9 c0,V0 b5,V0 b0,.slice b8 0 b7],.nilIface],P0 b,V0 top,V0 fuel,.tuple #[.agg #[.slice pt ((Zd l top 1 fuel).es.length) ct,.slice b9 a9 c0,V0 b5,V0 b0,.slice b8 0 b7],.nilIface],.agg #[.slice pt ((Zd l top 1 fuel).es.length) ct,.slice b9 a9 c0,V0 b5,V0 b0,.slice b8 0 b7],.nilIface,.nilIface,.bool false,undef,P0 d5,.slice pd ((Zd l details 3 fuel).es.length) cd,V0 (↑((Zd l details 3 fuel).es.length):Int),.bool (decide ((↑((Zd l details 3 fuel).es.length):Int)>(4096:Int))),undef,undef,P0 d5,.slice pd ((Zd l details 3 fuel).es.length) cd,P0 e6,.slice pt ((Zd l top 1 fuel).es.length) ct,.func (.func 142) #[] #[P0 p1,P0 q1],undef,undef,undef,undef,undef,undef,undef,undef,undef,undef,undef,undef,P0 b,V0 data,V0 fuel,.agg #[P0 b,V0 data,V0 fuel,V0 0],P0 g8,P0 d5,.slice pd ((Zd l details 3 fuel).es.length) cd,P0 e6,.slice pt ((Zd l top 1 fuel).es.length) ct,.func (.func 142) #[] #[P0 p2,P0 q2],(Dc bj dz x.1),(Dc ah eg x.2),undef,undef,undef,undef,undef,undef,undef,undef,undef,undef,undef,undef,undef,undef,undef,undef,undef,undef,undef],defers:=[] }) ?assign ?body ?done ?stop
     case own =>
      rintro k A B gc ⟨h1,h2,h3,h4,h5,p,c,Z,h6,h7,h8,h9,ke⟩ hg hr
      exact⟨Ze7 h1 hg hr (Nat.le_refl _) l1 (fun r q=>by rcases q with rfl|rfl;exact kx;exact ks),fr_ab h2 hg hr (fun r h=>by rcases h with rfl|rfl<;>simp),blk_ab h3 hg hr (fun r q=>by rcases q with rfl|rfl;exact kv;exact kf),h4,h5,p,c,Z,blk_ab h6 hg hr (fun r q=>by rcases q with rfl|rfl;exact kb;exact jw),own_ab h7 hg hr (fun r q=>by rcases q with rfl|rfl;exact x3;exact x5),h8.ab hg hr (fun r q=>by rcases q with rfl|rfl;exact x3;exact x5),h9,ke⟩
     case start =>
      exact⟨gt,Fr.refl _ _,s0,Nat.zero_le _,fun j hj=>absurd hj (by omega),none,0,[],de,World.ownsRow_nil _ _ _ _,Xu.nil _ _,rfl,rfl⟩
     case assign =>
      intro lr i x W K hx hK
      refine Zca { tmps:=#[P0 b,V0 top,V0 details,V0 data,V0 fuel,undef,P0 b1,P0 b2,undef,undef,P0 b3,P0 b4,P0 d5,.nilIface,P0 e6,undef,undef,P0 z2,P0 i9,undef,undef,undef,undef,.tuple #[.agg #[.slice pd ((Zd l details 3 fuel).es.length) cd,.slice e4 e2 e0,V0 e1,V0 e3,.slice d8 0 e5],.nilIface],P0 b,V0 details,V0 fuel,.tuple #[.agg #[.slice pd ((Zd l details 3 fuel).es.length) cd,.slice e4 e2 e0,V0 e1,V0 e3,.slice d8 0 e5],.nilIface],.agg #[.slice pd ((Zd l details 3 fuel).es.length) cd,.slice e4 e2 e0,V0 e1,V0 e3,.slice d8 0 e5],.nilIface,.nilIface,.bool false,undef,.tuple #[.agg #[.slice pt ((Zd l top 1 fuel).es.length) ct,.slice b9 a9 c0,V0 b5,V0 b0,.slice b8 0 b7],.nilIface],P0 b,V0 top,V0 fuel,.tuple #[.agg #[.slice pt ((Zd l top 1 fuel).es.length) ct,.slice b9 a9 c0,V0 b5,V0 b0,.slice b8 0 b7],.nilIface],.agg #[.slice pt ((Zd l top 1 fuel).es.length) ct,.slice b9 a9 c0,V0 b5,V0 b0,.slice b8 0 b7],.nilIface,.nilIface,.bool false,undef,P0 d5,.slice pd ((Zd l details 3 fuel).es.length) cd,V0 (↑((Zd l details 3 fuel).es.length):Int),.bool (decide ((↑((Zd l details 3 fuel).es.length):Int)>(4096:Int))),undef,undef,P0 d5,.slice pd ((Zd l details 3 fuel).es.length) cd,P0 e6,.slice pt ((Zd l top 1 fuel).es.length) ct,.func (.func 142) #[] #[P0 p1,P0 q1],undef,undef,undef,undef,undef,undef,undef,undef,undef,undef,undef,undef,P0 b,V0 data,V0 fuel,.agg #[P0 b,V0 data,V0 fuel,V0 0],P0 g8,P0 d5,.slice pd ((Zd l details 3 fuel).es.length) cd,P0 e6,.slice pt ((Zd l top 1 fuel).es.length) ct,.func (.func 142) #[] #[P0 p2,P0 q2],(Dc bj dz x.1),(Dc ah eg x.2),undef,undef,undef,undef,undef,undef,undef,undef,undef,undef,undef,undef,undef,undef,undef,undef,undef,undef,undef],defers:=[] } (by kernel_rfl) ?_
      refine wpIn_seq ?_
      refine Kc (fun⟨_,_,q⟩=>q) (by simp) ?_
      refine Gx 1 [(19,(Dc bj dz x.1))] (by kernel_rfl) ?_
      refine wpList_nil ?_
      refine Kc (fun⟨_,_,q⟩=>q) (by simp) ?_
      refine Gx 1 [(20,(Dc ah eg x.2))] (by kernel_rfl) ?_
      refine wpList_nil ?_
      exact hK
     case body =>
      rintro lr i x W ki hx ⟨o7,hF,kl,hm,bf,p,cp,Z,k8,ho,d0,dh,cl⟩
      obtain⟨mo,rfl⟩:=(Tl dl).2 _ _ hx
      have lg:(Zd l details 3 fuel).es.length=(Zd l top 1 fuel).es.length:=jx
      have g9:w.heap.size≤W.heap.size:=Nat.le_trans l1 hF.size
      have ek:=hI.below o7
      have hZ:RdS az [b3,b4,g8,i9] W W:=RdS.refl _ hF.size
      have a6:=aa.fr hF (by simp only[List.mem_cons,List.not_mem_nil,or_false];rintro(h|h|h|h);omega;omega;exact q6 h;exact r8 h)
      have a5:=z8.fr hF (by simp only[List.mem_cons,List.not_mem_nil,or_false];rintro(h|h|h|h);omega;omega;exact r3 h;exact r2 h)
      have a4:=j7.fr hF (by simp only[List.mem_cons,List.not_mem_nil,or_false];rintro(h|h|h|h);omega;omega;exact r5 h;exact q7 h)
      have a3:=k0.fr hF (by simp only[List.mem_cons,List.not_mem_nil,or_false];rintro(h|h|h|h);omega;omega;exact r9 h;exact q9 h)
      have a2:=t7.fr hF (by simp only[List.mem_cons,List.not_mem_nil,or_false];rintro(h|h|h|h);omega;omega;exact m7 h;exact n0 h)
      have a0:=v4.fr hF (by simp only[List.mem_cons,List.not_mem_nil,or_false];rintro(h|h|h|h);omega;omega;exact n9 h;exact m8 h)
      have a1:=t1.fr hF (by simp only[List.mem_cons,List.not_mem_nil,or_false];rintro(h|h|h|h);omega;omega;exact m9 h;exact o0 h)
      have ea:=Zem (i:=i) (s2 (by omega))
      have eb:=Zem (i:=i) (s1 (by omega))
      refine Zca { tmps:=#[P0 b,V0 top,V0 details,V0 data,V0 fuel,undef,P0 b1,P0 b2,undef,undef,P0 b3,P0 b4,P0 d5,.nilIface,P0 e6,undef,undef,P0 z2,P0 i9,.pointer (some (Xj pd (i*3))),.pointer (some (Xj pt (i*3))),undef,undef,.tuple #[.agg #[.slice pd ((Zd l details 3 fuel).es.length) cd,.slice e4 e2 e0,V0 e1,V0 e3,.slice d8 0 e5],.nilIface],P0 b,V0 details,V0 fuel,.tuple #[.agg #[.slice pd ((Zd l details 3 fuel).es.length) cd,.slice e4 e2 e0,V0 e1,V0 e3,.slice d8 0 e5],.nilIface],.agg #[.slice pd ((Zd l details 3 fuel).es.length) cd,.slice e4 e2 e0,V0 e1,V0 e3,.slice d8 0 e5],.nilIface,.nilIface,.bool false,undef,.tuple #[.agg #[.slice pt ((Zd l top 1 fuel).es.length) ct,.slice b9 a9 c0,V0 b5,V0 b0,.slice b8 0 b7],.nilIface],P0 b,V0 top,V0 fuel,.tuple #[.agg #[.slice pt ((Zd l top 1 fuel).es.length) ct,.slice b9 a9 c0,V0 b5,V0 b0,.slice b8 0 b7],.nilIface],.agg #[.slice pt ((Zd l top 1 fuel).es.length) ct,.slice b9 a9 c0,V0 b5,V0 b0,.slice b8 0 b7],.nilIface,.nilIface,.bool false,undef,P0 d5,.slice pd ((Zd l details 3 fuel).es.length) cd,V0 (↑((Zd l details 3 fuel).es.length):Int),.bool (decide ((↑((Zd l details 3 fuel).es.length):Int)>(4096:Int))),undef,undef,P0 d5,.slice pd ((Zd l details 3 fuel).es.length) cd,P0 e6,.slice pt ((Zd l top 1 fuel).es.length) ct,.func (.func 142) #[] #[P0 p1,P0 q1],undef,undef,undef,undef,undef,undef,undef,undef,undef,undef,undef,undef,P0 b,V0 data,V0 fuel,.agg #[P0 b,V0 data,V0 fuel,V0 0],P0 g8,P0 d5,.slice pd ((Zd l details 3 fuel).es.length) cd,P0 e6,.slice pt ((Zd l top 1 fuel).es.length) ct,.func (.func 142) #[] #[P0 p2,P0 q2],.pointer (some (Xj pd (i*3))),.pointer (some (Xj pt (i*3))),undef,undef,undef,undef,undef,undef,undef,undef,undef,undef,undef,undef,undef,undef,undef,undef,undef,undef,undef],defers:=[] } (by simp only[ea,eb]) ?_
      have d7:=Sv w3 hF (fun d hd=>by simp only[List.mem_cons,List.not_mem_nil,or_false];rintro(h|h|h|h);exact Xq w3 t8 (by decide) d hd h;exact Xq w3 t2 (by decide) d hd h;exact Xq w3 i8 (by decide) d hd h;exact Xq w3 i5 (by decide) d hd h)
      have d6:=Sv w2 hF (fun d hd=>by simp only[List.mem_cons,List.not_mem_nil,or_false];rintro(h|h|h|h);exact Xq w2 t8 (by decide) d hd h;exact Xq w2 t2 (by decide) d hd h;exact Xq w2 i8 (by decide) d hd h;exact Xq w2 i5 (by decide) d hd h)
      refine wpIn_block ?_
      refine wpIn_seq ?_
      have hB:=blB (Below.refl w.heap.size W) g9 (Za W)
      replace a6:=a6.below (Za W)
      replace a5:=a5.below (Za W)
      replace a4:=a4.below (Za W)
      replace a3:=a3.below (Za W)
      replace a2:=a2.below (Za W)
      replace a0:=a0.below (Za W)
      replace kl:=kl.below (Za W)
      replace a1:=a1.below (Za W)
      replace k8:=k8.below (Za W)
      replace hZ:=hZ.below (Za W)
      replace d7:=Zb d7 (Za W)
      replace d6:=Zb d6 (Za W)
      replace ho:=Zb ho (Za W)
      replace d0:=d0.below (Za W)
      refine h_regIn (fun V=>Below w.heap.size (W.drew) V∧Zf [185] (W.drew) V) 14 rfl #[false,false,false,false,false,false,false,false,false,false,false,false,false,false] rfl (by kernel_rfl) (fun⟨_,_,q⟩=>q) (by simp) ⟨Below.refl _ _,Zf.refl _ _⟩ ?_
      intro h0
      have v0:=hB
      have eq:=a6
      have fi:=a5
      have fh:=a4
      have eu:=a3
      have dp:=a2
      have di:=a0
      have ck:=kl
      have v5:=a1
      have cy:=k8
      have bn:=d7
      have bh:=d6
      have ig:=ho
      refine h_load 0 13 rfl ⟨z2,0,none⟩ (P0 g8) rfl (by kernel_rfl) (by kernel_rfl) (by kernel_rfl) (fun _ _ _ _ _ h=>h) (by kernel_rfl) rfl (by kernel_rfl) (by kernel_rfl) (fun V hV=>((v5.only hV.2 (by decide)).cell (i:=0) rfl)) h0 ?_
      refine Zdr [1,2] 11 rfl #[true,true,true,false,false,false,false,false,false,false,false,false,false,false] [(80,.pointer (some (Xj pd (i*3)))),(81,.pointer (some (Xj pd (i*3))))] (by kernel_rfl) (fun _ _ _ _ _ h=>h) (by kernel_rfl) h0 ?_
      refine h_val 3 10 rfl (.agg #[V0 (((Zd l details 3 fuel).es.getD i Zn).1),.string ⟨(((Zd l details 3 fuel).es.getD i Zn).2.1).toArray⟩,V0 (((Zd l details 3 fuel).es.getD i Zn).2.2)]) rfl (by kernel_rfl) (by kernel_rfl) (by kernel_rfl) (fun _ _ _ _ _ h=>h) (by kernel_rfl) (fun V hV=>Tm (k:=i) Xo Zn _ rfl (by kernel_rfl) (Zh (Zl bn hV.2 (by decide))) (by omega) (by decide) Tryz.underlying100 rfl (by kernel_rfl)) h0 ?_
      refine Zdr [4,5] 8 rfl #[true,true,true,true,true,true,false,false,false,false,false,false,false,false] [(83,.pointer (some (Xj pt (i*3)))),(84,.pointer (some (Xj pt (i*3))))] (by kernel_rfl) (fun _ _ _ _ _ h=>h) (by kernel_rfl) h0 ?_
      refine h_val 6 7 rfl (.agg #[V0 (((Zd l top 1 fuel).es.getD i Zn).1),.string ⟨(((Zd l top 1 fuel).es.getD i Zn).2.1).toArray⟩,V0 (((Zd l top 1 fuel).es.getD i Zn).2.2)]) rfl (by kernel_rfl) (by kernel_rfl) (by kernel_rfl) (fun _ _ _ _ _ h=>h) (by kernel_rfl) (fun V hV=>Tm (k:=i) Xo Zn _ rfl (by kernel_rfl) (Zh (Zl bh hV.2 (by decide))) (by omega) (by decide) Tryz.underlying100 rfl (by kernel_rfl)) h0 ?_
      refine h_two 7 11 6 rfl (by kernel_rfl) rfl rfl (by kernel_rfl) (by kernel_rfl) ?_ ?_
      ·have cs:=kl
       have hs:=Nat.le_trans hF.size hZ.le
       refine He (lb:=#[]) 86 #[P0 g8,.agg #[V0 (((Zd l details 3 fuel).es.getD i Zn).1),.string ⟨(((Zd l details 3 fuel).es.getD i Zn).2.1).toArray⟩,V0 (((Zd l details 3 fuel).es.getD i Zn).2.2)],.agg #[V0 (((Zd l top 1 fuel).es.getD i Zn).1),.string ⟨(((Zd l top 1 fuel).es.getD i Zn).2.1).toArray⟩,V0 (((Zd l top 1 fuel).es.getD i Zn).2.2)]] rfl (by kernel_rfl) (fun _ _=>by kernel_rfl) (by kernel_rfl) ((Rd w.heap.size Bi g8 b pi ni ci l data fuel (Oh l (Zd l top 1 fuel).es data fuel i) ((Zd l details 3 fuel).es.getD i Zn) ((Zd l top 1 fuel).es.getD i Zn) _ (hI.below (o7.trans hB)) kl hfu (Qj _ _ _ _ i (by omega)) (Qj _ _ _ _ i (by omega)) hm je (Nat.le_trans g9 hB.size)).mono ?_)
       rintro e dw ic
       rcases ic with ⟨v6,p0,vd,rfl,u3,c9,af,d9⟩|⟨v6,pm,cm,rfl,u3,c9,af,g0,i0⟩
       ·refine⟨_,rfl,?_⟩
        replace hB:=hB.trans u3
        replace a6:=a6.only c9 (by decide)
        replace a5:=a5.only c9 (by decide)
        replace a4:=a4.only c9 (by decide)
        replace a3:=a3.only c9 (by decide)
        replace a2:=a2.only c9 (by decide)
        replace a0:=a0.only c9 (by decide)
        replace a1:=a1.only c9 (by decide)
        replace k8:=k8.only c9 (by decide)
        replace hZ:=hZ.frm af cs (by simp)
        replace d7:=Zl d7 c9 (by decide)
        replace d6:=Zl d6 c9 (by decide)
        replace ho:=Zl ho c9 (by decide)
        replace d0:=d0.only c9 (by decide)
        have t9:Below w.heap.size (W.drew) (dw)∧Zf [185] (W.drew) (dw):=⟨h0.1.trans u3,h0.2.trans c9⟩
        refine⟨t9,?_⟩
        refine Zdr [8,9,10] 3 rfl #[true,true,true,true,true,true,true,true,true,true,true,false,false,false] [(78,.tuple #[.agg #[V0 0,V0 0,V0 0,V0 0,S0],.iface p0 (vd)]),(87,.agg #[V0 0,V0 0,V0 0,V0 0,S0]),(88,.iface p0 (vd))] (by kernel_rfl) (fun _ _ _ _ _ h=>h) (by kernel_rfl) t9 ?_
        refine Wy 11 2 rfl (by kernel_rfl) rfl (by kernel_rfl) (Kk [V0 0,V0 0,V0 0,V0 0,S0] rfl (by kernel_rfl) ?_)
        intro jf jo f7
        have ai:=f7.ne a6
        have br:=f7.ne a5
        have v8:=f7.ne a4
        have t5:=f7.ne a3
        have w9:=f7.ne a2
        have x1:=f7.ne a0
        have x0:=f7.ne a1
        have w8:=f7.ne k8
        have ip:=f7.ge0 hB
        have bk:=Zw ho f7
        have v3:(W.drew).heap.size≤jf:=by have:=t9.1.size;have:=f7.at_;omega
        replace hB:=blB hB g9 f7.below
        replace a6:=a6.below f7.below
        replace a5:=a5.below f7.below
        replace a4:=a4.below f7.below
        replace a3:=a3.below f7.below
        replace a2:=a2.below f7.below
        replace a0:=a0.below f7.below
        replace a1:=a1.below f7.below
        replace k8:=k8.below f7.below
        replace hZ:=hZ.below f7.below
        replace d7:=Zb d7 f7.below
        replace d6:=Zb d6 f7.below
        replace ho:=Zb ho f7.below
        replace d0:=d0.below f7.below
        replace d9:=d9.below f7.below
        have cc:=f7.blk
        have ay:Below w.heap.size (W.drew) (jo)∧Zf [185] (W.drew) (jo):=⟨blB t9.1 (Nat.le_trans g9 v0.size) f7.below,t9.2.trans (Zf.of_below f7.below)⟩
        refine⟨ay,?_⟩
        refine Wy 12 1 rfl (by kernel_rfl) rfl (by kernel_rfl) (Kx (b:=jf) (off:=0) [V0 0,V0 0,V0 0,V0 0,S0] rfl (by kernel_rfl) (by kernel_rfl) (by kernel_rfl) (by first|decide|simp[Value.oneCell']) cc (by first|decide|simp) ?_)
        intro jc o3 cx
        change Blk _ _ [V0 0,V0 0,V0 0,V0 0,S0] _ at cx
        replace hB:=o3.below hB (Nat.le_trans g9 ip)
        replace a6:=o3.blk a6 (Ne.symm (Ne.symm ai))
        replace a5:=o3.blk a5 (Ne.symm (Ne.symm br))
        replace a4:=o3.blk a4 (Ne.symm (Ne.symm v8))
        replace a3:=o3.blk a3 (Ne.symm (Ne.symm t5))
        replace a2:=o3.blk a2 (Ne.symm (Ne.symm w9))
        replace a0:=o3.blk a0 (Ne.symm (Ne.symm x1))
        replace a1:=o3.blk a1 (Ne.symm (Ne.symm x0))
        replace k8:=o3.blk k8 (Ne.symm (Ne.symm w8))
        replace hZ:=hZ.upd o3 cc (.inr (Nat.le_trans hF.size v3))
        replace d7:=o3.own2 d7 cc (by decide)
        replace d6:=o3.own2 d6 cc (by decide)
        replace ho:=o3.own3 ho bk
        replace d0:=d0.only (Zf.of_upd (T:=[108]) o3 cc (by decide)) (by decide)
        replace d9:=d9.only (Zf.of_upd (T:=[108]) o3 cc (by decide)) (by decide)
        have cn:Below w.heap.size (W.drew) (jc)∧Zf [185] (W.drew) (jc):=⟨o3.below ay.1 (Nat.le_trans g9 ip),Zf.upd_new ay.2 o3 v3⟩
        refine⟨cn,?_⟩
        refine Zdr [13] 0 rfl #[true,true,true,true,true,true,true,true,true,true,true,true,true,true] [(22,.iface p0 (vd))] (by kernel_rfl) (fun _ _ _ _ _ h=>h) (by kernel_rfl) cn ?_
        refine Ew _ (by kernel_rfl) ?_
        refine wpIn_seq ?_
        refine wpIn_seq ?_
        refine Kc (fun⟨_,_,q⟩=>q) (by simp) ?_
        refine Gx 2 [(89,.iface p0 (vd)),(90,.bool true)] (by kernel_rfl) ?_
        refine wpList_nil ?_
        refine wpIn_cond_true (by kernel_rfl) ?_
        refine wpIn_seq ?_
        refine Kc (fun⟨_,_,q⟩=>q) (by simp) ?_
        refine Gx 1 [(91,.iface p0 (vd))] (by kernel_rfl) ?_
        refine Vv (by kernel_rfl) (Ya (v:=S0) (b:=b3) (off:=0) rfl (by kernel_rfl) (by kernel_rfl) (by kernel_rfl) rfl a4 (by first|decide|simp) ?_)
        intro lz p6 et
        change Blk _ _ [S0] _ at et
        replace hB:=p6.below hB g3
        replace a6:=p6.blk a6 (Ne.symm (Ne.symm j4))
        replace a5:=p6.blk a5 (Ne.symm (Ne.symm j6))
        replace a3:=p6.blk a3 (Ne.symm c8)
        replace a2:=p6.blk a2 (Ne.symm e7)
        replace a0:=p6.blk a0 (Ne.symm f1)
        replace a1:=p6.blk a1 (Ne.symm l7)
        replace k8:=p6.blk k8 (Ne.symm g5)
        replace cx:=p6.blk cx (Ne.symm v8)
        replace hZ:=hZ.upd p6 a4 (.inl (by simp))
        replace d7:=p6.own2 d7 a4 (by decide)
        replace d6:=p6.own2 d6 a4 (by decide)
        replace ho:=p6.own2 ho a4 (by decide)
        replace d0:=d0.only (Zf.of_upd (T:=[46]) p6 a4 (by decide)) (by decide)
        replace d9:=d9.only (Zf.of_upd (T:=[46]) p6 a4 (by decide)) (by decide)
        refine Vv (by kernel_rfl) (Ya (v:=.iface p0 (vd)) (b:=b4) (off:=0) rfl (by kernel_rfl) (by kernel_rfl) (by kernel_rfl) rfl a3 (by first|decide|simp) ?_)
        intro mn o9 jq
        change Blk _ _ [.iface p0 (vd)] _ at jq
        replace hB:=o9.below hB g4
        replace a6:=o9.blk a6 (Ne.symm (Ne.symm j8))
        replace a5:=o9.blk a5 (Ne.symm (Ne.symm j9))
        replace et:=o9.blk et (Ne.symm (Ne.symm c8))
        replace a2:=o9.blk a2 (Ne.symm f0)
        replace a0:=o9.blk a0 (Ne.symm f2)
        replace a1:=o9.blk a1 (Ne.symm l2)
        replace k8:=o9.blk k8 (Ne.symm g7)
        replace cx:=o9.blk cx (Ne.symm t5)
        replace hZ:=hZ.upd o9 a3 (.inl (by simp))
        replace d7:=o9.own2 d7 a3 (by decide)
        replace d6:=o9.own2 d6 a3 (by decide)
        replace ho:=o9.own2 ho a3 (by decide)
        replace d0:=d0.only (Zf.of_upd (T:=[30]) o9 a3 (by decide)) (by decide)
        replace d9:=d9.only (Zf.of_upd (T:=[30]) o9 a3 (by decide)) (by decide)
        refine wpList_nil ?_
        refine wpIn_ret (Di (Qh ?_))
        exact⟨hZ.ko.from _,rfl,hZ.ko.same D1 _ ((hF.block D1 bq gg).trans fx) rfl,_,_,_,_,((Yc v1 w0 (by omega) el).trans (Qc (i:=i) (by omega) bf v6)),v6,et,jq,d9,o7.trans hB⟩
       ·refine⟨_,rfl,?_⟩
        replace hB:=hB.trans u3
        replace a6:=a6.only c9 (by decide)
        replace a5:=a5.only c9 (by decide)
        replace a4:=a4.only c9 (by decide)
        replace a3:=a3.only c9 (by decide)
        replace a2:=a2.only c9 (by decide)
        replace a0:=a0.only c9 (by decide)
        replace a1:=a1.only c9 (by decide)
        replace k8:=k8.only c9 (by decide)
        replace hZ:=hZ.frm af cs (by simp)
        replace d7:=Zl d7 c9 (by decide)
        replace d6:=Zl d6 c9 (by decide)
        replace ho:=Zl ho c9 (by decide)
        replace d0:=d0.only c9 (by decide)
        replace i0:=Zg i0 hs
        have v2:Below w.heap.size (W.drew) (dw)∧Zf [185] (W.drew) (dw):=⟨h0.1.trans u3,h0.2.trans c9⟩
        refine⟨v2,?_⟩
        refine Zdr [8,9,10] 3 rfl #[true,true,true,true,true,true,true,true,true,true,true,false,false,false] [(78,.tuple #[.agg #[V0 (((Zd l details 3 fuel).es.getD i Zn).1),V0 (↑(Yn ((Zd l details 3 fuel).es.getD i Zn).2.1 1):Int),V0 (↑(Yn ((Zd l details 3 fuel).es.getD i Zn).2.1 2):Int),V0 (↑(Yn ((Zd l details 3 fuel).es.getD i Zn).2.1 3):Int),.slice pm ((Qa l ((Zd l top 1 fuel).es.getD i Zn) data fuel).2.2.length) cm],.nilIface]),(87,.agg #[V0 (((Zd l details 3 fuel).es.getD i Zn).1),V0 (↑(Yn ((Zd l details 3 fuel).es.getD i Zn).2.1 1):Int),V0 (↑(Yn ((Zd l details 3 fuel).es.getD i Zn).2.1 2):Int),V0 (↑(Yn ((Zd l details 3 fuel).es.getD i Zn).2.1 3):Int),.slice pm ((Qa l ((Zd l top 1 fuel).es.getD i Zn) data fuel).2.2.length) cm]),(88,.nilIface)] (by kernel_rfl) (fun _ _ _ _ _ h=>h) (by kernel_rfl) v2 ?_
        refine Wy 11 2 rfl (by kernel_rfl) rfl (by kernel_rfl) (Kk [V0 0,V0 0,V0 0,V0 0,S0] rfl (by kernel_rfl) ?_)
        intro gp iv e8
        have bp:=e8.ne a6
        have bd:=e8.ne a5
        have ac:=e8.ne a4
        have aw:=e8.ne a3
        have w7:=e8.ne a2
        have x9:=e8.ne a0
        have y2:=e8.ne g0
        have y5:=e8.ne a1
        have q5:=e8.ne k8
        have iy:=e8.ge0 hB
        have t6:=Zw ho e8
        have u6:(W.drew).heap.size≤gp:=by have:=v2.1.size;have:=e8.at_;omega
        replace hB:=blB hB g9 e8.below
        replace a6:=a6.below e8.below
        replace a5:=a5.below e8.below
        replace a4:=a4.below e8.below
        replace a3:=a3.below e8.below
        replace a2:=a2.below e8.below
        replace a0:=a0.below e8.below
        replace g0:=g0.below e8.below
        replace a1:=a1.below e8.below
        replace k8:=k8.below e8.below
        replace hZ:=hZ.below e8.below
        replace d7:=Zb d7 e8.below
        replace d6:=Zb d6 e8.below
        replace ho:=Zb ho e8.below
        replace d0:=d0.below e8.below
        replace i0:=Zb i0 e8.below
        have cj:=e8.blk
        have bi:Below w.heap.size (W.drew) (iv)∧Zf [185] (W.drew) (iv):=⟨blB v2.1 (Nat.le_trans g9 v0.size) e8.below,v2.2.trans (Zf.of_below e8.below)⟩
        refine⟨bi,?_⟩
        refine Wy 12 1 rfl (by kernel_rfl) rfl (by kernel_rfl) (Kx (b:=gp) (off:=0) [V0 (((Zd l details 3 fuel).es.getD i Zn).1),V0 (↑(Yn ((Zd l details 3 fuel).es.getD i Zn).2.1 1):Int),V0 (↑(Yn ((Zd l details 3 fuel).es.getD i Zn).2.1 2):Int),V0 (↑(Yn ((Zd l details 3 fuel).es.getD i Zn).2.1 3):Int),.slice pm ((Qa l ((Zd l top 1 fuel).es.getD i Zn) data fuel).2.2.length) cm] rfl (by kernel_rfl) (by kernel_rfl) (by kernel_rfl) (by first|decide|simp[Value.oneCell']) cj (by first|decide|simp) ?_)
        intro ju m3 x4
        change Blk _ _ [V0 (((Zd l details 3 fuel).es.getD i Zn).1),V0 (↑(Yn ((Zd l details 3 fuel).es.getD i Zn).2.1 1):Int),V0 (↑(Yn ((Zd l details 3 fuel).es.getD i Zn).2.1 2):Int),V0 (↑(Yn ((Zd l details 3 fuel).es.getD i Zn).2.1 3):Int),.slice pm ((Qa l ((Zd l top 1 fuel).es.getD i Zn) data fuel).2.2.length) cm] _ at x4
        replace hB:=m3.below hB (Nat.le_trans g9 iy)
        replace a6:=m3.blk a6 (Ne.symm (Ne.symm bp))
        replace a5:=m3.blk a5 (Ne.symm (Ne.symm bd))
        replace a4:=m3.blk a4 (Ne.symm (Ne.symm ac))
        replace a3:=m3.blk a3 (Ne.symm (Ne.symm aw))
        replace a2:=m3.blk a2 (Ne.symm (Ne.symm w7))
        replace a0:=m3.blk a0 (Ne.symm (Ne.symm x9))
        replace g0:=m3.blk g0 (Ne.symm (Ne.symm y2))
        replace a1:=m3.blk a1 (Ne.symm (Ne.symm y5))
        replace k8:=m3.blk k8 (Ne.symm (Ne.symm q5))
        replace hZ:=hZ.upd m3 cj (.inr (Nat.le_trans hF.size u6))
        replace d7:=m3.own2 d7 cj (by decide)
        replace d6:=m3.own2 d6 cj (by decide)
        replace ho:=m3.own3 ho t6
        replace d0:=d0.only (Zf.of_upd (T:=[108]) m3 cj (by decide)) (by decide)
        replace i0:=m3.own2 i0 cj (by decide)
        have dd:Below w.heap.size (W.drew) (ju)∧Zf [185] (W.drew) (ju):=⟨m3.below bi.1 (Nat.le_trans g9 iy),Zf.upd_new bi.2 m3 u6⟩
        refine⟨dd,?_⟩
        refine Zdr [13] 0 rfl #[true,true,true,true,true,true,true,true,true,true,true,true,true,true] [(22,.nilIface)] (by kernel_rfl) (fun _ _ _ _ _ h=>h) (by kernel_rfl) dd ?_
        refine Ew _ (by kernel_rfl) ?_
        refine wpIn_seq ?_
        refine wpIn_seq ?_
        refine Kc (fun⟨_,_,q⟩=>q) (by simp) ?_
        refine Gx 2 [(89,.nilIface),(90,.bool false)] (by kernel_rfl) ?_
        refine wpList_nil ?_
        refine wpIn_cond_false (by kernel_rfl) ?_
        refine wpIn_skip ?_
        refine Kc (fun⟨_,_,q⟩=>q) (by simp) ?_
        refine Vv (by kernel_rfl) (Qm ⟨i9,0,none⟩ (.slice p i cp) rfl (by kernel_rfl) (by kernel_rfl) (k8.cell (i:=0) rfl) ?_)
        refine Vv (by kernel_rfl) (Zd7 (b:=gp) (off:=0) [V0 (((Zd l details 3 fuel).es.getD i Zn).1),V0 (↑(Yn ((Zd l details 3 fuel).es.getD i Zn).2.1 1):Int),V0 (↑(Yn ((Zd l details 3 fuel).es.getD i Zn).2.1 2):Int),V0 (↑(Yn ((Zd l details 3 fuel).es.getD i Zn).2.1 3):Int),.slice pm ((Qa l ((Zd l top 1 fuel).es.getD i Zn) data fuel).2.2.length) cm] _ rfl (by kernel_rfl) Tryz.underlying108 rfl (by kernel_rfl) x4.whole ?_)
        refine Vv (by kernel_rfl) (Vu 108 [V0 (((Zd l details 3 fuel).es.getD i Zn).1),V0 (↑(Yn ((Zd l details 3 fuel).es.getD i Zn).2.1 1):Int),V0 (↑(Yn ((Zd l details 3 fuel).es.getD i Zn).2.1 2):Int),V0 (↑(Yn ((Zd l details 3 fuel).es.getD i Zn).2.1 3):Int),.slice pm ((Qa l ((Zd l top 1 fuel).es.getD i Zn) data fuel).2.2.length) cm] rfl (by kernel_rfl) ?_)
        intro ld lq f6
        have fz:=f6.ne a6
        have gw:=f6.ne a5
        have gv:=f6.ne a4
        have gj:=f6.ne a3
        have ev:=f6.ne a2
        have dv:=f6.ne a0
        have ew:=f6.ne g0
        have fg:=f6.ne a1
        have ec:=f6.ne k8
        have ey:=f6.ne x4
        have mg:=f6.ge0 hB
        have gm:=Zw ho f6
        replace hB:=blB hB g9 f6.below
        replace a6:=a6.below f6.below
        replace a5:=a5.below f6.below
        replace a4:=a4.below f6.below
        replace a3:=a3.below f6.below
        replace a2:=a2.below f6.below
        replace a0:=a0.below f6.below
        replace g0:=g0.below f6.below
        replace a1:=a1.below f6.below
        replace k8:=k8.below f6.below
        replace x4:=x4.below f6.below
        replace hZ:=hZ.below f6.below
        replace d7:=Zb d7 f6.below
        replace d6:=Zb d6 f6.below
        replace ho:=Zb ho f6.below
        replace d0:=d0.below f6.below
        replace i0:=Zb i0 f6.below
        have kd:=f6.blk
        refine Vv (by kernel_rfl) (Zu (e:=108) (n:=i) (xs:=(Z.flatMap Lg)) (m:=1) (news:=[V0 (((Zd l details 3 fuel).es.getD i Zn).1),V0 (↑(Yn ((Zd l details 3 fuel).es.getD i Zn).2.1 1):Int),V0 (↑(Yn ((Zd l details 3 fuel).es.getD i Zn).2.1 2):Int),V0 (↑(Yn ((Zd l details 3 fuel).es.getD i Zn).2.1 3):Int),.slice pm ((Qa l ((Zd l top 1 fuel).es.getD i Zn) data fuel).2.2.length) cm]) (.agg #[V0 0,V0 0,V0 0,V0 0,S0]) 5 56 (i+1) (((Z++[(Zdi l ((Zd l details 3 fuel).es.getD i Zn) ((Zd l top 1 fuel).es.getD i Zn) data fuel,pm,cm)]).flatMap Lg)) rfl Tryz.underlying46 (by kernel_rfl) rfl (by decide) (by kernel_rfl) ho (by kernel_rfl) (kd.sl 1 1 (by decide) (by decide)) rfl (by simp[Value.oneCell']) (by unfold maxLen;omega) (by omega) (Nat.le_trans hZ.l0 hZ.le) (rfl) (by rw[List.flatMap_append];rfl) ?_)
        intro jk iq mh gh f3 hc
        replace a6:=a6.grown f3 ho (by decide)
        replace a5:=a5.grown f3 ho (by decide)
        replace a4:=a4.grown f3 ho (by decide)
        replace a3:=a3.grown f3 ho (by decide)
        replace a2:=a2.grown f3 ho (by decide)
        replace a0:=a0.grown f3 ho (by decide)
        replace g0:=g0.grown f3 ho (by decide)
        replace a1:=a1.grown f3 ho (by decide)
        replace k8:=k8.grown f3 ho (by decide)
        replace x4:=x4.grown3 f3 t6
        replace hZ:=hZ.grown f3 ho
        replace d7:=Zj d7 f3 ho (by decide)
        replace d6:=Zj d6 f3 ho (by decide)
        replace d0:=d0.only (Zf.of_grown (T:=[108]) f3 ho (by decide)) (by decide)
        replace i0:=Zj i0 f3 ho (by decide)
        replace hB:=hB.trans (hc.mono l1)
        refine Vv (by kernel_rfl) (Ya (v:=.slice jk (i+1) iq) (b:=i9) (off:=0) rfl (by kernel_rfl) (by kernel_rfl) (by kernel_rfl) rfl k8 (by first|decide|simp) ?_)
        intro lc o6 ix
        change Blk _ _ [.slice jk (i+1) iq] _ at ix
        replace hB:=o6.below hB js
        replace a6:=o6.blk a6 (Ne.symm (Ne.symm p7))
        replace a5:=o6.blk a5 (Ne.symm (Ne.symm q3))
        replace a4:=o6.blk a4 (Ne.symm (Ne.symm g5))
        replace a3:=o6.blk a3 (Ne.symm (Ne.symm g7))
        replace a2:=o6.blk a2 (Ne.symm (Ne.symm k5))
        replace a0:=o6.blk a0 (Ne.symm (Ne.symm l6))
        replace g0:=o6.blk g0 (Ne.symm (Ne.symm q4))
        replace a1:=o6.blk a1 (Ne.symm (Ne.symm l3))
        replace x4:=o6.blk x4 (Ne.symm q5)
        replace hZ:=hZ.upd o6 k8 (.inl (by simp))
        replace d7:=o6.own2 d7 k8 (by decide)
        replace d6:=o6.own2 d6 k8 (by decide)
        replace d0:=d0.only (Zf.of_upd (T:=[46]) o6 k8 (by decide)) (by decide)
        replace i0:=o6.own2 i0 k8 (by decide)
        replace gh:=o6.own2 gh k8 (by decide)
        refine wpList_nil ?_
        exact⟨hZ.ko.from _,⟨hZ.le,fun d hd=>hZ.fr d (bg d hd) (cz d hd)⟩,o7.trans hB,fr_join hF hZ (fun k hk=>by simp only[List.mem_cons,List.not_mem_nil,or_false] at hk ⊢;rcases hk with rfl|rfl|rfl|rfl;exact .inr ((show _=_ from a4).trans (show _=_ from j7).symm);exact .inr ((show _=_ from a3).trans (show _=_ from k0).symm);exact .inl (by simp);exact .inl (by simp)),g0,dev_sum v6,Mf bf v6,_,_,_,ix,gh,(d0.snoc (d:=Zdi l ((Zd l details 3 fuel).es.getD i Zn) ((Zd l top 1 fuel).es.getD i Zn) data fuel) rfl i0),by simp[dh],by rw[List.map_append,cl,Mg];rfl⟩
      ·refine Kk [V0 0,V0 0,V0 0,V0 0,S0] rfl (by kernel_rfl) ?_
       intro du jj f4
       have u0:=f4.ne a6
       have t4:=f4.ne a5
       have p3:=f4.ne a4
       have p5:=f4.ne a3
       have r0:=f4.ne a2
       have r1:=f4.ne a0
       have w5:=f4.ne kl
       have r4:=f4.ne a1
       have m1:=f4.ne k8
       have dt:=f4.ge0 hB
       have q0:=Zw ho f4
       have l8:(W.drew).heap.size≤du:=by have:=h0.1.size;have:=f4.at_;omega
       replace hB:=blB hB g9 f4.below
       replace a6:=a6.below f4.below
       replace a5:=a5.below f4.below
       replace a4:=a4.below f4.below
       replace a3:=a3.below f4.below
       replace a2:=a2.below f4.below
       replace a0:=a0.below f4.below
       replace kl:=kl.below f4.below
       replace a1:=a1.below f4.below
       replace k8:=k8.below f4.below
       replace hZ:=hZ.below f4.below
       replace d7:=Zb d7 f4.below
       replace d6:=Zb d6 f4.below
       replace ho:=Zb ho f4.below
       replace d0:=d0.below f4.below
       have o5:=f4.blk
       have u1:Below w.heap.size (W.drew) (jj)∧Zf [185] (W.drew) (jj):=⟨blB h0.1 (Nat.le_trans g9 v0.size) f4.below,h0.2.trans (Zf.of_below f4.below)⟩
       refine⟨u1,?_⟩
       have cs:=kl
       have hs:=Nat.le_trans hF.size hZ.le
       refine Wy 7 5 rfl (by kernel_rfl) rfl (by kernel_rfl) (He (lb:=#[]) 86 #[P0 g8,.agg #[V0 (((Zd l details 3 fuel).es.getD i Zn).1),.string ⟨(((Zd l details 3 fuel).es.getD i Zn).2.1).toArray⟩,V0 (((Zd l details 3 fuel).es.getD i Zn).2.2)],.agg #[V0 (((Zd l top 1 fuel).es.getD i Zn).1),.string ⟨(((Zd l top 1 fuel).es.getD i Zn).2.1).toArray⟩,V0 (((Zd l top 1 fuel).es.getD i Zn).2.2)]] rfl (by kernel_rfl) (fun _ _=>by kernel_rfl) (by kernel_rfl) ((Rd w.heap.size Bi g8 b pi ni ci l data fuel (Oh l (Zd l top 1 fuel).es data fuel i) ((Zd l details 3 fuel).es.getD i Zn) ((Zd l top 1 fuel).es.getD i Zn) _ (hI.below (o7.trans hB)) kl hfu (Qj _ _ _ _ i (by omega)) (Qj _ _ _ _ i (by omega)) hm je (Nat.le_trans g9 hB.size)).mono ?_))
       rintro e ej fs
       rcases fs with ⟨v6,p0,vd,rfl,u5,c6,ax,d9⟩|⟨v6,pm,cm,rfl,u5,c6,ax,j2,i0⟩
       ·refine⟨_,rfl,?_⟩
        replace hB:=hB.trans u5
        replace a6:=a6.only c6 (by decide)
        replace a5:=a5.only c6 (by decide)
        replace a4:=a4.only c6 (by decide)
        replace a3:=a3.only c6 (by decide)
        replace a2:=a2.only c6 (by decide)
        replace a0:=a0.only c6 (by decide)
        replace a1:=a1.only c6 (by decide)
        replace k8:=k8.only c6 (by decide)
        replace o5:=o5.only c6 (by decide)
        replace hZ:=hZ.frm ax cs (by simp)
        replace d7:=Zl d7 c6 (by decide)
        replace d6:=Zl d6 c6 (by decide)
        replace ho:=Zl ho c6 (by decide)
        replace d0:=d0.only c6 (by decide)
        have x2:Below w.heap.size (W.drew) (ej)∧Zf [185] (W.drew) (ej):=⟨u1.1.trans u5,u1.2.trans c6⟩
        refine⟨x2,?_⟩
        refine Zdr [8,9,10] 2 rfl #[true,true,true,true,true,true,true,true,true,true,true,true,false,false] [(78,.tuple #[.agg #[V0 0,V0 0,V0 0,V0 0,S0],.iface p0 (vd)]),(87,.agg #[V0 0,V0 0,V0 0,V0 0,S0]),(88,.iface p0 (vd))] (by kernel_rfl) (fun _ _ _ _ _ h=>h) (by kernel_rfl) x2 ?_
        refine Wy 12 1 rfl (by kernel_rfl) rfl (by kernel_rfl) (Kx (b:=du) (off:=0) [V0 0,V0 0,V0 0,V0 0,S0] rfl (by kernel_rfl) (by kernel_rfl) (by kernel_rfl) (by first|decide|simp[Value.oneCell']) o5 (by first|decide|simp) ?_)
        intro jt n8 cr
        change Blk _ _ [V0 0,V0 0,V0 0,V0 0,S0] _ at cr
        replace hB:=n8.below hB (Nat.le_trans g9 dt)
        replace a6:=n8.blk a6 (Ne.symm (Ne.symm u0))
        replace a5:=n8.blk a5 (Ne.symm (Ne.symm t4))
        replace a4:=n8.blk a4 (Ne.symm (Ne.symm p3))
        replace a3:=n8.blk a3 (Ne.symm (Ne.symm p5))
        replace a2:=n8.blk a2 (Ne.symm (Ne.symm r0))
        replace a0:=n8.blk a0 (Ne.symm (Ne.symm r1))
        replace a1:=n8.blk a1 (Ne.symm (Ne.symm r4))
        replace k8:=n8.blk k8 (Ne.symm (Ne.symm m1))
        replace hZ:=hZ.upd n8 o5 (.inr (Nat.le_trans hF.size l8))
        replace d7:=n8.own2 d7 o5 (by decide)
        replace d6:=n8.own2 d6 o5 (by decide)
        replace ho:=n8.own3 ho q0
        replace d0:=d0.only (Zf.of_upd (T:=[108]) n8 o5 (by decide)) (by decide)
        replace d9:=d9.only (Zf.of_upd (T:=[108]) n8 o5 (by decide)) (by decide)
        have dm:Below w.heap.size (W.drew) (jt)∧Zf [185] (W.drew) (jt):=⟨n8.below x2.1 (Nat.le_trans g9 dt),Zf.upd_new x2.2 n8 l8⟩
        refine⟨dm,?_⟩
        refine Zdr [13] 0 rfl #[true,true,true,true,true,true,true,true,true,true,true,true,true,true] [(22,.iface p0 (vd))] (by kernel_rfl) (fun _ _ _ _ _ h=>h) (by kernel_rfl) dm ?_
        refine Ew _ (by kernel_rfl) ?_
        refine wpIn_seq ?_
        refine wpIn_seq ?_
        refine Kc (fun⟨_,_,q⟩=>q) (by simp) ?_
        refine Gx 2 [(89,.iface p0 (vd)),(90,.bool true)] (by kernel_rfl) ?_
        refine wpList_nil ?_
        refine wpIn_cond_true (by kernel_rfl) ?_
        refine wpIn_seq ?_
        refine Kc (fun⟨_,_,q⟩=>q) (by simp) ?_
        refine Gx 1 [(91,.iface p0 (vd))] (by kernel_rfl) ?_
        refine Vv (by kernel_rfl) (Ya (v:=S0) (b:=b3) (off:=0) rfl (by kernel_rfl) (by kernel_rfl) (by kernel_rfl) rfl a4 (by first|decide|simp) ?_)
        intro lk p8 ex
        change Blk _ _ [S0] _ at ex
        replace hB:=p8.below hB g3
        replace a6:=p8.blk a6 (Ne.symm (Ne.symm j4))
        replace a5:=p8.blk a5 (Ne.symm (Ne.symm j6))
        replace a3:=p8.blk a3 (Ne.symm c8)
        replace a2:=p8.blk a2 (Ne.symm e7)
        replace a0:=p8.blk a0 (Ne.symm f1)
        replace a1:=p8.blk a1 (Ne.symm l7)
        replace k8:=p8.blk k8 (Ne.symm g5)
        replace cr:=p8.blk cr (Ne.symm p3)
        replace hZ:=hZ.upd p8 a4 (.inl (by simp))
        replace d7:=p8.own2 d7 a4 (by decide)
        replace d6:=p8.own2 d6 a4 (by decide)
        replace ho:=p8.own2 ho a4 (by decide)
        replace d0:=d0.only (Zf.of_upd (T:=[46]) p8 a4 (by decide)) (by decide)
        replace d9:=d9.only (Zf.of_upd (T:=[46]) p8 a4 (by decide)) (by decide)
        refine Vv (by kernel_rfl) (Ya (v:=.iface p0 (vd)) (b:=b4) (off:=0) rfl (by kernel_rfl) (by kernel_rfl) (by kernel_rfl) rfl a3 (by first|decide|simp) ?_)
        intro mq p4 jn
        change Blk _ _ [.iface p0 (vd)] _ at jn
        replace hB:=p4.below hB g4
        replace a6:=p4.blk a6 (Ne.symm (Ne.symm j8))
        replace a5:=p4.blk a5 (Ne.symm (Ne.symm j9))
        replace ex:=p4.blk ex (Ne.symm (Ne.symm c8))
        replace a2:=p4.blk a2 (Ne.symm f0)
        replace a0:=p4.blk a0 (Ne.symm f2)
        replace a1:=p4.blk a1 (Ne.symm l2)
        replace k8:=p4.blk k8 (Ne.symm g7)
        replace cr:=p4.blk cr (Ne.symm p5)
        replace hZ:=hZ.upd p4 a3 (.inl (by simp))
        replace d7:=p4.own2 d7 a3 (by decide)
        replace d6:=p4.own2 d6 a3 (by decide)
        replace ho:=p4.own2 ho a3 (by decide)
        replace d0:=d0.only (Zf.of_upd (T:=[30]) p4 a3 (by decide)) (by decide)
        replace d9:=d9.only (Zf.of_upd (T:=[30]) p4 a3 (by decide)) (by decide)
        refine wpList_nil ?_
        refine wpIn_ret (Di (Qh ?_))
        exact⟨hZ.ko.from _,rfl,hZ.ko.same D1 _ ((hF.block D1 bq gg).trans fx) rfl,_,_,_,_,((Yc v1 w0 (by omega) el).trans (Qc (i:=i) (by omega) bf v6)),v6,ex,jn,d9,o7.trans hB⟩
       ·refine⟨_,rfl,?_⟩
        replace hB:=hB.trans u5
        replace a6:=a6.only c6 (by decide)
        replace a5:=a5.only c6 (by decide)
        replace a4:=a4.only c6 (by decide)
        replace a3:=a3.only c6 (by decide)
        replace a2:=a2.only c6 (by decide)
        replace a0:=a0.only c6 (by decide)
        replace a1:=a1.only c6 (by decide)
        replace k8:=k8.only c6 (by decide)
        replace o5:=o5.only c6 (by decide)
        replace hZ:=hZ.frm ax cs (by simp)
        replace d7:=Zl d7 c6 (by decide)
        replace d6:=Zl d6 c6 (by decide)
        replace ho:=Zl ho c6 (by decide)
        replace d0:=d0.only c6 (by decide)
        replace i0:=Zg i0 hs
        have y0:Below w.heap.size (W.drew) (ej)∧Zf [185] (W.drew) (ej):=⟨u1.1.trans u5,u1.2.trans c6⟩
        refine⟨y0,?_⟩
        refine Zdr [8,9,10] 2 rfl #[true,true,true,true,true,true,true,true,true,true,true,true,false,false] [(78,.tuple #[.agg #[V0 (((Zd l details 3 fuel).es.getD i Zn).1),V0 (↑(Yn ((Zd l details 3 fuel).es.getD i Zn).2.1 1):Int),V0 (↑(Yn ((Zd l details 3 fuel).es.getD i Zn).2.1 2):Int),V0 (↑(Yn ((Zd l details 3 fuel).es.getD i Zn).2.1 3):Int),.slice pm ((Qa l ((Zd l top 1 fuel).es.getD i Zn) data fuel).2.2.length) cm],.nilIface]),(87,.agg #[V0 (((Zd l details 3 fuel).es.getD i Zn).1),V0 (↑(Yn ((Zd l details 3 fuel).es.getD i Zn).2.1 1):Int),V0 (↑(Yn ((Zd l details 3 fuel).es.getD i Zn).2.1 2):Int),V0 (↑(Yn ((Zd l details 3 fuel).es.getD i Zn).2.1 3):Int),.slice pm ((Qa l ((Zd l top 1 fuel).es.getD i Zn) data fuel).2.2.length) cm]),(88,.nilIface)] (by kernel_rfl) (fun _ _ _ _ _ h=>h) (by kernel_rfl) y0 ?_
        refine Wy 12 1 rfl (by kernel_rfl) rfl (by kernel_rfl) (Kx (b:=du) (off:=0) [V0 (((Zd l details 3 fuel).es.getD i Zn).1),V0 (↑(Yn ((Zd l details 3 fuel).es.getD i Zn).2.1 1):Int),V0 (↑(Yn ((Zd l details 3 fuel).es.getD i Zn).2.1 2):Int),V0 (↑(Yn ((Zd l details 3 fuel).es.getD i Zn).2.1 3):Int),.slice pm ((Qa l ((Zd l top 1 fuel).es.getD i Zn) data fuel).2.2.length) cm] rfl (by kernel_rfl) (by kernel_rfl) (by kernel_rfl) (by first|decide|simp[Value.oneCell']) o5 (by first|decide|simp) ?_)
        intro jv m2 y4
        change Blk _ _ [V0 (((Zd l details 3 fuel).es.getD i Zn).1),V0 (↑(Yn ((Zd l details 3 fuel).es.getD i Zn).2.1 1):Int),V0 (↑(Yn ((Zd l details 3 fuel).es.getD i Zn).2.1 2):Int),V0 (↑(Yn ((Zd l details 3 fuel).es.getD i Zn).2.1 3):Int),.slice pm ((Qa l ((Zd l top 1 fuel).es.getD i Zn) data fuel).2.2.length) cm] _ at y4
        replace hB:=m2.below hB (Nat.le_trans g9 dt)
        replace a6:=m2.blk a6 (Ne.symm (Ne.symm u0))
        replace a5:=m2.blk a5 (Ne.symm (Ne.symm t4))
        replace a4:=m2.blk a4 (Ne.symm (Ne.symm p3))
        replace a3:=m2.blk a3 (Ne.symm (Ne.symm p5))
        replace a2:=m2.blk a2 (Ne.symm (Ne.symm r0))
        replace a0:=m2.blk a0 (Ne.symm (Ne.symm r1))
        replace j2:=m2.blk j2 (Ne.symm (Ne.symm w5))
        replace a1:=m2.blk a1 (Ne.symm (Ne.symm r4))
        replace k8:=m2.blk k8 (Ne.symm (Ne.symm m1))
        replace hZ:=hZ.upd m2 o5 (.inr (Nat.le_trans hF.size l8))
        replace d7:=m2.own2 d7 o5 (by decide)
        replace d6:=m2.own2 d6 o5 (by decide)
        replace ho:=m2.own3 ho q0
        replace d0:=d0.only (Zf.of_upd (T:=[108]) m2 o5 (by decide)) (by decide)
        replace i0:=m2.own2 i0 o5 (by decide)
        have da:Below w.heap.size (W.drew) (jv)∧Zf [185] (W.drew) (jv):=⟨m2.below y0.1 (Nat.le_trans g9 dt),Zf.upd_new y0.2 m2 l8⟩
        refine⟨da,?_⟩
        refine Zdr [13] 0 rfl #[true,true,true,true,true,true,true,true,true,true,true,true,true,true] [(22,.nilIface)] (by kernel_rfl) (fun _ _ _ _ _ h=>h) (by kernel_rfl) da ?_
        refine Ew _ (by kernel_rfl) ?_
        refine wpIn_seq ?_
        refine wpIn_seq ?_
        refine Kc (fun⟨_,_,q⟩=>q) (by simp) ?_
        refine Gx 2 [(89,.nilIface),(90,.bool false)] (by kernel_rfl) ?_
        refine wpList_nil ?_
        refine wpIn_cond_false (by kernel_rfl) ?_
        refine wpIn_skip ?_
        refine Kc (fun⟨_,_,q⟩=>q) (by simp) ?_
        refine Vv (by kernel_rfl) (Qm ⟨i9,0,none⟩ (.slice p i cp) rfl (by kernel_rfl) (by kernel_rfl) (k8.cell (i:=0) rfl) ?_)
        refine Vv (by kernel_rfl) (Zd7 (b:=du) (off:=0) [V0 (((Zd l details 3 fuel).es.getD i Zn).1),V0 (↑(Yn ((Zd l details 3 fuel).es.getD i Zn).2.1 1):Int),V0 (↑(Yn ((Zd l details 3 fuel).es.getD i Zn).2.1 2):Int),V0 (↑(Yn ((Zd l details 3 fuel).es.getD i Zn).2.1 3):Int),.slice pm ((Qa l ((Zd l top 1 fuel).es.getD i Zn) data fuel).2.2.length) cm] _ rfl (by kernel_rfl) Tryz.underlying108 rfl (by kernel_rfl) y4.whole ?_)
        refine Vv (by kernel_rfl) (Vu 108 [V0 (((Zd l details 3 fuel).es.getD i Zn).1),V0 (↑(Yn ((Zd l details 3 fuel).es.getD i Zn).2.1 1):Int),V0 (↑(Yn ((Zd l details 3 fuel).es.getD i Zn).2.1 2):Int),V0 (↑(Yn ((Zd l details 3 fuel).es.getD i Zn).2.1 3):Int),.slice pm ((Qa l ((Zd l top 1 fuel).es.getD i Zn) data fuel).2.2.length) cm] rfl (by kernel_rfl) ?_)
        intro md mw f5
        have gz:=f5.ne a6
        have hl:=f5.ne a5
        have fw:=f5.ne a4
        have gi:=f5.ne a3
        have fj:=f5.ne a2
        have ei:=f5.ne a0
        have fo:=f5.ne j2
        have em:=f5.ne a1
        have ez:=f5.ne k8
        have fa:=f5.ne y4
        have mc:=f5.ge0 hB
        have fu:=Zw ho f5
        replace hB:=blB hB g9 f5.below
        replace a6:=a6.below f5.below
        replace a5:=a5.below f5.below
        replace a4:=a4.below f5.below
        replace a3:=a3.below f5.below
        replace a2:=a2.below f5.below
        replace a0:=a0.below f5.below
        replace j2:=j2.below f5.below
        replace a1:=a1.below f5.below
        replace k8:=k8.below f5.below
        replace y4:=y4.below f5.below
        replace hZ:=hZ.below f5.below
        replace d7:=Zb d7 f5.below
        replace d6:=Zb d6 f5.below
        replace ho:=Zb ho f5.below
        replace d0:=d0.below f5.below
        replace i0:=Zb i0 f5.below
        have kp:=f5.blk
        refine Vv (by kernel_rfl) (Zu (e:=108) (n:=i) (xs:=(Z.flatMap Lg)) (m:=1) (news:=[V0 (((Zd l details 3 fuel).es.getD i Zn).1),V0 (↑(Yn ((Zd l details 3 fuel).es.getD i Zn).2.1 1):Int),V0 (↑(Yn ((Zd l details 3 fuel).es.getD i Zn).2.1 2):Int),V0 (↑(Yn ((Zd l details 3 fuel).es.getD i Zn).2.1 3):Int),.slice pm ((Qa l ((Zd l top 1 fuel).es.getD i Zn) data fuel).2.2.length) cm]) (.agg #[V0 0,V0 0,V0 0,V0 0,S0]) 5 56 (i+1) (((Z++[(Zdi l ((Zd l details 3 fuel).es.getD i Zn) ((Zd l top 1 fuel).es.getD i Zn) data fuel,pm,cm)]).flatMap Lg)) rfl Tryz.underlying46 (by kernel_rfl) rfl (by decide) (by kernel_rfl) ho (by kernel_rfl) (kp.sl 1 1 (by decide) (by decide)) rfl (by simp[Value.oneCell']) (by unfold maxLen;omega) (by omega) (Nat.le_trans hZ.l0 hZ.le) (rfl) (by rw[List.flatMap_append];rfl) ?_)
        intro jl ii mi gu e9 hn
        replace a6:=a6.grown e9 ho (by decide)
        replace a5:=a5.grown e9 ho (by decide)
        replace a4:=a4.grown e9 ho (by decide)
        replace a3:=a3.grown e9 ho (by decide)
        replace a2:=a2.grown e9 ho (by decide)
        replace a0:=a0.grown e9 ho (by decide)
        replace j2:=j2.grown e9 ho (by decide)
        replace a1:=a1.grown e9 ho (by decide)
        replace k8:=k8.grown e9 ho (by decide)
        replace y4:=y4.grown3 e9 q0
        replace hZ:=hZ.grown e9 ho
        replace d7:=Zj d7 e9 ho (by decide)
        replace d6:=Zj d6 e9 ho (by decide)
        replace d0:=d0.only (Zf.of_grown (T:=[108]) e9 ho (by decide)) (by decide)
        replace i0:=Zj i0 e9 ho (by decide)
        replace hB:=hB.trans (hn.mono l1)
        refine Vv (by kernel_rfl) (Ya (v:=.slice jl (i+1) ii) (b:=i9) (off:=0) rfl (by kernel_rfl) (by kernel_rfl) (by kernel_rfl) rfl k8 (by first|decide|simp) ?_)
        intro lo o4 jd
        change Blk _ _ [.slice jl (i+1) ii] _ at jd
        replace hB:=o4.below hB js
        replace a6:=o4.blk a6 (Ne.symm (Ne.symm p7))
        replace a5:=o4.blk a5 (Ne.symm (Ne.symm q3))
        replace a4:=o4.blk a4 (Ne.symm (Ne.symm g5))
        replace a3:=o4.blk a3 (Ne.symm (Ne.symm g7))
        replace a2:=o4.blk a2 (Ne.symm (Ne.symm k5))
        replace a0:=o4.blk a0 (Ne.symm (Ne.symm l6))
        replace j2:=o4.blk j2 (Ne.symm (Ne.symm q4))
        replace a1:=o4.blk a1 (Ne.symm (Ne.symm l3))
        replace y4:=o4.blk y4 (Ne.symm m1)
        replace hZ:=hZ.upd o4 k8 (.inl (by simp))
        replace d7:=o4.own2 d7 k8 (by decide)
        replace d6:=o4.own2 d6 k8 (by decide)
        replace d0:=d0.only (Zf.of_upd (T:=[46]) o4 k8 (by decide)) (by decide)
        replace i0:=o4.own2 i0 k8 (by decide)
        replace gu:=o4.own2 gu k8 (by decide)
        refine wpList_nil ?_
        exact⟨hZ.ko.from _,⟨hZ.le,fun d hd=>hZ.fr d (bg d hd) (cz d hd)⟩,o7.trans hB,fr_join hF hZ (fun k hk=>by simp only[List.mem_cons,List.not_mem_nil,or_false] at hk ⊢;rcases hk with rfl|rfl|rfl|rfl;exact .inr ((show _=_ from a4).trans (show _=_ from j7).symm);exact .inr ((show _=_ from a3).trans (show _=_ from k0).symm);exact .inl (by simp);exact .inl (by simp)),j2,dev_sum v6,Mf bf v6,_,_,_,jd,gu,(d0.snoc (d:=Zdi l ((Zd l details 3 fuel).es.getD i Zn) ((Zd l top 1 fuel).es.getD i Zn) data fuel) rfl i0),by simp[dh],by rw[List.map_append,cl,Mg];rfl⟩
     case stop =>
      rintro D c k V hD hk ⟨rfl,hK,ty,v,bl,er,hO,gs,bx,j1,hv,hb⟩ y3
      have v9:Dfr D V:=y3
      have t0:D1≠D:=by omega
      refine wp_ret (Qh (Di ?_))
      exact ret2 bx j1 hK v9 t0 (Zgc (.inr ⟨_,_,rfl⟩) (by kernel_rfl) (by kernel_rfl)) rfl (Wp hO gs (Mv (Mv hb hb.size (Nat.le_trans l1 hD) _) (by simpa [World.putObj] using hb.size) (Nat.le_trans m0 im) _) ((hv.pt v9 _).pt (hK.put t0 _) _))
     case done =>
      rintro D2 W8 kj ⟨kt,y8,mj,hm,bf,p,cp,Z,k8,ho,d0,dh,cl⟩ y3
      have v9:Dfr D2 W8:=y3;clear y3
      have hK:Dfr D1 W8:=(y8.block D1 bq gg).trans fx
      have t0:D1≠D2:=by omega
      rw[(Tl dl).1] at bf k8 ho dh cl
      have r6:=aa.fr y8 (by simp only[List.mem_cons,List.not_mem_nil,or_false];rintro(h|h|h|h);omega;omega;exact q6 h;exact r8 h)
      have r7:=z8.fr y8 (by simp only[List.mem_cons,List.not_mem_nil,or_false];rintro(h|h|h|h);omega;omega;exact r3 h;exact r2 h)
      have m6:=j7.fr y8 (by simp only[List.mem_cons,List.not_mem_nil,or_false];rintro(h|h|h|h);omega;omega;exact r5 h;exact q7 h)
      have i1:=k0.fr y8 (by simp only[List.mem_cons,List.not_mem_nil,or_false];rintro(h|h|h|h);omega;omega;exact r9 h;exact q9 h)
      have l5:=t7.fr y8 (by simp only[List.mem_cons,List.not_mem_nil,or_false];rintro(h|h|h|h);omega;omega;exact m7 h;exact n0 h)
      have l4:=v4.fr y8 (by simp only[List.mem_cons,List.not_mem_nil,or_false];rintro(h|h|h|h);omega;omega;exact n9 h;exact m8 h)
      have l9:=t1.fr y8 (by simp only[List.mem_cons,List.not_mem_nil,or_false];rintro(h|h|h|h);omega;omega;exact m9 h;exact o0 h)
      replace hB:=kt
      refine wp_seq ?_
      refine wp_region_lit ?_
      refine Vv (by kernel_rfl) (Qm ⟨i9,0,none⟩ (.slice p ((Zd l details 3 fuel).es.length) cp) rfl (by kernel_rfl) (by kernel_rfl) (k8.cell (i:=0) rfl) ?_)
      refine Vv (by kernel_rfl) (Ya (v:=.slice p ((Zd l details 3 fuel).es.length) cp) (b:=b3) (off:=0) rfl (by kernel_rfl) (by kernel_rfl) (by kernel_rfl) rfl m6 (by first|decide|simp) ?_)
      intro li s9 ff
      change Blk _ _ [.slice p ((Zd l details 3 fuel).es.length) cp] _ at ff
      replace hB:=s9.below hB g3
      replace r6:=s9.blk r6 (Ne.symm (Ne.symm j4))
      replace r7:=s9.blk r7 (Ne.symm (Ne.symm j6))
      replace i1:=s9.blk i1 (Ne.symm c8)
      replace l5:=s9.blk l5 (Ne.symm e7)
      replace l4:=s9.blk l4 (Ne.symm f1)
      replace l9:=s9.blk l9 (Ne.symm l7)
      replace k8:=s9.blk k8 (Ne.symm g5)
      replace ho:=s9.own2 ho m6 (by decide)
      replace d0:=d0.only (Zf.of_upd (T:=[46]) s9 m6 (by decide)) (by decide)
      replace hK:=hK.upd s9 m6
      replace v9:=v9.upd s9 m6
      refine Vv (by kernel_rfl) (Ya (v:=.nilIface) (b:=b4) (off:=0) rfl (by kernel_rfl) (by kernel_rfl) (by kernel_rfl) rfl i1 (by first|decide|simp) ?_)
      intro mb s6 iz
      change Blk _ _ [.nilIface] _ at iz
      replace hB:=s6.below hB g4
      replace r6:=s6.blk r6 (Ne.symm (Ne.symm j8))
      replace r7:=s6.blk r7 (Ne.symm (Ne.symm j9))
      replace ff:=s6.blk ff (Ne.symm (Ne.symm c8))
      replace l5:=s6.blk l5 (Ne.symm f0)
      replace l4:=s6.blk l4 (Ne.symm f2)
      replace l9:=s6.blk l9 (Ne.symm l2)
      replace k8:=s6.blk k8 (Ne.symm g7)
      replace ho:=s6.own2 ho i1 (by decide)
      replace d0:=d0.only (Zf.of_upd (T:=[30]) s6 i1 (by decide)) (by decide)
      replace hK:=hK.upd s6 i1
      replace v9:=v9.upd s6 i1
      refine wpList_nil ?_
      have ij:=hK.put t0 (.deferred none)
      refine wp_ret ?_
      refine ret2 ff iz hK v9 t0 (Zgc (.inl rfl) (by kernel_rfl) (by kernel_rfl)) rfl ?_
      refine ldevs_ok ((Yc v1 w0 (by omega) el).trans (Mi bf)) dh cl (Mv (Mv hB hB.size (Nat.le_trans l1 kj) _) (by simpa [World.putObj] using hB.size) (Nat.le_trans m0 im) _) ((((d0.mono l1).pt v9 _).pt ij _)) (own_pt (own_pt (Zg ho l1) v9 _) ij _)
theorem getD_app{P Q:Bl}{k i:Nat}(hk:P.length=k):(P++Q).getD (k+i) 0=Q.getD i 0:=by
 subst hk
 simp[List.getD,List.getElem?_append_right]
theorem getD_hd{P Q:Bl}{i:Nat}(hi:i<P.length):(P++Q).getD i 0=P.getD i 0:=by
 simp[List.getD,List.getElem?_append_left hi]
theorem Gk{P Q:Bl}{k w:Nat}{x:Int}(hk:P.length=k)(h0:0≤x)(hb:x.toNat<256 ^ w):(Zi (P++(leB x w++Q)) k w:Int)=x:=by
 rw[Pm w k x.toNat,Nat.mod_eq_of_lt hb]
 ·omega
 ·intro i hi
  rw[getD_app hk,getD_hd (by rw[Zt];exact hi)]
  simp[leB,Xc,List.getD,List.getElem?_range hi]
theorem Af{P Q:Bl}{k:Nat}(hk:P.length=k):(P++Q).drop k=Q:=List.drop_left' hk
theorem Zak(n m:Nat):Vg ((List.replicate n (0:UInt8)).take m)=true:=by
 unfold Vg;rw[List.all_eq_true]
 intro x hx
 have:=List.mem_of_mem_take hx
 rw[(List.mem_replicate.1 this).2];rfl
theorem Fl(K:List Int)(n j:Nat):∀ d,∃ X,Qs K n (j+d)=Qs K n j++X
 | 0=>⟨[],by simp⟩
 | d+1=>by
  obtain⟨X,hX⟩:=Fl K n j d
  exact⟨_,by rw[←Nat.add_assoc,Km,hX,List.append_assoc]⟩
theorem Em(Vs:List Bl)(j:Nat):∀ d,∃ X,Vx Vs (j+d)=Vx Vs j++X
 | 0=>⟨[],by simp⟩
 | d+1=>by
  obtain⟨X,hX⟩:=Em Vs j d
  exact⟨_,by rw[←Nat.add_assoc,Ux,hX,List.append_assoc]⟩
theorem Bt{l:Bl}:∀ {n:Nat},(∀ i,i<n→Py l i=0)→Yh l n=0
 | 0,_=>rfl
 | n+1,h=>Vq (Bt fun i hi=>h i (by omega)) (h n (by omega))
theorem getD_ext{l l':List Int}(h:l.length=l'.length)(h2:∀ j,j<l.length→l.getD j 0=l'.getD j 0):l=l':=by
 apply List.ext_getElem h
 intro j h3 h4
 have:=h2 j h3
 simpa [List.getD,h3,h4] using this
theorem getD_extV{l l':List Bl}(h:l.length=l'.length)(h2:∀ j,j<l.length→l.getD j []=l'.getD j []):l=l':=by
 apply List.ext_getElem h
 intro j h3 h4
 have:=h2 j h3
 simpa [List.getD,h3,h4] using this
structure NodBack(b:List UInt8)(t:Int)(leaf:Bool)(n m v:Nat)(K:List Int)(Vs:List (List UInt8)):Prop where
 len:b.length=244
 e:Yz b=0
 t:Xw b=t
 l:Xm b=leaf
 c:Zp b=n
 k:Yx b n=K
 v:Ky b n=Vs
theorem Iy{t:Int}{leaf:Bool}{n m v:Nat}{K:List Int}{Vs:List Bl}(N:NodeOk t leaf n m v K Vs):NodBack (Gh m v (Jj t leaf n m v) K Vs n) t leaf n m v K Vs:=by
 have a9:=Qb t leaf
 rw[N.hm] at a9
 have b1:=Ek t leaf
 rw[N.hv] at b1
 have a1:=fitN t leaf
 rw[N.hm,N.hv] at a1
 have a7:=N.ht1
 have a8:=N.ht2
 have a6:=N.hn
 have a0:=Tg (H:=Jj t leaf n m v) (K:=K) (Vs:=Vs) (Je _ _ _ _ _) a1 a6 (fun j hj=>N.hw j hj)
 have a3:=Ed (H:=Jj t leaf n m v) (K:=K) (Vs:=Vs) (Je _ _ _ _ _) a1 a6 (fun j hj=>N.hw j hj)
 generalize Gh m v (Jj t leaf n m v) K Vs n=b at a0 a3
 obtain⟨R,hR⟩:∃ R,b=Jj t leaf n m v++R:=⟨_,by rw[a0,List.append_assoc,List.append_assoc]⟩
 have b0:=Au leaf
 have r0:(Zi b 0 1:Int)=Uw leaf:=by
  rw[hR,Jj];simp only[List.append_assoc]
  exact Gk (P:=[]) (k:=0) (w:=1) (x:=Uw leaf) rfl b0.1 (Nat.lt_of_le_of_lt (show(Uw leaf).toNat≤255 by omega) (by decide))
 have r1:(Zi b 1 1:Int)=t:=by
  rw[hR,Jj];simp only[List.append_assoc]
  exact Gk (P:=leB (Uw leaf) 1) (by rw[Zt]) (by omega) (by omega)
 have r2:(Zi b 2 2:Int)=(n:Int):=by
  rw[hR,Jj];simp only[List.append_assoc]
  rw[←List.append_assoc]
  exact Gk (P:=leB (Uw leaf) 1++leB t 1) (by simp[Zt]) (by omega) (by omega)
 have r4:(Zi b 4 2:Int)=(v:Int):=by
  rw[hR,Jj];simp only[List.append_assoc]
  rw[←List.append_assoc,←List.append_assoc]
  exact Gk (P:=leB (Uw leaf) 1++leB t 1++leB (n:Int) 2) (by simp[Zt]) (by omega) (by omega)
 have r6:(Zi b 6 2:Int)=(m:Int):=by
  rw[hR,Jj];simp only[List.append_assoc]
  rw[←List.append_assoc,←List.append_assoc,←List.append_assoc]
  exact Gk (P:=leB (Uw leaf) 1++leB t 1++leB (n:Int) 2++leB (v:Int) 2) (by simp[Zt]) (by omega) (by omega)
 have r8:(Zi b 8 4:Int)=0:=by
  rw[hR,Jj];simp only[List.append_assoc]
  rw[←List.append_assoc,←List.append_assoc,←List.append_assoc,←List.append_assoc]
  exact Gk (P:=leB (Uw leaf) 1++leB t 1++leB (n:Int) 2++leB (v:Int) 2++leB (m:Int) 2) (by simp[Zt]) (by omega) (by decide)
 have eT:Xw b=t:=r1
 have eL:Xm b=leaf:=by
  unfold Xm;rw[r0];cases leaf<;>rfl
 have eC:Zp b=n:=by unfold Zp;omega
 have eW:Xk b=v:=by unfold Xk;rw[eT,eL,widG,if_pos ⟨a7,a8⟩];exact N.hv
 have eM:Xl b=m:=by unfold Xl;rw[eT,eL,Zf9,if_pos ⟨a7,a8⟩];exact N.hm
 have a2:∀ i,i<n→(Cs b i:Int)=K.getD i 0:=by
  intro i hi
  obtain⟨X,hX⟩:=Fl K n (i+1) (m-(i+1))
  rw[show i+1+(m-(i+1))=m by omega,Km,if_pos hi] at hX
  unfold Cs
  rw[a0,hX]
  have hk:=N.hk0 i hi
  have:=Gk (P:=Jj t leaf n m v++Qs K n i) (Q:=X++(Vx Vs n++List.replicate (232-m*8-n*v) 0)) (k:=12+i*8) (w:=8) (x:=K.getD i 0) (by rw[List.length_append,Je,Hl]) hk.1 (Nat.lt_of_le_of_lt (show(K.getD i 0).toNat≤281474976710655 by omega) (by decide))
  simp only[List.append_assoc] at this ⊢
  exact this
 have a5:∀ i,i<n→Cv b i=Vs.getD i []:=by
  intro i hi
  obtain⟨X,hX⟩:=Em Vs (i+1) (n-(i+1))
  rw[show i+1+(n-(i+1))=n by omega,Ux] at hX
  have a4:(Vx Vs i).length=i*v:=Pi fun j hj=>N.hw j (by omega)
  unfold Cv
  rw[eM,eW,a0,hX]
  have:=Af (P:=Jj t leaf n m v++Qs K n m++Vx Vs i) (Q:=Vs.getD i []++(X++List.replicate (232-m*8-n*v) 0)) (k:=12+m*8+i*v) (by rw[List.length_append,List.length_append,Je,Hl,a4])
  simp only[List.append_assoc] at this ⊢
  rw[this]
  exact List.take_left' (N.hw i hi)
 have b2:n*v≤m*v:=Nat.mul_le_mul_right v a6
 refine⟨a3,?_,eT,eL,eC,?_,?_⟩
 ·have hs:Ka b=true:=by
   unfold Ka
   rw[eW,eM]
   refine decide_eq_true ⟨?_,by omega,by omega,by omega,by omega,by omega,?_⟩
   ·cases leaf<;>simp only[Uw] at r0<;>simp at r0<;>omega
   ·cases leaf with
    | true=>left;simp only[Uw] at r0;simp at r0;omega
    | false=>right;have:=N.hl rfl;omega
  have hz:Mk b=true:=by
   unfold Mk Ev Zbj Fm
   rw[eC,eM,eW,Bool.and_eq_true]
   constructor
   ·have hk:=Hq K n (m-n)
    rw[show n+(m-n)=m by omega] at hk
    have:=Af (P:=Jj t leaf n m v++Qs K n n) (Q:=List.replicate ((m-n)*8) 0++(Vx Vs n++List.replicate (232-m*8-n*v) 0)) (k:=12+n*8) (by rw[List.length_append,Je,Hl])
    rw[a0,hk]
    simp only[List.append_assoc] at this ⊢
    rw[this,List.take_append_of_le_length (by rw[List.length_replicate];omega)]
    exact Zak _ _
   ·have a4:(Vx Vs n).length=n*v:=Pi fun j hj=>N.hw j hj
    have:=Af (P:=Jj t leaf n m v++Qs K n m++Vx Vs n) (Q:=List.replicate (232-m*8-n*v) 0) (k:=12+m*8+n*v) (by rw[List.length_append,List.length_append,Je,Hl,a4])
    rw[a0,this]
    exact Zak _ _
  unfold Yz
  rw[if_pos hs,if_pos hz,eC]
  refine Bt fun i hi=>?_
  have h1:=a2 i hi
  have h2:=N.hk0 i hi
  unfold Py
  rw[if_neg (by omega),if_neg ?_]
  rintro⟨h3,h4⟩
  have h5:=a2 (i-1) (by omega)
  have h6:=N.hk1 (i-1) (by omega)
  rw[show i-1+1=i by omega] at h6
  omega
 ·exact getD_ext (by rw[Yv,N.hK]) fun j hj=>by rw[Yv] at hj;rw[La b hj];exact a2 j hj
 ·exact getD_extV (by rw[Vm,N.hV]) fun j hj=>by rw[Vm] at hj;rw[Zbp b hj];exact a5 j hj
theorem Zd1{t:Int}{leaf:Bool}{n m v:Nat}{K:List Int}{Vs:List Bl}(N:NodeOk t leaf n m v K Vs){l:Bl}{j len:Nat}(hl:l.length=len)(hj:j<len/256)(h4:j<14400)(hb:Kz l j=Vh 2 (j:Int) (Gh m v (Jj t leaf n m v) K Vs n))(tree:Int)(ht:tree=0∨t=tree) :
 Xd l (j:Int) tree=0∧inB l (j:Int)=Gh m v (Jj t leaf n m v) K Vs n:=by
 have B:=Iy N
 have a0:inB l (j:Int)=Gh m v (Jj t leaf n m v) K Vs n:=by
  rw[Zeg (no:=(j:Int)) (j:=j) rfl,hb,in_seal (by rw[B.len];decide)]
  unfold Zdq;rw[B.len];simp
 refine⟨?_,a0⟩
 unfold Xd
 rw[Zee (no:=(j:Int)) (j:=j) hl rfl hj,hb,if_pos (open_seal (by decide) (by decide) (by omega) (by omega) (by rw[B.len];decide)),a0]
 unfold Qr
 rw[if_pos B.e,if_pos (by rw[B.t];exact ht)]
theorem root_leB{q:Nat}(h1:1≤q)(h2:q≤14399):Xy (leB (q:Int) 4)=0∧(Qf (leB (q:Int) 4):Int)=(q:Int):=by
 have hr:(Zi (leB (q:Int) 4) 0 4:Int)=(q:Int):=by
  have:=Gk (P:=[]) (Q:=[]) (k:=0) (w:=4) (x:=(q:Int)) rfl (by omega) (Nat.lt_of_le_of_lt (show(q:Int).toNat≤14399 by omega) (by decide))
  simpa using this
 have he:Xy (leB (q:Int) 4)=0:=by
  unfold Xy;rw[if_pos (Zt _ _),if_pos (by omega)]
 exact⟨he,by unfold Qf;rw[if_pos he];exact hr⟩
def kvE (x:Ent):Int×Bl:=(x.1,x.2.1)
def LaidF(F:Bl)(t:Int)(leaf:Bool)(m v:Nat)(u:List Ent)(q:Nat):Prop :=
 ∀ i,i<ovN u.length m→Kz F (q+i)=Vh 2 ((q+i:Nat):Int) (nodB t leaf m v (Xe u m i))
theorem Wh{t:Int}{leaf:Bool}{m v:Nat}{l:List Ent}{q:Nat}{bs:Bl}(j:Nat):Pb t leaf m v l q bs (j+1)=Jd (Pb t leaf m v l q bs j) ((q+j)*256) (Vh 2 ((q+j:Nat):Int) (nodB t leaf m v (Xe l m j))):=rfl
theorem Ke{t:Int}{leaf:Bool}{m v:Nat}{l:List Ent}{q:Nat}{bs:Bl}(E:EntsOk v l)(h1:1≤t)(h2:t≤5)(hm:Kj t leaf=m)(hv:Uh t leaf=v)(hl:leaf=false→1≤l.length)(j:Nat) :
 j≤ovN l.length m→(q+j)*256≤bs.length→(Pb t leaf m v l q bs j).length=bs.length∧(∀ i,i<j→Kz (Pb t leaf m v l q bs j) (q+i)=Vh 2 ((q+i:Nat):Int) (nodB t leaf m v (Xe l m i)))∧(∀ x,x<q→Kz (Pb t leaf m v l q bs j) x=Kz bs x):=by
 induction j with
 | zero=>exact fun _ _=>⟨rfl,fun i hi=>absurd hi (Nat.not_lt_zero i),fun x _=>rfl⟩
 | succ j ih =>
  intro hj hq
  obtain⟨a1,a2,a3⟩:=ih (by omega) (by omega)
  have a4:=Dp (Pa E h1 h2 hm hv hl (show j<ovN l.length m by omega))
  have a0:(Vh 2 ((q+j:Nat):Int) (nodB t leaf m v (Xe l m j))).length=256:=Ga (by rw[a4];decide)
  rw[Wh]
  generalize Pb t leaf m v l q bs j=y at a1 a2 a3 ⊢
  generalize hx:Vh 2 ((q+j:Nat):Int) (nodB t leaf m v (Xe l m j))=x at a0 ⊢
  have hk:q+j<y.length/256:=by rw[a1];omega
  refine⟨?_,fun i hi=>?_,fun z hz=>?_⟩
  ·rw[Qu (by rw[a0,a1];omega),a1]
  ·by_cases e:i=j
   ·subst e;rw[hx];exact blkB_put a0 hk
   ·rw[Pz a0 hk (by omega) (by omega)];exact a2 i (by omega)
  ·rw[Pz a0 hk (by omega) (by omega)];exact a3 z hz
theorem Nz{t:Int}(h1:1≤t)(h2:t≤5)(n:Nat):∀ (u:List Ent) (q:Nat) (bs:Bl),u.length=n→1≤n→EntsOk 4 u→(q+((Gf n).sum-n))*256≤bs.length→(Vi t u q bs).2.length=bs.length∧∀ x,x<q→Kz (Vi t u q bs).2 x=Kz bs x:=by
 induction n using Nat.strongRecOn with
 | _ n ih =>
  intro u q bs hn a5 E hq
  subst hn
  by_cases h:u.length≤1
  ·rw[Kr h];exact⟨rfl,fun _ _=>rfl⟩
  ·have a4:=ov18 (x:=u.length) (by omega)
   have hp:=Qn u.length 18
   have a0:(Gf u.length).sum=u.length+(Gf (ovN u.length 18)).sum:=by rw[Vo h];rfl
   have hg:=Jn (ovN u.length 18)
   rw[Qy h]
   obtain⟨a1,a2,a3⟩:=Ke (t:=t) (leaf:=false) (m:=18) (v:=4) (l:=u) (q:=q) (bs:=bs) E h1 h2 rfl rfl (fun _=>by omega) (ovN u.length 18) (Nat.le_refl _) (by omega)
   obtain⟨b1,b2⟩:=ih (ovN u.length 18) (by omega) (upE u 18 q (ovN u.length 18)) (q+ovN u.length 18) (Pb t false 18 4 u q bs (ovN u.length 18)) (Xt _ _ _ _) hp (Cq E (by decide)) (by rw[a1];omega)
   exact⟨by rw[b1,a1],fun x hx=>by rw[b2 x (by omega),a3 x hx]⟩
theorem Fz{t:Int}{leaf:Bool}{n m v:Nat}{K:List Int}{Vs:List Bl}(N:NodeOk t leaf n m v K Vs):Kt K:=by
 intro k hk a0
 rw[N.hK] at hk
 have:=N.hk1 (k-1) (by omega)
 rw[show k-1+1=k by omega] at this
 simpa [List.getD] using this
theorem look_ok{F:Bl}{way:List Int}{no t lo hi deep:Int}(hw:way.length<16)(hway:∀ y∈way,no≠y)(he:Xd F no t=0)(hr:Qq lo hi=true)(hs:Kt (Xv F no))(hk:∀ x∈Xv F no,lo≤x∧x<hi)
 (hd:Xm (inB F no)=true→deep=0∨deep=((way.length+1:Nat):Int)):Zy F way no t lo hi deep=0:=by
 have hf:Yt lo hi (Xv F no)=0:=by unfold Yt;rw[if_pos hr,if_pos hs,if_pos hk]
 have hh:Vf way no=false:=by
  unfold Vf;rw[List.any_eq_false]
  intro y hy
  simpa using hway y hy
 unfold Zy
 rw[if_neg (by rw[hh];simp),if_neg (by omega),if_neg (by rw[he];simp)]
 unfold Xv at hf
 rw[if_neg (by rw[hf];simp),if_neg (by rintro⟨a,b,c⟩;rcases hd a with h|h;exact b h;exact c h)]
structure Lev(F:List UInt8)(t fuel:Int)(h n base:Nat)(X:Nat→List (Int×List UInt8))(C:Nat→Nat):Prop where
 one:∀ i,i<n→1≤C i
 go:∀ i,i<n→∀ (d:Nat) (way:List Int) (lo hi:Int) (s:WS),h+1≤d→way.length+h+1≤16→(∀ y∈way,((base+n:Nat):Int)≤y)→Qq lo hi=true→(∀ x∈X i,lo≤x.1∧x.1<hi)→s.dry=false→((s.looked+C i:Nat):Int)≤fuel→(s.deep=0∨s.deep=((way.length+h+1:Nat):Int)) →
  ∃ (es:List Ent) (bl:List Int),es.map kvE=X i∧bl.length=C i∧Zz F t fuel d way ((base+i:Nat):Int) lo hi s={ s with es:=s.es++es,bs:=s.bs++bl,deep:=((way.length+h+1:Nat):Int),looked:=s.looked+C i }
theorem leaf_kv{c:List Ent}{no:Int}:(Ks (Vc c) (Jh c) no c.length).map kvE=c.map kvE:=by
 unfold Ks
 apply List.ext_getElem?
 intro j
 by_cases h:j<c.length
 ·simp[Vc,Jh,kvE,List.getD,h]
 ·rw[List.getElem?_eq_none (by simp;omega),List.getElem?_eq_none (by simp;omega)]
theorem lev_leaf{F:Bl}{t fuel:Int}{l:List Ent}{base len m v:Nat}(hm:Kj t true=m)(hv:Uh t true=v)(E:EntsOk v l)(h1:1≤t)(h2:t≤5)(hF:LaidF F t true m v l base)(hl:F.length=len)(hb:(base+ovN l.length m)*256≤len)(h4:base+ovN l.length m≤14400) :
  Lev F t fuel 0 (ovN l.length m) base (fun i=>(Xe l m i).map kvE) (fun _=>1) where
 one _ _:=Nat.le_refl _
 go i hi d way lo hi' s hd hw hway hr hX hdry hfu hdeep:=by
  obtain⟨d',rfl⟩:∃ d',d=d'+1:=⟨d-1,by omega⟩
  have N:=Pa E h1 h2 hm hv (fun h=>by cases h) hi
  have B:=Iy N
  obtain⟨he,a1⟩:=Zd1 N hl (by omega) (by omega) (hF i hi) t (.inr rfl)
  have hC:Zp (inB F ((base+i:Nat):Int))=(Xe l m i).length:=by rw[a1];exact B.c
  have hK:Xv F ((base+i:Nat):Int)=Vc (Xe l m i):=by unfold Xv;rw[hC,a1];exact B.k
  have hV:Ve F ((base+i:Nat):Int)=Jh (Xe l m i):=by unfold Ve;rw[hC,a1];exact B.v
  have hL:Xm (inB F ((base+i:Nat):Int))=true:=by rw[a1];exact B.l
  have hk:∀ x∈Vc (Xe l m i),lo≤x∧x<hi':=by
   intro x hx
   obtain⟨y,hy,rfl⟩:=List.mem_map.1 hx
   exact hX (kvE y) (List.mem_map.2 ⟨y,hy,rfl⟩)
  have a0:Zy F way ((base+i:Nat):Int) t lo hi' s.deep=0:=look_ok (by omega) (fun y hy=>by have:=hway y hy;omega) he hr (by rw[hK];exact Fz N) (by rw[hK];exact hk) fun _=>hdeep
  refine⟨Ks (Vc (Xe l m i)) (Jh (Xe l m i)) ((base+i:Nat):Int) (Xe l m i).length,[((base+i:Nat):Int)],leaf_kv,rfl,?_⟩
  unfold Zz
  rw[if_neg (by omega),if_neg (by rw[a0];simp),if_pos hL,hC,hK,hV]
theorem Zho{f:Nat→Nat}{a b:Nat}(h:a≤b):((List.range a).map f).sum≤((List.range b).map f).sum:=by
 obtain⟨d,rfl⟩:∃ d,b=a+d:=⟨b-a,by omega⟩
 rw[List.range_add,List.map_append,List.sum_append];omega
theorem part_snd{hi:Int}{K:List Int}{k:Nat}(hk:k<K.length):(k+1<K.length∧(Xb hi K k).2=K.getD (k+1) 0)∨(k+1=K.length∧(Xb hi K k).2=hi):=by
 by_cases q:k+1<K.length
 ·left;exact⟨q,by simp[Xb,List.getD,q]⟩
 ·right;exact⟨by omega,by simp only[Xb];rw[List.getElem?_eq_none (by omega)];rfl⟩
theorem lev_loop{F:Bl}{t fuel:Int}{h n base:Nat}{X:Nat→List (Int×Bl)}{C:Nat→Nat}(L:Lev F t fuel h n base X C){way:List Int}{no hi':Int}{s0:WS}{z a d':Nat}(K:List Int)(hK:Xv F no=K)(hKl:K.length=z)(hidx:a+z≤n)
  (hval:∀ k,k<z→(Ve F no).getD k []=leB ((base+(a+k):Nat):Int) 4) (hkk:∀ k,k<z→∃ v r,X (a+k)=(K.getD k 0,v)::r) (hs:∀ a b,a<b→b<n→∀ x∈X a,∀ y∈X b,x.1<y.1) (hs1:∀ a,a<n→(X a).Pairwise fun x y=>x.1<y.1)
  (hk0:∀ k,k<z→0≤K.getD k 0∧K.getD k 0<hi') (hk1:∀ k,k+1<z→K.getD k 0<K.getD (k+1) 0) (hX2:∀ k,k<z→∀ x∈X (a+k),x.1<hi') (hhi:hi'≤281474976710656) (hb1:1≤base) (h4:base+n≤14400) (hd:h+1≤d') (hw:way.length+1+h+1≤16) (hway:∀ y∈way,((base+n:Nat):Int)≤y) (hno:((base+n:Nat):Int)≤no)
  (hdry:s0.dry=false) (hdeep:s0.deep=0∨s0.deep=((way.length+(h+1)+1:Nat):Int)) (hfu:((s0.looked+((List.range z).map fun j=>C (a+j)).sum:Nat):Int)≤fuel) (k:Nat) :
  k≤z→∃ (es:List Ent) (bl:List Int),es.map kvE=((List.range k).flatMap fun j=>X (a+j))∧bl.length=((List.range k).map fun j=>C (a+j)).sum ∧
    Yp (Zz F t fuel d') F way no hi' k s0={ s0 with es:=s0.es++es,bs:=s0.bs++bl,deep:=if k=0 then s0.deep else((way.length+(h+1)+1:Nat):Int),looked:=s0.looked+((List.range k).map fun j=>C (a+j)).sum }:=by
 induction k with
 | zero=>exact fun _=>⟨[],[],rfl,rfl,by simp[Yp]⟩
 | succ k ih =>
  intro a5
  obtain⟨es,bl,e1,e2,e3⟩:=ih (by omega)
  have a1:k<z:=by omega
  obtain⟨r1,r2⟩:=root_leB (q:=base+(a+k)) (by omega) (by omega)
  have a7:(Xb hi' (Xv F no) k).1=K.getD k 0:=by rw[hK];rfl
  have a4:=part_snd (hi:=hi') (K:=K) (k:=k) (by omega)
  rw[←hK] at a4
  have a9:∀ x∈X (a+k),K.getD k 0≤x.1:=by
   intro x hx
   obtain⟨v,r,hv⟩:=hkk k a1
   have a6:=hs1 (a+k) (by omega)
   rw[hv] at hx a6
   rcases List.mem_cons.1 hx with rfl|hx
   ·exact Int.le_refl _
   ·exact Int.le_of_lt ((List.pairwise_cons.1 a6).1 x hx)
  have b3:∀ x∈X (a+k),x.1<(Xb hi' (Xv F no) k).2:=by
   intro x hx
   rcases a4 with ⟨q1,q2⟩|⟨q1,q2⟩
   ·rw[hK] at q1
    obtain⟨v,r,hv⟩:=hkk (k+1) (by omega)
    rw[q2,hK]
    exact hs (a+k) (a+(k+1)) (by omega) (by omega) x hx (K.getD (k+1) 0,v) (by rw[hv];exact List.mem_cons_self)
   ·rw[q2];exact hX2 k a1 x hx
  have b1:Qq (Xb hi' (Xv F no) k).1 (Xb hi' (Xv F no) k).2=true:=by
   have g0:=hk0 k a1
   refine decide_eq_true ?_
   rw[a7]
   rcases a4 with ⟨q1,q2⟩|⟨q1,q2⟩
   ·rw[hK] at q1
    rw[q2,hK]
    have g1:=hk1 k (by omega)
    have g2:=hk0 (k+1) (by omega)
    omega
   ·rw[q2];omega
  have a2:=Zho (f:=fun j=>C (a+j)) (show k+1≤z from a5)
  have a0:((List.range (k+1)).map fun j=>C (a+j)).sum=((List.range k).map fun j=>C (a+j)).sum+C (a+k):=by rw[List.range_succ,List.map_append,List.sum_append];simp
  rw[a0] at a2
  have b0:((s0.looked+((List.range k).map fun j=>C (a+j)).sum+C (a+k):Nat):Int)≤fuel:=by omega
  have a3:(way++[no]).length=way.length+1:=by simp
  obtain⟨a8,b2,g1,g2,g3⟩:=L.go (a+k) (by omega) d' (way++[no]) (Xb hi' (Xv F no) k).1 (Xb hi' (Xv F no) k).2 { s0 with es:=s0.es++es,bs:=s0.bs++bl,deep:=if k=0 then s0.deep else((way.length+(h+1)+1:Nat):Int),looked:=s0.looked+((List.range k).map fun j=>C (a+j)).sum } hd (by rw[a3];omega) (by
    intro y hy
    rcases List.mem_append.1 hy with q|q
    ·exact hway y q
    ·rw[List.mem_singleton.1 q];exact hno) b1 (fun x hx=>⟨by rw[a7];exact a9 x hx,b3 x hx⟩) hdry b0 (by
    rw[a3,show way.length+1+h+1=way.length+(h+1)+1 by omega]
    by_cases q:k=0
    ·rcases hdeep with d|d
     ·exact .inl (by show(if k=0 then s0.deep else _)=0;rw[if_pos q];exact d)
     ·exact .inr (by show(if k=0 then s0.deep else _)=_;rw[if_pos q];exact d)
    ·exact .inr (by show(if k=0 then s0.deep else _)=_;rw[if_neg q]))
  refine⟨es++a8,bl++b2,?_,?_,?_⟩
  ·rw[List.map_append,e1,g1,List.range_succ,List.flatMap_append];simp
  ·rw[List.length_append,e2,g2,a0]
  ·rw[Uj,e3]
   unfold Na
   rw[if_neg (by rw[hdry];simp)]
   unfold Jl
   rw[hval k a1,if_pos r1,r2,g3,a0,if_neg (Nat.succ_ne_zero k),a3,show way.length+1+h+1=way.length+(h+1)+1 by omega,List.append_assoc,List.append_assoc]
   simp only[WS.mk.injEq,true_and,and_true]
   omega
theorem lev_inner{F:Bl}{t fuel:Int}{h n base len:Nat}{X:Nat→List (Int×Bl)}{C:Nat→Nat}{u:List Ent}(L:Lev F t fuel h n base X C)(hn:u.length=n)(hu:∀ k,k<n→(u.getD k Zn).2.1=leB ((base+k:Nat):Int) 4)(hh:∀ k,k<n→∃ v r,X k=((u.getD k Zn).1,v)::r)
  (hs:∀ a b,a<b→b<n→∀ x∈X a,∀ y∈X b,x.1<y.1) (hs1:∀ a,a<n→(X a).Pairwise fun x y=>x.1<y.1) (E:EntsOk 4 u) (h1:1≤t) (h2:t≤5) (hn1:1≤n) (hb1:1≤base) (hF:LaidF F t false 18 4 u (base+n)) (hl:F.length=len) (hb:(base+n+ovN n 18)*256≤len) (h4:base+n+ovN n 18≤14400) :
  Lev F t fuel (h+1) (ovN n 18) (base+n) (fun i=>(List.range (Qe n 18 i)).flatMap fun j=>X (i*18+j)) (fun i=>1+((List.range (Qe n 18 i)).map fun j=>C (i*18+j)).sum) where
 one _ _:=Nat.le_add_right _ _
 go i hi d way lo hi' s hd hw hway hr hX hdry hfu hdeep:=by
  subst hn
  obtain⟨d',rfl⟩:∃ d',d=d'+1:=⟨d-1,by omega⟩
  have N:=Pa E h1 h2 (leaf:=false) (m:=18) (v:=4) rfl rfl (fun _=>hn1) hi
  have B:=Iy N
  obtain⟨he,a5⟩:=Zd1 N hl (by omega) (by omega) (hF i hi) t (.inr rfl)
  have b6:=Ze4 (m:=18) (by decide) hn1 hi
  have a1:=Js u 18 i
  have a3:∀ j,j<Qe u.length 18 i→(Xe u 18 i).getD j Zn=u.getD (i*18+j) Zn:=fun j hj=>Jt hj
  have b8:1≤Qe u.length 18 i:=by unfold Qe;omega
  have b1:i*18+Qe u.length 18 i≤u.length:=by unfold Qe;omega
  replace hX:∀ x∈(List.range (Qe u.length 18 i)).flatMap (fun j=>X (i*18+j)),lo≤x.1∧x.1<hi':=hX
  replace hfu:((s.looked+(1+((List.range (Qe u.length 18 i)).map fun j=>C (i*18+j)).sum):Nat):Int)≤fuel:=hfu
  show ∃ (es:List Ent) (bl:List Int),es.map kvE=(List.range (Qe u.length 18 i)).flatMap (fun j=>X (i*18+j))∧bl.length=1+((List.range (Qe u.length 18 i)).map fun j=>C (i*18+j)).sum∧Zz F t fuel (d'+1) way ((base+u.length+i:Nat):Int) lo hi' s={ s with es:=s.es++es,bs:=s.bs++bl,deep:=((way.length+(h+1)+1:Nat):Int),looked:=s.looked+(1+((List.range (Qe u.length 18 i)).map fun j=>C (i*18+j)).sum) }
  generalize Qe u.length 18 i=z at a1 a3 b8 b1 hX hfu ⊢
  obtain⟨no,b7⟩:∃ no:Int,no=((base+u.length+i:Nat):Int):=⟨_,rfl⟩
  rw[←b7] at he a5 ⊢
  have hC:Zp (inB F no)=(Xe u 18 i).length:=by rw[a5];exact B.c
  have hK:Xv F no=Vc (Xe u 18 i):=by unfold Xv;rw[hC,a5];exact B.k
  have hV:Ve F no=Jh (Xe u 18 i):=by unfold Ve;rw[hC,a5];exact B.v
  have hL:Xm (inB F no)=false:=by rw[a5];exact B.l
  have a9:(Vc (Xe u 18 i)).length=z:=by rw[Wm,a1]
  have b9:(Jh (Xe u 18 i)).length=z:=by rw[En,a1]
  have b2:∀ j,j<z→(Vc (Xe u 18 i)).getD j 0=(u.getD (i*18+j) Zn).1:=fun j hj=>by rw[Fb (by rw[a1];exact hj),a3 j hj]
  have a6:∀ j,j<z→(Jh (Xe u 18 i)).getD j []=(u.getD (i*18+j) Zn).2.1:=fun j hj=>by rw[Om (by rw[a1];exact hj),a3 j hj]
  have a7:∀ j,j<z→0≤(Vc (Xe u 18 i)).getD j 0∧(Vc (Xe u 18 i)).getD j 0≤281474976710655:=fun j hj=>N.hk0 j (by rw[a1];exact hj)
  have a4:∀ j,j+1<z→(Vc (Xe u 18 i)).getD j 0<(Vc (Xe u 18 i)).getD (j+1) 0:=fun j hj=>N.hk1 j (by rw[a1];exact hj)
  have a2:=Fz N
  have b4:(Xe u 18 i).length=z:=a1
  generalize Vc (Xe u 18 i)=K at hK a9 b2 a7 a4 a2
  generalize Jh (Xe u 18 i)=Vs at hV b9 a6
  rw[b4] at hC
  have b3:∀ j,j<z→∀ x∈X (i*18+j),lo≤x.1∧x.1<hi':=fun j hj x hx=>hX x (List.mem_flatMap.2 ⟨j,List.mem_range.2 hj,hx⟩)
  have a0:∀ j,j<z→∃ v r,X (i*18+j)=(K.getD j 0,v)::r:=fun j hj=>by rw[b2 j hj];exact hh _ (by omega)
  have b0:∀ j,j<z→lo≤K.getD j 0∧K.getD j 0<hi':=by
   intro j hj
   obtain⟨v,r,hv⟩:=a0 j hj
   exact b3 j hj (K.getD j 0,v) (by rw[hv];exact List.mem_cons_self)
  have hk:∀ x∈K,lo≤x∧x<hi':=by
   intro x hx
   obtain⟨j,hj,rfl⟩:=List.mem_iff_getElem.1 hx
   have:=b0 j (by omega)
   simpa [List.getD,hj] using this
  have b5:=of_decide_eq_true hr
  have a8:Zy F way no t lo hi' s.deep=0:=look_ok (by omega) (fun y hy=>by have:=hway y hy;omega) he hr (by rw[hK];exact a2) (by rw[hK];exact hk) fun q=>by rw[hL] at q;cases q
  obtain⟨es,bl,e1,e2,e3⟩:=lev_loop L (way:=way) (no:=no) (hi':=hi') (s0:={ s with looked:=s.looked+1,bs:=s.bs++[no] }) (z:=z) (a:=i*18) (d':=d') K hK a9 b1
   (fun k hk=>by rw[hV,a6 k hk];exact hu _ (by omega)) a0 hs hs1 (fun k hk=>⟨(a7 k hk).1,(b0 k hk).2⟩) a4 (fun k hk x hx=>(b3 k hk x hx).2) b5.2.2 hb1 (by omega) (by omega) (by omega) (fun y hy=>by have:=hway y hy;omega) (by omega) hdry (by rw[show way.length+(h+1)+1=way.length+(h+1)+1 from rfl];exact hdeep) (by simp only;omega) z (Nat.le_refl _)
  refine⟨es,no::bl,e1,by rw[List.length_cons,e2];omega,?_⟩
  unfold Zz
  rw[if_neg (by omega),if_neg (by rw[a8];simp),if_neg (by rw[hL];simp),hC,e3,if_neg (by omega)]
  simp only[WS.mk.injEq,List.append_assoc,List.singleton_append,true_and,and_true]
  omega
theorem Tw{n m:Nat}(hm:1≤m)(C:Nat→Nat):∀ j,j≤ovN n m→((List.range j).map fun i=>1+((List.range (Qe n m i)).map fun k=>C (i*m+k)).sum).sum=j+((List.range (min (j*m) n)).map C).sum
 | 0,_=>by simp
 | j+1,hj=>by
  have a0:=Zas hm (show j<ovN n m by omega)
  have e:min ((j+1)*m) n=j*m+Qe n m j:=by unfold Qe;rw[Nat.add_mul,Nat.one_mul];omega
  rw[List.range_succ,List.map_append,List.sum_append,Tw hm C j (by omega),e,List.range_add,List.map_append,List.sum_append,Nat.min_eq_left a0]
  simp only[List.map_cons,List.map_nil,List.sum_cons,List.sum_nil,List.map_map]
  have:((List.range (Qe n m j)).map fun k=>C (j*m+k))=(List.range (Qe n m j)).map (C ∘ fun x=>j*m+x):=rfl
  rw[this];omega
theorem Ex{α:Type}{n m:Nat}(hm:1≤m)(X:Nat→List α):∀ j,j≤ovN n m→((List.range j).flatMap fun i=>(List.range (Qe n m i)).flatMap fun k=>X (i*m+k))=(List.range (min (j*m) n)).flatMap X
 | 0,_=>by simp
 | j+1,hj=>by
  have a0:=Zas hm (show j<ovN n m by omega)
  have e:min ((j+1)*m) n=j*m+Qe n m j:=by unfold Qe;rw[Nat.add_mul,Nat.one_mul];omega
  rw[List.range_succ,List.flatMap_append,Ex hm X j (by omega),e,List.range_add,List.flatMap_append,Nat.min_eq_left a0]
  simp[List.flatMap_map]
theorem ov_all{n m:Nat}(hm:1≤m):min (ovN n m*m) n=n:=by
 have h:=Nat.div_add_mod (n+m-1) m
 have h2:=Nat.mod_lt (n+m-1) (show 0<m by omega)
 have h3:(n+m-1)/m*m≤ovN n m*m:=Nat.mul_le_mul_right m (by unfold ovN;omega)
 rw[Nat.mul_comm] at h
 omega
def FoundW(X:List (Int×Bl))(total deep:Nat)(w:WS):Prop:=∃ (es:List Ent) (bl:List Int),es.map kvE=X∧bl.length=total∧w=⟨es,bl,(deep:Int),total,[],false⟩
theorem Zc2{t fuel:Int}(h1:1≤t)(h2:t≤5)(n:Nat):∀ (u:List Ent) (h base:Nat) (bs F:Bl) (X:Nat→List (Int×Bl)) (C:Nat→Nat),u.length=n→1≤n→EntsOk 4 u→(∀ k,k<n→(u.getD k Zn).2.1=leB ((base+k:Nat):Int) 4∧(u.getD k Zn).2.2=((base+k:Nat):Int)) →
 (2≤n→∀ k,k<n→∃ v r,X k=((u.getD k Zn).1,v)::r)→(∀ a b,a<b→b<n→∀ x∈X a,∀ y∈X b,x.1<y.1)→(∀ a,a<n→(X a).Pairwise fun x y=>x.1<y.1)→F=(Vi t u (base+n) bs).2→1≤base→(base+n+((Gf n).sum-n))*256≤bs.length→base+n+((Gf n).sum-n)≤14400→Lev F t fuel h n base X C→h+(Gf n).length≤16 →
 (∀ k,k<n→∀ x∈X k,0≤x.1∧x.1<281474976710656)→((((List.range n).map C).sum+((Gf n).sum-n):Nat):Int)≤fuel →
 FoundW ((List.range n).flatMap X) (((List.range n).map C).sum+((Gf n).sum-n)) (h+(Gf n).length) (Zd F (Vi t u (base+n) bs).1 t fuel):=by
 induction n using Nat.strongRecOn with
 | _ n ih =>
  intro u h base bs F X C hn b5 E hu hh hs b9 hF c2 b7 h4 L a0 hX a7
  subst hn
  by_cases h9:u.length≤1
  ·have c1:u.length=1:=by omega
   have c3:Gf u.length=[1]:=by rw[Jr h9,c1]
   rw[c3] at a0 a7 ⊢
   rw[c1] at a7 ⊢
   simp only[List.length_cons,List.length_nil,List.sum_cons,List.sum_nil,List.range_one,List.map_cons,List.map_nil,List.flatMap_cons,List.flatMap_nil,List.append_nil,Nat.sub_self,Nat.add_zero] at a0 a7 ⊢
   rw[Kr h9,(hu 0 (by omega)).2]
   obtain⟨es,bl,e1,e2,e3⟩:=L.go 0 (by omega) 17 [] 0 281474976710656 ws0 (by omega) (by simp;omega) (fun y hy=>by cases hy) (by decide) (fun x hx=>hX 0 (by omega) x hx) rfl (by simp only[ws0];omega) (.inl rfl)
   refine⟨es,bl,e1,e2,?_⟩
   unfold Zd
   rw[e3]
   simp[ws0]
  ·have c5:=ov18 (x:=u.length) (by omega)
   have hp:=Qn u.length 18
   have b8:Gf u.length=u.length::Gf (ovN u.length 18):=Vo h9
   have hg:=Jn (ovN u.length 18)
   rw[b8] at b7 h4 a0 a7
   simp only[List.sum_cons,List.length_cons] at b7 h4 a0 a7
   obtain⟨a1,a2,a3⟩:=Ke (t:=t) (leaf:=false) (m:=18) (v:=4) (l:=u) (q:=base+u.length) (bs:=bs) E h1 h2 rfl rfl (fun _=>by omega) (ovN u.length 18) (Nat.le_refl _) (by omega)
   obtain⟨b1,b2⟩:=Nz (t:=t) h1 h2 (ovN u.length 18) (upE u 18 (base+u.length) (ovN u.length 18)) (base+u.length+ovN u.length 18) (Pb t false 18 4 u (base+u.length) bs (ovN u.length 18)) (Xt _ _ _ _) hp (Cq E (by decide)) (by rw[a1];omega)
   have b3:F=(Vi t (upE u 18 (base+u.length) (ovN u.length 18)) (base+u.length+ovN u.length 18) (Pb t false 18 4 u (base+u.length) bs (ovN u.length 18))).2:=by rw[hF,Qy h9]
   have b0:F.length=bs.length:=by rw[b3,b1,a1]
   have a8:LaidF F t false 18 4 u (base+u.length):=by
    intro i hi
    rw[b3,b2 _ (by omega)];exact a2 i hi
   have L2:=lev_inner L rfl (fun k hk=>(hu k hk).1) (hh (by omega)) hs b9 E h1 h2 b5 c2 a8 b0 (by omega) (by omega)
   have a9:∀ i,Qe u.length 18 i=min 18 (u.length-i*18):=fun i=>rfl
   have c0:∀ i,i<ovN u.length 18→i*18<u.length:=fun i hi=>Ze4 (by decide) b5 hi
   have b6:=ov_all (n:=u.length) (m:=18) (by decide)
   have a5:=Tw (n:=u.length) (m:=18) (by decide) C (ovN u.length 18) (Nat.le_refl _)
   have a4:=Ex (n:=u.length) (m:=18) (by decide) X (ovN u.length 18) (Nat.le_refl _)
   rw[b6] at a5 a4
   have b4:=ih (ovN u.length 18) (by omega) (upE u 18 (base+u.length) (ovN u.length 18)) (h+1) (base+u.length) (Pb t false 18 4 u (base+u.length) bs (ovN u.length 18)) F (fun i=>(List.range (Qe u.length 18 i)).flatMap fun j=>X (i*18+j)) (fun i=>1+((List.range (Qe u.length 18 i)).map fun j=>C (i*18+j)).sum) (Xt _ _ _ _) hp (Cq E (by decide)) (fun k hk=>by rw[Hg hk];exact⟨rfl,rfl⟩)
    (fun _ k hk=>by
     obtain⟨v,r,hv⟩:=hh (by omega) (k*18) (c0 k hk)
     obtain⟨z,hz⟩:∃ z,Qe u.length 18 k=z+1:=⟨Qe u.length 18 k-1,by have:=c0 k hk;rw[a9];omega⟩
     refine⟨v,r++(List.range z).flatMap fun j=>X (k*18+(j+1)),?_⟩
     show(List.range (Qe u.length 18 k)).flatMap _=_
     rw[hz,List.range_succ_eq_map,List.flatMap_cons,Nat.add_zero,hv,Hg hk,(Zat (v:=4) (by decide) b5 hk).1,List.flatMap_map]
     rfl)
    (fun a b c4 hb x hx y hy=>by
     obtain⟨j,hj,hx⟩:=List.mem_flatMap.1 hx
     obtain⟨j2,a6,hy⟩:=List.mem_flatMap.1 hy
     have hj:=List.mem_range.1 hj
     have a6:=List.mem_range.1 a6
     rw[a9] at hj a6
     have:(a+1)*18≤b*18:=Nat.mul_le_mul_right 18 c4
     exact hs (a*18+j) (b*18+j2) (by omega) (by omega) x hx y hy)
    (fun a ha=>by
     refine List.pairwise_flatMap.2 ⟨fun j hj=>?_,?_⟩
     ·have hj:=List.mem_range.1 hj
      rw[a9] at hj
      exact b9 _ (by omega)
     ·refine List.Pairwise.imp_of_mem ?_ (List.pairwise_lt_range)
      intro j j2 hj a6 c6 x hx y hy
      have a6:=List.mem_range.1 a6
      rw[a9] at a6
      exact hs (a*18+j) (a*18+j2) (by omega) (by omega) x hx y hy)
    b3 (by omega) (by rw[a1];omega) (by omega) L2 (by omega)
    (fun k hk x hx=>by
     obtain⟨j,hj,hx⟩:=List.mem_flatMap.1 hx
     have hj:=List.mem_range.1 hj
     rw[a9] at hj
     exact hX _ (by omega) x hx)
    (by rw[a5];omega)
   rw[a5,a4] at b4
   rw[Qy h9,b8,List.sum_cons,List.length_cons]
   have e1:ovN u.length 18+((List.range u.length).map C).sum+((Gf (ovN u.length 18)).sum-ovN u.length 18)=((List.range u.length).map C).sum+(u.length+(Gf (ovN u.length 18)).sum-u.length):=by omega
   have e2:h+1+(Gf (ovN u.length 18)).length=h+((Gf (ovN u.length 18)).length+1):=by omega
   rw[e1,e2] at b4
   exact b4
theorem Se:∀ (k x:Nat),x≤18 ^ k→(Gf x).length≤k+1
 | 0,x,h=>by rw[Jr (by simpa using h)];simp
 | k+1,x,h=>by
  by_cases h1:x≤1
  ·rw[Jr h1];simp
  ·rw[Vo h1,List.length_cons]
   have:ovN x 18≤18 ^ k:=by
    rw[Nat.pow_succ] at h
    have hp:0<18 ^ k:=Nat.pow_pos (by decide)
    unfold ovN
    have:(x+18-1)/18≤18 ^ k:=by
     rw[Nat.div_le_iff_le_mul_add_pred (by decide)];omega
    omega
   have:=Se k _ this
   omega
theorem Sy{l:List Ent}{m:Nat}:∀ j,((List.range j).flatMap fun i=>(Xe l m i).map kvE)=(l.take (j*m)).map kvE
 | 0=>by simp
 | j+1=>by
  rw[List.range_succ,List.flatMap_append,Sy j,Nat.add_mul,Nat.one_mul,List.take_add,List.map_append]
  simp[Xe]
theorem sum_one(n:Nat):((List.range n).map fun _=>1).sum=n:=by
 induction n with
 | zero=>rfl
 | succ n ih=>rw[List.range_succ,List.map_append,List.sum_append,ih];simp
theorem Zf4{t fuel:Int}{l:List Ent}{q:Nat}{bs:Bl}(h1:1≤t)(h2:t≤5)(E:EntsOk (Uh t true) l)(hn:l.length≤32768)(hq:1≤q)(hbs:(q+Gg t l.length)*256≤bs.length)(h4:q+Gg t l.length≤14400)(hfu:(Gg t l.length:Int)≤fuel) :
 FoundW (l.map kvE) (Gg t l.length) (Hw t l.length).length (Zd (Yy t l q bs).2 (Yy t l q bs).1 t fuel):=by
 obtain⟨m,hm⟩:∃ m,Kj t true=m:=⟨_,rfl⟩
 obtain⟨v,hv⟩:∃ v,Uh t true=v:=⟨_,rfl⟩
 have a6:=Qb t true
 have h6:6≤Kj t true:=by
  unfold Kj;repeat' split
  all_goals first|decide|simp_all
 have b0:=Qn l.length m
 have hg:=Jn (ovN l.length m)
 have hN:Gg t l.length=(Gf (ovN l.length m)).sum:=by unfold Gg Hw;rw[hm]
 have hT:Yy t l q bs=Vi t (upE l m q (ovN l.length m)) (q+ovN l.length m) (Pb t true m v l q bs (ovN l.length m)):=by unfold Yy;rw[hm,hv]
 have hD:(Hw t l.length).length=0+(Gf (ovN l.length m)).length:=by unfold Hw;rw[hm,Nat.zero_add]
 rw[hv] at E
 rw[hm] at a6 h6
 rw[hN] at hbs h4 hfu ⊢
 rw[hD,hT]
 obtain⟨a1,a2,a3⟩:=Ke (t:=t) (leaf:=true) (m:=m) (v:=v) (l:=l) (q:=q) (bs:=bs) E h1 h2 hm hv (fun h=>by cases h) (ovN l.length m) (Nat.le_refl _) (by omega)
 obtain⟨b1,b2⟩:=Nz (t:=t) h1 h2 (ovN l.length m) (upE l m q (ovN l.length m)) (q+ovN l.length m) (Pb t true m v l q bs (ovN l.length m)) (Xt _ _ _ _) b0 (Cq E a6.1) (by rw[a1];omega)
 have a9:(Vi t (upE l m q (ovN l.length m)) (q+ovN l.length m) (Pb t true m v l q bs (ovN l.length m))).2.length=bs.length:=by rw[b1,a1]
 have a7:LaidF (Vi t (upE l m q (ovN l.length m)) (q+ovN l.length m) (Pb t true m v l q bs (ovN l.length m))).2 t true m v l q:=by
   intro i hi
   rw[b2 _ (by omega)];exact a2 i hi
 have L:=lev_leaf (fuel:=fuel) hm hv E h1 h2 a7 a9 (by omega) (by omega)
 have b7:ovN l.length m≤5833:=by
   unfold ovN
   have:(l.length+m-1)/m≤5833:=by
    rw[Nat.div_le_iff_le_mul_add_pred (by omega)]
    have:=Nat.mul_le_mul_right 5833 h6
    omega
   omega
 have b8:=Se 4 (ovN l.length m) (Nat.le_trans b7 (by decide))
 have a0:∀ {i j:Nat},j<Qe l.length m i→i*m+j<l.length:=fun {i j} hj=>by unfold Qe at hj;omega
 have a4:∀ {i:Nat} {x:Int×Bl},x∈(Xe l m i).map kvE→∃ j,j<Qe l.length m i∧x=kvE (l.getD (i*m+j) Zn):=by
   intro i x hx
   obtain⟨y,hy,rfl⟩:=List.mem_map.1 hx
   obtain⟨j,hj,rfl⟩:=List.mem_iff_getElem.1 hy
   have a5:j<Qe l.length m i:=by rw[←Js];exact hj
   refine⟨j,a5,?_⟩
   rw[←Jt a5];simp[List.getD,hj]
 have a8:=Zc2 (fuel:=fuel) h1 h2 (ovN l.length m) (upE l m q (ovN l.length m)) 0 q (Pb t true m v l q bs (ovN l.length m)) _ (fun i=>(Xe l m i).map kvE) (fun _=>1) (Xt _ _ _ _) b0 (Cq E a6.1) (fun k hk=>by rw[Hg hk];exact⟨rfl,rfl⟩)
   (fun b5 k hk=>by
    have b4:1≤l.length:=by
     rcases Nat.eq_zero_or_pos l.length with q0|q0
     ·rw[q0] at b5
      have:ovN 0 m=1:=by unfold ovN;rw[Nat.div_eq_of_lt (by omega)];rfl
      omega
     ·exact q0
    obtain⟨k1,k2⟩:=Zat (v:=v) (q:=q) a6.1 b4 hk
    have hz:0<Qe l.length m k:=by unfold Qe;omega
    rw[Hg hk,k1]
    have hc:=Js l m k
    cases hcc:Xe l m k with
    | nil=>rw[hcc] at hc;simp at hc;omega
    | cons y r =>
     refine⟨y.2.1,r.map kvE,?_⟩
     have h0:=Jt (l:=l) (m:=m) (i:=k) (j:=0) hz
     rw[hcc,Nat.add_zero] at h0
     simp only[List.map_cons]
     have e0:y=l.getD (k*m) Zn:=by simpa [List.getD] using h0
     rw[e0];rfl)
   (fun a b b6 hb x hx y hy=>by
    obtain⟨j,hj,rfl⟩:=a4 hx
    obtain⟨j2,a5,rfl⟩:=a4 hy
    have:(a+1)*m≤b*m:=Nat.mul_le_mul_right m b6
    rw[Nat.add_mul,Nat.one_mul] at this
    have b9:j<m:=by unfold Qe at hj;omega
    exact E.mono (a:=a*m+j) (b:=b*m+j2) (by omega) (a0 a5))
   (fun a ha=>by
    rw[List.pairwise_map]
    refine List.pairwise_iff_getElem.2 fun i j hi hj c0=>?_
    have a5:j<Qe l.length m a:=by rw[←Js];exact hj
    have e1:=Jt (l:=l) (m:=m) (i:=a) (j:=i) (by omega)
    have e2:=Jt (l:=l) (m:=m) (i:=a) (j:=j) a5
    simp only[List.getD,List.getElem?_eq_getElem hi,List.getElem?_eq_getElem hj,Option.getD_some] at e1 e2
    show(Xe l m a)[i].1<(Xe l m a)[j].1
    rw[e1,e2]
    exact E.mono (a:=a*m+i) (b:=a*m+j) (by omega) (a0 a5))
   rfl hq (by rw[a1];omega) (by omega) L (by omega)
   (fun k hk x hx=>by
    obtain⟨j,hj,rfl⟩:=a4 hx
    have:=E.hk _ (a0 hj)
    exact⟨this.1,by have:=this.2;simp only[kvE];omega⟩)
   (by rw[sum_one];omega)
 rw[sum_one,Sy] at a8
 rw[show ovN l.length m+((Gf (ovN l.length m)).sum-ovN l.length m)=(Gf (ovN l.length m)).sum by omega] at a8
 have b3:=ov_all (n:=l.length) (m:=m) a6.1
 rw[List.take_of_length_le (by omega)] at a8
 exact a8
theorem putB_comm{l x y:Bl}{a b:Nat}(ha:a+x.length≤l.length)(hb:b+y.length≤l.length)(hd:a+x.length≤b∨b+y.length≤a):Jd (Jd l a x) b y=Jd (Jd l b y) a x:=by
 have e1:=Qu ha
 have e2:=Qu hb
 apply Dm
 ·rw[Qu (by rw[e1];exact hb),e1,Qu (by rw[e2];exact ha),e2]
 ·intro j hj
  rw[Ki (by rw[e1];exact hb),Ki ha,Ki (by rw[e2];exact ha),Ki hb]
  by_cases p:a≤j∧j<a+x.length
  ·rw[if_neg (by omega),if_pos p,if_pos p]
  ·rw[if_neg p,if_neg p]
theorem Zd3{t:Int}{leaf:Bool}{m v:Nat}{l:List Ent}{q k:Nat}{bs x:Bl}(E:EntsOk v l)(h1:1≤t)(h2:t≤5)(hm:Kj t leaf=m)(hv:Uh t leaf=v)(hl:leaf=false→1≤l.length)(hx:x.length=256)(hk:(k+1)*256≤bs.length)(j:Nat) :
 j≤ovN l.length m→(q+j)*256≤bs.length→(k<q∨q+j≤k)→Jd (Pb t leaf m v l q bs j) (k*256) x=Pb t leaf m v l q (Jd bs (k*256) x) j:=by
 induction j with
 | zero=>exact fun _ _ _=>by simp only[Pb]
 | succ j ih =>
  intro hj hq hd
  have ih:=ih (by omega) (by omega) (by omega)
  have a1:=(Ke (t:=t) (leaf:=leaf) (m:=m) (v:=v) (l:=l) (q:=q) (bs:=bs) E h1 h2 hm hv hl j (by omega) (by omega)).1
  have a0:=Dp (Pa E h1 h2 hm hv hl (show j<ovN l.length m by omega))
  have a2:(Vh 2 ((q+j:Nat):Int) (nodB t leaf m v (Xe l m j))).length=256:=Ga (by rw[a0];decide)
  rw[Wh,Wh,←ih]
  exact putB_comm (by rw[a2,a1];omega) (by rw[hx,a1];omega) (by rw[a2,hx];omega)
theorem Zhk{t:Int}(h1:1≤t)(h2:t≤5){k:Nat}{x:Bl}(hx:x.length=256)(n:Nat):∀ (u:List Ent) (q:Nat) (bs:Bl),u.length=n→1≤n→EntsOk 4 u→(q+((Gf n).sum-n))*256≤bs.length→(k+1)*256≤bs.length→(k<q∨q+((Gf n).sum-n)≤k) →
 Vi t u q (Jd bs (k*256) x)=((Vi t u q bs).1,Jd (Vi t u q bs).2 (k*256) x):=by
 induction n using Nat.strongRecOn with
 | _ n ih =>
  intro u q bs hn a5 E hq hk hd
  subst hn
  by_cases h:u.length≤1
  ·rw[Kr h,Kr h]
  ·have a4:=ov18 (x:=u.length) (by omega)
   have hp:=Qn u.length 18
   have a0:(Gf u.length).sum=u.length+(Gf (ovN u.length 18)).sum:=by rw[Vo h];rfl
   have hg:=Jn (ovN u.length 18)
   rw[Qy h,Qy h]
   obtain⟨a1,a2,a3⟩:=Ke (t:=t) (leaf:=false) (m:=18) (v:=4) (l:=u) (q:=q) (bs:=bs) E h1 h2 rfl rfl (fun _=>by omega) (ovN u.length 18) (Nat.le_refl _) (by omega)
   rw[←Zd3 (leaf:=false) (m:=18) (v:=4) E h1 h2 rfl rfl (fun _=>by omega) hx hk (ovN u.length 18) (Nat.le_refl _) (by omega) (by omega)]
   exact ih (ovN u.length 18) (by omega) (upE u 18 q (ovN u.length 18)) (q+ovN u.length 18) _ (Xt _ _ _ _) hp (Cq E (by decide)) (by rw[a1];omega) (by rw[a1];exact hk) (by omega)
theorem treeB_put{t:Int}{l:List Ent}{q k:Nat}{bs x:Bl}(h1:1≤t)(h2:t≤5)(E:EntsOk (Uh t true) l)(hx:x.length=256)(hq:(q+Gg t l.length)*256≤bs.length)(hk:(k+1)*256≤bs.length)(hd:k<q∨q+Gg t l.length≤k) :
 Yy t l q (Jd bs (k*256) x)=((Yy t l q bs).1,Jd (Yy t l q bs).2 (k*256) x):=by
 obtain⟨m,hm⟩:∃ m,Kj t true=m:=⟨_,rfl⟩
 have a0:=Qb t true
 have a4:=Qn l.length m
 have hg:=Jn (ovN l.length m)
 have hN:Gg t l.length=(Gf (ovN l.length m)).sum:=by unfold Gg Hw;rw[hm]
 rw[hm] at a0
 rw[hN] at hq hd
 unfold Yy
 rw[hm]
 obtain⟨a1,a2,a3⟩:=Ke (t:=t) (leaf:=true) (m:=m) (v:=Uh t true) (l:=l) (q:=q) (bs:=bs) E h1 h2 hm rfl (fun h=>by cases h) (ovN l.length m) (Nat.le_refl _) (by omega)
 rw[←Zd3 E h1 h2 hm rfl (fun h=>by cases h) hx hk (ovN l.length m) (Nat.le_refl _) (by omega) (by omega)]
 exact Zhk h1 h2 hx (ovN l.length m) (upE l m q (ovN l.length m)) (q+ovN l.length m) _ (Xt _ _ _ _) a4 (Cq E a0.1) (by rw[a1];omega) (by rw[a1];exact hk) (by omega)
theorem Sh{t:Int}{l:List Ent}{q:Nat}{bs:Bl}(h1:1≤t)(h2:t≤5)(E:EntsOk (Uh t true) l)(hq:(q+Gg t l.length)*256≤bs.length):(Yy t l q bs).2.length=bs.length∧∀ x,x<q→Kz (Yy t l q bs).2 x=Kz bs x:=by
 obtain⟨m,hm⟩:∃ m,Kj t true=m:=⟨_,rfl⟩
 have a0:=Qb t true
 have a4:=Qn l.length m
 have hg:=Jn (ovN l.length m)
 have hN:Gg t l.length=(Gf (ovN l.length m)).sum:=by unfold Gg Hw;rw[hm]
 rw[hm] at a0
 rw[hN] at hq
 unfold Yy
 rw[hm]
 obtain⟨a1,a2,a3⟩:=Ke (t:=t) (leaf:=true) (m:=m) (v:=Uh t true) (l:=l) (q:=q) (bs:=bs) E h1 h2 hm rfl (fun h=>by cases h) (ovN l.length m) (Nat.le_refl _) (by omega)
 obtain⟨b1,b2⟩:=Nz (t:=t) h1 h2 (ovN l.length m) (upE l m q (ovN l.length m)) (q+ovN l.length m) (Pb t true m (Uh t true) l q bs (ovN l.length m)) (Xt _ _ _ _) a4 (Cq E a0.1) (by rw[a1];omega)
 exact⟨by rw[b1,a1],fun x hx=>by rw[b2 x (by omega),a3 x hx]⟩
theorem Zbl{t s:Int}{leaf:Bool}{m v:Nat}{l e:List Ent}{q p:Nat}{bs:Bl}(E:EntsOk v l)(h1:1≤t)(h2:t≤5)(hm:Kj t leaf=m)(hv:Uh t leaf=v)(hl:leaf=false→1≤l.length)(s1:1≤s)(s2:s≤5)(Es:EntsOk (Uh s true) e)(hp:(p+Gg s e.length)*256≤bs.length)(j:Nat) :
 j≤ovN l.length m→(q+j)*256≤bs.length→p+Gg s e.length≤q→Yy s e p (Pb t leaf m v l q bs j)=((Yy s e p bs).1,Pb t leaf m v l q (Yy s e p bs).2 j):=by
 induction j with
 | zero=>exact fun _ _ _=>by simp only[Pb]
 | succ j ih =>
  intro hj hq hd
  have ih:=ih (by omega) (by omega) hd
  have a1:=(Ke (t:=t) (leaf:=leaf) (m:=m) (v:=v) (l:=l) (q:=q) (bs:=bs) E h1 h2 hm hv hl j (by omega) (by omega)).1
  have a0:=Dp (Pa E h1 h2 hm hv hl (show j<ovN l.length m by omega))
  have a2:(Vh 2 ((q+j:Nat):Int) (nodB t leaf m v (Xe l m j))).length=256:=Ga (by rw[a0];decide)
  rw[Wh,Wh,treeB_put s1 s2 Es a2 (by rw[a1];exact hp) (by rw[a1];omega) (by omega),ih]
theorem Zcb{t s:Int}{e:List Ent}{p:Nat}(h1:1≤t)(h2:t≤5)(s1:1≤s)(s2:s≤5)(Es:EntsOk (Uh s true) e)(n:Nat):∀ (u:List Ent) (q:Nat) (bs:Bl),u.length=n→1≤n→EntsOk 4 u→(q+((Gf n).sum-n))*256≤bs.length→(p+Gg s e.length)*256≤bs.length→p+Gg s e.length≤q →
 Yy s e p (Vi t u q bs).2=((Yy s e p bs).1,(Vi t u q (Yy s e p bs).2).2):=by
 induction n using Nat.strongRecOn with
 | _ n ih =>
  intro u q bs hn a6 E hq hp hd
  subst hn
  by_cases h:u.length≤1
  ·rw[Kr h,Kr h]
  ·have a4:=ov18 (x:=u.length) (by omega)
   have a0:=Qn u.length 18
   have a5:(Gf u.length).sum=u.length+(Gf (ovN u.length 18)).sum:=by rw[Vo h];rfl
   have hg:=Jn (ovN u.length 18)
   obtain⟨a1,a2,a3⟩:=Ke (t:=t) (leaf:=false) (m:=18) (v:=4) (l:=u) (q:=q) (bs:=bs) E h1 h2 rfl rfl (fun _=>by omega) (ovN u.length 18) (Nat.le_refl _) (by omega)
   have hl:=Zbl (leaf:=false) (m:=18) (v:=4) (p:=p) E h1 h2 rfl rfl (fun _=>by omega) s1 s2 Es hp (ovN u.length 18) (Nat.le_refl _) (by omega) hd
   rw[Qy h,Qy h,ih (ovN u.length 18) (by omega) (upE u 18 q (ovN u.length 18)) (q+ovN u.length 18) _ (Xt _ _ _ _) a0 (Cq E (by decide)) (by rw[a1];omega) (by rw[a1];exact hp) (by omega),hl]
theorem Zg4{t s:Int}{l e:List Ent}{q p:Nat}{bs:Bl}(h1:1≤t)(h2:t≤5)(E:EntsOk (Uh t true) l)(s1:1≤s)(s2:s≤5)(Es:EntsOk (Uh s true) e)(hq:(q+Gg t l.length)*256≤bs.length)(hd:p+Gg s e.length≤q) :
 Yy s e p (Yy t l q bs).2=((Yy s e p bs).1,(Yy t l q (Yy s e p bs).2).2):=by
 obtain⟨m,hm⟩:∃ m,Kj t true=m:=⟨_,rfl⟩
 have a4:=Qb t true
 have a5:=Qn l.length m
 have hg:=Jn (ovN l.length m)
 have hN:Gg t l.length=(Gf (ovN l.length m)).sum:=by unfold Gg Hw;rw[hm]
 rw[hm] at a4
 rw[hN] at hq
 have a0:(p+Gg s e.length)*256≤bs.length:=by omega
 obtain⟨a1,a2,a3⟩:=Ke (t:=t) (leaf:=true) (m:=m) (v:=Uh t true) (l:=l) (q:=q) (bs:=bs) E h1 h2 hm rfl (fun h=>by cases h) (ovN l.length m) (Nat.le_refl _) (by omega)
 have hl:=Zbl (p:=p) E h1 h2 hm rfl (fun h=>by cases h) s1 s2 Es a0 (ovN l.length m) (Nat.le_refl _) (by omega) hd
 have hu:=Zcb (p:=p) h1 h2 s1 s2 Es (ovN l.length m) (upE l m q (ovN l.length m)) (q+ovN l.length m) (Pb t true m (Uh t true) l q bs (ovN l.length m)) (Xt _ _ _ _) a5 (Cq E a4.1) (by rw[a1];omega) (by rw[a1];exact a0) (by omega)
 rw[show(Yy t l q bs)=Vi t (upE l m q (ovN l.length m)) (q+ovN l.length m) (Pb t true m (Uh t true) l q bs (ovN l.length m)) from by unfold Yy;rw[hm],hu,hl]
 rw[show(Yy t l q (Yy s e p bs).2)=Vi t (upE l m q (ovN l.length m)) (q+ovN l.length m) (Pb t true m (Uh t true) l q (Yy s e p bs).2 (ovN l.length m)) from by unfold Yy;rw[hm]]
abbrev Nt:=Int×List Ent
def Ra(x:Nt):Prop:=1≤x.1∧x.1≤5∧EntsOk (Uh x.1 true) x.2∧x.2.length≤32768
def Hb(x:Nt):Nat:=Gg x.1 x.2.length
def Nd:List Nt→Nat
 | []=>0
 | x::r=>Hb x+Nd r
def Rn:List Nt→Nat→Bl→Bl
 | [],_,bs=>bs
 | x::r,q,bs=>Rn r (q+Hb x) (Yy x.1 x.2 q bs).2
theorem Zbw(a b:List Nt):Nd (a++b)=Nd a+Nd b:=by
 induction a with
 | nil=>simp[Nd]
 | cons x a ih=>simp only[List.cons_append,Nd,ih];omega
theorem Ei(a b:List Nt):∀ (q:Nat) (bs:Bl),Rn (a++b) q bs=Rn b (q+Nd a) (Rn a q bs):=by
 induction a with
 | nil=>intro q bs;simp[Rn,Nd]
 | cons x a ih =>
  intro q bs
  simp only[List.cons_append,Rn,Nd,ih]
  rw[show q+Hb x+Nd a=q+(Hb x+Nd a) by omega]
theorem Zet(r:List Nt):∀ (q:Nat) (bs:Bl),(∀ x∈r,Ra x)→(q+Nd r)*256≤bs.length→(Rn r q bs).length=bs.length:=by
 induction r with
 | nil=>intro q bs _ _;rfl
 | cons x r ih =>
  intro q bs h hb
  have hx:=h x (by simp)
  rw[show Nd (x::r)=Hb x+Nd r from rfl] at hb
  have hk:=Sh (q:=q) (bs:=bs) hx.1 hx.2.1 hx.2.2.1 (by change (q+Hb x)*256≤_;omega)
  rw[show Rn (x::r) q bs=Rn r (q+Hb x) (Yy x.1 x.2 q bs).2 from rfl,ih _ _ (fun y hy=>h y (by simp[hy])) (by rw[hk.1];omega),hk.1]
theorem for_comm{y:Nt}{p:Nat}(hy:Ra y)(r:List Nt):∀ (q:Nat) (bs:Bl),(∀ x∈r,Ra x)→(q+Nd r)*256≤bs.length→p+Hb y≤q →
 Yy y.1 y.2 p (Rn r q bs)=((Yy y.1 y.2 p bs).1,Rn r q (Yy y.1 y.2 p bs).2):=by
 induction r with
 | nil=>intro q bs _ _ _;rfl
 | cons x r ih =>
  intro q bs h hb hp
  have hx:=h x (by simp)
  rw[show Nd (x::r)=Hb x+Nd r from rfl] at hb
  have hk:=Sh (q:=q) (bs:=bs) hx.1 hx.2.1 hx.2.2.1 (by change (q+Hb x)*256≤_;omega)
  have hc:=Zg4 (t:=x.1) (s:=y.1) (l:=x.2) (e:=y.2) (q:=q) (p:=p) (bs:=bs) hx.1 hx.2.1 hx.2.2.1 hy.1 hy.2.1 hy.2.2.1 (by change (q+Hb x)*256≤_;omega) hp
  rw[show Rn (x::r) q bs=Rn r (q+Hb x) (Yy x.1 x.2 q bs).2 from rfl,show Rn (x::r) q (Yy y.1 y.2 p bs).2=Rn r (q+Hb x) (Yy x.1 x.2 q (Yy y.1 y.2 p bs).2).2 from rfl,ih _ _ (fun z hz=>h z (by simp[hz])) (by rw[hk.1];omega) (by omega),hc]
theorem for_scan{a b:List Nt}{y:Nt}{q:Nat}{bs:Bl}{fuel:Int}(h:∀ x∈a++y::b,Ra x)(hq:1≤q)(hb:(q+Nd (a++y::b))*256≤bs.length)(h4:q+Nd (a++y::b)≤14400)(hfu:(Hb y:Int)≤fuel) :
 FoundW (y.2.map kvE) (Hb y) (Hw y.1 y.2.length).length (Zd (Rn (a++y::b) q bs) (Yy y.1 y.2 (q+Nd a) (Rn a q bs)).1 y.1 fuel):=by
 have hy:=h y (by simp)
 have hn:Nd (a++y::b)=Nd a+(Hb y+Nd b):=Zbw a (y::b)
 have a0:=Zet a q bs (fun x hx=>h x (by simp[hx])) (by omega)
 have a1:=Zet b (q+Nd a+Hb y) (Rn a q bs) (fun x hx=>h x (by simp[hx])) (by rw[a0];omega)
 have hc:=for_comm (p:=q+Nd a) hy b (q+Nd a+Hb y) (Rn a q bs) (fun x hx=>h x (by simp[hx])) (by rw[a0];omega) (Nat.le_refl _)
 have s:=Zf4 (t:=y.1) (fuel:=fuel) (l:=y.2) (q:=q+Nd a) (bs:=Rn b (q+Nd a+Hb y) (Rn a q bs)) hy.1 hy.2.1 hy.2.2.1 hy.2.2.2 (by omega) (by change (q+Nd a+Hb y)*256≤_;rw[a1,a0];omega) (by change q+Nd a+Hb y≤_;omega) hfu
 rw[hc] at s
 rw[Ei]
 exact s
end Go.Proofs.YtgphgaehfdfjjaaGreatDoor
