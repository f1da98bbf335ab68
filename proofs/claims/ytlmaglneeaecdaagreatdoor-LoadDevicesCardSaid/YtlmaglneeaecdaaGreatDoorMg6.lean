/- A region that draws its order, inside a round of a range over a function: walked as everywhere. No program is named here. -/
import Derived.RangeFuncNested
import Derived.RangeFuncBound
import Derived.RangeFuncCalls
import Derived.RangeFuncLeaves
import Derived.OwnWalkIn
import Derived.OrdersIn
import Derived.Shelf.Abstract
import Derived.Shelf.RegionOpen
import Derived.TacticsInMore
import Derived.LoopNIn
import Derived.LoopIn
import Derived.Sort.BigQuietIn
import Derived.Test.YtlmaglneeaecdaaGreatDoorMg5
namespace Go.Proofs.YtlmaglneeaecdaaGreatDoor
set_option maxHeartbeats 8000000
set_option maxRecDepth 100000
open Go.RowKit
set_option linter.unusedVariables false
theorem rows_in{n:Nat}{P:Program}{row:String}{args:Array Value}{w:World}{R:Value→World→Prop}(h:Rows P row args w R):RowsIn Fence.wide n P row args w R :=
 fun c cs _=>let ⟨v,w',r,q⟩:=h c cs;⟨v,w',r,stepsIn_wide.2 q⟩
theorem Zhn{P:Program}{l n:Nat}{o:Oper}{a:Act}{w:World}{K:Act→World→Prop}{Q:Exit→Act→World→Prop}(hd:∀ c,o.op≠.defer c)(h:o.wp P a w K Q):o.wpIn (Fence.wide.inRound l) n P a w K Q:=by
 unfold Oper.wpIn
 refine⟨fun f _=>trivial,?_⟩
 rw[Oper.semAt_plain _ _ _ hd]
 unfold Oper.wp at h
 generalize (execOp a.eval o).run P w=r at *
 cases r with
 | ok nx w' =>
  cases nx with
  | value v=>exact h
  | skip=>exact h
  | defer d=>exact h
  | enter f args=>exact⟨(fun q=>by cases q),callsIn_wide.2 h⟩
  | row r args=>exact⟨(fun q=>by cases q),rows_in h⟩
  | _=>exact h.elim
 | halt hh w' =>
  cases hh with
  | panic v=>exact h
  | _=>exact h.elim
theorem op_in{P:Program}{l n i:Nat}{ops:Array Oper}{a:Act}{w:World}{K K':Act→World→Prop}{Q:Exit→Act→World→Prop}(hQ:¬ LetsOut Q)(hd:∀ o∈ops.toList,∀ c,o.op≠.defer c)(hK:∀ a w,K a w→K' a w)(h:wpOp P ops Q i K a w):wpOpIn (Fence.wide.inRound l) n P ops Q i K' a w:=by
 unfold wpOp at h
 unfold wpOpIn
 cases ho:ops[i]? with
 | none=>rw[ho] at h;exact hK _ _ h
 | some o =>
  rw[ho] at h
  dsimp only at h ⊢
  split at h
  ·rename_i hw
   rw[if_pos hw]
   have ho':o∈ops.toList:=by
    obtain⟨hi,e⟩:=Array.getElem?_eq_some_iff.1 ho
    rw[←e];exact Array.mem_toList_iff.2 (Array.getElem_mem hi)
   exact Oper.wpIn_mono hK (Zhn (hd o ho') (h.resolve_right fun q=>hQ q.2))
  ·rename_i hw
   rw[if_neg hw]
   exact⟨fun f _=>trivial,hK _ _ h⟩
theorem any_in{P:Program}{l n:Nat}{md:Region.Mode}{ops:Array Oper}{Q:Exit→Act→World→Prop}(hQ:¬ LetsOut Q)(hd:∀ o∈ops.toList,∀ c,o.op≠.defer c):∀ (fuel:Nat) (L:Array Bool) (a:Act) (w:World),wpAny P md ops Q fuel L a w→wpAnyIn (Fence.wide.inRound l) n P md ops Q fuel L a w
 | 0,_,_,_,h=>h
 | fuel+1,L,a,w,h=>⟨h.1,fun i hi=>op_in hQ hd (fun a w=>any_in hQ hd fuel _ a w) (h.2 i hi)⟩
theorem h_regIn{P:Program}{l0 n0 id:Nat}{l:List Oper}{Q:Exit→Act→World→Prop}{a:Act}{w:World}(S:World→Prop)(n:Nat)(hn:l.toArray.size=n)(L:Array Bool)(hL:Array.replicate n false=L)(hm:P.follows .mixedOrders=true)(hQ:¬ LetsOut Q)(hd:∀ o∈l,∀ c,o.op≠.defer c)(hS:S w.drew)(h:S w.drew→wpAnyH P .any l.toArray Q S n L a w.drew):(Code.region id l.toArray true).wpIn (Fence.wide.inRound l0) n0 P Q a w :=
 wpIn_region_any hm (any_in hQ (by simpa using hd) _ _ _ _ (wpAny_of_held _ _ _ _ (by rw[hn,hL];exact h hS)))
def SeqL{α:Type}(P:Program)(g:Nat)(lb:Array Value)(encs:α→Array Value)(Kp:World→World→Prop)(q:Nat→Prop)(R:List α)(w:World):Prop :=
 ∀ (l:Nat) (J Jx:Nat→World→Prop) (W:World),Below w.heap.size w W →
  (∀ k A B row,J k A→A.grownBy B row→(∀ r,row=some r→q r)→J k B) →
  (∀ k x V,R[k]? = some x→J k V→YieldAt Fence.wide 2 P l (encs x) V fun e U =>
   (e=.returned (.bool true)∧J (k+1) U∧Kp V U)∨(e=.returned (.bool false)∧Jx k U)) →
  J 0 W →
  CallsIn Fence.wide 3 P g (#[.func (.yield l) #[] #[]]++lb) W fun e U=>(∃ v,e=.returned v)∧(J R.length U∨∃ k,k<R.length∧Jx k U)
def rdPost(B:Nat)(Kp:World→World→Prop)(I:Nat→World→Prop)(Ix:Code→Nat→World→Prop)(k:Nat)(W:World):Exit→Act→World→Prop
 | .normal,_,V=>KeepsFrom B W V∧Kp W V∧I (k+1) V
 | .ret,_,V=>KeepsFrom B W V∧Ix .ret k V
 | .exit id,_,V=>KeepsFrom B W V∧Ix (.exit id) k V
 | .goto _,_,_=>False
 | .panic _,_,_=>False
 | .outgrown,_,_=>False
structure RecAt(n:Nat)(r:Loop)(W:World):Prop where
 l:W.heap[n+1]? = some (.loop r)
 d:W.heap[n]? = some (.deferred (some []))
theorem RecAt.lt{n:Nat}{r:Loop}{W:World}(h:RecAt n r W):n+1<W.heap.size:=(Array.getElem?_eq_some_iff.1 h.l).1
theorem RecAt.kept{n:Nat}{r:Loop}{A B:World}{row:Option Nat}(h:RecAt n r A)(hg:A.grownBy B row)(hr:∀ k,row=some k→k<n):RecAt n r B :=
 ⟨(hg.block _ h.lt (fun e=>by have:=hr _ e.symm;omega)).trans h.l,(hg.block _ (by have:=h.lt;omega) (fun e=>by have:=hr _ e.symm;omega)).trans h.d⟩
theorem RecAt.from{n:Nat}{r:Loop}{A B:World}(h:RecAt n r A)(k:KeepsFrom n A B):RecAt n r B:=⟨k.same _ _ (by omega) h.l rfl,k.same _ _ (Nat.le_refl _) h.d rfl⟩
theorem RecAt.put{n:Nat}{r:Loop}{A:World}(h:RecAt n r A)(r':Loop):RecAt n r' (A.putObj (n+1) (.loop r')) :=
 ⟨World.putObj_heap_same h.lt,(World.putObj_heap_other (by omega)).trans h.d⟩
theorem Zah{α:Type}{P:Program}{g:Operand}{ps:Array Tmp}{assign body:Code}{Q:Exit→Act→World→Prop}{a:Act}{w:World}{gf:Nat}{lb:Array Value}
  (hg:a.eval g=.func (.func gf) #[] lb) (eg:∀ args w,(callFunc gf args).run P w=.ok (.enter gf args) w) {encs:α→Array Value} {R:List α} (p q:Nat→Prop) (hp:∀ b,p b→b<w.heap.size) (hq:∀ b,q b→b<w.heap.size)
  (hseq:SeqL P gf lb encs (Keeps p) q R w) (hps:∀ x,(encs x).size=ps.size)
  (I:Nat→World→Prop) (Ix:Code→Nat→World→Prop) (hI:∀ k A B row,I k A→A.grownBy B row→(∀ r,row=some r→q r∨w.heap.size≤r∧∃ o:Obj,A.heap[r]? = some o∧o.isCells=false)→I k B)
  (hIx:∀ c k A B row,Ix c k A→A.grownBy B row→(∀ r,row=some r→w.heap.size≤r∧∃ o:Obj,A.heap[r]? = some o∧o.isCells=false)→Ix c k B) (h0:I 0 w) (a₁:α→Act)
  (hassign:∀ (l k:Nat) (x:α) (W:World) (K:Act→World→Prop),R[k]? = some x→K (a₁ x) W →
   assign.wpIn (Fence.wide.inRound l) 2 P (Exit.then K (fun _ _ _=>False)) { tmps:=(ps.zip (encs x)).foldl (fun t (p,v)=>t.setIfInBounds p v) a.tmps,defers:=[] } W)
  (hbody:∀ (l k:Nat) (x:α) (W:World),w.heap.size≤l→R[k]? = some x→I k W→body.wpIn (Fence.wide.inRound l) 2 P (rdPost w.heap.size (Keeps p) I Ix k W) (a₁ x) W)
  (hdone:∀ (D:Nat) (W:World),w.heap.size≤D→I R.length W→W.heap[D]? = some (.deferred (some []))→Q .normal { a with defers:={ target:=.collected D,args:=#[] }::a.defers } W)
  (hstop:∀ (D:Nat) (c:Code) (k:Nat) (W:World),w.heap.size≤D→k<R.length→Ix c k W→W.heap[D]? = some (.deferred (some []))→c.wp P Q { a with defers:={ target:=.collected D,args:=#[] }::a.defers } W) :
  (Code.rangeFunc g ps assign body).wp P Q a w:=by
 refine(wpIn_wide (n:=4)).1 (wpIn_rangeFunc fun fn _=>?_)
 obtain⟨rec,hrec⟩:∃ rec:LoopState→Option Code→Loop,rec=fun st pe=>{ state:=st,pending:=pe,fn,tmps:=a.tmps,params:=ps,assign,body,defers:=w.heap.size }:=⟨_,rfl⟩
 obtain⟨W1,hW1⟩:∃ W1,(w.alloc (.deferred (some []))).alloc (.loop (rec .ready none))=W1:=⟨_,rfl⟩
 have hR1:RecAt w.heap.size (rec .ready none) W1:=by
  rw[←hW1]
  refine⟨?_,(Below.heap_alloc _ _ _ (by simp)).trans (World.alloc_heap_new w _)⟩
  have:=World.alloc_heap_new (w.alloc (.deferred (some []))) (.loop (rec .ready none))
  rwa [World.size_alloc] at this
 have hI1:I 0 W1:=by
  rw[←hW1]
  exact hI _ _ _ none (hI _ _ _ none h0 (World.grownBy_alloc _ _ _) (fun _ e=>by cases e)) (World.grownBy_alloc _ _ _) (fun _ e=>by cases e)
 have hb1:Below w.heap.size w W1:=by
  rw[←hW1];exact((Below.refl _ w).alloc (Nat.le_refl _) _).alloc (by simp) _
 refine⟨w.heap.size+1,[{ target:=.collected w.heap.size,args:=#[] }],W1,{ target:=.fn (.func gf) lb,args:=#[.func (.yield (w.heap.size+1)) #[] #[]] },W1,gf,
  #[.func (.yield (w.heap.size+1)) #[] #[]]++lb,W1,?_,?_,fun _ _=>trivial,?_,fun _=>by omega,?_⟩
 ·rw[←hW1,hrec];exact run_enterLoop_outer _ _ _ _ _
 ·simp only[resolve,hg]
  simp[go_sem]
 ·simp[invoke,go_sem,eg]
 refine(hseq (w.heap.size+1) (fun k W=>I k W∧RecAt w.heap.size (rec .ready none) W) (fun k W=>∃ c,Ix c k W∧RecAt w.heap.size (rec .done (some c)) W) W1 hb1
  (fun k A B row hs hg' hr=>⟨hI _ _ _ _ hs.1 hg' (fun r e=>.inl (hr r e)),hs.2.kept hg' (fun r e=>hq r (hr r e))⟩) ?_ ⟨hI1,hR1⟩).mono ?_
 ·rintro k x W hx ⟨hi,hl⟩
  have hy:=run_yield (P:=P) (args:=encs x) hl.l (by rw[hrec];exact hps x)
  rw[hrec] at hy
  refine⟨fn,_,assign,body,hy,roundIn_of_wpIn trivial (hassign _ k x W _ hx ⟨_,run_beginRound hl.l (by rw[hrec]),?_⟩)⟩
  obtain⟨Wb,hWb⟩:∃ Wb,W.putObj (w.heap.size+1) (.loop { rec .ready none with state:=.busy })=Wb:=⟨_,rfl⟩
  have hlb:RecAt w.heap.size (rec .busy none) Wb:=by
   have:=hl.put (rec .busy none)
   rw[hrec] at this hWb
   rw[hWb] at this
   rw[hrec]
   exact this
  have hib:I k Wb:=by
   rw[←hWb]
   exact hI _ _ _ _ hi (grownBy_putObj' W _ _) (fun r e=>.inr (by cases e;exact⟨by omega,_,hl.l,rfl⟩))
  have hkb:Keeps p W Wb:=by
   rw[←hWb]
   exact Zbj hp W _ _ _ (by omega) hl.l rfl rfl
  rw[hWb]
  refine wpIn_mono (hbody _ k x Wb (by omega) hx hib) ?_
  have fin:∀ (jump:Option Code) (V:World),KeepsFrom w.heap.size Wb V→RecAt w.heap.size (rec .busy none) V∧∃ U,U=V.putObj (w.heap.size+1) (.loop (rec (if jump.isNone then .ready else .done) jump)) ∧
    (Instr.endRound (w.heap.size+1) jump).run P V=.ok (.bool jump.isNone) U∧RecAt w.heap.size (rec (if jump.isNone then .ready else .done) jump) U:=fun jump V hk=>by
   have hv:=hlb.from hk
   have he:=run_endRound (P:=P) jump hv.l
   refine⟨hv,_,rfl,?_,hv.put _⟩
   rw[hrec] at he ⊢
   exact he
  have putI:∀ {V:World} {r r':Loop} {k:Nat},RecAt w.heap.size r V→I k V→I k (V.putObj (w.heap.size+1) (.loop r')):=fun hv h=>hI _ _ _ _ h (grownBy_putObj' _ _ _) (fun r e=>.inr (by cases e;exact⟨by omega,_,hv.l,rfl⟩))
  have putX:∀ {V:World} {r r':Loop} {c:Code} {k:Nat},RecAt w.heap.size r V→Ix c k V→Ix c k (V.putObj (w.heap.size+1) (.loop r')):=fun hv h=>hIx _ _ _ _ _ h (grownBy_putObj' _ _ _) (fun r e=>by cases e;exact⟨by omega,_,hv.l,rfl⟩)
  rintro e a3 V hp3
  cases e with
  | normal =>
   obtain⟨hk3,hkp3,hi3⟩:=hp3
   obtain⟨hv,U,rfl,hr,hl4⟩:=fin none V hk3
   exact⟨_,_,hr,.inl ⟨rfl,⟨putI hv hi3,hl4⟩,(hkb.trans hkp3).trans (Zbj hp V _ _ _ (by omega) hv.l rfl rfl)⟩⟩
  | ret =>
   obtain⟨hk3,hi3⟩:=hp3
   obtain⟨hv,U,rfl,hr,hl4⟩:=fin (some .ret) V hk3
   exact⟨_,_,hr,.inr ⟨rfl,.ret,putX hv hi3,hl4⟩⟩
  | exit id =>
   obtain⟨hk3,hi3⟩:=hp3
   obtain⟨hv,U,rfl,hr,hl4⟩:=fin (some (.exit id)) V hk3
   exact⟨_,_,hr,.inr ⟨rfl,.exit id,putX hv hi3,hl4⟩⟩
  | goto t=>exact hp3.elim
  | panic ch=>exact hp3.elim
  | outgrown=>exact hp3.elim
 ·rintro e W2 ⟨⟨v,rfl⟩,(⟨hi,hl⟩|⟨k,hk,c,hi,hl⟩)⟩
  ·have he:=run_endLoop (P:=P) hl.l (by rw[hrec];simp)
   rw[show(rec .ready none).pending=none by rw[hrec]] at he
   exact⟨none,_,he,hdone _ _ (Nat.le_refl _) (hI _ _ _ _ hi (grownBy_putObj' _ _ _) (fun r e=>.inr (by cases e;exact⟨by omega,_,hl.l,rfl⟩))) ((World.putObj_heap_other (by omega)).trans hl.d)⟩
  ·have he:=run_endLoop (P:=P) hl.l (by rw[hrec];simp)
   rw[show(rec .done (some c)).pending=some c by rw[hrec]] at he
   exact⟨some c,_,he,wpIn_wide.2 (hstop _ c k _ (Nat.le_refl _) hk (hIx _ _ _ _ _ hi (grownBy_putObj' _ _ _) (fun r e=>by cases e;exact⟨by omega,_,hl.l,rfl⟩)) ((World.putObj_heap_other (by omega)).trans hl.d))⟩
end Go.Proofs.YtlmaglneeaecdaaGreatDoor
namespace Go.Proofs.YtlmaglneeaecdaaGreatDoor
set_option maxHeartbeats 8000000
set_option maxRecDepth 100000
open Go.RowKit Go.Extern.Stop Go.Stop Go.Extern
set_option linter.unusedVariables false
attribute [local irreducible] wpList wpAnyH Code.wp Oper.wp Go
abbrev Rnd:=Option Nat×Option Nat
def Xp(i j:Nat)(a b:List Ent):List Rnd :=
 match a,b with
 | [],[]=>[]
 | [],_::b=>(none,some j)::Xp i (j+1) [] b
 | _::a,[]=>(some i,none)::Xp (i+1) j a []
 | x::a,y::b =>
  if x.1=y.1 then(some i,some j)::Xp (i+1) (j+1) a b
  else if x.1<y.1 then(some i,none)::Xp (i+1) j a (y::b)
  else(none,some j)::Xp i (j+1) (x::a) b
termination_by a.length+b.length
theorem Dr(i j:Nat):Xp i j [] []=[]:=by rw[Xp]
theorem Dd(i j:Nat)(y:Ent)(b:List Ent):Xp i j [] (y::b)=(none,some j)::Xp i (j+1) [] b:=by rw[Xp]
theorem Dx(i j:Nat)(x:Ent)(a:List Ent):Xp i j (x::a) []=(some i,none)::Xp (i+1) j a []:=by rw[Xp]
theorem Dz{i j:Nat}{x y:Ent}{a b:List Ent}(h:x.1=y.1):Xp i j (x::a) (y::b)=(some i,some j)::Xp (i+1) (j+1) a b:=by rw[Xp,if_pos h]
theorem Em{i j:Nat}{x y:Ent}{a b:List Ent}(h:x.1<y.1):Xp i j (x::a) (y::b)=(some i,none)::Xp (i+1) j a (y::b):=by rw[Xp,if_neg (by omega),if_pos h]
theorem Eb{i j:Nat}{x y:Ent}{a b:List Ent}(h:y.1<x.1):Xp i j (x::a) (y::b)=(none,some j)::Xp i (j+1) (x::a) b:=by rw[Xp,if_neg (by omega),if_neg (by omega)]
def Zan(r:Rnd):Bool:=r.1.isSome&&r.2.isSome
theorem Db:∀ (a b:List Ent) (i j:Nat),(Xp i j a b).all Zan=true→Yu a b=0∧Xp i j a b=(List.range a.length).map fun k=>(some (i+k),some (j+k))
 | [],[],i,j,_=>⟨rfl,by rw[Dr];rfl⟩
 | [],y::b,i,j,h=>by rw[Dd] at h;simp[Zan] at h
 | x::a,[],i,j,h=>by rw[Dx] at h;simp[Zan] at h
 | x::a,y::b,i,j,h=>by
  by_cases e:x.1=y.1
  ·rw[Dz e] at h ⊢
   rw[List.all_cons] at h
   obtain⟨h1,h2⟩:=Db a b (i+1) (j+1) (by simpa [Zan] using h)
   refine⟨?_,?_⟩
   ·show(if x.1=y.1 then Yu a b else _)=0
    rw[if_pos e,h1]
   ·rw[h2,List.length_cons,List.range_succ_eq_map,List.map_cons,List.map_map]
    congr 1
    apply List.map_congr_left
    intro k _
    simp only[Function.comp,Nat.succ_eq_add_one]
    congr 2<;>omega
  ·by_cases q:x.1<y.1
   ·rw[Em q] at h;simp[Zan] at h
   ·rw[Eb (by omega)] at h;simp[Zan] at h
theorem Ue:∀ (a b:List Ent) (i j k:Nat) (r:Rnd),((Xp i j a b).take k).all Zan=true→(Xp i j a b)[k]? = some r→Zan r=false→Yu a b=(if r.1=none then 1 else 2)
 | [],[],i,j,k,r,_,h,_=>by rw[Dr] at h;simp at h
 | [],y::b,i,j,k,r,hp,h,hr=>by
  rw[Dd] at hp h
  cases k with
  | zero=>simp at h;subst h;rfl
  | succ k=>simp[Zan] at hp
 | x::a,[],i,j,k,r,hp,h,hr=>by
  rw[Dx] at hp h
  cases k with
  | zero=>simp at h;subst h;rfl
  | succ k=>simp[Zan] at hp
 | x::a,y::b,i,j,k,r,hp,h,hr=>by
  by_cases e:x.1=y.1
  ·rw[Dz e] at hp h
   cases k with
   | zero=>simp at h;subst h;simp[Zan] at hr
   | succ k =>
    have ih:=Ue a b (i+1) (j+1) k r (by simpa [Zan] using hp) (by simpa using h) hr
    show(if x.1=y.1 then Yu a b else _)=_
    rw[if_pos e,ih]
  ·by_cases q:x.1<y.1
   ·rw[Em q] at hp h
    cases k with
    | zero =>
     simp at h;subst h
     show(if x.1=y.1 then Yu a b else if x.1<y.1 then 2 else 1)=2
     rw[if_neg e,if_pos q]
    | succ k=>simp[Zan] at hp
   ·rw[Eb (by omega)] at hp h
    cases k with
    | zero =>
     simp at h;subst h
     show(if x.1=y.1 then Yu a b else if x.1<y.1 then 2 else 1)=1
     rw[if_neg e,if_neg q]
    | succ k=>simp[Zan] at hp
end Go.Proofs.YtlmaglneeaecdaaGreatDoor
namespace Go.Proofs.YtlmaglneeaecdaaGreatDoor
set_option maxHeartbeats 8000000
set_option maxRecDepth 100000
open Go.RowKit
set_option linter.unusedVariables false
attribute [local go_sem] Oper.semAt_some
def Zav(g off n cap:Nat)(i:Nat)(v:Value):Prop:=(i=n∧∃ a c,v=.slice a 0 c)∨(i<n∧n≤cap∧v=.slice (some ⟨g,off+3*i,none⟩) (n-i) (cap-i))
def Cu(g off:Nat):Option Nat→Value
 | none=>.pointer none
 | some i=>.pointer (some ⟨g,off+3*i,none⟩)
def encR(ga oa gb ob:Nat)(r:Rnd):Array Value:=#[Cu ga oa r.1,Cu gb ob r.2]
def lenAt(W:World)(b:Nat):Nat:=match W.cell? ⟨b,0,none⟩ with
 | some (.slice _ n _)=>n
 | _=>0
theorem Yg{W:World}{b n c:Nat}{a:Option Addr}{t:TypeId}(h:Blk W b [.slice a n c] t):lenAt W b=n:=by
 unfold lenAt
 rw[h.cell (i:=0) rfl]
theorem Wj{α:Type}{L:List α}{k:Nat}{x:α}{r:List α}(h:L.drop k=x::r):L[k]? = some x∧k<L.length∧L.drop (k+1)=r:=by
 have h1:k<L.length:=by
  rcases Nat.lt_or_ge k L.length with q|q
  ·exact q
  ·rw[List.drop_eq_nil_of_le q] at h;cases h
 rw[List.drop_eq_getElem_cons h1] at h
 simp only[List.cons.injEq] at h
 exact⟨by rw[List.getElem?_eq_getElem h1,h.1],h1,h.2⟩
theorem Hz{A:List Ent}{i n:Nat}(hA:A.length=n)(hi:i<n):A.drop i=A.getD i Zi::A.drop (i+1):=by
 subst hA
 rw[List.drop_eq_getElem_cons hi,show A.getD i Zi=A[i] from by simp[List.getD,hi]]
theorem Wk{T:Nat→Prop}{W X V:World}{B k B1 B2:Nat}{u x:Value}{t:TypeId}{J:Nat→World→Prop}(hV:X.setCell ⟨B,0,none⟩ u=V)(m:Blk X B [x] t)(hT:¬ T B)(hB:B=B1∨B=B2)
 (hJ:∀ k X Y row,J k X→X.grownBy Y row→(∀ r,row=some r→r=B1∨r=B2)→J k Y) (hK:Keeps T W X) (h:J k X):Blk V B [u] t∧Keeps T W V∧J k V∧∀ b cs t',b≠B→Blk X b cs t'→Blk V b cs t':=by
 subst hV
 exact⟨m.set 0 u,hK.setCell hT u,hJ _ _ _ _ h (grownBy_setCell' X B u) (fun r e=>by cases e;exact hB),fun b cs t' hb h'=>h'.other (p:=⟨B,0,none⟩) hb u⟩
theorem Gi{T:Nat→Prop}{W X:World}{N k B1 B2:Nat}{J:Nat→World→Prop}(hJ:∀ k X Y row,J k X→X.grownBy Y row→(∀ r,row=some r→r=B1∨r=B2)→J k Y)(hK:Keeps T W X)(h:J k X):Keeps T W (X.drewN N)∧J k (X.drewN N) :=
 ⟨hK.trans ⟨Nat.le_refl _,fun _ _=>rfl⟩,hJ _ _ _ none h ⟨rfl,rfl,rfl,Nat.le_refl _,fun _ _ _=>rfl⟩ (fun _ e=>by cases e)⟩
theorem Jo{g off n cap i m:Nat}(hi:i<n)(hm:n-i=m+1)(hc:n≤cap):(cap-i=1→Zav g off n cap (i+1) (.slice (some ⟨g,off+3*i,none⟩) m 0))∧(Zav g off n cap (i+1) (.slice (some ⟨g,off+3*i+3,none⟩) m (cap-i-1))):=by
 refine⟨fun h=>?_,?_⟩
 ·obtain rfl:m=0:=by omega
  exact .inl ⟨by omega,_,_,rfl⟩
 ·by_cases h:m=0
  ·subst h;exact .inl ⟨by omega,_,_,rfl⟩
  ·refine .inr ⟨by omega,hc,?_⟩
   rw[show off+3*(i+1)=off+3*i+3 by omega,show n-(i+1)=m by omega,show cap-(i+1)=cap-i-1 by omega]
theorem Vn{T:Nat→Prop}{V U:World}{b:Nat}{cs:List Value}{t:TypeId}(h:Keeps T V U)(hb:T b)(m:Blk V b cs t):Blk U b cs t:=(h.block b hb).trans m
theorem pairs1_in(l B1 B2:Nat)(ga oa na ca gb ob nb cb:Nat)(A E:List Ent)(hA:A.length=na)(hE:E.length=nb)(hna:na≤1000000)(hnb:nb≤1000000)(hB:B1≠B2)(T:Nat→Prop)(hT1:¬ T B1)(hT2:¬ T B2)
  (J Jx:Nat→World→Prop)
  (hJ:∀ k X Y row,J k X→X.grownBy Y row→(∀ r,row=some r→r=B1∨r=B2)→J k Y)
  (hY:∀ k x V,(Xp 0 0 A E)[k]? = some x→J k V→YieldAt Fence.wide 2 Tryz.prog l (encR ga oa gb ob x) V fun e U =>
   (e=.returned (.bool true)∧J (k+1) U∧Keeps (fun b=>b=B1∨b=B2∨T b) V U)∨(e=.returned (.bool false)∧Jx k U))
  (W:World) (va vb:Value) (k1:Blk W B1 [va] 75) (k2:Blk W B2 [vb] 75) (hva:Zav ga oa na ca 0 va) (hvb:Zav gb ob nb cb 0 vb)
  (hkA:∀ i,i<na→W.cell? ⟨ga,oa+3*i,none⟩=some (.int .i64 (A.getD i Zi).1)∧T ga) (hkE:∀ i,i<nb→W.cell? ⟨gb,ob+3*i,none⟩=some (.int .i64 (E.getD i Zi).1)∧T gb) (h0:J 0 W) :
  CallsIn Fence.wide 3 Tryz.prog 71 #[.func (.yield l) #[] #[],.pointer (some ⟨B1,0,none⟩),.pointer (some ⟨B2,0,none⟩)] W fun e W'=>(∃ v,e=.returned v)∧(J (Xp 0 0 A E).length W'∨∃ k,k<(Xp 0 0 A E).length∧Jx k W'):=by
 refine callsIn_of_wp Tryz.func71 rfl trivial ?_ rfl
 simp only[Tryz.ntmps71,List.size_toArray,List.length_cons,List.length_nil,Nat.reduceAdd,Nat.reduceSub,Array.replicate_succ,Array.replicate_zero,List.push_toArray,List.append_toArray,List.nil_append,List.cons_append]
 gi_wp2
 gi_loopw [] (fun wr=>∃ (k i j:Nat) (va vb:Value),i≤na∧j≤nb∧k≤(Xp 0 0 A E).length∧(Xp 0 0 A E).drop k=Xp i j (A.drop i) (E.drop j)∧Blk wr B1 [va] 75∧Blk wr B2 [vb] 75∧Zav ga oa na ca i va∧Zav gb ob nb cb j vb∧J k wr∧Keeps T W wr)
  (fun wr=>lenAt wr B1+lenAt wr B2)
 case atStart=>exact⟨0,0,0,va,vb,Nat.zero_le _,Nat.zero_le _,Nat.zero_le _,by simp,k1,k2,hva,hvb,h0,Keeps.refl _ _⟩
 case round =>
  obtain⟨k,i,j,va,vb,hi,hj,hk,hdr,m1,m2,hva,hvb,hJk,hKp⟩:=hrel
  have hva0:=hva
  have hvb0:=hvb
  rcases hva with ⟨rfl,a1,c1,rfl⟩|⟨hin,hcap,rfl⟩
  ·rcases hvb with ⟨rfl,a2,c2,rfl⟩|⟨hjn,hcb,rfl⟩
   ·have hdn:(Xp 0 0 A E).drop k=[]:=by rw[hdr,show A.drop i=[] from List.drop_eq_nil_of_le (by omega),show E.drop j=[] from List.drop_eq_nil_of_le (by omega),Dr]
    have hkl:k=(Xp 0 0 A E).length:=by
     have:=List.drop_eq_nil_iff.1 hdn;omega
    have z1:=m1.cell (i:=0) rfl
    have z2:=m2.cell (i:=0) rfl
    have f1:=m1.frozen 0
    have f2:=m2.frozen 0
    gi_wp2
    go_end0
    exact⟨⟨_,rfl⟩,.inl (hkl▸hJk)⟩
   ·have hst:(Xp 0 0 A E).drop k=(none,some j)::Xp i (j+1) (A.drop i) (E.drop (j+1)):=by rw[hdr,show A.drop i=[] from List.drop_eq_nil_of_le (by omega),Hz hE hjn,Dd]
    obtain⟨hx,hk1,hdr1⟩:=Wj hst
    obtain⟨p,hp⟩:∃ m,nb-j=m+1:=⟨nb-j-1,by omega⟩
    rw[hp] at m2
    have nx2:=Jo (g:=gb) (off:=ob) hjn hp hcb
    have hm2:=Lib.hid hp;clear hp
    have y2:wr.cell? ⟨gb,ob+3*j,none⟩=some (.int .i64 (E.getD j Zi).1):=(hKp.cell (hkE j hjn).2).trans (hkE j hjn).1
    have zl1:=Yg m1
    have zl2:=Yg m2
    have z1:=m1.cell (i:=0) rfl
    have z2:=m2.cell (i:=0) rfl
    have f1:=m1.frozen 0
    have f2:=m2.frozen 0
    gi_wp2
    gi_big_quiet_th (fail)
    gi_wp2
    gi_big_quiet_th (fail)
    gi_wp2
    all_goals
     generalize hV:World.setCell _ _ _=V
     obtain⟨q2,hKV,hJV,hoV⟩:=Wk (x:=_) (B1:=B1) (B2:=B2) hV m2 hT2 (.inr rfl) hJ (Gi hJ hKp hJk).1 (Gi hJ hKp hJk).2
     have q1:=hoV _ _ _ hB m1
     obtain⟨fn,tmps,assign,body,hy,hR⟩:=hY k (none,some j) V hx hJV
     have hy2:=hy;clear hy
     simp only[encR,Cu] at hy2
     rw[hy2]
     refine⟨fun _=>by omega,hR.mono ?_⟩
     rintro e U (⟨rfl,hJU,hkU⟩|⟨rfl,hJxU⟩)
     ·have r1:=Vn hkU (.inl rfl) q1
      have r2:=Vn hkU (.inr (.inl rfl)) q2
      have lr1:=Yg r1
      have lr2:=Yg r2
      gi_wp2
      go_roundw
      case rel =>
       exact⟨k+1,_,j+1,_,_,hi,hjn,hk1,hdr1,r1,r2,(by first|exact hva0|(rw[←hm1.out];exact hva0)),(by first|exact nx2.2|exact nx2.1 (by omega)),hJU,hKV.trans ⟨hkU.size,fun b hb=>hkU.block b (.inr (.inr hb))⟩⟩
      case measure=>rw[lr1,lr2,zl1,zl2];omega
     ·gi_wp2
      refine bodyPost_ret (results_none rfl _ _ _) rfl ?_
      exact⟨⟨_,rfl⟩,.inr ⟨k,hk1,hJxU⟩⟩
  ·rcases hvb with ⟨rfl,a2,c2,rfl⟩|⟨hjn,hcb,rfl⟩
   ·have hst:(Xp 0 0 A E).drop k=(some i,none)::Xp (i+1) j (A.drop (i+1)) (E.drop j):=by rw[hdr,show E.drop j=[] from List.drop_eq_nil_of_le (by omega),Hz hA hin,Dx]
    obtain⟨hx,hk1,hdr1⟩:=Wj hst
    obtain⟨m,hm⟩:∃ m,na-i=m+1:=⟨na-i-1,by omega⟩
    rw[hm] at m1
    have nx1:=Jo (g:=ga) (off:=oa) hin hm hcap
    have hm1:=Lib.hid hm;clear hm
    have y1:wr.cell? ⟨ga,oa+3*i,none⟩=some (.int .i64 (A.getD i Zi).1):=(hKp.cell (hkA i hin).2).trans (hkA i hin).1
    have zl1:=Yg m1
    have zl2:=Yg m2
    have z1:=m1.cell (i:=0) rfl
    have z2:=m2.cell (i:=0) rfl
    have f1:=m1.frozen 0
    have f2:=m2.frozen 0
    gi_wp2
    gi_big_quiet_th (fail)
    gi_wp2
    gi_big_quiet_th (fail)
    gi_wp2
    all_goals
     generalize hV:World.setCell _ _ _=V
     obtain⟨q1,hKV,hJV,hoV⟩:=Wk (x:=_) (B1:=B1) (B2:=B2) hV m1 hT1 (.inl rfl) hJ (Gi hJ hKp hJk).1 (Gi hJ hKp hJk).2
     have q2:=hoV _ _ _ (Ne.symm hB) m2
     obtain⟨fn,tmps,assign,body,hy,hR⟩:=hY k (some i,none) V hx hJV
     have hy2:=hy;clear hy
     simp only[encR,Cu] at hy2
     rw[hy2]
     refine⟨fun _=>by omega,hR.mono ?_⟩
     rintro e U (⟨rfl,hJU,hkU⟩|⟨rfl,hJxU⟩)
     ·have r1:=Vn hkU (.inl rfl) q1
      have r2:=Vn hkU (.inr (.inl rfl)) q2
      have lr1:=Yg r1
      have lr2:=Yg r2
      gi_wp2
      go_roundw
      case rel =>
       exact⟨k+1,i+1,_,_,_,hin,hj,hk1,hdr1,r1,r2,(by first|exact nx1.2|exact nx1.1 (by omega)),(by first|exact hvb0|(rw[←hm2.out];exact hvb0)),hJU,hKV.trans ⟨hkU.size,fun b hb=>hkU.block b (.inr (.inr hb))⟩⟩
      case measure=>rw[lr1,lr2,zl1,zl2];omega
     ·gi_wp2
      refine bodyPost_ret (results_none rfl _ _ _) rfl ?_
      exact⟨⟨_,rfl⟩,.inr ⟨k,hk1,hJxU⟩⟩
   ·by_cases hc:(A.getD i Zi).1=(E.getD j Zi).1
    ·have hst:(Xp 0 0 A E).drop k=(some i,some j)::Xp (i+1) (j+1) (A.drop (i+1)) (E.drop (j+1)):=by rw[hdr,Hz hA hin,Hz hE hjn,Dz hc]
     obtain⟨hx,hk1,hdr1⟩:=Wj hst
     obtain⟨m,hm⟩:∃ m,na-i=m+1:=⟨na-i-1,by omega⟩
     rw[hm] at m1
     have nx1:=Jo (g:=ga) (off:=oa) hin hm hcap
     have hm1:=Lib.hid hm;clear hm
     have y1:wr.cell? ⟨ga,oa+3*i,none⟩=some (.int .i64 (A.getD i Zi).1):=(hKp.cell (hkA i hin).2).trans (hkA i hin).1
     obtain⟨p,hp⟩:∃ m,nb-j=m+1:=⟨nb-j-1,by omega⟩
     rw[hp] at m2
     have nx2:=Jo (g:=gb) (off:=ob) hjn hp hcb
     have hm2:=Lib.hid hp;clear hp
     have y2:wr.cell? ⟨gb,ob+3*j,none⟩=some (.int .i64 (E.getD j Zi).1):=(hKp.cell (hkE j hjn).2).trans (hkE j hjn).1
     have zl1:=Yg m1
     have zl2:=Yg m2
     obtain⟨ya,hya⟩:∃ y,(A.getD i Zi).1=y:=⟨_,rfl⟩
     obtain⟨yb,hyb⟩:∃ y,(E.getD j Zi).1=y:=⟨_,rfl⟩
     rw[hya] at y1
     rw[hyb] at y2
     have d1:decide (ya≤yb)=true:=by simp;omega
     have d2:decide (yb≤ya)=true:=by simp;omega
     have w1:(ya≤yb)=True:=by simp;omega
     have w2:(yb≤ya)=True:=by simp;omega
     have e1:((p:Int)+1==0)=false:=beq_false_of_ne (by omega)
     have e2:((m:Int)+1==0)=false:=beq_false_of_ne (by omega)
     have hya:=Lib.hid hya
     have hyb:=Lib.hid hyb
     clear d1 d2
     have z1:=m1.cell (i:=0) rfl
     have z2:=m2.cell (i:=0) rfl
     have f1:=m1.frozen 0
     have f2:=m2.frozen 0
     gi_wp2
     gi_big_quiet_th (fail)
     gi_wp2
     gi_big_quiet_th (fail)
     gi_wp2
     all_goals
      generalize hV:World.setCell (World.setCell _ _ _) _ _=V
      generalize hX:World.setCell (World.drewN _ _) _ _=X at hV
      obtain⟨q1,hKX,hJX,hoX⟩:=Wk (x:=_) (B1:=B1) (B2:=B2) hX m1 hT1 (.inl rfl) hJ (Gi hJ hKp hJk).1 (Gi hJ hKp hJk).2
      obtain⟨q2,hKV,hJV,hoV⟩:=Wk (x:=_) (B1:=B1) (B2:=B2) hV (hoX _ _ _ (Ne.symm hB) m2) hT2 (.inr rfl) hJ hKX hJX
      replace q1:=hoV _ _ _ hB q1
      obtain⟨fn,tmps,assign,body,hy,hR⟩:=hY k (some i,some j) V hx hJV
      have hy2:=hy;clear hy
      simp only[encR,Cu] at hy2
      rw[hy2]
      refine⟨fun _=>by omega,hR.mono ?_⟩
      rintro e U (⟨rfl,hJU,hkU⟩|⟨rfl,hJxU⟩)
      ·have r1:=Vn hkU (.inl rfl) q1
       have r2:=Vn hkU (.inr (.inl rfl)) q2
       have lr1:=Yg r1
       have lr2:=Yg r2
       gi_wp2
       go_roundw
       case rel =>
        exact⟨k+1,i+1,j+1,_,_,hin,hjn,hk1,hdr1,r1,r2,(by first|exact nx1.2|exact nx1.1 (by omega)),(by first|exact nx2.2|exact nx2.1 (by omega)),hJU,hKV.trans ⟨hkU.size,fun b hb=>hkU.block b (.inr (.inr hb))⟩⟩
       case measure=>rw[lr1,lr2,zl1,zl2];omega
      ·gi_wp2
       refine bodyPost_ret (results_none rfl _ _ _) rfl ?_
       exact⟨⟨_,rfl⟩,.inr ⟨k,hk1,hJxU⟩⟩
    ·by_cases hl:(A.getD i Zi).1<(E.getD j Zi).1
     ·have hst:(Xp 0 0 A E).drop k=(some i,none)::Xp (i+1) j (A.drop (i+1)) (E.drop j):=by rw[hdr,Hz hA hin,Hz hE hjn,Em hl]
      obtain⟨hx,hk1,hdr1⟩:=Wj hst
      obtain⟨m,hm⟩:∃ m,na-i=m+1:=⟨na-i-1,by omega⟩
      rw[hm] at m1
      have nx1:=Jo (g:=ga) (off:=oa) hin hm hcap
      have hm1:=Lib.hid hm;clear hm
      have y1:wr.cell? ⟨ga,oa+3*i,none⟩=some (.int .i64 (A.getD i Zi).1):=(hKp.cell (hkA i hin).2).trans (hkA i hin).1
      obtain⟨p,hp⟩:∃ m,nb-j=m+1:=⟨nb-j-1,by omega⟩
      rw[hp] at m2
      have nx2:=Jo (g:=gb) (off:=ob) hjn hp hcb
      have hm2:=Lib.hid hp;clear hp
      have y2:wr.cell? ⟨gb,ob+3*j,none⟩=some (.int .i64 (E.getD j Zi).1):=(hKp.cell (hkE j hjn).2).trans (hkE j hjn).1
      have zl1:=Yg m1
      have zl2:=Yg m2
      obtain⟨ya,hya⟩:∃ y,(A.getD i Zi).1=y:=⟨_,rfl⟩
      obtain⟨yb,hyb⟩:∃ y,(E.getD j Zi).1=y:=⟨_,rfl⟩
      rw[hya] at y1
      rw[hyb] at y2
      have d1:decide (ya≤yb)=true:=by simp;omega
      have d2:decide (yb≤ya)=false:=by simp;omega
      have w1:(ya≤yb)=True:=by simp;omega
      have w2:(yb≤ya)=False:=by simp;omega
      have e1:((p:Int)+1==0)=false:=beq_false_of_ne (by omega)
      have e2:((m:Int)+1==0)=false:=beq_false_of_ne (by omega)
      have hya:=Lib.hid hya
      have hyb:=Lib.hid hyb
      clear d1 d2
      have z1:=m1.cell (i:=0) rfl
      have z2:=m2.cell (i:=0) rfl
      have f1:=m1.frozen 0
      have f2:=m2.frozen 0
      gi_wp2
      gi_big_quiet_th (fail)
      gi_wp2
      gi_big_quiet_th (fail)
      gi_wp2
      all_goals
       generalize hV:World.setCell _ _ _=V
       obtain⟨q1,hKV,hJV,hoV⟩:=Wk (x:=_) (B1:=B1) (B2:=B2) hV m1 hT1 (.inl rfl) hJ (Gi hJ hKp hJk).1 (Gi hJ hKp hJk).2
       have q2:=hoV _ _ _ (Ne.symm hB) m2
       obtain⟨fn,tmps,assign,body,hy,hR⟩:=hY k (some i,none) V hx hJV
       have hy2:=hy;clear hy
       simp only[encR,Cu] at hy2
       rw[hy2]
       refine⟨fun _=>by omega,hR.mono ?_⟩
       rintro e U (⟨rfl,hJU,hkU⟩|⟨rfl,hJxU⟩)
       ·have r1:=Vn hkU (.inl rfl) q1
        have r2:=Vn hkU (.inr (.inl rfl)) q2
        have lr1:=Yg r1
        have lr2:=Yg r2
        gi_wp2
        go_roundw
        case rel =>
         exact⟨k+1,i+1,_,_,_,hin,hj,hk1,hdr1,r1,r2,(by first|exact nx1.2|exact nx1.1 (by omega)),(by first|exact hvb0|(rw[←hm2.out];exact hvb0)),hJU,hKV.trans ⟨hkU.size,fun b hb=>hkU.block b (.inr (.inr hb))⟩⟩
        case measure=>rw[lr1,lr2,zl1,zl2];omega
       ·gi_wp2
        refine bodyPost_ret (results_none rfl _ _ _) rfl ?_
        exact⟨⟨_,rfl⟩,.inr ⟨k,hk1,hJxU⟩⟩
     ·have hst:(Xp 0 0 A E).drop k=(none,some j)::Xp i (j+1) (A.drop i) (E.drop (j+1)):=by rw[hdr,Hz hA hin,Hz hE hjn,Eb (show(E.getD j Zi).1<(A.getD i Zi).1 by omega)]
      obtain⟨hx,hk1,hdr1⟩:=Wj hst
      obtain⟨m,hm⟩:∃ m,na-i=m+1:=⟨na-i-1,by omega⟩
      rw[hm] at m1
      have nx1:=Jo (g:=ga) (off:=oa) hin hm hcap
      have hm1:=Lib.hid hm;clear hm
      have y1:wr.cell? ⟨ga,oa+3*i,none⟩=some (.int .i64 (A.getD i Zi).1):=(hKp.cell (hkA i hin).2).trans (hkA i hin).1
      obtain⟨p,hp⟩:∃ m,nb-j=m+1:=⟨nb-j-1,by omega⟩
      rw[hp] at m2
      have nx2:=Jo (g:=gb) (off:=ob) hjn hp hcb
      have hm2:=Lib.hid hp;clear hp
      have y2:wr.cell? ⟨gb,ob+3*j,none⟩=some (.int .i64 (E.getD j Zi).1):=(hKp.cell (hkE j hjn).2).trans (hkE j hjn).1
      have zl1:=Yg m1
      have zl2:=Yg m2
      obtain⟨ya,hya⟩:∃ y,(A.getD i Zi).1=y:=⟨_,rfl⟩
      obtain⟨yb,hyb⟩:∃ y,(E.getD j Zi).1=y:=⟨_,rfl⟩
      rw[hya] at y1
      rw[hyb] at y2
      have d1:decide (ya≤yb)=false:=by simp;omega
      have d2:decide (yb≤ya)=true:=by simp;omega
      have w1:(ya≤yb)=False:=by simp;omega
      have w2:(yb≤ya)=True:=by simp;omega
      have e1:((p:Int)+1==0)=false:=beq_false_of_ne (by omega)
      have e2:((m:Int)+1==0)=false:=beq_false_of_ne (by omega)
      have hya:=Lib.hid hya
      have hyb:=Lib.hid hyb
      clear d1 d2
      have z1:=m1.cell (i:=0) rfl
      have z2:=m2.cell (i:=0) rfl
      have f1:=m1.frozen 0
      have f2:=m2.frozen 0
      gi_wp2
      gi_big_quiet_th (fail)
      gi_wp2
      gi_big_quiet_th (fail)
      gi_wp2
      all_goals
       generalize hV:World.setCell _ _ _=V
       obtain⟨q2,hKV,hJV,hoV⟩:=Wk (x:=_) (B1:=B1) (B2:=B2) hV m2 hT2 (.inr rfl) hJ (Gi hJ hKp hJk).1 (Gi hJ hKp hJk).2
       have q1:=hoV _ _ _ hB m1
       obtain⟨fn,tmps,assign,body,hy,hR⟩:=hY k (none,some j) V hx hJV
       have hy2:=hy;clear hy
       simp only[encR,Cu] at hy2
       rw[hy2]
       refine⟨fun _=>by omega,hR.mono ?_⟩
       rintro e U (⟨rfl,hJU,hkU⟩|⟨rfl,hJxU⟩)
       ·have r1:=Vn hkU (.inl rfl) q1
        have r2:=Vn hkU (.inr (.inl rfl)) q2
        have lr1:=Yg r1
        have lr2:=Yg r2
        gi_wp2
        go_roundw
        case rel =>
         exact⟨k+1,_,j+1,_,_,hi,hjn,hk1,hdr1,r1,r2,(by first|exact hva0|(rw[←hm1.out];exact hva0)),(by first|exact nx2.2|exact nx2.1 (by omega)),hJU,hKV.trans ⟨hkU.size,fun b hb=>hkU.block b (.inr (.inr hb))⟩⟩
        case measure=>rw[lr1,lr2,zl1,zl2];omega
       ·gi_wp2
        refine bodyPost_ret (results_none rfl _ _ _) rfl ?_
        exact⟨⟨_,rfl⟩,.inr ⟨k,hk1,hJxU⟩⟩
theorem Zf5(a:Option Addr)(n c:Nat)(b:Option Addr)(m d:Nat)(w:World):Calls Tryz.prog 32 #[.slice a n c,.slice b m d] w fun e w' =>
 e=.returned (.func (.func 71) #[] #[.pointer (some ⟨w.heap.size,0,none⟩),.pointer (some ⟨w.heap.size+1,0,none⟩)]) ∧
 w'=(w.alloc (.cells #[.slice a n c] 75)).alloc (.cells #[.slice b m d] 75):=by
 go_enter Tryz.func32,Tryz.ntmps32
 go_wp2
 go_ret
 exact⟨rfl,rfl⟩
theorem rest_of{w W:World}{p:Option Addr}{n c:Nat}{A:List Ent}(hA:A.length=n)(s:Sts Ky w (.slice p n c) A)(hb:Below w.heap.size w W) :
 ∃ g o,Zav g o n c 0 (.slice p n c)∧(∀ i,i<n→W.cell? ⟨g,o+3*i,none⟩=some (.int .i64 (A.getD i Zi).1)∧g<w.heap.size)∧(n≠0→p=some ⟨g,o,none⟩):=by
 subst hA
 by_cases h0:A.length=0
 ·exact⟨0,0,.inl ⟨h0.symm,p,c,by rw[h0]⟩,fun i hi=>by omega,fun h=>absurd h0 h⟩
 ·have s':Sl w (.slice p A.length c) A.length (A.flatMap Ky):=s
  rcases s' with ⟨a,d,h1,h2,_⟩|⟨g,o,cap,h1,h2,_,h4⟩
  ·simp only[Value.slice.injEq] at h1;omega
  ·simp only[Value.slice.injEq] at h1
   obtain⟨rfl,_,rfl⟩:=h1
   refine⟨g,o,.inr ⟨by omega,h2,by simp⟩,fun i hi=>?_,fun _=>rfl⟩
   have hc:=Tv Xm A i 0 Zi hi (by decide)
   have h5:=h4 (i*3+0) (.int .i64 (A.getD i Zi).1) (hc.trans rfl)
   rw[show o+(i*3+0)=o+3*i by omega] at h5
   refine⟨Pr hb h5,?_⟩
   rcases Nat.lt_or_ge g w.heap.size with q|q
   ·exact q
   ·rw[World.cell?,Array.getElem?_eq_none q] at h5;simp at h5
theorem Fc(a:Option Addr)(n c:Nat)(b:Option Addr)(m d:Nat)(w:World):Calls Tryz.prog 32 #[.slice a n c,.slice b m d] w (fun e w'=>∃ b1 b2,e=.returned (.func (.func 71) #[] #[.pointer (some ⟨b1,0,none⟩),.pointer (some ⟨b2,0,none⟩)])∧Below w.heap.size w w'∧w.heap.size≤b1∧w.heap.size≤b2∧b1≠b2∧Blk w' b1 [.slice a n c] 75∧Blk w' b2 [.slice b m d] 75) :=
 (Zf5 a n c b m d w).mono fun e w' ⟨h1,h2⟩=>by
  subst h1 h2
  have h3:(w.alloc (.cells #[.slice a n c] 75)).heap.size=w.heap.size+1:=World.size_alloc _ _
  have k2:=Blk.new (w.alloc (.cells #[.slice a n c] 75)) [.slice b m d] 75
  rw[h3] at k2
  exact⟨_,_,rfl,((Below.refl _ w).alloc (Nat.le_refl _) _).alloc (by simp) _,Nat.le_refl _,Nat.le_succ _,by omega,(Blk.new w [.slice a n c] 75).alloc _,k2⟩
theorem It{w W:World}{B1 B2 na ca nb cb:Nat}{pa pb:Option Addr}{A E:List Ent}(hA:A.length=na)(hE:E.length=nb)(hna:na≤1000000)(hnb:nb≤1000000)(sA:Sts Ky w (.slice pa na ca) A)(sE:Sts Ky w (.slice pb nb cb) E)
 (hb:Below w.heap.size w W) (g1:w.heap.size≤B1) (g2:w.heap.size≤B2) (hB:B1≠B2) (k1:Blk W B1 [.slice pa na ca] 75) (k2:Blk W B2 [.slice pb nb cb] 75) :
 ∃ ga oa gb ob,SeqL Tryz.prog 71 #[.pointer (some ⟨B1,0,none⟩),.pointer (some ⟨B2,0,none⟩)] (encR ga oa gb ob) (Keeps fun b=>b=B1∨b=B2∨(na≠0∧b=ga)∨(nb≠0∧b=gb)) (fun r=>r=B1∨r=B2) (Xp 0 0 A E) W∧(na≠0→pa=some ⟨ga,oa,none⟩)∧(nb≠0→pb=some ⟨gb,ob,none⟩):=by
 obtain⟨ga,oa,ra,ka,ea⟩:=rest_of hA sA hb
 obtain⟨gb,ob,rb,kb,eb⟩:=rest_of hE sE hb
 refine⟨ga,oa,gb,ob,?_,ea,eb⟩
 intro l J Jx V hV hJ hY h0
 have ha:na≠0→ga<w.heap.size:=fun h=>(ka 0 (by omega)).2
 have he:nb≠0→gb<w.heap.size:=fun h=>(kb 0 (by omega)).2
 have hT:¬ ((na≠0∧B1=ga)∨(nb≠0∧B1=gb)):=by
  rintro(⟨h,e⟩|⟨h,e⟩)
  ·have:=ha h;omega
  ·have:=he h;omega
 have hT':¬ ((na≠0∧B2=ga)∨(nb≠0∧B2=gb)):=by
  rintro(⟨h,e⟩|⟨h,e⟩)
  ·have:=ha h;omega
  ·have:=he h;omega
 have hk1:Blk V B1 _ _:=k1.below hV
 have hk2:Blk V B2 _ _:=k2.below hV
 exact pairs1_in l B1 B2 ga oa na ca gb ob nb cb A E hA hE hna hnb hB (fun b=>(na≠0∧b=ga)∨(nb≠0∧b=gb)) hT hT' J Jx hJ hY V _ _ hk1 hk2 ra rb
  (fun i hi=>⟨Pr hV (ka i hi).1,.inl ⟨by omega,rfl⟩⟩) (fun i hi=>⟨Pr hV (kb i hi).1,.inr ⟨by omega,rfl⟩⟩) h0
end Go.Proofs.YtlmaglneeaecdaaGreatDoor
namespace Go.Proofs.YtlmaglneeaecdaaGreatDoor
set_option maxHeartbeats 8000000
set_option maxRecDepth 100000
open Go.RowKit
set_option linter.unusedVariables false
theorem Zbh{P:Program}{l n:Nat}{ops:Array Oper}{Q:Exit→Act→World→Prop}(hQ:¬ LetsOut Q):∀ (r:List Oper) (a:Act) (w:World),(∀ o∈r,∀ c,o.op≠.defer c)→wpList P ops Q r a w→wpListIn (Fence.wide.inRound l) n P ops Q r a w
 | [],_,_,_,h=>h
 | o::r,a,w,hd,h=>by
  unfold wpList at h
  unfold wpListIn
  split at h
  ·rename_i hw
   rw[if_pos hw]
   exact Oper.wpIn_mono (fun a w=>Zbh hQ r a w (fun o ho=>hd o (by simp[ho]))) (Zhn (hd o (by simp)) (h.resolve_right fun q=>hQ q.2))
  ·rename_i hw
   rw[if_neg hw]
   exact⟨fun _ _=>trivial,Zbh hQ r _ _ (fun o ho=>hd o (by simp[ho])) h⟩
theorem Vv{P:Program}{l0 n0 id:Nat}{l:List Oper}{Q:Exit→Act→World→Prop}{a:Act}{w:World}(hQ:¬ LetsOut Q)(hd:∀ o∈l,∀ c,o.op≠.defer c)(h:wpList P l.toArray Q l a w):(Code.region id l.toArray false).wpIn (Fence.wide.inRound l0) n0 P Q a w :=
 wpIn_region_lit (Zbh hQ l a w hd h)
structure RdS(w0:World)(S:List Nat)(W V:World):Prop where
 ko:KeepsOthers W V
 fr:∀ k,k<w0.heap.size→k∉S→V.heap[k]? = W.heap[k]?
 le:W.heap.size≤V.heap.size
 l0:w0.heap.size≤W.heap.size
theorem RdS.refl{w0 W:World}(S:List Nat)(h:w0.heap.size≤W.heap.size):RdS w0 S W W:=⟨⟨Nat.le_refl _,fun _ _ h _=>h⟩,fun _ _ _=>rfl,Nat.le_refl _,h⟩
theorem RdS.below{w0 W V U:World}{S:List Nat}(h:RdS w0 S W V)(hb:Below V.heap.size V U):RdS w0 S W U :=
 ⟨h.ko.trans (Lu hb),fun k hk hn=>(hb.block k (Nat.lt_of_lt_of_le hk (Nat.le_trans h.l0 h.le))).trans (h.fr k hk hn),Nat.le_trans h.le hb.size,h.l0⟩
theorem RdS.upd{w0 W V U:World}{S:List Nat}{b:Nat}{cs:List Value}{t:TypeId}(h:RdS w0 S W V)(u:Upd V b U)(k:Blk V b cs t)(hb:b∈S∨w0.heap.size≤b):RdS w0 S W U :=
 ⟨h.ko.trans (Zeu u k),fun i hi hn=>(u.block i (fun e=>by subst e;rcases hb with hb|hb;exact hn hb;omega)).trans (h.fr i hi hn),Nat.le_trans h.le (Nat.le_of_eq u.size.symm),h.l0⟩
theorem RdS.frm{w0 W V U:World}{S:List Nat}{b:Nat}{cs:List Value}{t:TypeId}(h:RdS w0 S W V)(u:Fr [b] V U)(k:Blk V b cs t)(hb:b∈S):RdS w0 S W U :=
 ⟨h.ko.trans ⟨u.size,fun i o hi ho=>(u.block i (Array.getElem?_eq_some_iff.1 hi).1 (by
  simp only[List.mem_singleton]
  rintro rfl
  rw[show V.heap[i]? = _ from k] at hi
  cases hi;cases ho)).trans hi⟩,fun i hi hn=>(u.block i (Nat.lt_of_lt_of_le hi (Nat.le_trans h.l0 h.le)) (by simp only[List.mem_singleton];rintro rfl;exact hn hb)).trans (h.fr i hi hn),Nat.le_trans h.le u.size,h.l0⟩
theorem RdS.grown{w0 W V U:World}{S:List Nat}{size n:Nat}{e:TypeId}{v:Value}{xs:List Value}(h:RdS w0 S W V)(hg:V.grownBy U v.ownBlock)(k:V.ownsRow w0.heap.size e size v n xs):RdS w0 S W U :=
 ⟨h.ko.trans ⟨hg.size,fun i o hi ho=>by
   rw[hg.block i (Array.getElem?_eq_some_iff.1 hi).1 (fun q=>by
    rcases k.2 with ⟨rfl,_⟩|⟨g,cap,cur,rfl,_,hh,_⟩
    ·cases q
    ·simp only[Value.ownBlock,Option.some.injEq] at q
     subst q
     rw[hh] at hi
     cases hi
     cases ho)]
   exact hi⟩,
  fun i hi hn=>(hg.block i (Nat.lt_of_lt_of_le hi (Nat.le_trans h.l0 h.le)) (fun e=>by have:=(k.lt i e.symm).1;omega)).trans (h.fr i hi hn),Nat.le_trans h.le hg.size,h.l0⟩
def Turns(q:Nat→Prop)(n:Nat)(A:World)(row:Option Nat):Prop:=∀ r,row=some r→q r∨n≤r∧∃ o:Obj,A.heap[r]? = some o∧o.isCells=false
theorem fr_ab{S:List Nat}{q:Nat→Prop}{w0 A B:World}{row:Option Nat}(h:Fr S w0 A)(hg:A.grownBy B row)(hr:Turns q w0.heap.size A row)(hq:∀ r,q r→r∈S):Fr S w0 B :=
 ⟨Nat.le_trans h.size hg.size,fun k hk hn=>(hg.block k (Nat.lt_of_lt_of_le hk h.size) (fun e=>by
  rcases hr k e.symm with h1|h1
  ·exact hn (hq _ h1)
  ·omega)).trans (h.block k hk hn)⟩
theorem Zdn{n m:Nat}{q:Nat→Prop}{w A B:World}{row:Option Nat}(h:Below n w A)(hg:A.grownBy B row)(hr:Turns q m A row)(hn:n≤w.heap.size)(hm:n≤m)(hq:∀ r,q r→n≤r):Below n w B :=
 h.grown hg (Nat.le_trans hn h.size) (fun r e=>by rcases hr r e with h1|h1;exact hq _ h1;omega)
theorem own_ab{q:Nat→Prop}{A B:World}{row:Option Nat}{base size n m:Nat}{e:TypeId}{v:Value}{xs:List Value}(k:A.ownsRow base e size v n xs)(hg:A.grownBy B row)(hr:Turns q m A row)(hq:∀ r,q r→r<base):B.ownsRow base e size v n xs:=by
 obtain⟨h1,h2⟩:=k
 refine⟨h1,?_⟩
 rcases h2 with h2|⟨g,cap,cur,hv,hb,hh,r⟩
 ·exact Or.inl h2
 ·refine Or.inr ⟨g,cap,cur,hv,hb,?_,r⟩
  rw[hg.block g (Array.getElem?_eq_some_iff.1 hh).1 (fun q=>by
   rcases hr g q.symm with h3|⟨_,o,ho,hc⟩
   ·have:=hq _ h3;omega
   ·rw[hh] at ho
    cases ho
    cases hc)]
  exact hh
theorem blk_ab{q:Nat→Prop}{A B:World}{row:Option Nat}{b m:Nat}{cs:List Value}{t:TypeId}(k:Blk A b cs t)(hg:A.grownBy B row)(hr:Turns q m A row)(hq:∀ r,q r→b≠r):Blk B b cs t :=
 k.kept hg (fun e'=>by
  rcases hr b e'.symm with h3|⟨_,o,ho,hc⟩
  ·exact hq _ h3 rfl
  ·rw[show A.heap[b]? = _ from k] at ho;cases ho;cases hc)
theorem Zba{F:Fence}{n:Nat}{P:Program}{c:Code}{Q:Exit→Act→World→Prop}{a:Act}{w:World}(a':Act)(h:a=a')(k:c.wpIn F n P Q a' w):c.wpIn F n P Q a w:=h▸k
theorem Zhb{S S2:List Nat}{w0 W V:World}(h:Fr S w0 W)(z:RdS w0 S2 W V)(hs:∀ k,k∈S2→k∈S∨V.heap[k]? = w0.heap[k]?):Fr S w0 V :=
 ⟨Nat.le_trans h.size z.le,fun k hk hn=>by
  by_cases h2:k∈S2
  ·exact(hs k h2).resolve_left hn
  ·exact(z.fr k hk h2).trans (h.block k hk hn)⟩
theorem Dfr.put{D D2:Nat}{w:World}(h:Dfr D w)(hne:D≠D2)(o:Obj):Dfr D (w.putObj D2 o):=(World.putObj_heap_other hne).trans h
theorem Vu.pt{D:Nat}{w:World}{l:List (Option Int)}{c:Option Int}{v:Value}(h:Vu w l c v)(hK:Dfr D w)(o:Obj):Vu (w.putObj D o) l c v:=h.kept fun _ _ k=>k.put hK rfl o
theorem own_pt{D:Nat}{w:World}{base size n:Nat}{e:TypeId}{v:Value}{xs:List Value}(k:w.ownsRow base e size v n xs)(hK:Dfr D w)(o:Obj):(w.putObj D o).ownsRow base e size v n xs:=(Upd.of_put w D o).own3 k (hK.row k)
theorem Ny{n D:Nat}{w W:World}(h:Below n w W)(hn:n≤W.heap.size)(hD:n≤D)(o:Obj):Below n w (W.putObj D o):=h.grown (grownBy_putObj' W D o) hn (fun r e=>by cases e;exact hD)
theorem ret0{P:Program}{fn:Func}{R:Ending→World→Prop}{a:Act}{w:World}{v:Value}{b10 b11:Nat}{x y:Value}{t t':TypeId}(k10:Blk w b10 [x] t)(k11:Blk w b11 [y] t')(hr:∀ U,Blk U b10 [x] t→Blk U b11 [y] t'→(results fn a.tmps).run P U=.ok v U)(hd:a.defers=[])(h:R (.returned v) w):bodyPostM Fence.wide 4 P fn R .ret a w:=by
 show LeavesInM _ _ _ _ a.tmps R a.defers .returning w
 rw[hd]
 exact⟨v,hr w k10 k11,h⟩
theorem ret1{P:Program}{fn:Func}{R:Ending→World→Prop}{a:Act}{w:World}{v:Value}{b10 b11 D:Nat}{x y:Value}{t t':TypeId}(k10:Blk w b10 [x] t)(k11:Blk w b11 [y] t')(hK:Dfr D w)(hr:∀ U,Blk U b10 [x] t→Blk U b11 [y] t'→(results fn a.tmps).run P U=.ok v U)(hd:a.defers=[{ target:=.collected D,args:=#[] }])(h:R (.returned v) (w.putObj D (.deferred none))):bodyPostM Fence.wide 4 P fn R .ret a w:=by
 show LeavesInM _ _ _ _ a.tmps R a.defers .returning w
 rw[hd]
 exact⟨by simp,.inl ⟨_,_,rfl,run_takeDeferred hK,v,hr _ (k10.put hK rfl _) (k11.put hK rfl _),h⟩⟩
theorem ret2{P:Program}{fn:Func}{R:Ending→World→Prop}{a:Act}{w:World}{v:Value}{b10 b11 D E:Nat}{x y:Value}{t t':TypeId}(k10:Blk w b10 [x] t)(k11:Blk w b11 [y] t')(hK:Dfr D w)(hE:Dfr E w)(hne:D≠E)(hr:∀ U,Blk U b10 [x] t→Blk U b11 [y] t'→(results fn a.tmps).run P U=.ok v U)(hd:a.defers=[{ target:=.collected E,args:=#[] },{ target:=.collected D,args:=#[] }])(h:R (.returned v) ((w.putObj E (.deferred none)).putObj D (.deferred none))):bodyPostM Fence.wide 4 P fn R .ret a w:=by
 have hD:=hK.put hne (.deferred none)
 show LeavesInM _ _ _ _ a.tmps R a.defers .returning w
 rw[hd]
 exact⟨by simp,.inl ⟨_,_,rfl,run_takeDeferred hE,by simp,.inl ⟨_,_,rfl,run_takeDeferred hD,v,hr _ ((k10.put hE rfl _).put hD rfl _) ((k11.put hE rfl _).put hD rfl _),h⟩⟩⟩
end Go.Proofs.YtlmaglneeaecdaaGreatDoor
namespace Go.Proofs.YtlmaglneeaecdaaGreatDoor
set_option maxHeartbeats 8000000
set_option maxRecDepth 100000
open Go.RowKit Go.Extern.Stop Go.Stop Go.Extern
set_option linter.unusedVariables false
attribute [local irreducible] wpList wpAnyH Code.wp Oper.wp Go
def LDevsP(O:List Int×Int×List Dv)(w:World)(e:Ending)(w':World):Prop :=
 (O.2.1≠0∧∃ ty v,e=.returned (.tuple #[.slice none 0 0,.iface ty v])∧Below w.heap.size w w'∧Vu w' (O.1.map some) (some O.2.1) (.iface ty v)) ∨
 (O.2.1=0∧∃ p c Z,e=.returned (.tuple #[.slice p O.2.2.length c,.nilIface])∧Below w.heap.size w w'∧Z.map Prod.fst=O.2.2∧Xs w.heap.size w' Z∧w'.ownsRow w.heap.size 82 5 (.slice p O.2.2.length c) O.2.2.length (Z.flatMap Ll))
theorem Wf{O:List Int×Int×List Dv}{bl:List Int}{er:Int}{w W:World}{ty:TypeId}{v:Value}(h:O=(bl,er,[]))(her:er≠0)(hb:Below w.heap.size w W)(hv:Vu W (bl.map some) (some er) (.iface ty v)):LDevsP O w (.returned (.tuple #[.slice none 0 0,.iface ty v])) W:=by
 subst h;exact .inl ⟨her,ty,v,rfl,hb,hv⟩
theorem ldevs_ok{O:List Int×Int×List Dv}{L:List Dv}{Z:List Zv}{n c:Nat}{w W:World}{p:Option Addr}(h:O=([],0,L))(hn:Z.length=n)(hZ:Z.map Prod.fst=L)(hb:Below w.heap.size w W)(hM:Xs w.heap.size W Z)(ho:W.ownsRow w.heap.size 82 5 (.slice p n c) n (Z.flatMap Ll)):LDevsP O w (.returned (.tuple #[.slice p n c,.nilIface])) W:=by
 subst h
 have hl:L.length=n:=by rw[←hZ,List.length_map,hn]
 subst hl
 exact .inr ⟨rfl,p,c,Z,rfl,hb,hZ,hM,ho⟩
theorem Xs.mono{B B':Nat}{w:World}{Z:List Zv}(h:Xs B' w Z)(hB:B≤B'):Xs B w Z:=fun i hi=>Zf (h i hi) hB
theorem Xs.ab{q:Nat→Prop}{A C:World}{row:Option Nat}{B m:Nat}{Z:List Zv}(h:Xs B A Z)(hg:A.grownBy C row)(hr:Turns q m A row)(hq:∀ r,q r→r<B):Xs B C Z:=fun i hi=>own_ab (h i hi) hg hr hq
theorem Xs.pt{D B:Nat}{w:World}{Z:List Zv}(h:Xs B w Z)(hK:Dfr D w)(o:Obj):Xs B (w.putObj D o) Z:=fun i hi=>own_pt (h i hi) hK o
theorem Zf0{B1 B2:Nat}{a:Option Addr}{n c:Nat}{y:Value}{t t':TypeId}(hy:y=.nilIface∨∃ ty v,y=.iface ty v){tmps:Array Value}(e:tmps.getD 10 undef=.pointer (some ⟨B1,0,none⟩))(e2:tmps.getD 11 undef=.pointer (some ⟨B2,0,none⟩)) :
 ∀ U,Blk U B1 [.slice a n c] t→Blk U B2 [y] t'→(results Tryz.f8 tmps).run Tryz.prog U=.ok (.tuple #[.slice a n c,y]) U:=by
 intro U h h2
 have c0:=h.cell (i:=0) rfl
 have c1:=h2.cell (i:=0) rfl
 have e':tmps[10]?.getD undef=.pointer (some ⟨B1,0,none⟩):=by simpa using e
 have e2':tmps[11]?.getD undef=.pointer (some ⟨B2,0,none⟩):=by simpa using e2
 rcases hy with rfl|⟨ty,v,rfl⟩<;>simp[results,Tryz.results8,go_sem,c0,c1,e',e2']
def BadAt(O:List Int×Int×List Dv)(w:World)(b10 b11:Nat)(V:World):Prop :=
 ∃ ty v bl er,O=(bl,er,[])∧er≠0∧Blk V b10 [.slice none 0 0] 24∧Blk V b11 [.iface ty v] 26∧Vu V (bl.map some) (some er) (.iface ty v)∧Below w.heap.size w V
theorem BadAt.ab{q:Nat→Prop}{O:List Int×Int×List Dv}{w A B:World}{row:Option Nat}{b10 b11 m:Nat}(h:BadAt O w b10 b11 A)(hg:A.grownBy B row)(hr:∀ r,row=some r→m≤r∧∃ o:Obj,A.heap[r]? = some o∧o.isCells=false)(hm:w.heap.size≤m):BadAt O w b10 b11 B:=by
 obtain⟨ty,v,bl,er,h1,h2,k1,k2,hv,hb⟩:=h
 have ht:∀ r,row=some r→∃ o:Obj,A.heap[r]? = some o∧o.isCells=false:=fun r e=>(hr r e).2
 exact⟨ty,v,bl,er,h1,h2,k1.turn hg ht,k2.turn hg ht,hv.turn hg ht,hb.grown hg hb.size (fun r e=>Nat.le_trans hm (hr r e).1)⟩
theorem Sn{A E:List Ent}(h:(Xp 0 0 A E).all Zan=true):(Xp 0 0 A E).length=A.length∧∀ k x,(Xp 0 0 A E)[k]? = some x→k<A.length∧x=(some k,some k):=by
 obtain⟨_,h2⟩:=Db A E 0 0 h
 rw[h2]
 refine⟨by simp,fun k x hx=>?_⟩
 rw[List.getElem?_map] at hx
 by_cases hk:k<A.length
 ·rw[List.getElem?_range hk] at hx
  simp only[Option.map_some,Option.some.injEq,Nat.zero_add] at hx
  exact⟨hk,hx.symm⟩
 ·rw[List.getElem?_eq_none (by simp;omega)] at hx;cases hx
theorem Af{α:Type}{L:List α}{p:α→Bool}{k:Nat}{x:α}(h:(L.take k).all p=true)(hx:L[k]? = some x)(hp:p x=true):(L.take (k+1)).all p=true:=by
 obtain⟨hk,rfl⟩:=List.getElem?_eq_some_iff.1 hx
 rw[List.take_succ_eq_append_getElem hk,List.all_append,h];simpa using hp
theorem dev_sum{l:List UInt8}{x y:Ent}{data fuel:Int}{sum:Nat}(h:(Cs l x y data fuel sum).2=0):sum+(Ys l y data fuel).2.2.length≤16384:=by
 unfold Cs at h
 repeat' split at h
 all_goals first|omega|(simp at h;done)|(exact absurd h (by assumption))
theorem Zc6{ga oa i:Nat}{p:Option Addr}(h:p=some ⟨ga,oa,none⟩):Cu ga oa (some i)=.pointer (some (Xi p (i*3))):=by
 subst h
 show Value.pointer (some ⟨ga,oa+3*i,none⟩)=_
 simp[Xi,Addr.add_mid,Nat.mul_comm]
theorem Lq(Bi b:Nat)(pi:Option Addr)(ni ci:Nat)(l:List UInt8)(top details data fuel:Int)(w:World)(hI:ImgR Bi b pi ni ci l w)(hfu:fuel≤1000) :
 Calls Tryz.prog 8 #[.pointer (some ⟨b,0,none⟩),.int .i64 top,.int .i64 details,.int .i64 data,.int .i64 fuel] w (LDevsP (Qv l top details data fuel) w):=by
 have hfew:=(Ko l details 3 fuel hfu).1
 have hfew1:=(Ko l top 1 fuel hfu).1
 refine Gf Tryz.func8 rfl ?_
 refine g_fr ⟨#[.pointer (some ⟨b,0,none⟩),.int .i64 top,.int .i64 details,.int .i64 data,.int .i64 fuel,undef,undef,undef,undef,undef,undef,undef,undef,undef,undef,undef,undef,undef,undef,undef,undef,undef,undef,undef,undef,undef,undef,undef,undef,undef,undef,undef,undef,undef,undef,undef,undef,undef,undef,undef,undef,undef,undef,undef,undef,undef,undef,undef,undef,undef,undef,undef,undef,undef,undef,undef,undef,undef,undef,undef,undef,undef,undef,undef,undef,undef,undef,undef,undef,undef,undef,undef,undef,undef,undef,undef,undef,undef,undef,undef,undef,undef,undef,undef,undef,undef,undef,undef,undef,undef,undef,undef,undef,undef,undef,undef,undef],[]⟩ (by kernel_rfl) ?_
 refine wp_seq ?_
 refine wp_region_lit ?_
 refine Vl (by kernel_rfl) (Zal [.int .i64 top] rfl (by kernel_rfl) ?_)
 intro b1 W1 n1
 have g1:=n1.ge (Below.refl w.heap.size _)
 have hB:=n1.below
 have k1:=n1.blk
 refine Vl (by kernel_rfl) (Zal [.int .i64 details] rfl (by kernel_rfl) ?_)
 intro b2 W2 n2
 have d2_b1:=n2.ne k1
 have g2:=n2.ge hB
 replace hB:=bln hB n2.below
 replace k1:=k1.below n2.below
 have k2:=n2.blk
 refine Vl (by kernel_rfl) (Kb [.slice none 0 0] rfl (by kernel_rfl) ?_)
 intro b3 W3 n3
 have d3_b1:=n3.ne k1
 have d3_b2:=n3.ne k2
 have g3:=n3.ge hB
 replace hB:=bln hB n3.below
 replace k1:=k1.below n3.below
 replace k2:=k2.below n3.below
 have k3:=n3.blk
 refine Vl (by kernel_rfl) (Kb [.nilIface] rfl (by kernel_rfl) ?_)
 intro b4 W4 n4
 have d4_b1:=n4.ne k1
 have d4_b2:=n4.ne k2
 have d4_b3:=n4.ne k3
 have g4:=n4.ge hB
 replace hB:=bln hB n4.below
 replace k1:=k1.below n4.below
 replace k2:=k2.below n4.below
 replace k3:=k3.below n4.below
 have k4:=n4.blk
 refine wpList_nil ?_
 refine wp_seq ?_
 refine wp_region_lit ?_
 refine Gk 1 [(24,.pointer (some ⟨b,0,none⟩))] (by kernel_rfl) ?_
 refine Vl (by kernel_rfl) (Qf ⟨b2,0,none⟩ (.int .i64 details) rfl (by kernel_rfl) (by kernel_rfl) (k2.cell (i:=0) rfl) ?_)
 refine Gk 1 [(26,.int .i64 fuel)] (by kernel_rfl) ?_
 have hs5:w.heap.size≤(W4).heap.size:=hB.size
 refine Vl (by kernel_rfl) (Jr (lb:=#[]) 30 #[.pointer (some ⟨b,0,none⟩),.int .i64 details,.int .i64 3,.int .i64 fuel] rfl (by kernel_rfl) (fun _ _=>by kernel_rfl) (by kernel_rfl) ((Ud Bi b pi ni ci l details 3 fuel _ hfu (hI.below hB)).mono ?_))
 rintro e W5 hq5
 rcases hq5 with ⟨hfd,pe,ce,pb,cb,pf,cf,tyw,vw,rfl,hb5,hv9⟩|⟨hfd,pd,cd,pb5,nb5,cb5,dp5,lk5,pf5,cf5,rfl,hb5,hd⟩
 ·refine⟨_,rfl,?_⟩
  replace hB:=bln hB hb5
  replace k1:=k1.below hb5
  replace k2:=k2.below hb5
  replace k3:=k3.below hb5
  replace k4:=k4.below hb5
  refine Gk 3 [(23,.tuple #[.agg #[.slice pe 0 ce,.slice pb 0 cb,.int .i64 0,.int .i64 0,.slice pf 0 cf],.iface tyw (vw)]),(28,.agg #[.slice pe 0 ce,.slice pb 0 cb,.int .i64 0,.int .i64 0,.slice pf 0 cf]),(29,.iface tyw (vw))] (by kernel_rfl) ?_
  refine Vl (by kernel_rfl) (Kb [.slice none 0 0,.slice none 0 0,.int .i64 0,.int .i64 0,.slice none 0 0] rfl (by kernel_rfl) ?_)
  intro b6 W6 n6
  have d6_b1:=n6.ne k1
  have d6_b2:=n6.ne k2
  have d6_b3:=n6.ne k3
  have d6_b4:=n6.ne k4
  have g6:=n6.ge hB
  replace hB:=bln hB n6.below
  replace k1:=k1.below n6.below
  replace k2:=k2.below n6.below
  replace k3:=k3.below n6.below
  replace k4:=k4.below n6.below
  replace hv9:=hv9.below n6.below
  have k6:=n6.blk
  refine Vl (by kernel_rfl) (Kl (b:=b6) (off:=0) [.slice pe 0 ce,.slice pb 0 cb,.int .i64 0,.int .i64 0,.slice pf 0 cf] rfl (by kernel_rfl) (by kernel_rfl) (by kernel_rfl) (by first|decide|simp[Value.oneCell']) k6 (by first|decide|simp) ?_)
  intro W7 u7 k7
  change Blk _ _ [.slice pe 0 ce,.slice pb 0 cb,.int .i64 0,.int .i64 0,.slice pf 0 cf] _ at k7
  replace hB:=u7.below hB g6
  replace k1:=u7.blk k1 (Ne.symm (Ne.symm d6_b1))
  replace k2:=u7.blk k2 (Ne.symm (Ne.symm d6_b2))
  replace k3:=u7.blk k3 (Ne.symm (Ne.symm d6_b3))
  replace k4:=u7.blk k4 (Ne.symm (Ne.symm d6_b4))
  replace hv9:=hv9.only (Ze.of_upd (T:=[87]) u7 k6 (by decide)) (by decide)
  refine Gk 1 [(13,.iface tyw (vw))] (by kernel_rfl) ?_
  refine wpList_nil ?_
  refine wp_seq ?_
  refine wp_seq ?_
  refine wp_region_lit ?_
  refine Gk 2 [(30,.iface tyw (vw)),(31,.bool true)] (by kernel_rfl) ?_
  refine wpList_nil ?_
  refine wp_cond_true (by kernel_rfl) ?_
  refine wp_seq ?_
  refine wp_region_lit ?_
  refine Gk 1 [(32,.iface tyw (vw))] (by kernel_rfl) ?_
  refine Vl (by kernel_rfl) (Xx (v:=.slice none 0 0) (b:=b3) (off:=0) rfl (by kernel_rfl) (by kernel_rfl) (by kernel_rfl) rfl k3 (by first|decide|simp) ?_)
  intro W8 u8 k8
  change Blk _ _ [.slice none 0 0] _ at k8
  replace hB:=u8.below hB g3
  replace k1:=u8.blk k1 (Ne.symm (Ne.symm d3_b1))
  replace k2:=u8.blk k2 (Ne.symm (Ne.symm d3_b2))
  replace k4:=u8.blk k4 (Ne.symm d4_b3)
  replace k7:=u8.blk k7 (Ne.symm d6_b3)
  replace hv9:=hv9.only (Ze.of_upd (T:=[24]) u8 k3 (by decide)) (by decide)
  refine Vl (by kernel_rfl) (Xx (v:=.iface tyw (vw)) (b:=b4) (off:=0) rfl (by kernel_rfl) (by kernel_rfl) (by kernel_rfl) rfl k4 (by first|decide|simp) ?_)
  intro W9 u9 k9
  change Blk _ _ [.iface tyw (vw)] _ at k9
  replace hB:=u9.below hB g4
  replace k1:=u9.blk k1 (Ne.symm (Ne.symm d4_b1))
  replace k2:=u9.blk k2 (Ne.symm (Ne.symm d4_b2))
  replace k8:=u9.blk k8 (Ne.symm (Ne.symm d4_b3))
  replace k7:=u9.blk k7 (Ne.symm d6_b4)
  replace hv9:=hv9.only (Ze.of_upd (T:=[26]) u9 k4 (by decide)) (by decide)
  refine wpList_nil ?_
  exact wp_ret (ret0 k8 k9 (Zf0 (.inr ⟨_,_,rfl⟩) (by kernel_rfl) (by kernel_rfl)) rfl (Wf (Zg9 hfd) (Vq hfd) hB hv9))
 ·refine⟨_,rfl,?_⟩
  replace hB:=bln hB hb5
  replace k1:=k1.below hb5
  replace k2:=k2.below hb5
  replace k3:=k3.below hb5
  replace k4:=k4.below hb5
  replace hd:=Zf hd hs5
  refine Gk 3 [(23,.tuple #[.agg #[.slice pd ((Zd l details 3 fuel).es.length) cd,.slice pb5 nb5 cb5,.int .i64 dp5,.int .i64 lk5,.slice pf5 0 cf5],.nilIface]),(28,.agg #[.slice pd ((Zd l details 3 fuel).es.length) cd,.slice pb5 nb5 cb5,.int .i64 dp5,.int .i64 lk5,.slice pf5 0 cf5]),(29,.nilIface)] (by kernel_rfl) ?_
  refine Vl (by kernel_rfl) (Kb [.slice none 0 0,.slice none 0 0,.int .i64 0,.int .i64 0,.slice none 0 0] rfl (by kernel_rfl) ?_)
  intro b10 W10 n10
  have d10_b1:=n10.ne k1
  have d10_b2:=n10.ne k2
  have d10_b3:=n10.ne k3
  have d10_b4:=n10.ne k4
  have g10:=n10.ge hB
  replace hB:=bln hB n10.below
  replace k1:=k1.below n10.below
  replace k2:=k2.below n10.below
  replace k3:=k3.below n10.below
  replace k4:=k4.below n10.below
  replace hd:=Za hd n10.below
  have k10:=n10.blk
  refine Vl (by kernel_rfl) (Kl (b:=b10) (off:=0) [.slice pd ((Zd l details 3 fuel).es.length) cd,.slice pb5 nb5 cb5,.int .i64 dp5,.int .i64 lk5,.slice pf5 0 cf5] rfl (by kernel_rfl) (by kernel_rfl) (by kernel_rfl) (by first|decide|simp[Value.oneCell']) k10 (by first|decide|simp) ?_)
  intro W11 u11 k11
  change Blk _ _ [.slice pd ((Zd l details 3 fuel).es.length) cd,.slice pb5 nb5 cb5,.int .i64 dp5,.int .i64 lk5,.slice pf5 0 cf5] _ at k11
  replace hB:=u11.below hB g10
  replace k1:=u11.blk k1 (Ne.symm (Ne.symm d10_b1))
  replace k2:=u11.blk k2 (Ne.symm (Ne.symm d10_b2))
  replace k3:=u11.blk k3 (Ne.symm (Ne.symm d10_b3))
  replace k4:=u11.blk k4 (Ne.symm (Ne.symm d10_b4))
  replace hd:=u11.own2 hd k10 (by decide)
  refine Gk 1 [(13,.nilIface)] (by kernel_rfl) ?_
  refine wpList_nil ?_
  refine wp_seq ?_
  refine wp_seq ?_
  refine wp_region_lit ?_
  refine Gk 2 [(30,.nilIface),(31,.bool false)] (by kernel_rfl) ?_
  refine wpList_nil ?_
  refine wp_cond_false (by kernel_rfl) ?_
  refine wp_skip ?_
  refine wp_seq ?_
  refine wp_region_lit ?_
  refine Gk 1 [(34,.pointer (some ⟨b,0,none⟩))] (by kernel_rfl) ?_
  refine Vl (by kernel_rfl) (Qf ⟨b1,0,none⟩ (.int .i64 top) rfl (by kernel_rfl) (by kernel_rfl) (k1.cell (i:=0) rfl) ?_)
  refine Gk 1 [(36,.int .i64 fuel)] (by kernel_rfl) ?_
  have hs12:w.heap.size≤(W11).heap.size:=hB.size
  refine Vl (by kernel_rfl) (Jr (lb:=#[]) 30 #[.pointer (some ⟨b,0,none⟩),.int .i64 top,.int .i64 1,.int .i64 fuel] rfl (by kernel_rfl) (fun _ _=>by kernel_rfl) (by kernel_rfl) ((Ud Bi b pi ni ci l top 1 fuel _ hfu (hI.below hB)).mono ?_))
  rintro e W12 hq12
  rcases hq12 with ⟨hft,pe,ce,pb,cb,pf,cf,tyw,vw,rfl,hb12,hv9⟩|⟨hft,pt,ct,pb12,nb12,cb12,dp12,lk12,pf12,cf12,rfl,hb12,ht⟩
  ·refine⟨_,rfl,?_⟩
   replace hB:=bln hB hb12
   replace k1:=k1.below hb12
   replace k2:=k2.below hb12
   replace k3:=k3.below hb12
   replace k4:=k4.below hb12
   replace k11:=k11.below hb12
   replace hd:=Za hd hb12
   refine Gk 3 [(33,.tuple #[.agg #[.slice pe 0 ce,.slice pb 0 cb,.int .i64 0,.int .i64 0,.slice pf 0 cf],.iface tyw (vw)]),(38,.agg #[.slice pe 0 ce,.slice pb 0 cb,.int .i64 0,.int .i64 0,.slice pf 0 cf]),(39,.iface tyw (vw))] (by kernel_rfl) ?_
   refine Vl (by kernel_rfl) (Kb [.slice none 0 0,.slice none 0 0,.int .i64 0,.int .i64 0,.slice none 0 0] rfl (by kernel_rfl) ?_)
   intro b13 W13 n13
   have d13_b1:=n13.ne k1
   have d13_b2:=n13.ne k2
   have d13_b3:=n13.ne k3
   have d13_b4:=n13.ne k4
   have d13_b10:=n13.ne k11
   have g13:=n13.ge hB
   replace hB:=bln hB n13.below
   replace k1:=k1.below n13.below
   replace k2:=k2.below n13.below
   replace k3:=k3.below n13.below
   replace k4:=k4.below n13.below
   replace k11:=k11.below n13.below
   replace hd:=Za hd n13.below
   replace hv9:=hv9.below n13.below
   have k13:=n13.blk
   refine Vl (by kernel_rfl) (Kl (b:=b13) (off:=0) [.slice pe 0 ce,.slice pb 0 cb,.int .i64 0,.int .i64 0,.slice pf 0 cf] rfl (by kernel_rfl) (by kernel_rfl) (by kernel_rfl) (by first|decide|simp[Value.oneCell']) k13 (by first|decide|simp) ?_)
   intro W14 u14 k14
   change Blk _ _ [.slice pe 0 ce,.slice pb 0 cb,.int .i64 0,.int .i64 0,.slice pf 0 cf] _ at k14
   replace hB:=u14.below hB g13
   replace k1:=u14.blk k1 (Ne.symm (Ne.symm d13_b1))
   replace k2:=u14.blk k2 (Ne.symm (Ne.symm d13_b2))
   replace k3:=u14.blk k3 (Ne.symm (Ne.symm d13_b3))
   replace k4:=u14.blk k4 (Ne.symm (Ne.symm d13_b4))
   replace k11:=u14.blk k11 (Ne.symm (Ne.symm d13_b10))
   replace hd:=u14.own2 hd k13 (by decide)
   replace hv9:=hv9.only (Ze.of_upd (T:=[87]) u14 k13 (by decide)) (by decide)
   refine Gk 1 [(13,.iface tyw (vw))] (by kernel_rfl) ?_
   refine wpList_nil ?_
   refine wp_seq ?_
   refine wp_seq ?_
   refine wp_region_lit ?_
   refine Gk 2 [(40,.iface tyw (vw)),(41,.bool true)] (by kernel_rfl) ?_
   refine wpList_nil ?_
   refine wp_cond_true (by kernel_rfl) ?_
   refine wp_seq ?_
   refine wp_region_lit ?_
   refine Gk 1 [(42,.iface tyw (vw))] (by kernel_rfl) ?_
   refine Vl (by kernel_rfl) (Xx (v:=.slice none 0 0) (b:=b3) (off:=0) rfl (by kernel_rfl) (by kernel_rfl) (by kernel_rfl) rfl k3 (by first|decide|simp) ?_)
   intro W15 u15 k15
   change Blk _ _ [.slice none 0 0] _ at k15
   replace hB:=u15.below hB g3
   replace k1:=u15.blk k1 (Ne.symm (Ne.symm d3_b1))
   replace k2:=u15.blk k2 (Ne.symm (Ne.symm d3_b2))
   replace k4:=u15.blk k4 (Ne.symm d4_b3)
   replace k11:=u15.blk k11 (Ne.symm d10_b3)
   replace k14:=u15.blk k14 (Ne.symm d13_b3)
   replace hd:=u15.own2 hd k3 (by decide)
   replace hv9:=hv9.only (Ze.of_upd (T:=[24]) u15 k3 (by decide)) (by decide)
   refine Vl (by kernel_rfl) (Xx (v:=.iface tyw (vw)) (b:=b4) (off:=0) rfl (by kernel_rfl) (by kernel_rfl) (by kernel_rfl) rfl k4 (by first|decide|simp) ?_)
   intro W16 u16 k16
   change Blk _ _ [.iface tyw (vw)] _ at k16
   replace hB:=u16.below hB g4
   replace k1:=u16.blk k1 (Ne.symm (Ne.symm d4_b1))
   replace k2:=u16.blk k2 (Ne.symm (Ne.symm d4_b2))
   replace k15:=u16.blk k15 (Ne.symm (Ne.symm d4_b3))
   replace k11:=u16.blk k11 (Ne.symm d10_b4)
   replace k14:=u16.blk k14 (Ne.symm d13_b4)
   replace hd:=u16.own2 hd k4 (by decide)
   replace hv9:=hv9.only (Ze.of_upd (T:=[26]) u16 k4 (by decide)) (by decide)
   refine wpList_nil ?_
   exact wp_ret (ret0 k15 k16 (Zf0 (.inr ⟨_,_,rfl⟩) (by kernel_rfl) (by kernel_rfl)) rfl (Wf (devsO_t hfd hft) (Vq hft) hB hv9))
  ·refine⟨_,rfl,?_⟩
   replace hB:=bln hB hb12
   replace k1:=k1.below hb12
   replace k2:=k2.below hb12
   replace k3:=k3.below hb12
   replace k4:=k4.below hb12
   replace k11:=k11.below hb12
   replace hd:=Za hd hb12
   replace ht:=Zf ht hs12
   refine Gk 3 [(33,.tuple #[.agg #[.slice pt ((Zd l top 1 fuel).es.length) ct,.slice pb12 nb12 cb12,.int .i64 dp12,.int .i64 lk12,.slice pf12 0 cf12],.nilIface]),(38,.agg #[.slice pt ((Zd l top 1 fuel).es.length) ct,.slice pb12 nb12 cb12,.int .i64 dp12,.int .i64 lk12,.slice pf12 0 cf12]),(39,.nilIface)] (by kernel_rfl) ?_
   refine Vl (by kernel_rfl) (Kb [.slice none 0 0,.slice none 0 0,.int .i64 0,.int .i64 0,.slice none 0 0] rfl (by kernel_rfl) ?_)
   intro b17 W17 n17
   have d17_b1:=n17.ne k1
   have d17_b2:=n17.ne k2
   have d17_b3:=n17.ne k3
   have d17_b4:=n17.ne k4
   have d17_b10:=n17.ne k11
   have g17:=n17.ge hB
   replace hB:=bln hB n17.below
   replace k1:=k1.below n17.below
   replace k2:=k2.below n17.below
   replace k3:=k3.below n17.below
   replace k4:=k4.below n17.below
   replace k11:=k11.below n17.below
   replace hd:=Za hd n17.below
   replace ht:=Za ht n17.below
   have k17:=n17.blk
   refine Vl (by kernel_rfl) (Kl (b:=b17) (off:=0) [.slice pt ((Zd l top 1 fuel).es.length) ct,.slice pb12 nb12 cb12,.int .i64 dp12,.int .i64 lk12,.slice pf12 0 cf12] rfl (by kernel_rfl) (by kernel_rfl) (by kernel_rfl) (by first|decide|simp[Value.oneCell']) k17 (by first|decide|simp) ?_)
   intro W18 u18 k18
   change Blk _ _ [.slice pt ((Zd l top 1 fuel).es.length) ct,.slice pb12 nb12 cb12,.int .i64 dp12,.int .i64 lk12,.slice pf12 0 cf12] _ at k18
   replace hB:=u18.below hB g17
   replace k1:=u18.blk k1 (Ne.symm (Ne.symm d17_b1))
   replace k2:=u18.blk k2 (Ne.symm (Ne.symm d17_b2))
   replace k3:=u18.blk k3 (Ne.symm (Ne.symm d17_b3))
   replace k4:=u18.blk k4 (Ne.symm (Ne.symm d17_b4))
   replace k11:=u18.blk k11 (Ne.symm (Ne.symm d17_b10))
   replace hd:=u18.own2 hd k17 (by decide)
   replace ht:=u18.own2 ht k17 (by decide)
   refine Gk 1 [(13,.nilIface)] (by kernel_rfl) ?_
   refine wpList_nil ?_
   refine wp_seq ?_
   refine wp_seq ?_
   refine wp_region_lit ?_
   refine Gk 2 [(40,.nilIface),(41,.bool false)] (by kernel_rfl) ?_
   refine wpList_nil ?_
   refine wp_cond_false (by kernel_rfl) ?_
   refine wp_skip ?_
   refine wp_seq ?_
   refine wp_seq ?_
   refine wp_region_lit ?_
   refine Gk 1 [(43,.pointer (some ⟨b10,0,none⟩))] (by kernel_rfl) ?_
   refine Vl (by kernel_rfl) (Qf ⟨b10,0,none⟩ (.slice pd ((Zd l details 3 fuel).es.length) cd) rfl (by kernel_rfl) (by kernel_rfl) (k11.cell (i:=0) rfl) ?_)
   refine Gk 2 [(45,.int .i64 (↑((Zd l details 3 fuel).es.length):Int)),(46,.bool (decide ((↑((Zd l details 3 fuel).es.length):Int)>(4096:Int))))] (by kernel_rfl) ?_
   refine wpList_nil ?_
   refine wp_cond_split (t:=decide ((↑((Zd l details 3 fuel).es.length):Int)>(4096:Int))) (by kernel_rfl) (fun hc19=>?_) (fun hc19=>?_)
   ·have hc19:=of_decide_eq_true hc19
    refine wp_seq ?_
    refine wp_region_lit ?_
    refine Vl (by kernel_rfl) (Qf ⟨b2,0,none⟩ (.int .i64 details) rfl (by kernel_rfl) (by kernel_rfl) (k2.cell (i:=0) rfl) ?_)
    refine Vl (by kernel_rfl) (Jr (lb:=#[]) 31 #[.int .i64 details,.int .i64 2] rfl (by kernel_rfl) (fun _ _=>by kernel_rfl) (by kernel_rfl) ((Jt details 2 _ (by omega)).mono ?_))
    rintro e W20 ⟨ty20,v20,rfl,hb20,hva⟩
    refine⟨_,rfl,?_⟩
    replace hB:=bln hB hb20
    replace k1:=k1.below hb20
    replace k2:=k2.below hb20
    replace k3:=k3.below hb20
    replace k4:=k4.below hb20
    replace k11:=k11.below hb20
    replace k18:=k18.below hb20
    replace hd:=Za hd hb20
    replace ht:=Za ht hb20
    refine Vl (by kernel_rfl) (Xx (v:=.slice none 0 0) (b:=b3) (off:=0) rfl (by kernel_rfl) (by kernel_rfl) (by kernel_rfl) rfl k3 (by first|decide|simp) ?_)
    intro W21 u21 k21
    change Blk _ _ [.slice none 0 0] _ at k21
    replace hB:=u21.below hB g3
    replace k1:=u21.blk k1 (Ne.symm (Ne.symm d3_b1))
    replace k2:=u21.blk k2 (Ne.symm (Ne.symm d3_b2))
    replace k4:=u21.blk k4 (Ne.symm d4_b3)
    replace k11:=u21.blk k11 (Ne.symm d10_b3)
    replace k18:=u21.blk k18 (Ne.symm d17_b3)
    replace hd:=u21.own2 hd k3 (by decide)
    replace ht:=u21.own2 ht k3 (by decide)
    replace hva:=hva.only (Ze.of_upd (T:=[24]) u21 k3 (by decide)) (by decide)
    refine Vl (by kernel_rfl) (Xx (v:=.iface ty20 (v20)) (b:=b4) (off:=0) rfl (by kernel_rfl) (by kernel_rfl) (by kernel_rfl) rfl k4 (by first|decide|simp) ?_)
    intro W22 u22 k22
    change Blk _ _ [.iface ty20 (v20)] _ at k22
    replace hB:=u22.below hB g4
    replace k1:=u22.blk k1 (Ne.symm (Ne.symm d4_b1))
    replace k2:=u22.blk k2 (Ne.symm (Ne.symm d4_b2))
    replace k21:=u22.blk k21 (Ne.symm (Ne.symm d4_b3))
    replace k11:=u22.blk k11 (Ne.symm d10_b4)
    replace k18:=u22.blk k18 (Ne.symm d17_b4)
    replace hd:=u22.own2 hd k4 (by decide)
    replace ht:=u22.own2 ht k4 (by decide)
    replace hva:=hva.only (Ze.of_upd (T:=[26]) u22 k4 (by decide)) (by decide)
    refine wpList_nil ?_
    exact wp_ret (ret0 k21 k22 (Zf0 (.inr ⟨_,_,rfl⟩) (by kernel_rfl) (by kernel_rfl)) rfl (Wf (Rp hfd hft (by omega)) (by decide) hB hva))
   ·have hc19:=of_decide_eq_false hc19
    refine wp_skip ?_
    refine wp_seq ?_
    refine wp_seq ?_
    refine wp_region_lit ?_
    refine Gk 1 [(49,.pointer (some ⟨b10,0,none⟩))] (by kernel_rfl) ?_
    refine Vl (by kernel_rfl) (Qf ⟨b10,0,none⟩ (.slice pd ((Zd l details 3 fuel).es.length) cd) rfl (by kernel_rfl) (by kernel_rfl) (k11.cell (i:=0) rfl) ?_)
    refine Gk 1 [(51,.pointer (some ⟨b17,0,none⟩))] (by kernel_rfl) ?_
    refine Vl (by kernel_rfl) (Qf ⟨b17,0,none⟩ (.slice pt ((Zd l top 1 fuel).es.length) ct) rfl (by kernel_rfl) (by kernel_rfl) (k18.cell (i:=0) rfl) ?_)
    have hsA1:=Zg hd
    have hsE1:=Zg ht
    have hsz1:=hB.size
    have lt1_b1:=k1.lt
    have lt1_b2:=k2.lt
    have lt1_b3:=k3.lt
    have lt1_b4:=k4.lt
    have lt1_b10:=k11.lt
    have lt1_b17:=k18.lt
    refine Vl (by kernel_rfl) (Jr (lb:=#[]) 32 #[.slice pd ((Zd l details 3 fuel).es.length) cd,.slice pt ((Zd l top 1 fuel).es.length) ct] rfl (by kernel_rfl) (fun _ _=>by kernel_rfl) (by kernel_rfl) ((Fc pd (Zd l details 3 fuel).es.length cd pt (Zd l top 1 fuel).es.length ct _).mono ?_))
    rintro e W23 ⟨p1,q1,rfl,hbp1,ggp1,ggq1,gpq1,kkp1,kkq1⟩
    refine⟨_,rfl,?_⟩
    replace hB:=bln hB hbp1
    replace k1:=k1.below hbp1
    replace k2:=k2.below hbp1
    replace k3:=k3.below hbp1
    replace k4:=k4.below hbp1
    replace k11:=k11.below hbp1
    replace k18:=k18.below hbp1
    replace hd:=Za hd hbp1
    replace ht:=Za ht hbp1
    refine wpList_nil ?_
    refine wp_block ?_
    obtain⟨ga1,oa1,gb1,ob1,hst1,hga1,hgb1⟩:=It (A:=(Zd l details 3 fuel).es) (E:=(Zd l top 1 fuel).es) rfl rfl (by omega) (by omega) hsA1 hsE1 hbp1 ggp1 ggq1 gpq1 kkp1 kkq1
    have hBW1:w.heap.size≤W23.heap.size:=hB.size
    have hp1:w.heap.size≤p1:=Nat.le_trans hsz1 ggp1
    have hq1:w.heap.size≤q1:=Nat.le_trans hsz1 ggq1
    have hpl1:=kkp1.lt
    have hql1:=kkq1.lt
    have hBB1:=hB
    have m1_b1:=k1
    have m1_b2:=k2
    have m1_b3:=k3
    have m1_b4:=k4
    have m1_b10:=k11
    have m1_b17:=k18
    have m1_p1:=kkp1
    have m1_q1:=kkq1
    have md1:=hd
    have mt1:=ht
    have hlt1:∀ d,(fun d=>d=p1∨d=q1∨((Zd l details 3 fuel).es.length≠0∧d=ga1)∨((Zd l top 1 fuel).es.length≠0∧d=gb1)) d→d<W23.heap.size:=by
     rintro d (rfl|rfl|⟨h,rfl⟩|⟨h,rfl⟩)
     ·exact hpl1
     ·exact hql1
     ·exact(md1.lt _ (by rw[hga1 h];rfl)).2
     ·exact(mt1.lt _ (by rw[hgb1 h];rfl)).2
    have hks1:∀ d,(fun d=>d=p1∨d=q1∨((Zd l details 3 fuel).es.length≠0∧d=ga1)∨((Zd l top 1 fuel).es.length≠0∧d=gb1)) d→d∉[b3,b4]:=by
     rintro d (rfl|rfl|⟨h,rfl⟩|⟨h,rfl⟩)<;>simp only[List.mem_cons,List.not_mem_nil,or_false]
     ·omega
     ·omega
     ·rintro(h9|h9)
      ·exact Xn md1 m1_b3 (by decide) _ (by rw[hga1 h];rfl) h9
      ·exact Xn md1 m1_b4 (by decide) _ (by rw[hga1 h];rfl) h9
     ·rintro(h9|h9)
      ·exact Xn mt1 m1_b3 (by decide) _ (by rw[hgb1 h];rfl) h9
      ·exact Xn mt1 m1_b4 (by decide) _ (by rw[hgb1 h];rfl) h9
    refine g_fr ⟨#[.pointer (some ⟨b,0,none⟩),.int .i64 top,.int .i64 details,.int .i64 data,.int .i64 fuel,undef,.pointer (some ⟨b1,0,none⟩),.pointer (some ⟨b2,0,none⟩),undef,undef,.pointer (some ⟨b3,0,none⟩),.pointer (some ⟨b4,0,none⟩),.pointer (some ⟨b10,0,none⟩),.nilIface,.pointer (some ⟨b17,0,none⟩),undef,undef,undef,undef,undef,undef,undef,undef,.tuple #[.agg #[.slice pd ((Zd l details 3 fuel).es.length) cd,.slice pb5 nb5 cb5,.int .i64 dp5,.int .i64 lk5,.slice pf5 0 cf5],.nilIface],.pointer (some ⟨b,0,none⟩),.int .i64 details,.int .i64 fuel,.tuple #[.agg #[.slice pd ((Zd l details 3 fuel).es.length) cd,.slice pb5 nb5 cb5,.int .i64 dp5,.int .i64 lk5,.slice pf5 0 cf5],.nilIface],.agg #[.slice pd ((Zd l details 3 fuel).es.length) cd,.slice pb5 nb5 cb5,.int .i64 dp5,.int .i64 lk5,.slice pf5 0 cf5],.nilIface,.nilIface,.bool false,undef,.tuple #[.agg #[.slice pt ((Zd l top 1 fuel).es.length) ct,.slice pb12 nb12 cb12,.int .i64 dp12,.int .i64 lk12,.slice pf12 0 cf12],.nilIface],.pointer (some ⟨b,0,none⟩),.int .i64 top,.int .i64 fuel,.tuple #[.agg #[.slice pt ((Zd l top 1 fuel).es.length) ct,.slice pb12 nb12 cb12,.int .i64 dp12,.int .i64 lk12,.slice pf12 0 cf12],.nilIface],.agg #[.slice pt ((Zd l top 1 fuel).es.length) ct,.slice pb12 nb12 cb12,.int .i64 dp12,.int .i64 lk12,.slice pf12 0 cf12],.nilIface,.nilIface,.bool false,undef,.pointer (some ⟨b10,0,none⟩),.slice pd ((Zd l details 3 fuel).es.length) cd,.int .i64 (↑((Zd l details 3 fuel).es.length):Int),.bool (decide ((↑((Zd l details 3 fuel).es.length):Int)>(4096:Int))),undef,undef,.pointer (some ⟨b10,0,none⟩),.slice pd ((Zd l details 3 fuel).es.length) cd,.pointer (some ⟨b17,0,none⟩),.slice pt ((Zd l top 1 fuel).es.length) ct,.func (.func 71) #[] #[.pointer (some ⟨p1,0,none⟩),.pointer (some ⟨q1,0,none⟩)],undef,undef,undef,undef,undef,undef,undef,undef,undef,undef,undef,undef,undef,undef,undef,undef,undef,undef,undef,undef,undef,undef,undef,undef,undef,undef,undef,undef,undef,undef,undef,undef,undef,undef,undef,undef,undef,undef,undef,undef,undef,undef,undef],[]⟩ (by kernel_rfl) ?_
    refine Zah (g:=.tmp 53) (gf:=71) (lb:=#[.pointer (some ⟨p1,0,none⟩),.pointer (some ⟨q1,0,none⟩)]) rfl (enters_of Tryz.func71 (by kernel_rfl) rfl) (fun d=>d=p1∨d=q1∨((Zd l details 3 fuel).es.length≠0∧d=ga1)∨((Zd l top 1 fuel).es.length≠0∧d=gb1)) (fun d=>d=p1∨d=q1) hlt1 (fun d h=>h.elim (fun q=>q▸hpl1) (fun q=>q▸hql1)) hst1 (fun _=>rfl)
     (fun i V=>Below w.heap.size w V∧Fr [p1,q1] W23 V∧((Xp 0 0 (Zd l details 3 fuel).es (Zd l top 1 fuel).es).take i).all Zan=true)
     (fun c i V=>c=.ret∧BadAt (Qv l top details data fuel) w b3 b4 V) ?own (fun c k A B row h hg hr=>⟨h.1,h.2.ab (q:=fun _=>False) hg hr hBW1⟩) ?start
     (fun x=>{ tmps:=#[.pointer (some ⟨b,0,none⟩),.int .i64 top,.int .i64 details,.int .i64 data,.int .i64 fuel,undef,.pointer (some ⟨b1,0,none⟩),.pointer (some ⟨b2,0,none⟩),undef,undef,.pointer (some ⟨b3,0,none⟩),.pointer (some ⟨b4,0,none⟩),.pointer (some ⟨b10,0,none⟩),.nilIface,.pointer (some ⟨b17,0,none⟩),(Cu ga1 oa1 x.1),(Cu gb1 ob1 x.2),undef,undef,undef,undef,undef,undef,.tuple #[.agg #[.slice pd ((Zd l details 3 fuel).es.length) cd,.slice pb5 nb5 cb5,.int .i64 dp5,.int .i64 lk5,.slice pf5 0 cf5],.nilIface],.pointer (some ⟨b,0,none⟩),.int .i64 details,.int .i64 fuel,.tuple #[.agg #[.slice pd ((Zd l details 3 fuel).es.length) cd,.slice pb5 nb5 cb5,.int .i64 dp5,.int .i64 lk5,.slice pf5 0 cf5],.nilIface],.agg #[.slice pd ((Zd l details 3 fuel).es.length) cd,.slice pb5 nb5 cb5,.int .i64 dp5,.int .i64 lk5,.slice pf5 0 cf5],.nilIface,.nilIface,.bool false,undef,.tuple #[.agg #[.slice pt ((Zd l top 1 fuel).es.length) ct,.slice pb12 nb12 cb12,.int .i64 dp12,.int .i64 lk12,.slice pf12 0 cf12],.nilIface],.pointer (some ⟨b,0,none⟩),.int .i64 top,.int .i64 fuel,.tuple #[.agg #[.slice pt ((Zd l top 1 fuel).es.length) ct,.slice pb12 nb12 cb12,.int .i64 dp12,.int .i64 lk12,.slice pf12 0 cf12],.nilIface],.agg #[.slice pt ((Zd l top 1 fuel).es.length) ct,.slice pb12 nb12 cb12,.int .i64 dp12,.int .i64 lk12,.slice pf12 0 cf12],.nilIface,.nilIface,.bool false,undef,.pointer (some ⟨b10,0,none⟩),.slice pd ((Zd l details 3 fuel).es.length) cd,.int .i64 (↑((Zd l details 3 fuel).es.length):Int),.bool (decide ((↑((Zd l details 3 fuel).es.length):Int)>(4096:Int))),undef,undef,.pointer (some ⟨b10,0,none⟩),.slice pd ((Zd l details 3 fuel).es.length) cd,.pointer (some ⟨b17,0,none⟩),.slice pt ((Zd l top 1 fuel).es.length) ct,.func (.func 71) #[] #[.pointer (some ⟨p1,0,none⟩),.pointer (some ⟨q1,0,none⟩)],(Cu ga1 oa1 x.1),(Cu gb1 ob1 x.2),undef,undef,undef,undef,undef,undef,undef,undef,undef,undef,undef,undef,undef,undef,undef,undef,undef,undef,undef,undef,undef,undef,undef,undef,undef,undef,undef,undef,undef,undef,undef,undef,undef,undef,undef,undef,undef,undef,undef,undef,undef],defers:=[] }) ?assign ?body ?done ?stop
    case own =>
     exact fun k A B row h hg hr=>⟨Zdn h.1 hg hr (Nat.le_refl _) hBW1 (fun r q=>by rcases q with rfl|rfl;exact hp1;exact hq1),fr_ab h.2.1 hg hr (fun r h=>by rcases h with rfl|rfl<;>simp),h.2.2⟩
    case start =>
     exact⟨hBB1,Fr.refl _ _,by simp⟩
    case assign =>
     intro lr i x W K hx hK
     refine Zba { tmps:=#[.pointer (some ⟨b,0,none⟩),.int .i64 top,.int .i64 details,.int .i64 data,.int .i64 fuel,undef,.pointer (some ⟨b1,0,none⟩),.pointer (some ⟨b2,0,none⟩),undef,undef,.pointer (some ⟨b3,0,none⟩),.pointer (some ⟨b4,0,none⟩),.pointer (some ⟨b10,0,none⟩),.nilIface,.pointer (some ⟨b17,0,none⟩),undef,undef,undef,undef,undef,undef,undef,undef,.tuple #[.agg #[.slice pd ((Zd l details 3 fuel).es.length) cd,.slice pb5 nb5 cb5,.int .i64 dp5,.int .i64 lk5,.slice pf5 0 cf5],.nilIface],.pointer (some ⟨b,0,none⟩),.int .i64 details,.int .i64 fuel,.tuple #[.agg #[.slice pd ((Zd l details 3 fuel).es.length) cd,.slice pb5 nb5 cb5,.int .i64 dp5,.int .i64 lk5,.slice pf5 0 cf5],.nilIface],.agg #[.slice pd ((Zd l details 3 fuel).es.length) cd,.slice pb5 nb5 cb5,.int .i64 dp5,.int .i64 lk5,.slice pf5 0 cf5],.nilIface,.nilIface,.bool false,undef,.tuple #[.agg #[.slice pt ((Zd l top 1 fuel).es.length) ct,.slice pb12 nb12 cb12,.int .i64 dp12,.int .i64 lk12,.slice pf12 0 cf12],.nilIface],.pointer (some ⟨b,0,none⟩),.int .i64 top,.int .i64 fuel,.tuple #[.agg #[.slice pt ((Zd l top 1 fuel).es.length) ct,.slice pb12 nb12 cb12,.int .i64 dp12,.int .i64 lk12,.slice pf12 0 cf12],.nilIface],.agg #[.slice pt ((Zd l top 1 fuel).es.length) ct,.slice pb12 nb12 cb12,.int .i64 dp12,.int .i64 lk12,.slice pf12 0 cf12],.nilIface,.nilIface,.bool false,undef,.pointer (some ⟨b10,0,none⟩),.slice pd ((Zd l details 3 fuel).es.length) cd,.int .i64 (↑((Zd l details 3 fuel).es.length):Int),.bool (decide ((↑((Zd l details 3 fuel).es.length):Int)>(4096:Int))),undef,undef,.pointer (some ⟨b10,0,none⟩),.slice pd ((Zd l details 3 fuel).es.length) cd,.pointer (some ⟨b17,0,none⟩),.slice pt ((Zd l top 1 fuel).es.length) ct,.func (.func 71) #[] #[.pointer (some ⟨p1,0,none⟩),.pointer (some ⟨q1,0,none⟩)],(Cu ga1 oa1 x.1),(Cu gb1 ob1 x.2),undef,undef,undef,undef,undef,undef,undef,undef,undef,undef,undef,undef,undef,undef,undef,undef,undef,undef,undef,undef,undef,undef,undef,undef,undef,undef,undef,undef,undef,undef,undef,undef,undef,undef,undef,undef,undef,undef,undef,undef,undef],defers:=[] } (by kernel_rfl) ?_
     refine wpIn_seq ?_
     refine Vv (fun⟨_,_,q⟩=>q) (by simp) ?_
     refine Gk 1 [(15,(Cu ga1 oa1 x.1))] (by kernel_rfl) ?_
     refine wpList_nil ?_
     refine Vv (fun⟨_,_,q⟩=>q) (by simp) ?_
     refine Gk 1 [(16,(Cu gb1 ob1 x.2))] (by kernel_rfl) ?_
     refine wpList_nil ?_
     exact hK
    case body =>
     rintro lr i x W hlr hx ⟨hbw,hF,hal⟩
     obtain⟨xa,xb⟩:=x
     rcases xa with _|ja<;>rcases xb with _|jb
     ·
      have hBr:w.heap.size≤W.heap.size:=Nat.le_trans hBW1 hF.size
      have hIw:=hI.below hbw
      have hZ:RdS W23 [b3,b4] W W:=RdS.refl _ hF.size
      have r1_b1:=m1_b1.fr hF (by simp only[List.mem_cons,List.not_mem_nil,or_false];omega)
      have r1_b2:=m1_b2.fr hF (by simp only[List.mem_cons,List.not_mem_nil,or_false];omega)
      have r1_b3:=m1_b3.fr hF (by simp only[List.mem_cons,List.not_mem_nil,or_false];omega)
      have r1_b4:=m1_b4.fr hF (by simp only[List.mem_cons,List.not_mem_nil,or_false];omega)
      have r1_b10:=m1_b10.fr hF (by simp only[List.mem_cons,List.not_mem_nil,or_false];omega)
      have r1_b17:=m1_b17.fr hF (by simp only[List.mem_cons,List.not_mem_nil,or_false];omega)
      refine Zba { tmps:=#[.pointer (some ⟨b,0,none⟩),.int .i64 top,.int .i64 details,.int .i64 data,.int .i64 fuel,undef,.pointer (some ⟨b1,0,none⟩),.pointer (some ⟨b2,0,none⟩),undef,undef,.pointer (some ⟨b3,0,none⟩),.pointer (some ⟨b4,0,none⟩),.pointer (some ⟨b10,0,none⟩),.nilIface,.pointer (some ⟨b17,0,none⟩),.pointer none,.pointer none,undef,undef,undef,undef,undef,undef,.tuple #[.agg #[.slice pd ((Zd l details 3 fuel).es.length) cd,.slice pb5 nb5 cb5,.int .i64 dp5,.int .i64 lk5,.slice pf5 0 cf5],.nilIface],.pointer (some ⟨b,0,none⟩),.int .i64 details,.int .i64 fuel,.tuple #[.agg #[.slice pd ((Zd l details 3 fuel).es.length) cd,.slice pb5 nb5 cb5,.int .i64 dp5,.int .i64 lk5,.slice pf5 0 cf5],.nilIface],.agg #[.slice pd ((Zd l details 3 fuel).es.length) cd,.slice pb5 nb5 cb5,.int .i64 dp5,.int .i64 lk5,.slice pf5 0 cf5],.nilIface,.nilIface,.bool false,undef,.tuple #[.agg #[.slice pt ((Zd l top 1 fuel).es.length) ct,.slice pb12 nb12 cb12,.int .i64 dp12,.int .i64 lk12,.slice pf12 0 cf12],.nilIface],.pointer (some ⟨b,0,none⟩),.int .i64 top,.int .i64 fuel,.tuple #[.agg #[.slice pt ((Zd l top 1 fuel).es.length) ct,.slice pb12 nb12 cb12,.int .i64 dp12,.int .i64 lk12,.slice pf12 0 cf12],.nilIface],.agg #[.slice pt ((Zd l top 1 fuel).es.length) ct,.slice pb12 nb12 cb12,.int .i64 dp12,.int .i64 lk12,.slice pf12 0 cf12],.nilIface,.nilIface,.bool false,undef,.pointer (some ⟨b10,0,none⟩),.slice pd ((Zd l details 3 fuel).es.length) cd,.int .i64 (↑((Zd l details 3 fuel).es.length):Int),.bool (decide ((↑((Zd l details 3 fuel).es.length):Int)>(4096:Int))),undef,undef,.pointer (some ⟨b10,0,none⟩),.slice pd ((Zd l details 3 fuel).es.length) cd,.pointer (some ⟨b17,0,none⟩),.slice pt ((Zd l top 1 fuel).es.length) ct,.func (.func 71) #[] #[.pointer (some ⟨p1,0,none⟩),.pointer (some ⟨q1,0,none⟩)],.pointer none,.pointer none,undef,undef,undef,undef,undef,undef,undef,undef,undef,undef,undef,undef,undef,undef,undef,undef,undef,undef,undef,undef,undef,undef,undef,undef,undef,undef,undef,undef,undef,undef,undef,undef,undef,undef,undef,undef,undef,undef,undef,undef,undef],defers:=[] } rfl ?_
      refine wpIn_block ?_
      refine wpIn_block ?_
      refine wpIn_seq ?_
      refine Vv (fun⟨_,_,q⟩=>q) (by simp) ?_
      refine Gk 3 [(57,.pointer none),(58,.bool true),(56,.bool true)] (by kernel_rfl) ?_
      refine wpList_nil ?_
      refine wpIn_cond_true (by kernel_rfl) ?_
      refine wpIn_seq ?_
      refine Vv (fun⟨_,_,q⟩=>q) (by simp) ?_
      refine Vl (by kernel_rfl) (Qf ⟨b2,0,none⟩ (.int .i64 details) rfl (by kernel_rfl) (by kernel_rfl) (r1_b2.cell (i:=0) rfl) ?_)
      refine Vl (by kernel_rfl) (Jr (lb:=#[]) 31 #[.int .i64 details,.int .i64 18] rfl (by kernel_rfl) (fun _ _=>by kernel_rfl) (by kernel_rfl) ((Jt details 18 _ (by omega)).mono ?_))
      rintro e W24 ⟨ty24,v24,rfl,hb24,hva⟩
      refine⟨_,rfl,?_⟩
      have hB:=blB (Below.refl w.heap.size W) hBr hb24
      replace r1_b1:=r1_b1.below hb24
      replace r1_b2:=r1_b2.below hb24
      replace r1_b3:=r1_b3.below hb24
      replace r1_b4:=r1_b4.below hb24
      replace r1_b10:=r1_b10.below hb24
      replace r1_b17:=r1_b17.below hb24
      replace hZ:=hZ.below hb24
      refine Vl (by kernel_rfl) (Xx (v:=.slice none 0 0) (b:=b3) (off:=0) rfl (by kernel_rfl) (by kernel_rfl) (by kernel_rfl) rfl r1_b3 (by first|decide|simp) ?_)
      intro W25 u25 k25
      change Blk _ _ [.slice none 0 0] _ at k25
      replace hB:=u25.below hB g3
      replace r1_b1:=u25.blk r1_b1 (Ne.symm (Ne.symm d3_b1))
      replace r1_b2:=u25.blk r1_b2 (Ne.symm (Ne.symm d3_b2))
      replace r1_b4:=u25.blk r1_b4 (Ne.symm d4_b3)
      replace r1_b10:=u25.blk r1_b10 (Ne.symm d10_b3)
      replace r1_b17:=u25.blk r1_b17 (Ne.symm d17_b3)
      replace hZ:=hZ.upd u25 r1_b3 (.inl (by simp))
      replace hva:=hva.only (Ze.of_upd (T:=[24]) u25 r1_b3 (by decide)) (by decide)
      refine Vl (by kernel_rfl) (Xx (v:=.iface ty24 (v24)) (b:=b4) (off:=0) rfl (by kernel_rfl) (by kernel_rfl) (by kernel_rfl) rfl r1_b4 (by first|decide|simp) ?_)
      intro W26 u26 k26
      change Blk _ _ [.iface ty24 (v24)] _ at k26
      replace hB:=u26.below hB g4
      replace r1_b1:=u26.blk r1_b1 (Ne.symm (Ne.symm d4_b1))
      replace r1_b2:=u26.blk r1_b2 (Ne.symm (Ne.symm d4_b2))
      replace k25:=u26.blk k25 (Ne.symm (Ne.symm d4_b3))
      replace r1_b10:=u26.blk r1_b10 (Ne.symm d10_b4)
      replace r1_b17:=u26.blk r1_b17 (Ne.symm d17_b4)
      replace hZ:=hZ.upd u26 r1_b4 (.inl (by simp))
      replace hva:=hva.only (Ze.of_upd (T:=[26]) u26 r1_b4 (by decide)) (by decide)
      refine wpList_nil ?_
      refine wpIn_ret (Qa (Qa ?_))
      exact⟨hZ.ko.from _,rfl,_,_,_,_,(Cl hfd hft (by omega) ((Ue _ _ 0 0 i _ hal hx rfl).trans rfl)),(by decide),k25,k26,hva,hbw.trans hB⟩
     ·
      have hBr:w.heap.size≤W.heap.size:=Nat.le_trans hBW1 hF.size
      have hIw:=hI.below hbw
      have hZ:RdS W23 [b3,b4] W W:=RdS.refl _ hF.size
      have r1_b1:=m1_b1.fr hF (by simp only[List.mem_cons,List.not_mem_nil,or_false];omega)
      have r1_b2:=m1_b2.fr hF (by simp only[List.mem_cons,List.not_mem_nil,or_false];omega)
      have r1_b3:=m1_b3.fr hF (by simp only[List.mem_cons,List.not_mem_nil,or_false];omega)
      have r1_b4:=m1_b4.fr hF (by simp only[List.mem_cons,List.not_mem_nil,or_false];omega)
      have r1_b10:=m1_b10.fr hF (by simp only[List.mem_cons,List.not_mem_nil,or_false];omega)
      have r1_b17:=m1_b17.fr hF (by simp only[List.mem_cons,List.not_mem_nil,or_false];omega)
      refine Zba { tmps:=#[.pointer (some ⟨b,0,none⟩),.int .i64 top,.int .i64 details,.int .i64 data,.int .i64 fuel,undef,.pointer (some ⟨b1,0,none⟩),.pointer (some ⟨b2,0,none⟩),undef,undef,.pointer (some ⟨b3,0,none⟩),.pointer (some ⟨b4,0,none⟩),.pointer (some ⟨b10,0,none⟩),.nilIface,.pointer (some ⟨b17,0,none⟩),.pointer none,.pointer (some ⟨gb1,ob1+3*jb,none⟩),undef,undef,undef,undef,undef,undef,.tuple #[.agg #[.slice pd ((Zd l details 3 fuel).es.length) cd,.slice pb5 nb5 cb5,.int .i64 dp5,.int .i64 lk5,.slice pf5 0 cf5],.nilIface],.pointer (some ⟨b,0,none⟩),.int .i64 details,.int .i64 fuel,.tuple #[.agg #[.slice pd ((Zd l details 3 fuel).es.length) cd,.slice pb5 nb5 cb5,.int .i64 dp5,.int .i64 lk5,.slice pf5 0 cf5],.nilIface],.agg #[.slice pd ((Zd l details 3 fuel).es.length) cd,.slice pb5 nb5 cb5,.int .i64 dp5,.int .i64 lk5,.slice pf5 0 cf5],.nilIface,.nilIface,.bool false,undef,.tuple #[.agg #[.slice pt ((Zd l top 1 fuel).es.length) ct,.slice pb12 nb12 cb12,.int .i64 dp12,.int .i64 lk12,.slice pf12 0 cf12],.nilIface],.pointer (some ⟨b,0,none⟩),.int .i64 top,.int .i64 fuel,.tuple #[.agg #[.slice pt ((Zd l top 1 fuel).es.length) ct,.slice pb12 nb12 cb12,.int .i64 dp12,.int .i64 lk12,.slice pf12 0 cf12],.nilIface],.agg #[.slice pt ((Zd l top 1 fuel).es.length) ct,.slice pb12 nb12 cb12,.int .i64 dp12,.int .i64 lk12,.slice pf12 0 cf12],.nilIface,.nilIface,.bool false,undef,.pointer (some ⟨b10,0,none⟩),.slice pd ((Zd l details 3 fuel).es.length) cd,.int .i64 (↑((Zd l details 3 fuel).es.length):Int),.bool (decide ((↑((Zd l details 3 fuel).es.length):Int)>(4096:Int))),undef,undef,.pointer (some ⟨b10,0,none⟩),.slice pd ((Zd l details 3 fuel).es.length) cd,.pointer (some ⟨b17,0,none⟩),.slice pt ((Zd l top 1 fuel).es.length) ct,.func (.func 71) #[] #[.pointer (some ⟨p1,0,none⟩),.pointer (some ⟨q1,0,none⟩)],.pointer none,.pointer (some ⟨gb1,ob1+3*jb,none⟩),undef,undef,undef,undef,undef,undef,undef,undef,undef,undef,undef,undef,undef,undef,undef,undef,undef,undef,undef,undef,undef,undef,undef,undef,undef,undef,undef,undef,undef,undef,undef,undef,undef,undef,undef,undef,undef,undef,undef,undef,undef],defers:=[] } rfl ?_
      refine wpIn_block ?_
      refine wpIn_block ?_
      refine wpIn_seq ?_
      refine Vv (fun⟨_,_,q⟩=>q) (by simp) ?_
      refine Gk 3 [(57,.pointer none),(58,.bool true),(56,.bool true)] (by kernel_rfl) ?_
      refine wpList_nil ?_
      refine wpIn_cond_true (by kernel_rfl) ?_
      refine wpIn_seq ?_
      refine Vv (fun⟨_,_,q⟩=>q) (by simp) ?_
      refine Vl (by kernel_rfl) (Qf ⟨b2,0,none⟩ (.int .i64 details) rfl (by kernel_rfl) (by kernel_rfl) (r1_b2.cell (i:=0) rfl) ?_)
      refine Vl (by kernel_rfl) (Jr (lb:=#[]) 31 #[.int .i64 details,.int .i64 18] rfl (by kernel_rfl) (fun _ _=>by kernel_rfl) (by kernel_rfl) ((Jt details 18 _ (by omega)).mono ?_))
      rintro e W27 ⟨ty27,v27,rfl,hb27,hva⟩
      refine⟨_,rfl,?_⟩
      have hB:=blB (Below.refl w.heap.size W) hBr hb27
      replace r1_b1:=r1_b1.below hb27
      replace r1_b2:=r1_b2.below hb27
      replace r1_b3:=r1_b3.below hb27
      replace r1_b4:=r1_b4.below hb27
      replace r1_b10:=r1_b10.below hb27
      replace r1_b17:=r1_b17.below hb27
      replace hZ:=hZ.below hb27
      refine Vl (by kernel_rfl) (Xx (v:=.slice none 0 0) (b:=b3) (off:=0) rfl (by kernel_rfl) (by kernel_rfl) (by kernel_rfl) rfl r1_b3 (by first|decide|simp) ?_)
      intro W28 u28 k28
      change Blk _ _ [.slice none 0 0] _ at k28
      replace hB:=u28.below hB g3
      replace r1_b1:=u28.blk r1_b1 (Ne.symm (Ne.symm d3_b1))
      replace r1_b2:=u28.blk r1_b2 (Ne.symm (Ne.symm d3_b2))
      replace r1_b4:=u28.blk r1_b4 (Ne.symm d4_b3)
      replace r1_b10:=u28.blk r1_b10 (Ne.symm d10_b3)
      replace r1_b17:=u28.blk r1_b17 (Ne.symm d17_b3)
      replace hZ:=hZ.upd u28 r1_b3 (.inl (by simp))
      replace hva:=hva.only (Ze.of_upd (T:=[24]) u28 r1_b3 (by decide)) (by decide)
      refine Vl (by kernel_rfl) (Xx (v:=.iface ty27 (v27)) (b:=b4) (off:=0) rfl (by kernel_rfl) (by kernel_rfl) (by kernel_rfl) rfl r1_b4 (by first|decide|simp) ?_)
      intro W29 u29 k29
      change Blk _ _ [.iface ty27 (v27)] _ at k29
      replace hB:=u29.below hB g4
      replace r1_b1:=u29.blk r1_b1 (Ne.symm (Ne.symm d4_b1))
      replace r1_b2:=u29.blk r1_b2 (Ne.symm (Ne.symm d4_b2))
      replace k28:=u29.blk k28 (Ne.symm (Ne.symm d4_b3))
      replace r1_b10:=u29.blk r1_b10 (Ne.symm d10_b4)
      replace r1_b17:=u29.blk r1_b17 (Ne.symm d17_b4)
      replace hZ:=hZ.upd u29 r1_b4 (.inl (by simp))
      replace hva:=hva.only (Ze.of_upd (T:=[26]) u29 r1_b4 (by decide)) (by decide)
      refine wpList_nil ?_
      refine wpIn_ret (Qa (Qa ?_))
      exact⟨hZ.ko.from _,rfl,_,_,_,_,(Cl hfd hft (by omega) ((Ue _ _ 0 0 i _ hal hx rfl).trans rfl)),(by decide),k28,k29,hva,hbw.trans hB⟩
     ·
      have hBr:w.heap.size≤W.heap.size:=Nat.le_trans hBW1 hF.size
      have hIw:=hI.below hbw
      have hZ:RdS W23 [b3,b4] W W:=RdS.refl _ hF.size
      have r1_b1:=m1_b1.fr hF (by simp only[List.mem_cons,List.not_mem_nil,or_false];omega)
      have r1_b2:=m1_b2.fr hF (by simp only[List.mem_cons,List.not_mem_nil,or_false];omega)
      have r1_b3:=m1_b3.fr hF (by simp only[List.mem_cons,List.not_mem_nil,or_false];omega)
      have r1_b4:=m1_b4.fr hF (by simp only[List.mem_cons,List.not_mem_nil,or_false];omega)
      have r1_b10:=m1_b10.fr hF (by simp only[List.mem_cons,List.not_mem_nil,or_false];omega)
      have r1_b17:=m1_b17.fr hF (by simp only[List.mem_cons,List.not_mem_nil,or_false];omega)
      refine Zba { tmps:=#[.pointer (some ⟨b,0,none⟩),.int .i64 top,.int .i64 details,.int .i64 data,.int .i64 fuel,undef,.pointer (some ⟨b1,0,none⟩),.pointer (some ⟨b2,0,none⟩),undef,undef,.pointer (some ⟨b3,0,none⟩),.pointer (some ⟨b4,0,none⟩),.pointer (some ⟨b10,0,none⟩),.nilIface,.pointer (some ⟨b17,0,none⟩),.pointer (some ⟨ga1,oa1+3*ja,none⟩),.pointer none,undef,undef,undef,undef,undef,undef,.tuple #[.agg #[.slice pd ((Zd l details 3 fuel).es.length) cd,.slice pb5 nb5 cb5,.int .i64 dp5,.int .i64 lk5,.slice pf5 0 cf5],.nilIface],.pointer (some ⟨b,0,none⟩),.int .i64 details,.int .i64 fuel,.tuple #[.agg #[.slice pd ((Zd l details 3 fuel).es.length) cd,.slice pb5 nb5 cb5,.int .i64 dp5,.int .i64 lk5,.slice pf5 0 cf5],.nilIface],.agg #[.slice pd ((Zd l details 3 fuel).es.length) cd,.slice pb5 nb5 cb5,.int .i64 dp5,.int .i64 lk5,.slice pf5 0 cf5],.nilIface,.nilIface,.bool false,undef,.tuple #[.agg #[.slice pt ((Zd l top 1 fuel).es.length) ct,.slice pb12 nb12 cb12,.int .i64 dp12,.int .i64 lk12,.slice pf12 0 cf12],.nilIface],.pointer (some ⟨b,0,none⟩),.int .i64 top,.int .i64 fuel,.tuple #[.agg #[.slice pt ((Zd l top 1 fuel).es.length) ct,.slice pb12 nb12 cb12,.int .i64 dp12,.int .i64 lk12,.slice pf12 0 cf12],.nilIface],.agg #[.slice pt ((Zd l top 1 fuel).es.length) ct,.slice pb12 nb12 cb12,.int .i64 dp12,.int .i64 lk12,.slice pf12 0 cf12],.nilIface,.nilIface,.bool false,undef,.pointer (some ⟨b10,0,none⟩),.slice pd ((Zd l details 3 fuel).es.length) cd,.int .i64 (↑((Zd l details 3 fuel).es.length):Int),.bool (decide ((↑((Zd l details 3 fuel).es.length):Int)>(4096:Int))),undef,undef,.pointer (some ⟨b10,0,none⟩),.slice pd ((Zd l details 3 fuel).es.length) cd,.pointer (some ⟨b17,0,none⟩),.slice pt ((Zd l top 1 fuel).es.length) ct,.func (.func 71) #[] #[.pointer (some ⟨p1,0,none⟩),.pointer (some ⟨q1,0,none⟩)],.pointer (some ⟨ga1,oa1+3*ja,none⟩),.pointer none,undef,undef,undef,undef,undef,undef,undef,undef,undef,undef,undef,undef,undef,undef,undef,undef,undef,undef,undef,undef,undef,undef,undef,undef,undef,undef,undef,undef,undef,undef,undef,undef,undef,undef,undef,undef,undef,undef,undef,undef,undef],defers:=[] } rfl ?_
      refine wpIn_block ?_
      refine wpIn_block ?_
      refine wpIn_seq ?_
      refine Vv (fun⟨_,_,q⟩=>q) (by simp) ?_
      refine Gk 3 [(57,.pointer (some ⟨ga1,oa1+3*ja,none⟩)),(58,.bool false),(56,.bool false)] (by kernel_rfl) ?_
      refine wpList_nil ?_
      refine wpIn_cond_false (by kernel_rfl) ?_
      refine wpIn_seq ?_
      refine Vv (fun⟨_,_,q⟩=>q) (by simp) ?_
      refine Gk 3 [(62,.pointer none),(63,.bool true),(61,.bool true)] (by kernel_rfl) ?_
      refine wpList_nil ?_
      refine wpIn_cond_true (by kernel_rfl) ?_
      refine wpIn_seq ?_
      refine Vv (fun⟨_,_,q⟩=>q) (by simp) ?_
      refine Vl (by kernel_rfl) (Qf ⟨b1,0,none⟩ (.int .i64 top) rfl (by kernel_rfl) (by kernel_rfl) (r1_b1.cell (i:=0) rfl) ?_)
      refine Vl (by kernel_rfl) (Jr (lb:=#[]) 31 #[.int .i64 top,.int .i64 18] rfl (by kernel_rfl) (fun _ _=>by kernel_rfl) (by kernel_rfl) ((Jt top 18 _ (by omega)).mono ?_))
      rintro e W30 ⟨ty30,v30,rfl,hb30,hva⟩
      refine⟨_,rfl,?_⟩
      have hB:=blB (Below.refl w.heap.size W) hBr hb30
      replace r1_b1:=r1_b1.below hb30
      replace r1_b2:=r1_b2.below hb30
      replace r1_b3:=r1_b3.below hb30
      replace r1_b4:=r1_b4.below hb30
      replace r1_b10:=r1_b10.below hb30
      replace r1_b17:=r1_b17.below hb30
      replace hZ:=hZ.below hb30
      refine Vl (by kernel_rfl) (Xx (v:=.slice none 0 0) (b:=b3) (off:=0) rfl (by kernel_rfl) (by kernel_rfl) (by kernel_rfl) rfl r1_b3 (by first|decide|simp) ?_)
      intro W31 u31 k31
      change Blk _ _ [.slice none 0 0] _ at k31
      replace hB:=u31.below hB g3
      replace r1_b1:=u31.blk r1_b1 (Ne.symm (Ne.symm d3_b1))
      replace r1_b2:=u31.blk r1_b2 (Ne.symm (Ne.symm d3_b2))
      replace r1_b4:=u31.blk r1_b4 (Ne.symm d4_b3)
      replace r1_b10:=u31.blk r1_b10 (Ne.symm d10_b3)
      replace r1_b17:=u31.blk r1_b17 (Ne.symm d17_b3)
      replace hZ:=hZ.upd u31 r1_b3 (.inl (by simp))
      replace hva:=hva.only (Ze.of_upd (T:=[24]) u31 r1_b3 (by decide)) (by decide)
      refine Vl (by kernel_rfl) (Xx (v:=.iface ty30 (v30)) (b:=b4) (off:=0) rfl (by kernel_rfl) (by kernel_rfl) (by kernel_rfl) rfl r1_b4 (by first|decide|simp) ?_)
      intro W32 u32 k32
      change Blk _ _ [.iface ty30 (v30)] _ at k32
      replace hB:=u32.below hB g4
      replace r1_b1:=u32.blk r1_b1 (Ne.symm (Ne.symm d4_b1))
      replace r1_b2:=u32.blk r1_b2 (Ne.symm (Ne.symm d4_b2))
      replace k31:=u32.blk k31 (Ne.symm (Ne.symm d4_b3))
      replace r1_b10:=u32.blk r1_b10 (Ne.symm d10_b4)
      replace r1_b17:=u32.blk r1_b17 (Ne.symm d17_b4)
      replace hZ:=hZ.upd u32 r1_b4 (.inl (by simp))
      replace hva:=hva.only (Ze.of_upd (T:=[26]) u32 r1_b4 (by decide)) (by decide)
      refine wpList_nil ?_
      refine wpIn_ret (Qa (Qa ?_))
      exact⟨hZ.ko.from _,rfl,_,_,_,_,(Te hfd hft (by omega) ((Ue _ _ 0 0 i _ hal hx rfl).trans rfl)),(by decide),k31,k32,hva,hbw.trans hB⟩
     ·
      have hBr:w.heap.size≤W.heap.size:=Nat.le_trans hBW1 hF.size
      have hIw:=hI.below hbw
      have hZ:RdS W23 [b3,b4] W W:=RdS.refl _ hF.size
      have r1_b1:=m1_b1.fr hF (by simp only[List.mem_cons,List.not_mem_nil,or_false];omega)
      have r1_b2:=m1_b2.fr hF (by simp only[List.mem_cons,List.not_mem_nil,or_false];omega)
      have r1_b3:=m1_b3.fr hF (by simp only[List.mem_cons,List.not_mem_nil,or_false];omega)
      have r1_b4:=m1_b4.fr hF (by simp only[List.mem_cons,List.not_mem_nil,or_false];omega)
      have r1_b10:=m1_b10.fr hF (by simp only[List.mem_cons,List.not_mem_nil,or_false];omega)
      have r1_b17:=m1_b17.fr hF (by simp only[List.mem_cons,List.not_mem_nil,or_false];omega)
      refine Zba { tmps:=#[.pointer (some ⟨b,0,none⟩),.int .i64 top,.int .i64 details,.int .i64 data,.int .i64 fuel,undef,.pointer (some ⟨b1,0,none⟩),.pointer (some ⟨b2,0,none⟩),undef,undef,.pointer (some ⟨b3,0,none⟩),.pointer (some ⟨b4,0,none⟩),.pointer (some ⟨b10,0,none⟩),.nilIface,.pointer (some ⟨b17,0,none⟩),.pointer (some ⟨ga1,oa1+3*ja,none⟩),.pointer (some ⟨gb1,ob1+3*jb,none⟩),undef,undef,undef,undef,undef,undef,.tuple #[.agg #[.slice pd ((Zd l details 3 fuel).es.length) cd,.slice pb5 nb5 cb5,.int .i64 dp5,.int .i64 lk5,.slice pf5 0 cf5],.nilIface],.pointer (some ⟨b,0,none⟩),.int .i64 details,.int .i64 fuel,.tuple #[.agg #[.slice pd ((Zd l details 3 fuel).es.length) cd,.slice pb5 nb5 cb5,.int .i64 dp5,.int .i64 lk5,.slice pf5 0 cf5],.nilIface],.agg #[.slice pd ((Zd l details 3 fuel).es.length) cd,.slice pb5 nb5 cb5,.int .i64 dp5,.int .i64 lk5,.slice pf5 0 cf5],.nilIface,.nilIface,.bool false,undef,.tuple #[.agg #[.slice pt ((Zd l top 1 fuel).es.length) ct,.slice pb12 nb12 cb12,.int .i64 dp12,.int .i64 lk12,.slice pf12 0 cf12],.nilIface],.pointer (some ⟨b,0,none⟩),.int .i64 top,.int .i64 fuel,.tuple #[.agg #[.slice pt ((Zd l top 1 fuel).es.length) ct,.slice pb12 nb12 cb12,.int .i64 dp12,.int .i64 lk12,.slice pf12 0 cf12],.nilIface],.agg #[.slice pt ((Zd l top 1 fuel).es.length) ct,.slice pb12 nb12 cb12,.int .i64 dp12,.int .i64 lk12,.slice pf12 0 cf12],.nilIface,.nilIface,.bool false,undef,.pointer (some ⟨b10,0,none⟩),.slice pd ((Zd l details 3 fuel).es.length) cd,.int .i64 (↑((Zd l details 3 fuel).es.length):Int),.bool (decide ((↑((Zd l details 3 fuel).es.length):Int)>(4096:Int))),undef,undef,.pointer (some ⟨b10,0,none⟩),.slice pd ((Zd l details 3 fuel).es.length) cd,.pointer (some ⟨b17,0,none⟩),.slice pt ((Zd l top 1 fuel).es.length) ct,.func (.func 71) #[] #[.pointer (some ⟨p1,0,none⟩),.pointer (some ⟨q1,0,none⟩)],.pointer (some ⟨ga1,oa1+3*ja,none⟩),.pointer (some ⟨gb1,ob1+3*jb,none⟩),undef,undef,undef,undef,undef,undef,undef,undef,undef,undef,undef,undef,undef,undef,undef,undef,undef,undef,undef,undef,undef,undef,undef,undef,undef,undef,undef,undef,undef,undef,undef,undef,undef,undef,undef,undef,undef,undef,undef,undef,undef],defers:=[] } rfl ?_
      refine wpIn_block ?_
      refine wpIn_block ?_
      refine wpIn_seq ?_
      refine Vv (fun⟨_,_,q⟩=>q) (by simp) ?_
      refine Gk 3 [(57,.pointer (some ⟨ga1,oa1+3*ja,none⟩)),(58,.bool false),(56,.bool false)] (by kernel_rfl) ?_
      refine wpList_nil ?_
      refine wpIn_cond_false (by kernel_rfl) ?_
      refine wpIn_seq ?_
      refine Vv (fun⟨_,_,q⟩=>q) (by simp) ?_
      refine Gk 3 [(62,.pointer (some ⟨gb1,ob1+3*jb,none⟩)),(63,.bool false),(61,.bool false)] (by kernel_rfl) ?_
      refine wpList_nil ?_
      refine wpIn_cond_false (by kernel_rfl) ?_
      refine wpIn_skip ?_
      exact⟨KeepsFrom.refl _ _,Keeps.refl _ _,hbw,hF,Af hal hx rfl⟩
    case stop =>
     rintro D c k V hD hk ⟨rfl,ty,v,bl,er,hO,her,k10,k11,hv,hb⟩ hK0
     have hK:Dfr D V:=hK0
     refine wp_ret (Qa (Cy ?_))
     exact ret1 k10 k11 hK (Zf0 (.inr ⟨_,_,rfl⟩) (by kernel_rfl) (by kernel_rfl)) rfl (Wf hO her (Ny hb hb.size (Nat.le_trans hBW1 hD) _) (hv.pt hK _))
    case done =>
     rintro D1 W9 hD1 ⟨hb9,hF9,hal9⟩ hK0
     have hK:Dfr D1 W9:=hK0;clear hK0
     rw[List.take_length] at hal9
     have hall:=hal9
     have hpz:=(Db _ _ 0 0 hal9).1
     have hnl:=(Lj hpz).1
     have r9_b1:=m1_b1.fr hF9 (by simp only[List.mem_cons,List.not_mem_nil,or_false];omega)
     have r9_b2:=m1_b2.fr hF9 (by simp only[List.mem_cons,List.not_mem_nil,or_false];omega)
     have r9_b3:=m1_b3.fr hF9 (by simp only[List.mem_cons,List.not_mem_nil,or_false];omega)
     have r9_b4:=m1_b4.fr hF9 (by simp only[List.mem_cons,List.not_mem_nil,or_false];omega)
     have r9_b10:=m1_b10.fr hF9 (by simp only[List.mem_cons,List.not_mem_nil,or_false];omega)
     have r9_b17:=m1_b17.fr hF9 (by simp only[List.mem_cons,List.not_mem_nil,or_false];omega)
     have hd8:=Rq md1 hF9 (fun d hd=>by simp only[List.mem_cons,List.not_mem_nil,or_false];rintro(h|h);exact Xn md1 m1_p1 (by decide) d hd h;exact Xn md1 m1_q1 (by decide) d hd h)
     have ht8:=Rq mt1 hF9 (fun d hd=>by simp only[List.mem_cons,List.not_mem_nil,or_false];rintro(h|h);exact Xn mt1 m1_p1 (by decide) d hd h;exact Xn mt1 m1_q1 (by decide) d hd h)
     replace hB:=hb9
     refine wp_seq ?_
     refine wp_region_lit ?_
     refine Gk 4 [(66,.pointer (some ⟨b,0,none⟩)),(67,.int .i64 data),(68,.int .i64 fuel),(69,.agg #[.pointer (some ⟨b,0,none⟩),.int .i64 data,.int .i64 fuel,.int .i64 0])] (by kernel_rfl) ?_
     refine Vl (by kernel_rfl) (Zal [.pointer (some ⟨b,0,none⟩),.int .i64 data,.int .i64 fuel,.int .i64 0] rfl (by kernel_rfl) ?_)
     intro b33 W33 n33
     have d33_b1:=n33.ne r9_b1
     have d33_b2:=n33.ne r9_b2
     have d33_b3:=n33.ne r9_b3
     have d33_b4:=n33.ne r9_b4
     have d33_b10:=n33.ne r9_b10
     have d33_b17:=n33.ne r9_b17
     have g33:=n33.ge hB
     replace hB:=bln hB n33.below
     replace r9_b1:=r9_b1.below n33.below
     replace r9_b2:=r9_b2.below n33.below
     replace r9_b3:=r9_b3.below n33.below
     replace r9_b4:=r9_b4.below n33.below
     replace r9_b10:=r9_b10.below n33.below
     replace r9_b17:=r9_b17.below n33.below
     replace hd8:=Za hd8 n33.below
     replace ht8:=Za ht8 n33.below
     replace hK:=hK.below n33.below
     have k33:=n33.blk
     refine Vl (by kernel_rfl) (Kb [.pointer none] rfl (by kernel_rfl) ?_)
     intro b34 W34 n34
     have d34_b1:=n34.ne r9_b1
     have d34_b2:=n34.ne r9_b2
     have d34_b3:=n34.ne r9_b3
     have d34_b4:=n34.ne r9_b4
     have d34_b10:=n34.ne r9_b10
     have d34_b17:=n34.ne r9_b17
     have d34_b33:=n34.ne k33
     have g34:=n34.ge hB
     replace hB:=bln hB n34.below
     replace r9_b1:=r9_b1.below n34.below
     replace r9_b2:=r9_b2.below n34.below
     replace r9_b3:=r9_b3.below n34.below
     replace r9_b4:=r9_b4.below n34.below
     replace r9_b10:=r9_b10.below n34.below
     replace r9_b17:=r9_b17.below n34.below
     replace k33:=k33.below n34.below
     replace hd8:=Za hd8 n34.below
     replace ht8:=Za ht8 n34.below
     replace hK:=hK.below n34.below
     have k34:=n34.blk
     refine Vl (by kernel_rfl) (Xx (v:=.pointer (some ⟨b33,0,none⟩)) (b:=b34) (off:=0) rfl (by kernel_rfl) (by kernel_rfl) (by kernel_rfl) rfl k34 (by first|decide|simp) ?_)
     intro W35 u35 k35
     change Blk _ _ [.pointer (some ⟨b33,0,none⟩)] _ at k35
     replace hB:=u35.below hB g34
     replace r9_b1:=u35.blk r9_b1 (Ne.symm (Ne.symm d34_b1))
     replace r9_b2:=u35.blk r9_b2 (Ne.symm (Ne.symm d34_b2))
     replace r9_b3:=u35.blk r9_b3 (Ne.symm (Ne.symm d34_b3))
     replace r9_b4:=u35.blk r9_b4 (Ne.symm (Ne.symm d34_b4))
     replace r9_b10:=u35.blk r9_b10 (Ne.symm (Ne.symm d34_b10))
     replace r9_b17:=u35.blk r9_b17 (Ne.symm (Ne.symm d34_b17))
     replace k33:=u35.blk k33 (Ne.symm (Ne.symm d34_b33))
     replace hd8:=u35.own2 hd8 k34 (by decide)
     replace ht8:=u35.own2 ht8 k34 (by decide)
     replace hK:=hK.upd u35 k34
     refine wpList_nil ?_
     refine wp_seq ?_
     refine wp_region_lit ?_
     refine Vl (by kernel_rfl) (Kb [.slice none 0 0] rfl (by kernel_rfl) ?_)
     intro b36 W36 n36
     have d36_b1:=n36.ne r9_b1
     have d36_b2:=n36.ne r9_b2
     have d36_b3:=n36.ne r9_b3
     have d36_b4:=n36.ne r9_b4
     have d36_b10:=n36.ne r9_b10
     have d36_b17:=n36.ne r9_b17
     have d36_b33:=n36.ne k33
     have d36_b34:=n36.ne k35
     have g36:=n36.ge hB
     replace hB:=bln hB n36.below
     replace r9_b1:=r9_b1.below n36.below
     replace r9_b2:=r9_b2.below n36.below
     replace r9_b3:=r9_b3.below n36.below
     replace r9_b4:=r9_b4.below n36.below
     replace r9_b10:=r9_b10.below n36.below
     replace r9_b17:=r9_b17.below n36.below
     replace k33:=k33.below n36.below
     replace k35:=k35.below n36.below
     replace hd8:=Za hd8 n36.below
     replace ht8:=Za ht8 n36.below
     replace hK:=hK.below n36.below
     have k36:=n36.blk
     refine wpList_nil ?_
     refine wp_seq ?_
     refine wp_seq ?_
     refine wp_region_lit ?_
     refine Gk 1 [(71,.pointer (some ⟨b10,0,none⟩))] (by kernel_rfl) ?_
     refine Vl (by kernel_rfl) (Qf ⟨b10,0,none⟩ (.slice pd ((Zd l details 3 fuel).es.length) cd) rfl (by kernel_rfl) (by kernel_rfl) (r9_b10.cell (i:=0) rfl) ?_)
     refine Gk 1 [(73,.pointer (some ⟨b17,0,none⟩))] (by kernel_rfl) ?_
     refine Vl (by kernel_rfl) (Qf ⟨b17,0,none⟩ (.slice pt ((Zd l top 1 fuel).es.length) ct) rfl (by kernel_rfl) (by kernel_rfl) (r9_b17.cell (i:=0) rfl) ?_)
     have hsA2:=Zg hd8
     have hsE2:=Zg ht8
     have hsz2:=hB.size
     have lt2_b1:=r9_b1.lt
     have lt2_b2:=r9_b2.lt
     have lt2_b3:=r9_b3.lt
     have lt2_b4:=r9_b4.lt
     have lt2_b10:=r9_b10.lt
     have lt2_b17:=r9_b17.lt
     have lt2_b33:=k33.lt
     have lt2_b34:=k35.lt
     have lt2_b36:=k36.lt
     refine Vl (by kernel_rfl) (Jr (lb:=#[]) 32 #[.slice pd ((Zd l details 3 fuel).es.length) cd,.slice pt ((Zd l top 1 fuel).es.length) ct] rfl (by kernel_rfl) (fun _ _=>by kernel_rfl) (by kernel_rfl) ((Fc pd (Zd l details 3 fuel).es.length cd pt (Zd l top 1 fuel).es.length ct _).mono ?_))
     rintro e W37 ⟨p2,q2,rfl,hbp2,ggp2,ggq2,gpq2,kkp2,kkq2⟩
     refine⟨_,rfl,?_⟩
     replace hB:=bln hB hbp2
     replace r9_b1:=r9_b1.below hbp2
     replace r9_b2:=r9_b2.below hbp2
     replace r9_b3:=r9_b3.below hbp2
     replace r9_b4:=r9_b4.below hbp2
     replace r9_b10:=r9_b10.below hbp2
     replace r9_b17:=r9_b17.below hbp2
     replace k33:=k33.below hbp2
     replace k35:=k35.below hbp2
     replace k36:=k36.below hbp2
     replace hd8:=Za hd8 hbp2
     replace ht8:=Za ht8 hbp2
     replace hK:=hK.below hbp2
     refine wpList_nil ?_
     refine wp_block ?_
     obtain⟨ga2,oa2,gb2,ob2,hst2,hga2,hgb2⟩:=It (A:=(Zd l details 3 fuel).es) (E:=(Zd l top 1 fuel).es) rfl rfl (by omega) (by omega) hsA2 hsE2 hbp2 ggp2 ggq2 gpq2 kkp2 kkq2
     have hBW2:w.heap.size≤W37.heap.size:=hB.size
     have hp2:w.heap.size≤p2:=Nat.le_trans hsz2 ggp2
     have hq2:w.heap.size≤q2:=Nat.le_trans hsz2 ggq2
     have hpl2:=kkp2.lt
     have hql2:=kkq2.lt
     have hBB2:=hB
     have m2_b1:=r9_b1
     have m2_b2:=r9_b2
     have m2_b3:=r9_b3
     have m2_b4:=r9_b4
     have m2_b10:=r9_b10
     have m2_b17:=r9_b17
     have m2_b33:=k33
     have m2_b34:=k35
     have m2_b36:=k36
     have m2_p2:=kkp2
     have m2_q2:=kkq2
     have md2:=hd8
     have mt2:=ht8
     have hgl:w.heap.size≤b33:=g33
     have xb1_b33:b1≠b33:=(Ne.symm (Ne.symm d33_b1))
     have yb1_b36:b1≠b36:=(Ne.symm (Ne.symm d36_b1))
     have xb2_b33:b2≠b33:=(Ne.symm (Ne.symm d33_b2))
     have yb2_b36:b2≠b36:=(Ne.symm (Ne.symm d36_b2))
     have xb3_b33:b3≠b33:=(Ne.symm (Ne.symm d33_b3))
     have yb3_b36:b3≠b36:=(Ne.symm (Ne.symm d36_b3))
     have xb4_b33:b4≠b33:=(Ne.symm (Ne.symm d33_b4))
     have yb4_b36:b4≠b36:=(Ne.symm (Ne.symm d36_b4))
     have xb10_b33:b10≠b33:=(Ne.symm (Ne.symm d33_b10))
     have yb10_b36:b10≠b36:=(Ne.symm (Ne.symm d36_b10))
     have xb17_b33:b17≠b33:=(Ne.symm (Ne.symm d33_b17))
     have yb17_b36:b17≠b36:=(Ne.symm (Ne.symm d36_b17))
     have xb34_b33:b34≠b33:=(Ne.symm d34_b33)
     have yb34_b36:b34≠b36:=(Ne.symm (Ne.symm d36_b34))
     have hlp:b33≠p2:=by omega
     have hlq:b33≠q2:=by omega
     have h8p:b36≠p2:=by omega
     have h8q:b36≠q2:=by omega
     have hlt2:∀ d,(fun d=>d=p2∨d=q2∨((Zd l details 3 fuel).es.length≠0∧d=ga2)∨((Zd l top 1 fuel).es.length≠0∧d=gb2)) d→d<W37.heap.size:=by
      rintro d (rfl|rfl|⟨h,rfl⟩|⟨h,rfl⟩)
      ·exact hpl2
      ·exact hql2
      ·exact(md2.lt _ (by rw[hga2 h];rfl)).2
      ·exact(mt2.lt _ (by rw[hgb2 h];rfl)).2
     have hks2:∀ d,(fun d=>d=p2∨d=q2∨((Zd l details 3 fuel).es.length≠0∧d=ga2)∨((Zd l top 1 fuel).es.length≠0∧d=gb2)) d→d∉[b3,b4,b33,b36]:=by
      rintro d (rfl|rfl|⟨h,rfl⟩|⟨h,rfl⟩)<;>simp only[List.mem_cons,List.not_mem_nil,or_false]
      ·omega
      ·omega
      ·rintro(h9|h9|h9|h9)
       ·exact Xn md2 m2_b3 (by decide) _ (by rw[hga2 h];rfl) h9
       ·exact Xn md2 m2_b4 (by decide) _ (by rw[hga2 h];rfl) h9
       ·exact Xn md2 m2_b33 (by decide) _ (by rw[hga2 h];rfl) h9
       ·exact Xn md2 m2_b36 (by decide) _ (by rw[hga2 h];rfl) h9
      ·rintro(h9|h9|h9|h9)
       ·exact Xn mt2 m2_b3 (by decide) _ (by rw[hgb2 h];rfl) h9
       ·exact Xn mt2 m2_b4 (by decide) _ (by rw[hgb2 h];rfl) h9
       ·exact Xn mt2 m2_b33 (by decide) _ (by rw[hgb2 h];rfl) h9
       ·exact Xn mt2 m2_b36 (by decide) _ (by rw[hgb2 h];rfl) h9
     have hD1l:D1<W37.heap.size:=(Array.getElem?_eq_some_iff.1 hK).1
     have hKf:D1∉[p2,q2,b33,b36]:=by simp only[List.mem_cons,List.not_mem_nil,or_false];rintro(h9|h9|h9|h9);exact(hK.ne m2_p2) h9.symm;exact(hK.ne m2_q2) h9.symm;exact(hK.ne m2_b33) h9.symm;exact(hK.ne m2_b36) h9.symm
     have hK7:=hK
     refine g_fr ⟨#[.pointer (some ⟨b,0,none⟩),.int .i64 top,.int .i64 details,.int .i64 data,.int .i64 fuel,undef,.pointer (some ⟨b1,0,none⟩),.pointer (some ⟨b2,0,none⟩),undef,undef,.pointer (some ⟨b3,0,none⟩),.pointer (some ⟨b4,0,none⟩),.pointer (some ⟨b10,0,none⟩),.nilIface,.pointer (some ⟨b17,0,none⟩),undef,undef,.pointer (some ⟨b34,0,none⟩),.pointer (some ⟨b36,0,none⟩),undef,undef,undef,undef,.tuple #[.agg #[.slice pd ((Zd l details 3 fuel).es.length) cd,.slice pb5 nb5 cb5,.int .i64 dp5,.int .i64 lk5,.slice pf5 0 cf5],.nilIface],.pointer (some ⟨b,0,none⟩),.int .i64 details,.int .i64 fuel,.tuple #[.agg #[.slice pd ((Zd l details 3 fuel).es.length) cd,.slice pb5 nb5 cb5,.int .i64 dp5,.int .i64 lk5,.slice pf5 0 cf5],.nilIface],.agg #[.slice pd ((Zd l details 3 fuel).es.length) cd,.slice pb5 nb5 cb5,.int .i64 dp5,.int .i64 lk5,.slice pf5 0 cf5],.nilIface,.nilIface,.bool false,undef,.tuple #[.agg #[.slice pt ((Zd l top 1 fuel).es.length) ct,.slice pb12 nb12 cb12,.int .i64 dp12,.int .i64 lk12,.slice pf12 0 cf12],.nilIface],.pointer (some ⟨b,0,none⟩),.int .i64 top,.int .i64 fuel,.tuple #[.agg #[.slice pt ((Zd l top 1 fuel).es.length) ct,.slice pb12 nb12 cb12,.int .i64 dp12,.int .i64 lk12,.slice pf12 0 cf12],.nilIface],.agg #[.slice pt ((Zd l top 1 fuel).es.length) ct,.slice pb12 nb12 cb12,.int .i64 dp12,.int .i64 lk12,.slice pf12 0 cf12],.nilIface,.nilIface,.bool false,undef,.pointer (some ⟨b10,0,none⟩),.slice pd ((Zd l details 3 fuel).es.length) cd,.int .i64 (↑((Zd l details 3 fuel).es.length):Int),.bool (decide ((↑((Zd l details 3 fuel).es.length):Int)>(4096:Int))),undef,undef,.pointer (some ⟨b10,0,none⟩),.slice pd ((Zd l details 3 fuel).es.length) cd,.pointer (some ⟨b17,0,none⟩),.slice pt ((Zd l top 1 fuel).es.length) ct,.func (.func 71) #[] #[.pointer (some ⟨p1,0,none⟩),.pointer (some ⟨q1,0,none⟩)],undef,undef,undef,undef,undef,undef,undef,undef,undef,undef,undef,undef,.pointer (some ⟨b,0,none⟩),.int .i64 data,.int .i64 fuel,.agg #[.pointer (some ⟨b,0,none⟩),.int .i64 data,.int .i64 fuel,.int .i64 0],.pointer (some ⟨b33,0,none⟩),.pointer (some ⟨b10,0,none⟩),.slice pd ((Zd l details 3 fuel).es.length) cd,.pointer (some ⟨b17,0,none⟩),.slice pt ((Zd l top 1 fuel).es.length) ct,.func (.func 71) #[] #[.pointer (some ⟨p2,0,none⟩),.pointer (some ⟨q2,0,none⟩)],undef,undef,undef,undef,undef,undef,undef,undef,undef,undef,undef,undef,undef,undef,undef,undef,undef,undef,undef,undef,undef],[{ target:=.collected D1,args:=#[] }]⟩ (by kernel_rfl) ?_
     refine Zah (g:=.tmp 75) (gf:=71) (lb:=#[.pointer (some ⟨p2,0,none⟩),.pointer (some ⟨q2,0,none⟩)]) rfl (enters_of Tryz.func71 (by kernel_rfl) rfl) (fun d=>d=p2∨d=q2∨((Zd l details 3 fuel).es.length≠0∧d=ga2)∨((Zd l top 1 fuel).es.length≠0∧d=gb2)) (fun d=>d=p2∨d=q2) hlt2 (fun d h=>h.elim (fun q=>q▸hpl2) (fun q=>q▸hql2)) hst2 (fun _=>rfl)
      (fun i V=>Below w.heap.size w V∧Fr [p2,q2,b33,b36] W37 V∧Blk V b33 [.pointer (some ⟨b,0,none⟩),.int .i64 data,.int .i64 fuel,.int .i64 (↑(Au l (Zd l top 1 fuel).es data fuel i):Int)] 98∧(Au l (Zd l top 1 fuel).es data fuel i)≤16384∧devK l (Zd l details 3 fuel).es (Zd l top 1 fuel).es data fuel i∧∃ (p:Option Addr) (c:Nat) (Z:List Zv),Blk V b36 [.slice p i c] 24∧V.ownsRow W37.heap.size 82 5 (.slice p i c) i (Z.flatMap Ll)∧Xs W37.heap.size V Z∧Z.length=i∧Z.map Prod.fst=devL l (Zd l details 3 fuel).es (Zd l top 1 fuel).es data fuel i)
      (fun c i V=>c=.ret∧Dfr D1 V∧BadAt (Qv l top details data fuel) w b3 b4 V) ?own (fun c k A B row h hg hr=>⟨h.1,(hg.block D1 (Array.getElem?_eq_some_iff.1 h.2.1).1 (fun e=>by have:=(hr _ e.symm).1;omega)).trans h.2.1,h.2.2.ab (q:=fun _=>False) hg hr hBW2⟩) ?start
      (fun x=>{ tmps:=#[.pointer (some ⟨b,0,none⟩),.int .i64 top,.int .i64 details,.int .i64 data,.int .i64 fuel,undef,.pointer (some ⟨b1,0,none⟩),.pointer (some ⟨b2,0,none⟩),undef,undef,.pointer (some ⟨b3,0,none⟩),.pointer (some ⟨b4,0,none⟩),.pointer (some ⟨b10,0,none⟩),.nilIface,.pointer (some ⟨b17,0,none⟩),undef,undef,.pointer (some ⟨b34,0,none⟩),.pointer (some ⟨b36,0,none⟩),(Cu ga2 oa2 x.1),(Cu gb2 ob2 x.2),undef,undef,.tuple #[.agg #[.slice pd ((Zd l details 3 fuel).es.length) cd,.slice pb5 nb5 cb5,.int .i64 dp5,.int .i64 lk5,.slice pf5 0 cf5],.nilIface],.pointer (some ⟨b,0,none⟩),.int .i64 details,.int .i64 fuel,.tuple #[.agg #[.slice pd ((Zd l details 3 fuel).es.length) cd,.slice pb5 nb5 cb5,.int .i64 dp5,.int .i64 lk5,.slice pf5 0 cf5],.nilIface],.agg #[.slice pd ((Zd l details 3 fuel).es.length) cd,.slice pb5 nb5 cb5,.int .i64 dp5,.int .i64 lk5,.slice pf5 0 cf5],.nilIface,.nilIface,.bool false,undef,.tuple #[.agg #[.slice pt ((Zd l top 1 fuel).es.length) ct,.slice pb12 nb12 cb12,.int .i64 dp12,.int .i64 lk12,.slice pf12 0 cf12],.nilIface],.pointer (some ⟨b,0,none⟩),.int .i64 top,.int .i64 fuel,.tuple #[.agg #[.slice pt ((Zd l top 1 fuel).es.length) ct,.slice pb12 nb12 cb12,.int .i64 dp12,.int .i64 lk12,.slice pf12 0 cf12],.nilIface],.agg #[.slice pt ((Zd l top 1 fuel).es.length) ct,.slice pb12 nb12 cb12,.int .i64 dp12,.int .i64 lk12,.slice pf12 0 cf12],.nilIface,.nilIface,.bool false,undef,.pointer (some ⟨b10,0,none⟩),.slice pd ((Zd l details 3 fuel).es.length) cd,.int .i64 (↑((Zd l details 3 fuel).es.length):Int),.bool (decide ((↑((Zd l details 3 fuel).es.length):Int)>(4096:Int))),undef,undef,.pointer (some ⟨b10,0,none⟩),.slice pd ((Zd l details 3 fuel).es.length) cd,.pointer (some ⟨b17,0,none⟩),.slice pt ((Zd l top 1 fuel).es.length) ct,.func (.func 71) #[] #[.pointer (some ⟨p1,0,none⟩),.pointer (some ⟨q1,0,none⟩)],undef,undef,undef,undef,undef,undef,undef,undef,undef,undef,undef,undef,.pointer (some ⟨b,0,none⟩),.int .i64 data,.int .i64 fuel,.agg #[.pointer (some ⟨b,0,none⟩),.int .i64 data,.int .i64 fuel,.int .i64 0],.pointer (some ⟨b33,0,none⟩),.pointer (some ⟨b10,0,none⟩),.slice pd ((Zd l details 3 fuel).es.length) cd,.pointer (some ⟨b17,0,none⟩),.slice pt ((Zd l top 1 fuel).es.length) ct,.func (.func 71) #[] #[.pointer (some ⟨p2,0,none⟩),.pointer (some ⟨q2,0,none⟩)],(Cu ga2 oa2 x.1),(Cu gb2 ob2 x.2),undef,undef,undef,undef,undef,undef,undef,undef,undef,undef,undef,undef,undef,undef,undef,undef,undef,undef,undef],defers:=[] }) ?assign ?body ?done ?stop
     case own =>
      rintro k A B row ⟨h1,h2,h3,h4,h5,p,c,Z,h6,h7,h8,h9,h10⟩ hg hr
      exact⟨Zdn h1 hg hr (Nat.le_refl _) hBW2 (fun r q=>by rcases q with rfl|rfl;exact hp2;exact hq2),fr_ab h2 hg hr (fun r h=>by rcases h with rfl|rfl<;>simp),blk_ab h3 hg hr (fun r q=>by rcases q with rfl|rfl;exact hlp;exact hlq),h4,h5,p,c,Z,blk_ab h6 hg hr (fun r q=>by rcases q with rfl|rfl;exact h8p;exact h8q),own_ab h7 hg hr (fun r q=>by rcases q with rfl|rfl;exact hpl2;exact hql2),h8.ab hg hr (fun r q=>by rcases q with rfl|rfl;exact hpl2;exact hql2),h9,h10⟩
     case start =>
      exact⟨hBB2,Fr.refl _ _,k33,Nat.zero_le _,fun j hj=>absurd hj (by omega),none,0,[],k36,World.ownsRow_nil _ _ _ _,Xs.nil _ _,rfl,rfl⟩
     case assign =>
      intro lr i x W K hx hK
      refine Zba { tmps:=#[.pointer (some ⟨b,0,none⟩),.int .i64 top,.int .i64 details,.int .i64 data,.int .i64 fuel,undef,.pointer (some ⟨b1,0,none⟩),.pointer (some ⟨b2,0,none⟩),undef,undef,.pointer (some ⟨b3,0,none⟩),.pointer (some ⟨b4,0,none⟩),.pointer (some ⟨b10,0,none⟩),.nilIface,.pointer (some ⟨b17,0,none⟩),undef,undef,.pointer (some ⟨b34,0,none⟩),.pointer (some ⟨b36,0,none⟩),undef,undef,undef,undef,.tuple #[.agg #[.slice pd ((Zd l details 3 fuel).es.length) cd,.slice pb5 nb5 cb5,.int .i64 dp5,.int .i64 lk5,.slice pf5 0 cf5],.nilIface],.pointer (some ⟨b,0,none⟩),.int .i64 details,.int .i64 fuel,.tuple #[.agg #[.slice pd ((Zd l details 3 fuel).es.length) cd,.slice pb5 nb5 cb5,.int .i64 dp5,.int .i64 lk5,.slice pf5 0 cf5],.nilIface],.agg #[.slice pd ((Zd l details 3 fuel).es.length) cd,.slice pb5 nb5 cb5,.int .i64 dp5,.int .i64 lk5,.slice pf5 0 cf5],.nilIface,.nilIface,.bool false,undef,.tuple #[.agg #[.slice pt ((Zd l top 1 fuel).es.length) ct,.slice pb12 nb12 cb12,.int .i64 dp12,.int .i64 lk12,.slice pf12 0 cf12],.nilIface],.pointer (some ⟨b,0,none⟩),.int .i64 top,.int .i64 fuel,.tuple #[.agg #[.slice pt ((Zd l top 1 fuel).es.length) ct,.slice pb12 nb12 cb12,.int .i64 dp12,.int .i64 lk12,.slice pf12 0 cf12],.nilIface],.agg #[.slice pt ((Zd l top 1 fuel).es.length) ct,.slice pb12 nb12 cb12,.int .i64 dp12,.int .i64 lk12,.slice pf12 0 cf12],.nilIface,.nilIface,.bool false,undef,.pointer (some ⟨b10,0,none⟩),.slice pd ((Zd l details 3 fuel).es.length) cd,.int .i64 (↑((Zd l details 3 fuel).es.length):Int),.bool (decide ((↑((Zd l details 3 fuel).es.length):Int)>(4096:Int))),undef,undef,.pointer (some ⟨b10,0,none⟩),.slice pd ((Zd l details 3 fuel).es.length) cd,.pointer (some ⟨b17,0,none⟩),.slice pt ((Zd l top 1 fuel).es.length) ct,.func (.func 71) #[] #[.pointer (some ⟨p1,0,none⟩),.pointer (some ⟨q1,0,none⟩)],undef,undef,undef,undef,undef,undef,undef,undef,undef,undef,undef,undef,.pointer (some ⟨b,0,none⟩),.int .i64 data,.int .i64 fuel,.agg #[.pointer (some ⟨b,0,none⟩),.int .i64 data,.int .i64 fuel,.int .i64 0],.pointer (some ⟨b33,0,none⟩),.pointer (some ⟨b10,0,none⟩),.slice pd ((Zd l details 3 fuel).es.length) cd,.pointer (some ⟨b17,0,none⟩),.slice pt ((Zd l top 1 fuel).es.length) ct,.func (.func 71) #[] #[.pointer (some ⟨p2,0,none⟩),.pointer (some ⟨q2,0,none⟩)],(Cu ga2 oa2 x.1),(Cu gb2 ob2 x.2),undef,undef,undef,undef,undef,undef,undef,undef,undef,undef,undef,undef,undef,undef,undef,undef,undef,undef,undef],defers:=[] } (by kernel_rfl) ?_
      refine wpIn_seq ?_
      refine Vv (fun⟨_,_,q⟩=>q) (by simp) ?_
      refine Gk 1 [(19,(Cu ga2 oa2 x.1))] (by kernel_rfl) ?_
      refine wpList_nil ?_
      refine Vv (fun⟨_,_,q⟩=>q) (by simp) ?_
      refine Gk 1 [(20,(Cu gb2 ob2 x.2))] (by kernel_rfl) ?_
      refine wpList_nil ?_
      exact hK
     case body =>
      rintro lr i x W hlr hx ⟨hbw,hF,kl,hsm,hdk,p,cp,Z,k8,ho,hMo,hZl,hZd⟩
      obtain⟨hin,rfl⟩:=(Sn hall).2 _ _ hx
      have hnn:(Zd l details 3 fuel).es.length=(Zd l top 1 fuel).es.length:=hnl
      have hBr:w.heap.size≤W.heap.size:=Nat.le_trans hBW2 hF.size
      have hIw:=hI.below hbw
      have hZ:RdS W37 [b3,b4,b33,b36] W W:=RdS.refl _ hF.size
      have r2_b1:=m2_b1.fr hF (by simp only[List.mem_cons,List.not_mem_nil,or_false];rintro(h|h|h|h);omega;omega;exact xb1_b33 h;exact yb1_b36 h)
      have r2_b2:=m2_b2.fr hF (by simp only[List.mem_cons,List.not_mem_nil,or_false];rintro(h|h|h|h);omega;omega;exact xb2_b33 h;exact yb2_b36 h)
      have r2_b3:=m2_b3.fr hF (by simp only[List.mem_cons,List.not_mem_nil,or_false];rintro(h|h|h|h);omega;omega;exact xb3_b33 h;exact yb3_b36 h)
      have r2_b4:=m2_b4.fr hF (by simp only[List.mem_cons,List.not_mem_nil,or_false];rintro(h|h|h|h);omega;omega;exact xb4_b33 h;exact yb4_b36 h)
      have r2_b10:=m2_b10.fr hF (by simp only[List.mem_cons,List.not_mem_nil,or_false];rintro(h|h|h|h);omega;omega;exact xb10_b33 h;exact yb10_b36 h)
      have r2_b17:=m2_b17.fr hF (by simp only[List.mem_cons,List.not_mem_nil,or_false];rintro(h|h|h|h);omega;omega;exact xb17_b33 h;exact yb17_b36 h)
      have r2_b34:=m2_b34.fr hF (by simp only[List.mem_cons,List.not_mem_nil,or_false];rintro(h|h|h|h);omega;omega;exact xb34_b33 h;exact yb34_b36 h)
      have ea:=Zc6 (i:=i) (hga2 (by omega))
      have eb:=Zc6 (i:=i) (hgb2 (by omega))
      refine Zba { tmps:=#[.pointer (some ⟨b,0,none⟩),.int .i64 top,.int .i64 details,.int .i64 data,.int .i64 fuel,undef,.pointer (some ⟨b1,0,none⟩),.pointer (some ⟨b2,0,none⟩),undef,undef,.pointer (some ⟨b3,0,none⟩),.pointer (some ⟨b4,0,none⟩),.pointer (some ⟨b10,0,none⟩),.nilIface,.pointer (some ⟨b17,0,none⟩),undef,undef,.pointer (some ⟨b34,0,none⟩),.pointer (some ⟨b36,0,none⟩),.pointer (some (Xi pd (i*3))),.pointer (some (Xi pt (i*3))),undef,undef,.tuple #[.agg #[.slice pd ((Zd l details 3 fuel).es.length) cd,.slice pb5 nb5 cb5,.int .i64 dp5,.int .i64 lk5,.slice pf5 0 cf5],.nilIface],.pointer (some ⟨b,0,none⟩),.int .i64 details,.int .i64 fuel,.tuple #[.agg #[.slice pd ((Zd l details 3 fuel).es.length) cd,.slice pb5 nb5 cb5,.int .i64 dp5,.int .i64 lk5,.slice pf5 0 cf5],.nilIface],.agg #[.slice pd ((Zd l details 3 fuel).es.length) cd,.slice pb5 nb5 cb5,.int .i64 dp5,.int .i64 lk5,.slice pf5 0 cf5],.nilIface,.nilIface,.bool false,undef,.tuple #[.agg #[.slice pt ((Zd l top 1 fuel).es.length) ct,.slice pb12 nb12 cb12,.int .i64 dp12,.int .i64 lk12,.slice pf12 0 cf12],.nilIface],.pointer (some ⟨b,0,none⟩),.int .i64 top,.int .i64 fuel,.tuple #[.agg #[.slice pt ((Zd l top 1 fuel).es.length) ct,.slice pb12 nb12 cb12,.int .i64 dp12,.int .i64 lk12,.slice pf12 0 cf12],.nilIface],.agg #[.slice pt ((Zd l top 1 fuel).es.length) ct,.slice pb12 nb12 cb12,.int .i64 dp12,.int .i64 lk12,.slice pf12 0 cf12],.nilIface,.nilIface,.bool false,undef,.pointer (some ⟨b10,0,none⟩),.slice pd ((Zd l details 3 fuel).es.length) cd,.int .i64 (↑((Zd l details 3 fuel).es.length):Int),.bool (decide ((↑((Zd l details 3 fuel).es.length):Int)>(4096:Int))),undef,undef,.pointer (some ⟨b10,0,none⟩),.slice pd ((Zd l details 3 fuel).es.length) cd,.pointer (some ⟨b17,0,none⟩),.slice pt ((Zd l top 1 fuel).es.length) ct,.func (.func 71) #[] #[.pointer (some ⟨p1,0,none⟩),.pointer (some ⟨q1,0,none⟩)],undef,undef,undef,undef,undef,undef,undef,undef,undef,undef,undef,undef,.pointer (some ⟨b,0,none⟩),.int .i64 data,.int .i64 fuel,.agg #[.pointer (some ⟨b,0,none⟩),.int .i64 data,.int .i64 fuel,.int .i64 0],.pointer (some ⟨b33,0,none⟩),.pointer (some ⟨b10,0,none⟩),.slice pd ((Zd l details 3 fuel).es.length) cd,.pointer (some ⟨b17,0,none⟩),.slice pt ((Zd l top 1 fuel).es.length) ct,.func (.func 71) #[] #[.pointer (some ⟨p2,0,none⟩),.pointer (some ⟨q2,0,none⟩)],.pointer (some (Xi pd (i*3))),.pointer (some (Xi pt (i*3))),undef,undef,undef,undef,undef,undef,undef,undef,undef,undef,undef,undef,undef,undef,undef,undef,undef,undef,undef],defers:=[] } (by simp only[ea,eb]) ?_
      have hd9:=Rq md2 hF (fun d hd=>by simp only[List.mem_cons,List.not_mem_nil,or_false];rintro(h|h|h|h);exact Xn md2 m2_p2 (by decide) d hd h;exact Xn md2 m2_q2 (by decide) d hd h;exact Xn md2 m2_b33 (by decide) d hd h;exact Xn md2 m2_b36 (by decide) d hd h)
      have ht9:=Rq mt2 hF (fun d hd=>by simp only[List.mem_cons,List.not_mem_nil,or_false];rintro(h|h|h|h);exact Xn mt2 m2_p2 (by decide) d hd h;exact Xn mt2 m2_q2 (by decide) d hd h;exact Xn mt2 m2_b33 (by decide) d hd h;exact Xn mt2 m2_b36 (by decide) d hd h)
      refine wpIn_block ?_
      refine wpIn_seq ?_
      have hB:=blB (Below.refl w.heap.size W) hBr (Zb W)
      replace r2_b1:=r2_b1.below (Zb W)
      replace r2_b2:=r2_b2.below (Zb W)
      replace r2_b3:=r2_b3.below (Zb W)
      replace r2_b4:=r2_b4.below (Zb W)
      replace r2_b10:=r2_b10.below (Zb W)
      replace r2_b17:=r2_b17.below (Zb W)
      replace kl:=kl.below (Zb W)
      replace r2_b34:=r2_b34.below (Zb W)
      replace k8:=k8.below (Zb W)
      replace hZ:=hZ.below (Zb W)
      replace hd9:=Za hd9 (Zb W)
      replace ht9:=Za ht9 (Zb W)
      replace ho:=Za ho (Zb W)
      replace hMo:=hMo.below (Zb W)
      refine h_regIn (fun V=>Below w.heap.size (W.drew) V∧Ze [98] (W.drew) V) 14 rfl #[false,false,false,false,false,false,false,false,false,false,false,false,false,false] rfl (by kernel_rfl) (fun⟨_,_,q⟩=>q) (by simp) ⟨Below.refl _ _,Ze.refl _ _⟩ ?_
      intro hS38
      have hBd40:=hB
      have kd40_b1:=r2_b1
      have kd40_b2:=r2_b2
      have kd40_b3:=r2_b3
      have kd40_b4:=r2_b4
      have kd40_b10:=r2_b10
      have kd40_b17:=r2_b17
      have kd40_b33:=kl
      have kd40_b34:=r2_b34
      have kd40_b36:=k8
      have fd_hd9:=hd9
      have fd_ht9:=ht9
      have fd_ho:=ho
      refine h_load 0 13 rfl ⟨b34,0,none⟩ (.pointer (some ⟨b33,0,none⟩)) rfl (by kernel_rfl) (by kernel_rfl) (by kernel_rfl) (fun _ _ _ _ _ h=>h) (by kernel_rfl) rfl (by kernel_rfl) (by kernel_rfl) (fun V hV=>((kd40_b34.only hV.2 (by decide)).cell (i:=0) rfl)) hS38 ?_
      refine Zcj [1,2] 11 rfl #[true,true,true,false,false,false,false,false,false,false,false,false,false,false] [(80,.pointer (some (Xi pd (i*3)))),(81,.pointer (some (Xi pd (i*3))))] (by kernel_rfl) (fun _ _ _ _ _ h=>h) (by kernel_rfl) hS38 ?_
      refine h_val 3 10 rfl (.agg #[.int .i64 (((Zd l details 3 fuel).es.getD i Zi).1),.string ⟨(((Zd l details 3 fuel).es.getD i Zi).2.1).toArray⟩,.int .i64 (((Zd l details 3 fuel).es.getD i Zi).2.2)]) rfl (by kernel_rfl) (by kernel_rfl) (by kernel_rfl) (fun _ _ _ _ _ h=>h) (by kernel_rfl) (fun V hV=>Ta (k:=i) Xm Zi _ rfl (by kernel_rfl) (Zg (Zl fd_hd9 hV.2 (by decide))) (by omega) (by decide) Tryz.underlying74 rfl (by kernel_rfl)) hS38 ?_
      refine Zcj [4,5] 8 rfl #[true,true,true,true,true,true,false,false,false,false,false,false,false,false] [(83,.pointer (some (Xi pt (i*3)))),(84,.pointer (some (Xi pt (i*3))))] (by kernel_rfl) (fun _ _ _ _ _ h=>h) (by kernel_rfl) hS38 ?_
      refine h_val 6 7 rfl (.agg #[.int .i64 (((Zd l top 1 fuel).es.getD i Zi).1),.string ⟨(((Zd l top 1 fuel).es.getD i Zi).2.1).toArray⟩,.int .i64 (((Zd l top 1 fuel).es.getD i Zi).2.2)]) rfl (by kernel_rfl) (by kernel_rfl) (by kernel_rfl) (fun _ _ _ _ _ h=>h) (by kernel_rfl) (fun V hV=>Ta (k:=i) Xm Zi _ rfl (by kernel_rfl) (Zg (Zl fd_ht9 hV.2 (by decide))) (by omega) (by decide) Tryz.underlying74 rfl (by kernel_rfl)) hS38 ?_
      refine h_two 7 11 6 rfl (by kernel_rfl) rfl rfl (by kernel_rfl) (by kernel_rfl) ?_ ?_
      ·have kl9:=kl
       have hcw:=Nat.le_trans hF.size hZ.le
       refine Jr (lb:=#[]) 33 #[.pointer (some ⟨b33,0,none⟩),.agg #[.int .i64 (((Zd l details 3 fuel).es.getD i Zi).1),.string ⟨(((Zd l details 3 fuel).es.getD i Zi).2.1).toArray⟩,.int .i64 (((Zd l details 3 fuel).es.getD i Zi).2.2)],.agg #[.int .i64 (((Zd l top 1 fuel).es.getD i Zi).1),.string ⟨(((Zd l top 1 fuel).es.getD i Zi).2.1).toArray⟩,.int .i64 (((Zd l top 1 fuel).es.getD i Zi).2.2)]] rfl (by kernel_rfl) (fun _ _=>by kernel_rfl) (by kernel_rfl) ((Ef w.heap.size Bi b33 b pi ni ci l data fuel (Au l (Zd l top 1 fuel).es data fuel i) ((Zd l details 3 fuel).es.getD i Zi) ((Zd l top 1 fuel).es.getD i Zi) _ (hI.below (hbw.trans hB)) kl hfu (Qc _ _ _ _ i (by omega)) (Qc _ _ _ _ i (by omega)) hsm hgl (Nat.le_trans hBr hB.size)).mono ?_)
       rintro e W41 hq41
       rcases hq41 with ⟨hde,tyd,vd,rfl,hb41,hO41,hX41,hv9⟩|⟨hde,pm,cm,rfl,hb41,hO41,hX41,kl41,hom⟩
       ·refine⟨_,rfl,?_⟩
        replace hB:=hB.trans hb41
        replace r2_b1:=r2_b1.only hO41 (by decide)
        replace r2_b2:=r2_b2.only hO41 (by decide)
        replace r2_b3:=r2_b3.only hO41 (by decide)
        replace r2_b4:=r2_b4.only hO41 (by decide)
        replace r2_b10:=r2_b10.only hO41 (by decide)
        replace r2_b17:=r2_b17.only hO41 (by decide)
        replace r2_b34:=r2_b34.only hO41 (by decide)
        replace k8:=k8.only hO41 (by decide)
        replace hZ:=hZ.frm hX41 kl9 (by simp)
        replace hd9:=Zl hd9 hO41 (by decide)
        replace ht9:=Zl ht9 hO41 (by decide)
        replace ho:=Zl ho hO41 (by decide)
        replace hMo:=hMo.only hO41 (by decide)
        have hS42:Below w.heap.size (W.drew) (W41)∧Ze [98] (W.drew) (W41):=⟨hS38.1.trans hb41,hS38.2.trans hO41⟩
        refine⟨hS42,?_⟩
        refine Zcj [8,9,10] 3 rfl #[true,true,true,true,true,true,true,true,true,true,true,false,false,false] [(78,.tuple #[.agg #[.int .i64 0,.int .i64 0,.int .i64 0,.int .i64 0,.slice none 0 0],.iface tyd (vd)]),(87,.agg #[.int .i64 0,.int .i64 0,.int .i64 0,.int .i64 0,.slice none 0 0]),(88,.iface tyd (vd))] (by kernel_rfl) (fun _ _ _ _ _ h=>h) (by kernel_rfl) hS42 ?_
        refine Wc 11 2 rfl (by kernel_rfl) rfl (by kernel_rfl) (Kb [.int .i64 0,.int .i64 0,.int .i64 0,.int .i64 0,.slice none 0 0] rfl (by kernel_rfl) ?_)
        intro b43 W43 n43
        have d43_b1:=n43.ne r2_b1
        have d43_b2:=n43.ne r2_b2
        have d43_b3:=n43.ne r2_b3
        have d43_b4:=n43.ne r2_b4
        have d43_b10:=n43.ne r2_b10
        have d43_b17:=n43.ne r2_b17
        have d43_b34:=n43.ne r2_b34
        have d43_b36:=n43.ne k8
        have g43:=n43.ge0 hB
        have r43_ho:=Zp ho n43
        have gd_b43:(W.drew).heap.size≤b43:=by have:=hS42.1.size;have:=n43.at_;omega
        replace hB:=blB hB hBr n43.below
        replace r2_b1:=r2_b1.below n43.below
        replace r2_b2:=r2_b2.below n43.below
        replace r2_b3:=r2_b3.below n43.below
        replace r2_b4:=r2_b4.below n43.below
        replace r2_b10:=r2_b10.below n43.below
        replace r2_b17:=r2_b17.below n43.below
        replace r2_b34:=r2_b34.below n43.below
        replace k8:=k8.below n43.below
        replace hZ:=hZ.below n43.below
        replace hd9:=Za hd9 n43.below
        replace ht9:=Za ht9 n43.below
        replace ho:=Za ho n43.below
        replace hMo:=hMo.below n43.below
        replace hv9:=hv9.below n43.below
        have k43:=n43.blk
        have hS44:Below w.heap.size (W.drew) (W43)∧Ze [98] (W.drew) (W43):=⟨blB hS42.1 (Nat.le_trans hBr hBd40.size) n43.below,hS42.2.trans (Ze.of_below n43.below)⟩
        refine⟨hS44,?_⟩
        refine Wc 12 1 rfl (by kernel_rfl) rfl (by kernel_rfl) (Kl (b:=b43) (off:=0) [.int .i64 0,.int .i64 0,.int .i64 0,.int .i64 0,.slice none 0 0] rfl (by kernel_rfl) (by kernel_rfl) (by kernel_rfl) (by first|decide|simp[Value.oneCell']) k43 (by first|decide|simp) ?_)
        intro W45 u45 k45
        change Blk _ _ [.int .i64 0,.int .i64 0,.int .i64 0,.int .i64 0,.slice none 0 0] _ at k45
        replace hB:=u45.below hB (Nat.le_trans hBr g43)
        replace r2_b1:=u45.blk r2_b1 (Ne.symm (Ne.symm d43_b1))
        replace r2_b2:=u45.blk r2_b2 (Ne.symm (Ne.symm d43_b2))
        replace r2_b3:=u45.blk r2_b3 (Ne.symm (Ne.symm d43_b3))
        replace r2_b4:=u45.blk r2_b4 (Ne.symm (Ne.symm d43_b4))
        replace r2_b10:=u45.blk r2_b10 (Ne.symm (Ne.symm d43_b10))
        replace r2_b17:=u45.blk r2_b17 (Ne.symm (Ne.symm d43_b17))
        replace r2_b34:=u45.blk r2_b34 (Ne.symm (Ne.symm d43_b34))
        replace k8:=u45.blk k8 (Ne.symm (Ne.symm d43_b36))
        replace hZ:=hZ.upd u45 k43 (.inr (Nat.le_trans hF.size gd_b43))
        replace hd9:=u45.own2 hd9 k43 (by decide)
        replace ht9:=u45.own2 ht9 k43 (by decide)
        replace ho:=u45.own3 ho r43_ho
        replace hMo:=hMo.only (Ze.of_upd (T:=[82]) u45 k43 (by decide)) (by decide)
        replace hv9:=hv9.only (Ze.of_upd (T:=[82]) u45 k43 (by decide)) (by decide)
        have hS46:Below w.heap.size (W.drew) (W45)∧Ze [98] (W.drew) (W45):=⟨u45.below hS44.1 (Nat.le_trans hBr g43),Ze.upd_new hS44.2 u45 gd_b43⟩
        refine⟨hS46,?_⟩
        refine Zcj [13] 0 rfl #[true,true,true,true,true,true,true,true,true,true,true,true,true,true] [(22,.iface tyd (vd))] (by kernel_rfl) (fun _ _ _ _ _ h=>h) (by kernel_rfl) hS46 ?_
        refine Ds _ (by kernel_rfl) ?_
        refine wpIn_seq ?_
        refine wpIn_seq ?_
        refine Vv (fun⟨_,_,q⟩=>q) (by simp) ?_
        refine Gk 2 [(89,.iface tyd (vd)),(90,.bool true)] (by kernel_rfl) ?_
        refine wpList_nil ?_
        refine wpIn_cond_true (by kernel_rfl) ?_
        refine wpIn_seq ?_
        refine Vv (fun⟨_,_,q⟩=>q) (by simp) ?_
        refine Gk 1 [(91,.iface tyd (vd))] (by kernel_rfl) ?_
        refine Vl (by kernel_rfl) (Xx (v:=.slice none 0 0) (b:=b3) (off:=0) rfl (by kernel_rfl) (by kernel_rfl) (by kernel_rfl) rfl r2_b3 (by first|decide|simp) ?_)
        intro W47 u47 k47
        change Blk _ _ [.slice none 0 0] _ at k47
        replace hB:=u47.below hB g3
        replace r2_b1:=u47.blk r2_b1 (Ne.symm (Ne.symm d3_b1))
        replace r2_b2:=u47.blk r2_b2 (Ne.symm (Ne.symm d3_b2))
        replace r2_b4:=u47.blk r2_b4 (Ne.symm d4_b3)
        replace r2_b10:=u47.blk r2_b10 (Ne.symm d10_b3)
        replace r2_b17:=u47.blk r2_b17 (Ne.symm d17_b3)
        replace r2_b34:=u47.blk r2_b34 (Ne.symm d34_b3)
        replace k8:=u47.blk k8 (Ne.symm d36_b3)
        replace k45:=u47.blk k45 (Ne.symm d43_b3)
        replace hZ:=hZ.upd u47 r2_b3 (.inl (by simp))
        replace hd9:=u47.own2 hd9 r2_b3 (by decide)
        replace ht9:=u47.own2 ht9 r2_b3 (by decide)
        replace ho:=u47.own2 ho r2_b3 (by decide)
        replace hMo:=hMo.only (Ze.of_upd (T:=[24]) u47 r2_b3 (by decide)) (by decide)
        replace hv9:=hv9.only (Ze.of_upd (T:=[24]) u47 r2_b3 (by decide)) (by decide)
        refine Vl (by kernel_rfl) (Xx (v:=.iface tyd (vd)) (b:=b4) (off:=0) rfl (by kernel_rfl) (by kernel_rfl) (by kernel_rfl) rfl r2_b4 (by first|decide|simp) ?_)
        intro W48 u48 k48
        change Blk _ _ [.iface tyd (vd)] _ at k48
        replace hB:=u48.below hB g4
        replace r2_b1:=u48.blk r2_b1 (Ne.symm (Ne.symm d4_b1))
        replace r2_b2:=u48.blk r2_b2 (Ne.symm (Ne.symm d4_b2))
        replace k47:=u48.blk k47 (Ne.symm (Ne.symm d4_b3))
        replace r2_b10:=u48.blk r2_b10 (Ne.symm d10_b4)
        replace r2_b17:=u48.blk r2_b17 (Ne.symm d17_b4)
        replace r2_b34:=u48.blk r2_b34 (Ne.symm d34_b4)
        replace k8:=u48.blk k8 (Ne.symm d36_b4)
        replace k45:=u48.blk k45 (Ne.symm d43_b4)
        replace hZ:=hZ.upd u48 r2_b4 (.inl (by simp))
        replace hd9:=u48.own2 hd9 r2_b4 (by decide)
        replace ht9:=u48.own2 ht9 r2_b4 (by decide)
        replace ho:=u48.own2 ho r2_b4 (by decide)
        replace hMo:=hMo.only (Ze.of_upd (T:=[26]) u48 r2_b4 (by decide)) (by decide)
        replace hv9:=hv9.only (Ze.of_upd (T:=[26]) u48 r2_b4 (by decide)) (by decide)
        refine wpList_nil ?_
        refine wpIn_ret (Cy (Qa ?_))
        exact⟨hZ.ko.from _,rfl,hZ.ko.same D1 _ ((hF.block D1 hD1l hKf).trans hK7) rfl,_,_,_,_,((Yc hfd hft (by omega) hpz).trans (Yw (i:=i) (by omega) hdk hde)),hde,k47,k48,hv9,hbw.trans hB⟩
       ·refine⟨_,rfl,?_⟩
        replace hB:=hB.trans hb41
        replace r2_b1:=r2_b1.only hO41 (by decide)
        replace r2_b2:=r2_b2.only hO41 (by decide)
        replace r2_b3:=r2_b3.only hO41 (by decide)
        replace r2_b4:=r2_b4.only hO41 (by decide)
        replace r2_b10:=r2_b10.only hO41 (by decide)
        replace r2_b17:=r2_b17.only hO41 (by decide)
        replace r2_b34:=r2_b34.only hO41 (by decide)
        replace k8:=k8.only hO41 (by decide)
        replace hZ:=hZ.frm hX41 kl9 (by simp)
        replace hd9:=Zl hd9 hO41 (by decide)
        replace ht9:=Zl ht9 hO41 (by decide)
        replace ho:=Zl ho hO41 (by decide)
        replace hMo:=hMo.only hO41 (by decide)
        replace hom:=Zf hom hcw
        have hS49:Below w.heap.size (W.drew) (W41)∧Ze [98] (W.drew) (W41):=⟨hS38.1.trans hb41,hS38.2.trans hO41⟩
        refine⟨hS49,?_⟩
        refine Zcj [8,9,10] 3 rfl #[true,true,true,true,true,true,true,true,true,true,true,false,false,false] [(78,.tuple #[.agg #[.int .i64 (((Zd l details 3 fuel).es.getD i Zi).1),.int .i64 (↑(Yi ((Zd l details 3 fuel).es.getD i Zi).2.1 1):Int),.int .i64 (↑(Yi ((Zd l details 3 fuel).es.getD i Zi).2.1 2):Int),.int .i64 (↑(Yi ((Zd l details 3 fuel).es.getD i Zi).2.1 3):Int),.slice pm ((Ys l ((Zd l top 1 fuel).es.getD i Zi) data fuel).2.2.length) cm],.nilIface]),(87,.agg #[.int .i64 (((Zd l details 3 fuel).es.getD i Zi).1),.int .i64 (↑(Yi ((Zd l details 3 fuel).es.getD i Zi).2.1 1):Int),.int .i64 (↑(Yi ((Zd l details 3 fuel).es.getD i Zi).2.1 2):Int),.int .i64 (↑(Yi ((Zd l details 3 fuel).es.getD i Zi).2.1 3):Int),.slice pm ((Ys l ((Zd l top 1 fuel).es.getD i Zi) data fuel).2.2.length) cm]),(88,.nilIface)] (by kernel_rfl) (fun _ _ _ _ _ h=>h) (by kernel_rfl) hS49 ?_
        refine Wc 11 2 rfl (by kernel_rfl) rfl (by kernel_rfl) (Kb [.int .i64 0,.int .i64 0,.int .i64 0,.int .i64 0,.slice none 0 0] rfl (by kernel_rfl) ?_)
        intro b50 W50 n50
        have d50_b1:=n50.ne r2_b1
        have d50_b2:=n50.ne r2_b2
        have d50_b3:=n50.ne r2_b3
        have d50_b4:=n50.ne r2_b4
        have d50_b10:=n50.ne r2_b10
        have d50_b17:=n50.ne r2_b17
        have d50_b33:=n50.ne kl41
        have d50_b34:=n50.ne r2_b34
        have d50_b36:=n50.ne k8
        have g50:=n50.ge0 hB
        have r50_ho:=Zp ho n50
        have gd_b50:(W.drew).heap.size≤b50:=by have:=hS49.1.size;have:=n50.at_;omega
        replace hB:=blB hB hBr n50.below
        replace r2_b1:=r2_b1.below n50.below
        replace r2_b2:=r2_b2.below n50.below
        replace r2_b3:=r2_b3.below n50.below
        replace r2_b4:=r2_b4.below n50.below
        replace r2_b10:=r2_b10.below n50.below
        replace r2_b17:=r2_b17.below n50.below
        replace kl41:=kl41.below n50.below
        replace r2_b34:=r2_b34.below n50.below
        replace k8:=k8.below n50.below
        replace hZ:=hZ.below n50.below
        replace hd9:=Za hd9 n50.below
        replace ht9:=Za ht9 n50.below
        replace ho:=Za ho n50.below
        replace hMo:=hMo.below n50.below
        replace hom:=Za hom n50.below
        have k50:=n50.blk
        have hS51:Below w.heap.size (W.drew) (W50)∧Ze [98] (W.drew) (W50):=⟨blB hS49.1 (Nat.le_trans hBr hBd40.size) n50.below,hS49.2.trans (Ze.of_below n50.below)⟩
        refine⟨hS51,?_⟩
        refine Wc 12 1 rfl (by kernel_rfl) rfl (by kernel_rfl) (Kl (b:=b50) (off:=0) [.int .i64 (((Zd l details 3 fuel).es.getD i Zi).1),.int .i64 (↑(Yi ((Zd l details 3 fuel).es.getD i Zi).2.1 1):Int),.int .i64 (↑(Yi ((Zd l details 3 fuel).es.getD i Zi).2.1 2):Int),.int .i64 (↑(Yi ((Zd l details 3 fuel).es.getD i Zi).2.1 3):Int),.slice pm ((Ys l ((Zd l top 1 fuel).es.getD i Zi) data fuel).2.2.length) cm] rfl (by kernel_rfl) (by kernel_rfl) (by kernel_rfl) (by first|decide|simp[Value.oneCell']) k50 (by first|decide|simp) ?_)
        intro W52 u52 k52
        change Blk _ _ [.int .i64 (((Zd l details 3 fuel).es.getD i Zi).1),.int .i64 (↑(Yi ((Zd l details 3 fuel).es.getD i Zi).2.1 1):Int),.int .i64 (↑(Yi ((Zd l details 3 fuel).es.getD i Zi).2.1 2):Int),.int .i64 (↑(Yi ((Zd l details 3 fuel).es.getD i Zi).2.1 3):Int),.slice pm ((Ys l ((Zd l top 1 fuel).es.getD i Zi) data fuel).2.2.length) cm] _ at k52
        replace hB:=u52.below hB (Nat.le_trans hBr g50)
        replace r2_b1:=u52.blk r2_b1 (Ne.symm (Ne.symm d50_b1))
        replace r2_b2:=u52.blk r2_b2 (Ne.symm (Ne.symm d50_b2))
        replace r2_b3:=u52.blk r2_b3 (Ne.symm (Ne.symm d50_b3))
        replace r2_b4:=u52.blk r2_b4 (Ne.symm (Ne.symm d50_b4))
        replace r2_b10:=u52.blk r2_b10 (Ne.symm (Ne.symm d50_b10))
        replace r2_b17:=u52.blk r2_b17 (Ne.symm (Ne.symm d50_b17))
        replace kl41:=u52.blk kl41 (Ne.symm (Ne.symm d50_b33))
        replace r2_b34:=u52.blk r2_b34 (Ne.symm (Ne.symm d50_b34))
        replace k8:=u52.blk k8 (Ne.symm (Ne.symm d50_b36))
        replace hZ:=hZ.upd u52 k50 (.inr (Nat.le_trans hF.size gd_b50))
        replace hd9:=u52.own2 hd9 k50 (by decide)
        replace ht9:=u52.own2 ht9 k50 (by decide)
        replace ho:=u52.own3 ho r50_ho
        replace hMo:=hMo.only (Ze.of_upd (T:=[82]) u52 k50 (by decide)) (by decide)
        replace hom:=u52.own2 hom k50 (by decide)
        have hS53:Below w.heap.size (W.drew) (W52)∧Ze [98] (W.drew) (W52):=⟨u52.below hS51.1 (Nat.le_trans hBr g50),Ze.upd_new hS51.2 u52 gd_b50⟩
        refine⟨hS53,?_⟩
        refine Zcj [13] 0 rfl #[true,true,true,true,true,true,true,true,true,true,true,true,true,true] [(22,.nilIface)] (by kernel_rfl) (fun _ _ _ _ _ h=>h) (by kernel_rfl) hS53 ?_
        refine Ds _ (by kernel_rfl) ?_
        refine wpIn_seq ?_
        refine wpIn_seq ?_
        refine Vv (fun⟨_,_,q⟩=>q) (by simp) ?_
        refine Gk 2 [(89,.nilIface),(90,.bool false)] (by kernel_rfl) ?_
        refine wpList_nil ?_
        refine wpIn_cond_false (by kernel_rfl) ?_
        refine wpIn_skip ?_
        refine Vv (fun⟨_,_,q⟩=>q) (by simp) ?_
        refine Vl (by kernel_rfl) (Qf ⟨b36,0,none⟩ (.slice p i cp) rfl (by kernel_rfl) (by kernel_rfl) (k8.cell (i:=0) rfl) ?_)
        refine Vl (by kernel_rfl) (Zcq (b:=b50) (off:=0) [.int .i64 (((Zd l details 3 fuel).es.getD i Zi).1),.int .i64 (↑(Yi ((Zd l details 3 fuel).es.getD i Zi).2.1 1):Int),.int .i64 (↑(Yi ((Zd l details 3 fuel).es.getD i Zi).2.1 2):Int),.int .i64 (↑(Yi ((Zd l details 3 fuel).es.getD i Zi).2.1 3):Int),.slice pm ((Ys l ((Zd l top 1 fuel).es.getD i Zi) data fuel).2.2.length) cm] _ rfl (by kernel_rfl) Tryz.underlying82 rfl (by kernel_rfl) k52.whole ?_)
        refine Vl (by kernel_rfl) (Vj 82 [.int .i64 (((Zd l details 3 fuel).es.getD i Zi).1),.int .i64 (↑(Yi ((Zd l details 3 fuel).es.getD i Zi).2.1 1):Int),.int .i64 (↑(Yi ((Zd l details 3 fuel).es.getD i Zi).2.1 2):Int),.int .i64 (↑(Yi ((Zd l details 3 fuel).es.getD i Zi).2.1 3):Int),.slice pm ((Ys l ((Zd l top 1 fuel).es.getD i Zi) data fuel).2.2.length) cm] rfl (by kernel_rfl) ?_)
        intro b54 W54 n54
        have d54_b1:=n54.ne r2_b1
        have d54_b2:=n54.ne r2_b2
        have d54_b3:=n54.ne r2_b3
        have d54_b4:=n54.ne r2_b4
        have d54_b10:=n54.ne r2_b10
        have d54_b17:=n54.ne r2_b17
        have d54_b33:=n54.ne kl41
        have d54_b34:=n54.ne r2_b34
        have d54_b36:=n54.ne k8
        have d54_b50:=n54.ne k52
        have g54:=n54.ge0 hB
        have r54_ho:=Zp ho n54
        replace hB:=blB hB hBr n54.below
        replace r2_b1:=r2_b1.below n54.below
        replace r2_b2:=r2_b2.below n54.below
        replace r2_b3:=r2_b3.below n54.below
        replace r2_b4:=r2_b4.below n54.below
        replace r2_b10:=r2_b10.below n54.below
        replace r2_b17:=r2_b17.below n54.below
        replace kl41:=kl41.below n54.below
        replace r2_b34:=r2_b34.below n54.below
        replace k8:=k8.below n54.below
        replace k52:=k52.below n54.below
        replace hZ:=hZ.below n54.below
        replace hd9:=Za hd9 n54.below
        replace ht9:=Za ht9 n54.below
        replace ho:=Za ho n54.below
        replace hMo:=hMo.below n54.below
        replace hom:=Za hom n54.below
        have k54:=n54.blk
        refine Vl (by kernel_rfl) (Zt (e:=82) (n:=i) (xs:=(Z.flatMap Ll)) (m:=1) (news:=[.int .i64 (((Zd l details 3 fuel).es.getD i Zi).1),.int .i64 (↑(Yi ((Zd l details 3 fuel).es.getD i Zi).2.1 1):Int),.int .i64 (↑(Yi ((Zd l details 3 fuel).es.getD i Zi).2.1 2):Int),.int .i64 (↑(Yi ((Zd l details 3 fuel).es.getD i Zi).2.1 3):Int),.slice pm ((Ys l ((Zd l top 1 fuel).es.getD i Zi) data fuel).2.2.length) cm]) (.agg #[.int .i64 0,.int .i64 0,.int .i64 0,.int .i64 0,.slice none 0 0]) 5 56 (i+1) (((Z++[(Zcz l ((Zd l details 3 fuel).es.getD i Zi) ((Zd l top 1 fuel).es.getD i Zi) data fuel,pm,cm)]).flatMap Ll)) rfl Tryz.underlying24 (by kernel_rfl) rfl (by decide) (by kernel_rfl) ho (by kernel_rfl) (k54.sl 1 1 (by decide) (by decide)) rfl (by simp[Value.oneCell']) (by unfold maxLen;omega) (by omega) (Nat.le_trans hZ.l0 hZ.le) (rfl) (by rw[List.flatMap_append];rfl) ?_)
        intro p55 c55 W55 o55 hg55 hb55
        replace r2_b1:=r2_b1.grown hg55 ho (by decide)
        replace r2_b2:=r2_b2.grown hg55 ho (by decide)
        replace r2_b3:=r2_b3.grown hg55 ho (by decide)
        replace r2_b4:=r2_b4.grown hg55 ho (by decide)
        replace r2_b10:=r2_b10.grown hg55 ho (by decide)
        replace r2_b17:=r2_b17.grown hg55 ho (by decide)
        replace kl41:=kl41.grown hg55 ho (by decide)
        replace r2_b34:=r2_b34.grown hg55 ho (by decide)
        replace k8:=k8.grown hg55 ho (by decide)
        replace k52:=k52.grown3 hg55 r50_ho
        replace hZ:=hZ.grown hg55 ho
        replace hd9:=Zh hd9 hg55 ho (by decide)
        replace ht9:=Zh ht9 hg55 ho (by decide)
        replace hMo:=hMo.only (Ze.of_grown (T:=[82]) hg55 ho (by decide)) (by decide)
        replace hom:=Zh hom hg55 ho (by decide)
        replace hB:=hB.trans (hb55.mono hBW2)
        refine Vl (by kernel_rfl) (Xx (v:=.slice p55 (i+1) c55) (b:=b36) (off:=0) rfl (by kernel_rfl) (by kernel_rfl) (by kernel_rfl) rfl k8 (by first|decide|simp) ?_)
        intro W56 u56 k56
        change Blk _ _ [.slice p55 (i+1) c55] _ at k56
        replace hB:=u56.below hB g36
        replace r2_b1:=u56.blk r2_b1 (Ne.symm (Ne.symm d36_b1))
        replace r2_b2:=u56.blk r2_b2 (Ne.symm (Ne.symm d36_b2))
        replace r2_b3:=u56.blk r2_b3 (Ne.symm (Ne.symm d36_b3))
        replace r2_b4:=u56.blk r2_b4 (Ne.symm (Ne.symm d36_b4))
        replace r2_b10:=u56.blk r2_b10 (Ne.symm (Ne.symm d36_b10))
        replace r2_b17:=u56.blk r2_b17 (Ne.symm (Ne.symm d36_b17))
        replace kl41:=u56.blk kl41 (Ne.symm (Ne.symm d36_b33))
        replace r2_b34:=u56.blk r2_b34 (Ne.symm (Ne.symm d36_b34))
        replace k52:=u56.blk k52 (Ne.symm d50_b36)
        replace hZ:=hZ.upd u56 k8 (.inl (by simp))
        replace hd9:=u56.own2 hd9 k8 (by decide)
        replace ht9:=u56.own2 ht9 k8 (by decide)
        replace hMo:=hMo.only (Ze.of_upd (T:=[24]) u56 k8 (by decide)) (by decide)
        replace hom:=u56.own2 hom k8 (by decide)
        replace o55:=u56.own2 o55 k8 (by decide)
        refine wpList_nil ?_
        exact⟨hZ.ko.from _,⟨hZ.le,fun d hd=>hZ.fr d (hlt2 d hd) (hks2 d hd)⟩,hbw.trans hB,Zhb hF hZ (fun k hk=>by simp only[List.mem_cons,List.not_mem_nil,or_false] at hk ⊢;rcases hk with rfl|rfl|rfl|rfl;exact .inr ((show _=_ from r2_b3).trans (show _=_ from m2_b3).symm);exact .inr ((show _=_ from r2_b4).trans (show _=_ from m2_b4).symm);exact .inl (by simp);exact .inl (by simp)),kl41,dev_sum hde,Mf hdk hde,_,_,_,k56,o55,(hMo.snoc (d:=Zcz l ((Zd l details 3 fuel).es.getD i Zi) ((Zd l top 1 fuel).es.getD i Zi) data fuel) rfl hom),by simp[hZl],by rw[List.map_append,hZd,Md];rfl⟩
      ·refine Kb [.int .i64 0,.int .i64 0,.int .i64 0,.int .i64 0,.slice none 0 0] rfl (by kernel_rfl) ?_
       intro b57 W57 n57
       have d57_b1:=n57.ne r2_b1
       have d57_b2:=n57.ne r2_b2
       have d57_b3:=n57.ne r2_b3
       have d57_b4:=n57.ne r2_b4
       have d57_b10:=n57.ne r2_b10
       have d57_b17:=n57.ne r2_b17
       have d57_b33:=n57.ne kl
       have d57_b34:=n57.ne r2_b34
       have d57_b36:=n57.ne k8
       have g57:=n57.ge0 hB
       have r57_ho:=Zp ho n57
       have gd_b57:(W.drew).heap.size≤b57:=by have:=hS38.1.size;have:=n57.at_;omega
       replace hB:=blB hB hBr n57.below
       replace r2_b1:=r2_b1.below n57.below
       replace r2_b2:=r2_b2.below n57.below
       replace r2_b3:=r2_b3.below n57.below
       replace r2_b4:=r2_b4.below n57.below
       replace r2_b10:=r2_b10.below n57.below
       replace r2_b17:=r2_b17.below n57.below
       replace kl:=kl.below n57.below
       replace r2_b34:=r2_b34.below n57.below
       replace k8:=k8.below n57.below
       replace hZ:=hZ.below n57.below
       replace hd9:=Za hd9 n57.below
       replace ht9:=Za ht9 n57.below
       replace ho:=Za ho n57.below
       replace hMo:=hMo.below n57.below
       have k57:=n57.blk
       have hS58:Below w.heap.size (W.drew) (W57)∧Ze [98] (W.drew) (W57):=⟨blB hS38.1 (Nat.le_trans hBr hBd40.size) n57.below,hS38.2.trans (Ze.of_below n57.below)⟩
       refine⟨hS58,?_⟩
       have kl9:=kl
       have hcw:=Nat.le_trans hF.size hZ.le
       refine Wc 7 5 rfl (by kernel_rfl) rfl (by kernel_rfl) (Jr (lb:=#[]) 33 #[.pointer (some ⟨b33,0,none⟩),.agg #[.int .i64 (((Zd l details 3 fuel).es.getD i Zi).1),.string ⟨(((Zd l details 3 fuel).es.getD i Zi).2.1).toArray⟩,.int .i64 (((Zd l details 3 fuel).es.getD i Zi).2.2)],.agg #[.int .i64 (((Zd l top 1 fuel).es.getD i Zi).1),.string ⟨(((Zd l top 1 fuel).es.getD i Zi).2.1).toArray⟩,.int .i64 (((Zd l top 1 fuel).es.getD i Zi).2.2)]] rfl (by kernel_rfl) (fun _ _=>by kernel_rfl) (by kernel_rfl) ((Ef w.heap.size Bi b33 b pi ni ci l data fuel (Au l (Zd l top 1 fuel).es data fuel i) ((Zd l details 3 fuel).es.getD i Zi) ((Zd l top 1 fuel).es.getD i Zi) _ (hI.below (hbw.trans hB)) kl hfu (Qc _ _ _ _ i (by omega)) (Qc _ _ _ _ i (by omega)) hsm hgl (Nat.le_trans hBr hB.size)).mono ?_))
       rintro e W59 hq59
       rcases hq59 with ⟨hde,tyd,vd,rfl,hb59,hO59,hX59,hv9⟩|⟨hde,pm,cm,rfl,hb59,hO59,hX59,kl59,hom⟩
       ·refine⟨_,rfl,?_⟩
        replace hB:=hB.trans hb59
        replace r2_b1:=r2_b1.only hO59 (by decide)
        replace r2_b2:=r2_b2.only hO59 (by decide)
        replace r2_b3:=r2_b3.only hO59 (by decide)
        replace r2_b4:=r2_b4.only hO59 (by decide)
        replace r2_b10:=r2_b10.only hO59 (by decide)
        replace r2_b17:=r2_b17.only hO59 (by decide)
        replace r2_b34:=r2_b34.only hO59 (by decide)
        replace k8:=k8.only hO59 (by decide)
        replace k57:=k57.only hO59 (by decide)
        replace hZ:=hZ.frm hX59 kl9 (by simp)
        replace hd9:=Zl hd9 hO59 (by decide)
        replace ht9:=Zl ht9 hO59 (by decide)
        replace ho:=Zl ho hO59 (by decide)
        replace hMo:=hMo.only hO59 (by decide)
        have hS60:Below w.heap.size (W.drew) (W59)∧Ze [98] (W.drew) (W59):=⟨hS58.1.trans hb59,hS58.2.trans hO59⟩
        refine⟨hS60,?_⟩
        refine Zcj [8,9,10] 2 rfl #[true,true,true,true,true,true,true,true,true,true,true,true,false,false] [(78,.tuple #[.agg #[.int .i64 0,.int .i64 0,.int .i64 0,.int .i64 0,.slice none 0 0],.iface tyd (vd)]),(87,.agg #[.int .i64 0,.int .i64 0,.int .i64 0,.int .i64 0,.slice none 0 0]),(88,.iface tyd (vd))] (by kernel_rfl) (fun _ _ _ _ _ h=>h) (by kernel_rfl) hS60 ?_
        refine Wc 12 1 rfl (by kernel_rfl) rfl (by kernel_rfl) (Kl (b:=b57) (off:=0) [.int .i64 0,.int .i64 0,.int .i64 0,.int .i64 0,.slice none 0 0] rfl (by kernel_rfl) (by kernel_rfl) (by kernel_rfl) (by first|decide|simp[Value.oneCell']) k57 (by first|decide|simp) ?_)
        intro W61 u61 k61
        change Blk _ _ [.int .i64 0,.int .i64 0,.int .i64 0,.int .i64 0,.slice none 0 0] _ at k61
        replace hB:=u61.below hB (Nat.le_trans hBr g57)
        replace r2_b1:=u61.blk r2_b1 (Ne.symm (Ne.symm d57_b1))
        replace r2_b2:=u61.blk r2_b2 (Ne.symm (Ne.symm d57_b2))
        replace r2_b3:=u61.blk r2_b3 (Ne.symm (Ne.symm d57_b3))
        replace r2_b4:=u61.blk r2_b4 (Ne.symm (Ne.symm d57_b4))
        replace r2_b10:=u61.blk r2_b10 (Ne.symm (Ne.symm d57_b10))
        replace r2_b17:=u61.blk r2_b17 (Ne.symm (Ne.symm d57_b17))
        replace r2_b34:=u61.blk r2_b34 (Ne.symm (Ne.symm d57_b34))
        replace k8:=u61.blk k8 (Ne.symm (Ne.symm d57_b36))
        replace hZ:=hZ.upd u61 k57 (.inr (Nat.le_trans hF.size gd_b57))
        replace hd9:=u61.own2 hd9 k57 (by decide)
        replace ht9:=u61.own2 ht9 k57 (by decide)
        replace ho:=u61.own3 ho r57_ho
        replace hMo:=hMo.only (Ze.of_upd (T:=[82]) u61 k57 (by decide)) (by decide)
        replace hv9:=hv9.only (Ze.of_upd (T:=[82]) u61 k57 (by decide)) (by decide)
        have hS62:Below w.heap.size (W.drew) (W61)∧Ze [98] (W.drew) (W61):=⟨u61.below hS60.1 (Nat.le_trans hBr g57),Ze.upd_new hS60.2 u61 gd_b57⟩
        refine⟨hS62,?_⟩
        refine Zcj [13] 0 rfl #[true,true,true,true,true,true,true,true,true,true,true,true,true,true] [(22,.iface tyd (vd))] (by kernel_rfl) (fun _ _ _ _ _ h=>h) (by kernel_rfl) hS62 ?_
        refine Ds _ (by kernel_rfl) ?_
        refine wpIn_seq ?_
        refine wpIn_seq ?_
        refine Vv (fun⟨_,_,q⟩=>q) (by simp) ?_
        refine Gk 2 [(89,.iface tyd (vd)),(90,.bool true)] (by kernel_rfl) ?_
        refine wpList_nil ?_
        refine wpIn_cond_true (by kernel_rfl) ?_
        refine wpIn_seq ?_
        refine Vv (fun⟨_,_,q⟩=>q) (by simp) ?_
        refine Gk 1 [(91,.iface tyd (vd))] (by kernel_rfl) ?_
        refine Vl (by kernel_rfl) (Xx (v:=.slice none 0 0) (b:=b3) (off:=0) rfl (by kernel_rfl) (by kernel_rfl) (by kernel_rfl) rfl r2_b3 (by first|decide|simp) ?_)
        intro W63 u63 k63
        change Blk _ _ [.slice none 0 0] _ at k63
        replace hB:=u63.below hB g3
        replace r2_b1:=u63.blk r2_b1 (Ne.symm (Ne.symm d3_b1))
        replace r2_b2:=u63.blk r2_b2 (Ne.symm (Ne.symm d3_b2))
        replace r2_b4:=u63.blk r2_b4 (Ne.symm d4_b3)
        replace r2_b10:=u63.blk r2_b10 (Ne.symm d10_b3)
        replace r2_b17:=u63.blk r2_b17 (Ne.symm d17_b3)
        replace r2_b34:=u63.blk r2_b34 (Ne.symm d34_b3)
        replace k8:=u63.blk k8 (Ne.symm d36_b3)
        replace k61:=u63.blk k61 (Ne.symm d57_b3)
        replace hZ:=hZ.upd u63 r2_b3 (.inl (by simp))
        replace hd9:=u63.own2 hd9 r2_b3 (by decide)
        replace ht9:=u63.own2 ht9 r2_b3 (by decide)
        replace ho:=u63.own2 ho r2_b3 (by decide)
        replace hMo:=hMo.only (Ze.of_upd (T:=[24]) u63 r2_b3 (by decide)) (by decide)
        replace hv9:=hv9.only (Ze.of_upd (T:=[24]) u63 r2_b3 (by decide)) (by decide)
        refine Vl (by kernel_rfl) (Xx (v:=.iface tyd (vd)) (b:=b4) (off:=0) rfl (by kernel_rfl) (by kernel_rfl) (by kernel_rfl) rfl r2_b4 (by first|decide|simp) ?_)
        intro W64 u64 k64
        change Blk _ _ [.iface tyd (vd)] _ at k64
        replace hB:=u64.below hB g4
        replace r2_b1:=u64.blk r2_b1 (Ne.symm (Ne.symm d4_b1))
        replace r2_b2:=u64.blk r2_b2 (Ne.symm (Ne.symm d4_b2))
        replace k63:=u64.blk k63 (Ne.symm (Ne.symm d4_b3))
        replace r2_b10:=u64.blk r2_b10 (Ne.symm d10_b4)
        replace r2_b17:=u64.blk r2_b17 (Ne.symm d17_b4)
        replace r2_b34:=u64.blk r2_b34 (Ne.symm d34_b4)
        replace k8:=u64.blk k8 (Ne.symm d36_b4)
        replace k61:=u64.blk k61 (Ne.symm d57_b4)
        replace hZ:=hZ.upd u64 r2_b4 (.inl (by simp))
        replace hd9:=u64.own2 hd9 r2_b4 (by decide)
        replace ht9:=u64.own2 ht9 r2_b4 (by decide)
        replace ho:=u64.own2 ho r2_b4 (by decide)
        replace hMo:=hMo.only (Ze.of_upd (T:=[26]) u64 r2_b4 (by decide)) (by decide)
        replace hv9:=hv9.only (Ze.of_upd (T:=[26]) u64 r2_b4 (by decide)) (by decide)
        refine wpList_nil ?_
        refine wpIn_ret (Cy (Qa ?_))
        exact⟨hZ.ko.from _,rfl,hZ.ko.same D1 _ ((hF.block D1 hD1l hKf).trans hK7) rfl,_,_,_,_,((Yc hfd hft (by omega) hpz).trans (Yw (i:=i) (by omega) hdk hde)),hde,k63,k64,hv9,hbw.trans hB⟩
       ·refine⟨_,rfl,?_⟩
        replace hB:=hB.trans hb59
        replace r2_b1:=r2_b1.only hO59 (by decide)
        replace r2_b2:=r2_b2.only hO59 (by decide)
        replace r2_b3:=r2_b3.only hO59 (by decide)
        replace r2_b4:=r2_b4.only hO59 (by decide)
        replace r2_b10:=r2_b10.only hO59 (by decide)
        replace r2_b17:=r2_b17.only hO59 (by decide)
        replace r2_b34:=r2_b34.only hO59 (by decide)
        replace k8:=k8.only hO59 (by decide)
        replace k57:=k57.only hO59 (by decide)
        replace hZ:=hZ.frm hX59 kl9 (by simp)
        replace hd9:=Zl hd9 hO59 (by decide)
        replace ht9:=Zl ht9 hO59 (by decide)
        replace ho:=Zl ho hO59 (by decide)
        replace hMo:=hMo.only hO59 (by decide)
        replace hom:=Zf hom hcw
        have hS65:Below w.heap.size (W.drew) (W59)∧Ze [98] (W.drew) (W59):=⟨hS58.1.trans hb59,hS58.2.trans hO59⟩
        refine⟨hS65,?_⟩
        refine Zcj [8,9,10] 2 rfl #[true,true,true,true,true,true,true,true,true,true,true,true,false,false] [(78,.tuple #[.agg #[.int .i64 (((Zd l details 3 fuel).es.getD i Zi).1),.int .i64 (↑(Yi ((Zd l details 3 fuel).es.getD i Zi).2.1 1):Int),.int .i64 (↑(Yi ((Zd l details 3 fuel).es.getD i Zi).2.1 2):Int),.int .i64 (↑(Yi ((Zd l details 3 fuel).es.getD i Zi).2.1 3):Int),.slice pm ((Ys l ((Zd l top 1 fuel).es.getD i Zi) data fuel).2.2.length) cm],.nilIface]),(87,.agg #[.int .i64 (((Zd l details 3 fuel).es.getD i Zi).1),.int .i64 (↑(Yi ((Zd l details 3 fuel).es.getD i Zi).2.1 1):Int),.int .i64 (↑(Yi ((Zd l details 3 fuel).es.getD i Zi).2.1 2):Int),.int .i64 (↑(Yi ((Zd l details 3 fuel).es.getD i Zi).2.1 3):Int),.slice pm ((Ys l ((Zd l top 1 fuel).es.getD i Zi) data fuel).2.2.length) cm]),(88,.nilIface)] (by kernel_rfl) (fun _ _ _ _ _ h=>h) (by kernel_rfl) hS65 ?_
        refine Wc 12 1 rfl (by kernel_rfl) rfl (by kernel_rfl) (Kl (b:=b57) (off:=0) [.int .i64 (((Zd l details 3 fuel).es.getD i Zi).1),.int .i64 (↑(Yi ((Zd l details 3 fuel).es.getD i Zi).2.1 1):Int),.int .i64 (↑(Yi ((Zd l details 3 fuel).es.getD i Zi).2.1 2):Int),.int .i64 (↑(Yi ((Zd l details 3 fuel).es.getD i Zi).2.1 3):Int),.slice pm ((Ys l ((Zd l top 1 fuel).es.getD i Zi) data fuel).2.2.length) cm] rfl (by kernel_rfl) (by kernel_rfl) (by kernel_rfl) (by first|decide|simp[Value.oneCell']) k57 (by first|decide|simp) ?_)
        intro W66 u66 k66
        change Blk _ _ [.int .i64 (((Zd l details 3 fuel).es.getD i Zi).1),.int .i64 (↑(Yi ((Zd l details 3 fuel).es.getD i Zi).2.1 1):Int),.int .i64 (↑(Yi ((Zd l details 3 fuel).es.getD i Zi).2.1 2):Int),.int .i64 (↑(Yi ((Zd l details 3 fuel).es.getD i Zi).2.1 3):Int),.slice pm ((Ys l ((Zd l top 1 fuel).es.getD i Zi) data fuel).2.2.length) cm] _ at k66
        replace hB:=u66.below hB (Nat.le_trans hBr g57)
        replace r2_b1:=u66.blk r2_b1 (Ne.symm (Ne.symm d57_b1))
        replace r2_b2:=u66.blk r2_b2 (Ne.symm (Ne.symm d57_b2))
        replace r2_b3:=u66.blk r2_b3 (Ne.symm (Ne.symm d57_b3))
        replace r2_b4:=u66.blk r2_b4 (Ne.symm (Ne.symm d57_b4))
        replace r2_b10:=u66.blk r2_b10 (Ne.symm (Ne.symm d57_b10))
        replace r2_b17:=u66.blk r2_b17 (Ne.symm (Ne.symm d57_b17))
        replace kl59:=u66.blk kl59 (Ne.symm (Ne.symm d57_b33))
        replace r2_b34:=u66.blk r2_b34 (Ne.symm (Ne.symm d57_b34))
        replace k8:=u66.blk k8 (Ne.symm (Ne.symm d57_b36))
        replace hZ:=hZ.upd u66 k57 (.inr (Nat.le_trans hF.size gd_b57))
        replace hd9:=u66.own2 hd9 k57 (by decide)
        replace ht9:=u66.own2 ht9 k57 (by decide)
        replace ho:=u66.own3 ho r57_ho
        replace hMo:=hMo.only (Ze.of_upd (T:=[82]) u66 k57 (by decide)) (by decide)
        replace hom:=u66.own2 hom k57 (by decide)
        have hS67:Below w.heap.size (W.drew) (W66)∧Ze [98] (W.drew) (W66):=⟨u66.below hS65.1 (Nat.le_trans hBr g57),Ze.upd_new hS65.2 u66 gd_b57⟩
        refine⟨hS67,?_⟩
        refine Zcj [13] 0 rfl #[true,true,true,true,true,true,true,true,true,true,true,true,true,true] [(22,.nilIface)] (by kernel_rfl) (fun _ _ _ _ _ h=>h) (by kernel_rfl) hS67 ?_
        refine Ds _ (by kernel_rfl) ?_
        refine wpIn_seq ?_
        refine wpIn_seq ?_
        refine Vv (fun⟨_,_,q⟩=>q) (by simp) ?_
        refine Gk 2 [(89,.nilIface),(90,.bool false)] (by kernel_rfl) ?_
        refine wpList_nil ?_
        refine wpIn_cond_false (by kernel_rfl) ?_
        refine wpIn_skip ?_
        refine Vv (fun⟨_,_,q⟩=>q) (by simp) ?_
        refine Vl (by kernel_rfl) (Qf ⟨b36,0,none⟩ (.slice p i cp) rfl (by kernel_rfl) (by kernel_rfl) (k8.cell (i:=0) rfl) ?_)
        refine Vl (by kernel_rfl) (Zcq (b:=b57) (off:=0) [.int .i64 (((Zd l details 3 fuel).es.getD i Zi).1),.int .i64 (↑(Yi ((Zd l details 3 fuel).es.getD i Zi).2.1 1):Int),.int .i64 (↑(Yi ((Zd l details 3 fuel).es.getD i Zi).2.1 2):Int),.int .i64 (↑(Yi ((Zd l details 3 fuel).es.getD i Zi).2.1 3):Int),.slice pm ((Ys l ((Zd l top 1 fuel).es.getD i Zi) data fuel).2.2.length) cm] _ rfl (by kernel_rfl) Tryz.underlying82 rfl (by kernel_rfl) k66.whole ?_)
        refine Vl (by kernel_rfl) (Vj 82 [.int .i64 (((Zd l details 3 fuel).es.getD i Zi).1),.int .i64 (↑(Yi ((Zd l details 3 fuel).es.getD i Zi).2.1 1):Int),.int .i64 (↑(Yi ((Zd l details 3 fuel).es.getD i Zi).2.1 2):Int),.int .i64 (↑(Yi ((Zd l details 3 fuel).es.getD i Zi).2.1 3):Int),.slice pm ((Ys l ((Zd l top 1 fuel).es.getD i Zi) data fuel).2.2.length) cm] rfl (by kernel_rfl) ?_)
        intro b68 W68 n68
        have d68_b1:=n68.ne r2_b1
        have d68_b2:=n68.ne r2_b2
        have d68_b3:=n68.ne r2_b3
        have d68_b4:=n68.ne r2_b4
        have d68_b10:=n68.ne r2_b10
        have d68_b17:=n68.ne r2_b17
        have d68_b33:=n68.ne kl59
        have d68_b34:=n68.ne r2_b34
        have d68_b36:=n68.ne k8
        have d68_b57:=n68.ne k66
        have g68:=n68.ge0 hB
        have r68_ho:=Zp ho n68
        replace hB:=blB hB hBr n68.below
        replace r2_b1:=r2_b1.below n68.below
        replace r2_b2:=r2_b2.below n68.below
        replace r2_b3:=r2_b3.below n68.below
        replace r2_b4:=r2_b4.below n68.below
        replace r2_b10:=r2_b10.below n68.below
        replace r2_b17:=r2_b17.below n68.below
        replace kl59:=kl59.below n68.below
        replace r2_b34:=r2_b34.below n68.below
        replace k8:=k8.below n68.below
        replace k66:=k66.below n68.below
        replace hZ:=hZ.below n68.below
        replace hd9:=Za hd9 n68.below
        replace ht9:=Za ht9 n68.below
        replace ho:=Za ho n68.below
        replace hMo:=hMo.below n68.below
        replace hom:=Za hom n68.below
        have k68:=n68.blk
        refine Vl (by kernel_rfl) (Zt (e:=82) (n:=i) (xs:=(Z.flatMap Ll)) (m:=1) (news:=[.int .i64 (((Zd l details 3 fuel).es.getD i Zi).1),.int .i64 (↑(Yi ((Zd l details 3 fuel).es.getD i Zi).2.1 1):Int),.int .i64 (↑(Yi ((Zd l details 3 fuel).es.getD i Zi).2.1 2):Int),.int .i64 (↑(Yi ((Zd l details 3 fuel).es.getD i Zi).2.1 3):Int),.slice pm ((Ys l ((Zd l top 1 fuel).es.getD i Zi) data fuel).2.2.length) cm]) (.agg #[.int .i64 0,.int .i64 0,.int .i64 0,.int .i64 0,.slice none 0 0]) 5 56 (i+1) (((Z++[(Zcz l ((Zd l details 3 fuel).es.getD i Zi) ((Zd l top 1 fuel).es.getD i Zi) data fuel,pm,cm)]).flatMap Ll)) rfl Tryz.underlying24 (by kernel_rfl) rfl (by decide) (by kernel_rfl) ho (by kernel_rfl) (k68.sl 1 1 (by decide) (by decide)) rfl (by simp[Value.oneCell']) (by unfold maxLen;omega) (by omega) (Nat.le_trans hZ.l0 hZ.le) (rfl) (by rw[List.flatMap_append];rfl) ?_)
        intro p69 c69 W69 o69 hg69 hb69
        replace r2_b1:=r2_b1.grown hg69 ho (by decide)
        replace r2_b2:=r2_b2.grown hg69 ho (by decide)
        replace r2_b3:=r2_b3.grown hg69 ho (by decide)
        replace r2_b4:=r2_b4.grown hg69 ho (by decide)
        replace r2_b10:=r2_b10.grown hg69 ho (by decide)
        replace r2_b17:=r2_b17.grown hg69 ho (by decide)
        replace kl59:=kl59.grown hg69 ho (by decide)
        replace r2_b34:=r2_b34.grown hg69 ho (by decide)
        replace k8:=k8.grown hg69 ho (by decide)
        replace k66:=k66.grown3 hg69 r57_ho
        replace hZ:=hZ.grown hg69 ho
        replace hd9:=Zh hd9 hg69 ho (by decide)
        replace ht9:=Zh ht9 hg69 ho (by decide)
        replace hMo:=hMo.only (Ze.of_grown (T:=[82]) hg69 ho (by decide)) (by decide)
        replace hom:=Zh hom hg69 ho (by decide)
        replace hB:=hB.trans (hb69.mono hBW2)
        refine Vl (by kernel_rfl) (Xx (v:=.slice p69 (i+1) c69) (b:=b36) (off:=0) rfl (by kernel_rfl) (by kernel_rfl) (by kernel_rfl) rfl k8 (by first|decide|simp) ?_)
        intro W70 u70 k70
        change Blk _ _ [.slice p69 (i+1) c69] _ at k70
        replace hB:=u70.below hB g36
        replace r2_b1:=u70.blk r2_b1 (Ne.symm (Ne.symm d36_b1))
        replace r2_b2:=u70.blk r2_b2 (Ne.symm (Ne.symm d36_b2))
        replace r2_b3:=u70.blk r2_b3 (Ne.symm (Ne.symm d36_b3))
        replace r2_b4:=u70.blk r2_b4 (Ne.symm (Ne.symm d36_b4))
        replace r2_b10:=u70.blk r2_b10 (Ne.symm (Ne.symm d36_b10))
        replace r2_b17:=u70.blk r2_b17 (Ne.symm (Ne.symm d36_b17))
        replace kl59:=u70.blk kl59 (Ne.symm (Ne.symm d36_b33))
        replace r2_b34:=u70.blk r2_b34 (Ne.symm (Ne.symm d36_b34))
        replace k66:=u70.blk k66 (Ne.symm d57_b36)
        replace hZ:=hZ.upd u70 k8 (.inl (by simp))
        replace hd9:=u70.own2 hd9 k8 (by decide)
        replace ht9:=u70.own2 ht9 k8 (by decide)
        replace hMo:=hMo.only (Ze.of_upd (T:=[24]) u70 k8 (by decide)) (by decide)
        replace hom:=u70.own2 hom k8 (by decide)
        replace o69:=u70.own2 o69 k8 (by decide)
        refine wpList_nil ?_
        exact⟨hZ.ko.from _,⟨hZ.le,fun d hd=>hZ.fr d (hlt2 d hd) (hks2 d hd)⟩,hbw.trans hB,Zhb hF hZ (fun k hk=>by simp only[List.mem_cons,List.not_mem_nil,or_false] at hk ⊢;rcases hk with rfl|rfl|rfl|rfl;exact .inr ((show _=_ from r2_b3).trans (show _=_ from m2_b3).symm);exact .inr ((show _=_ from r2_b4).trans (show _=_ from m2_b4).symm);exact .inl (by simp);exact .inl (by simp)),kl59,dev_sum hde,Mf hdk hde,_,_,_,k70,o69,(hMo.snoc (d:=Zcz l ((Zd l details 3 fuel).es.getD i Zi) ((Zd l top 1 fuel).es.getD i Zi) data fuel) rfl hom),by simp[hZl],by rw[List.map_append,hZd,Md];rfl⟩
     case stop =>
      rintro D c k V hD hk ⟨rfl,hK,ty,v,bl,er,hO,her,k10,k11,hv,hb⟩ hK0
      have hK2:Dfr D V:=hK0
      have hD12:D1≠D:=by omega
      refine wp_ret (Qa (Cy ?_))
      exact ret2 k10 k11 hK hK2 hD12 (Zf0 (.inr ⟨_,_,rfl⟩) (by kernel_rfl) (by kernel_rfl)) rfl (Wf hO her (Ny (Ny hb hb.size (Nat.le_trans hBW2 hD) _) (by simpa [World.putObj] using hb.size) (Nat.le_trans hBW1 hD1) _) ((hv.pt hK2 _).pt (hK.put hD12 _) _))
     case done =>
      rintro D2 W8 hD2 ⟨hb8,hF8,kl8,hsm,hdk,p,cp,Z,k8,ho,hMo,hZl,hZd⟩ hK0
      have hK2:Dfr D2 W8:=hK0;clear hK0
      have hK:Dfr D1 W8:=(hF8.block D1 hD1l hKf).trans hK7
      have hD12:D1≠D2:=by omega
      rw[(Sn hall).1] at hdk k8 ho hZl hZd
      have r8_b1:=m2_b1.fr hF8 (by simp only[List.mem_cons,List.not_mem_nil,or_false];rintro(h|h|h|h);omega;omega;exact xb1_b33 h;exact yb1_b36 h)
      have r8_b2:=m2_b2.fr hF8 (by simp only[List.mem_cons,List.not_mem_nil,or_false];rintro(h|h|h|h);omega;omega;exact xb2_b33 h;exact yb2_b36 h)
      have r8_b3:=m2_b3.fr hF8 (by simp only[List.mem_cons,List.not_mem_nil,or_false];rintro(h|h|h|h);omega;omega;exact xb3_b33 h;exact yb3_b36 h)
      have r8_b4:=m2_b4.fr hF8 (by simp only[List.mem_cons,List.not_mem_nil,or_false];rintro(h|h|h|h);omega;omega;exact xb4_b33 h;exact yb4_b36 h)
      have r8_b10:=m2_b10.fr hF8 (by simp only[List.mem_cons,List.not_mem_nil,or_false];rintro(h|h|h|h);omega;omega;exact xb10_b33 h;exact yb10_b36 h)
      have r8_b17:=m2_b17.fr hF8 (by simp only[List.mem_cons,List.not_mem_nil,or_false];rintro(h|h|h|h);omega;omega;exact xb17_b33 h;exact yb17_b36 h)
      have r8_b34:=m2_b34.fr hF8 (by simp only[List.mem_cons,List.not_mem_nil,or_false];rintro(h|h|h|h);omega;omega;exact xb34_b33 h;exact yb34_b36 h)
      replace hB:=hb8
      refine wp_seq ?_
      refine wp_region_lit ?_
      refine Vl (by kernel_rfl) (Qf ⟨b36,0,none⟩ (.slice p ((Zd l details 3 fuel).es.length) cp) rfl (by kernel_rfl) (by kernel_rfl) (k8.cell (i:=0) rfl) ?_)
      refine Vl (by kernel_rfl) (Xx (v:=.slice p ((Zd l details 3 fuel).es.length) cp) (b:=b3) (off:=0) rfl (by kernel_rfl) (by kernel_rfl) (by kernel_rfl) rfl r8_b3 (by first|decide|simp) ?_)
      intro W71 u71 k71
      change Blk _ _ [.slice p ((Zd l details 3 fuel).es.length) cp] _ at k71
      replace hB:=u71.below hB g3
      replace r8_b1:=u71.blk r8_b1 (Ne.symm (Ne.symm d3_b1))
      replace r8_b2:=u71.blk r8_b2 (Ne.symm (Ne.symm d3_b2))
      replace r8_b4:=u71.blk r8_b4 (Ne.symm d4_b3)
      replace r8_b10:=u71.blk r8_b10 (Ne.symm d10_b3)
      replace r8_b17:=u71.blk r8_b17 (Ne.symm d17_b3)
      replace r8_b34:=u71.blk r8_b34 (Ne.symm d34_b3)
      replace k8:=u71.blk k8 (Ne.symm d36_b3)
      replace ho:=u71.own2 ho r8_b3 (by decide)
      replace hMo:=hMo.only (Ze.of_upd (T:=[24]) u71 r8_b3 (by decide)) (by decide)
      replace hK:=hK.upd u71 r8_b3
      replace hK2:=hK2.upd u71 r8_b3
      refine Vl (by kernel_rfl) (Xx (v:=.nilIface) (b:=b4) (off:=0) rfl (by kernel_rfl) (by kernel_rfl) (by kernel_rfl) rfl r8_b4 (by first|decide|simp) ?_)
      intro W72 u72 k72
      change Blk _ _ [.nilIface] _ at k72
      replace hB:=u72.below hB g4
      replace r8_b1:=u72.blk r8_b1 (Ne.symm (Ne.symm d4_b1))
      replace r8_b2:=u72.blk r8_b2 (Ne.symm (Ne.symm d4_b2))
      replace k71:=u72.blk k71 (Ne.symm (Ne.symm d4_b3))
      replace r8_b10:=u72.blk r8_b10 (Ne.symm d10_b4)
      replace r8_b17:=u72.blk r8_b17 (Ne.symm d17_b4)
      replace r8_b34:=u72.blk r8_b34 (Ne.symm d34_b4)
      replace k8:=u72.blk k8 (Ne.symm d36_b4)
      replace ho:=u72.own2 ho r8_b4 (by decide)
      replace hMo:=hMo.only (Ze.of_upd (T:=[26]) u72 r8_b4 (by decide)) (by decide)
      replace hK:=hK.upd u72 r8_b4
      replace hK2:=hK2.upd u72 r8_b4
      refine wpList_nil ?_
      have hE9:=hK.put hD12 (.deferred none)
      refine wp_ret ?_
      refine ret2 k71 k72 hK hK2 hD12 (Zf0 (.inl rfl) (by kernel_rfl) (by kernel_rfl)) rfl ?_
      refine ldevs_ok ((Yc hfd hft (by omega) hpz).trans (Mi hdk)) hZl hZd (Ny (Ny hB hB.size (Nat.le_trans hBW2 hD2) _) (by simpa [World.putObj] using hB.size) (Nat.le_trans hBW1 hD1) _) ((((hMo.mono hBW2).pt hK2 _).pt hE9 _)) (own_pt (own_pt (Zf ho hBW2) hK2 _) hE9 _)
theorem getD_app{P Q:List UInt8}{k i:Nat}(hk:P.length=k):(P++Q).getD (k+i) 0=Q.getD i 0:=by
 subst hk
 simp[List.getD,List.getElem?_append_right]
theorem getD_hd{P Q:List UInt8}{i:Nat}(hi:i<P.length):(P++Q).getD i 0=P.getD i 0:=by
 simp[List.getD,List.getElem?_append_left hi]
theorem Gb{P Q:List UInt8}{k w:Nat}{x:Int}(hk:P.length=k)(h0:0≤x)(hb:x.toNat<256 ^ w):(Zj (P++(leB x w++Q)) k w:Int)=x:=by
 rw[Wn w k x.toNat,Nat.mod_eq_of_lt hb]
 ·omega
 ·intro i hi
  rw[getD_app hk,getD_hd (by rw[Zu];exact hi)]
  simp[leB,Zz,List.getD,List.getElem?_range hi]
theorem Aq{P Q:List UInt8}{k:Nat}(hk:P.length=k):(P++Q).drop k=Q:=List.drop_left' hk
theorem Ik(n m:Nat):Kh ((List.replicate n (0:UInt8)).take m)=true:=by
 unfold Kh;rw[List.all_eq_true]
 intro x hx
 have:=List.mem_of_mem_take hx
 rw[(List.mem_replicate.1 this).2];rfl
theorem Fn(K:List Int)(n j:Nat):∀ d,∃ X,Qi K n (j+d)=Qi K n j++X
 | 0=>⟨[],by simp⟩
 | d+1=>by
  obtain⟨X,hX⟩:=Fn K n j d
  exact⟨_,by rw[←Nat.add_assoc,Ke,hX,List.append_assoc]⟩
theorem Er(Vs:List (List UInt8))(j:Nat):∀ d,∃ X,Vm Vs (j+d)=Vm Vs j++X
 | 0=>⟨[],by simp⟩
 | d+1=>by
  obtain⟨X,hX⟩:=Er Vs j d
  exact⟨_,by rw[←Nat.add_assoc,Uh,hX,List.append_assoc]⟩
theorem Bm{l:List UInt8}:∀ {n:Nat},(∀ i,i<n→Pm l i=0)→Ye l n=0
 | 0,_=>rfl
 | n+1,h=>Vf (Bm fun i hi=>h i (by omega)) (h n (by omega))
theorem getD_ext{l l':List Int}(h:l.length=l'.length)(h2:∀ j,j<l.length→l.getD j 0=l'.getD j 0):l=l':=by
 apply List.ext_getElem h
 intro j h3 h4
 have:=h2 j h3
 simpa [List.getD,h3,h4] using this
theorem getD_extV{l l':List (List UInt8)}(h:l.length=l'.length)(h2:∀ j,j<l.length→l.getD j []=l'.getD j []):l=l':=by
 apply List.ext_getElem h
 intro j h3 h4
 have:=h2 j h3
 simpa [List.getD,h3,h4] using this
structure NodBack(b:List UInt8)(t:Int)(leaf:Bool)(n m v:Nat)(K:List Int)(Vs:List (List UInt8)):Prop where
 len:b.length=244
 e:Yr b=0
 t:Xt b=t
 l:Xk b=leaf
 c:Zn b=n
 k:Yq b n=K
 v:Kt b n=Vs
theorem Aj{t:Int}{leaf:Bool}{n m v:Nat}{K:List Int}{Vs:List (List UInt8)}(N:NodeOk t leaf n m v K Vs):NodBack (Hv m v (Kx t leaf n m v) K Vs n) t leaf n m v K Vs:=by
 have hmb:=Yv t leaf
 rw[N.hm] at hmb
 have hwb:=Ee t leaf
 rw[N.hv] at hwb
 have hfit:=fitN t leaf
 rw[N.hm,N.hv] at hfit
 have ht1:=N.ht1
 have ht2:=N.ht2
 have hnm:=N.hn
 have hform:=St (H:=Kx t leaf n m v) (K:=K) (Vs:=Vs) (Km _ _ _ _ _) hfit hnm (fun j hj=>N.hw j hj)
 have hlen:=Eh (H:=Kx t leaf n m v) (K:=K) (Vs:=Vs) (Km _ _ _ _ _) hfit hnm (fun j hj=>N.hw j hj)
 generalize Hv m v (Kx t leaf n m v) K Vs n=b at hform hlen
 obtain⟨R,hR⟩:∃ R,b=Kx t leaf n m v++R:=⟨_,by rw[hform,List.append_assoc,List.append_assoc]⟩
 have hfl:=Aa leaf
 have r0:(Zj b 0 1:Int)=Ul leaf:=by
  rw[hR,Kx];simp only[List.append_assoc]
  exact Gb (P:=[]) (k:=0) (w:=1) (x:=Ul leaf) rfl hfl.1 (Nat.lt_of_le_of_lt (show(Ul leaf).toNat≤255 by omega) (by decide))
 have r1:(Zj b 1 1:Int)=t:=by
  rw[hR,Kx];simp only[List.append_assoc]
  exact Gb (P:=leB (Ul leaf) 1) (by rw[Zu]) (by omega) (by omega)
 have r2:(Zj b 2 2:Int)=(n:Int):=by
  rw[hR,Kx];simp only[List.append_assoc]
  rw[←List.append_assoc]
  exact Gb (P:=leB (Ul leaf) 1++leB t 1) (by simp[Zu]) (by omega) (by omega)
 have r4:(Zj b 4 2:Int)=(v:Int):=by
  rw[hR,Kx];simp only[List.append_assoc]
  rw[←List.append_assoc,←List.append_assoc]
  exact Gb (P:=leB (Ul leaf) 1++leB t 1++leB (n:Int) 2) (by simp[Zu]) (by omega) (by omega)
 have r6:(Zj b 6 2:Int)=(m:Int):=by
  rw[hR,Kx];simp only[List.append_assoc]
  rw[←List.append_assoc,←List.append_assoc,←List.append_assoc]
  exact Gb (P:=leB (Ul leaf) 1++leB t 1++leB (n:Int) 2++leB (v:Int) 2) (by simp[Zu]) (by omega) (by omega)
 have r8:(Zj b 8 4:Int)=0:=by
  rw[hR,Kx];simp only[List.append_assoc]
  rw[←List.append_assoc,←List.append_assoc,←List.append_assoc,←List.append_assoc]
  exact Gb (P:=leB (Ul leaf) 1++leB t 1++leB (n:Int) 2++leB (v:Int) 2++leB (m:Int) 2) (by simp[Zu]) (by omega) (by decide)
 have eT:Xt b=t:=r1
 have eL:Xk b=leaf:=by
  unfold Xk;rw[r0];cases leaf<;>rfl
 have eC:Zn b=n:=by unfold Zn;omega
 have eW:Xh b=v:=by unfold Xh;rw[eT,eL,Zgj,if_pos ⟨ht1,ht2⟩];exact N.hv
 have eM:Xj b=m:=by unfold Xj;rw[eT,eL,Zd7,if_pos ⟨ht1,ht2⟩];exact N.hm
 have hkey:∀ i,i<n→(Ca b i:Int)=K.getD i 0:=by
  intro i hi
  obtain⟨X,hX⟩:=Fn K n (i+1) (m-(i+1))
  rw[show i+1+(m-(i+1))=m by omega,Ke,if_pos hi] at hX
  unfold Ca
  rw[hform,hX]
  have hk:=N.hk0 i hi
  have:=Gb (P:=Kx t leaf n m v++Qi K n i) (Q:=X++(Vm Vs n++List.replicate (232-m*8-n*v) 0)) (k:=12+i*8) (w:=8) (x:=K.getD i 0) (by rw[List.length_append,Km,Hf]) hk.1 (Nat.lt_of_le_of_lt (show(K.getD i 0).toNat≤281474976710655 by omega) (by decide))
  simp only[List.append_assoc] at this ⊢
  exact this
 have hval:∀ i,i<n→Cg b i=Vs.getD i []:=by
  intro i hi
  obtain⟨X,hX⟩:=Er Vs (i+1) (n-(i+1))
  rw[show i+1+(n-(i+1))=n by omega,Uh] at hX
  have hvl:(Vm Vs i).length=i*v:=Wq fun j hj=>N.hw j (by omega)
  unfold Cg
  rw[eM,eW,hform,hX]
  have:=Aq (P:=Kx t leaf n m v++Qi K n m++Vm Vs i) (Q:=Vs.getD i []++(X++List.replicate (232-m*8-n*v) 0)) (k:=12+m*8+i*v) (by rw[List.length_append,List.length_append,Km,Hf,hvl])
  simp only[List.append_assoc] at this ⊢
  rw[this]
  exact List.take_left' (N.hw i hi)
 have hmv:n*v≤m*v:=Nat.mul_le_mul_right v hnm
 refine⟨hlen,?_,eT,eL,eC,?_,?_⟩
 ·have hs:Vw b=true:=by
   unfold Vw
   rw[eW,eM]
   refine decide_eq_true ⟨?_,by omega,by omega,by omega,by omega,by omega,?_⟩
   ·cases leaf<;>simp only[Ul] at r0<;>simp at r0<;>omega
   ·cases leaf with
    | true=>left;simp only[Ul] at r0;simp at r0;omega
    | false=>right;have:=N.hl rfl;omega
  have hz:Mo b=true:=by
   unfold Mo Ea Iy El
   rw[eC,eM,eW,Bool.and_eq_true]
   constructor
   ·have hk:=Hm K n (m-n)
    rw[show n+(m-n)=m by omega] at hk
    have:=Aq (P:=Kx t leaf n m v++Qi K n n) (Q:=List.replicate ((m-n)*8) 0++(Vm Vs n++List.replicate (232-m*8-n*v) 0)) (k:=12+n*8) (by rw[List.length_append,Km,Hf])
    rw[hform,hk]
    simp only[List.append_assoc] at this ⊢
    rw[this,List.take_append_of_le_length (by rw[List.length_replicate];omega)]
    exact Ik _ _
   ·have hvl:(Vm Vs n).length=n*v:=Wq fun j hj=>N.hw j hj
    have:=Aq (P:=Kx t leaf n m v++Qi K n m++Vm Vs n) (Q:=List.replicate (232-m*8-n*v) 0) (k:=12+m*8+n*v) (by rw[List.length_append,List.length_append,Km,Hf,hvl])
    rw[hform,this]
    exact Ik _ _
  unfold Yr
  rw[if_pos hs,if_pos hz,eC]
  refine Bm fun i hi=>?_
  have h1:=hkey i hi
  have h2:=N.hk0 i hi
  unfold Pm
  rw[if_neg (by omega),if_neg ?_]
  rintro⟨h3,h4⟩
  have h5:=hkey (i-1) (by omega)
  have h6:=N.hk1 (i-1) (by omega)
  rw[show i-1+1=i by omega] at h6
  omega
 ·exact getD_ext (by rw[Ym,N.hK]) fun j hj=>by rw[Ym] at hj;rw[Nn b hj];exact hkey j hj
 ·exact getD_extV (by rw[Ve,N.hV]) fun j hj=>by rw[Ve] at hj;rw[Io b hj];exact hval j hj
theorem Zch{t:Int}{leaf:Bool}{n m v:Nat}{K:List Int}{Vs:List (List UInt8)}(N:NodeOk t leaf n m v K Vs){l:List UInt8}{j len:Nat}(hl:l.length=len)(hj:j<len/256)(h4:j<14400)(hb:Ju l j=Qz 2 (j:Int) (Hv m v (Kx t leaf n m v) K Vs n))(tree:Int)(ht:tree=0∨t=tree) :
 Xc l (j:Int) tree=0∧inB l (j:Int)=Hv m v (Kx t leaf n m v) K Vs n:=by
 have B:=Aj N
 have hin:inB l (j:Int)=Hv m v (Kx t leaf n m v) K Vs n:=by
  rw[inB_in (no:=(j:Int)) (j:=j) rfl,hb,in_seal (by rw[B.len];decide)]
  unfold Zdp;rw[B.len];simp
 refine⟨?_,hin⟩
 unfold Xc
 rw[Zgu (no:=(j:Int)) (j:=j) hl rfl hj,hb,if_pos (open_seal (by decide) (by decide) (by omega) (by omega) (by rw[B.len];decide)),hin]
 unfold Qh
 rw[if_pos B.e,if_pos (by rw[B.t];exact ht)]
theorem root_leB{q:Nat}(h1:1≤q)(h2:q≤14399):Xw (leB (q:Int) 4)=0∧(Yz (leB (q:Int) 4):Int)=(q:Int):=by
 have hr:(Zj (leB (q:Int) 4) 0 4:Int)=(q:Int):=by
  have:=Gb (P:=[]) (Q:=[]) (k:=0) (w:=4) (x:=(q:Int)) rfl (by omega) (Nat.lt_of_le_of_lt (show(q:Int).toNat≤14399 by omega) (by decide))
  simpa using this
 have he:Xw (leB (q:Int) 4)=0:=by
  unfold Xw;rw[if_pos (Zu _ _),if_pos (by omega)]
 exact⟨he,by unfold Yz;rw[if_pos he];exact hr⟩
def kvE (x:Ent):Int×List UInt8:=(x.1,x.2.1)
def LaidF(F:List UInt8)(t:Int)(leaf:Bool)(m v:Nat)(u:List Ent)(q:Nat):Prop :=
 ∀ i,i<ovN u.length m→Ju F (q+i)=Qz 2 ((q+i:Nat):Int) (nodB t leaf m v (Xd u m i))
theorem Ur{t:Int}{leaf:Bool}{m v:Nat}{l:List Ent}{q:Nat}{bs:List UInt8}(j:Nat):Wz t leaf m v l q bs (j+1)=Kr (Wz t leaf m v l q bs j) ((q+j)*256) (Qz 2 ((q+j:Nat):Int) (nodB t leaf m v (Xd l m j))):=rfl
theorem Vo{t:Int}{leaf:Bool}{m v:Nat}{l:List Ent}{q:Nat}{bs:List UInt8}(E:EntsOk v l)(h1:1≤t)(h2:t≤5)(hm:Vy t leaf=m)(hv:Gv t leaf=v)(hl:leaf=false→1≤l.length)(j:Nat) :
 j≤ovN l.length m→(q+j)*256≤bs.length→(Wz t leaf m v l q bs j).length=bs.length∧(∀ i,i<j→Ju (Wz t leaf m v l q bs j) (q+i)=Qz 2 ((q+i:Nat):Int) (nodB t leaf m v (Xd l m i)))∧(∀ x,x<q→Ju (Wz t leaf m v l q bs j) x=Ju bs x):=by
 induction j with
 | zero=>exact fun _ _=>⟨rfl,fun i hi=>absurd hi (Nat.not_lt_zero i),fun x _=>rfl⟩
 | succ j ih =>
  intro hj hq
  obtain⟨a1,a2,a3⟩:=ih (by omega) (by omega)
  have hlen:=Ck (Wm E h1 h2 hm hv hl (show j<ovN l.length m by omega))
  have hsl:(Qz 2 ((q+j:Nat):Int) (nodB t leaf m v (Xd l m j))).length=256:=Ho (by rw[hlen];decide)
  rw[Ur]
  generalize Wz t leaf m v l q bs j=y at a1 a2 a3 ⊢
  generalize hx:Qz 2 ((q+j:Nat):Int) (nodB t leaf m v (Xd l m j))=x at hsl ⊢
  have hk:q+j<y.length/256:=by rw[a1];omega
  refine⟨?_,fun i hi=>?_,fun z hz=>?_⟩
  ·rw[Qn (by rw[hsl,a1];omega),a1]
  ·by_cases e:i=j
   ·subst e;rw[hx];exact blkB_put hsl hk
   ·rw[Pj hsl hk (by omega) (by omega)];exact a2 i (by omega)
  ·rw[Pj hsl hk (by omega) (by omega)];exact a3 z hz
theorem Nc{t:Int}(h1:1≤t)(h2:t≤5)(n:Nat):∀ (u:List Ent) (q:Nat) (bs:List UInt8),u.length=n→1≤n→EntsOk 4 u→(q+((Hu n).sum-n))*256≤bs.length→(Va t u q bs).2.length=bs.length∧∀ x,x<q→Ju (Va t u q bs).2 x=Ju bs x:=by
 induction n using Nat.strongRecOn with
 | _ n ih =>
  intro u q bs hn h1n E hq
  subst hn
  by_cases h:u.length≤1
  ·rw[Kg h];exact⟨rfl,fun _ _=>rfl⟩
  ·have h18:=ov18 (x:=u.length) (by omega)
   have hp:=Qd u.length 18
   have hlm:(Hu u.length).sum=u.length+(Hu (ovN u.length 18)).sum:=by rw[Vg h];rfl
   have hg:=Je (ovN u.length 18)
   rw[Qr h]
   obtain⟨a1,a2,a3⟩:=Vo (t:=t) (leaf:=false) (m:=18) (v:=4) (l:=u) (q:=q) (bs:=bs) E h1 h2 rfl rfl (fun _=>by omega) (ovN u.length 18) (Nat.le_refl _) (by omega)
   obtain⟨b1,b2⟩:=ih (ovN u.length 18) (by omega) (upE u 18 q (ovN u.length 18)) (q+ovN u.length 18) (Wz t false 18 4 u q bs (ovN u.length 18)) (Xr _ _ _ _) hp (Cd E (by decide)) (by rw[a1];omega)
   exact⟨by rw[b1,a1],fun x hx=>by rw[b2 x (by omega),a3 x hx]⟩
theorem Dm{t:Int}{leaf:Bool}{n m v:Nat}{K:List Int}{Vs:List (List UInt8)}(N:NodeOk t leaf n m v K Vs):Kk K:=by
 intro k hk hk1
 rw[N.hK] at hk
 have:=N.hk1 (k-1) (by omega)
 rw[show k-1+1=k by omega] at this
 simpa [List.getD] using this
theorem look_ok{F:List UInt8}{way:List Int}{no t lo hi deep:Int}(hw:way.length<16)(hway:∀ y∈way,no≠y)(he:Xc F no t=0)(hr:Qj lo hi=true)(hs:Kk (Xu F no))(hk:∀ x∈Xu F no,lo≤x∧x<hi)
 (hd:Xk (inB F no)=true→deep=0∨deep=((way.length+1:Nat):Int)):Zw F way no t lo hi deep=0:=by
 have hf:Yn lo hi (Xu F no)=0:=by unfold Yn;rw[if_pos hr,if_pos hs,if_pos hk]
 have hh:Qx way no=false:=by
  unfold Qx;rw[List.any_eq_false]
  intro y hy
  simpa using hway y hy
 unfold Zw
 rw[if_neg (by rw[hh];simp),if_neg (by omega),if_neg (by rw[he];simp)]
 unfold Xu at hf
 rw[if_neg (by rw[hf];simp),if_neg (by rintro⟨a,b,c⟩;rcases hd a with h|h;exact b h;exact c h)]
structure Lev(F:List UInt8)(t fuel:Int)(h n base:Nat)(X:Nat→List (Int×List UInt8))(C:Nat→Nat):Prop where
 one:∀ i,i<n→1≤C i
 go:∀ i,i<n→∀ (d:Nat) (way:List Int) (lo hi:Int) (s:WS),h+1≤d→way.length+h+1≤16→(∀ y∈way,((base+n:Nat):Int)≤y)→Qj lo hi=true→(∀ x∈X i,lo≤x.1∧x.1<hi)→s.dry=false→((s.looked+C i:Nat):Int)≤fuel→(s.deep=0∨s.deep=((way.length+h+1:Nat):Int)) →
  ∃ (es:List Ent) (bl:List Int),es.map kvE=X i∧bl.length=C i∧Zy F t fuel d way ((base+i:Nat):Int) lo hi s={ s with es:=s.es++es,bs:=s.bs++bl,deep:=((way.length+h+1:Nat):Int),looked:=s.looked+C i }
theorem leaf_kv{c:List Ent}{no:Int}:(Ki (Qu c) (Kw c) no c.length).map kvE=c.map kvE:=by
 unfold Ki
 apply List.ext_getElem?
 intro j
 by_cases h:j<c.length
 ·simp[Qu,Kw,kvE,List.getD,h]
 ·rw[List.getElem?_eq_none (by simp;omega),List.getElem?_eq_none (by simp;omega)]
theorem lev_leaf{F:List UInt8}{t fuel:Int}{l:List Ent}{base len m v:Nat}(hm:Vy t true=m)(hv:Gv t true=v)(E:EntsOk v l)(h1:1≤t)(h2:t≤5)(hF:LaidF F t true m v l base)(hl:F.length=len)(hb:(base+ovN l.length m)*256≤len)(h4:base+ovN l.length m≤14400) :
  Lev F t fuel 0 (ovN l.length m) base (fun i=>(Xd l m i).map kvE) (fun _=>1) where
 one _ _:=Nat.le_refl _
 go i hi d way lo hi' s hd hw hway hr hX hdry hfu hdeep:=by
  obtain⟨d',rfl⟩:∃ d',d=d'+1:=⟨d-1,by omega⟩
  have N:=Wm E h1 h2 hm hv (fun h=>by cases h) hi
  have B:=Aj N
  obtain⟨he,hin⟩:=Zch N hl (by omega) (by omega) (hF i hi) t (.inr rfl)
  have hC:Zn (inB F ((base+i:Nat):Int))=(Xd l m i).length:=by rw[hin];exact B.c
  have hK:Xu F ((base+i:Nat):Int)=Qu (Xd l m i):=by unfold Xu;rw[hC,hin];exact B.k
  have hV:Qw F ((base+i:Nat):Int)=Kw (Xd l m i):=by unfold Qw;rw[hC,hin];exact B.v
  have hL:Xk (inB F ((base+i:Nat):Int))=true:=by rw[hin];exact B.l
  have hk:∀ x∈Qu (Xd l m i),lo≤x∧x<hi':=by
   intro x hx
   obtain⟨y,hy,rfl⟩:=List.mem_map.1 hx
   exact hX (kvE y) (List.mem_map.2 ⟨y,hy,rfl⟩)
  have hlook:Zw F way ((base+i:Nat):Int) t lo hi' s.deep=0:=look_ok (by omega) (fun y hy=>by have:=hway y hy;omega) he hr (by rw[hK];exact Dm N) (by rw[hK];exact hk) fun _=>hdeep
  refine⟨Ki (Qu (Xd l m i)) (Kw (Xd l m i)) ((base+i:Nat):Int) (Xd l m i).length,[((base+i:Nat):Int)],leaf_kv,rfl,?_⟩
  unfold Zy
  rw[if_neg (by omega),if_neg (by rw[hlook];simp),if_pos hL,hC,hK,hV]
theorem Zfs{f:Nat→Nat}{a b:Nat}(h:a≤b):((List.range a).map f).sum≤((List.range b).map f).sum:=by
 obtain⟨d,rfl⟩:∃ d,b=a+d:=⟨b-a,by omega⟩
 rw[List.range_add,List.map_append,List.sum_append];omega
theorem part_snd{hi:Int}{K:List Int}{k:Nat}(hk:k<K.length):(k+1<K.length∧(Xa hi K k).2=K.getD (k+1) 0)∨(k+1=K.length∧(Xa hi K k).2=hi):=by
 by_cases q:k+1<K.length
 ·left;exact⟨q,by simp[Xa,List.getD,q]⟩
 ·right;exact⟨by omega,by simp only[Xa];rw[List.getElem?_eq_none (by omega)];rfl⟩
theorem lev_loop{F:List UInt8}{t fuel:Int}{h n base:Nat}{X:Nat→List (Int×List UInt8)}{C:Nat→Nat}(L:Lev F t fuel h n base X C){way:List Int}{no hi':Int}{s0:WS}{z a d':Nat}(K:List Int)(hK:Xu F no=K)(hKl:K.length=z)(hidx:a+z≤n)
  (hval:∀ k,k<z→(Qw F no).getD k []=leB ((base+(a+k):Nat):Int) 4) (hkk:∀ k,k<z→∃ v r,X (a+k)=(K.getD k 0,v)::r) (hs:∀ a b,a<b→b<n→∀ x∈X a,∀ y∈X b,x.1<y.1) (hs1:∀ a,a<n→(X a).Pairwise fun x y=>x.1<y.1)
  (hk0:∀ k,k<z→0≤K.getD k 0∧K.getD k 0<hi') (hk1:∀ k,k+1<z→K.getD k 0<K.getD (k+1) 0) (hX2:∀ k,k<z→∀ x∈X (a+k),x.1<hi') (hhi:hi'≤281474976710656) (hb1:1≤base) (h4:base+n≤14400) (hd:h+1≤d') (hw:way.length+1+h+1≤16) (hway:∀ y∈way,((base+n:Nat):Int)≤y) (hno:((base+n:Nat):Int)≤no)
  (hdry:s0.dry=false) (hdeep:s0.deep=0∨s0.deep=((way.length+(h+1)+1:Nat):Int)) (hfu:((s0.looked+((List.range z).map fun j=>C (a+j)).sum:Nat):Int)≤fuel) (k:Nat) :
  k≤z→∃ (es:List Ent) (bl:List Int),es.map kvE=((List.range k).flatMap fun j=>X (a+j))∧bl.length=((List.range k).map fun j=>C (a+j)).sum ∧
    Yk (Zy F t fuel d') F way no hi' k s0={ s0 with es:=s0.es++es,bs:=s0.bs++bl,deep:=if k=0 then s0.deep else((way.length+(h+1)+1:Nat):Int),looked:=s0.looked+((List.range k).map fun j=>C (a+j)).sum }:=by
 induction k with
 | zero=>exact fun _=>⟨[],[],rfl,rfl,by simp[Yk]⟩
 | succ k ih =>
  intro hk1z
  obtain⟨es,bl,e1,e2,e3⟩:=ih (by omega)
  have hkl:k<z:=by omega
  obtain⟨r1,r2⟩:=root_leB (q:=base+(a+k)) (by omega) (by omega)
  have hp1:(Xa hi' (Xu F no) k).1=K.getD k 0:=by rw[hK];rfl
  have hp2:=part_snd (hi:=hi') (K:=K) (k:=k) (by omega)
  rw[←hK] at hp2
  have hx1:∀ x∈X (a+k),K.getD k 0≤x.1:=by
   intro x hx
   obtain⟨v,r,hv⟩:=hkk k hkl
   have hpw:=hs1 (a+k) (by omega)
   rw[hv] at hx hpw
   rcases List.mem_cons.1 hx with rfl|hx
   ·exact Int.le_refl _
   ·exact Int.le_of_lt ((List.pairwise_cons.1 hpw).1 x hx)
  have hx2:∀ x∈X (a+k),x.1<(Xa hi' (Xu F no) k).2:=by
   intro x hx
   rcases hp2 with ⟨q1,q2⟩|⟨q1,q2⟩
   ·rw[hK] at q1
    obtain⟨v,r,hv⟩:=hkk (k+1) (by omega)
    rw[q2,hK]
    exact hs (a+k) (a+(k+1)) (by omega) (by omega) x hx (K.getD (k+1) 0,v) (by rw[hv];exact List.mem_cons_self)
   ·rw[q2];exact hX2 k hkl x hx
  have hr2:Qj (Xa hi' (Xu F no) k).1 (Xa hi' (Xu F no) k).2=true:=by
   have g0:=hk0 k hkl
   refine decide_eq_true ?_
   rw[hp1]
   rcases hp2 with ⟨q1,q2⟩|⟨q1,q2⟩
   ·rw[hK] at q1
    rw[q2,hK]
    have g1:=hk1 k (by omega)
    have g2:=hk0 (k+1) (by omega)
    omega
   ·rw[q2];omega
  have hsum:=Zfs (f:=fun j=>C (a+j)) (show k+1≤z from hk1z)
  have hsucc:((List.range (k+1)).map fun j=>C (a+j)).sum=((List.range k).map fun j=>C (a+j)).sum+C (a+k):=by rw[List.range_succ,List.map_append,List.sum_append];simp
  rw[hsucc] at hsum
  have hfk:((s0.looked+((List.range k).map fun j=>C (a+j)).sum+C (a+k):Nat):Int)≤fuel:=by omega
  have hwl:(way++[no]).length=way.length+1:=by simp
  obtain⟨es2,bl2,g1,g2,g3⟩:=L.go (a+k) (by omega) d' (way++[no]) (Xa hi' (Xu F no) k).1 (Xa hi' (Xu F no) k).2 { s0 with es:=s0.es++es,bs:=s0.bs++bl,deep:=if k=0 then s0.deep else((way.length+(h+1)+1:Nat):Int),looked:=s0.looked+((List.range k).map fun j=>C (a+j)).sum } hd (by rw[hwl];omega) (by
    intro y hy
    rcases List.mem_append.1 hy with q|q
    ·exact hway y q
    ·rw[List.mem_singleton.1 q];exact hno) hr2 (fun x hx=>⟨by rw[hp1];exact hx1 x hx,hx2 x hx⟩) hdry hfk (by
    rw[hwl,show way.length+1+h+1=way.length+(h+1)+1 by omega]
    by_cases q:k=0
    ·rcases hdeep with d|d
     ·exact .inl (by show(if k=0 then s0.deep else _)=0;rw[if_pos q];exact d)
     ·exact .inr (by show(if k=0 then s0.deep else _)=_;rw[if_pos q];exact d)
    ·exact .inr (by show(if k=0 then s0.deep else _)=_;rw[if_neg q]))
  refine⟨es++es2,bl++bl2,?_,?_,?_⟩
  ·rw[List.map_append,e1,g1,List.range_succ,List.flatMap_append];simp
  ·rw[List.length_append,e2,g2,hsucc]
  ·rw[Gm,e3]
   unfold Pn
   rw[if_neg (by rw[hdry];simp)]
   unfold Ja
   rw[hval k hkl,if_pos r1,r2,g3,hsucc,if_neg (Nat.succ_ne_zero k),hwl,show way.length+1+h+1=way.length+(h+1)+1 by omega,List.append_assoc,List.append_assoc]
   simp only[WS.mk.injEq,true_and,and_true]
   omega
theorem lev_inner{F:List UInt8}{t fuel:Int}{h n base len:Nat}{X:Nat→List (Int×List UInt8)}{C:Nat→Nat}{u:List Ent}(L:Lev F t fuel h n base X C)(hn:u.length=n)(hu:∀ k,k<n→(u.getD k Zi).2.1=leB ((base+k:Nat):Int) 4)(hh:∀ k,k<n→∃ v r,X k=((u.getD k Zi).1,v)::r)
  (hs:∀ a b,a<b→b<n→∀ x∈X a,∀ y∈X b,x.1<y.1) (hs1:∀ a,a<n→(X a).Pairwise fun x y=>x.1<y.1) (E:EntsOk 4 u) (h1:1≤t) (h2:t≤5) (hn1:1≤n) (hb1:1≤base) (hF:LaidF F t false 18 4 u (base+n)) (hl:F.length=len) (hb:(base+n+ovN n 18)*256≤len) (h4:base+n+ovN n 18≤14400) :
  Lev F t fuel (h+1) (ovN n 18) (base+n) (fun i=>(List.range (Yx n 18 i)).flatMap fun j=>X (i*18+j)) (fun i=>1+((List.range (Yx n 18 i)).map fun j=>C (i*18+j)).sum) where
 one _ _:=Nat.le_add_right _ _
 go i hi d way lo hi' s hd hw hway hr hX hdry hfu hdeep:=by
  subst hn
  obtain⟨d',rfl⟩:∃ d',d=d'+1:=⟨d-1,by omega⟩
  have N:=Wm E h1 h2 (leaf:=false) (m:=18) (v:=4) rfl rfl (fun _=>hn1) hi
  have B:=Aj N
  obtain⟨he,hin⟩:=Zch N hl (by omega) (by omega) (hF i hi) t (.inr rfl)
  have hilt:=Zcn (m:=18) (by decide) hn1 hi
  have hzl:=Jk u 18 i
  have hget:∀ j,j<Yx u.length 18 i→(Xd u 18 i).getD j Zi=u.getD (i*18+j) Zi:=fun j hj=>Jq hj
  have hz1:1≤Yx u.length 18 i:=by unfold Yx;omega
  have hz2:i*18+Yx u.length 18 i≤u.length:=by unfold Yx;omega
  replace hX:∀ x∈(List.range (Yx u.length 18 i)).flatMap (fun j=>X (i*18+j)),lo≤x.1∧x.1<hi':=hX
  replace hfu:((s.looked+(1+((List.range (Yx u.length 18 i)).map fun j=>C (i*18+j)).sum):Nat):Int)≤fuel:=hfu
  show ∃ (es:List Ent) (bl:List Int),es.map kvE=(List.range (Yx u.length 18 i)).flatMap (fun j=>X (i*18+j))∧bl.length=1+((List.range (Yx u.length 18 i)).map fun j=>C (i*18+j)).sum∧Zy F t fuel (d'+1) way ((base+u.length+i:Nat):Int) lo hi' s={ s with es:=s.es++es,bs:=s.bs++bl,deep:=((way.length+(h+1)+1:Nat):Int),looked:=s.looked+(1+((List.range (Yx u.length 18 i)).map fun j=>C (i*18+j)).sum) }
  generalize Yx u.length 18 i=z at hzl hget hz1 hz2 hX hfu ⊢
  obtain⟨no,hno⟩:∃ no:Int,no=((base+u.length+i:Nat):Int):=⟨_,rfl⟩
  rw[←hno] at he hin ⊢
  have hC:Zn (inB F no)=(Xd u 18 i).length:=by rw[hin];exact B.c
  have hK:Xu F no=Qu (Xd u 18 i):=by unfold Xu;rw[hC,hin];exact B.k
  have hV:Qw F no=Kw (Xd u 18 i):=by unfold Qw;rw[hC,hin];exact B.v
  have hL:Xk (inB F no)=false:=by rw[hin];exact B.l
  have hKl:(Qu (Xd u 18 i)).length=z:=by rw[Wi,hzl]
  have hVl:(Kw (Xd u 18 i)).length=z:=by rw[Fb,hzl]
  have key:∀ j,j<z→(Qu (Xd u 18 i)).getD j 0=(u.getD (i*18+j) Zi).1:=fun j hj=>by rw[Fk (by rw[hzl];exact hj),hget j hj]
  have vals:∀ j,j<z→(Kw (Xd u 18 i)).getD j []=(u.getD (i*18+j) Zi).2.1:=fun j hj=>by rw[Zae (by rw[hzl];exact hj),hget j hj]
  have hkk0:∀ j,j<z→0≤(Qu (Xd u 18 i)).getD j 0∧(Qu (Xd u 18 i)).getD j 0≤281474976710655:=fun j hj=>N.hk0 j (by rw[hzl];exact hj)
  have hkk1:∀ j,j+1<z→(Qu (Xd u 18 i)).getD j 0<(Qu (Xd u 18 i)).getD (j+1) 0:=fun j hj=>N.hk1 j (by rw[hzl];exact hj)
  have hsort:=Dm N
  have hcz:(Xd u 18 i).length=z:=hzl
  generalize Qu (Xd u 18 i)=K at hK hKl key hkk0 hkk1 hsort
  generalize Kw (Xd u 18 i)=Vs at hV hVl vals
  rw[hcz] at hC
  have hX2:∀ j,j<z→∀ x∈X (i*18+j),lo≤x.1∧x.1<hi':=fun j hj x hx=>hX x (List.mem_flatMap.2 ⟨j,List.mem_range.2 hj,hx⟩)
  have hhead:∀ j,j<z→∃ v r,X (i*18+j)=(K.getD j 0,v)::r:=fun j hj=>by rw[key j hj];exact hh _ (by omega)
  have hkb:∀ j,j<z→lo≤K.getD j 0∧K.getD j 0<hi':=by
   intro j hj
   obtain⟨v,r,hv⟩:=hhead j hj
   exact hX2 j hj (K.getD j 0,v) (by rw[hv];exact List.mem_cons_self)
  have hk:∀ x∈K,lo≤x∧x<hi':=by
   intro x hx
   obtain⟨j,hj,rfl⟩:=List.mem_iff_getElem.1 hx
   have:=hkb j (by omega)
   simpa [List.getD,hj] using this
  have hrb:=of_decide_eq_true hr
  have hlook:Zw F way no t lo hi' s.deep=0:=look_ok (by omega) (fun y hy=>by have:=hway y hy;omega) he hr (by rw[hK];exact hsort) (by rw[hK];exact hk) fun q=>by rw[hL] at q;cases q
  obtain⟨es,bl,e1,e2,e3⟩:=lev_loop L (way:=way) (no:=no) (hi':=hi') (s0:={ s with looked:=s.looked+1,bs:=s.bs++[no] }) (z:=z) (a:=i*18) (d':=d') K hK hKl hz2
   (fun k hk=>by rw[hV,vals k hk];exact hu _ (by omega)) hhead hs hs1 (fun k hk=>⟨(hkk0 k hk).1,(hkb k hk).2⟩) hkk1 (fun k hk x hx=>(hX2 k hk x hx).2) hrb.2.2 hb1 (by omega) (by omega) (by omega) (fun y hy=>by have:=hway y hy;omega) (by omega) hdry (by rw[show way.length+(h+1)+1=way.length+(h+1)+1 from rfl];exact hdeep) (by simp only;omega) z (Nat.le_refl _)
  refine⟨es,no::bl,e1,by rw[List.length_cons,e2];omega,?_⟩
  unfold Zy
  rw[if_neg (by omega),if_neg (by rw[hlook];simp),if_neg (by rw[hL];simp),hC,e3,if_neg (by omega)]
  simp only[WS.mk.injEq,List.append_assoc,List.singleton_append,true_and,and_true]
  omega
theorem Sq{n m:Nat}(hm:1≤m)(C:Nat→Nat):∀ j,j≤ovN n m→((List.range j).map fun i=>1+((List.range (Yx n m i)).map fun k=>C (i*m+k)).sum).sum=j+((List.range (min (j*m) n)).map C).sum
 | 0,_=>by simp
 | j+1,hj=>by
  have hle:=Ii hm (show j<ovN n m by omega)
  have e:min ((j+1)*m) n=j*m+Yx n m j:=by unfold Yx;rw[Nat.add_mul,Nat.one_mul];omega
  rw[List.range_succ,List.map_append,List.sum_append,Sq hm C j (by omega),e,List.range_add,List.map_append,List.sum_append,Nat.min_eq_left hle]
  simp only[List.map_cons,List.map_nil,List.sum_cons,List.sum_nil,List.map_map]
  have:((List.range (Yx n m j)).map fun k=>C (j*m+k))=(List.range (Yx n m j)).map (C ∘ fun x=>j*m+x):=rfl
  rw[this];omega
theorem Dt{α:Type}{n m:Nat}(hm:1≤m)(X:Nat→List α):∀ j,j≤ovN n m→((List.range j).flatMap fun i=>(List.range (Yx n m i)).flatMap fun k=>X (i*m+k))=(List.range (min (j*m) n)).flatMap X
 | 0,_=>by simp
 | j+1,hj=>by
  have hle:=Ii hm (show j<ovN n m by omega)
  have e:min ((j+1)*m) n=j*m+Yx n m j:=by unfold Yx;rw[Nat.add_mul,Nat.one_mul];omega
  rw[List.range_succ,List.flatMap_append,Dt hm X j (by omega),e,List.range_add,List.flatMap_append,Nat.min_eq_left hle]
  simp[List.flatMap_map]
theorem ov_all{n m:Nat}(hm:1≤m):min (ovN n m*m) n=n:=by
 have h:=Nat.div_add_mod (n+m-1) m
 have h2:=Nat.mod_lt (n+m-1) (show 0<m by omega)
 have h3:(n+m-1)/m*m≤ovN n m*m:=Nat.mul_le_mul_right m (by unfold ovN;omega)
 rw[Nat.mul_comm] at h
 omega
def FoundW(X:List (Int×List UInt8))(total deep:Nat)(w:WS):Prop:=∃ (es:List Ent) (bl:List Int),es.map kvE=X∧bl.length=total∧w=⟨es,bl,(deep:Int),total,[],false⟩
theorem Zau{t fuel:Int}(h1:1≤t)(h2:t≤5)(n:Nat):∀ (u:List Ent) (h base:Nat) (bs F:List UInt8) (X:Nat→List (Int×List UInt8)) (C:Nat→Nat),u.length=n→1≤n→EntsOk 4 u→(∀ k,k<n→(u.getD k Zi).2.1=leB ((base+k:Nat):Int) 4∧(u.getD k Zi).2.2=((base+k:Nat):Int)) →
 (2≤n→∀ k,k<n→∃ v r,X k=((u.getD k Zi).1,v)::r)→(∀ a b,a<b→b<n→∀ x∈X a,∀ y∈X b,x.1<y.1)→(∀ a,a<n→(X a).Pairwise fun x y=>x.1<y.1)→F=(Va t u (base+n) bs).2→1≤base→(base+n+((Hu n).sum-n))*256≤bs.length→base+n+((Hu n).sum-n)≤14400→Lev F t fuel h n base X C→h+(Hu n).length≤16 →
 (∀ k,k<n→∀ x∈X k,0≤x.1∧x.1<281474976710656)→((((List.range n).map C).sum+((Hu n).sum-n):Nat):Int)≤fuel →
 FoundW ((List.range n).flatMap X) (((List.range n).map C).sum+((Hu n).sum-n)) (h+(Hu n).length) (Zd F (Va t u (base+n) bs).1 t fuel):=by
 induction n using Nat.strongRecOn with
 | _ n ih =>
  intro u h base bs F X C hn hn1 E hu hh hs hs1 hF hb1 hbs h4 L hdep hX hfu
  subst hn
  by_cases h9:u.length≤1
  ·have h10:u.length=1:=by omega
   have hl1:Hu u.length=[1]:=by rw[Jg h9,h10]
   rw[hl1] at hdep hfu ⊢
   rw[h10] at hfu ⊢
   simp only[List.length_cons,List.length_nil,List.sum_cons,List.sum_nil,List.range_one,List.map_cons,List.map_nil,List.flatMap_cons,List.flatMap_nil,List.append_nil,Nat.sub_self,Nat.add_zero] at hdep hfu ⊢
   rw[Kg h9,(hu 0 (by omega)).2]
   obtain⟨es,bl,e1,e2,e3⟩:=L.go 0 (by omega) 17 [] 0 281474976710656 ws0 (by omega) (by simp;omega) (fun y hy=>by cases hy) (by decide) (fun x hx=>hX 0 (by omega) x hx) rfl (by simp only[ws0];omega) (.inl rfl)
   refine⟨es,bl,e1,e2,?_⟩
   unfold Zd
   rw[e3]
   simp[ws0]
  ·have h18:=ov18 (x:=u.length) (by omega)
   have hp:=Qd u.length 18
   have hlm:Hu u.length=u.length::Hu (ovN u.length 18):=Vg h9
   have hg:=Je (ovN u.length 18)
   rw[hlm] at hbs h4 hdep hfu
   simp only[List.sum_cons,List.length_cons] at hbs h4 hdep hfu
   obtain⟨a1,a2,a3⟩:=Vo (t:=t) (leaf:=false) (m:=18) (v:=4) (l:=u) (q:=base+u.length) (bs:=bs) E h1 h2 rfl rfl (fun _=>by omega) (ovN u.length 18) (Nat.le_refl _) (by omega)
   obtain⟨b1,b2⟩:=Nc (t:=t) h1 h2 (ovN u.length 18) (upE u 18 (base+u.length) (ovN u.length 18)) (base+u.length+ovN u.length 18) (Wz t false 18 4 u (base+u.length) bs (ovN u.length 18)) (Xr _ _ _ _) hp (Cd E (by decide)) (by rw[a1];omega)
   have hF2:F=(Va t (upE u 18 (base+u.length) (ovN u.length 18)) (base+u.length+ovN u.length 18) (Wz t false 18 4 u (base+u.length) bs (ovN u.length 18))).2:=by rw[hF,Qr h9]
   have hlen:F.length=bs.length:=by rw[hF2,b1,a1]
   have hLaid:LaidF F t false 18 4 u (base+u.length):=by
    intro i hi
    rw[hF2,b2 _ (by omega)];exact a2 i hi
   have L2:=lev_inner L rfl (fun k hk=>(hu k hk).1) (hh (by omega)) hs hs1 E h1 h2 hn1 hb1 hLaid hlen (by omega) (by omega)
   have hsz:∀ i,Yx u.length 18 i=min 18 (u.length-i*18):=fun i=>rfl
   have hsl:∀ i,i<ovN u.length 18→i*18<u.length:=fun i hi=>Zcn (by decide) hn1 hi
   have hall:=ov_all (n:=u.length) (m:=18) (by decide)
   have hsum:=Sq (n:=u.length) (m:=18) (by decide) C (ovN u.length 18) (Nat.le_refl _)
   have hflat:=Dt (n:=u.length) (m:=18) (by decide) X (ovN u.length 18) (Nat.le_refl _)
   rw[hall] at hsum hflat
   have key:=ih (ovN u.length 18) (by omega) (upE u 18 (base+u.length) (ovN u.length 18)) (h+1) (base+u.length) (Wz t false 18 4 u (base+u.length) bs (ovN u.length 18)) F (fun i=>(List.range (Yx u.length 18 i)).flatMap fun j=>X (i*18+j)) (fun i=>1+((List.range (Yx u.length 18 i)).map fun j=>C (i*18+j)).sum) (Xr _ _ _ _) hp (Cd E (by decide)) (fun k hk=>by rw[Js hk];exact⟨rfl,rfl⟩)
    (fun _ k hk=>by
     obtain⟨v,r,hv⟩:=hh (by omega) (k*18) (hsl k hk)
     obtain⟨z,hz⟩:∃ z,Yx u.length 18 k=z+1:=⟨Yx u.length 18 k-1,by have:=hsl k hk;rw[hsz];omega⟩
     refine⟨v,r++(List.range z).flatMap fun j=>X (k*18+(j+1)),?_⟩
     show(List.range (Yx u.length 18 k)).flatMap _=_
     rw[hz,List.range_succ_eq_map,List.flatMap_cons,Nat.add_zero,hv,Js hk,(Ic (v:=4) (by decide) hn1 hk).1,List.flatMap_map]
     rfl)
    (fun a b hab hb x hx y hy=>by
     obtain⟨j,hj,hx⟩:=List.mem_flatMap.1 hx
     obtain⟨j2,hj2,hy⟩:=List.mem_flatMap.1 hy
     have hj:=List.mem_range.1 hj
     have hj2:=List.mem_range.1 hj2
     rw[hsz] at hj hj2
     have:(a+1)*18≤b*18:=Nat.mul_le_mul_right 18 hab
     exact hs (a*18+j) (b*18+j2) (by omega) (by omega) x hx y hy)
    (fun a ha=>by
     refine List.pairwise_flatMap.2 ⟨fun j hj=>?_,?_⟩
     ·have hj:=List.mem_range.1 hj
      rw[hsz] at hj
      exact hs1 _ (by omega)
     ·refine List.Pairwise.imp_of_mem ?_ (List.pairwise_lt_range)
      intro j j2 hj hj2 hlt x hx y hy
      have hj2:=List.mem_range.1 hj2
      rw[hsz] at hj2
      exact hs (a*18+j) (a*18+j2) (by omega) (by omega) x hx y hy)
    hF2 (by omega) (by rw[a1];omega) (by omega) L2 (by omega)
    (fun k hk x hx=>by
     obtain⟨j,hj,hx⟩:=List.mem_flatMap.1 hx
     have hj:=List.mem_range.1 hj
     rw[hsz] at hj
     exact hX _ (by omega) x hx)
    (by rw[hsum];omega)
   rw[hsum,hflat] at key
   rw[Qr h9,hlm,List.sum_cons,List.length_cons]
   have e1:ovN u.length 18+((List.range u.length).map C).sum+((Hu (ovN u.length 18)).sum-ovN u.length 18)=((List.range u.length).map C).sum+(u.length+(Hu (ovN u.length 18)).sum-u.length):=by omega
   have e2:h+1+(Hu (ovN u.length 18)).length=h+((Hu (ovN u.length 18)).length+1):=by omega
   rw[e1,e2] at key
   exact key
theorem Rk:∀ (k x:Nat),x≤18 ^ k→(Hu x).length≤k+1
 | 0,x,h=>by rw[Jg (by simpa using h)];simp
 | k+1,x,h=>by
  by_cases h1:x≤1
  ·rw[Jg h1];simp
  ·rw[Vg h1,List.length_cons]
   have:ovN x 18≤18 ^ k:=by
    rw[Nat.pow_succ] at h
    have hp:0<18 ^ k:=Nat.pow_pos (by decide)
    unfold ovN
    have:(x+18-1)/18≤18 ^ k:=by
     rw[Nat.div_le_iff_le_mul_add_pred (by decide)];omega
    omega
   have:=Rk k _ this
   omega
theorem Ru{l:List Ent}{m:Nat}:∀ j,((List.range j).flatMap fun i=>(Xd l m i).map kvE)=(l.take (j*m)).map kvE
 | 0=>by simp
 | j+1=>by
  rw[List.range_succ,List.flatMap_append,Ru j,Nat.add_mul,Nat.one_mul,List.take_add,List.map_append]
  simp[Xd]
theorem Zha(n:Nat):((List.range n).map fun _=>1).sum=n:=by
 induction n with
 | zero=>rfl
 | succ n ih=>rw[List.range_succ,List.map_append,List.sum_append,ih];simp
theorem Zez{t fuel:Int}{l:List Ent}{q:Nat}{bs:List UInt8}(h1:1≤t)(h2:t≤5)(E:EntsOk (Gv t true) l)(hn:l.length≤32768)(hq:1≤q)(hbs:(q+Hx t l.length)*256≤bs.length)(h4:q+Hx t l.length≤14400)(hfu:(Hx t l.length:Int)≤fuel) :
 FoundW (l.map kvE) (Hx t l.length) (Hl t l.length).length (Zd (Yp t l q bs).2 (Yp t l q bs).1 t fuel):=by
 obtain⟨m,hm⟩:∃ m,Vy t true=m:=⟨_,rfl⟩
 obtain⟨v,hv⟩:∃ v,Gv t true=v:=⟨_,rfl⟩
 have hmb:=Yv t true
 have h6:6≤Vy t true:=by
  unfold Vy;repeat' split
  all_goals first|decide|simp_all
 have hop:=Qd l.length m
 have hg:=Je (ovN l.length m)
 have hN:Hx t l.length=(Hu (ovN l.length m)).sum:=by unfold Hx Hl;rw[hm]
 have hT:Yp t l q bs=Va t (upE l m q (ovN l.length m)) (q+ovN l.length m) (Wz t true m v l q bs (ovN l.length m)):=by unfold Yp;rw[hm,hv]
 have hD:(Hl t l.length).length=0+(Hu (ovN l.length m)).length:=by unfold Hl;rw[hm,Nat.zero_add]
 rw[hv] at E
 rw[hm] at hmb h6
 rw[hN] at hbs h4 hfu ⊢
 rw[hD,hT]
 obtain⟨a1,a2,a3⟩:=Vo (t:=t) (leaf:=true) (m:=m) (v:=v) (l:=l) (q:=q) (bs:=bs) E h1 h2 hm hv (fun h=>by cases h) (ovN l.length m) (Nat.le_refl _) (by omega)
 obtain⟨b1,b2⟩:=Nc (t:=t) h1 h2 (ovN l.length m) (upE l m q (ovN l.length m)) (q+ovN l.length m) (Wz t true m v l q bs (ovN l.length m)) (Xr _ _ _ _) hop (Cd E hmb.1) (by rw[a1];omega)
 have hlen:(Va t (upE l m q (ovN l.length m)) (q+ovN l.length m) (Wz t true m v l q bs (ovN l.length m))).2.length=bs.length:=by rw[b1,a1]
 have hLaid:LaidF (Va t (upE l m q (ovN l.length m)) (q+ovN l.length m) (Wz t true m v l q bs (ovN l.length m))).2 t true m v l q:=by
   intro i hi
   rw[b2 _ (by omega)];exact a2 i hi
 have L:=lev_leaf (fuel:=fuel) hm hv E h1 h2 hLaid hlen (by omega) (by omega)
 have hov:ovN l.length m≤5833:=by
   unfold ovN
   have:(l.length+m-1)/m≤5833:=by
    rw[Nat.div_le_iff_le_mul_add_pred (by omega)]
    have:=Nat.mul_le_mul_right 5833 h6
    omega
   omega
 have hdep:=Rk 4 (ovN l.length m) (Nat.le_trans hov (by decide))
 have hget:∀ {i j:Nat},j<Yx l.length m i→i*m+j<l.length:=fun {i j} hj=>by unfold Yx at hj;omega
 have hmem:∀ {i:Nat} {x:Int×List UInt8},x∈(Xd l m i).map kvE→∃ j,j<Yx l.length m i∧x=kvE (l.getD (i*m+j) Zi):=by
   intro i x hx
   obtain⟨y,hy,rfl⟩:=List.mem_map.1 hx
   obtain⟨j,hj,rfl⟩:=List.mem_iff_getElem.1 hy
   have hj2:j<Yx l.length m i:=by rw[←Jk];exact hj
   refine⟨j,hj2,?_⟩
   rw[←Jq hj2];simp[List.getD,hj]
 have key:=Zau (fuel:=fuel) h1 h2 (ovN l.length m) (upE l m q (ovN l.length m)) 0 q (Wz t true m v l q bs (ovN l.length m)) _ (fun i=>(Xd l m i).map kvE) (fun _=>1) (Xr _ _ _ _) hop (Cd E hmb.1) (fun k hk=>by rw[Js hk];exact⟨rfl,rfl⟩)
   (fun h2n k hk=>by
    have hl1:1≤l.length:=by
     rcases Nat.eq_zero_or_pos l.length with q0|q0
     ·rw[q0] at h2n
      have:ovN 0 m=1:=by unfold ovN;rw[Nat.div_eq_of_lt (by omega)];rfl
      omega
     ·exact q0
    obtain⟨k1,k2⟩:=Ic (v:=v) (q:=q) hmb.1 hl1 hk
    have hz:0<Yx l.length m k:=by unfold Yx;omega
    rw[Js hk,k1]
    have hc:=Jk l m k
    cases hcc:Xd l m k with
    | nil=>rw[hcc] at hc;simp at hc;omega
    | cons y r =>
     refine⟨y.2.1,r.map kvE,?_⟩
     have h0:=Jq (l:=l) (m:=m) (i:=k) (j:=0) hz
     rw[hcc,Nat.add_zero] at h0
     simp only[List.map_cons]
     have e0:y=l.getD (k*m) Zi:=by simpa [List.getD] using h0
     rw[e0];rfl)
   (fun a b hab hb x hx y hy=>by
    obtain⟨j,hj,rfl⟩:=hmem hx
    obtain⟨j2,hj2,rfl⟩:=hmem hy
    have:(a+1)*m≤b*m:=Nat.mul_le_mul_right m hab
    rw[Nat.add_mul,Nat.one_mul] at this
    have hjm:j<m:=by unfold Yx at hj;omega
    exact E.mono (a:=a*m+j) (b:=b*m+j2) (by omega) (hget hj2))
   (fun a ha=>by
    rw[List.pairwise_map]
    refine List.pairwise_iff_getElem.2 fun i j hi hj hij=>?_
    have hj2:j<Yx l.length m a:=by rw[←Jk];exact hj
    have e1:=Jq (l:=l) (m:=m) (i:=a) (j:=i) (by omega)
    have e2:=Jq (l:=l) (m:=m) (i:=a) (j:=j) hj2
    simp only[List.getD,List.getElem?_eq_getElem hi,List.getElem?_eq_getElem hj,Option.getD_some] at e1 e2
    show(Xd l m a)[i].1<(Xd l m a)[j].1
    rw[e1,e2]
    exact E.mono (a:=a*m+i) (b:=a*m+j) (by omega) (hget hj2))
   rfl hq (by rw[a1];omega) (by omega) L (by omega)
   (fun k hk x hx=>by
    obtain⟨j,hj,rfl⟩:=hmem hx
    have:=E.hk _ (hget hj)
    exact⟨this.1,by have:=this.2;simp only[kvE];omega⟩)
   (by rw[Zha];omega)
 rw[Zha,Ru] at key
 rw[show ovN l.length m+((Hu (ovN l.length m)).sum-ovN l.length m)=(Hu (ovN l.length m)).sum by omega] at key
 have hall:=ov_all (n:=l.length) (m:=m) hmb.1
 rw[List.take_of_length_le (by omega)] at key
 exact key
theorem putB_comm{l x y:List UInt8}{a b:Nat}(ha:a+x.length≤l.length)(hb:b+y.length≤l.length)(hd:a+x.length≤b∨b+y.length≤a):Kr (Kr l a x) b y=Kr (Kr l b y) a x:=by
 have e1:=Qn ha
 have e2:=Qn hb
 apply Cq
 ·rw[Qn (by rw[e1];exact hb),e1,Qn (by rw[e2];exact ha),e2]
 ·intro j hj
  rw[Vz (by rw[e1];exact hb),Vz ha,Vz (by rw[e2];exact ha),Vz hb]
  by_cases p:a≤j∧j<a+x.length
  ·rw[if_neg (by omega),if_pos p,if_pos p]
  ·rw[if_neg p,if_neg p]
theorem Zdt{t:Int}{leaf:Bool}{m v:Nat}{l:List Ent}{q k:Nat}{bs x:List UInt8}(E:EntsOk v l)(h1:1≤t)(h2:t≤5)(hm:Vy t leaf=m)(hv:Gv t leaf=v)(hl:leaf=false→1≤l.length)(hx:x.length=256)(hk:(k+1)*256≤bs.length)(j:Nat) :
 j≤ovN l.length m→(q+j)*256≤bs.length→(k<q∨q+j≤k)→Kr (Wz t leaf m v l q bs j) (k*256) x=Wz t leaf m v l q (Kr bs (k*256) x) j:=by
 induction j with
 | zero=>exact fun _ _ _=>by simp only[Wz]
 | succ j ih =>
  intro hj hq hd
  have ih:=ih (by omega) (by omega) (by omega)
  have a1:=(Vo (t:=t) (leaf:=leaf) (m:=m) (v:=v) (l:=l) (q:=q) (bs:=bs) E h1 h2 hm hv hl j (by omega) (by omega)).1
  have hlen:=Ck (Wm E h1 h2 hm hv hl (show j<ovN l.length m by omega))
  have hsl:(Qz 2 ((q+j:Nat):Int) (nodB t leaf m v (Xd l m j))).length=256:=Ho (by rw[hlen];decide)
  rw[Ur,Ur,←ih]
  exact putB_comm (by rw[hsl,a1];omega) (by rw[hx,a1];omega) (by rw[hsl,hx];omega)
theorem Ze7{t:Int}(h1:1≤t)(h2:t≤5){k:Nat}{x:List UInt8}(hx:x.length=256)(n:Nat):∀ (u:List Ent) (q:Nat) (bs:List UInt8),u.length=n→1≤n→EntsOk 4 u→(q+((Hu n).sum-n))*256≤bs.length→(k+1)*256≤bs.length→(k<q∨q+((Hu n).sum-n)≤k) →
 Va t u q (Kr bs (k*256) x)=((Va t u q bs).1,Kr (Va t u q bs).2 (k*256) x):=by
 induction n using Nat.strongRecOn with
 | _ n ih =>
  intro u q bs hn h1n E hq hk hd
  subst hn
  by_cases h:u.length≤1
  ·rw[Kg h,Kg h]
  ·have h18:=ov18 (x:=u.length) (by omega)
   have hp:=Qd u.length 18
   have hlm:(Hu u.length).sum=u.length+(Hu (ovN u.length 18)).sum:=by rw[Vg h];rfl
   have hg:=Je (ovN u.length 18)
   rw[Qr h,Qr h]
   obtain⟨a1,a2,a3⟩:=Vo (t:=t) (leaf:=false) (m:=18) (v:=4) (l:=u) (q:=q) (bs:=bs) E h1 h2 rfl rfl (fun _=>by omega) (ovN u.length 18) (Nat.le_refl _) (by omega)
   rw[←Zdt (leaf:=false) (m:=18) (v:=4) E h1 h2 rfl rfl (fun _=>by omega) hx hk (ovN u.length 18) (Nat.le_refl _) (by omega) (by omega)]
   exact ih (ovN u.length 18) (by omega) (upE u 18 q (ovN u.length 18)) (q+ovN u.length 18) _ (Xr _ _ _ _) hp (Cd E (by decide)) (by rw[a1];omega) (by rw[a1];exact hk) (by omega)
theorem treeB_put{t:Int}{l:List Ent}{q k:Nat}{bs x:List UInt8}(h1:1≤t)(h2:t≤5)(E:EntsOk (Gv t true) l)(hx:x.length=256)(hq:(q+Hx t l.length)*256≤bs.length)(hk:(k+1)*256≤bs.length)(hd:k<q∨q+Hx t l.length≤k) :
 Yp t l q (Kr bs (k*256) x)=((Yp t l q bs).1,Kr (Yp t l q bs).2 (k*256) x):=by
 obtain⟨m,hm⟩:∃ m,Vy t true=m:=⟨_,rfl⟩
 have hmb:=Yv t true
 have hop:=Qd l.length m
 have hg:=Je (ovN l.length m)
 have hN:Hx t l.length=(Hu (ovN l.length m)).sum:=by unfold Hx Hl;rw[hm]
 rw[hm] at hmb
 rw[hN] at hq hd
 unfold Yp
 rw[hm]
 obtain⟨a1,a2,a3⟩:=Vo (t:=t) (leaf:=true) (m:=m) (v:=Gv t true) (l:=l) (q:=q) (bs:=bs) E h1 h2 hm rfl (fun h=>by cases h) (ovN l.length m) (Nat.le_refl _) (by omega)
 rw[←Zdt E h1 h2 hm rfl (fun h=>by cases h) hx hk (ovN l.length m) (Nat.le_refl _) (by omega) (by omega)]
 exact Ze7 h1 h2 hx (ovN l.length m) (upE l m q (ovN l.length m)) (q+ovN l.length m) _ (Xr _ _ _ _) hop (Cd E hmb.1) (by rw[a1];omega) (by rw[a1];exact hk) (by omega)
theorem Ri{t:Int}{l:List Ent}{q:Nat}{bs:List UInt8}(h1:1≤t)(h2:t≤5)(E:EntsOk (Gv t true) l)(hq:(q+Hx t l.length)*256≤bs.length):(Yp t l q bs).2.length=bs.length∧∀ x,x<q→Ju (Yp t l q bs).2 x=Ju bs x:=by
 obtain⟨m,hm⟩:∃ m,Vy t true=m:=⟨_,rfl⟩
 have hmb:=Yv t true
 have hop:=Qd l.length m
 have hg:=Je (ovN l.length m)
 have hN:Hx t l.length=(Hu (ovN l.length m)).sum:=by unfold Hx Hl;rw[hm]
 rw[hm] at hmb
 rw[hN] at hq
 unfold Yp
 rw[hm]
 obtain⟨a1,a2,a3⟩:=Vo (t:=t) (leaf:=true) (m:=m) (v:=Gv t true) (l:=l) (q:=q) (bs:=bs) E h1 h2 hm rfl (fun h=>by cases h) (ovN l.length m) (Nat.le_refl _) (by omega)
 obtain⟨b1,b2⟩:=Nc (t:=t) h1 h2 (ovN l.length m) (upE l m q (ovN l.length m)) (q+ovN l.length m) (Wz t true m (Gv t true) l q bs (ovN l.length m)) (Xr _ _ _ _) hop (Cd E hmb.1) (by rw[a1];omega)
 exact⟨by rw[b1,a1],fun x hx=>by rw[b2 x (by omega),a3 x hx]⟩
theorem Oa{t s:Int}{leaf:Bool}{m v:Nat}{l e:List Ent}{q p:Nat}{bs:List UInt8}(E:EntsOk v l)(h1:1≤t)(h2:t≤5)(hm:Vy t leaf=m)(hv:Gv t leaf=v)(hl:leaf=false→1≤l.length)(s1:1≤s)(s2:s≤5)(Es:EntsOk (Gv s true) e)(hp:(p+Hx s e.length)*256≤bs.length)(j:Nat) :
 j≤ovN l.length m→(q+j)*256≤bs.length→p+Hx s e.length≤q→Yp s e p (Wz t leaf m v l q bs j)=((Yp s e p bs).1,Wz t leaf m v l q (Yp s e p bs).2 j):=by
 induction j with
 | zero=>exact fun _ _ _=>by simp only[Wz]
 | succ j ih =>
  intro hj hq hd
  have ih:=ih (by omega) (by omega) hd
  have a1:=(Vo (t:=t) (leaf:=leaf) (m:=m) (v:=v) (l:=l) (q:=q) (bs:=bs) E h1 h2 hm hv hl j (by omega) (by omega)).1
  have hlen:=Ck (Wm E h1 h2 hm hv hl (show j<ovN l.length m by omega))
  have hsl:(Qz 2 ((q+j:Nat):Int) (nodB t leaf m v (Xd l m j))).length=256:=Ho (by rw[hlen];decide)
  rw[Ur,Ur,treeB_put s1 s2 Es hsl (by rw[a1];exact hp) (by rw[a1];omega) (by omega),ih]
theorem Zbu{t s:Int}{e:List Ent}{p:Nat}(h1:1≤t)(h2:t≤5)(s1:1≤s)(s2:s≤5)(Es:EntsOk (Gv s true) e)(n:Nat):∀ (u:List Ent) (q:Nat) (bs:List UInt8),u.length=n→1≤n→EntsOk 4 u→(q+((Hu n).sum-n))*256≤bs.length→(p+Hx s e.length)*256≤bs.length→p+Hx s e.length≤q →
 Yp s e p (Va t u q bs).2=((Yp s e p bs).1,(Va t u q (Yp s e p bs).2).2):=by
 induction n using Nat.strongRecOn with
 | _ n ih =>
  intro u q bs hn h1n E hq hp hd
  subst hn
  by_cases h:u.length≤1
  ·rw[Kg h,Kg h]
  ·have h18:=ov18 (x:=u.length) (by omega)
   have hpo:=Qd u.length 18
   have hlm:(Hu u.length).sum=u.length+(Hu (ovN u.length 18)).sum:=by rw[Vg h];rfl
   have hg:=Je (ovN u.length 18)
   obtain⟨a1,a2,a3⟩:=Vo (t:=t) (leaf:=false) (m:=18) (v:=4) (l:=u) (q:=q) (bs:=bs) E h1 h2 rfl rfl (fun _=>by omega) (ovN u.length 18) (Nat.le_refl _) (by omega)
   have hl:=Oa (leaf:=false) (m:=18) (v:=4) (p:=p) E h1 h2 rfl rfl (fun _=>by omega) s1 s2 Es hp (ovN u.length 18) (Nat.le_refl _) (by omega) hd
   rw[Qr h,Qr h,ih (ovN u.length 18) (by omega) (upE u 18 q (ovN u.length 18)) (q+ovN u.length 18) _ (Xr _ _ _ _) hpo (Cd E (by decide)) (by rw[a1];omega) (by rw[a1];exact hp) (by omega),hl]
theorem Zfd{t s:Int}{l e:List Ent}{q p:Nat}{bs:List UInt8}(h1:1≤t)(h2:t≤5)(E:EntsOk (Gv t true) l)(s1:1≤s)(s2:s≤5)(Es:EntsOk (Gv s true) e)(hq:(q+Hx t l.length)*256≤bs.length)(hd:p+Hx s e.length≤q) :
 Yp s e p (Yp t l q bs).2=((Yp s e p bs).1,(Yp t l q (Yp s e p bs).2).2):=by
 obtain⟨m,hm⟩:∃ m,Vy t true=m:=⟨_,rfl⟩
 have hmb:=Yv t true
 have hop:=Qd l.length m
 have hg:=Je (ovN l.length m)
 have hN:Hx t l.length=(Hu (ovN l.length m)).sum:=by unfold Hx Hl;rw[hm]
 rw[hm] at hmb
 rw[hN] at hq
 have hpb:(p+Hx s e.length)*256≤bs.length:=by omega
 obtain⟨a1,a2,a3⟩:=Vo (t:=t) (leaf:=true) (m:=m) (v:=Gv t true) (l:=l) (q:=q) (bs:=bs) E h1 h2 hm rfl (fun h=>by cases h) (ovN l.length m) (Nat.le_refl _) (by omega)
 have hl:=Oa (p:=p) E h1 h2 hm rfl (fun h=>by cases h) s1 s2 Es hpb (ovN l.length m) (Nat.le_refl _) (by omega) hd
 have hu:=Zbu (p:=p) h1 h2 s1 s2 Es (ovN l.length m) (upE l m q (ovN l.length m)) (q+ovN l.length m) (Wz t true m (Gv t true) l q bs (ovN l.length m)) (Xr _ _ _ _) hop (Cd E hmb.1) (by rw[a1];omega) (by rw[a1];exact hpb) (by omega)
 rw[show(Yp t l q bs)=Va t (upE l m q (ovN l.length m)) (q+ovN l.length m) (Wz t true m (Gv t true) l q bs (ovN l.length m)) from by unfold Yp;rw[hm],hu,hl]
 rw[show(Yp t l q (Yp s e p bs).2)=Va t (upE l m q (ovN l.length m)) (q+ovN l.length m) (Wz t true m (Gv t true) l q (Yp s e p bs).2 (ovN l.length m)) from by unfold Yp;rw[hm]]
abbrev Nf:=Int×List Ent
def Fp(x:Nf):Prop:=1≤x.1∧x.1≤5∧EntsOk (Gv x.1 true) x.2∧x.2.length≤32768
def Jn(x:Nf):Nat:=Hx x.1 x.2.length
def Pl:List Nf→Nat
 | []=>0
 | x::r=>Jn x+Pl r
def Fq:List Nf→Nat→List UInt8→List UInt8
 | [],_,bs=>bs
 | x::r,q,bs=>Fq r (q+Jn x) (Yp x.1 x.2 q bs).2
theorem Zbn(a b:List Nf):Pl (a++b)=Pl a+Pl b:=by
 induction a with
 | nil=>simp[Pl]
 | cons x a ih=>simp only[List.cons_append,Pl,ih];omega
theorem Di(a b:List Nf):∀ (q:Nat) (bs:List UInt8),Fq (a++b) q bs=Fq b (q+Pl a) (Fq a q bs):=by
 induction a with
 | nil=>intro q bs;simp[Fq,Pl]
 | cons x a ih =>
  intro q bs
  simp only[List.cons_append,Fq,Pl,ih]
  rw[show q+Jn x+Pl a=q+(Jn x+Pl a) by omega]
theorem Zcr(r:List Nf):∀ (q:Nat) (bs:List UInt8),(∀ x∈r,Fp x)→(q+Pl r)*256≤bs.length→(Fq r q bs).length=bs.length:=by
 induction r with
 | nil=>intro q bs _ _;rfl
 | cons x r ih =>
  intro q bs h hb
  have hx:=h x (by simp)
  rw[show Pl (x::r)=Jn x+Pl r from rfl] at hb
  have hk:=Ri (q:=q) (bs:=bs) hx.1 hx.2.1 hx.2.2.1 (by change (q+Jn x)*256≤_;omega)
  rw[show Fq (x::r) q bs=Fq r (q+Jn x) (Yp x.1 x.2 q bs).2 from rfl,ih _ _ (fun y hy=>h y (by simp[hy])) (by rw[hk.1];omega),hk.1]
theorem for_comm{y:Nf}{p:Nat}(hy:Fp y)(r:List Nf):∀ (q:Nat) (bs:List UInt8),(∀ x∈r,Fp x)→(q+Pl r)*256≤bs.length→p+Jn y≤q →
 Yp y.1 y.2 p (Fq r q bs)=((Yp y.1 y.2 p bs).1,Fq r q (Yp y.1 y.2 p bs).2):=by
 induction r with
 | nil=>intro q bs _ _ _;rfl
 | cons x r ih =>
  intro q bs h hb hp
  have hx:=h x (by simp)
  rw[show Pl (x::r)=Jn x+Pl r from rfl] at hb
  have hk:=Ri (q:=q) (bs:=bs) hx.1 hx.2.1 hx.2.2.1 (by change (q+Jn x)*256≤_;omega)
  have hc:=Zfd (t:=x.1) (s:=y.1) (l:=x.2) (e:=y.2) (q:=q) (p:=p) (bs:=bs) hx.1 hx.2.1 hx.2.2.1 hy.1 hy.2.1 hy.2.2.1 (by change (q+Jn x)*256≤_;omega) hp
  rw[show Fq (x::r) q bs=Fq r (q+Jn x) (Yp x.1 x.2 q bs).2 from rfl,show Fq (x::r) q (Yp y.1 y.2 p bs).2=Fq r (q+Jn x) (Yp x.1 x.2 q (Yp y.1 y.2 p bs).2).2 from rfl,ih _ _ (fun z hz=>h z (by simp[hz])) (by rw[hk.1];omega) (by omega),hc]
theorem for_scan{a b:List Nf}{y:Nf}{q:Nat}{bs:List UInt8}{fuel:Int}(h:∀ x∈a++y::b,Fp x)(hq:1≤q)(hb:(q+Pl (a++y::b))*256≤bs.length)(h4:q+Pl (a++y::b)≤14400)(hfu:(Jn y:Int)≤fuel) :
 FoundW (y.2.map kvE) (Jn y) (Hl y.1 y.2.length).length (Zd (Fq (a++y::b) q bs) (Yp y.1 y.2 (q+Pl a) (Fq a q bs)).1 y.1 fuel):=by
 have hy:=h y (by simp)
 have hn:Pl (a++y::b)=Pl a+(Jn y+Pl b):=Zbn a (y::b)
 have hla:=Zcr a q bs (fun x hx=>h x (by simp[hx])) (by omega)
 have hlb:=Zcr b (q+Pl a+Jn y) (Fq a q bs) (fun x hx=>h x (by simp[hx])) (by rw[hla];omega)
 have hc:=for_comm (p:=q+Pl a) hy b (q+Pl a+Jn y) (Fq a q bs) (fun x hx=>h x (by simp[hx])) (by rw[hla];omega) (Nat.le_refl _)
 have s:=Zez (t:=y.1) (fuel:=fuel) (l:=y.2) (q:=q+Pl a) (bs:=Fq b (q+Pl a+Jn y) (Fq a q bs)) hy.1 hy.2.1 hy.2.2.1 hy.2.2.2 (by omega) (by change (q+Pl a+Jn y)*256≤_;rw[hlb,hla];omega) (by change q+Pl a+Jn y≤_;omega) hfu
 rw[hc] at s
 rw[Di]
 exact s
end Go.Proofs.YtlmaglneeaecdaaGreatDoor
