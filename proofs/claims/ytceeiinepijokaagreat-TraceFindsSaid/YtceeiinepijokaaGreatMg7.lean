/- Package pool: Find. -/
import Derived.RangeFuncNested
import Derived.RangeFuncBound
import Derived.RangeFuncCalls
import Derived.RangeFuncLeaves
import Derived.Shelf.Abstract
import Derived.Shelf.RegionOpen
import Derived.OwnWalkIn
import Derived.TacticsInMore
import Derived.LoopNIn
import Derived.LoopIn
import Derived.Sort.BigQuietIn
import Derived.Test.YtceeiinepijokaaGreatMg6
namespace Go.Proofs.YtceeiinepijokaaGreat
set_option maxHeartbeats 8000000
set_option maxRecDepth 100000
open Go.RowKit Go.Extern.Stop Go.Stop Go.Extern
set_option linter.unusedVariables false
attribute [local irreducible] wpList wpAnyH Code.wp Oper.wp Go
theorem pool_find1(d:Dv)(a:O0)(n c bi:Nat)(id:Int)(w:World)(k:Blk w bi [V0 id] 3) :
 C0 23 #[.agg #[V0 d.1.1,V0 d.1.2.1,V0 d.1.2.2.1,V0 d.1.2.2.2,.slice a n c],P0 bi] w (Ret (.bool (d.1.1==id)) w):=by
 refine zin 8 Tryz.func23 ?_
 refine xa 2 [V0 d.1.1,V0 d.1.2.1,V0 d.1.2.2.1,V0 d.1.2.2.2,.slice a n c] 42 fun b1 W1 n1=>?_
 refine xb 6 0 n1.blk ?_
 have a0:=k.below n1.below
 refine xb 0 0 a0 ?_
 exact xe 5 (.bool (d.1.1==id)) ⟨rfl,n1.below⟩
theorem find_index(p:O0)(c n bi:Nat)(id:Int)(Z:List Zv)(w:World)(hZ:Z.length=n)(hP:DevsR w p c Z)(k:Blk w bi [V0 id] 3) :
 C0 22 #[.slice p n c,.func (.func 23) #[] #[P0 bi]] w ((fun e w'=>((∀ j,j<n→(Z.getD j zvD).1.1.1≠id)∧e=.returned (V0 (-1))∧B3 w w')∨(∃ i:Nat,i<n∧(Z.getD i zvD).1.1.1=id∧(∀ j,j<i→(Z.getD j zvD).1.1.1≠id)∧e=.returned (V0 (i:Int))∧B3 w w'))):=by
 have a9:=Sl.len (hP.rowN hZ)
 refine zin 19 Tryz.func22 ?_
 have hB:=Below.refl w.heap.size w
 refine zl 14 19 (fun zm a6 V=>∃ (i:Nat),a6=[(0,.slice p n c),(1,.func (.func 23) #[] #[P0 bi]),(7,V0 (n:Int)),(8,V0 (i:Int))]∧zm=n-((i:Int)).toNat∧B3 w V∧i≤n∧(∀ j,j<i→(Z.getD j zvD).1.1.1≠id)) ⟨0,rfl,rfl,hB,Nat.zero_le _,?_⟩ ?_
 ·exact fun j hj=>absurd hj (by omega)
 rintro _ _ W1 ⟨i,rfl,rfl,a0,hi,a1⟩ J1 a5 r1
 refine xid 6 ((i:Int)<(n:Int)) (fun a7=>?_) (fun a7=>?_)
 ·refine xx 15 _ n i 5 (hP.someN hZ (i:=i) (by omega)) ?_
  refine xlv 0 (Sts.rp (k:=i) (hP.below a0).row Gg zvD (by omega) (by decide)) ?_
  refine xr 0 (args:=#[.agg #[V0 ((Z.getD i zvD).1.1.1),V0 ((Z.getD i zvD).1.1.2.1),V0 ((Z.getD i zvD).1.1.2.2.1),V0 ((Z.getD i zvD).1.1.2.2.2),.slice ((Z.getD i zvD).2.1) ((Z.getD i zvD).1.2.length) ((Z.getD i zvD).2.2)],P0 bi]) (pool_find1 (Z.getD i zvD).1 _ _ _ bi id _ (k.below a0)) fun W3 a4=>?_
  refine xie 2 ((Z.getD i zvD).1.1.1) id (fun a8=>?_) (fun a8=>?_)
  ·have a2:=bln a0 a4
   exact xe 12 (V0 (i:Int)) (.inr ⟨i,by omega,by assumption,a1,rfl,a2⟩)
  refine xwm 4 ((i:Int)+1) (↑(i+1):Int) ?_
  have a3:=bln a0 a4
  exact ze 2 (a5 _ _ _ ⟨i+1,rfl,rfl,a3,by omega,(fun j hj=>by rcases Nat.lt_succ_iff_lt_or_eq.1 hj with q|q;exact a1 j q;subst q;assumption)⟩ (by omega))
 exact xe 11 (V0 (-1)) (.inl ⟨fun j hj=>a1 j (by omega),rfl,a0⟩)
theorem clone_mapF(p:Addr)(N c:Nat)(xs:List Value)(w:World)(h:Sl w (.slice (some p) N c) N xs)(hl:xs.length=N*3)(h1:∀ u∈xs,u.oneCell'=true)(hn:N≤1000000) :
 C0 24 #[.slice (some p) N c] w (Vo (fun w' r=>∃ q c2,r=.slice q N c2∧w'.ownsRow w.heap.size 46 3 (.slice q N c2) N xs) w):=by
 refine zin 8 Tryz.func24 ?_
 refine xb0 17 46 fun b1 W1 n1=>?_
 have o1:=Xl (size:=3) (n:=0) n1.blk (n1.ge (B4 w)) rfl (by decide)
 refine xbi 1 fun _ _ _ _ zJ zQ zo zx zy zK=>Xd (m:=N) (news:=xs) (.agg #[V0 0,V0 0,V0 0]) 3 24 (N) (xs) zo Tryz.underlying40 (by kernel_rfl) rfl (by decide) zx o1 zy (h.below n1.below) hl h1 (by unfold maxLen;omega) (by omega) n1.below.size (by omega) (by rfl) fun a1 a3 W2 o2 a4 a2=>?_
 refine zK _ _ ?_
 have a0:=n1.below.trans a2
 exact xe 4 (.slice a1 N a3) ⟨_,rfl,a0,_,_,rfl,o2⟩
theorem Zfd(w:World) :
 C0 24 #[S0] w (Ret (S0) w):=by
 refine zin 8 Tryz.func24 ?_
 exact xe 20 (S0) ⟨rfl,(B4 w)⟩
theorem mapC_oneF(L:List Mp):∀ u∈L.flatMap Pj,u.oneCell'=true:=fun u hu=>by
 obtain⟨m,_,h⟩:=List.mem_flatMap.1 hu
 simp only[Pj,List.mem_cons,List.not_mem_nil,or_false] at h
 rcases h with rfl|rfl|rfl<;>rfl
theorem mapC_flenF(L:List Mp):(L.flatMap Pj).length=L.length*3:=by
 induction L with
 | nil=>rfl
 | cons x L ih=>rw[List.flatMap_cons,List.length_append,ih,List.length_cons];show 3+_=_;omega
theorem Zdl{base:Nat}(a:O0)(c:Nat)(L:List Mp)(w:World)(ho:w.ownsRow base 46 3 (.slice a L.length c) L.length (L.flatMap Pj))(hn:L.length≤1000000):C0 24 #[.slice a L.length c] w (Vo (fun w' r=>∃ q c2,r=.slice q L.length c2∧w'.ownsRow w.heap.size 46 3 (.slice q L.length c2) L.length (L.flatMap Pj)) w):=by
 rcases ho.2 with ⟨h1,h2⟩|⟨g,a1,a0,hv,_⟩
 ·simp only[Value.slice.injEq] at h1
  obtain⟨rfl,hl,rfl⟩:=h1
  obtain rfl:L=[]:=List.eq_nil_of_length_eq_zero hl
  refine(Zfd w).mono ?_
  rintro e W ⟨rfl,hb⟩
  exact⟨_,rfl,hb,none,0,rfl,World.ownsRow_nil _ _ _ _⟩
 ·simp only[Value.slice.injEq] at hv
  obtain⟨rfl,_,rfl⟩:=hv
  exact clone_mapF _ _ _ _ w (Zf ho) (mapC_flenF L) (mapC_oneF L) hn
theorem devOfL_at{Z:List Zv}{i:Nat}{id:Int}(hi:i<Z.length)(h:(Z.getD i zvD).1.1.1=id)(hj:∀ j,j<i→(Z.getD j zvD).1.1.1≠id):Ji (Z.map Prod.fst) id=(Z.getD i zvD).1.2:=by
 unfold Ji
 have e:∀ j (q:j<Z.length),(Z.map Prod.fst)[j]'(by simpa using q)=(Z.getD j zvD).1:=fun j q=>by simp[List.getD,q]
 rw[Om (i:=i) (by simpa using hi) (by rw[e i hi];simpa using h) fun j q=>by rw[e j (by omega)];simpa using hj j q,e i hi]
theorem Rw{Z:List Zv}{id:Int}(hj:∀ j,j<Z.length→(Z.getD j zvD).1.1.1≠id):Ji (Z.map Prod.fst) id=[]:=by
 unfold Ji
 have:(Z.map Prod.fst).find? (fun d=>decide (d.1.1=id))=none:=by
  rw[List.find?_eq_none]
  intro d hd
  obtain⟨z,hz,rfl⟩:=List.mem_map.1 hd
  obtain⟨j,q,rfl⟩:=List.mem_iff_getElem.1 hz
  have:=hj j q
  simpa [List.getD,q] using this
 rw[this]
def Zdw(M:List Mp)(w:World)(e:Ending)(w':World):Prop:=∃ (a1 a2 a3 a4:Int) (q:O0) (c:Nat) (bo:Bool),e=.returned (.tuple #[.agg #[V0 a1,V0 a2,V0 a3,V0 a4,.slice q M.length c],.bool bo])∧B3 w w'∧w'.ownsRow w.heap.size 46 3 (.slice q M.length c) M.length (M.flatMap Pj)
theorem Zaf{M L:List Mp}{n c:Nat}{a1 a2 a3 a4:Int}{q:O0}{bo:Bool}{w W:World}(h:M=L)(hn:L.length=n)(hb:B3 w W)(ho:W.ownsRow w.heap.size 46 3 (.slice q n c) n (L.flatMap Pj)):Zdw M w (.returned (.tuple #[.agg #[V0 a1,V0 a2,V0 a3,V0 a4,.slice q n c],.bool bo])) W:=by
 subst h hn;exact⟨a1,a2,a3,a4,q,c,bo,rfl,hb,ho⟩
theorem pool_Find(p:O0)(c n:Nat)(t u v x:Int)(Z:List Zv)(id:Int)(w:World)(hZ:Z.length=n)(hP:DevsR w p c Z)(hMo:Xy 0 w Z)(hfew:∀ i,i<n→(Z.getD i zvD).1.2.length≤100000) :
 C0 9 #[.agg #[V0 t,V0 u,V0 v,V0 x,.slice p n c],V0 id] w (Zdw (Ji (Z.map Prod.fst) id) w):=by
 have d0:=Sl.len (hP.rowN hZ)
 refine zin 25 Tryz.func9 ?_
 refine xa 2 [V0 t,V0 u,V0 v,V0 x,.slice p n c] 28 fun b1 W1 n1=>?_
 refine xa 0 [V0 id] 3 fun b2 W2 n2=>?_
 refine xa 0 [V0 0,V0 0,V0 0,V0 0,S0] 42 fun b3 W3 n3=>?_
 have k1:=(n1.blk.below n2.below).below n3.below
 refine xb 6 4 k1 ?_
 have k2:=n2.blk.below n3.below
 have hB:=bln (bln n1.below n2.below) n3.below
 refine xc 1 (args:=#[.slice p n c,.func (.func 23) #[] #[P0 b2]]) (find_index p c n b2 id Z _ hZ (hP.below hB) k2) ?_
 rintro e W4 c3
 rcases c3 with ⟨a8,rfl,a2⟩|⟨i,hi,c2,a8,rfl,a2⟩
 ·have k3:=n3.blk.below a2
  refine xsv 14 k3 [V0 0,V0 0,V0 0,V0 0,S0] fun W5 u5 k5=>?_
  have g3:=n3.ge (bln n1.below n2.below)
  have b5:=u5.below (bln hB a2) g3
  exact xec 5 k5 (.tuple #[.agg #[V0 0,V0 0,V0 0,V0 0,S0],.bool false]) (Zaf (n:=0) (Rw (fun j hj=>a8 j (by omega))) rfl b5 (World.ownsRow_nil _ _ _ _))
 have d1:=hfew i hi
 refine xid 10 ((i:Int)<(0:Int)) (fun c0=>?_) (fun c0=>?_)
 ·have k3:=n3.blk.below a2
  refine xsv 3 k3 [V0 0,V0 0,V0 0,V0 0,S0] fun W7 u7 k7=>?_
  have g3:=n3.ge (bln n1.below n2.below)
  have b6:=u7.below (bln hB a2) g3
  exact xec 5 k7 (.tuple #[.agg #[V0 0,V0 0,V0 0,V0 0,S0],.bool false]) (Zaf (n:=0) (Rw (fun j hj=>a8 j (by omega))) rfl b6 (World.ownsRow_nil _ _ _ _))
 have a9:=k1.below a2
 refine xb 5 4 a9 ?_
 refine xx 1 _ n i 5 (hP.someN hZ (i:=i) (by omega)) ?_
 have a0:=bln hB a2
 refine xlv 0 (Sts.rp (k:=i) (hP.below a0).row Gg zvD (by omega) (by decide)) ?_
 refine xa 0 [V0 0,V0 0,V0 0,V0 0,S0] 42 fun b8 W8 n8=>?_
 have k3:=n3.blk.below a2
 have a1:=n8.ne k3
 have g8:=n8.ge a0
 refine xsv 0 n8.blk [V0 ((Z.getD i zvD).1.1.1),V0 ((Z.getD i zvD).1.1.2.1),V0 ((Z.getD i zvD).1.1.2.2.1),V0 ((Z.getD i zvD).1.1.2.2.2),.slice ((Z.getD i zvD).2.1) ((Z.getD i zvD).1.2.length) ((Z.getD i zvD).2.2)] fun W9 u9 k9=>?_
 refine xb 5 4 k9 ?_
 have a7:=u9.below (bln a0 n8.below) g8
 refine xc 0 (args:=#[.slice ((Z.getD i zvD).2.1) ((Z.getD i zvD).1.2.length) ((Z.getD i zvD).2.2)]) (Zdl (Z.getD i zvD).2.1 (Z.getD i zvD).2.2 (Z.getD i zvD).1.2 _ ((hMo.below a7) i (by omega)) (by omega)) ?_
 rintro _ c6 ⟨_,rfl,a3,q9,c9,rfl,c5⟩
 have b7:=(u9.below (bln a0 n8.below) g8).size
 have a4:=k9.below a3
 refine xs 1 a4 [V0 ((Z.getD i zvD).1.1.1),V0 ((Z.getD i zvD).1.1.2.1),V0 ((Z.getD i zvD).1.1.2.2.1),V0 ((Z.getD i zvD).1.1.2.2.2),.slice q9 ((Z.getD i zvD).1.2.length) c9] fun c8 b4 c4=>?_
 refine xlv 4 c4.rp ?_
 have a6:=b4.blk ((u9.blk (k3.below n8.below) (Ne.symm (Ne.symm a1))).below a3) (Ne.symm (Ne.symm a1))
 refine xsv 0 a6 [V0 ((Z.getD i zvD).1.1.1),V0 ((Z.getD i zvD).1.1.2.1),V0 ((Z.getD i zvD).1.1.2.2.1),V0 ((Z.getD i zvD).1.1.2.2.2),.slice q9 ((Z.getD i zvD).1.2.length) c9] fun c7 b9 c1=>?_
 have g3:=n3.ge (bln n1.below n2.below)
 have a5:=b9.own2 (b4.own2 (Zh c5 b7) a4 (by decide)) a6 (by decide)
 have b0:=b9.below (b4.below (bln a7 a3) g8) g3
 exact xec 4 c1 (.tuple #[.agg #[V0 ((Z.getD i zvD).1.1.1),V0 ((Z.getD i zvD).1.1.2.1),V0 ((Z.getD i zvD).1.1.2.2.1),V0 ((Z.getD i zvD).1.1.2.2.2),.slice q9 ((Z.getD i zvD).1.2.length) c9],.bool true]) (Zaf (devOfL_at (by omega) c2 a8) rfl b0 a5)
end Go.Proofs.YtceeiinepijokaaGreat
namespace Go.Proofs.YtceeiinepijokaaGreat
set_option maxHeartbeats 8000000
set_option maxRecDepth 100000
open Go.RowKit
set_option linter.unusedVariables false
def SeqB{α:Type}(P:Program)(g:Nat)(lb:Array Value)(encs:α→Array Value)(Kp:World→World→Prop)(R:List α)(w:World):Prop :=
 ∀ (l:Nat) (J Jx:Nat→World→Prop) (W:World),B3 w W →
  (∀ k A B,J k A→Below A.heap.size A B→J k B) →
  (∀ k x V,R[k]? = some x→J k V→YieldAt Fence.wide 2 P l (encs x) V fun e U =>
   (e=.returned (.bool true)∧J (k+1) U∧Kp V U)∨(e=.returned (.bool false)∧Jx k U)) →
  J 0 W →
  CallsIn Fence.wide 3 P g (#[.func (.yield l) #[] #[]]++lb) W fun e U=>(∃ v,e=.returned v)∧(J R.length U∨∃ k,k<R.length∧Jx k U)
theorem RecAt.bel{n:Nat}{r:Loop}{A B:World}(h:RecAt n r A)(k:Below A.heap.size A B):RecAt n r B:=⟨(k.block _ h.lt).trans h.l,(k.block _ (by have:=h.lt;omega)).trans h.d⟩
theorem wp_rangeD{α:Type}{P:Program}{g:Operand}{ps:Array Tmp}{assign body:Code}{Q:Exit→Act→World→Prop}{a:Act}{w:World}{gf:Nat}{lb:Array Value}
  (hg:a.eval g=.func (.func gf) #[] lb) (eg:∀ args w,(callFunc gf args).run P w=.ok (.enter gf args) w) {encs:α→Array Value} {R:List α} (p:Nat→Prop) (hp:∀ b,p b→b<w.heap.size)
  (hseq:SeqB P gf lb encs (Keeps p) R w) (hps:∀ x,(encs x).size=ps.size)
  (I:Nat→World→Prop) (Ix:Code→Nat→World→Prop) (hIb:∀ k A B,I k A→Below A.heap.size A B→I k B) (hI:∀ k A B row,I k A→A.grownBy B row→(∀ r,row=some r→w.heap.size≤r∧∃ o:Obj,A.heap[r]? = some o∧o.isCells=false)→I k B)
  (hIx:∀ c k A B row,Ix c k A→A.grownBy B row→(∀ r,row=some r→w.heap.size≤r∧∃ o:Obj,A.heap[r]? = some o∧o.isCells=false)→Ix c k B) (h0:I 0 w) (A2:α→Act→World→Prop)
  (hA2:∀ x a A B row,A2 x a A→A.grownBy B row→(∀ r,row=some r→w.heap.size≤r∧∃ o:Obj,A.heap[r]? = some o∧o.isCells=false)→A2 x a B)
  (hassign:∀ (l k:Nat) (x:α) (W:World) (K:Act→World→Prop),R[k]? = some x→I k W→(∀ a2 W2,B3 W W2→A2 x a2 W2→K a2 W2) →
   assign.wpIn (Fence.wide.inRound l) 2 P (Exit.then K (fun _ _ _=>False)) { tmps:=(ps.zip (encs x)).foldl (fun t (p,v)=>t.setIfInBounds p v) a.tmps,defers:=[] } W)
  (hbody:∀ (l k:Nat) (x:α) (a2:Act) (W:World),w.heap.size≤l→R[k]? = some x→I k W→A2 x a2 W→body.wpIn (Fence.wide.inRound l) 2 P (rdPost w.heap.size (Keeps p) I Ix k W) a2 W)
  (hdone:∀ (D:Nat) (W:World),w.heap.size≤D→I R.length W→W.heap[D]? = some (.deferred (some []))→Q .normal { a with defers:={ target:=.collected D,args:=#[] }::a.defers } W)
  (hstop:∀ (D:Nat) (c:Code) (k:Nat) (W:World),w.heap.size≤D→k<R.length→Ix c k W→W.heap[D]? = some (.deferred (some []))→c.wp P Q { a with defers:={ target:=.collected D,args:=#[] }::a.defers } W) :
  (Code.rangeFunc g ps assign body).wp P Q a w:=by
 refine(wpIn_wide (n:=4)).1 (wpIn_rangeFunc fun fn _=>?_)
 obtain⟨a4,a0⟩:∃ a4:LoopState→Option Code→Loop,a4=fun st pe=>{ state:=st,pending:=pe,fn,tmps:=a.tmps,params:=ps,assign,body,defers:=w.heap.size }:=⟨_,rfl⟩
 obtain⟨W1,b2⟩:∃ W1,(w.alloc (.deferred (some []))).alloc (.loop (a4 .ready none))=W1:=⟨_,rfl⟩
 have c1:RecAt w.heap.size (a4 .ready none) W1:=by
  rw[←b2]
  refine⟨?_,(Below.heap_alloc _ _ _ (by simp)).trans (World.alloc_heap_new w _)⟩
  have:=World.alloc_heap_new (w.alloc (.deferred (some []))) (.loop (a4 .ready none))
  rwa [World.size_alloc] at this
 have b9:I 0 W1:=by
  rw[←b2]
  exact hI _ _ _ none (hI _ _ _ none h0 (World.grownBy_alloc _ _ _) (fun _ e=>by cases e)) (World.grownBy_alloc _ _ _) (fun _ e=>by cases e)
 have c2:B3 w W1:=by
  rw[←b2];exact((Below.refl _ w).alloc (Nat.le_refl _) _).alloc (by simp) _
 refine⟨w.heap.size+1,[{ target:=.collected w.heap.size,args:=#[] }],W1,{ target:=.fn (.func gf) lb,args:=#[.func (.yield (w.heap.size+1)) #[] #[]] },W1,gf,
  #[.func (.yield (w.heap.size+1)) #[] #[]]++lb,W1,?_,?_,fun _ _=>trivial,?_,fun _=>by omega,?_⟩
 ·rw[←b2,a0];exact run_enterLoop_outer _ _ _ _ _
 ·simp only[resolve,hg]
  simp[go_sem]
 ·simp[invoke,go_sem,eg]
 refine(hseq (w.heap.size+1) (fun k W=>I k W∧RecAt w.heap.size (a4 .ready none) W) (fun k W=>∃ c,Ix c k W∧RecAt w.heap.size (a4 .done (some c)) W) W1 c2
  (fun k A B hs hb=>⟨hIb _ _ _ hs.1 hb,hs.2.bel hb⟩) ?_ ⟨b9,c1⟩).mono ?_
 ·rintro k x W hx ⟨hi,hl⟩
  have hy:=run_yield (P:=P) (args:=encs x) hl.l (by rw[a0];exact hps x)
  rw[a0] at hy
  refine⟨fn,_,assign,body,hy,roundIn_of_wpIn trivial (hassign _ k x W _ hx hi fun a2 W2 b0 c3=>⟨_,run_beginRound (hl.bel b0).l (by rw[a0]),?_⟩)⟩
  have b3:=hl.bel b0
  obtain⟨Wb,a6⟩:∃ Wb,W2.putObj (w.heap.size+1) (.loop { a4 .ready none with state:=.busy })=Wb:=⟨_,rfl⟩
  have c4:RecAt w.heap.size (a4 .busy none) Wb:=by
   have:=b3.put (a4 .busy none)
   rw[a0] at this a6
   rw[a6] at this
   rw[a0]
   exact this
  have b7:I k Wb:=by
   rw[←a6]
   exact hI _ _ _ _ (hIb _ _ _ hi b0) (grownBy_putObj' W2 _ _) (fun r e=>by cases e;exact⟨by omega,_,b3.l,rfl⟩)
  have c0:A2 x a2 Wb:=by
   rw[←a6]
   exact hA2 _ _ _ _ _ c3 (grownBy_putObj' W2 _ _) (fun r e=>by cases e;exact⟨by omega,_,b3.l,rfl⟩)
  have b8:Keeps p W Wb:=by
   have h1:Keeps p W W2:=⟨b0.size,fun b hb=>b0.block b (Nat.lt_trans (hp b hb) (by have:=hl.lt;omega))⟩
   rw[←a6]
   exact h1.trans (Fx hp W2 _ _ _ (by omega) b3.l rfl rfl)
  rw[a6]
  refine wpIn_mono (hbody _ k x a2 Wb (by omega) hx b7 c0) ?_
  have b6:∀ (a1:Option Code) (V:World),KeepsFrom w.heap.size Wb V→RecAt w.heap.size (a4 .busy none) V∧∃ U,U=V.putObj (w.heap.size+1) (.loop (a4 (if a1.isNone then .ready else .done) a1)) ∧
    (Instr.endRound (w.heap.size+1) a1).run P V=.ok (.bool a1.isNone) U∧RecAt w.heap.size (a4 (if a1.isNone then .ready else .done) a1) U:=fun a1 V hk=>by
   have hv:=c4.from hk
   have he:=run_endRound (P:=P) a1 hv.l
   refine⟨hv,_,rfl,?_,hv.put _⟩
   rw[a0] at he ⊢
   exact he
  have b4:∀ {V:World} {r r':Loop} {k:Nat},RecAt w.heap.size r V→I k V→I k (V.putObj (w.heap.size+1) (.loop r')):=fun hv h=>hI _ _ _ _ h (grownBy_putObj' _ _ _) (fun r e=>(by cases e;exact⟨by omega,_,hv.l,rfl⟩))
  have a8:∀ {V:World} {r r':Loop} {c:Code} {k:Nat},RecAt w.heap.size r V→Ix c k V→Ix c k (V.putObj (w.heap.size+1) (.loop r')):=fun hv h=>hIx _ _ _ _ _ h (grownBy_putObj' _ _ _) (fun r e=>by cases e;exact⟨by omega,_,hv.l,rfl⟩)
  rintro e a3 V a5
  cases e with
  | normal =>
   obtain⟨a7,b5,a9⟩:=a5
   obtain⟨hv,U,rfl,hr,b1⟩:=b6 none V a7
   exact⟨_,_,hr,.inl ⟨rfl,⟨b4 hv a9,b1⟩,(b8.trans b5).trans (Fx hp V _ _ _ (by omega) hv.l rfl rfl)⟩⟩
  | ret =>
   obtain⟨a7,a9⟩:=a5
   obtain⟨hv,U,rfl,hr,b1⟩:=b6 (some .ret) V a7
   exact⟨_,_,hr,.inr ⟨rfl,.ret,a8 hv a9,b1⟩⟩
  | exit id =>
   obtain⟨a7,a9⟩:=a5
   obtain⟨hv,U,rfl,hr,b1⟩:=b6 (some (.exit id)) V a7
   exact⟨_,_,hr,.inr ⟨rfl,.exit id,a8 hv a9,b1⟩⟩
  | goto t=>exact a5.elim
  | panic ch=>exact a5.elim
  | outgrown=>exact a5.elim
 ·rintro e W2 ⟨⟨v,rfl⟩,(⟨hi,hl⟩|⟨k,hk,c,hi,hl⟩)⟩
  ·have he:=run_endLoop (P:=P) hl.l (by rw[a0];simp)
   rw[show(a4 .ready none).pending=none by rw[a0]] at he
   exact⟨none,_,he,hdone _ _ (Nat.le_refl _) (hI _ _ _ _ hi (grownBy_putObj' _ _ _) (fun r e=>(by cases e;exact⟨by omega,_,hl.l,rfl⟩))) ((World.putObj_heap_other (by omega)).trans hl.d)⟩
  ·have he:=run_endLoop (P:=P) hl.l (by rw[a0];simp)
   rw[show(a4 .done (some c)).pending=some c by rw[a0]] at he
   exact⟨some c,_,he,wpIn_wide.2 (hstop _ c k _ (Nat.le_refl _) hk (hIx _ _ _ _ _ hi (grownBy_putObj' _ _ _) (fun r e=>by cases e;exact⟨by omega,_,hl.l,rfl⟩)) ((World.putObj_heap_other (by omega)).trans hl.d))⟩
end Go.Proofs.YtceeiinepijokaaGreat
namespace Go.Proofs.YtceeiinepijokaaGreat
set_option maxHeartbeats 8000000
set_option maxRecDepth 100000
open Go.RowKit Go.Extern.Stop Go.Stop Go.Extern
set_option linter.unusedVariables false
attribute [local irreducible] wpList wpAnyH Code.wp Oper.wp Go
def bmN (n:Nat):Nat:=(n+959)/960
theorem bmN_lt{n i:Nat}(h:i<bmN n):i*960<n:=by unfold bmN at h;omega
theorem bmN_done{n i:Nat}(h:i=bmN n):n≤i*960:=by subst h;unfold bmN;omega
def mn3 (n:Int):Int:=if n<3 then n else 3
def Zw(l:List Int):List Int:=l.map mn3
theorem small_snoc{l:List Int}{k:Nat}(h:k<l.length):Zw (l.take (k+1))=Zw (l.take k)++[mn3 (l.getD k 0)]:=by
 unfold Zw
 rw[List.take_succ_eq_append_getElem h,List.map_append,show l.getD k 0=l[k] from by simp[List.getD,h]]
 rfl
def ovX (l:List Int)(k:Nat):List Ent:=if 3≤l.getD k 0 then [((k:Int),leB (l.getD k 0) 4,0)] else []
def Zz(l:List Int)(k:Nat):List Ent:=(List.range k).flatMap (ovX l)
theorem Tv(l:List Int)(k:Nat):Zz l (k+1)=Zz l k++ovX l k:=by simp[Zz,List.range_succ]
theorem Wl{l:List Int}{k:Nat}(h:3≤l.getD k 0):Zz l (k+1)=Zz l k++[((k:Int),leB (l.getD k 0) 4,0)]:=by rw[Tv];unfold ovX;rw[if_pos h]
theorem Pr{l:List Int}{k:Nat}(h:¬ 3≤l.getD k 0):Zz l (k+1)=Zz l k:=by rw[Tv];unfold ovX;rw[if_neg h];simp
theorem overK_ok(l:List Int)(k:Nat):(Zz l k).Pairwise (fun a b=>a.1<b.1)∧∀ x∈Zz l k,0≤x.1∧x.1<k∧x.2.1.length=4:=by
 induction k with
 | zero=>simp[Zz]
 | succ k ih =>
  by_cases h3:3≤l.getD k 0
  ·rw[Wl h3]
   refine⟨List.pairwise_append.2 ⟨ih.1,by simp,fun a ha b hb=>?_⟩,fun x hx=>?_⟩
   ·simp only[List.mem_singleton] at hb;subst hb;exact(ih.2 a ha).2.1
   ·rcases List.mem_append.1 hx with h|h
    ·have:=ih.2 x h;exact⟨this.1,by have:=this.2.1;omega,this.2.2⟩
    ·simp only[List.mem_singleton] at h;subst h;exact⟨Int.natCast_nonneg _,by show(k:Int)<((k+1:Nat):Int);omega,Zj _ _⟩
  ·rw[Pr h3]
   exact⟨ih.1,fun x hx=>by have:=ih.2 x hx;exact⟨this.1,by have:=this.2.1;omega,this.2.2⟩⟩
theorem Lz(l:List Int)(k:Nat):(Zz l k).length≤k:=by
 induction k with
 | zero=>simp[Zz]
 | succ k ih =>
  by_cases h3:3≤l.getD k 0
  ·rw[Wl h3];simp;exact ih
  ·rw[Pr h3];omega
theorem Lp{l:List Ent}{i:Nat}(h:i<l.length):l.getD i Zn=l[i]:=by simp[List.getD,h]
theorem Ln(l:List Int)(k:Nat)(hk:k≤65536):EntsOk 4 (Zz l k):=by
 have h:=overK_ok l k
 refine⟨fun i hi=>?_,fun j hj=>?_,fun i hi=>?_⟩
 ·rw[Lp hi];have:=h.2 _ (List.getElem_mem hi);omega
 ·rw[Lp hj,Lp (by omega)];exact List.pairwise_iff_getElem.1 h.1 j (j+1) (by omega) hj (by omega)
 ·rw[Lp hi];exact(h.2 _ (List.getElem_mem hi)).2.2
def Pe(n:Int):Prop:=0≤n∧n≤2147483647
instance (n:Int):Decidable (Pe n):=by unfold Pe;infer_instance
def Jd(l:List Int):Int:=if 65536<l.length then 1 else if ∀ k,k<l.length→Pe (l.getD k 0) then 0 else 2
theorem Rp{l:List Int}(h:Jd l=0):l.length≤65536∧∀ k,k<l.length→Pe (l.getD k 0):=by
 unfold Jd at h
 split at h
 ·simp at h
 ·split at h
  ·exact⟨by omega,by assumption⟩
  ·simp at h
def Wa(l:List Int)(i:Nat):List Int:=(l.drop (i*960)).take 960
def Xs(l:List Int)(n:Nat):List (List Int):=(List.range n).map (Wa l)
theorem Hw(l:List Int)(n:Nat):(Xs l n).length=n:=by simp[Xs]
theorem Zd6{l:List Int}{n i:Nat}(h:i<n):(Xs l n).getD i []=Wa l i:=by simp[Xs,List.getD,h]
theorem Ia(l:List Int)(i:Nat):(Wa l i).length=min 960 (l.length-i*960):=by simp[Wa]
def Wp(l:List Int):Prop:=∀ n∈l,0≤n∧n≤3
theorem small_ok{l:List Int}(h:∀ k,k<l.length→Pe (l.getD k 0)):Wp (Zw l):=by
 intro n hn
 obtain⟨m,hm,rfl⟩:=List.mem_map.1 hn
 obtain⟨k,hk,rfl⟩:=List.getElem_of_mem hm
 have:=h k hk
 rw[show l.getD k 0=l[k] from by simp[List.getD,hk]] at this
 unfold Pe at this
 unfold mn3;split<;>omega
theorem Zec{l:List Int}(h:Wp l)(i:Nat):Wp (Wa l i):=fun n hn=>h n (List.mem_of_mem_drop (List.mem_of_mem_take hn))
def atI (l:List Int)(i j:Nat):Int:=if j<i then l.getD j 0 else 0
def g4 (l:List Int)(i k:Nat):Int:=atI l i (4*k)+4*atI l i (4*k+1)+16*atI l i (4*k+2)+64*atI l i (4*k+3)
def g4B (l:List Int)(i k:Nat):UInt8:=UInt8.ofNat (g4 l i k).toNat
def Lh(l:List Int)(i:Nat):Bl:=leB l.length 4++(List.range 240).map (g4B l i)
theorem Hy(l:List Int)(i:Nat):(Lh l i).length=244:=by simp[Lh,Zj]
def Tf(l:List Int):Bl:=Lh l l.length
def freeK(l:List Int)(k:Nat):Nat:=((l.take k).filter fun n=>n==0).length
def Ys(l:List Int):Nat:=freeK l l.length
def Xo(l:List Int):Nat:=l.findIdx fun n=>n==0
theorem freeK_succ{l:List Int}{k:Nat}(h:k<l.length):freeK l (k+1)=freeK l k+(if l.getD k 0=0 then 1 else 0):=by
 unfold freeK
 rw[List.take_succ_eq_append_getElem h,List.filter_append,List.length_append]
 simp only[List.getD,List.getElem?_eq_getElem h,Option.getD_some]
 by_cases e:l[k]=0<;>simp[e]
theorem Ep(l:List Int)(k:Nat):freeK l k≤k:=Nat.le_trans (List.length_filter_le _ _) (by simp;omega)
theorem Fm(l:List Int):Xo l≤l.length:=List.findIdx_le_length
theorem firstN_at{l:List Int}{i:Nat}(h:i<l.length)(h0:l.getD i 0=0)(hp:∀ j,j<i→l.getD j 0≠0):Xo l=i:=by
 unfold Xo
 refine(List.findIdx_eq h).2 ⟨?_,fun j hj=>?_⟩
 ·rw[List.getD,List.getElem?_eq_getElem h] at h0;simpa using h0
 ·have:=hp j hj
  rw[List.getD,List.getElem?_eq_getElem (by omega)] at this;simpa using this
theorem Zfj{l:List Int}(hp:∀ j,j<l.length→l.getD j 0≠0):Xo l=l.length:=by
 unfold Xo
 rw[List.findIdx_eq_length]
 intro n hn
 obtain⟨k,hk,rfl⟩:=List.getElem_of_mem hn
 have:=hp k hk
 rw[List.getD,List.getElem?_eq_getElem hk] at this;simpa using this
def slotB(n f g:Int):Bl:=leB n 8++leB f 4++leB g 4
theorem slotB_len(n f g:Int):(slotB n f g).length=16:=by simp[slotB,Zj]
def Jl(L:List (List Int))(q:Nat)(bs:Bl):Nat→Bl
 | 0=>bs
 | i+1=>Kn (Jl L q bs i) ((q+i)*256) (Yf 3 ((q+i:Nat):Int) (Tf (L.getD i [])))
def slotX(L:List (List Int))(q i:Nat):Ent:=((i:Int),slotB ((q+i:Nat):Int) (Ys (L.getD i []):Int) (Xo (L.getD i []):Int),0)
def Yh(L:List (List Int))(q j:Nat):List Ent:=(List.range j).map (slotX L q)
theorem Hn(L:List (List Int))(q j:Nat):(Yh L q j).length=j:=by simp[Yh]
theorem Zfc(L:List (List Int))(q j:Nat):Yh L q (j+1)=Yh L q j++[slotX L q j]:=by simp[Yh,List.range_succ]
theorem Ps{L:List (List Int)}{q j i:Nat}(h:i<j):(Yh L q j).getD i Zn=slotX L q i:=by simp[Yh,List.getD,h]
theorem Aa(L:List (List Int))(q j:Nat)(hj:j≤65536):EntsOk 16 (Yh L q j):=by
 refine⟨fun i hi=>?_,fun i hi=>?_,fun i hi=>?_⟩<;>rw[Hn] at hi
 ·rw[Ps hi];simp only[slotX];omega
 ·rw[Ps hi,Ps (by omega)];simp only[slotX];omega
 ·rw[Ps hi];exact slotB_len _ _ _
def Iz(l:List Int)(q:Nat)(bs:Bl):Int×Int×Bl :=
 let L:=Xs (Zw l) (bmN l.length)
 let x:=Yz 4 (Yh L q (bmN l.length)) (q+bmN l.length) (Jl L q bs (bmN l.length))
 let y:=Yz 5 (Zz l l.length) (q+bmN l.length+Xw 4 (bmN l.length)) x.2
 (x.1,y.1,y.2)
def Pa(l:List Int):Nat:=bmN l.length+Xw 4 (bmN l.length)+Xw 5 (Zz l l.length).length
theorem Zcx{l:List Int}(h:Wp l)(i j:Nat):0≤atI l i j∧atI l i j≤3:=by
 unfold atI
 split
 ·by_cases hj:j<l.length
  ·rw[show l.getD j 0=l[j] from by simp[List.getD,hj]];exact h _ (List.getElem_mem hj)
  ·rw[show l.getD j 0=0 from by simp[List.getD,Nat.le_of_not_lt hj]];omega
 ·omega
theorem Mu{l:List Int}(h:Wp l)(j:Nat):0≤l.getD j 0∧l.getD j 0≤3:=by
 have:=Zcx h (j+1) j
 unfold atI at this
 rwa [if_pos (by omega)] at this
theorem Jr{l:List Int}{i j:Nat}(h:j≠i):atI l (i+1) j=atI l i j:=by
 unfold atI
 by_cases q:j<i
 ·rw[if_pos q,if_pos (by omega)]
 ·rw[if_neg q,if_neg (by omega)]
theorem Zgn(l:List Int)(i:Nat):atI l (i+1) i=l.getD i 0:=by unfold atI;rw[if_pos (by omega)]
theorem Nt{l:List Int}{i j:Nat}(h:i≤j):atI l i j=0:=by unfold atI;rw[if_neg (by omega)]
theorem g4_ne{l:List Int}{i k:Nat}(h:k≠i/4):g4 l (i+1) k=g4 l i k:=by
 unfold g4
 rw[Jr (by omega),Jr (by omega),Jr (by omega),Jr (by omega)]
theorem g4_at{l:List Int}(h:Wp l){i q r:Nat}(hi:i=4*q+r)(hr:r<4):g4 l (i+1) q=g4 l i q+l.getD i 0*4 ^ r∧0≤g4 l i q∧g4 l i q<4 ^ r:=by
 have b0:=Zcx h i (4*q)
 have b1:=Zcx h i (4*q+1)
 have b2:=Zcx h i (4*q+2)
 have b3:=Zcx h i (4*q+3)
 unfold g4
 obtain rfl|rfl|rfl|rfl:r=0∨r=1∨r=2∨r=3:=by omega
 ·rw[show 4*q=i from by omega,Zgn,Jr (by omega),Jr (by omega),Jr (by omega),Nt (Nat.le_refl i),Nt (Nat.le_add_right i 1),Nt (Nat.le_add_right i 2),Nt (Nat.le_add_right i 3)]
  omega
 ·have e2:atI l i (4*q+2)=0:=Nt (by omega)
  have e3:atI l i (4*q+3)=0:=Nt (by omega)
  have e1:atI l i (4*q+1)=0:=Nt (by omega)
  rw[Jr (j:=4*q) (by omega),Jr (j:=4*q+2) (by omega),Jr (j:=4*q+3) (by omega),e1,e2,e3,←hi,Zgn]
  omega
 ·have e2:atI l i (4*q+2)=0:=Nt (by omega)
  have e3:atI l i (4*q+3)=0:=Nt (by omega)
  rw[Jr (j:=4*q) (by omega),Jr (j:=4*q+1) (by omega),Jr (j:=4*q+3) (by omega),e2,e3,←hi,Zgn]
  omega
 ·have e3:atI l i (4*q+3)=0:=Nt (by omega)
  rw[Jr (j:=4*q) (by omega),Jr (j:=4*q+1) (by omega),Jr (j:=4*q+2) (by omega),e3,←hi,Zgn]
  omega
theorem g4B_at{l:List Int}(h:Wp l){i:Nat}:((g4B l (i+1) (i/4)).toNat:Int)=((g4B l i (i/4)).toNat:Int)+l.getD i 0*4 ^ (i%4)∧(g4B l i (i/4)).toNat<4 ^ (i%4):=by
 obtain⟨h1,h2,h3⟩:=g4_at h (show i=4*(i/4)+i%4 by omega) (by omega)
 have hn:=Mu h i
 have hp:(4:Int) ^ (i%4)≤64:=by
  have:i%4<4:=by omega
  obtain e|e|e|e:i%4=0∨i%4=1∨i%4=2∨i%4=3:=by omega
  all_goals rw[e];decide
 have a0:(0:Int)<4 ^ (i%4):=Int.pow_pos (by decide)
 generalize hP:(4:Int) ^ (i%4)=Pq at *
 have hq:l.getD i 0*Pq≤3*Pq:=Int.mul_le_mul_of_nonneg_right hn.2 (by omega)
 have a2:0≤l.getD i 0*Pq:=Int.mul_nonneg hn.1 (by omega)
 generalize l.getD i 0*Pq=M at *
 have a1:((4 ^ (i%4):Nat):Int)=Pq:=by rw[←hP];simp
 unfold g4B
 rw[UInt8.toNat_ofNat',UInt8.toNat_ofNat',h1]
 omega
def Za7(gs:List (Nat×Nat))(L:List (List Int))(i:Nat):Value:=.slice (some ⟨(gs.getD i (0,0)).1,0,none⟩) (L.getD i []).length (gs.getD i (0,0)).2
structure Lists(w:World)(base:Nat)(v:Value)(gs:List (Nat×Nat))(L:List (List Int)):Prop where
 row:w.ownsRow base 35 1 v L.length ((List.range L.length).map (Za7 gs L))
 each:∀ i,i<L.length→w.ownsRow base 3 1 (Za7 gs L i) (L.getD i []).length ((L.getD i []).map (Value.int .i64))
theorem Lists.below{w W:World}{base:Nat}{v:Value}{gs:List (Nat×Nat)}{L:List (List Int)}(h:Lists w base v gs L)(hb:B3 w W):Lists W base v gs L:=⟨Zb h.row hb,fun i hi=>Zb (h.each i hi) hb⟩
theorem Lists.only{T:List TypeId}{w W:World}{base:Nat}{v:Value}{gs:List (Nat×Nat)}{L:List (List Int)}(h:Lists w base v gs L)(hO:Zd T w W)(hT:T.contains 35=false∧T.contains 3=false):Lists W base v gs L:=⟨Zi h.row hO hT.1,fun i hi=>Zi (h.each i hi) hO hT.2⟩
theorem Lists.elem{w:World}{base:Nat}{p:O0}{n c:Nat}{gs:List (Nat×Nat)}{L:List (List Int)}(h:Lists w base (.slice p n c) gs L)(hn:L.length=n){k:Nat}(hk:k<n):p.isSome=true∧w.cell? (Zo p (k*1))=some (Za7 gs L k):=by
 subst hn
 rw[Nat.mul_one]
 exact Sl.elem (Zf h.row) (by simp[hk])
theorem Lists.mono{w:World}{base base':Nat}{v:Value}{gs:List (Nat×Nat)}{L:List (List Int)}(h:Lists w base' v gs L)(hb:base≤base'):Lists w base v gs L:=⟨Zh h.row hb,fun i hi=>Zh (h.each i hi) hb⟩
def FrB (B:Nat)(S:List Nat)(w W:World):Prop:=w.heap.size≤W.heap.size∧∀ k,k<B→k∉S→W.heap[k]? = w.heap[k]?
theorem Fr.trans_B{S S':List Nat}{a w W:World}(h:Fr S a w)(k:FrB a.heap.size S' w W)(hs:∀ k∈S',k∈S):Fr S a W:=⟨Nat.le_trans h.size k.1,fun i hi hn=>(k.2 i hi fun q=>hn (hs i q)).trans (h.block i hi hn)⟩
theorem or_step:∀ r:Fin 4,∀ n:Fin 4,∀ o:Fin 64,o.val<4 ^ r.val→o.val ||| (n.val*4 ^ r.val)=o.val+n.val*4 ^ r.val:=by decide
def Zg9(cs:List Nat)(k:Int):List Nat:=cs.set k.toNat (cs.getD k.toNat 0+1)
theorem Zau(cs:List Nat)(k:Int):(Zg9 cs k).length=cs.length:=by simp[Zg9]
theorem sum_set{cs:List Nat}{k:Nat}(h:k<cs.length)(v:Nat):(cs.set k v).sum+cs.getD k 0=cs.sum+v:=by
 induction cs generalizing k with
 | nil=>exact absurd h (by simp)
 | cons a cs ih =>
  cases k with
  | zero=>simp[List.getD];omega
  | succ k =>
   have:=ih (k:=k) (by simpa using h)
   simp only[List.set_cons_succ,List.sum_cons,List.getD_cons_succ]
   omega
theorem bump_sum{cs:List Nat}{k:Int}(h0:0≤k)(h:k<cs.length):(Zg9 cs k).sum=cs.sum+1:=by
 have:=sum_set (cs:=cs) (k:=k.toNat) (by omega) (cs.getD k.toNat 0+1)
 unfold Zg9;omega
def Hb:Nat→List Dv→List (Nat×Mp)
 | _,[]=>[]
 | i,d::r=>d.2.map (fun m=>(i,m))++Hb (i+1) r
theorem Rk(L:List Dv):∀ i,(Hb i L).length=Gv L:=by
 induction L with
 | nil=>intro i;rfl
 | cons d r ih=>intro i;rw[Hb,List.length_append,List.length_map,ih];rfl
theorem mapsR_drop(L:List Dv):∀ (b i:Nat),i≤L.length→(Hb b L).drop (Gv (L.take i))=Hb (b+i) (L.drop i):=by
 induction L with
 | nil =>
  intro b i hi;obtain rfl:i=0:=by simpa using hi
  rfl
 | cons d r ih =>
   intro b i hi
   cases i with
   | zero=>rfl
   | succ i =>
    have e:Gv ((d::r).take (i+1))=d.2.length+Gv (r.take i):=rfl
    rw[e,Hb,List.drop_append,List.length_map,show d.2.length+Gv (r.take i)-d.2.length=Gv (r.take i) by omega,List.drop_eq_nil_of_le (by rw[List.length_map];omega),List.nil_append,ih (b+1) i (by simpa using hi)]
    rw[show b+1+i=b+(i+1) by omega];rfl
theorem mapsR_at{L:List Dv}{i j:Nat}(hi:i<L.length)(hj:j<(L.getD i dvD).2.length):(Hb 0 L)[Gv (L.take i)+j]? = some (i,(L.getD i dvD).2.getD j (0,0,0)):=by
 have h:=mapsR_drop L 0 i (by omega)
 rw[←List.getElem?_drop,h,List.drop_eq_getElem_cons hi,Hb,Nat.zero_add]
 have e:L.getD i dvD=L[i]:=by simp[List.getD,hi]
 rw[e] at hj ⊢
 rw[List.getElem?_append_left (by rw[List.length_map];exact hj),List.getElem?_map,List.getElem?_eq_getElem hj]
 simp[List.getD,hj]
def Eg(cs:List Nat)(R:List (Nat×Mp)):List Nat:=R.foldl (fun c x=>Zg9 c x.2.2.1) cs
def Jv(data:Nat)(L:List Dv):List Nat:=Eg (List.replicate data 0) (Hb 0 L)
theorem Zcc(R:List (Nat×Mp)):∀ cs,(Eg cs R).length=cs.length:=by
 induction R with
 | nil=>intro cs;rfl
 | cons x r ih=>intro cs;show(Eg (Zg9 cs x.2.2.1) r).length=_;rw[ih,Zau]
theorem Kk(data:Nat)(L:List Dv):(Jv data L).length=data:=by unfold Jv;rw[Zcc,List.length_replicate]
theorem refsF_take(cs:List Nat)(R:List (Nat×Mp)){k:Nat}{x:Nat×Mp}(h:R[k]? = some x):Eg cs (R.take (k+1))=Zg9 (Eg cs (R.take k)) x.2.2.1:=by
 have hk:k<R.length:=by
  rcases Nat.lt_or_ge k R.length with q|q
  ·exact q
  ·rw[List.getElem?_eq_none q] at h;cases h
 rw[List.getElem?_eq_getElem hk,Option.some.injEq] at h
 unfold Eg
 rw[List.take_succ_eq_append_getElem hk,List.foldl_append,h];rfl
theorem Zbc{data:Int}:∀ (L:List Dv),(∀ d∈L,DevOk data d)→∀ (b:Nat),∀ x∈Hb b L,0≤x.2.2.1∧x.2.2.1<data
 | [],_,_,x,hx=>by cases hx
 | d::r,he,b,x,hx=>by
  rw[Hb] at hx
  rcases List.mem_append.1 hx with hx|hx
  ·obtain⟨m,hm,rfl⟩:=List.mem_map.1 hx
   exact((he d (List.mem_cons_self ..)).maps.each m hm).2.1
  ·exact Zbc r (fun y hy=>he y (List.mem_cons_of_mem _ hy)) (b+1) x hx
theorem Zfq{data:Int}{L:List Dv}(h:DevsOk data L)(b:Nat):∀ x∈Hb b L,0≤x.2.2.1∧x.2.2.1<data:=Zbc L h.each b
theorem Zbu{data:Nat}(R:List (Nat×Mp))(h:∀ x∈R,0≤x.2.2.1∧x.2.2.1<(data:Int)):∀ cs,cs.length=data→(Eg cs R).sum=cs.sum+R.length:=by
 induction R with
 | nil=>intro cs _;rfl
 | cons x r ih =>
  intro cs hc
  have hx:=h x (List.mem_cons_self ..)
  show(Eg (Zg9 cs x.2.2.1) r).sum=_
  rw[ih (fun y hy=>h y (List.mem_cons_of_mem _ hy)) _ (by rw[Zau];exact hc),bump_sum hx.1 (by omega),List.length_cons];omega
theorem Zcw{data:Nat}{L:List Dv}(h:DevsOk (data:Int) L):(Jv data L).sum=Gv L:=by
 unfold Jv
 rw[Zbu _ (Zfq h 0) _ List.length_replicate,List.sum_replicate_nat,Rk];omega
theorem Sv(l:List Nat)(i:Nat):l.getD i 0≤l.sum:=by
 induction l generalizing i with
 | nil=>simp[List.getD]
 | cons a l ih =>
  cases i with
  | zero=>simp[List.getD]
  | succ i=>have:=ih i;simp only[List.getD_cons_succ,List.sum_cons];omega
def Yp(data:Nat)(L:List Dv):List Int:=(Jv data L).map fun n:Nat=>(n:Int)
theorem Qc(data:Nat)(L:List Dv):(Yp data L).length=data:=by unfold Yp;rw[List.length_map,Kk]
theorem Sn(data:Nat)(L:List Dv)(i:Nat):(Yp data L).getD i 0=((Jv data L).getD i 0:Nat):=by
 unfold Yp
 simp only[List.getD,List.getElem?_map]
 cases (Jv data L)[i]? <;> rfl
theorem Ml{data:Nat}{L:List Dv}(hd:data≤65536)(h:DevsOk (data:Int) L):Jd (Yp data L)=0:=by
 unfold Jd
 rw[Qc,if_neg (by omega),if_pos]
 intro k hk
 rw[Sn]
 have a:=Sv (Jv data L) k
 rw[Zcw h] at a
 have b:=h.sum
 unfold Pe;omega
def Za6(cs:List Nat)(k:Nat):Nat:=((cs.take k).filter fun n=>decide (3≤n)).length
theorem Bc{cs:List Nat}{k:Nat}(h:k<cs.length):Za6 cs (k+1)=Za6 cs k+if 3≤cs.getD k 0 then 1 else 0:=by
 unfold Za6
 rw[List.take_succ_eq_append_getElem h,List.filter_append,List.length_append,show cs.getD k 0=cs[k] from by simp[List.getD,h]]
 congr 1
 by_cases q:3≤cs[k]<;>simp[q]
theorem Zf9(cs:List Nat):∀ k,k≤cs.length→3*Za6 cs k≤(cs.take k).sum
 | 0,_=>by simp[Za6]
 | k+1,h=>by
  have ih:=Zf9 cs k (by omega)
  rw[Bc (by omega),List.take_succ_eq_append_getElem (by omega),List.sum_append]
  have e:cs.getD k 0=cs[k]:=by simp[List.getD,show k<cs.length by omega]
  rw[e]
  simp only[List.sum_cons,List.sum_nil,Nat.add_zero]
  split<;>omega
theorem Zg8(data:Nat)(L:List Dv):∀ k,k≤data→(Zz (Yp data L) k).length=Za6 (Jv data L) k
 | 0,_=>by simp[Zz,Za6]
 | k+1,h=>by
  have ih:=Zg8 data L k (by omega)
  rw[Bc (by rw[Kk];omega),←ih]
  by_cases q:3≤(Yp data L).getD k 0
  ·rw[Wl q,List.length_append,if_pos (by rw[Sn] at q;omega)];rfl
  ·rw[Pr q,if_neg (by rw[Sn] at q;omega),Nat.add_zero]
def oftL(data:Nat)(L:List Dv):Nat:=Za6 (Jv data L) data
theorem Ls(data:Nat)(L:List Dv):(Zz (Yp data L) (Yp data L).length).length=oftL data L:=by rw[Qc];exact Zg8 data L data (Nat.le_refl _)
theorem Lf{data:Nat}{L:List Dv}(h:DevsOk (data:Int) L):oftL data L≤5462:=by
 have a:=Zf9 (Jv data L) data (by rw[Kk];exact Nat.le_refl _)
 rw[List.take_of_length_le (by rw[Kk];exact Nat.le_refl _),Zcw h] at a
 have:=h.sum
 unfold oftL;omega
def My(L:List Dv):Nat:=(L.map fun d=>Xw 2 d.2.length).sum
def Ej(data:Nat)(L:List Dv):Nat:=1+Xw 3 L.length+Xw 1 L.length+My L+bmN data+Xw 4 (bmN data)+Xw 5 (oftL data L)
theorem devsN_forN(L:List Dv):Xu (Mw L)=My L:=by
 induction L with
 | nil=>rfl
 | cons d r ih =>
  have e:Xu (Mw (d::r))=Xw 2 (Nl d.2).length+Xu (Mw r):=rfl
  have e2:My (d::r)=Xw 2 d.2.length+My r:=rfl
  rw[e,e2,ih,Ja]
def Zfb(m:Nat):Nat:=m+(m-1)/959+1
def Ms(data:Nat)(L:List Dv):Nat:=Zfb (Ej data L+2)
theorem Zgg{L:List Dv}:My L≤2*Gv L+2*L.length:=by
 induction L with
 | nil=>exact Nat.zero_le _
 | cons d r ih =>
  have e2:My (d::r)=Xw 2 d.2.length+My r:=rfl
  have e3:Gv (d::r)=d.2.length+Gv r:=rfl
  have:=Hu 2 d.2.length
  rw[e2,e3,List.length_cons];omega
theorem Zg0{data:Nat}{L:List Dv}(hd:data≤65536)(h:DevsOk (data:Int) L):1≤Ej data L∧Ej data L≤100000:=by
 have a:=Hu 3 L.length
 have b:=Hu 1 L.length
 have c:=@Zgg L
 have d:=Hu 4 (bmN data)
 have e:=Hu 5 (oftL data L)
 have f:=Lf h
 have g:=h.few
 have i:=h.sum
 have j:bmN data≤69:=by unfold bmN;omega
 unfold Ej;omega
theorem need_room{m n:Nat}(h:Zfb m≤n):m+bmN n≤n:=by unfold Zfb at h;unfold bmN;omega
end Go.Proofs.YtceeiinepijokaaGreat
namespace Go.Proofs.YtceeiinepijokaaGreat
set_option maxHeartbeats 8000000
set_option maxRecDepth 100000
open Go.RowKit
set_option linter.unusedVariables false
attribute [local go_sem] Oper.semAt_some
theorem Sl.to{w W:World}{v:Value}{n:Nat}{xs:List Value}(h:Sl w v n xs)(hk:∀ a x,w.cell? a=some x→W.cell? a=some x):Sl W v n xs:=by
 rcases h with h|⟨b,a0,a1,h1,h2,h3,h4⟩
 ·exact .inl h
 ·exact .inr ⟨b,a0,a1,h1,h2,h3,fun j x hj=>hk _ _ (h4 j x hj)⟩
theorem DevsR.to{w W:World}{p:O0}{c:Nat}{Z:List Zv}(h:DevsR w p c Z)(hk:∀ a x,w.cell? a=some x→W.cell? a=some x):DevsR W p c Z:=⟨Sl.to h.row hk,fun i hi=>Sl.to (h.each i hi) hk⟩
def encM(x:Nat×Mp):Array Value:=#[V0 (x.1:Int),.agg #[V0 x.2.1,V0 x.2.2.1,V0 x.2.2.2]]
theorem Td{q:Nat→Prop}{W V:World}(h:Keeps q W V)(hq:∀ b,q b→b<W.heap.size)(o:Obj):Keeps q W (V.alloc o):=by
 have hb:=(Below.refl V.heap.size V).alloc (Nat.le_refl _) o
 exact⟨Nat.le_trans h.size hb.size,fun b a0=>(hb.block b (Nat.lt_of_lt_of_le (hq b a0) h.size)).trans (h.block b a0)⟩
theorem sl_lit{α:Type}{f:α→List Value}{w:World}{p:O0}{n c:Nat}{l:List α}(h:Sl w (.slice p n c) n (l.flatMap f))(hn:0<n):∃ pb po,p=some ⟨pb,po,none⟩∧∀ j x,(l.flatMap f)[j]? = some x→w.cell? ⟨pb,po+j,none⟩=some x:=by
 rcases h with ⟨a,cc,h1,h2,_⟩|⟨pb,po,a0,h1,_,_,h4⟩
 ·omega
 ·simp only[Value.slice.injEq] at h1
  exact⟨pb,po,h1.1,h4⟩
theorem maps1_in(l B1:Nat)(pp:O0)(n c:Nat)(t u v x:Int)(Z:List Zv)(w:World)(hZ:Z.length=n)(hP:DevsR w pp c Z)(hn:n≤1000000000)(q:Nat→Prop)(hq:∀ b,b<w.heap.size→q b)(J Jx:Nat→World→Prop)(hJ:∀ k A B,J k A→Below A.heap.size A B→J k B)
 (hY:∀ k x V,(Hb 0 (Z.map Prod.fst))[k]? = some x→J k V→YieldAt Fence.wide 2 Tryz.prog l (encM x) V fun e U =>
 (e=.returned (.bool true)∧J (k+1) U∧Keeps q V U)∨(e=.returned (.bool false)∧Jx k U))
 (W:World) (hW:B3 w W) (hqlt:∀ b,q b→b<W.heap.size) (hk1:Blk W B1 [V0 t,V0 u,V0 v,V0 x,.slice pp n c] 28) (h0:J 0 W) :
 CallsIn Fence.wide 3 Tryz.prog 192 #[.func (.yield l) #[] #[],P0 B1] W fun e U=>(∃ v,e=.returned v)∧(J (Hb 0 (Z.map Prod.fst)).length U∨∃ k,k<(Hb 0 (Z.map Prod.fst)).length∧Jx k U):=by
 refine callsIn_of_wp Tryz.func192 rfl trivial ?_ rfl
 simp only[Tryz.ntmps192,List.size_toArray,List.length_cons,List.length_nil,Nat.reduceAdd,Nat.reduceSub,Array.replicate_succ,Array.replicate_zero,List.push_toArray,List.append_toArray,List.nil_append,List.cons_append]
 have z4:=hk1.cell (i:=4) rfl
 have c6:(Z.map Prod.fst).length=n:=by rw[List.length_map];exact hZ
 gi_wp2
 gi_loopw [10] (fun i wr=>∃ k:Nat,k≤n∧i=V0 (k:Int)∧J (Gv ((Z.map Prod.fst).take k)) wr∧Keeps q W wr)
  (fun i _=>(n-(intOf i)).toNat)
 case atStart=>exact⟨0,Nat.zero_le _,rfl,h0,Keeps.refl _ _⟩
 case round =>
  obtain⟨k,hk,rfl,a0,a9⟩:=hrel
  by_cases hlt:k<n
  ·have b3:∀ {V:World},Keeps q W V→DevsR V pp c Z:=fun hV=>hP.to (fun a x ha=>(hV.cell (a:=a) (hq _ (ltC ha))).trans (Cu hW ha))
   have b2:=b3 a9
   have a1:Sl wr (.slice pp n c) n (Z.flatMap Zdn):=b2.rowN hZ
   obtain⟨pb,po,b7,hc⟩:=sl_lit a1 (by omega)
   have gz:∀ i x,i<5→(Zdn (Z.getD k zvD))[i]? = some x→wr.cell? ⟨pb,po+k*5+i,none⟩=some x:=fun i x hi hx=>by
    rw[Nat.add_assoc]
    exact hc _ _ ((Bf Gg Z k i zvD (by omega) hi).trans hx)
   have a2:=fun j hj=>mapsR_at (L:=Z.map Prod.fst) (i:=k) (j:=j) (by omega) hj
   rw[zfst (by omega)] at a2
   have a6:=Tx (Z:=Z) (i:=k) (by omega)
   have b0:=fun {V:World} (hV:Keeps q W V)=>(b3 hV).each k (by omega)
   obtain⟨⟨⟨⟨i0,i1,i2,i3⟩,M⟩,mp,mc⟩,hz⟩:∃ z,Z.getD k zvD=z:=⟨_,rfl⟩
   rw[hz] at gz a2 a6
   simp only[hz] at b0
   have z5:=gz 0 _ (by decide) rfl
   have z6:=gz 1 _ (by decide) rfl
   have z7:=gz 2 _ (by decide) rfl
   have z8:=gz 3 _ (by decide) rfl
   have z9:=gz 4 _ (by decide) rfl
   rw[Nat.add_zero] at z5
   clear gz hc hz a1 b2
   subst b7
   obtain⟨S,hS⟩:∃ S,Gv ((Z.map Prod.fst).take k)=S:=⟨_,rfl⟩
   rw[hS] at a0 a2 a6
   gi_wp2
   gi_loopw [18] (fun j b1=>∃ m:Nat,m≤M.length∧j=V0 (m:Int)∧J (S+m) b1∧Keeps q W b1)
    (fun j _=>(M.length-(intOf j)).toNat)
   case atStart=>exact⟨0,Nat.zero_le _,rfl,hJ _ _ _ a0 ((Below.refl _ wr).alloc (Nat.le_refl _) _),Td a9 hqlt _⟩
   case round =>
    obtain⟨m,hm,rfl,b4,a3⟩:=hrel
    have hM:=b0 a3
    have c5:M.length≤9223372036854775807:=Sl.len hM
    by_cases hmt:m<M.length
    ·have b5:Sl wr (.slice mp M.length mc) M.length (M.flatMap Pj):=hM
     obtain⟨mb,mo,c3,b6⟩:=sl_lit b5 (by omega)
     have gm:∀ i x,i<3→(Pj (M.getD m (0,0,0)))[i]? = some x→wr.cell? ⟨mb,mo+m*3+i,none⟩=some x:=fun i x hi hx=>by
      rw[Nat.add_assoc]
      exact b6 _ _ ((Bf Ya M m i (0,0,0) hmt hi).trans hx)
     have hx:=a2 m hmt
     obtain⟨⟨m1,m2,m3⟩,a5⟩:∃ y,M.getD m (0,0,0)=y:=⟨_,rfl⟩
     rw[a5] at gm
     have a4:(Hb 0 (Z.map Prod.fst))[S+m]? = some (k,(m1,m2,m3)):=by rw[hx];exact congrArg (fun y=>some (k,y)) a5
     have y1:=gm 0 _ (by decide) rfl
     have y2:=gm 1 _ (by decide) rfl
     have y3:=gm 2 _ (by decide) rfl
     rw[Nat.add_zero] at y1
     clear gm b6 b5 hM hx a5
     subst c3
     have c2:=(Below.refl wr.heap.size wr).alloc (Nat.le_refl _) (.cells #[V0 m1,V0 m2,V0 m3] 46)
     obtain⟨fn,c0,a8,c4,hy,hR⟩:=hY _ _ (wr.alloc (.cells #[V0 m1,V0 m2,V0 m3] 46)) a4 (hJ _ _ _ b4 c2)
     have c1:=Td a3 hqlt (.cells #[V0 m1,V0 m2,V0 m3] 46)
     simp only[encM] at hy
     gi_wp2
     refine hR.mono ?_
     rintro e W3 (⟨rfl,b8,b9⟩|⟨rfl,a7⟩)
     ·gi_wp2
      go_roundw
      case rel =>
       refine⟨m+1,by omega,?_,b8,c1.trans b9⟩
       exact congrArg V0 (by omega)
      case measure=>simp only[intOf];omega
     ·gi_wp2
      refine bodyPost_ret (results_none rfl _ _ _) rfl ?_
      refine⟨⟨_,rfl⟩,.inr ⟨_,?_,a7⟩⟩
      rcases Nat.lt_or_ge (S+m) (Hb 0 (Z.map Prod.fst)).length with h|h
      ·exact h
      ·rw[List.getElem?_eq_none h] at a4;cases a4
    ·obtain rfl:m=M.length:=by omega
     gi_wp2
     go_roundw
     case rel =>
      refine⟨k+1,by omega,?_,by rw[a6];exact b4,a3⟩
      exact congrArg V0 (by omega)
     case measure=>simp only[intOf];omega
  ·obtain rfl:k=n:=by omega
   have HJ:=Lib.hid a0;clear a0
   gi_wp2
   go_end0
   have a0:=HJ.out
   rw[List.take_of_length_le (by omega)] at a0
   exact⟨⟨_,rfl⟩,.inl (by rw[Rk];exact a0)⟩
end Go.Proofs.YtceeiinepijokaaGreat
namespace Go.Proofs.YtceeiinepijokaaGreat
set_option maxHeartbeats 8000000
set_option maxRecDepth 100000
open Go.RowKit Go.Extern.Stop Go.Stop Go.Extern
set_option linter.unusedVariables false
attribute [local irreducible] wpList wpAnyH Code.wp Oper.wp Go
section
variable {P:Program} {a:Act}
theorem shl_bd{n:Int}(h:0≤n∧n≤3){s:Nat}(hs:s≤6):0≤n*2 ^ s∧n*2 ^ s≤192:=by
 obtain rfl|rfl|rfl|rfl:n=0∨n=1∨n=2∨n=3:=by omega
 all_goals obtain rfl|rfl|rfl|rfl|rfl|rfl|rfl:s=0∨s=1∨s=2∨s=3∨s=4∨s=5∨s=6:=by omega
 all_goals decide
theorem run_shlS{o:Oper}{t t2:TypeId}{x y:Operand}{n:Int}{s:Nat}{j:Int}{kj:IntKind}(ho:o.op=.binOp .shl t x y t2)(hx:a.eval x=V0 n)(hy:a.eval y=.int kj j)(hj:j=(s:Int))(hn:0≤n∧n≤3)(hs:s≤6)(w:World):(execOp a.eval o).run P w=.ok (.value (V0 (n*2 ^ s))) w:=by
 subst hj
 have e:=shift_shl .i64 kj n (s:Int) (Int.natCast_nonneg s) (by show(s:Int)≤64;omega)
 rw[show((s:Int)).toNat=s from by omega] at e
 have hb:=shl_bd hn hs
 rw[IntWalk.i64_in _ (by omega)] at e
 simp only[execOp,ho,hx,hy,eqGuard_shl,binOp_shl,e]
 simp
end
section
variable {P:Program} {fn:Func} {R:Ending→World→Prop} {w:World} {s:Zs}
theorem xbot(q:Zq){b:BinOp}{t t2:TypeId}{u1 u2 v:Value}(hv:∀ (a:Act) (o:Oper) (x y:Operand),o.op=.binOp b t x y t2→a.eval x=u1→a.eval y=u2→∀ V,True→(execOp a.eval o).run P V=.ok (.value v) V)(g:Go P fn R (znx (zq P q s) v) w)(h:zk (zq P q s)=some (.bn b t t2 u1 u2):=by kernel_rfl):Go P fn R s w:=by
 refine Zy q s ?_
 obtain⟨o,ho,h⟩:=Vx h
 exact Ze1 ho (fun V _=>by
  obtain⟨x,y,h1,h2,h3⟩:=Pm h
  exact hv _ o x y h1 h2 h3 V trivial) g
end
theorem u8_shl{n:Int}(h:0≤n∧n≤3){s:Nat}(hs:s≤6):IntKind.u8.wrap (n*2 ^ s)=n*2 ^ s:=by
 have hb:=shl_bd h hs
 generalize n*2 ^ s=m at *
 simp[IntKind.wrap,IntKind.bits,IntKind.signed];omega
theorem bitsT_at(l:List Int)(i:Nat){k:Nat}(hk:k<240):(Lh l i).getD (4+k) 0=g4B l i k:=by
 unfold Lh
 rw[List.getD,List.getElem?_append_right (by rw[Zj];omega),Zj,Nat.add_sub_cancel_left]
 simp[hk]
theorem bits_or{l:List Int}(h:Wp l){i:Nat}(hi:i<960):IntKind.u8.wrap (↑(BitVec.ofInt 8 (↑((Lh l i).getD (4+(i/4)) 0).toNat:Int) ||| BitVec.ofInt 8 (l.getD i 0*2 ^ ((i%4)*2))).toNat:Int)=((g4B l (i+1) (i/4)).toNat:Int):=by
 rw[bitsT_at l i (by omega)]
 obtain⟨h1,h2⟩:=g4B_at h (i:=i)
 rw[h1]
 obtain⟨n,hn⟩:∃ n:Nat,l.getD i 0=n:=⟨(l.getD i 0).toNat,by have:=(Mu h i).1;omega⟩
 have hb:=Mu h i
 rw[hn] at hb ⊢
 generalize (g4B l i (i/4)).toNat=o at *
 have hr:i%4<4:=by omega
 generalize i%4=r at *
 have ho:o<64:=Nat.lt_of_lt_of_le h2 (by
  obtain rfl|rfl|rfl|rfl:r=0∨r=1∨r=2∨r=3:=by omega
  all_goals decide)
 have hs:=or_step ⟨r,hr⟩ ⟨n,by omega⟩ ⟨o,ho⟩ h2
 simp only at hs
 have e4:(4:Nat) ^ r=2 ^ (r*2):=by rw[Nat.mul_comm,Nat.pow_mul]
 have e:((n:Int)*2 ^ (r*2))=((n*4 ^ r:Nat):Int):=by rw[e4];simp
 have e':((n:Int)*4 ^ r)=((n*4 ^ r:Nat):Int):=by simp
 have hm:n*4 ^ r≤192:=by
   have h3:4 ^ r≤64:=by
    obtain rfl|rfl|rfl|rfl:r=0∨r=1∨r=2∨r=3:=by omega
    all_goals decide
   calc n*4 ^ r≤3*64:=Nat.mul_le_mul (by omega) h3
     _=192:=rfl
 rw[e,e',BitVec.ofInt_natCast,BitVec.ofInt_natCast,BitVec.toNat_or,BitVec.toNat_ofNat,BitVec.toNat_ofNat,Nat.mod_eq_of_lt (by omega),Nat.mod_eq_of_lt (by omega),hs]
 generalize n*4 ^ r=m at *
 simp[IntKind.wrap,IntKind.bits,IntKind.signed];omega
theorem bits_set{l:List Int}{i:Nat}(hi:i<960):((Lh l i).map bv).set (4+(i/4)) (.int .u8 ((g4B l (i+1) (i/4)).toNat:Int))=(Lh l (i+1)).map bv:=by
 rw[show Value.int .u8 ((g4B l (i+1) (i/4)).toNat:Int)=bv (g4B l (i+1) (i/4)) from rfl,←List.map_set]
 congr 1
 unfold Lh
 rw[List.set_append_right _ _ (by rw[Zj];omega),Zj,Nat.add_sub_cancel_left]
 congr 1
 apply List.ext_getElem
 ·simp
 ·intro k h1 h2
  rw[List.getElem_set]
  split
  ·rename_i e;subst e;simp
  ·rename_i e;simp only[List.getElem_map,List.getElem_range];unfold g4B;rw[g4_ne (by omega)]
theorem bits0(l:List Int):((List.replicate 244 (0:UInt8)).map bv).take 0++(leB (l.length:Int) 4).map bv++((List.replicate 244 (0:UInt8)).map bv).drop (0+4)=(Lh l 0).map bv:=by
 unfold Lh
 rw[List.map_append,List.take_zero,List.nil_append]
 congr 1
theorem BysN.elem{w:World}{b:O0}{n c:Nat}{l:Bl}(h:Sl w (.slice b n c) n (l.map bv))(hl:l.length=n){k:Nat}(hk:k<n):b.isSome=true∧w.cell? (Zo b (k*1))=some (.int .u8 ((l.getD k 0).toNat:Int)):=by
 subst hl;exact Bys.elem (Qu h rfl) hk
theorem bits_put1(n:Int)(w:World)(h0:0≤n)(h3:n≤3) :
 C0 229 #[V0 n] w (Ret (.bool false) w):=by
 refine zin 9 Tryz.func229 ?_
 refine xgk 10 [4,5] (show(decide (n<(0:Int)):Bool)=false from decide_eq_false (by omega)) ?_
 refine xe 7 (.bool (decide (n>(3:Int)))) ?_
 rw[show decide (n>(3:Int))=false from decide_eq_false (by omega)];exact⟨rfl,(B4 w)⟩
theorem indexSmall(a:O0)(c:Nat)(l:List Int)(w:World)(hS:Wp l)(hl:l.length≤960)(h:Sl w (.slice a l.length c) l.length (l.map V0)) :
 C0 178 #[.slice a l.length c,.func (.func 229) #[] #[]] w (Ret (V0 (-1)) w):=by
 refine zin 19 Tryz.func178 ?_
 have hB:=Below.refl w.heap.size w
 refine zl 14 19 (fun zm a4 V=>∃ (i:Nat),a4=[(0,.slice a l.length c),(1,.func (.func 229) #[] #[]),(7,V0 (l.length:Int)),(8,V0 (i:Int))]∧zm=l.length-((i:Int)).toNat∧B3 w V∧i≤l.length) ⟨0,rfl,rfl,hB,Nat.zero_le _⟩ ?_
 rintro _ _ W1 ⟨i,rfl,rfl,a0,hi⟩ J1 a3 r1
 refine xid 6 ((i:Int)<(l.length:Int)) (fun a5=>?_) (fun a5=>?_)
 ·refine xx 15 _ l.length i 1 (Ints.elem h (k:=i) (by omega)).1 ?_
  refine xl 0 ((Ints.elem (h.below a0) (k:=i) (by omega)).2) ?_
  refine xr 0 (args:=#[V0 (l.getD i 0)]) (bits_put1 (l.getD i 0) _ (Mu hS i).1 (Mu hS i).2) fun W3 a2=>?_
  refine xwm 7 ((i:Int)+1) (↑(i+1):Int) ?_
  have a1:=bln a0 a2
  exact ze 2 (a3 _ _ _ ⟨i+1,rfl,rfl,a1,by omega⟩ (by omega))
 exact xe 11 (V0 (-1)) ⟨rfl,a0⟩
theorem Oc(a:O0)(c:Nat)(l:List Int)(w:World)(hS:Wp l)(hl:l.length≤960)(h:Sl w (.slice a l.length c) l.length (l.map V0)) :
 C0 104 #[.slice a l.length c,.func (.func 229) #[] #[]] w (Ret (.bool false) w):=by
 refine zin 9 Tryz.func104 ?_
 refine xr 9 (args:=#[.slice a l.length c,.func (.func 229) #[] #[]]) (indexSmall a c l _ hS hl (h.below (B4 w))) fun W1 a0=>?_
 exact xe 5 (.bool false) ⟨rfl,a0⟩
theorem Zb6(a:O0)(c:Nat)(l:List Int)(w:World)(hl:l.length≤960)(h:Sl w (.slice a l.length c) l.length (l.map V0)) :
 C0 187 #[.slice a l.length c] w (Ret (.tuple #[V0 (↑(Ys l):Int),V0 (↑(Xo l):Int)]) w):=by
 refine zin 27 Tryz.func187 ?_
 have hB:=Below.refl w.heap.size w
 refine zl 23 27 (fun zm a4 V=>∃ (i f g:Nat),a4=[(2,V0 0),(3,V0 0),(4,V0 (f:Int)),(5,V0 (g:Int)),(10,.slice a l.length c),(11,V0 (l.length:Int)),(12,V0 (i:Int))]∧zm=l.length-((i:Int)).toNat∧B3 w V∧i≤l.length∧f=freeK l i∧((f=0∧g=l.length∧∀ j,j<i→l.getD j 0≠0)∨(0<f∧g=Xo l))) ⟨0,0,l.length,rfl,rfl,hB,Nat.zero_le _,rfl,?_⟩ ?_
 ·exact .inl ⟨rfl,rfl,fun j hj=>absurd hj (by omega)⟩
 rintro _ _ W1 ⟨i,f,g,rfl,rfl,a0,hi,hf,hg⟩ J1 a2 r1
 have a3:=fun(q:i<l.length)=>freeK_succ q
 have a8:=Ep l i
 refine xid 6 ((i:Int)<(l.length:Int)) (fun a5=>?_) (fun a5=>?_)
 ·refine xx 7 _ l.length i 1 (Ints.elem h (k:=i) (by omega)).1 ?_
  refine xl 0 ((Ints.elem (h.below a0) (k:=i) (by omega)).2) ?_
  refine xin 11 (l.getD i 0) (0:Int) (fun a6=>?_) (fun a6=>?_)
  ·refine xwm 5 ((i:Int)+1) (↑(i+1):Int) ?_
   exact ze 2 (a2 _ _ _ ⟨i+1,f,g,rfl,rfl,a0,by omega,by rw[a3 (by omega),if_neg (by assumption)];exact hf,hg.elim (fun⟨h1,h2,h3⟩=>.inl ⟨h1,h2,fun j hj=>(Nat.lt_or_ge j i).elim (fun q=>h3 j q) (fun q=>by obtain rfl:j=i:=(by omega);assumption)⟩) .inr⟩ (by omega))
  refine xie 9 (f:Int) (0:Int) (fun a7=>?_) (fun a7=>?_)
  ·refine xwm 7 ((f:Int)+1) (↑(f+1):Int) ?_
   refine xwm 5 ((i:Int)+1) (↑(i+1):Int) ?_
   exact ze 2 (a2 _ _ _ ⟨i+1,f+1,i,rfl,rfl,a0,by omega,by rw[a3 (by omega),if_pos (by assumption),hf],.inr ⟨by omega,hg.elim (fun⟨_,_,h3⟩=>(firstN_at (by omega) (by assumption) h3).symm) (fun q=>absurd q.1 (by omega))⟩⟩ (by omega))
  refine xwm 4 ((f:Int)+1) (↑(f+1):Int) ?_
  refine xwm 5 ((i:Int)+1) (↑(i+1):Int) ?_
  exact ze 2 (a2 _ _ _ ⟨i+1,f+1,g,rfl,rfl,a0,by omega,by rw[a3 (by omega),if_pos (by assumption),hf],.inr ⟨by omega,hg.elim (fun⟨h1,_,_⟩=>absurd h1 (by omega)) (fun q=>q.2)⟩⟩ (by omega))
 refine xe 14 (.tuple #[V0 (f:Int),V0 (g:Int)]) ?_
 obtain rfl:i=l.length:=by omega
 have a1:f=Ys l:=hf
 rcases hg with ⟨h1,h2,h3⟩|⟨h1,h2⟩
 ·exact⟨by rw[a1,h2,Zfj h3],a0⟩
 ·exact⟨by rw[a1,h2],a0⟩
theorem Zf3(a:O0)(c:Nat)(l:List Int)(w:World)(hS:Wp l)(hl:l.length≤960)(h:Sl w (.slice a l.length c) l.length (l.map V0)) :
 C0 186 #[.slice a l.length c] w (Vo (fun w' r=>∃ g,r=.tuple #[.slice (S1 g) 244 244,V0 0]∧w'.ownsRow w.heap.size 5 1 (.slice (S1 g) 244 244) 244 ((Tf l).map bv)) w):=by
 refine zin 51 Tryz.func186 ?_
 refine xgk 13 [11,12] (show(decide ((l.length:Int)>(960:Int)):Bool)=false from decide_eq_false (by omega)) ?_
 refine xr 1 (args:=#[.slice a l.length c,.func (.func 229) #[] #[]]) (Oc a c l _ hS hl (h.below (B4 w))) fun W2 a9=>?_
 refine xbs 11 1 [V0 4,V0 (l.length:Int)] 235 fun b3 W3 n3=>?_
 refine xc 0 (args:=#[.slice (S1 b3) 1 1]) (Da b3 (l.length:Int) (by omega) (by omega) _ n3.blk) ?_
 rintro _ W4 ⟨_,rfl,a8,p2,c2,rfl,h2⟩
 have b9:=(bln a9 n3.below).size
 refine xmk 9 fun _ _ _ _ zJ zQ zo zx zy zK=>Kw 244 (.int .u8 0) 1 1 ((List.replicate 244 (0:UInt8)).map bv) zo zx zy Tryz.underlying22 (by kernel_rfl) rfl (by omega) (by omega) (Zcf 244) fun b5 W5 n5=>?_
 have a5:=Zh h2 b9
 have b2:=Zu a5 n5
 refine zK _ _ ?_
 have o5:=Xl (size:=1) (n:=244) n5.blk (n5.ge (bln (bln a9 n3.below) a8)) (by rw[List.length_map,List.length_replicate]) (by unfold maxLen;omega)
 have a7:=Zb a5 n5.below
 have hB:=bln (bln (bln a9 n3.below) a8) n5.below
 refine xbi 7 (t2:=22) fun _ _ _ _ zJ zQ zo zx zy zK=>Pl (dLen:=244) (dCap:=244) (off:=0) 4 ((leB (l.length:Int) 4).map bv) ((Lh l 0).map bv) zo Tryz.underlying22 (by kernel_rfl) zx zy (Zf a7) o5 (by simp[Zj]) (by omega) (by omega) (Qn _) hB.size (bits0 l) fun W6 o6 b8 b4=>?_
 refine zK _ _ ?_
 have a6:=hB.trans b4
 have b1:=((n3.blk.below a8).below n5.below).grown b8 o5 (by decide)
 refine zl 11 51 (fun zm b7 V=>∃ (i:Nat),b7=[(2,S0),(3,V0 0),(6,.slice (S1 b5) 244 244),(28,.slice a l.length c),(29,V0 (l.length:Int)),(30,V0 (i:Int))]∧zm=l.length-((i:Int)).toNat∧B3 w V∧Blk V b3 ([V0 4,V0 (l.length:Int)]) 235∧V.ownsRow w.heap.size 5 1 (.slice (S1 b5) 244 244) 244 ((Lh l i).map bv)∧i≤l.length) ⟨0,rfl,rfl,a6,b1,o6,Nat.zero_le _⟩ ?_
 rintro _ _ W7 ⟨i,rfl,rfl,a3,a4,ho,hi⟩ J7 b6 r7
 refine xid 6 ((i:Int)<(l.length:Int)) (fun c0=>?_) (fun c0=>?_)
 ·refine xx 7 _ l.length i 1 (Ints.elem h (k:=i) (by omega)).1 ?_
  refine xl 0 ((Ints.elem (h.below a3) (k:=i) (by omega)).2) ?_
  refine xd 4 (.t w.heap.size [5]) ?_
  refine xq (.e [0,1] 2) (congrArg V0 (show(IntKind.i64.wrap (Int.tdiv (i:Int) 4):Int)=(↑(i/4):Int) from Zgb i 4 (by omega) (by decide))) ?_
  refine xwm (.e [] 3) (4+(↑(i/4):Int)) (↑(4+(i/4)):Int) ?_
  refine xx (.e [] 4) _ 244 (4+(i/4)) 1 (show(some (⟨b5,0,none⟩:Addr)).isSome=true from rfl) ?_
  refine xq (.e [6,7] 8) (congrArg V0 (show(Int.tmod (i:Int) 4:Int)=(↑(i%4):Int) from tmod_natB i 4)) ?_
  refine xwm (.e [] 9) ((↑(i%4):Int)*2) (↑((i%4)*2):Int) ?_
  refine xbot (.e [] 10) (t:=3) (t2:=3) (fun _ _ _ _ zo zx zy V hV=>run_shlS (n:=(l.getD i 0)) (s:=((i%4)*2)) (kj:=.i64) (j:=(↑((i%4)*2):Int)) zo zx zy rfl (Mu hS i) (by omega) V) ?_
  refine xq (.e [] 11) (congrArg (Value.int .u8) (show(IntKind.u8.wrap (l.getD i 0*2 ^ ((i%4)*2)):Int)=l.getD i 0*2 ^ ((i%4)*2) from u8_shl (Mu hS i) (by omega))) ?_
  have a1:=Zb ho (Za W7)
  refine xl (.o [] 5) ((BysN.elem (Zf a1) (Hy l i) (k:=(4+(i/4))) (by omega)).2) ?_
  refine xq (.e [] 12) (congrArg (Value.int .u8) (show(IntKind.u8.wrap (↑(BitVec.ofInt 8 (↑((Lh l i).getD (4+(i/4)) 0).toNat:Int) ||| BitVec.ofInt 8 (l.getD i 0*2 ^ ((i%4)*2))).toNat:Int):Int)=(↑(g4B l (i+1) (i/4)).toNat:Int) from bits_or hS (by omega))) ?_
  refine xx (.e [] 13) _ 244 (4+(i/4)) 1 (show(some (⟨b5,0,none⟩:Addr)).isSome=true from rfl) ?_
  refine yst (.o [] 14) (.t w.heap.size [5]) fun _ _ _ _ zJ zQ zo zx zy zK=>Ur (t:=5) (k:=(4+(i/4))) (v:=.int .u8 (↑(g4B l (i+1) (i/4)).toNat:Int)) zo zx zy (by kernel_rfl) rfl a1 (by omega) fun W9 u9 o9=>?_
  rw[bits_set (l:=l) (i:=i) (by omega)] at o9
  have a0:=a4.below (Za W7)
  refine zK _ _ (Ha (T:=[5]) (u9.below (Below.refl _ _) (Dr a1)) (Zd.of_updRow u9 a1 (by decide))) ?_
  refine xwm 4 ((i:Int)+1) (↑(i+1):Int) ?_
  have b0:=u9.below (bln a3 (Za W7)) (Dr a1)
  have a2:=u9.blk a0 (Cc a0 a1 (by decide))
  exact ze 2 (b6 _ _ _ ⟨i+1,rfl,rfl,b0,a2,o9,by omega⟩ (by omega))
 refine xe 13 (.tuple #[.slice (S1 b5) 244 244,V0 0]) ?_
 obtain rfl:i=l.length:=by omega
 exact⟨_,rfl,a3,_,rfl,ho⟩
theorem Lr(p:Addr)(N c:Nat)(xs:List Value)(w:World)(h:Sl w (.slice (some p) N c) N xs)(hl:xs.length=N)(h1:∀ u∈xs,u.oneCell'=true)(hn:N≤1000000) :
 C0 124 #[.slice (some p) N c] w (Vo (fun w' r=>∃ q c2,r=.slice q N c2∧w'.ownsRow w.heap.size 3 1 (.slice q N c2) N xs) w):=by
 refine zin 8 Tryz.func124 ?_
 refine xb0 17 3 fun b1 W1 n1=>?_
 have o1:=Xl (size:=1) (n:=0) n1.blk (n1.ge (B4 w)) rfl (by decide)
 refine xbi 1 fun _ _ _ _ zJ zQ zo zx zy zK=>Xd (m:=N) (news:=xs) (V0 0) 1 8 (N) (xs) zo Tryz.underlying35 (by kernel_rfl) rfl (by decide) zx o1 zy (h.below n1.below) (by rw[hl,Nat.mul_one]) h1 (by unfold maxLen;omega) (by omega) n1.below.size (by omega) (by rfl) fun a1 a3 W2 o2 a4 a2=>?_
 refine zK _ _ ?_
 have a0:=n1.below.trans a2
 exact xe 4 (.slice a1 N a3) ⟨_,rfl,a0,_,_,rfl,o2⟩
end Go.Proofs.YtceeiinepijokaaGreat
namespace Go.Proofs.YtceeiinepijokaaGreat
set_option maxHeartbeats 8000000
set_option maxRecDepth 100000
open Go.RowKit Go.Extern.Stop Go.Stop Go.Extern
set_option linter.unusedVariables false
attribute [local irreducible] wpList wpAnyH Code.wp Oper.wp Go
theorem Zen(cs:List Nat):(cs.map fun c:Nat=>(c:Int)).map V0=cs.map nv:=by simp[nv]
theorem nv_get{cs:List Nat}{k:Nat}(h:k<cs.length):(cs.map nv)[k]? = some (V0 ((cs.getD k 0:Nat):Int)):=by simp[List.getD,h,nv]
theorem nv_bump(cs:List Nat)(k:Nat):(cs.map nv).set k (V0 ((cs.getD k 0+1:Nat):Int))=(Zg9 cs (k:Int)).map nv:=by
 unfold Zg9;rw[Int.toNat_natCast,List.map_set];rfl
theorem bump_get{cs:List Nat}{k:Nat}(h:k<cs.length):(Zg9 cs (k:Int)).getD k 0=cs.getD k 0+1:=by
 unfold Zg9;rw[Int.toNat_natCast];simp[List.getD,h]
theorem Nh{w:World}{pc:O0}{n m:Nat}{cs:List Nat}(h:Sl w (.slice pc n m) n (cs.map nv)){k:Nat}(hk:k<cs.length):pc.isSome=true∧w.cell? (Zo pc (k*1))=some (V0 ((cs.getD k 0:Nat):Int)):=by
 rcases h with ⟨a,c,h1,h2,h3⟩|⟨b,a0,a1,h1,h2,h3,h4⟩
 ·simp only[Value.slice.injEq] at h1
  have:(cs.map nv).length=0:=by rw[h3];rfl
  rw[List.length_map] at this;omega
 ·simp only[Value.slice.injEq] at h1
  obtain⟨rfl,_,_⟩:=h1
  refine⟨rfl,?_⟩
  have:=h4 k _ (nv_get hk)
  simpa [Zo,Addr.add_mid] using this
theorem zerosV(n:Nat):Kv (Value.int .i64 0).cells.toList n=(List.replicate n (0:Nat)).map nv:=by
 rw[show(Value.int .i64 0).cells.toList=[Value.int .i64 0] from rfl,Kv,List.map_replicate]
 induction n with
 | zero=>rfl
 | succ n ih=>rw[List.replicate_succ,List.flatten_cons,ih,List.replicate_succ];rfl
theorem nv_one(cs:List Nat):∀ u∈cs.map nv,u.oneCell'=true:=fun u hu=>by obtain⟨y,_,rfl⟩:=List.mem_map.1 hu;rfl
theorem refs_NewI(n:Nat)(w:World)(h:n≤65536) :
 C0 119 #[V0 (n:Int)] w (Vo (fun w' r=>∃ br g,r=.tuple #[P0 br,V0 0]∧w.heap.size≤br∧Blk w' br [.slice (S1 g) n n] 304∧w'.ownsRow w.heap.size 3 1 (.slice (S1 g) n n) n ((List.replicate n (0:Nat)).map nv)) w):=by
 refine zin 14 Tryz.func119 ?_
 refine xgk 12 [5,6] (show(decide ((n:Int)<(0:Int)):Bool)=false from decide_eq_false (by omega)) ?_
 refine xk 5 (show(decide ((n:Int)>(65536:Int)):Bool)=false from decide_eq_false (by omega)) ?_
 refine xmk 5 fun _ _ _ _ zJ zQ zo zx zy zK=>Kw n (V0 0) 1 8 ((List.replicate n (0:Nat)).map nv) zo zx zy Tryz.underlying35 (by kernel_rfl) rfl (by omega) (by omega) ((zerosV n)) fun b2 W2 n2=>?_
 refine zK _ _ ?_
 refine xa 1 [.slice (S1 b2) n n] 304 fun b3 W3 n3=>?_
 have o2:=Zb (Xl (size:=1) (n:=n) n2.blk (n2.ge (B4 w)) (by rw[List.length_map,List.length_replicate,Nat.mul_one]) (by unfold maxLen;omega)) n3.below
 have hB:=bln n2.below n3.below
 have g3:=n3.ge n2.below
 exact xe 5 (.tuple #[P0 b3,V0 0]) ⟨_,rfl,hB,_,_,rfl,g3,n3.blk,o2⟩
theorem refs_own(br n:Nat)(p:O0)(w:World)(kr:Blk w br [.slice p n n] 304) :
 C0 193 #[P0 br] w (Ret (.slice p n n) w):=by
 refine zin 9 Tryz.func193 ?_
 refine xb 20 0 kr ?_
 exact xe 4 (.slice p n n) ⟨rfl,(B4 w)⟩
theorem refs_List(br g n B0:Nat)(cs:List Nat)(w:World)(kr:Blk w br [.slice (S1 g) n n] 304)(hc:w.ownsRow B0 3 1 (.slice (S1 g) n n) n (cs.map nv))(hn:cs.length=n)(hn2:n≤100000) :
 C0 122 #[P0 br] w (Vo (fun w' r=>∃ q c2,r=.slice q n c2∧w'.ownsRow w.heap.size 3 1 (.slice q n c2) n (cs.map nv)) w):=by
 refine zin 6 Tryz.func122 ?_
 refine xr 8 (args:=#[P0 br]) (refs_own br n _ _ kr) fun W1 a2=>?_
 have a1:=Zb hc a2
 refine xc 0 (args:=#[.slice (S1 g) n n]) (Lr ⟨g,0,none⟩ n n (cs.map nv) _ (Zf a1) (by rw[List.length_map];exact hn) (nv_one _) (by omega)) ?_
 rintro _ W2 ⟨_,rfl,a3,q,c2,rfl,hq⟩
 have a0:=Zh hq a2.size
 have hB:=bln a2 a3
 exact xe 4 (.slice q n c2) ⟨_,rfl,hB,_,_,rfl,a0⟩
theorem refs_AddX(B br g n k:Nat)(cs:List Nat)(w:World)(kr:Blk w br [.slice (S1 g) n n] 304)(hBw:B≤w.heap.size)(hc:w.ownsRow B 3 1 (.slice (S1 g) n n) n (cs.map nv))(hn:cs.length=n)(hk:k<n)(hb:cs.getD k 0≤4000000000000000000) :
 C0 121 #[P0 br,V0 (k:Int)] w ((fun e w'=>e=.returned (.tuple #[V0 ((cs.getD k 0+1:Nat):Int),V0 0])∧Below B w w'∧Zd [3] w w'∧Fr [g] w w'∧w'.ownsRow B 3 1 (.slice (S1 g) n n) n ((Zg9 cs (k:Int)).map nv))):=by
 have a3:=Zau cs (k:Int)
 refine zin 37 Tryz.func121 ?_
 refine xg 21 [11,12] (decide ((k:Int)<(0:Int))) (fun a0=>?_) (fun a0=>?_)
 ·have a0:=of_decide_eq_true a0
  exact xe 21 (.tuple #[V0 0,V0 3]) (by exfalso;omega)
 have a0:=of_decide_eq_false a0
 refine xb 4 0 kr ?_
 refine xid 6 ((k:Int)≥(n:Int)) (fun a2=>?_) (fun a2=>?_)
 ·exact xe 9 (.tuple #[V0 0,V0 3]) (by exfalso;omega)
 refine xb 8 0 kr ?_
 refine xx 1 _ n k 1 (Nh (Zf hc) (k:=k) (by omega)).1 ?_
 refine xl 0 ((Nh (Zf hc) (k:=k) (by omega)).2) ?_
 refine xwm 0 ((↑(cs.getD k 0):Int)+1) (↑((cs.getD k 0)+1):Int) ?_
 refine xx 0 _ n k 1 (Nh (Zf hc) (k:=k) (by omega)).1 ?_
 refine xst 0 fun _ _ _ _ zJ zQ zo zx zy zK=>Ur (t:=3) (k:=k) (v:=V0 (↑((cs.getD k 0)+1):Int)) zo zx zy (by kernel_rfl) rfl hc (by omega) fun W3 u3 o3=>?_
 rw[nv_bump cs k] at o3
 refine zK _ _ ?_
 have a1:=u3.blk kr (Cc kr hc (by decide))
 refine xb 7 0 a1 ?_
 refine xx 1 _ n k 1 (Nh (Zf o3) (k:=k) (by omega)).1 ?_
 refine xl 0 ((Nh (Zf o3) (k:=k) (by omega)).2) ?_
 have hB:=u3.below (Below.refl B w) (Dr hc)
 have hO:=(show Zd [3] w _ from(Zd.of_updRow u3 hc (by decide)))
 have hX:=(show Fr [g] w _ from(Fr.of_upd u3 (by simp)))
 exact xe 5 (.tuple #[V0 (↑((Zg9 cs (k:Int)).getD k 0):Int),V0 0]) ⟨by rw[bump_get (by omega)],hB,hO,hX,o3⟩
theorem maps_seq(B1:Nat)(p:O0)(n c:Nat)(t u v x:Int)(Z:List Zv)(w w0:World)(hZ:Z.length=n)(hP:DevsR w p c Z)(hn:n≤1000000000)(hW:B3 w w0)(q:Nat→Prop)(hq:∀ b,b<w.heap.size→q b)(hqlt:∀ b,q b→b<w0.heap.size)(hk1:Blk w0 B1 [V0 t,V0 u,V0 v,V0 x,.slice p n c] 28) :
  SeqB Tryz.prog 192 #[P0 B1] encM (Keeps q) (Hb 0 (Z.map Prod.fst)) w0:=fun l J Jx W hw hJ hY h0 =>
 maps1_in l B1 p n c t u v x Z w hZ hP hn q hq J Jx hJ hY W (bln hW hw) (fun b hb=>Nat.lt_of_lt_of_le (hqlt b hb) hw.size) (hk1.below hw) h0
theorem frg_ko{g:Nat}{W V:World}{cs:List Value}{t:TypeId}(h:Fr [g] W V)(k:Blk W g cs t):KeepsOthers W V:=⟨h.size,fun i o hi ho=>(h.block i (Array.getElem?_eq_some_iff.1 hi).1 (by
 simp only[List.mem_singleton]
 rintro rfl
 rw[show W.heap[i]? = _ from k] at hi
 cases hi;cases ho)).trans hi⟩
theorem frg_keeps{p:Nat→Prop}{g:Nat}{W V:World}(h:Fr [g] W V)(hp:∀ b,p b→b<W.heap.size)(hg:¬ p g):Keeps p W V:=⟨h.size,fun b hb=>h.block b (hp b hb) (by simp only[List.mem_singleton];rintro rfl;exact hg hb)⟩
theorem pool_maps(t u v x:Int)(p:O0)(n c:Nat)(w:World) :
 C0 120 #[.agg #[V0 t,V0 u,V0 v,V0 x,.slice p n c]] w (Vo (fun w' r=>∃ b,r=.func (.func 192) #[] #[P0 b]∧w.heap.size≤b∧Blk w' b [V0 t,V0 u,V0 v,V0 x,.slice p n c] 28) w):=by
 refine zin 4 Tryz.func120 ?_
 refine xa 2 [V0 t,V0 u,V0 v,V0 x,.slice p n c] 28 fun b1 W1 n1=>?_
 exact xe 10 (.func (.func 192) #[] #[P0 b1]) ⟨_,rfl,n1.below,b1,rfl,(n1.ge (B4 w)),n1.blk⟩
theorem Ld(p:O0)(c n x:Nat)(t u v:Int)(Z:List Zv)(w:World)(hZ:Z.length=n)(hP:DevsR w p c Z)(hk:PoolOk t u v (x:Int) (Z.map Prod.fst)) :
 C0 68 #[.agg #[V0 t,V0 u,V0 v,V0 (x:Int),.slice p n c]] w (Vo (fun w' r=>∃ q d,r=.slice q x d∧w'.ownsRow w.heap.size 3 1 (.slice q x d) x ((Jv x (Z.map Prod.fst)).map nv)) w):=by
 have hx:x≤65536:=by have:=hk.hdata;omega
 have d3:n≤1000000000:=by have:=hk.devs.few;rw[List.length_map] at this;omega
 have a3:=Zfq hk.devs 0
 have d1:=hk.devs.sum
 refine Qr Tryz.func68 rfl ?_
 refine Zet ⟨#[.agg #[V0 t,V0 u,V0 v,V0 (x:Int),.slice p n c],undef,undef,undef,undef,undef,undef,undef,undef,undef,undef,undef,undef,undef,undef,undef,undef,undef,undef,undef,undef,undef,undef,undef,undef,undef],[]⟩ (by kernel_rfl) ?_
 refine wp_seq ?_
 refine wp_region_lit ?_
 refine Xx (by kernel_rfl) (Dj [V0 t,V0 u,V0 v,V0 (x:Int),.slice p n c] rfl (by kernel_rfl) ?_)
 intro b1 W1 n1
 have g1:=n1.ge (B4 w)
 have hB:=n1.below
 have k1:=n1.blk
 refine Yy 1 [(2,S0)] (by kernel_rfl) ?_
 refine wpList_nil ?_
 refine wp_seq ?_
 refine wp_seq ?_
 refine wp_region_lit ?_
 refine Xx (by kernel_rfl) (Ux (b:=b1) (off:=0) [V0 t,V0 u,V0 v,V0 (x:Int),.slice p n c] _ rfl (by kernel_rfl) Tryz.underlying28 rfl (by kernel_rfl) k1.whole ?_)
 refine Xx (by kernel_rfl) (Yd (lb:=#[]) 33 #[.agg #[V0 t,V0 u,V0 v,V0 (x:Int),.slice p n c]] rfl (by kernel_rfl) (fun _ _=>by kernel_rfl) (by kernel_rfl) ((Bu p c n t u v (x:Int) Z _ hZ (hP.below hB)).mono ?_))
 rintro e W2 ⟨rfl,c2⟩
 refine⟨_,rfl,?_⟩
 replace hB:=bln hB c2
 replace k1:=k1.below c2
 refine Yy 1 [(9,.bool ((Gq t u v (x:Int) (Z.map Prod.fst)) != (0:Int)))] (by kernel_rfl) ?_
 refine wpList_nil ?_
 refine wp_cond_split (t:=((Gq t u v (x:Int) (Z.map Prod.fst)) != (0:Int))) (by kernel_rfl) (fun hh=>absurd (hh.symm.trans (show(((Gq t u v (x:Int) (Z.map Prod.fst)) != (0:Int)):Bool)=false from by rw[Oa.2 hk];rfl)) (by decide)) (fun _=>?_)
 refine wp_skip ?_
 refine wp_seq ?_
 refine wp_region_lit ?_
 refine Yy 1 [(11,.pointer (some ⟨b1,3,none⟩))] (by kernel_rfl) ?_
 refine Xx (by kernel_rfl) (Xr ⟨b1,3,none⟩ (V0 (x:Int)) rfl (by kernel_rfl) (by kernel_rfl) (k1.cell (i:=3) rfl) ?_)
 have c8:=hB.size
 have d2:w.heap.size≤(W2).heap.size:=hB.size
 refine Xx (by kernel_rfl) (Yd (lb:=#[]) 119 #[V0 (x:Int)] rfl (by kernel_rfl) (fun _ _=>by kernel_rfl) (by kernel_rfl) ((refs_NewI x _ hx).mono ?_))
 rintro e W4 ⟨_,rfl,c1,br,g,rfl,c3,a1,hc⟩
 refine⟨_,rfl,?_⟩
 replace hB:=bln hB c1
 replace k1:=k1.below c1
 replace hc:=Zh hc d2
 replace c3:=Nat.le_trans c8 c3
 refine Yy 3 [(10,.tuple #[P0 br,V0 0]),(14,P0 br),(15,V0 0)] (by kernel_rfl) ?_
 refine Xx (by kernel_rfl) (Yt [.pointer none] rfl (by kernel_rfl) ?_)
 intro b5 W5 n5
 have a4:=n5.ne k1
 have a5:=n5.ne a1
 have g5:=n5.ge hB
 replace hB:=bln hB n5.below
 replace k1:=k1.below n5.below
 replace a1:=a1.below n5.below
 replace hc:=Zb hc n5.below
 have k5:=n5.blk
 refine Xx (by kernel_rfl) (Xf (v:=P0 br) (b:=b5) (off:=0) rfl (by kernel_rfl) (by kernel_rfl) (by kernel_rfl) rfl k5 (by first|decide|simp) ?_)
 intro W6 u6 k6
 change Blk _ _ [P0 br] _ at k6
 replace hB:=u6.below hB g5
 replace k1:=u6.blk k1 (Ne.symm (Ne.symm a4))
 replace a1:=u6.blk a1 (Ne.symm (Ne.symm a5))
 replace hc:=u6.own2 hc k5 (by decide)
 refine Yy 1 [(4,V0 0)] (by kernel_rfl) ?_
 refine wpList_nil ?_
 refine wp_seq ?_
 refine wp_seq ?_
 refine wp_region_lit ?_
 refine Xx (by kernel_rfl) (Ux (b:=b1) (off:=0) [V0 t,V0 u,V0 v,V0 (x:Int),.slice p n c] _ rfl (by kernel_rfl) Tryz.underlying28 rfl (by kernel_rfl) k1.whole ?_)
 have d0:=hB.size
 refine Xx (by kernel_rfl) (Yd (lb:=#[]) 120 #[.agg #[V0 t,V0 u,V0 v,V0 (x:Int),.slice p n c]] rfl (by kernel_rfl) (fun _ _=>by kernel_rfl) (by kernel_rfl) ((pool_maps t u v (x:Int) p n c _).mono ?_))
 rintro e W7 ⟨_,rfl,a6,bm,rfl,c4,c6⟩
 refine⟨_,rfl,?_⟩
 replace hB:=bln hB a6
 replace k1:=k1.below a6
 replace a1:=a1.below a6
 replace k6:=k6.below a6
 replace hc:=Zb hc a6
 replace c4:=Nat.le_trans d0 c4
 refine wpList_nil ?_
 refine wp_block ?_
 have b4:=hB
 have a9:w.heap.size≤W7.heap.size:=b4.size
 have m3:=k6
 have mr:=a1
 have mm:=c6
 have mc:=hc
 have d4:w.heap.size≤g∧g<W7.heap.size:=mc.lt g rfl
 have hq:=maps_seq bm p n c t u v (x:Int) Z w W7 hZ hP d3 b4 (fun b=>b<w.heap.size) (fun b h=>h) (fun b h=>Nat.lt_of_lt_of_le h a9) mm
 refine Zet ⟨#[.agg #[V0 t,V0 u,V0 v,V0 (x:Int),.slice p n c],P0 b1,S0,P0 b5,V0 0,undef,undef,.agg #[V0 t,V0 u,V0 v,V0 (x:Int),.slice p n c],V0 (Gq t u v (x:Int) (Z.map Prod.fst)),.bool ((Gq t u v (x:Int) (Z.map Prod.fst)) != (0:Int)),.tuple #[P0 br,V0 0],.pointer (some ⟨b1,3,none⟩),V0 (x:Int),.tuple #[P0 br,V0 0],P0 br,V0 0,.agg #[V0 t,V0 u,V0 v,V0 (x:Int),.slice p n c],.func (.func 192) #[] #[P0 bm],undef,undef,undef,undef,undef,undef,undef,undef],[]⟩ (by kernel_rfl) ?_
 refine wp_rangeD (g:=.tmp 17) (gf:=192) (lb:=#[P0 bm]) rfl (enters_of Tryz.func192 (by kernel_rfl) rfl) (fun b=>b<w.heap.size) (fun b h=>Nat.lt_of_lt_of_le h a9) hq (fun _=>rfl)
  (fun k V=>B3 w V∧Blk V b5 [P0 br] 222∧Blk V br [.slice (S1 g) x x] 304∧V.ownsRow w.heap.size 3 1 (.slice (S1 g) x x) x ((Eg (List.replicate x 0) ((Hb 0 (Z.map Prod.fst)).take k)).map nv))
  (fun _ _ _=>False) ?bel ?own (fun _ _ _ _ _ h _ _=>h.elim) ⟨b4,m3,mr,mc⟩
  (fun y a' V=>∃ b6,a'={ tmps:=#[.agg #[V0 t,V0 u,V0 v,V0 (x:Int),.slice p n c],P0 b1,S0,P0 b5,V0 0,undef,P0 b6,.agg #[V0 t,V0 u,V0 v,V0 (x:Int),.slice p n c],V0 (Gq t u v (x:Int) (Z.map Prod.fst)),.bool ((Gq t u v (x:Int) (Z.map Prod.fst)) != (0:Int)),.tuple #[P0 br,V0 0],.pointer (some ⟨b1,3,none⟩),V0 (x:Int),.tuple #[P0 br,V0 0],P0 br,V0 0,.agg #[V0 t,V0 u,V0 v,V0 (x:Int),.slice p n c],.func (.func 192) #[] #[P0 bm],V0 (y.1:Int),.agg #[V0 y.2.1,V0 y.2.2.1,V0 y.2.2.2],undef,undef,undef,undef,undef,undef],defers:=[] }∧Blk V b6 [V0 y.2.1,V0 y.2.2.1,V0 y.2.2.2] 46) ?two ?assign ?body ?done (fun _ _ _ _ _ _ h _=>h.elim)
 case bel=>exact fun k A B h hb=>⟨bln h.1 hb,h.2.1.below hb,h.2.2.1.below hb,Zb h.2.2.2 hb⟩
 case own=>exact fun k A B d5 h hg hr=>⟨Iy (q:=fun _=>False) h.1 hg (fun r e=>.inr (hr r e)) (Nat.le_refl _) a9 (fun _ q=>q.elim),Zbn (q:=fun _=>False) (m:=W7.heap.size) h.2.1 hg (fun r e=>.inr (hr r e)) (fun _ q=>q.elim),Zbn (q:=fun _=>False) (m:=W7.heap.size) h.2.2.1 hg (fun r e=>.inr (hr r e)) (fun _ q=>q.elim),own_ab (q:=fun _=>False) (m:=W7.heap.size) h.2.2.2 hg (fun r e=>.inr (hr r e)) (fun _ q=>q.elim)⟩
 case two=>exact fun y a' A B d5 ⟨b6,ha,h6⟩ hg hr=>⟨b6,ha,Zbn (q:=fun _=>False) (m:=W7.heap.size) h6 hg (fun r e=>.inr (hr r e)) (fun _ q=>q.elim)⟩
 case assign =>
  rintro lr k y W K hy hI hK
  refine Zca { tmps:=#[.agg #[V0 t,V0 u,V0 v,V0 (x:Int),.slice p n c],P0 b1,S0,P0 b5,V0 0,undef,undef,.agg #[V0 t,V0 u,V0 v,V0 (x:Int),.slice p n c],V0 (Gq t u v (x:Int) (Z.map Prod.fst)),.bool ((Gq t u v (x:Int) (Z.map Prod.fst)) != (0:Int)),.tuple #[P0 br,V0 0],.pointer (some ⟨b1,3,none⟩),V0 (x:Int),.tuple #[P0 br,V0 0],P0 br,V0 0,.agg #[V0 t,V0 u,V0 v,V0 (x:Int),.slice p n c],.func (.func 192) #[] #[P0 bm],V0 (y.1:Int),.agg #[V0 y.2.1,V0 y.2.2.1,V0 y.2.2.2],undef,undef,undef,undef,undef,undef],defers:=[] } (by kernel_rfl) ?_
  refine Vf (fun⟨_,_,q⟩=>q) (by simp) ?_
  refine Xx (by kernel_rfl) (Yt [V0 0,V0 0,V0 0] rfl (by kernel_rfl) ?_)
  intro b8 W8 n8
  have g8:=n8.ge (B4 W)
  have hB:=n8.below
  have k8:=n8.blk
  refine Xx (by kernel_rfl) (Vu (b:=b8) (off:=0) [V0 y.2.1,V0 y.2.2.1,V0 y.2.2.2] rfl (by kernel_rfl) (by kernel_rfl) (by kernel_rfl) (by first|decide|simp[Value.oneCell']) k8 (by first|decide|simp) ?_)
  intro W9 u9 k9
  change Blk _ _ [V0 y.2.1,V0 y.2.2.1,V0 y.2.2.2] _ at k9
  replace hB:=u9.below hB g8
  refine wpList_nil ?_
  exact hK _ _ hB ⟨_,rfl,k9⟩
 case body =>
  rintro lr k y a' W d8 hy ⟨a8,n3,nr,nc⟩ ⟨b6,rfl,n6⟩
  have b9:w.heap.size≤W.heap.size:=a8.size
  obtain⟨d7,d6⟩:=a3 y (List.mem_of_getElem? hy)
  obtain⟨j,hj⟩:∃ j:Nat,y.2.2.1=(j:Int):=⟨y.2.2.1.toNat,by omega⟩
  have c7:(Eg (List.replicate x 0) ((Hb 0 (Z.map Prod.fst)).take k)).length=x:=by rw[Zcc,List.length_replicate]
  have e2:=Sv (Eg (List.replicate x 0) ((Hb 0 (Z.map Prod.fst)).take k)) j
  have c0:=Zbu (data:=x) ((Hb 0 (Z.map Prod.fst)).take k) (fun z hz=>a3 z (List.mem_of_mem_take hz)) (List.replicate x 0) List.length_replicate
  rw[List.sum_replicate_nat,List.length_take] at c0
  have c9:=Nat.min_le_right k (Hb 0 (Z.map Prod.fst)).length
  rw[Rk] at c9 c0
  rw[hj] at n6
  obtain⟨cg,kg⟩:=Ro nc
  refine wpIn_block ?_
  refine Vf (fun⟨_,_,q⟩=>q) (by simp) ?_
  refine Xx (by kernel_rfl) (Xr ⟨b5,0,none⟩ (P0 br) rfl (by kernel_rfl) (by kernel_rfl) (n3.cell (i:=0) rfl) ?_)
  refine Yy 1 [(21,.pointer (some ⟨b6,1,none⟩))] (by kernel_rfl) ?_
  refine Xx (by kernel_rfl) (Xr ⟨b6,1,none⟩ (V0 (j:Int)) rfl (by kernel_rfl) (by kernel_rfl) (n6.cell (i:=1) rfl) ?_)
  refine Xx (by kernel_rfl) (Yd (lb:=#[]) 121 #[P0 br,V0 (j:Int)] rfl (by kernel_rfl) (fun _ _=>by kernel_rfl) (by kernel_rfl) ((refs_AddX w.heap.size br g x j (Eg (List.replicate x 0) ((Hb 0 (Z.map Prod.fst)).take k)) _ nr (Nat.le_trans b9 (Below.refl w.heap.size _).size) nc c7 (by omega) (by omega)).mono ?_))
  rintro e e0 ⟨rfl,b0,a2,b7,b3⟩
  refine⟨_,rfl,?_⟩
  have hX:Fr [g] W _:=b7
  have hB:=b0
  replace n3:=n3.only a2 (by decide)
  replace nr:=nr.only a2 (by decide)
  replace n6:=n6.only a2 (by decide)
  refine wpList_nil ?_
  exact⟨(frg_ko hX kg).from _,frg_keeps hX (fun b hb=>Nat.lt_of_lt_of_le hb b9) (Nat.not_lt.2 d4.1),a8.trans hB,n3,nr,by rw[refsF_take _ _ hy,hj];exact b3⟩
 case done =>
  rintro D W hD ⟨a8,n3,nr,nc⟩ c5
  have hK:Dfr D W:=c5;clear c5
  rw[List.take_of_length_le (Nat.le_refl _)] at nc
  refine Ou ?_
  have hB:=a8
  refine wp_seq ?_
  refine wp_region_lit ?_
  refine Xx (by kernel_rfl) (Xr ⟨b5,0,none⟩ (P0 br) rfl (by kernel_rfl) (by kernel_rfl) (n3.cell (i:=0) rfl) ?_)
  have b2:w.heap.size≤(W).heap.size:=hB.size
  refine Xx (by kernel_rfl) (Yd (lb:=#[]) 122 #[P0 br] rfl (by kernel_rfl) (fun _ _=>by kernel_rfl) (by kernel_rfl) ((refs_List br g x w.heap.size (Jv x (Z.map Prod.fst)) _ nr nc (Kk _ _) (by omega)).mono ?_))
  rintro e e1 ⟨_,rfl,a0,q9,d9,rfl,a7⟩
  refine⟨_,rfl,?_⟩
  replace hB:=bln hB a0
  replace n3:=n3.below a0
  replace nr:=nr.below a0
  replace nc:=Zb nc a0
  replace hK:=hK.below a0
  replace a7:=Zh a7 b2
  refine Yy 1 [(2,.slice q9 x d9)] (by kernel_rfl) ?_
  refine wpList_nil ?_
  refine wp_ret ?_
  exact Aw hK (.slice q9 x d9) (by kernel_rfl) (by kernel_rfl) ⟨_,rfl,(Upd.of_put _ _ _).below hB (Nat.le_trans a9 hD),_,_,rfl,(Upd.of_put _ _ _).own3 a7 (hK.row a7)⟩
end Go.Proofs.YtceeiinepijokaaGreat
namespace Go.Proofs.YtceeiinepijokaaGreat
set_option maxHeartbeats 8000000
set_option maxRecDepth 100000
open Go.RowKit
set_option linter.unusedVariables false
attribute [local go_sem] Oper.semAt_some
def encK(b off n:Nat)(j:Fin (bmN n)):Array Value:=#[.slice (some ⟨b,off+j.val*960,none⟩) (min 960 (n-j.val*960)) (min 960 (n-j.val*960))]
theorem chunk1_in(l B1 B2:Nat)(p:Nat→Prop)(b off n cap:Nat)(hlen:n≤1000000)(hcap:n≤cap)(hB1:p B1)(hB2:p B2)(J Jx:List (Fin (bmN n))→World→Prop)
  (hY:∀ pre x W,J pre W→pre.length<bmN n→YieldAt Fence.wide 2 Tryz.prog l (encK b off n x) W fun e W' =>
   (e=.returned (.bool true)∧J (pre++[x]) W'∧Keeps p W W')∨(e=.returned (.bool false)∧Jx (pre++[x]) W'))
  (W:World) (hck:W.cell? ⟨B1,0,none⟩=some (.slice (some ⟨b,off,none⟩) n cap)) (hcn:W.cell? ⟨B2,0,none⟩=some (V0 960)) (hJa:AbidesFrom W.heap.size J) (h0:J [] W) :
  CallsIn Fence.wide 3 Tryz.prog 227 #[.func (.yield l) #[] #[],P0 B1,P0 B2] W fun e W'=>(∃ v,e=.returned v) ∧
   ((∃ ys,ys=List.finRange (bmN n)∧J ys W')∨(∃ pre,(∃ k,k≤bmN n∧pre=(List.finRange (bmN n)).take k)∧Jx pre W')):=by
 refine callsIn_of_wp Tryz.func227 rfl trivial ?_ rfl
 simp only[Tryz.ntmps227,List.size_toArray,List.length_cons,List.length_nil,Nat.reduceAdd,Nat.reduceSub,Array.replicate_succ,Array.replicate_zero,List.push_toArray,List.append_toArray,List.nil_append,List.cons_append]
 gi_wp2
 gi_loopw [4] (fun i wr=>∃ k:Nat,k≤bmN n∧i=V0 ((k*960:Nat):Int)∧J ((List.finRange (bmN n)).take k) wr∧Keeps p W wr)
  (fun i _=>(n-(intOf i)).toNat)
 case atStart=>exact⟨0,Nat.zero_le _,by simp,h0,Keeps.refl _ _⟩
 case round =>
  obtain⟨k,hk,rfl,a0,a2⟩:=hrel
  have a8:=(a2.cell (a:=⟨B1,0,none⟩) hB1).trans hck
  have a4:=(a2.cell (a:=⟨B2,0,none⟩) hB2).trans hcn
  by_cases hlt:k<bmN n
  ·have b5:=bmN_lt hlt
   gi_wp2
   gi_big_quiet_th (fail)
   obtain⟨fn,a6,a3,b0,hy,hR⟩:=hY _ ⟨k,hlt⟩ (wr.drewN nq) (hJa _ wr _ none a0 ⟨rfl,rfl,rfl,Nat.le_refl _,fun _ _ _=>rfl⟩ (fun _ e=>by cases e)) (by rw[Ho hk];exact hlt)
   have hE:encK b off n ⟨k,hlt⟩=#[.slice (some ⟨b,off+k*960,none⟩) (min 960 (n-k*960)) (min 960 (n-k*960))]:=rfl
   rw[hE] at hy
   have HE:=Lib.hid hE;clear hE
   first|rw[show(if((n-k*960:Nat):Int)<960 then((n-k*960:Nat):Int) else 960)=((min 960 (n-k*960):Nat):Int) from by split<;>omega]|rw[show(min 960 ((n-k*960:Nat):Int):Int)=((min 960 (n-k*960):Nat):Int) from by omega]
   obtain⟨m,hm⟩:∃ m,min 960 (n-k*960)=m:=⟨_,rfl⟩
   rw[hm] at hy ⊢
   have b4:k*960+m≤n:=by omega
   have b1:k*960+m≤cap:=by omega
   have b3:k*960+m-k*960=m:=by omega
   gi_wp2
   refine hR.mono ?_
   rintro e W3 (⟨rfl,a7,a5⟩|⟨rfl,a1⟩)
   ·have a9:W3.cell? ⟨B2,0,none⟩=some (V0 960):=(a5.cell (a:=⟨B2,0,none⟩) hB2).trans a4
    gi_wp2
    go_roundw
    case rel =>
     refine⟨k+1,by omega,?_,by rw[Vl hlt];exact a7,(a2.trans (show Keeps p wr (wr.drewN nq) from⟨Nat.le_refl _,fun _ _=>rfl⟩)).trans a5⟩
     exact congrArg V0 (by omega)
    case measure=>simp only[intOf];omega
   ·gi_wp2
    refine bodyPost_ret (results_none rfl _ _ _) rfl ?_
    exact⟨⟨_,rfl⟩,.inr ⟨_,⟨k+1,by omega,by rw[Vl hlt]⟩,a1⟩⟩
  ·obtain rfl:k=bmN n:=by omega
   have b2:=bmN_done (n:=n) rfl
   have b6:¬ (((bmN n*960:Nat):Int)<(n:Int)):=by omega
   rw[Wz] at a0
   have HJ:=Lib.hid a0;clear a0
   gi_wp2
   go_end0
   exact⟨⟨_,rfl⟩,.inl HJ.out⟩
theorem Zah{α:Type}(l B1 B2:Nat)(J:List α→World→Prop)(W:World){a0:O0}{c0:Nat}(hck:W.cell? ⟨B1,0,none⟩=some (.slice a0 0 c0))(h0:J [] W) :
 CallsIn Fence.wide 3 Tryz.prog 227 #[.func (.yield l) #[] #[],P0 B1,P0 B2] W fun e W'=>(∃ v,e=.returned v)∧J [] W':=by
 refine callsIn_of_wp Tryz.func227 rfl trivial ?_ rfl
 simp only[Tryz.ntmps227,List.size_toArray,List.length_cons,List.length_nil,Nat.reduceAdd,Nat.reduceSub,Array.replicate_succ,Array.replicate_zero,List.push_toArray,List.append_toArray,List.nil_append,List.cons_append]
 gi_wp2
 gi_loopw [4] (fun i wr=>i=V0 0∧J [] wr∧wr.cell? ⟨B1,0,none⟩=some (.slice a0 0 c0)) (fun _ _=>0)
 case atStart=>exact⟨rfl,h0,hck⟩
 case round =>
  obtain⟨rfl,a1,a2⟩:=hrel
  have HJ:=Lib.hid a1;clear a1
  gi_wp2
  go_end0
  exact⟨⟨_,rfl⟩,HJ.out⟩
theorem Zfn(B1 B2:Nat)(p:Nat→Prop)(b off n cap:Nat)(v:Value)(w:World)(hp:∀ b,p b→b<w.heap.size)(h1:p B1)(h2:p B2)(hlen:n≤1000000)(hv:(n=0∧∃ a c,v=.slice a 0 c)∨v=.slice (some ⟨b,off,none⟩) n cap∧n≤cap)(hck:w.cell? ⟨B1,0,none⟩=some v)(hcn:w.cell? ⟨B2,0,none⟩=some (V0 960)) :
  SeqStopsK Fence.wide 3 Tryz.prog 227 #[P0 B1,P0 B2] (encK b off n) (Keeps p)
   (fun ys=>ys=List.finRange (bmN n)) (fun pre=>∃ k,k≤bmN n∧pre=(List.finRange (bmN n)).take k) (bmN n) w:=fun l J Jx W hW a3 _ hY h0=>by
 have a0:=Cu hW hck
 have a1:=Cu hW hcn
 rcases hv with ⟨rfl,a,c,rfl⟩|⟨rfl,a2⟩
 ·exact(Zah l B1 B2 J W a0 h0).mono fun e W' ⟨he,hj⟩=>⟨he,.inl ⟨_,rfl,hj⟩⟩
 ·exact chunk1_in l B1 B2 p b off n cap hlen a2 h1 h2 J Jx hY W a0 a1 a3 h0
end Go.Proofs.YtceeiinepijokaaGreat
namespace Go.Proofs.YtceeiinepijokaaGreat
set_option maxHeartbeats 8000000
set_option maxRecDepth 100000
open Go.RowKit Go.Extern.Stop Go.Stop Go.Extern
set_option linter.unusedVariables false
attribute [local irreducible] wpList wpAnyH Code.wp Oper.wp Go
theorem Zb9(p:O0)(n c:Nat)(w:World) :
 C0 183 #[.slice p n c,V0 960] w (fun e w'=>∃ b1 b2,e=.returned (.func (.func 227) #[] #[P0 b1,P0 b2])∧B3 w w'∧w.heap.size≤b1∧w.heap.size≤b2∧b1≠b2∧Blk w' b1 [.slice p n c] 35∧Blk w' b2 [V0 960] 3):=by
 refine zin 9 Tryz.func183 ?_
 refine xa 2 [.slice p n c] 35 fun b1 W1 n1=>?_
 refine xa 0 [V0 960] 3 fun b2 W2 n2=>?_
 refine xb 6 0 n2.blk ?_
 have k1:=n1.blk.below n2.below
 have hB:=bln n1.below n2.below
 have g1:=n1.ge (B4 w)
 have g2:=n2.ge n1.below
 exact xe 13 (.func (.func 227) #[] #[P0 b1,P0 b2]) ⟨_,_,rfl,hB,g1,g2,(Blk.tne k1 n2.blk (by decide)),k1,n2.blk⟩
end Go.Proofs.YtceeiinepijokaaGreat
namespace Go.Proofs.YtceeiinepijokaaGreat
set_option maxHeartbeats 8000000
set_option maxRecDepth 100000
open Go.RowKit
set_option linter.unusedVariables false
theorem Zhb{A B:World}{row:Option Nat}{base size n:Nat}{e:TypeId}{v:Value}{xs:List Value}(k:A.ownsRow base e size v n xs)(hg:A.grownBy B row)(hr:∀ r,row=some r→∃ o:Obj,A.heap[r]? = some o∧o.isCells=false):B.ownsRow base e size v n xs:=by
 obtain⟨h1,h2⟩:=k
 refine⟨h1,?_⟩
 rcases h2 with h2|⟨g,a1,a0,hv,hb,hh,r⟩
 ·exact Or.inl h2
 ·refine Or.inr ⟨g,a1,a0,hv,hb,?_,r⟩
  rw[hg.block g (Array.getElem?_eq_some_iff.1 hh).1 (fun q=>by
   obtain⟨o,ho,hc⟩:=hr g q.symm
   rw[hh] at ho
   cases ho
   cases hc)]
  exact hh
theorem Lists.turn{A B:World}{row:Option Nat}{base:Nat}{v:Value}{gs:List (Nat×Nat)}{L:List (List Int)}(h:Lists A base v gs L)(hg:A.grownBy B row)(hr:∀ r,row=some r→∃ o:Obj,A.heap[r]? = some o∧o.isCells=false):Lists B base v gs L:=⟨Zhb h.row hg hr,fun i hi=>Zhb (h.each i hi) hg hr⟩
structure RdZ(w0:World)(b:Nat)(W V:World):Prop where
 bb:BelowBut w0 b V
 ko:KeepsOthers W V
 fr:∀ k,k<w0.heap.size→k≠b→V.heap[k]? = W.heap[k]?
 le:W.heap.size≤V.heap.size
theorem RdZ.refl{w0 W:World}{b:Nat}(h:BelowBut w0 b W):RdZ w0 b W W:=⟨h,⟨Nat.le_refl _,fun _ _ h _=>h⟩,fun _ _ _=>rfl,Nat.le_refl _⟩
theorem RdZ.below{w0 W V U:World}{b:Nat}(h:RdZ w0 b W V)(hb:Below V.heap.size V U):RdZ w0 b W U :=
 ⟨h.bb.next hb,h.ko.trans (Gj hb),fun k hk hn=>(hb.block k (Nat.lt_of_lt_of_le hk h.bb.size)).trans (h.fr k hk hn),Nat.le_trans h.le hb.size⟩
theorem RdZ.upd{w0 W V U:World}{b:Nat}{cs:List Value}{t:TypeId}(h:RdZ w0 b W V)(u:Upd V b U)(k:Blk V b cs t):RdZ w0 b W U :=
 ⟨h.bb.upd u,h.ko.trans (Ik u k),fun k hk hn=>(u.block k hn).trans (h.fr k hk hn),Nat.le_trans h.le (Nat.le_of_eq u.size.symm)⟩
theorem RdZ.grown{w0 W V U:World}{b size n:Nat}{e:TypeId}{v:Value}{xs:List Value}(h:RdZ w0 b W V)(hg:V.grownBy U v.ownBlock)(k:V.ownsRow w0.heap.size e size v n xs):RdZ w0 b W U :=
 ⟨⟨hg.os.trans h.bb.os,hg.tape.trans h.bb.tape,hg.output.trans h.bb.output,Nat.le_trans h.bb.size hg.size,fun i hi hn=>(hg.block i (Nat.lt_of_lt_of_le hi h.bb.size) (fun e=>by have:=(k.lt i e.symm).1;omega)).trans (h.bb.block i hi hn)⟩,
  ⟨Nat.le_trans h.ko.size hg.size,fun i o hi ho=>by
   have h1:=h.ko.same i o hi ho
   rw[hg.block i (Array.getElem?_eq_some_iff.1 h1).1 (fun q=>by
    rcases k.2 with ⟨rfl,_⟩|⟨g,a1,a0,rfl,_,hh,_⟩
    ·cases q
    ·simp only[Value.ownBlock,Option.some.injEq] at q
     subst q
     rw[hh] at h1
     cases h1
     cases ho)]
   exact h1⟩,
  fun i hi hn=>(hg.block i (Nat.lt_of_lt_of_le hi h.bb.size) (fun e=>by have:=(k.lt i e.symm).1;omega)).trans (h.fr i hi hn),Nat.le_trans h.le hg.size⟩
theorem row_or{w:World}{base e n c:Nat}{p:O0}{xs:List Value}(k:w.ownsRow base e 1 (.slice p n c) n xs):∃ g,(n=0∧∃ a c',Value.slice p n c=.slice a 0 c')∨Value.slice p n c=.slice (S1 g) n c∧n≤c:=by
 rcases k.2 with ⟨h,_⟩|⟨g,a1,a0,hv,_,_,hc,_⟩
 ·simp only[Value.slice.injEq] at h
  exact⟨0,.inl ⟨h.2.1,none,0,by rw[h.1,h.2.1,h.2.2]⟩⟩
 ·simp only[Value.slice.injEq] at hv
  obtain⟨rfl,_,rfl⟩:=hv
  exact⟨g,.inr ⟨rfl,hc⟩⟩
def Each(w:World)(base:Nat)(gs:List (Nat×Nat))(L:List (List Int)):Prop:=∀ i,i<L.length→w.ownsRow base 3 1 (Za7 gs L i) (L.getD i []).length ((L.getD i []).map V0)
theorem Each.below{w W:World}{base:Nat}{gs:List (Nat×Nat)}{L:List (List Int)}(h:Each w base gs L)(hb:B3 w W):Each W base gs L:=fun i hi=>Zb (h i hi) hb
theorem Each.only{T:List TypeId}{w W:World}{base:Nat}{gs:List (Nat×Nat)}{L:List (List Int)}(h:Each w base gs L)(hO:Zd T w W)(hT:T.contains 3=false):Each W base gs L:=fun i hi=>Zi (h i hi) hO hT
theorem Zgo{gs:List (Nat×Nat)}{L:List (List Int)}{g c i:Nat}{ch:List Int}(hg:gs.length=L.length)(hi:i<L.length):Za7 (gs++[(g,c)]) (L++[ch]) i=Za7 gs L i:=by
 unfold Za7
 simp[List.getD,List.getElem?_append_left,hi,hg]
theorem Zg1{gs:List (Nat×Nat)}{L:List (List Int)}{g c:Nat}{ch:List Int}(hg:gs.length=L.length):Za7 (gs++[(g,c)]) (L++[ch]) L.length=.slice (S1 g) ch.length c:=by
 unfold Za7
 rw[show(gs++[(g,c)]).getD L.length (0,0)=(g,c) from by rw[←hg];simp[List.getD],show(L++[ch]).getD L.length []=ch from by simp[List.getD]]
theorem Lists.snoc{w:World}{base g c n:Nat}{v:Value}{gs:List (Nat×Nat)}{L:List (List Int)}{ch:List Int}(hn:n=L.length+1)(hrow:w.ownsRow base 35 1 v n ((List.range L.length).map (Za7 gs L)++[.slice (S1 g) ch.length c]))(he:Each w base gs L)(hnew:w.ownsRow base 3 1 (.slice (S1 g) ch.length c) ch.length (ch.map V0))(hg:gs.length=L.length):Lists w base v (gs++[(g,c)]) (L++[ch]):=by
 subst hn
 refine⟨?_,fun i hi=>?_⟩
 ·rw[show(L++[ch]).length=L.length+1 from by simp,List.range_succ,List.map_append]
  rw[show(List.range L.length).map (Za7 (gs++[(g,c)]) (L++[ch]))=(List.range L.length).map (Za7 gs L) from List.map_congr_left fun i hi=>Zgo hg (List.mem_range.1 hi),List.map_singleton,Zg1 hg]
  exact hrow
 ·by_cases h:i<L.length
  ·rw[Zgo hg h,show(L++[ch]).getD i []=L.getD i [] from by simp[List.getD,List.getElem?_append_left,h]]
   exact he i h
  ·obtain rfl:i=L.length:=by simp at hi;omega
   rw[Zg1 hg,show(L++[ch]).getD L.length []=ch from by simp[List.getD]]
   exact hnew
theorem Sl.midI{w:World}{g n c:Nat}{xs:List Value}(h:Sl w (.slice (S1 g) n c) n xs)(hl:xs.length=n)(k m:Nat)(hm:0<m)(hk:k+m≤n):Sl w (.slice (some ⟨g,0+k,none⟩) m m) m ((xs.drop k).take m):=by
 rcases h with ⟨a',c',h1,h2,h3⟩|⟨g',a0,a2,h1,h2,h3,h4⟩
 ·omega
 ·simp only[Value.slice.injEq,Option.some.injEq,Addr.mk.injEq] at h1
  obtain⟨⟨rfl,rfl,_⟩,_,rfl⟩:=h1
  refine .inr ⟨g,0+k,m,rfl,Nat.le_refl _,by omega,fun j x hj=>?_⟩
  have a1:j<m:=by
   rcases Nat.lt_or_ge j m with q|q
   ·exact q
   ·rw[List.getElem?_eq_none (by simp;omega)] at hj;cases hj
  rw[List.getElem?_take_of_lt a1,List.getElem?_drop] at hj
  have:=h4 (k+j) x hj
  rw[show 0+k+j=0+(k+j) from by omega]
  exact this
end Go.Proofs.YtceeiinepijokaaGreat
namespace Go.Proofs.YtceeiinepijokaaGreat
set_option maxHeartbeats 8000000
set_option maxRecDepth 100000
open Go.RowKit Go.Extern.Stop Go.Stop Go.Extern
set_option linter.unusedVariables false
attribute [local irreducible] wpList wpAnyH Code.wp Oper.wp Go
theorem Ze2(w:World) :
 C0 226 #[] w (Vo (fun w' r=>∃ b,r=.slice (S1 b) 1 1∧w.heap.size≤b∧Blk w' b [V0 4,V0 3,V0 2147483647] 268) w):=by
 refine zin 3 Tryz.func226 ?_
 refine xbs 8 1 [V0 4,V0 3,V0 2147483647] 268 fun b1 W1 n1=>?_
 have g1:=n1.ge (B4 w)
 exact xe 4 (.slice (S1 b1) 1 1) ⟨_,rfl,n1.below,_,rfl,g1,n1.blk⟩
theorem Fe(gl gn:Nat)(n:Int)(h1:3≤n)(h2:n≤2147483647)(w:World)(hl:Blk w gl [V0 4,V0 3,V0 2147483647] 268)(hn:Blk w gn [V0 n] 3) :
 C0 157 #[.slice (S1 gl) 1 1,.slice (S1 gn) 1 1] w (Ret (.string ⟨(leB n 4).toArray⟩) w):=by
 refine zin 51 Tryz.func157 ?_
 refine xu 19 2 ?_
 refine xlv 15 hl.rp ?_
 refine xa 0 [V0 0,V0 0,V0 0] 268 fun b1 W1 n1=>?_
 have a8:=n1.ne hl
 refine xsv 1 n1.blk [V0 4,V0 3,V0 2147483647] fun W2 u2 k2=>?_
 have g1:=n1.ge (B4 w)
 refine xd 4 .z ?_
 have a0:=(u2.blkT (hn.below n1.below) n1.blk (by decide)).below (Za W2)
 refine xb (.e [0,1,2] 3) 0 a0 ?_
 have a1:=k2.below (Za W2)
 refine xb (.e [4] 5) 1 a1 ?_
 refine xgk (.b [6,7]) [23,24] (show(decide (n<(3:Int)):Bool)=false from decide_eq_false (by omega)) ?_
 refine xb (.e [8,9,10] 11) 0 a0 ?_
 refine xb (.e [12] 13) 2 a1 ?_
 refine xk (.r [14,15] 2) (show(decide (n>(2147483647:Int)):Bool)=false from decide_eq_false (by omega)) ?_
 refine xd 3 .z ?_
 have a6:=a1.below (Za W2.drew)
 refine xb (.e [0] 1) 0 a6 ?_
 have a5:=a0.below (Za W2.drew)
 refine xb (.e [2,3,4] 5) 0 a5 ?_
 refine xbs (.o [6] 7) 1 [V0 4,V0 n] 235 fun b4 W4 n4=>?_
 refine yc (.o [] 8) (args:=#[.slice (S1 b4) 1 1]) .z (Da b4 n (by omega) (by omega) _ n4.blk) ?_
 rintro _ W5 ⟨_,rfl,a7,b2,a9,rfl,a3⟩
 have b0:=(bln (bln (bln (u2.below n1.below g1) (Za W2)) (Za W2.drew)) n4.below).size
 refine⟨a7,?_⟩
 have o6:=World.ownsRow_nil W5 w.heap.size 5 1
 have a2:=Zh a3 b0
 have hB:=bln (bln (bln (bln (u2.below n1.below g1) (Za W2)) (Za W2.drew)) n4.below) a7
 refine xbi (.r [9,10,11,12,13] 5) fun _ _ _ _ zJ zQ zo zx zy zK=>Xd (m:=4) (news:=(leB n 4).map bv) (.int .u8 0) 1 1 (4) ((leB n 4).map bv) zo Tryz.underlying22 (by kernel_rfl) rfl (by decide) zx o6 zy (Zf a2) (by simp[Zj]) (Qn _) (by unfold maxLen;omega) (by omega) hB.size (by rfl) (by simp) fun b6 b5 W7 o7 b7 b3=>?_
 refine zK _ _ ?_
 refine xcv0 24 (fun _ _ _ zo zx=>Nc zo zx (Qu (Zf o7) (by simp[Zj])) (by simp[Zj]) Tryz.underlying22 Tryz.underlying5 Tryz.underlying9) ?_
 have a4:=hB.trans b3
 exact xe 4 (.string ⟨(leB n 4).toArray⟩) ⟨rfl,a4⟩
theorem Zdu(n:Int)(h1:3≤n)(h2:n≤2147483647)(w:World) :
 C0 182 #[V0 n] w (Ret (.string ⟨(leB n 4).toArray⟩) w):=by
 refine zin 7 Tryz.func182 ?_
 refine xc 7 (args:=#[]) (Ze2 _) ?_
 rintro _ W1 ⟨_,rfl,a2,gl,rfl,gg,kl⟩
 refine xbs 1 1 [V0 n] 3 fun b2 W2 n2=>?_
 have a0:=kl.below n2.below
 refine xr 0 (args:=#[.slice (S1 gl) 1 1,.slice (S1 b2) 1 1]) (Fe gl b2 n h1 h2 _ a0 n2.blk) fun W3 a1=>?_
 have hB:=bln (bln a2 n2.below) a1
 exact xe 4 (.string ⟨(leB n 4).toArray⟩) ⟨rfl,hB⟩
theorem Ab(w:World) :
 C0 188 #[] w (Vo (fun w' r=>∃ b,r=.slice (S1 b) 3 3∧w.heap.size≤b∧Blk w' b [V0 8,V0 1,V0 14399,V0 4,V0 0,V0 960,V0 4,V0 0,V0 960] 268) w):=by
 refine zin 5 Tryz.func188 ?_
 refine xbs 10 3 [V0 8,V0 1,V0 14399,V0 4,V0 0,V0 960,V0 4,V0 0,V0 960] 268 fun b1 W1 n1=>?_
 have g1:=n1.ge (B4 w)
 exact xe 4 (.slice (S1 b1) 3 3) ⟨_,rfl,n1.below,_,rfl,g1,n1.blk⟩
theorem Ns(gl gn:Nat)(n f g:Int)(h1:1≤n)(h2:n≤14399)(h3:0≤f)(h4:f≤960)(h5:0≤g)(h6:g≤960)(w:World)(hl:Blk w gl [V0 8,V0 1,V0 14399,V0 4,V0 0,V0 960,V0 4,V0 0,V0 960] 268)(hn:Blk w gn [V0 n,V0 f,V0 g] 3) :
 C0 157 #[.slice (S1 gl) 3 3,.slice (S1 gn) 3 3] w (Ret (.string ⟨(leB n 8++leB f 4++leB g 4).toArray⟩) w):=by
 refine zin 51 Tryz.func157 ?_
 refine xu 19 4 ?_
 refine xlv 15 (hl.rpp 0 3) ?_
 refine xa 0 [V0 0,V0 0,V0 0] 268 fun b1 W1 n1=>?_
 have d9:=n1.ne hl
 refine xsv 1 n1.blk [V0 8,V0 1,V0 14399] fun W2 u2 k2=>?_
 have g1:=n1.ge (B4 w)
 refine xd 4 .z ?_
 have b0:=(u2.blkT (hn.below n1.below) n1.blk (by decide)).below (Za W2)
 refine xb (.e [0,1,2] 3) 0 b0 ?_
 have b9:=k2.below (Za W2)
 refine xb (.e [4] 5) 1 b9 ?_
 refine xgk (.b [6,7]) [23,24] (show(decide (n<(1:Int)):Bool)=false from decide_eq_false (by omega)) ?_
 refine xb (.e [8,9,10] 11) 0 b0 ?_
 refine xb (.e [12] 13) 2 b9 ?_
 refine xk (.r [14,15] 2) (show(decide (n>(14399:Int)):Bool)=false from decide_eq_false (by omega)) ?_
 refine xd 3 .z ?_
 have e1:=b9.below (Za W2.drew)
 refine xb (.e [0] 1) 0 e1 ?_
 have c8:=b0.below (Za W2.drew)
 refine xb (.e [2,3,4] 5) 0 c8 ?_
 refine xbs (.o [6] 7) 1 [V0 8,V0 n] 235 fun b4 W4 n4=>?_
 refine yc (.o [] 8) (args:=#[.slice (S1 b4) 1 1]) .z (Pack_8 b4 n (by omega) _ n4.blk) ?_
 rintro _ W5 ⟨_,rfl,c3,g6,i8,rfl,e6⟩
 have h0:=(bln (bln (bln (u2.below n1.below g1) (Za W2)) (Za W2.drew)) n4.below).size
 refine⟨c3,?_⟩
 have o6:=World.ownsRow_nil W5 w.heap.size 5 1
 have b2:=Zh e6 h0
 have hB:=bln (bln (bln (bln (u2.below n1.below g1) (Za W2)) (Za W2.drew)) n4.below) c3
 refine xbi (.r [9,10,11,12,13] 5) fun _ _ _ _ zJ zQ zo zx zy zK=>Xd (m:=8) (news:=(leB n 8).map bv) (.int .u8 0) 1 1 (8) ((leB n 8).map bv) zo Tryz.underlying22 (by kernel_rfl) rfl (by decide) zx o6 zy (Zf b2) (by simp[Zj]) (Qn _) (by unfold maxLen;omega) (by omega) hB.size (by rfl) (by simp) fun j8 i9 W7 o7 e2 i5=>?_
 refine zK _ _ ?_
 have c2:=(((((u2.blk (hl.below n1.below) (Ne.symm (Ne.symm d9))).below (Za W2)).below (Za W2.drew)).below n4.below).below c3).grown e2 o6 (by decide)
 refine xlv 24 (c2.rpp 3 3) ?_
 refine xa 0 [V0 0,V0 0,V0 0] 268 fun b8 W8 n8=>?_
 have c6:=n8.ne c2
 have d1:=((e1.below n4.below).below c3).grown e2 o6 (by decide)
 have c7:=n8.ne d1
 have c5:=hB.trans i5
 have g8:=n8.ge c5
 refine xsv 1 n8.blk [V0 4,V0 0,V0 960] fun W9 u9 k9=>?_
 refine xd 4 .z ?_
 have c1:=(u9.blkT ((((c8.below n4.below).below c3).grown e2 o6 (by decide)).below n8.below) n8.blk (by decide)).below (Za W9)
 refine xb (.e [0,1,2] 3) 1 c1 ?_
 have a7:=k9.below (Za W9)
 refine xb (.e [4] 5) 1 a7 ?_
 refine xgk (.b [6,7]) [23,24] (show(decide (f<(0:Int)):Bool)=false from decide_eq_false (by omega)) ?_
 refine xb (.e [8,9,10] 11) 1 c1 ?_
 refine xb (.e [12] 13) 2 a7 ?_
 refine xk (.r [14,15] 2) (show(decide (f>(960:Int)):Bool)=false from decide_eq_false (by omega)) ?_
 refine xd 3 .z ?_
 have d5:=a7.below (Za W9.drew)
 refine xb (.e [0] 1) 0 d5 ?_
 have c4:=c1.below (Za W9.drew)
 refine xb (.e [2,3,4] 5) 1 c4 ?_
 refine xbs (.o [6] 7) 1 [V0 4,V0 f] 235 fun g3 j9 a5=>?_
 have d3:=((u9.blkT (((n4.blk.below c3).grown e2 o6 (by decide)).below n8.below) n8.blk (by decide)).below (Za W9)).below (Za W9.drew)
 have f4:=a5.ne d3
 have a8:=bln (bln (u9.below (bln c5 n8.below) g8) (Za W9)) (Za W9.drew)
 have j1:=a5.ge a8
 refine yc (.o [] 8) (args:=#[.slice (S1 g3) 1 1]) .z (Da g3 f (by omega) (by omega) _ a5.blk) ?_
 rintro _ j5 ⟨_,rfl,a0,i6,i1,rfl,f3⟩
 have e5:=(bln a8 a5.below).size
 refine⟨a0,?_⟩
 have a1:=Zb (Zb (Zb (Zb (u9.own2 (Zb o7 n8.below) n8.blk (by decide)) (Za W9)) (Za W9.drew)) a5.below) a0
 have b6:=Zh f3 e5
 have d2:=bln (bln a8 a5.below) a0
 refine xbi (.r [9,10,11,12,13] 5) fun _ _ _ _ zJ zQ zo zx zy zK=>Xd (m:=4) (news:=(leB f 4).map bv) (.int .u8 0) 1 1 (12) ((leB n 8++leB f 4).map bv) zo Tryz.underlying22 (by kernel_rfl) rfl (by decide) zx a1 zy (Zf b6) (by simp[Zj]) (Qn _) (by unfold maxLen;omega) (by omega) d2.size (by rfl) (by simp) fun h7 h9 j3 g9 a3 f5=>?_
 refine zK _ _ ?_
 have d6:=(((((u9.blk (c2.below n8.below) (Ne.symm (Ne.symm c6))).below (Za W9)).below (Za W9.drew)).below a5.below).below a0).grown a3 a1 (by decide)
 refine xlv 24 (d6.rpp 6 3) ?_
 refine xa 0 [V0 0,V0 0,V0 0] 268 fun j2 j4 a2=>?_
 have g0:=a2.ne d6
 have f1:=(((((u9.blk (d1.below n8.below) (Ne.symm (Ne.symm c7))).below (Za W9)).below (Za W9.drew)).below a5.below).below a0).grown a3 a1 (by decide)
 have e9:=a2.ne f1
 have f9:=((d5.below a5.below).below a0).grown a3 a1 (by decide)
 have f7:=a2.ne f9
 have d4:=d2.trans f5
 have i3:=a2.ge d4
 refine xsv 1 a2.blk [V0 4,V0 0,V0 960] fun a4 e0 i0=>?_
 refine xd 4 .z ?_
 have b5:=(e0.blkT ((((c4.below a5.below).below a0).grown a3 a1 (by decide)).below a2.below) a2.blk (by decide)).below (Za a4)
 refine xb (.e [0,1,2] 3) 2 b5 ?_
 have a6:=i0.below (Za a4)
 refine xb (.e [4] 5) 1 a6 ?_
 refine xgk (.b [6,7]) [23,24] (show(decide (g<(0:Int)):Bool)=false from decide_eq_false (by omega)) ?_
 refine xb (.e [8,9,10] 11) 2 b5 ?_
 refine xb (.e [12] 13) 2 a6 ?_
 refine xk (.r [14,15] 2) (show(decide (g>(960:Int)):Bool)=false from decide_eq_false (by omega)) ?_
 refine xd 3 .z ?_
 have d7:=a6.below (Za a4.drew)
 refine xb (.e [0] 1) 0 d7 ?_
 have f6:=b5.below (Za a4.drew)
 refine xb (.e [2,3,4] 5) 2 f6 ?_
 refine xbs (.o [6] 7) 1 [V0 4,V0 g] 235 fun g2 j6 a9=>?_
 have e4:=((e0.blkT ((((d3.below a5.below).below a0).grown a3 a1 (by decide)).below a2.below) a2.blk (by decide)).below (Za a4)).below (Za a4.drew)
 have f0:=a9.ne e4
 have d8:=((e0.blkT (((a5.blk.below a0).grown a3 a1 (by decide)).below a2.below) a2.blk (by decide)).below (Za a4)).below (Za a4.drew)
 have e3:=a9.ne d8
 have b3:=bln (bln (e0.below (bln d4 a2.below) i3) (Za a4)) (Za a4.drew)
 have k0:=a9.ge b3
 refine yc (.o [] 8) (args:=#[.slice (S1 g2) 1 1]) .z (Da g2 g (by omega) (by omega) _ a9.blk) ?_
 rintro _ j0 ⟨_,rfl,b7,i2,g7,rfl,f2⟩
 have f8:=(bln b3 a9.below).size
 refine⟨b7,?_⟩
 have d0:=Zb (Zb (Zb (Zb (e0.own2 (Zb g9 a2.below) a2.blk (by decide)) (Za a4)) (Za a4.drew)) a9.below) b7
 have c0:=Zh f2 f8
 have c9:=bln (bln b3 a9.below) b7
 refine xbi (.r [9,10,11,12,13] 5) fun _ _ _ _ zJ zQ zo zx zy zK=>Xd (m:=4) (news:=(leB g 4).map bv) (.int .u8 0) 1 1 (16) ((leB n 8++leB f 4++leB g 4).map bv) zo Tryz.underlying22 (by kernel_rfl) rfl (by decide) zx d0 zy (Zf c0) (by simp[Zj]) (Qn _) (by unfold maxLen;omega) (by omega) c9.size (by rfl) (by simp) fun i4 i7 j7 h8 g5 e8=>?_
 refine zK _ _ ?_
 refine xcv0 24 (fun _ _ _ zo zx=>Nc zo zx (Qu (Zf h8) (by simp[Zj])) (by simp[Zj]) Tryz.underlying22 Tryz.underlying5 Tryz.underlying9) ?_
 have e7:=c9.trans e8
 exact xe 4 (.string ⟨(leB n 8++leB f 4++leB g 4).toArray⟩) ⟨rfl,e7⟩
theorem Hi(n f g:Int)(h1:1≤n)(h2:n≤14399)(h3:0≤f)(h4:f≤960)(h5:0≤g)(h6:g≤960)(w:World) :
 C0 117 #[.agg #[V0 n,V0 f,V0 g]] w (Ret (.string ⟨(leB n 8++leB f 4++leB g 4).toArray⟩) w):=by
 refine zin 12 Tryz.func117 ?_
 refine xa 2 [V0 n,V0 f,V0 g] 217 fun b1 W1 n1=>?_
 refine xd 4 .z ?_
 have k1:=n1.blk.below (Za W1)
 refine xb (.e [1] 2) 0 k1 ?_
 refine xb (.e [3] 4) 1 k1 ?_
 refine xb (.e [5] 6) 2 k1 ?_
 refine xm2 0 0 7 ?_ ?_
 ·refine yc 0 (args:=#[]) .z (Ab _) ?_
  rintro _ W2 ⟨_,rfl,a2,gl,rfl,gg,kl⟩
  refine⟨a2,?_⟩
  refine xbs (.o [] 7) 3 [V0 n,V0 f,V0 g] 3 fun b3 W3 n3=>?_
  have a0:=kl.below n3.below
  refine xr (.o [] 8) (args:=#[.slice (S1 gl) 3 3,.slice (S1 b3) 3 3]) (Ns gl b3 n f g h1 h2 h3 h4 h5 h6 _ a0 n3.blk) fun W4 a3=>?_
  have hB:=bln (bln (bln (bln n1.below (Za W1)) a2) n3.below) a3
  exact xe (.r [9] 3) (.string ⟨(leB n 8++leB f 4++leB g 4).toArray⟩) ⟨rfl,hB⟩
 refine xbs 0 3 [V0 n,V0 f,V0 g] 3 fun b5 W5 n5=>?_
 refine yc (.o [] 0) (args:=#[]) .z (Ab _) ?_
 rintro _ W6 ⟨_,rfl,a1,gl,rfl,gg,kl⟩
 refine⟨a1,?_⟩
 have k5:=n5.blk.below a1
 refine xr (.o [] 8) (args:=#[.slice (S1 gl) 3 3,.slice (S1 b5) 3 3]) (Ns gl b5 n f g h1 h2 h3 h4 h5 h6 _ kl k5) fun W7 a4=>?_
 have hB:=bln (bln (bln (bln n1.below (Za W1)) n5.below) a1) a4
 exact xe (.r [9] 3) (.string ⟨(leB n 8++leB f 4++leB g 4).toArray⟩) ⟨rfl,hB⟩
end Go.Proofs.YtceeiinepijokaaGreat
namespace Go.Proofs.YtceeiinepijokaaGreat
set_option maxHeartbeats 8000000
set_option maxRecDepth 100000
open Go.RowKit Go.Extern.Stop Go.Stop Go.Extern
set_option linter.unusedVariables false
attribute [local irreducible] wpList wpAnyH Code.wp Oper.wp Go
def SplitP(l:List Int)(w:World)(e:Ending)(w':World):Prop :=
 (Jd l≠0∧e=.returned (.tuple #[S0,S0,V0 2])∧B3 w w') ∨
 (Jd l=0∧∃ pb cb gs po co,e=.returned (.tuple #[.slice pb (bmN l.length) cb,.slice po (Zz l l.length).length co,V0 0])∧B3 w w'∧Lists w' w.heap.size (.slice pb (bmN l.length) cb) gs (Xs (Zw l) (bmN l.length))∧w'.ownsRow w.heap.size 122 3 (.slice po (Zz l l.length).length co) (Zz l l.length).length ((Zz l l.length).flatMap Qz))
theorem Ii{l:List Int}{i:Nat}(hl:l.length≤65536)(hi:i<l.length)(h:¬ Pe (l.getD i 0)):Jd l≠0:=fun q=>h ((Rp q).2 i hi)
theorem Ze6{l:List Int}(hl:l.length≤65536)(h:∀ k,k<l.length→Pe (l.getD k 0)):Jd l=0:=by
 unfold Jd;rw[if_neg (by omega),if_pos h]
attribute [local go_sem] Oper.semAt_some
theorem g_retM{P:Program}{fn:Func}{R:Ending→World→Prop}{a:Act}{w:World}(v:Value)(hd:a.defers=[])(hr:(results fn a.tmps).run P w=.ok v w)(h:R (.returned v) w):bodyPostM Fence.wide 4 P fn R .ret a w:=by
 show LeavesInM _ _ _ _ a.tmps R a.defers .returning w
 rw[hd]
 exact⟨v,hr,h⟩
theorem Lists.put{W U:World}{D base:Nat}{v:Value}{gs:List (Nat×Nat)}{L:List (List Int)}(h:Lists W base v gs L)(u:Upd W D U)(hK:Dfr D W):Lists U base v gs L:=⟨u.own3 h.row (hK.row h.row),fun i hi=>u.own3 (h.each i hi) (hK.row (h.each i hi))⟩
theorem mn3_if(n:Int):(if 3<n then 3 else n)=mn3 n:=by unfold mn3;split<;>split<;>omega
def Gy(s:List Int){n:Nat}(pre:List (Fin n)):List (List Int):=pre.map fun j=>Wa s j.val
theorem Ue(s:List Int){n:Nat}(pre:List (Fin n))(x:Fin n):Gy s (pre++[x])=Gy s pre++[Wa s x.val]:=by simp[Gy]
theorem preC_all(s:List Int)(n:Nat):Gy s (List.finRange n)=Xs s n:=by
 unfold Gy Xs
 apply List.ext_getElem
 ·simp
 ·intro i h1 h2;simp
theorem Zfi(a:O0)(c:Nat)(l:List Int)(w:World)(h:Sl w (.slice a l.length c) l.length (l.map V0))(hl:l.length≤65536) :
 C0 112 #[.slice a l.length c] w (SplitP l w):=by
 refine Qr Tryz.func112 rfl ?_
 refine Zet ⟨#[.slice a l.length c,undef,undef,undef,undef,undef,undef,undef,undef,undef,undef,undef,undef,undef,undef,undef,undef,undef,undef,undef,undef,undef,undef,undef,undef,undef,undef,undef,undef,undef,undef,undef,undef,undef,undef,undef,undef,undef,undef,undef,undef,undef,undef,undef,undef,undef,undef,undef,undef,undef,undef,undef],[]⟩ (by kernel_rfl) ?_
 refine wp_seq ?_
 refine wp_region_lit ?_
 refine Yy 3 [(2,S0),(3,S0),(4,V0 0)] (by kernel_rfl) ?_
 refine wpList_nil ?_
 refine wp_seq ?_
 refine wp_seq ?_
 refine wp_region_lit ?_
 refine Yy 3 [(11,.slice a l.length c),(12,V0 (l.length:Int)),(13,.bool (decide ((l.length:Int)>(65536:Int))))] (by kernel_rfl) ?_
 refine wpList_nil ?_
 refine wp_cond_split (t:=decide ((l.length:Int)>(65536:Int))) (by kernel_rfl) (fun hh=>absurd (hh.symm.trans (show(decide ((l.length:Int)>(65536:Int)):Bool)=false from decide_eq_false (by omega))) (by decide)) (fun _=>?_)
 refine wp_skip ?_
 refine wp_seq ?_
 refine wp_region_lit ?_
 refine Yy 1 [(5,S0)] (by kernel_rfl) ?_
 refine wpList_nil ?_
 refine wp_seq ?_
 refine wp_region_lit ?_
 refine Yy 1 [(6,S0)] (by kernel_rfl) ?_
 refine wpList_nil ?_
 refine wp_seq ?_
 refine wp_seq ?_
 refine wp_region_lit ?_
 refine Yy 3 [(14,.slice a l.length c),(15,V0 (l.length:Int)),(16,V0 0)] (by kernel_rfl) ?_
 refine wpList_nil ?_
 refine wp_block ?_
 refine Zet ⟨#[.slice a l.length c,undef,S0,S0,V0 0,S0,S0,undef,undef,undef,undef,.slice a l.length c,V0 (l.length:Int),.bool (decide ((l.length:Int)>(65536:Int))),.slice a l.length c,V0 (l.length:Int),V0 0,undef,undef,undef,undef,undef,undef,undef,undef,undef,undef,undef,undef,undef,undef,undef,undef,undef,undef,undef,undef,undef,undef,undef,undef,undef,undef,undef,undef,undef,undef,undef,undef,undef,undef,undef],[]⟩ (by kernel_rfl) ?_
 have hB:=Below.refl w.heap.size w
 refine wp_loop (fun h8 V=>∃ (i:Nat) (ps:O0) (cs:Nat) (po:O0) (co:Nat) (x2:Nat→Value),h8=⟨#[.slice a l.length c,undef,(x2 0),(x2 1),(x2 2),.slice ps i cs,.slice po ((Zz l i).length) co,(x2 3),(x2 4),undef,undef,.slice a l.length c,V0 (l.length:Int),.bool (decide ((l.length:Int)>(65536:Int))),.slice a l.length c,V0 (l.length:Int),V0 (i:Int),(x2 5),(x2 6),(x2 7),(x2 8),(x2 9),(x2 10),(x2 11),(x2 12),(x2 13),(x2 14),(x2 15),(x2 16),(x2 17),(x2 18),(x2 19),(x2 20),(x2 21),(x2 22),(x2 23),(x2 24),(x2 25),(x2 26),(x2 27),(x2 28),(x2 29),undef,undef,undef,undef,undef,undef,undef,undef,undef,undef],[]⟩∧B3 w V∧V.ownsRow w.heap.size 3 1 (.slice ps i cs) i ((Zw (l.take i)).map V0)∧V.ownsRow w.heap.size 122 3 (.slice po (Zz l i).length co) (Zz l i).length ((Zz l i).flatMap Qz)∧i≤l.length∧((∀ j,j<i→Pe (l.getD j 0)))) (fun h8 V=>l.length-((intOf (h8.tmps.getD 16 undef))).toNat) ⟨0,none,0,none,0,(pk [S0,S0,V0 0,undef,undef,undef,undef,undef,undef,undef,undef,undef,undef,undef,undef,undef,undef,undef,undef,undef,undef,undef,undef,undef,undef,undef,undef,undef,undef,undef]),rfl,hB,World.ownsRow_nil _ _ _ _,World.ownsRow_nil _ _ _ _,Nat.zero_le _,?_⟩ ?_
 ·exact fun j hj=>absurd hj (by omega)
 rintro _ W2 ⟨i,ps,cs,po,co,x2,rfl,hB,hs,ho,hi,hz⟩
 refine wp_seq ?_
 refine wp_region_lit ?_
 refine Yy 1 [(17,.bool (decide ((i:Int)<(l.length:Int))))] (by kernel_rfl) ?_
 refine wpList_nil ?_
 refine wp_seq ?_
 refine wp_cond_split (t:=decide ((i:Int)<(l.length:Int))) (by kernel_rfl) (fun e7=>?_) (fun e7=>?_)
 ·have e7:=of_decide_eq_true e7
  refine wp_skip ?_
  refine wp_seq ?_
  refine wp_block ?_
  refine wp_seq ?_
  refine wp_region_lit ?_
  refine Yy 1 [(18,V0 (i:Int))] (by kernel_rfl) ?_
  refine Xx (by kernel_rfl) (Ug (Ie (size:=1) (k:=i) (b:=a) (n:=l.length) (c:=c) (i:=(i:Int)) (ki:=.i64) rfl (by kernel_rfl) (by kernel_rfl) rfl (by omega) (Ints.elem h (k:=i) (by omega)).1 Tryz.underlying35 (by kernel_rfl) W2) ?_)
  refine Xx (by kernel_rfl) (Xr (Zo a (i*1)) (V0 (l.getD i 0)) rfl (by kernel_rfl) (by kernel_rfl) (Ints.elem (h.below hB) (k:=i) (by omega)).2 ?_)
  refine Yy 2 [(7,V0 (i:Int)),(8,V0 (l.getD i 0))] (by kernel_rfl) ?_
  refine wpList_nil ?_
  refine wp_seq ?_
  refine wp_seq ?_
  refine wp_region_lit ?_
  refine Yy 3 [(21,V0 (l.getD i 0)),(22,.bool (decide ((l.getD i 0)<(0:Int)))),(23,.bool (decide ((l.getD i 0)<(0:Int))))] (by kernel_rfl) ?_
  rcases Bool.eq_false_or_eq_true (decide ((l.getD i 0)<(0:Int))) with d7|d7
  ·refine g_b [22,23] _ _ d7 (by kernel_rfl) ?_
   have d7:=of_decide_eq_true d7
   refine Yy 3 [(24,undef),(25,undef),(26,.bool true)] (by kernel_rfl) ?_
   refine wpList_nil ?_
   refine wp_cond_true (by kernel_rfl) ?_
   refine wp_seq ?_
   refine wp_region_lit ?_
   refine Yy 3 [(2,S0),(3,S0),(4,V0 2)] (by kernel_rfl) ?_
   refine wpList_nil ?_
   refine wp_ret (Kb (Xz (Kb (Kb (Xz (Kb ?_))))))
   exact g_retM (.tuple #[S0,S0,V0 2]) (by kernel_rfl) (by kernel_rfl) (.inl ⟨Ii (i:=i) hl (by omega) (fun q=>by unfold Pe at q;omega),rfl,hB⟩)
  ·refine g_b [22,23] _ _ d7 (by kernel_rfl) ?_
   have d7:=of_decide_eq_false d7
   refine Yy 3 [(24,V0 (l.getD i 0)),(25,.bool (decide ((l.getD i 0)>(2147483647:Int)))),(26,.bool (decide ((l.getD i 0)>(2147483647:Int))))] (by kernel_rfl) ?_
   refine wpList_nil ?_
   refine wp_cond_split (t:=decide ((l.getD i 0)>(2147483647:Int))) (by kernel_rfl) (fun f0=>?_) (fun f0=>?_)
   ·have f0:=of_decide_eq_true f0
    refine wp_seq ?_
    refine wp_region_lit ?_
    refine Yy 3 [(2,S0),(3,S0),(4,V0 2)] (by kernel_rfl) ?_
    refine wpList_nil ?_
    refine wp_ret (Kb (Xz (Kb (Kb (Xz (Kb ?_))))))
    exact g_retM (.tuple #[S0,S0,V0 2]) (by kernel_rfl) (by kernel_rfl) (.inl ⟨Ii (i:=i) hl (by omega) (fun q=>by unfold Pe at q;omega),rfl,hB⟩)
   ·have f0:=of_decide_eq_false f0
    refine wp_skip ?_
    refine wp_seq ?_
    refine wp_region_lit ?_
    refine Yy 3 [(27,.slice ps i cs),(28,V0 (l.getD i 0)),(29,V0 (if(3:Int)<(l.getD i 0) then(3:Int) else(l.getD i 0)))] (by kernel_rfl) ?_
    refine Xx (by kernel_rfl) (Yb 3 [V0 (if(3:Int)<(l.getD i 0) then(3:Int) else(l.getD i 0))] rfl (by kernel_rfl) ?_)
    intro b6 W6 n6
    have g6:=n6.ge hB
    have l5:=Zu hs n6
    replace hB:=bln hB n6.below
    replace hs:=Zb hs n6.below
    replace ho:=Zb ho n6.below
    have k6:=n6.blk
    refine Xx (by kernel_rfl) (Xd (e:=3) (n:=i) (xs:=(Zw (l.take i)).map V0) (m:=1) (news:=[V0 (if(3:Int)<(l.getD i 0) then(3:Int) else(l.getD i 0))]) (V0 0) 1 8 (i+1) ((Zw (l.take (i+1))).map V0) rfl Tryz.underlying35 (by kernel_rfl) rfl (by decide) (by kernel_rfl) hs (by kernel_rfl) (k6.sl 1 1 (by decide) (by decide)) rfl (by simp[Value.oneCell']) (by unfold maxLen;omega) (by omega) hB.size (by rfl) (by rw[mn3_if,small_snoc (by omega),List.map_append];rfl) ?_)
    intro p7 c7 W7 o7 m4 m8
    replace ho:=Zr ho m4 hs (by decide)
    replace hB:=hB.trans m8
    refine Yy 1 [(5,.slice p7 (i+1) c7)] (by kernel_rfl) ?_
    refine wpList_nil ?_
    refine wp_seq ?_
    refine wp_region_lit ?_
    refine Yy 2 [(32,V0 (l.getD i 0)),(33,.bool (decide ((l.getD i 0)≥(3:Int))))] (by kernel_rfl) ?_
    refine wpList_nil ?_
    refine wp_cond_split (t:=decide ((l.getD i 0)≥(3:Int))) (by kernel_rfl) (fun f4=>?_) (fun f4=>?_)
    ·have f4:=of_decide_eq_true f4
     refine wp_region_lit ?_
     refine Yy 3 [(34,.slice po ((Zz l i).length) co),(35,V0 (i:Int)),(36,V0 (l.getD i 0))] (by kernel_rfl) ?_
     refine Xx (by kernel_rfl) (Yd (lb:=#[]) 182 #[V0 (l.getD i 0)] rfl (by kernel_rfl) (fun _ _=>by kernel_rfl) (by kernel_rfl) ((Zdu (l.getD i 0) (by omega) (by omega) _).mono ?_))
     rintro e W9 ⟨rfl,c0⟩
     refine⟨_,rfl,?_⟩
     replace hB:=bln hB c0
     replace ho:=Zb ho c0
     replace o7:=Zb o7 c0
     refine Yy 1 [(38,.agg #[V0 (i:Int),.string ⟨(leB (l.getD i 0) 4).toArray⟩,V0 0])] (by kernel_rfl) ?_
     refine Xx (by kernel_rfl) (Yb 122 [V0 (i:Int),.string ⟨(leB (l.getD i 0) 4).toArray⟩,V0 0] rfl (by kernel_rfl) ?_)
     intro j0 o3 e4
     have n9:=e4.ge hB
     have i6:=Zu ho e4
     replace hB:=bln hB e4.below
     replace ho:=Zb ho e4.below
     replace o7:=Zb o7 e4.below
     have m0:=e4.blk
     refine Xx (by kernel_rfl) (Xd (e:=122) (n:=(Zz l i).length) (xs:=(Zz l i).flatMap Qz) (m:=1) (news:=[V0 (i:Int),.string ⟨(leB (l.getD i 0) 4).toArray⟩,V0 0]) (.agg #[V0 0,.string ⟨#[]⟩,V0 0]) 3 32 ((Zz l (i+1)).length) ((Zz l (i+1)).flatMap Qz) rfl Tryz.underlying105 (by kernel_rfl) rfl (by decide) (by kernel_rfl) ho (by kernel_rfl) (m0.sl 1 1 (by decide) (by decide)) rfl (by simp[Value.oneCell']) (by have:=Lz l i;unfold maxLen;omega) (by have:=Lz l i;omega) hB.size (by rw[Wl (by omega)];simp) (by rw[Wl (by omega)];simp[Qz]) ?_)
     intro g3 g9 o5 m5 i1 i3
     replace o7:=Zr o7 i1 ho (by decide)
     replace hB:=hB.trans i3
     refine Yy 1 [(6,.slice g3 ((Zz l (i+1)).length) g9)] (by kernel_rfl) ?_
     refine wpList_nil ?_
     refine wp_region_lit ?_
     refine Xx (by kernel_rfl) (op_wrap .i64 ((i:Int)+1) (↑(i+1):Int) (by kernel_rfl) ((show IntKind.i64.wrap ((i:Int)+1)=((i:Int)+1) from by first|exact IntWalk.i64_in _ (by omega)|(simp only[IntKind.wrap];omega)).trans (by omega)) ?_)
     refine Yy 1 [(16,V0 (↑(i+1):Int))] (by kernel_rfl) ?_
     refine wpList_nil ?_
     refine g_nfr ⟨#[.slice a l.length c,undef,(x2 0),(x2 1),(x2 2),.slice p7 (i+1) c7,.slice g3 ((Zz l (i+1)).length) g9,V0 (i:Int),V0 (l.getD i 0),undef,undef,.slice a l.length c,V0 (l.length:Int),.bool (decide ((l.length:Int)>(65536:Int))),.slice a l.length c,V0 (l.length:Int),V0 (↑(i+1):Int),.bool (decide ((i:Int)<(l.length:Int))),V0 (i:Int),.pointer (some (Zo a (i*1))),V0 (l.getD i 0),V0 (l.getD i 0),.bool false,.bool false,V0 (l.getD i 0),.bool (decide ((l.getD i 0)>(2147483647:Int))),.bool (decide ((l.getD i 0)>(2147483647:Int))),.slice ps i cs,V0 (l.getD i 0),V0 (if(3:Int)<(l.getD i 0) then(3:Int) else(l.getD i 0)),.slice (S1 b6) 1 1,.slice p7 (i+1) c7,V0 (l.getD i 0),.bool (decide ((l.getD i 0)≥(3:Int))),.slice po ((Zz l i).length) co,V0 (i:Int),V0 (l.getD i 0),.string ⟨(leB (l.getD i 0) 4).toArray⟩,.agg #[V0 (i:Int),.string ⟨(leB (l.getD i 0) 4).toArray⟩,V0 0],.slice (S1 j0) 1 1,.slice g3 ((Zz l (i+1)).length) g9,V0 (↑(i+1):Int),undef,undef,undef,undef,undef,undef,undef,undef,undef,undef],[]⟩ (by kernel_rfl) ?_
     refine⟨⟨i+1,_,_,_,_,(pk [(x2 0),(x2 1),(x2 2),V0 (i:Int),V0 (l.getD i 0),.bool (decide ((i:Int)<(l.length:Int))),V0 (i:Int),.pointer (some (Zo a (i*1))),V0 (l.getD i 0),V0 (l.getD i 0),.bool false,.bool false,V0 (l.getD i 0),.bool (decide ((l.getD i 0)>(2147483647:Int))),.bool (decide ((l.getD i 0)>(2147483647:Int))),.slice ps i cs,V0 (l.getD i 0),V0 (if(3:Int)<(l.getD i 0) then(3:Int) else(l.getD i 0)),.slice (S1 b6) 1 1,.slice p7 (i+1) c7,V0 (l.getD i 0),.bool (decide ((l.getD i 0)≥(3:Int))),.slice po ((Zz l i).length) co,V0 (i:Int),V0 (l.getD i 0),.string ⟨(leB (l.getD i 0) 4).toArray⟩,.agg #[V0 (i:Int),.string ⟨(leB (l.getD i 0) 4).toArray⟩,V0 0],.slice (S1 j0) 1 1,.slice g3 ((Zz l (i+1)).length) g9,V0 (↑(i+1):Int)]),rfl,hB,o7,m5,by omega,fun j hj=>(Nat.lt_or_ge j i).elim (hz j) (fun q=>by obtain rfl:j=i:=(by omega);exact⟨by omega,by omega⟩)⟩,?_⟩
     show l.length-((↑(i+1):Int)).toNat<l.length-((i:Int)).toNat
     omega
    ·have f4:=of_decide_eq_false f4
     refine wp_skip ?_
     refine wp_region_lit ?_
     refine Xx (by kernel_rfl) (op_wrap .i64 ((i:Int)+1) (↑(i+1):Int) (by kernel_rfl) ((show IntKind.i64.wrap ((i:Int)+1)=((i:Int)+1) from by first|exact IntWalk.i64_in _ (by omega)|(simp only[IntKind.wrap];omega)).trans (by omega)) ?_)
     refine Yy 1 [(16,V0 (↑(i+1):Int))] (by kernel_rfl) ?_
     refine wpList_nil ?_
     refine g_nfr ⟨#[.slice a l.length c,undef,(x2 0),(x2 1),(x2 2),.slice p7 (i+1) c7,.slice po ((Zz l i).length) co,V0 (i:Int),V0 (l.getD i 0),undef,undef,.slice a l.length c,V0 (l.length:Int),.bool (decide ((l.length:Int)>(65536:Int))),.slice a l.length c,V0 (l.length:Int),V0 (↑(i+1):Int),.bool (decide ((i:Int)<(l.length:Int))),V0 (i:Int),.pointer (some (Zo a (i*1))),V0 (l.getD i 0),V0 (l.getD i 0),.bool false,.bool false,V0 (l.getD i 0),.bool (decide ((l.getD i 0)>(2147483647:Int))),.bool (decide ((l.getD i 0)>(2147483647:Int))),.slice ps i cs,V0 (l.getD i 0),V0 (if(3:Int)<(l.getD i 0) then(3:Int) else(l.getD i 0)),.slice (S1 b6) 1 1,.slice p7 (i+1) c7,V0 (l.getD i 0),.bool (decide ((l.getD i 0)≥(3:Int))),(x2 22),(x2 23),(x2 24),(x2 25),(x2 26),(x2 27),(x2 28),V0 (↑(i+1):Int),undef,undef,undef,undef,undef,undef,undef,undef,undef,undef],[]⟩ (by kernel_rfl) ?_
     refine g_nfr ⟨#[.slice a l.length c,undef,(x2 0),(x2 1),(x2 2),.slice p7 (i+1) c7,.slice po ((Zz l (i+1)).length) co,V0 (i:Int),V0 (l.getD i 0),undef,undef,.slice a l.length c,V0 (l.length:Int),.bool (decide ((l.length:Int)>(65536:Int))),.slice a l.length c,V0 (l.length:Int),V0 (↑(i+1):Int),.bool (decide ((i:Int)<(l.length:Int))),V0 (i:Int),.pointer (some (Zo a (i*1))),V0 (l.getD i 0),V0 (l.getD i 0),.bool false,.bool false,V0 (l.getD i 0),.bool (decide ((l.getD i 0)>(2147483647:Int))),.bool (decide ((l.getD i 0)>(2147483647:Int))),.slice ps i cs,V0 (l.getD i 0),V0 (if(3:Int)<(l.getD i 0) then(3:Int) else(l.getD i 0)),.slice (S1 b6) 1 1,.slice p7 (i+1) c7,V0 (l.getD i 0),.bool (decide ((l.getD i 0)≥(3:Int))),(x2 22),(x2 23),(x2 24),(x2 25),(x2 26),(x2 27),(x2 28),V0 (↑(i+1):Int),undef,undef,undef,undef,undef,undef,undef,undef,undef,undef],[]⟩ (by rw[Pr (by omega)]) ?_
     refine⟨⟨i+1,_,_,_,_,(pk [(x2 0),(x2 1),(x2 2),V0 (i:Int),V0 (l.getD i 0),.bool (decide ((i:Int)<(l.length:Int))),V0 (i:Int),.pointer (some (Zo a (i*1))),V0 (l.getD i 0),V0 (l.getD i 0),.bool false,.bool false,V0 (l.getD i 0),.bool (decide ((l.getD i 0)>(2147483647:Int))),.bool (decide ((l.getD i 0)>(2147483647:Int))),.slice ps i cs,V0 (l.getD i 0),V0 (if(3:Int)<(l.getD i 0) then(3:Int) else(l.getD i 0)),.slice (S1 b6) 1 1,.slice p7 (i+1) c7,V0 (l.getD i 0),.bool (decide ((l.getD i 0)≥(3:Int))),(x2 22),(x2 23),(x2 24),(x2 25),(x2 26),(x2 27),(x2 28),V0 (↑(i+1):Int)]),rfl,hB,o7,(by rw[Pr (by omega)];exact ho),by omega,fun j hj=>(Nat.lt_or_ge j i).elim (hz j) (fun q=>by obtain rfl:j=i:=(by omega);exact⟨by omega,by omega⟩)⟩,?_⟩
     show l.length-((↑(i+1):Int)).toNat<l.length-((i:Int)).toNat
     omega
 ·have e7:=of_decide_eq_false e7
  refine wp_exit ?_
  refine Zct ?_
  refine Zct ?_
  refine Ze4 ?_
  refine wp_seq ?_
  refine wp_region_lit ?_
  refine Xx (by kernel_rfl) (Yt [S0] rfl (by kernel_rfl) ?_)
  intro b8 o1 f1
  have j3:=f1.ge hB
  replace hB:=bln hB f1.below
  replace hs:=Zb hs f1.below
  replace ho:=Zb ho f1.below
  have c1:=f1.blk
  refine wpList_nil ?_
  refine wp_seq ?_
  refine wp_seq ?_
  refine wp_region_lit ?_
  refine Yy 1 [(42,.slice ps i cs)] (by kernel_rfl) ?_
  refine Xx (by kernel_rfl) (Yd (lb:=#[]) 183 #[.slice ps i cs,V0 960] rfl (by kernel_rfl) (fun _ _=>by kernel_rfl) (by kernel_rfl) ((Zb9 ps i cs _).mono ?_))
  rintro e c9 ⟨b1,b2,rfl,c5,n5,o2,n2,e1,d8⟩
  refine⟨_,rfl,?_⟩
  replace hB:=bln hB c5
  replace c1:=c1.below c5
  replace hs:=Zb hs c5
  replace ho:=Zb ho c5
  refine wpList_nil ?_
  refine wp_block ?_
  have k8:i=l.length:=by omega
  obtain⟨g,hv⟩:=row_or hs
  have m1:=Zfn b1 b2 (fun b=>b<c9.heap.size∧b≠b8) g 0 i cs (.slice ps i cs) c9 (fun b h=>h.1) ⟨e1.lt,(by rintro rfl;exact absurd (e1.ty c1) (by decide))⟩ ⟨d8.lt,(by rintro rfl;exact absurd (d8.ty c1) (by decide))⟩ (by omega) hv (e1.cell (i:=0) rfl) (d8.cell (i:=0) rfl)
  refine Zet ⟨#[.slice a l.length c,undef,(x2 0),(x2 1),(x2 2),.slice ps i cs,.slice po ((Zz l i).length) co,(x2 3),(x2 4),P0 b8,undef,.slice a l.length c,V0 (l.length:Int),.bool (decide ((l.length:Int)>(65536:Int))),.slice a l.length c,V0 (l.length:Int),V0 (i:Int),.bool (decide ((i:Int)<(l.length:Int))),(x2 6),(x2 7),(x2 8),(x2 9),(x2 10),(x2 11),(x2 12),(x2 13),(x2 14),(x2 15),(x2 16),(x2 17),(x2 18),(x2 19),(x2 20),(x2 21),(x2 22),(x2 23),(x2 24),(x2 25),(x2 26),(x2 27),(x2 28),(x2 29),.slice ps i cs,.func (.func 227) #[] #[P0 b1,P0 b2],undef,undef,undef,undef,undef,undef,undef,undef],[]⟩ (by kernel_rfl) ?_
  refine Eu (g:=.tmp 43) (gf:=227) (lb:=#[P0 b1,P0 b2]) rfl (enters_of Tryz.func227 (by kernel_rfl) rfl) _ (fun b h=>h.1) m1 (fun _=>rfl)
   (fun a0 W=>(∃ pb cb gs,gs.length=a0.length∧Blk W b8 [.slice pb (Gy (Zw (l.take i)) a0).length cb] 211∧Lists W c9.heap.size (.slice pb (Gy (Zw (l.take i)) a0).length cb) gs (Gy (Zw (l.take i)) a0))∧BelowBut c9 b8 W)
   (fun _ _ _=>False) ?own (fun _ _ _ _ _ h _ _=>h) ⟨⟨none,0,[],rfl,c1,⟨World.ownsRow_nil _ _ _ _,fun i hi=>absurd hi (Nat.not_lt_zero _)⟩⟩,(Below.refl _ _).but _⟩
   (fun x a' _=>a'={ tmps:=#[.slice a l.length c,undef,(x2 0),(x2 1),(x2 2),.slice ps i cs,.slice po ((Zz l i).length) co,(x2 3),(x2 4),P0 b8,.slice (some ⟨g,0+x.val*960,none⟩) (min 960 (i-x.val*960)) (min 960 (i-x.val*960)),.slice a l.length c,V0 (l.length:Int),.bool (decide ((l.length:Int)>(65536:Int))),.slice a l.length c,V0 (l.length:Int),V0 (i:Int),.bool (decide ((i:Int)<(l.length:Int))),(x2 6),(x2 7),(x2 8),(x2 9),(x2 10),(x2 11),(x2 12),(x2 13),(x2 14),(x2 15),(x2 16),(x2 17),(x2 18),(x2 19),(x2 20),(x2 21),(x2 22),(x2 23),(x2 24),(x2 25),(x2 26),(x2 27),(x2 28),(x2 29),.slice ps i cs,.func (.func 227) #[] #[P0 b1,P0 b2],.slice (some ⟨g,0+x.val*960,none⟩) (min 960 (i-x.val*960)) (min 960 (i-x.val*960)),undef,undef,undef,undef,undef,undef,undef],defers:=[] }) (fun _ _ _ _ _ _ h _ _=>h) ?assign ?body ?done (fun _ _ _ _ _ _ h _=>h.elim)
  case own=>exact OwnFrom.and (Own.from (fun s A B n8 hs hg hr=>by obtain⟨pb,cb,gs,h0,h1,h2⟩:=hs;exact⟨pb,cb,gs,h0,h1.turn hg hr,h2.turn hg hr⟩) _) (Mh (Nat.le_refl _))
  case assign =>
   rintro lr a0 x W K hI hK
   unfold encK
   gi_wp2
   refine hK _ _ (KeepsFrom.refl _ _) (Keeps.refl _ _) hI ?_
   simp only[k8,Nat.zero_add,decide_eq_false (show ¬ ((l.length:Int)>65536) by omega),Int.lt_irrefl,decide_false]
  case body =>
   rintro lr a0 x a' W n3 ⟨⟨pb,cb,gs,d5,m9,hL⟩,e5⟩ rfl o6
   have hx:=bmN_lt x.isLt
   have m6:=hv.resolve_left (fun q=>by omega)
   have a2:=e5.own2 hs c1 (by decide)
   rw[m6.1] at a2
   obtain⟨m,hm⟩:∃ m,min 960 (i-x.val*960)=m:=⟨_,rfl⟩
   rw[hm]
   have e9:0<m:=by omega
   have k7:x.val*960+m≤i:=by omega
   have f7:(Zw (l.take i)).length=i:=by simp[Zw];omega
   have d2:(Wa (Zw (l.take i)) x.val).length=m:=by rw[Ia,f7];exact hm
   have j8:(((Zw (l.take i)).map V0).drop (x.val*960)).take m=(Wa (Zw (l.take i)) x.val).map V0:=by rw[←List.map_drop,←List.map_take];unfold Wa;rw[show((Zw (l.take i)).drop (x.val*960)).take m=((Zw (l.take i)).drop (x.val*960)).take 960 from by rw[List.take_eq_take_iff,List.length_drop,f7];omega]
   have h9:(Gy (Zw (l.take i)) a0).length=a0.length:=by simp[Gy]
   have o4:a0.length≤69:=by have:bmN i≤69:=(by unfold bmN;omega);omega
   have a1:=hL.row
   have hE:Each W c9.heap.size gs (Gy (Zw (l.take i)) a0):=hL.each
   have hZ:RdZ c9 b8 W W:=RdZ.refl e5
   have a8:c9.heap.size≤W.heap.size:=e5.size
   have a3:w.heap.size≤c9.heap.size:=hB.size
   have c0:=j3
   refine wpIn_block ?_
   have hB:=blB (Below.refl w.heap.size W) (Nat.le_trans a3 a8) (Za W)
   replace m9:=m9.below (Za W)
   replace a2:=Zb a2 (Za W)
   replace a1:=Zb a1 (Za W)
   replace hE:=hE.below (Za W)
   replace hZ:=hZ.below (Za W)
   refine h_regIn (fun V=>Below w.heap.size (W.drew) V∧Zd [211,35] (W.drew) V) 6 rfl #[false,false,false,false,false,false] rfl (by kernel_rfl) (fun⟨_,_,q⟩=>q) (by simp) ⟨Below.refl _ _,Zd.refl _ _⟩ ?_
   intro c3
   have a5:=hB
   have e8:=m9
   have i9:=a1
   refine Ze7 [1] 5 rfl #[false,true,false,false,false,false] [(46,.slice (some ⟨g,0+x.val*960,none⟩) m m)] (by kernel_rfl) (fun _ _ _ _ _ h=>h) (by kernel_rfl) c3 ?_
   refine h_two 0 2 4 rfl (by kernel_rfl) rfl rfl (by kernel_rfl) (by kernel_rfl) ?_ ?_
   ·refine Xr ⟨b8,0,none⟩ (.slice pb ((Gy (Zw (l.take i)) a0).length) cb) rfl (by kernel_rfl) (by kernel_rfl) (m9.cell (i:=0) rfl) ?_
    have d6:Below w.heap.size (W.drew) (W.drew)∧Zd [211,35] (W.drew) (W.drew):=c3
    refine⟨d6,?_⟩
    have i8:W.heap.size≤(W.drew).heap.size:=hB.size
    refine Kt 2 3 rfl (by kernel_rfl) rfl (by kernel_rfl) (Yd (lb:=#[]) 124 #[.slice (some ⟨g,0+x.val*960,none⟩) m m] rfl (by kernel_rfl) (fun _ _=>by kernel_rfl) (by kernel_rfl) ((Lr ⟨g,0+x.val*960,none⟩ m m ((Wa (Zw (l.take i)) x.val).map V0) _ (j8▸Sl.midI (Zf a2) (by rw[List.length_map];exact f7) (x.val*960) m e9 k7) (by rw[List.length_map];exact d2) (fun u hu=>by obtain⟨y,_,rfl⟩:=List.mem_map.1 hu;rfl) (by omega)).mono ?_))
    rintro e j9 ⟨_,rfl,a7,q,c2,rfl,hq⟩
    refine⟨_,rfl,?_⟩
    replace hB:=blB hB (Nat.le_trans a3 a8) a7
    replace m9:=m9.below a7
    replace a2:=Zb a2 a7
    replace a1:=Zb a1 a7
    replace hE:=hE.below a7
    replace hZ:=hZ.below a7
    replace hq:=Zh hq i8
    have c4:Below w.heap.size (W.drew) (j9)∧Zd [211,35] (W.drew) (j9):=⟨blB d6.1 (Nat.le_trans (Nat.le_trans a3 a8) a5.size) a7,d6.2.trans (Zd.of_below a7)⟩
    refine⟨c4,?_⟩
    refine Kt 3 2 rfl (by kernel_rfl) rfl (by kernel_rfl) (Yb 35 [.slice q m c2] rfl (by kernel_rfl) ?_)
    intro m3 k3 a9
    have g5:=a9.ne m9
    have n7:=a9.ge0 hB
    have g7:=Zu a1 a9
    have h5:(W.drew).heap.size≤m3:=by have:=c4.1.size;have:=a9.at_;omega
    replace hB:=blB hB (Nat.le_trans a3 a8) a9.below
    replace m9:=m9.below a9.below
    replace a2:=Zb a2 a9.below
    replace a1:=Zb a1 a9.below
    replace hE:=hE.below a9.below
    replace hZ:=hZ.below a9.below
    replace hq:=Zb hq a9.below
    have l9:=a9.blk
    have e2:Below w.heap.size (W.drew) (k3)∧Zd [211,35] (W.drew) (k3):=⟨blB c4.1 (Nat.le_trans (Nat.le_trans a3 a8) a5.size) a9.below,c4.2.trans (Zd.of_below a9.below)⟩
    refine⟨e2,?_⟩
    refine Kt 4 1 rfl (by kernel_rfl) rfl (by kernel_rfl) (Xd (e:=35) (n:=(Gy (Zw (l.take i)) a0).length) (xs:=(List.range (Gy (Zw (l.take i)) a0).length).map (Za7 gs (Gy (Zw (l.take i)) a0))) (m:=1) (news:=[.slice q m c2]) (S0) 1 24 ((Gy (Zw (l.take i)) a0).length+1) ((List.range (Gy (Zw (l.take i)) a0).length).map (Za7 gs (Gy (Zw (l.take i)) a0))++[.slice q m c2]) rfl Tryz.underlying211 (by kernel_rfl) rfl (by decide) (by kernel_rfl) a1 (by kernel_rfl) (l9.sl 1 1 (by decide) (by decide)) rfl (by simp[Value.oneCell']) (by unfold maxLen;omega) (by omega) (Nat.le_trans a8 hZ.le) (by simp) (by simp) ?_)
    intro k4 j7 k9 h3 b4 f5
    replace m9:=m9.grown b4 a1 (by decide)
    replace a2:=Zr a2 b4 a1 (by decide)
    replace hE:=hE.only (Zd.of_grown (T:=[35]) b4 a1 (by decide)) (by decide)
    replace hZ:=hZ.grown b4 a1
    replace hq:=Zr hq b4 a1 (by decide)
    replace hB:=hB.trans (f5.mono a3)
    have d4:Below w.heap.size (W.drew) (k9)∧Zd [211,35] (W.drew) (k9):=⟨e2.1.trans (f5.mono a3),e2.2.trans (Zd.of_grown b4 a1 (by decide))⟩
    refine⟨d4,?_⟩
    refine Kt 5 0 rfl (by kernel_rfl) rfl (by kernel_rfl) (Xf (v:=.slice k4 ((Gy (Zw (l.take i)) a0).length+1) j7) (b:=b8) (off:=0) rfl (by kernel_rfl) (by kernel_rfl) (by kernel_rfl) rfl m9 (by first|decide|simp) ?_)
    intro j1 d0 l2
    change Blk _ _ [.slice k4 ((Gy (Zw (l.take i)) a0).length+1) j7] _ at l2
    replace hB:=d0.below hB c0
    replace a2:=d0.own2 a2 m9 (by decide)
    replace hE:=hE.only (Zd.of_upd (T:=[211]) d0 m9 (by decide)) (by decide)
    replace hZ:=hZ.upd d0 m9
    replace hq:=d0.own2 hq m9 (by decide)
    replace h3:=d0.own2 h3 m9 (by decide)
    have i5:Below w.heap.size (W.drew) (j1)∧Zd [211,35] (W.drew) (j1):=⟨d0.below d4.1 c0,d4.2.trans (Zd.of_upd d0 m9 (by decide))⟩
    refine⟨i5,?_⟩
    refine Nq _ (by kernel_rfl) ?_
    obtain⟨g2,rfl,j6⟩:=Lw hq e9
    rw[←d2] at hq
    have a4:=h3
    rw[←d2] at a4
    have hS:=Lists.snoc (n:=(Gy (Zw (l.take i)) a0).length+1) rfl a4 hE (Zh hq a8) (by rw[d5,h9])
    exact⟨hZ.ko.from _,⟨hZ.le,fun b hb=>hZ.fr b hb.1 hb.2⟩,⟨_,_,gs++[(g2,_)],by simp[d5],by rw[Ue,List.length_append];exact l2,by rw[Ue,List.length_append];exact hS⟩,hZ.bb⟩
   ·have h4:W.heap.size≤(W.drew).heap.size:=hB.size
    refine Yd (lb:=#[]) 124 #[.slice (some ⟨g,0+x.val*960,none⟩) m m] rfl (by kernel_rfl) (fun _ _=>by kernel_rfl) (by kernel_rfl) ((Lr ⟨g,0+x.val*960,none⟩ m m ((Wa (Zw (l.take i)) x.val).map V0) _ (j8▸Sl.midI (Zf a2) (by rw[List.length_map];exact f7) (x.val*960) m e9 k7) (by rw[List.length_map];exact d2) (fun u hu=>by obtain⟨y,_,rfl⟩:=List.mem_map.1 hu;rfl) (by omega)).mono ?_)
    rintro e f8 ⟨_,rfl,a6,q,c2,rfl,hq⟩
    refine⟨_,rfl,?_⟩
    replace hB:=blB hB (Nat.le_trans a3 a8) a6
    replace m9:=m9.below a6
    replace a2:=Zb a2 a6
    replace a1:=Zb a1 a6
    replace hE:=hE.below a6
    replace hZ:=hZ.below a6
    replace hq:=Zh hq h4
    have b9:Below w.heap.size (W.drew) (f8)∧Zd [211,35] (W.drew) (f8):=⟨blB c3.1 (Nat.le_trans (Nat.le_trans a3 a8) a5.size) a6,c3.2.trans (Zd.of_below a6)⟩
    refine⟨b9,?_⟩
    refine h_two 0 3 3 rfl (by kernel_rfl) rfl rfl (by kernel_rfl) (by kernel_rfl) ?_ ?_
    ·refine Xr ⟨b8,0,none⟩ (.slice pb ((Gy (Zw (l.take i)) a0).length) cb) rfl (by kernel_rfl) (by kernel_rfl) (m9.cell (i:=0) rfl) ?_
     have c6:Below w.heap.size (W.drew) (f8)∧Zd [211,35] (W.drew) (f8):=b9
     refine⟨c6,?_⟩
     refine Kt 3 2 rfl (by kernel_rfl) rfl (by kernel_rfl) (Yb 35 [.slice q m c2] rfl (by kernel_rfl) ?_)
     intro n0 l4 b3
     have f9:=b3.ne m9
     have n4:=b3.ge0 hB
     have f6:=Zu a1 b3
     have i7:(W.drew).heap.size≤n0:=by have:=c6.1.size;have:=b3.at_;omega
     replace hB:=blB hB (Nat.le_trans a3 a8) b3.below
     replace m9:=m9.below b3.below
     replace a2:=Zb a2 b3.below
     replace a1:=Zb a1 b3.below
     replace hE:=hE.below b3.below
     replace hZ:=hZ.below b3.below
     replace hq:=Zb hq b3.below
     have n1:=b3.blk
     have e3:Below w.heap.size (W.drew) (l4)∧Zd [211,35] (W.drew) (l4):=⟨blB c6.1 (Nat.le_trans (Nat.le_trans a3 a8) a5.size) b3.below,c6.2.trans (Zd.of_below b3.below)⟩
     refine⟨e3,?_⟩
     refine Kt 4 1 rfl (by kernel_rfl) rfl (by kernel_rfl) (Xd (e:=35) (n:=(Gy (Zw (l.take i)) a0).length) (xs:=(List.range (Gy (Zw (l.take i)) a0).length).map (Za7 gs (Gy (Zw (l.take i)) a0))) (m:=1) (news:=[.slice q m c2]) (S0) 1 24 ((Gy (Zw (l.take i)) a0).length+1) ((List.range (Gy (Zw (l.take i)) a0).length).map (Za7 gs (Gy (Zw (l.take i)) a0))++[.slice q m c2]) rfl Tryz.underlying211 (by kernel_rfl) rfl (by decide) (by kernel_rfl) a1 (by kernel_rfl) (n1.sl 1 1 (by decide) (by decide)) rfl (by simp[Value.oneCell']) (by unfold maxLen;omega) (by omega) (Nat.le_trans a8 hZ.le) (by simp) (by simp) ?_)
     intro l6 k2 k1 h6 b7 f2
     replace m9:=m9.grown b7 a1 (by decide)
     replace a2:=Zr a2 b7 a1 (by decide)
     replace hE:=hE.only (Zd.of_grown (T:=[35]) b7 a1 (by decide)) (by decide)
     replace hZ:=hZ.grown b7 a1
     replace hq:=Zr hq b7 a1 (by decide)
     replace hB:=hB.trans (f2.mono a3)
     have d9:Below w.heap.size (W.drew) (k1)∧Zd [211,35] (W.drew) (k1):=⟨e3.1.trans (f2.mono a3),e3.2.trans (Zd.of_grown b7 a1 (by decide))⟩
     refine⟨d9,?_⟩
     refine Kt 5 0 rfl (by kernel_rfl) rfl (by kernel_rfl) (Xf (v:=.slice l6 ((Gy (Zw (l.take i)) a0).length+1) k2) (b:=b8) (off:=0) rfl (by kernel_rfl) (by kernel_rfl) (by kernel_rfl) rfl m9 (by first|decide|simp) ?_)
     intro j5 c8 l3
     change Blk _ _ [.slice l6 ((Gy (Zw (l.take i)) a0).length+1) k2] _ at l3
     replace hB:=c8.below hB c0
     replace a2:=c8.own2 a2 m9 (by decide)
     replace hE:=hE.only (Zd.of_upd (T:=[211]) c8 m9 (by decide)) (by decide)
     replace hZ:=hZ.upd c8 m9
     replace hq:=c8.own2 hq m9 (by decide)
     replace h6:=c8.own2 h6 m9 (by decide)
     have i4:Below w.heap.size (W.drew) (j5)∧Zd [211,35] (W.drew) (j5):=⟨c8.below d9.1 c0,d9.2.trans (Zd.of_upd c8 m9 (by decide))⟩
     refine⟨i4,?_⟩
     refine Nq _ (by kernel_rfl) ?_
     obtain⟨g2,rfl,j6⟩:=Lw hq e9
     rw[←d2] at hq
     have a4:=h6
     rw[←d2] at a4
     have hS:=Lists.snoc (n:=(Gy (Zw (l.take i)) a0).length+1) rfl a4 hE (Zh hq a8) (by rw[d5,h9])
     exact⟨hZ.ko.from _,⟨hZ.le,fun b hb=>hZ.fr b hb.1 hb.2⟩,⟨_,_,gs++[(g2,_)],by simp[d5],by rw[Ue,List.length_append];exact l3,by rw[Ue,List.length_append];exact hS⟩,hZ.bb⟩
    ·refine Yb 35 [.slice q m c2] rfl (by kernel_rfl) ?_
     intro m7 g1 b0
     have g8:=b0.ne m9
     have o0:=b0.ge0 hB
     have g0:=Zu a1 b0
     have i2:(W.drew).heap.size≤m7:=by have:=b9.1.size;have:=b0.at_;omega
     replace hB:=blB hB (Nat.le_trans a3 a8) b0.below
     replace m9:=m9.below b0.below
     replace a2:=Zb a2 b0.below
     replace a1:=Zb a1 b0.below
     replace hE:=hE.below b0.below
     replace hZ:=hZ.below b0.below
     replace hq:=Zb hq b0.below
     have m2:=b0.blk
     have f3:Below w.heap.size (W.drew) (g1)∧Zd [211,35] (W.drew) (g1):=⟨blB b9.1 (Nat.le_trans (Nat.le_trans a3 a8) a5.size) b0.below,b9.2.trans (Zd.of_below b0.below)⟩
     refine⟨f3,?_⟩
     refine Kt 0 2 rfl (by kernel_rfl) rfl (by kernel_rfl) (Xr ⟨b8,0,none⟩ (.slice pb ((Gy (Zw (l.take i)) a0).length) cb) rfl (by kernel_rfl) (by kernel_rfl) (m9.cell (i:=0) rfl) ?_)
     have d3:Below w.heap.size (W.drew) (g1)∧Zd [211,35] (W.drew) (g1):=f3
     refine⟨d3,?_⟩
     refine Kt 4 1 rfl (by kernel_rfl) rfl (by kernel_rfl) (Xd (e:=35) (n:=(Gy (Zw (l.take i)) a0).length) (xs:=(List.range (Gy (Zw (l.take i)) a0).length).map (Za7 gs (Gy (Zw (l.take i)) a0))) (m:=1) (news:=[.slice q m c2]) (S0) 1 24 ((Gy (Zw (l.take i)) a0).length+1) ((List.range (Gy (Zw (l.take i)) a0).length).map (Za7 gs (Gy (Zw (l.take i)) a0))++[.slice q m c2]) rfl Tryz.underlying211 (by kernel_rfl) rfl (by decide) (by kernel_rfl) a1 (by kernel_rfl) (m2.sl 1 1 (by decide) (by decide)) rfl (by simp[Value.oneCell']) (by unfold maxLen;omega) (by omega) (Nat.le_trans a8 hZ.le) (by simp) (by simp) ?_)
     intro j2 k0 j4 h7 b5 e6
     replace m9:=m9.grown b5 a1 (by decide)
     replace a2:=Zr a2 b5 a1 (by decide)
     replace hE:=hE.only (Zd.of_grown (T:=[35]) b5 a1 (by decide)) (by decide)
     replace hZ:=hZ.grown b5 a1
     replace hq:=Zr hq b5 a1 (by decide)
     replace hB:=hB.trans (e6.mono a3)
     have e0:Below w.heap.size (W.drew) (j4)∧Zd [211,35] (W.drew) (j4):=⟨d3.1.trans (e6.mono a3),d3.2.trans (Zd.of_grown b5 a1 (by decide))⟩
     refine⟨e0,?_⟩
     refine Kt 5 0 rfl (by kernel_rfl) rfl (by kernel_rfl) (Xf (v:=.slice j2 ((Gy (Zw (l.take i)) a0).length+1) k0) (b:=b8) (off:=0) rfl (by kernel_rfl) (by kernel_rfl) (by kernel_rfl) rfl m9 (by first|decide|simp) ?_)
     intro l1 d1 l0
     change Blk _ _ [.slice j2 ((Gy (Zw (l.take i)) a0).length+1) k0] _ at l0
     replace hB:=d1.below hB c0
     replace a2:=d1.own2 a2 m9 (by decide)
     replace hE:=hE.only (Zd.of_upd (T:=[211]) d1 m9 (by decide)) (by decide)
     replace hZ:=hZ.upd d1 m9
     replace hq:=d1.own2 hq m9 (by decide)
     replace h7:=d1.own2 h7 m9 (by decide)
     have i0:Below w.heap.size (W.drew) (l1)∧Zd [211,35] (W.drew) (l1):=⟨d1.below e0.1 c0,e0.2.trans (Zd.of_upd d1 m9 (by decide))⟩
     refine⟨i0,?_⟩
     refine Nq _ (by kernel_rfl) ?_
     obtain⟨g2,rfl,j6⟩:=Lw hq e9
     rw[←d2] at hq
     have a4:=h7
     rw[←d2] at a4
     have hS:=Lists.snoc (n:=(Gy (Zw (l.take i)) a0).length+1) rfl a4 hE (Zh hq a8) (by rw[d5,h9])
     exact⟨hZ.ko.from _,⟨hZ.le,fun b hb=>hZ.fr b hb.1 hb.2⟩,⟨_,_,gs++[(g2,_)],by simp[d5],by rw[Ue,List.length_append];exact l0,by rw[Ue,List.length_append];exact hS⟩,hZ.bb⟩
  case done =>
   rintro D xs W hD rfl ⟨⟨pb,cb,gs,d5,m9,hL⟩,e5⟩ l7
   rw[preC_all] at m9 hL
   have hK:Dfr D W:=l7;clear l7
   subst k8
   rw[List.take_length] at m9 hL
   rw[Hw] at m9 hL
   refine Ou ?_
   have l8:=hB
   replace hB:=e5.below hB j3 hB.size
   have k5:=e5.own2 ho c1 (by decide)
   have a3:=l8.size
   replace c1:=m9
   refine wp_seq ?_
   refine wp_region_lit ?_
   refine Xx (by kernel_rfl) (Xr ⟨b8,0,none⟩ (.slice pb (bmN l.length) cb) rfl (by kernel_rfl) (by kernel_rfl) (c1.cell (i:=0) rfl) ?_)
   refine Yy 4 [(51,.slice po ((Zz l l.length).length) co),(2,.slice pb (bmN l.length) cb),(3,.slice po ((Zz l l.length).length) co),(4,V0 0)] (by kernel_rfl) ?_
   refine wpList_nil ?_
   refine wp_ret ?_
   exact Aw hK (.tuple #[.slice pb (bmN l.length) cb,.slice po ((Zz l l.length).length) co,V0 0]) (by kernel_rfl) (by kernel_rfl) (.inr ⟨Ze6 hl (fun k hk=>hz k (by omega)),_,_,gs,_,_,rfl,(Upd.of_put _ _ _).below hB (Nat.le_trans a3 hD),(hL.mono a3).put (Upd.of_put _ _ _) hK,(Upd.of_put _ _ _).own3 k5 (hK.row k5)⟩)
end Go.Proofs.YtceeiinepijokaaGreat
namespace Go.Proofs.YtceeiinepijokaaGreat
set_option maxHeartbeats 8000000
set_option maxRecDepth 100000
open Go.RowKit Go.Extern.Stop Go.Stop Go.Extern
set_option linter.unusedVariables false
attribute [local irreducible] wpList wpAnyH Code.wp Oper.wp Go
def ClosP(B Bx bl:Nat)(L:List (List Int))(q i:Nat)(w:World)(e:Ending)(w':World):Prop :=
 ∃ u p c,e=.returned u∧Below B w w'∧Zd [105,122] w w'∧Blk w' bl [.slice p (i+1) c] 105∧w'.ownsRow Bx 122 3 (.slice p (i+1) c) (i+1) ((Yh L q (i+1)).flatMap Qz)∧FrB Bx [bl] w w'
theorem Jc(L:List (List Int))(q i:Nat):(Yh L q i).flatMap Qz++[V0 (i:Int),.string ⟨(leB ((q+i:Nat):Int) 8++leB (Ys (L.getD i []):Int) 4++leB (Xo (L.getD i []):Int) 4).toArray⟩,V0 0]=(Yh L q (i+1)).flatMap Qz:=by
 rw[Zfc];simp[Qz,slotX,slotB]
structure FrZ(Bx:Nat)(S:List Nat)(a w:World):Prop where
 fr:FrB Bx S a w
 le:Bx≤a.heap.size
theorem FrZ.refl{Bx:Nat}{S:List Nat}{w:World}(h:Bx≤w.heap.size):FrZ Bx S w w:=⟨⟨Nat.le_refl _,fun _ _ _=>rfl⟩,h⟩
theorem FrZ.below{Bx:Nat}{S:List Nat}{a w W:World}(h:FrZ Bx S a w)(hb:B3 w W):FrZ Bx S a W:=⟨⟨Nat.le_trans h.fr.1 hb.size,fun k hk hn=>(hb.block k (by have:=h.fr.1;have:=h.le;omega)).trans (h.fr.2 k hk hn)⟩,h.le⟩
theorem FrZ.upd{Bx b:Nat}{S:List Nat}{a w W:World}(h:FrZ Bx S a w)(u:Upd w b W)(hb:b∈S):FrZ Bx S a W:=⟨⟨Nat.le_trans h.fr.1 (Nat.le_of_eq u.size.symm),fun k hk hn=>(u.block k fun e=>hn (e▸hb)).trans (h.fr.2 k hk hn)⟩,h.le⟩
theorem FrZ.grown{Bx:Nat}{S:List Nat}{a w W:World}{size n:Nat}{e:TypeId}{v:Value}{xs:List Value}(h:FrZ Bx S a w)(hg:w.grownBy W v.ownBlock)(hown:w.ownsRow Bx e size v n xs):FrZ Bx S a W:=⟨⟨Nat.le_trans h.fr.1 hg.size,fun k hk hn=>(hg.block k (by have:=h.fr.1;have:=h.le;omega) (fun e=>by have:=(hown.lt k e.symm).1;omega)).trans (h.fr.2 k hk hn)⟩,h.le⟩
theorem plot_data1(B Bx bl:Nat)(p:O0)(c:Nat)(L:List (List Int))(q i:Nat)(w:World)(hBm:B≤Bx)(hBx:Bx≤w.heap.size)(hBw:B≤w.heap.size)(hBl:B≤bl)(kl:Blk w bl [.slice p i c] 105)(hup:w.ownsRow Bx 122 3 (.slice p i c) i ((Yh L q i).flatMap Qz))(hq:1≤q+i)(hq2:q+i≤14399)(hi:i≤100000)(hf:Ys (L.getD i [])≤960)(hg:Xo (L.getD i [])≤960) :
 C0 116 #[.agg #[V0 (↑(q+i):Int),V0 (↑(Ys (L.getD i [])):Int),V0 (↑(Xo (L.getD i [])):Int)],P0 bl] w (ClosP B Bx bl L q i w):=by
 have hZ:FrZ Bx [bl] w w:=FrZ.refl hBx
 refine zin 11 Tryz.func116 ?_
 refine xa 2 [V0 (↑(q+i):Int),V0 (↑(Ys (L.getD i [])):Int),V0 (↑(Xo (L.getD i [])):Int)] 217 fun b1 W1 n1=>?_
 refine xd 2 (.t B [105,122]) ?_
 have k1:=n1.blk.below (Za W1)
 refine xlvt (.e [] 3) (.t B [105,122]) (fun V hV=>(k1.only hV.2 (by decide)).rp) ?_
 refine xm3 0 0 1 4 ?_ ?_ ?_
 ·have c6:=(kl.below n1.below).below (Za W1)
  refine xb 0 0 c6 ?_
  refine xm2 0 1 4 ?_ ?_
  ·refine xb 0 0 c6 ?_
   refine xr (.o [2] 4) (args:=#[.agg #[V0 (↑(q+i):Int),V0 (↑(Ys (L.getD i [])):Int),V0 (↑(Xo (L.getD i [])):Int)]]) (Hi (↑(q+i):Int) (↑(Ys (L.getD i [])):Int) (↑(Xo (L.getD i [])):Int) (by omega) (by omega) (by omega) (by omega) (by omega) (by omega) _) fun W2 e8=>?_
   refine xbs (.o [5] 6) 1 [V0 (i:Int),.string ⟨(leB (↑(q+i):Int) 8++leB (↑(Ys (L.getD i [])):Int) 4++leB (↑(Xo (L.getD i [])):Int) 4).toArray⟩,V0 0] 122 fun b3 W3 n3=>?_
   have d7:=Zb (Zb (Zb hup n1.below) (Za W1)) e8
   have k7:=Zu d7 n3
   have a6:=Zb d7 n3.below
   have hB:=blB (blB (blB (blB (Below.refl B w) hBw n1.below) hBw (Za W1)) hBw e8) hBw n3.below
   refine ybi (.o [] 7) (.t B [105,122]) fun _ _ _ _ zJ zQ zo zx zy zK=>Xd (m:=1) (news:=[V0 (i:Int),.string ⟨(leB (↑(q+i):Int) 8++leB (↑(Ys (L.getD i [])):Int) 4++leB (↑(Xo (L.getD i [])):Int) 4).toArray⟩,V0 0]) (.agg #[V0 0,.string ⟨#[]⟩,V0 0]) 3 32 (i+1) ((Yh L q (i+1)).flatMap Qz) zo Tryz.underlying105 (by kernel_rfl) rfl (by decide) zx a6 zy (n3.blk.sl 1 1 (by decide) (by decide)) rfl (by simp[Value.oneCell']) (by unfold maxLen;omega) (by omega) (Nat.le_trans hBx hB.size) (by rfl) (Jc L q i) fun l8 m5 W4 o4 h2 l4=>?_
   refine zK _ _ (Xv (l4.mono hBm) h2 a6 (by decide)) ?_
   have d4:=((c6.below e8).below n3.below).grown h2 a6 (by decide)
   refine ys (.o [] 8) d4 [.slice l8 (i+1) m5] (.t B [105,122]) fun W5 u5 k5=>⟨(Zl u5 d4 hBl (by decide)),?_⟩
   have i1:=u5.below (hB.trans (l4.mono hBm)) hBl
   have hO:=(((((show Zd [105,122] w _ from(Zd.of_below n1.below)).trans (Zd.of_below (Za W1))).trans (Zd.of_below e8)).trans (Zd.of_below n3.below)).trans (Zd.of_grown h2 a6 (by decide))).trans (Zd.of_upd u5 d4 (by decide))
   have k6:=u5.own2 o4 d4 (by decide)
   have j6:=(((((hZ.below n1.below).below (Za W1)).below e8).below n3.below).grown h2 a6).upd u5 (by simp)
   exact xe 1 (.tuple #[]) ⟨_,_,_,rfl,i1,hO,k5,k6,j6.fr⟩
  refine xr 0 (args:=#[.agg #[V0 (↑(q+i):Int),V0 (↑(Ys (L.getD i [])):Int),V0 (↑(Xo (L.getD i [])):Int)]]) (Hi (↑(q+i):Int) (↑(Ys (L.getD i [])):Int) (↑(Xo (L.getD i [])):Int) (by omega) (by omega) (by omega) (by omega) (by omega) (by omega) _) fun W6 g2=>?_
  have f6:=c6.below g2
  refine xb (.o [] 1) 0 f6 ?_
  refine xbs (.o [2,5] 6) 1 [V0 (i:Int),.string ⟨(leB (↑(q+i):Int) 8++leB (↑(Ys (L.getD i [])):Int) 4++leB (↑(Xo (L.getD i [])):Int) 4).toArray⟩,V0 0] 122 fun b7 W7 n7=>?_
  have d8:=Zb (Zb (Zb hup n1.below) (Za W1)) g2
  have l0:=Zu d8 n7
  have a7:=Zb d8 n7.below
  have hB:=blB (blB (blB (blB (Below.refl B w) hBw n1.below) hBw (Za W1)) hBw g2) hBw n7.below
  refine ybi (.o [] 7) (.t B [105,122]) fun _ _ _ _ zJ zQ zo zx zy zK=>Xd (m:=1) (news:=[V0 (i:Int),.string ⟨(leB (↑(q+i):Int) 8++leB (↑(Ys (L.getD i [])):Int) 4++leB (↑(Xo (L.getD i [])):Int) 4).toArray⟩,V0 0]) (.agg #[V0 0,.string ⟨#[]⟩,V0 0]) 3 32 (i+1) ((Yh L q (i+1)).flatMap Qz) zo Tryz.underlying105 (by kernel_rfl) rfl (by decide) zx a7 zy (n7.blk.sl 1 1 (by decide) (by decide)) rfl (by simp[Value.oneCell']) (by unfold maxLen;omega) (by omega) (Nat.le_trans hBx hB.size) (by rfl) (Jc L q i) fun n2 m3 W8 o8 h8 l5=>?_
  refine zK _ _ (Xv (l5.mono hBm) h8 a7 (by decide)) ?_
  have c7:=(f6.below n7.below).grown h8 a7 (by decide)
  refine ys (.o [] 8) c7 [.slice n2 (i+1) m3] (.t B [105,122]) fun W9 u9 k9=>⟨(Zl u9 c7 hBl (by decide)),?_⟩
  have i6:=u9.below (hB.trans (l5.mono hBm)) hBl
  have hO:=(((((show Zd [105,122] w _ from(Zd.of_below n1.below)).trans (Zd.of_below (Za W1))).trans (Zd.of_below g2)).trans (Zd.of_below n7.below)).trans (Zd.of_grown h8 a7 (by decide))).trans (Zd.of_upd u9 c7 (by decide))
  have i7:=u9.own2 o8 c7 (by decide)
  have i0:=(((((hZ.below n1.below).below (Za W1)).below g2).below n7.below).grown h8 a7).upd u9 (by simp)
  exact xe 1 (.tuple #[]) ⟨_,_,_,rfl,i6,hO,k9,i7,i0.fr⟩
 ·have b8:=(kl.below n1.below).below (Za W1)
  refine xb 0 0 b8 ?_
  refine xm2 (.b [2]) 0 4 ?_ ?_
  ·refine xb 0 0 b8 ?_
   refine xr (.o [] 4) (args:=#[.agg #[V0 (↑(q+i):Int),V0 (↑(Ys (L.getD i [])):Int),V0 (↑(Xo (L.getD i [])):Int)]]) (Hi (↑(q+i):Int) (↑(Ys (L.getD i [])):Int) (↑(Xo (L.getD i [])):Int) (by omega) (by omega) (by omega) (by omega) (by omega) (by omega) _) fun q0 c0=>?_
   refine xbs (.o [5] 6) 1 [V0 (i:Int),.string ⟨(leB (↑(q+i):Int) 8++leB (↑(Ys (L.getD i [])):Int) 4++leB (↑(Xo (L.getD i [])):Int) 4).toArray⟩,V0 0] 122 fun o9 q2 e6=>?_
   have d5:=Zb (Zb (Zb hup n1.below) (Za W1)) c0
   have h7:=Zu d5 e6
   have a9:=Zb d5 e6.below
   have hB:=blB (blB (blB (blB (Below.refl B w) hBw n1.below) hBw (Za W1)) hBw c0) hBw e6.below
   refine ybi (.o [] 7) (.t B [105,122]) fun _ _ _ _ zJ zQ zo zx zy zK=>Xd (m:=1) (news:=[V0 (i:Int),.string ⟨(leB (↑(q+i):Int) 8++leB (↑(Ys (L.getD i [])):Int) 4++leB (↑(Xo (L.getD i [])):Int) 4).toArray⟩,V0 0]) (.agg #[V0 0,.string ⟨#[]⟩,V0 0]) 3 32 (i+1) ((Yh L q (i+1)).flatMap Qz) zo Tryz.underlying105 (by kernel_rfl) rfl (by decide) zx a9 zy (e6.blk.sl 1 1 (by decide) (by decide)) rfl (by simp[Value.oneCell']) (by unfold maxLen;omega) (by omega) (Nat.le_trans hBx hB.size) (by rfl) (Jc L q i) fun j7 i5 p1 m6 d1 e9=>?_
   refine zK _ _ (Xv (e9.mono hBm) d1 a9 (by decide)) ?_
   have c9:=((b8.below c0).below e6.below).grown d1 a9 (by decide)
   refine ys (.o [] 8) c9 [.slice j7 (i+1) i5] (.t B [105,122]) fun o7 g8 m4=>⟨(Zl g8 c9 hBl (by decide)),?_⟩
   have j3:=g8.below (hB.trans (e9.mono hBm)) hBl
   have hO:=(((((show Zd [105,122] w _ from(Zd.of_below n1.below)).trans (Zd.of_below (Za W1))).trans (Zd.of_below c0)).trans (Zd.of_below e6.below)).trans (Zd.of_grown d1 a9 (by decide))).trans (Zd.of_upd g8 c9 (by decide))
   have g5:=g8.own2 m6 c9 (by decide)
   have j2:=(((((hZ.below n1.below).below (Za W1)).below c0).below e6.below).grown d1 a9).upd g8 (by simp)
   exact xe 1 (.tuple #[]) ⟨_,_,_,rfl,j3,hO,m4,g5,j2.fr⟩
  refine xr 0 (args:=#[.agg #[V0 (↑(q+i):Int),V0 (↑(Ys (L.getD i [])):Int),V0 (↑(Xo (L.getD i [])):Int)]]) (Hi (↑(q+i):Int) (↑(Ys (L.getD i [])):Int) (↑(Xo (L.getD i [])):Int) (by omega) (by omega) (by omega) (by omega) (by omega) (by omega) _) fun p0 a5=>?_
  refine xm2 (.b [5]) 0 6 ?_ ?_
  ·have h0:=b8.below a5
   refine xb 0 0 h0 ?_
   refine xbs (.o [] 6) 1 [V0 (i:Int),.string ⟨(leB (↑(q+i):Int) 8++leB (↑(Ys (L.getD i [])):Int) 4++leB (↑(Xo (L.getD i [])):Int) 4).toArray⟩,V0 0] 122 fun o2 q3 e4=>?_
   have d9:=Zb (Zb (Zb hup n1.below) (Za W1)) a5
   have h1:=Zu d9 e4
   have a8:=Zb d9 e4.below
   have hB:=blB (blB (blB (blB (Below.refl B w) hBw n1.below) hBw (Za W1)) hBw a5) hBw e4.below
   refine ybi (.o [] 7) (.t B [105,122]) fun _ _ _ _ zJ zQ zo zx zy zK=>Xd (m:=1) (news:=[V0 (i:Int),.string ⟨(leB (↑(q+i):Int) 8++leB (↑(Ys (L.getD i [])):Int) 4++leB (↑(Xo (L.getD i [])):Int) 4).toArray⟩,V0 0]) (.agg #[V0 0,.string ⟨#[]⟩,V0 0]) 3 32 (i+1) ((Yh L q (i+1)).flatMap Qz) zo Tryz.underlying105 (by kernel_rfl) rfl (by decide) zx a8 zy (e4.blk.sl 1 1 (by decide) (by decide)) rfl (by simp[Value.oneCell']) (by unfold maxLen;omega) (by omega) (Nat.le_trans hBx hB.size) (by rfl) (Jc L q i) fun k0 i8 o3 l9 c8 f7=>?_
   refine zK _ _ (Xv (f7.mono hBm) c8 a8 (by decide)) ?_
   have d3:=(h0.below e4.below).grown c8 a8 (by decide)
   refine ys (.o [] 8) d3 [.slice k0 (i+1) i8] (.t B [105,122]) fun p4 f2 m2=>⟨(Zl f2 d3 hBl (by decide)),?_⟩
   have j9:=f2.below (hB.trans (f7.mono hBm)) hBl
   have hO:=(((((show Zd [105,122] w _ from(Zd.of_below n1.below)).trans (Zd.of_below (Za W1))).trans (Zd.of_below a5)).trans (Zd.of_below e4.below)).trans (Zd.of_grown c8 a8 (by decide))).trans (Zd.of_upd f2 d3 (by decide))
   have f5:=f2.own2 l9 d3 (by decide)
   have j4:=(((((hZ.below n1.below).below (Za W1)).below a5).below e4.below).grown c8 a8).upd f2 (by simp)
   exact xe 1 (.tuple #[]) ⟨_,_,_,rfl,j9,hO,m2,f5,j4.fr⟩
  refine xbs 0 1 [V0 (i:Int),.string ⟨(leB (↑(q+i):Int) 8++leB (↑(Ys (L.getD i [])):Int) 4++leB (↑(Xo (L.getD i [])):Int) 4).toArray⟩,V0 0] 122 fun p7 o0 e2=>?_
  have d6:=Zb (Zb (Zb hup n1.below) (Za W1)) a5
  have h4:=Zu d6 e2
  have f3:=(b8.below a5).below e2.below
  refine xb (.o [] 0) 0 f3 ?_
  have a1:=Zb d6 e2.below
  have hB:=blB (blB (blB (blB (Below.refl B w) hBw n1.below) hBw (Za W1)) hBw a5) hBw e2.below
  refine ybi (.o [] 7) (.t B [105,122]) fun _ _ _ _ zJ zQ zo zx zy zK=>Xd (m:=1) (news:=[V0 (i:Int),.string ⟨(leB (↑(q+i):Int) 8++leB (↑(Ys (L.getD i [])):Int) 4++leB (↑(Xo (L.getD i [])):Int) 4).toArray⟩,V0 0]) (.agg #[V0 0,.string ⟨#[]⟩,V0 0]) 3 32 (i+1) ((Yh L q (i+1)).flatMap Qz) zo Tryz.underlying105 (by kernel_rfl) rfl (by decide) zx a1 zy (e2.blk.sl 1 1 (by decide) (by decide)) rfl (by simp[Value.oneCell']) (by unfold maxLen;omega) (by omega) (Nat.le_trans hBx hB.size) (by rfl) (Jc L q i) fun k4 l2 p6 m0 c4 e7=>?_
  refine zK _ _ (Xv (e7.mono hBm) c4 a1 (by decide)) ?_
  have b4:=f3.grown c4 a1 (by decide)
  refine ys (.o [] 8) b4 [.slice k4 (i+1) l2] (.t B [105,122]) fun o6 g6 l7=>⟨(Zl g6 b4 hBl (by decide)),?_⟩
  have j0:=g6.below (hB.trans (e7.mono hBm)) hBl
  have hO:=(((((show Zd [105,122] w _ from(Zd.of_below n1.below)).trans (Zd.of_below (Za W1))).trans (Zd.of_below a5)).trans (Zd.of_below e2.below)).trans (Zd.of_grown c4 a1 (by decide))).trans (Zd.of_upd g6 b4 (by decide))
  have f0:=g6.own2 m0 b4 (by decide)
  have l3:=(((((hZ.below n1.below).below (Za W1)).below a5).below e2.below).grown c4 a1).upd g6 (by simp)
  exact xe 1 (.tuple #[]) ⟨_,_,_,rfl,j0,hO,l7,f0,l3.fr⟩
 refine xr 0 (args:=#[.agg #[V0 (↑(q+i):Int),V0 (↑(Ys (L.getD i [])):Int),V0 (↑(Xo (L.getD i [])):Int)]]) (Hi (↑(q+i):Int) (↑(Ys (L.getD i [])):Int) (↑(Xo (L.getD i [])):Int) (by omega) (by omega) (by omega) (by omega) (by omega) (by omega) _) fun n9 a0=>?_
 refine xm2 0 0 1 ?_ ?_
 ·have b9:=((kl.below n1.below).below (Za W1)).below a0
  refine xb 0 0 b9 ?_
  refine xb (.o [] 1) 0 b9 ?_
  refine xbs (.o [2,5] 6) 1 [V0 (i:Int),.string ⟨(leB (↑(q+i):Int) 8++leB (↑(Ys (L.getD i [])):Int) 4++leB (↑(Xo (L.getD i [])):Int) 4).toArray⟩,V0 0] 122 fun p5 p2 e3=>?_
  have c1:=Zb (Zb (Zb hup n1.below) (Za W1)) a0
  have h6:=Zu c1 e3
  have a3:=Zb c1 e3.below
  have hB:=blB (blB (blB (blB (Below.refl B w) hBw n1.below) hBw (Za W1)) hBw a0) hBw e3.below
  refine ybi (.o [] 7) (.t B [105,122]) fun _ _ _ _ zJ zQ zo zx zy zK=>Xd (m:=1) (news:=[V0 (i:Int),.string ⟨(leB (↑(q+i):Int) 8++leB (↑(Ys (L.getD i [])):Int) 4++leB (↑(Xo (L.getD i [])):Int) 4).toArray⟩,V0 0]) (.agg #[V0 0,.string ⟨#[]⟩,V0 0]) 3 32 (i+1) ((Yh L q (i+1)).flatMap Qz) zo Tryz.underlying105 (by kernel_rfl) rfl (by decide) zx a3 zy (e3.blk.sl 1 1 (by decide) (by decide)) rfl (by simp[Value.oneCell']) (by unfold maxLen;omega) (by omega) (Nat.le_trans hBx hB.size) (by rfl) (Jc L q i) fun k2 j8 n6 n0 c5 g3=>?_
  refine zK _ _ (Xv (g3.mono hBm) c5 a3 (by decide)) ?_
  have b6:=(b9.below e3.below).grown c5 a3 (by decide)
  refine ys (.o [] 8) b6 [.slice k2 (i+1) j8] (.t B [105,122]) fun n4 f8 m9=>⟨(Zl f8 b6 hBl (by decide)),?_⟩
  have j1:=f8.below (hB.trans (g3.mono hBm)) hBl
  have hO:=(((((show Zd [105,122] w _ from(Zd.of_below n1.below)).trans (Zd.of_below (Za W1))).trans (Zd.of_below a0)).trans (Zd.of_below e3.below)).trans (Zd.of_grown c5 a3 (by decide))).trans (Zd.of_upd f8 b6 (by decide))
  have f9:=f8.own2 n0 b6 (by decide)
  have l1:=(((((hZ.below n1.below).below (Za W1)).below a0).below e3.below).grown c5 a3).upd f8 (by simp)
  exact xe 1 (.tuple #[]) ⟨_,_,_,rfl,j1,hO,m9,f9,l1.fr⟩
 have b0:=((kl.below n1.below).below (Za W1)).below a0
 refine xb 0 0 b0 ?_
 refine xm2 (.b [2,5]) 0 6 ?_ ?_
 ·refine xb 0 0 b0 ?_
  refine xbs (.o [] 6) 1 [V0 (i:Int),.string ⟨(leB (↑(q+i):Int) 8++leB (↑(Ys (L.getD i [])):Int) 4++leB (↑(Xo (L.getD i [])):Int) 4).toArray⟩,V0 0] 122 fun n5 q1 e5=>?_
  have c2:=Zb (Zb (Zb hup n1.below) (Za W1)) a0
  have h5:=Zu c2 e5
  have a4:=Zb c2 e5.below
  have hB:=blB (blB (blB (blB (Below.refl B w) hBw n1.below) hBw (Za W1)) hBw a0) hBw e5.below
  refine ybi (.o [] 7) (.t B [105,122]) fun _ _ _ _ zJ zQ zo zx zy zK=>Xd (m:=1) (news:=[V0 (i:Int),.string ⟨(leB (↑(q+i):Int) 8++leB (↑(Ys (L.getD i [])):Int) 4++leB (↑(Xo (L.getD i [])):Int) 4).toArray⟩,V0 0]) (.agg #[V0 0,.string ⟨#[]⟩,V0 0]) 3 32 (i+1) ((Yh L q (i+1)).flatMap Qz) zo Tryz.underlying105 (by kernel_rfl) rfl (by decide) zx a4 zy (e5.blk.sl 1 1 (by decide) (by decide)) rfl (by simp[Value.oneCell']) (by unfold maxLen;omega) (by omega) (Nat.le_trans hBx hB.size) (by rfl) (Jc L q i) fun j5 k3 n8 m8 d2 f1=>?_
  refine zK _ _ (Xv (f1.mono hBm) d2 a4 (by decide)) ?_
  have b2:=(b0.below e5.below).grown d2 a4 (by decide)
  refine ys (.o [] 8) b2 [.slice j5 (i+1) k3] (.t B [105,122]) fun o5 g0 l6=>⟨(Zl g0 b2 hBl (by decide)),?_⟩
  have i4:=g0.below (hB.trans (f1.mono hBm)) hBl
  have hO:=(((((show Zd [105,122] w _ from(Zd.of_below n1.below)).trans (Zd.of_below (Za W1))).trans (Zd.of_below a0)).trans (Zd.of_below e5.below)).trans (Zd.of_grown d2 a4 (by decide))).trans (Zd.of_upd g0 b2 (by decide))
  have f4:=g0.own2 m8 b2 (by decide)
  have k8:=(((((hZ.below n1.below).below (Za W1)).below a0).below e5.below).grown d2 a4).upd g0 (by simp)
  exact xe 1 (.tuple #[]) ⟨_,_,_,rfl,i4,hO,l6,f4,k8.fr⟩
 refine xbs 0 1 [V0 (i:Int),.string ⟨(leB (↑(q+i):Int) 8++leB (↑(Ys (L.getD i [])):Int) 4++leB (↑(Xo (L.getD i [])):Int) 4).toArray⟩,V0 0] 122 fun p3 p8 e1=>?_
 have c3:=Zb (Zb (Zb hup n1.below) (Za W1)) a0
 have h3:=Zu c3 e1
 have e0:=b0.below e1.below
 refine xb (.o [] 0) 0 e0 ?_
 have a2:=Zb c3 e1.below
 have hB:=blB (blB (blB (blB (Below.refl B w) hBw n1.below) hBw (Za W1)) hBw a0) hBw e1.below
 refine ybi (.o [] 7) (.t B [105,122]) fun _ _ _ _ zJ zQ zo zx zy zK=>Xd (m:=1) (news:=[V0 (i:Int),.string ⟨(leB (↑(q+i):Int) 8++leB (↑(Ys (L.getD i [])):Int) 4++leB (↑(Xo (L.getD i [])):Int) 4).toArray⟩,V0 0]) (.agg #[V0 0,.string ⟨#[]⟩,V0 0]) 3 32 (i+1) ((Yh L q (i+1)).flatMap Qz) zo Tryz.underlying105 (by kernel_rfl) rfl (by decide) zx a2 zy (e1.blk.sl 1 1 (by decide) (by decide)) rfl (by simp[Value.oneCell']) (by unfold maxLen;omega) (by omega) (Nat.le_trans hBx hB.size) (by rfl) (Jc L q i) fun i2 h9 p9 m7 d0 g9=>?_
 refine zK _ _ (Xv (g9.mono hBm) d0 a2 (by decide)) ?_
 have b5:=e0.grown d0 a2 (by decide)
 refine ys (.o [] 8) b5 [.slice i2 (i+1) h9] (.t B [105,122]) fun o1 g7 m1=>⟨(Zl g7 b5 hBl (by decide)),?_⟩
 have i9:=g7.below (hB.trans (g9.mono hBm)) hBl
 have hO:=(((((show Zd [105,122] w _ from(Zd.of_below n1.below)).trans (Zd.of_below (Za W1))).trans (Zd.of_below a0)).trans (Zd.of_below e1.below)).trans (Zd.of_grown d0 a2 (by decide))).trans (Zd.of_upd g7 b5 (by decide))
 have g1:=g7.own2 m7 b5 (by decide)
 have i3:=(((((hZ.below n1.below).below (Za W1)).below a0).below e1.below).grown d0 a2).upd g7 (by simp)
 exact xe 1 (.tuple #[]) ⟨_,_,_,rfl,i9,hO,m1,g1,i3.fr⟩
def LayPost(B ba b g nn cc:Nat)(pa:O0)(ca f N k0:Nat)(bs:Bl)(bl:Nat)(L:List (List Int))(w:World)(e:Ending)(w':World):Prop :=
 ∃ p c,e=.returned .nilIface∧Below B w w'∧Zd [152,5,105,122] w w'∧Fr [ba,g,bl] w w'∧Al B ba b g nn cc pa ca f N (k0+L.length) (Jl L (f+k0) bs L.length) w'∧Blk w' bl [.slice p L.length c] 105∧w'.ownsRow w.heap.size 122 3 (.slice p L.length c) L.length ((Yh L (f+k0) L.length).flatMap Qz)
theorem plot_layD(B ba b g nn cc:Nat)(pa:O0)(ca f N k0:Nat)(bs:Bl)(bl B2:Nat)(pl:O0)(cl:Nat)(gs:List (Nat×Nat))(L:List (List Int))(w:World)(hC:AlC B ba nn cc ca f N)(hA:Al B ba b g nn cc pa ca f N k0 bs w)(hL:Lists w B2 (.slice pl L.length cl) gs L)(hS:∀ i,i<L.length→Wp (L.getD i [])∧(L.getD i []).length≤960)(hf1:1≤f)(hk:k0+L.length≤N)(kl:Blk w bl [S0] 105)(hBl:B≤bl)(hBw:B≤w.heap.size) :
 C0 115 #[P0 ba,.slice pl L.length cl,.func (.func 116) #[] #[P0 bl]] w (LayPost B ba b g nn cc pa ca f N k0 bs bl L w):=by
 have d3:=hC.hf
 have d4:=hC.hn
 refine zin 51 Tryz.func115 ?_
 have hB:=Below.refl B w
 refine zl 14 51 (fun zm c5 V=>∃ (i:Nat) (p:O0) (c:Nat),c5=[(0,P0 ba),(2,.func (.func 116) #[] #[P0 bl]),(15,.slice pl L.length cl),(16,V0 (L.length:Int)),(17,V0 (i:Int))]∧zm=L.length-((i:Int)).toNat∧Below B w V∧Fr [ba,g,bl] w V∧Zd [152,5,105,122] w V∧Blk V bl ([.slice p i c]) 105∧Al B ba b g nn cc pa ca f N (k0+i) (Jl L (f+k0) bs i) V∧Lists V B2 (.slice pl L.length cl) gs L∧V.ownsRow w.heap.size 122 3 (.slice p i c) i ((Yh L (f+k0) i).flatMap Qz)∧i≤L.length) ⟨0,none,0,rfl,rfl,hB,(Fr.refl _ _),(Zd.refl _ _),kl,hA,hL,World.ownsRow_nil _ _ _ _,Nat.zero_le _⟩ ?_
 rintro _ _ W1 ⟨i,p,c,rfl,rfl,a2,b1,a9,a1,hA,hL,b2,hi⟩ J1 c4 r1
 refine xid 6 ((i:Int)<(L.length:Int)) (fun c8=>?_) (fun c8=>?_)
 ·refine xx 6 _ L.length i 1 (Lists.elem hL rfl (k:=i) (by omega)).1 ?_
  refine xl 0 ((Lists.elem hL rfl (k:=i) (by omega)).2) ?_
  refine xc 6 (args:=#[.slice (some ⟨(gs.getD i (0,0)).1,0,none⟩) ((L.getD i []).length) ((gs.getD i (0,0)).2)]) (Zf3 _ _ (L.getD i []) _ (hS i (by omega)).1 (hS i (by omega)).2 (Zf (hL.each i (by omega)))) ?_
  rintro _ W3 ⟨_,rfl,a5,g6,rfl,h6⟩
  have b5:=hA.below a5
  have a3:=a9.trans (Zd.of_below a5)
  have b6:=Zh h6 a2.size
  have b0:=blB a2 hBw a5
  refine xc 21 (args:=#[P0 ba,V0 3,.slice (S1 g6) 244 244]) (Pp B ba b g nn cc pa ca f N (k0+i) (Jl L (f+k0) bs i) 3 (S1 g6) 244 (Tf (L.getD i [])) (f+k0+i) 244 _ (Nat.add_assoc _ _ _).symm (Hy _ _) hC b5 (by omega) (by decide) (by decide) (fun W _ a3=>Qu (Zf (Zi b6 a3 (by decide))) (Hy _ _)) (by decide) (Nat.le_trans hBw b0.size)) ?_
  rintro _ W4 ⟨rfl,c7,b3,c6,hA⟩
  have a7:=(hL.below a5).only b3 (by decide)
  refine xr 20 (args:=#[.slice (some ⟨(gs.getD i (0,0)).1,0,none⟩) ((L.getD i []).length) ((gs.getD i (0,0)).2)]) (Zb6 _ _ (L.getD i []) _ (hS i (by omega)).2 (Zf (a7.each i (by omega)))) fun W5 a4=>?_
  have d0:Ys (L.getD i [])≤960:=Nat.le_trans (Ep _ _) (hS i (by omega)).2
  have c3:Xo (L.getD i [])≤960:=Nat.le_trans (Fm _) (hS i (by omega)).2
  have a6:=blB (b0.trans c7) hBw a4
  have a0:=((a1.below a5).only b3 (by decide)).below a4
  have a8:=Zb (Zi (Zb b2 a5) b3 (by decide)) a4
  refine xc 13 (args:=#[.agg #[V0 (↑(f+k0+i):Int),V0 (↑(Ys (L.getD i [])):Int),V0 (↑(Xo (L.getD i [])):Int)],P0 bl]) (plot_data1 B w.heap.size bl p c L (f+k0) i _ hBw a6.size (Nat.le_trans hBw a6.size) hBl a0 a8 (by omega) (by omega) (by omega) d0 c3) ?_
  rintro _ W6 ⟨_,p9,c9,rfl,c2,c0,d2,b2,d1⟩
  refine xwm 4 ((i:Int)+1) (↑(i+1):Int) ?_
  have b7:=(hA.below a4).only c0 (by decide)
  have b8:=(a7.below a4).only c0 (by decide)
  have c1:=a6.trans c2
  have b9:=(Fr.trans_B (((b1.trans (Fr.of_below a5)).trans (c6.mono (by simp))).trans (Fr.of_below a4)) d1 (by simp))
  have b4:=((a3.trans (b3.wide)).trans (Zd.of_below a4)).trans (c0.wide)
  exact ze 2 (c4 _ _ _ ⟨i+1,_,_,rfl,rfl,c1,b9,b4,d2,b7,b8,b2,by omega⟩ (by omega))
 refine xe 11 .nilIface ?_
 obtain rfl:i=L.length:=by omega
 exact⟨_,_,rfl,a2,a9,b1,hA,a1,b2⟩
theorem Nr(a:O0)(c:Nat)(l:List Int)(w:World)(h:Sl w (.slice a l.length c) l.length (l.map V0))(hl:l.length≤65536)(hs:Jd l=0):C0 112 #[.slice a l.length c] w (fun e w'=>∃ pb cb gs po co,e=.returned (.tuple #[.slice pb (bmN l.length) cb,.slice po (Zz l l.length).length co,V0 0])∧B3 w w'∧Lists w' w.heap.size (.slice pb (bmN l.length) cb) gs (Xs (Zw l) (bmN l.length))∧w'.ownsRow w.heap.size 122 3 (.slice po (Zz l l.length).length co) (Zz l l.length).length ((Zz l l.length).flatMap Qz)) :=
 (Zfi a c l w h hl).mono fun e w' q=>(q.resolve_left fun z=>z.1 hs).2
theorem plot_layDN(B ba b g nn cc:Nat)(pa:O0)(ca f N k0:Nat)(bs:Bl)(bl B2:Nat)(pl:O0)(cl:Nat)(gs:List (Nat×Nat))(L:List (List Int))(n:Nat)(hn:L.length=n)(w:World)(hC:AlC B ba nn cc ca f N)(hA:Al B ba b g nn cc pa ca f N k0 bs w)(hL:Lists w B2 (.slice pl n cl) gs L)(hS:∀ i,i<L.length→Wp (L.getD i [])∧(L.getD i []).length≤960)(hf1:1≤f)(hk:k0+n≤N)(kl:Blk w bl [S0] 105)(hBl:B≤bl)(hBw:B≤w.heap.size) :
 C0 115 #[P0 ba,.slice pl n cl,.func (.func 116) #[] #[P0 bl]] w (fun e w'=>∃ p c,e=.returned .nilIface∧Below B w w'∧Zd [152,5,105,122] w w'∧Fr ([ba,g]++[bl]) w w'∧Al B ba b g nn cc pa ca f N (k0+n) (Jl L (f+k0) bs n) w'∧Blk w' bl [.slice p n c] 105∧w'.ownsRow w.heap.size 122 3 (.slice p n c) n ((Yh L (f+k0) n).flatMap Qz)):=by
 subst hn;exact plot_layD B ba b g nn cc pa ca f N k0 bs bl B2 pl cl gs L w hC hA hL hS hf1 hk kl hBl hBw
theorem De{l:List Int}(h:∀ k,k<l.length→Pe (l.getD k 0))(n:Nat):∀ i,i<(Xs (Zw l) n).length→Wp ((Xs (Zw l) n).getD i [])∧((Xs (Zw l) n).getD i []).length≤960:=fun i hi=>by
 rw[Hw] at hi
 rw[Zd6 hi]
 exact⟨Zec (small_ok h) i,by rw[Ia];omega⟩
theorem own_keep{w W:World}{B ba b g nn cc:Nat}{pa:O0}{ca f N k0 bl:Nat}{bs:Bl}{cs:List Value}{base n:Nat}{v:Value}{xs:List Value}(k:w.ownsRow base 122 3 v n xs)(hA:Al B ba b g nn cc pa ca f N k0 bs w)(kl:Blk w bl cs 105)(hX:Fr ([ba,g]++[bl]) w W):W.ownsRow base 122 3 v n xs:=Sz k hX fun j hj hm=>by
 obtain⟨a0,kb⟩:=Ro hA.data
 simp only[List.cons_append,List.nil_append,List.mem_cons,List.not_mem_nil,or_false] at hm
 rcases hm with h|h|h
 ·exact Xh k hA.blkA (by decide) _ hj h
 ·exact Xh k kb (by decide) _ hj h
 ·exact Xh k kl (by decide) _ hj h
def DataP(B ba b g nn cc:Nat)(pa:O0)(ca f N k0:Nat)(bs:Bl)(l:List Int)(w:World)(e:Ending)(w':World):Prop :=
 e=.returned (.tuple #[V0 (Iz l (f+k0) bs).1,V0 (Iz l (f+k0) bs).2.1,.nilIface])∧Below B w w'∧Zd [152,5,105,122,32] w w'∧Fr [ba,g] w w'∧Al B ba b g nn cc pa ca f N (k0+Pa l) (Iz l (f+k0) bs).2.2 w'
theorem Dp(n:Nat)(w:World)(hn:n≤65536) :
 C0 123 #[V0 (n:Int)] w (Ret (V0 (↑(bmN n):Int)) w):=by
 refine zin 9 Tryz.func123 ?_
 refine xid 12 ((n:Int)<(1:Int)) (fun a0=>?_) (fun a0=>?_)
 ·exact xe 7 (V0 0) ⟨by rw[show bmN n=0 from by unfold bmN;omega];rfl,(B4 w)⟩
 refine xwm 5 ((n:Int)-1) (↑(n-1):Int) ?_
 refine xq 0 (congrArg V0 (show(IntKind.i64.wrap (Int.tdiv (↑(n-1):Int) 960):Int)=(↑((n-1)/960):Int) from Zgb (n-1) 960 (by omega) (by decide))) ?_
 refine xw 0 ((↑((n-1)/960):Int)+1) ?_
 exact xe 4 (V0 ((↑((n-1)/960):Int)+1)) ⟨by rw[show bmN n=(n-1)/960+1 from by unfold bmN;omega,Int.natCast_add];rfl,(B4 w)⟩
theorem Dt{cs:List Nat}{i:Nat}(h:i<cs.length):(cs.take (i+1)).sum=(cs.take i).sum+cs.getD i 0:=by
 rw[List.take_succ_eq_append_getElem h,List.sum_append];simp[List.getD,h]
theorem nat_sum_le(cs:List Nat)(i:Nat):(cs.take i).sum≤cs.sum:=by
 conv=>rhs;rw[←List.take_append_drop i cs]
 rw[List.sum_append];omega
theorem La{w:World}{pc:O0}{n m:Nat}{cs:List Nat}(h:Sl w (.slice pc n m) n (cs.map nv))(hn:cs.length=n){k:Nat}(hk:k<n):pc.isSome=true∧w.cell? (Zo pc (k*1))=some (V0 ((cs.getD k 0:Nat):Int)):=Nh h (by omega)
theorem Zgu(a:O0)(n c:Nat)(cs:List Nat)(w:World)(hn:cs.length=n)(h:Sl w (.slice a n c) n (cs.map nv))(hs:cs.sum≤1000000000) :
 C0 179 #[.slice a n c] w (Ret (V0 (cs.sum:Int)) w):=by
 have a4:=Sl.len h
 refine zin 17 Tryz.func179 ?_
 have hB:=Below.refl w.heap.size w
 refine zl 19 17 (fun zm a2 V=>∃ (i:Nat),a2=[(2,V0 0),(3,V0 (↑((cs.take i).sum):Int)),(6,.slice a n c),(7,V0 (n:Int)),(8,V0 (i:Int))]∧zm=n-((i:Int)).toNat∧B3 w V∧i≤n) ⟨0,rfl,rfl,hB,Nat.zero_le _⟩ ?_
 rintro _ _ W1 ⟨i,rfl,rfl,a0,hi⟩ J1 a1 r1
 have a6:=nat_sum_le cs (i+1)
 refine xid 6 ((i:Int)<(n:Int)) (fun a3=>?_) (fun a3=>?_)
 ·have a5:=Dt (cs:=cs) (i:=i) (by omega)
  refine xx 6 _ n i 1 (La h hn (k:=i) (by omega)).1 ?_
  refine xl 0 ((La (h.below a0) hn (k:=i) (by omega)).2) ?_
  refine xwm 6 ((↑((cs.take i).sum):Int)+(↑(cs.getD i 0):Int)) (↑(((cs.take i).sum)+(cs.getD i 0)):Int) ?_
  refine xwm 5 ((i:Int)+1) (↑(i+1):Int) ?_
  refine xv1 2 3 (show(V0 (↑(((cs.take i).sum)+(cs.getD i 0)):Int):Value)=V0 (↑((cs.take (i+1)).sum):Int) from by rw[Dt (i:=i) (by omega)]) ?_
  exact ze 0 (a1 _ _ _ ⟨i+1,rfl,rfl,a0,by omega⟩ (by omega))
 exact xe 12 (V0 (↑((cs.take i).sum):Int)) ⟨by rw[List.take_of_length_le (by omega)],a0⟩
theorem size_often(p:O0)(c n x:Nat)(t u v:Int)(Z:List Zv)(w:World)(hZ:Z.length=n)(hP:DevsR w p c Z)(hk:PoolOk t u v (x:Int) (Z.map Prod.fst)) :
 C0 180 #[.agg #[V0 t,V0 u,V0 v,V0 (x:Int),.slice p n c]] w (Ret (V0 (↑(oftL x (Z.map Prod.fst)):Int)) w):=by
 have hx:x≤65536:=by have:=hk.hdata;omega
 refine zin 19 Tryz.func180 ?_
 refine xa 2 [V0 t,V0 u,V0 v,V0 (x:Int),.slice p n c] 28 fun b1 W1 n1=>?_
 refine xlv 11 n1.blk.rp ?_
 refine xc 0 (args:=#[.agg #[V0 t,V0 u,V0 v,V0 (x:Int),.slice p n c]]) (Ld p c n x t u v Z _ hZ (hP.below n1.below) hk) ?_
 rintro _ W2 ⟨_,rfl,a7,q9,d9,rfl,a2⟩
 have a3:=Zh a2 n1.below.size
 have a5:=bln n1.below a7
 have a4:=n1.blk.below a7
 refine zl 5 19 (fun zm a9 V=>∃ (i:Nat),a9=[(2,V0 0),(3,V0 (↑(Za6 (Jv x (Z.map Prod.fst)) i):Int)),(7,.slice q9 x d9),(8,V0 (x:Int)),(9,V0 (i:Int))]∧zm=x-((i:Int)).toNat∧B3 w V∧Blk V b1 ([V0 t,V0 u,V0 v,V0 (x:Int),.slice p n c]) 28∧V.ownsRow w.heap.size 3 1 (.slice q9 x d9) x ((Jv x (Z.map Prod.fst)).map nv)∧i≤x) ⟨0,rfl,rfl,a5,a4,a3,Nat.zero_le _⟩ ?_
 rintro _ _ W3 ⟨i,rfl,rfl,a1,a0,a2,hi⟩ J3 a6 r3
 refine xid 6 ((i:Int)<(x:Int)) (fun b0=>?_) (fun b0=>?_)
 ·have b2:Za6 (Jv x (Z.map Prod.fst)) i≤i:=by unfold Za6;exact Nat.le_trans (List.length_filter_le _ _) (by rw[List.length_take];exact Nat.min_le_left _ _)
  refine xx 6 _ x i 1 (La (Zf a2) (Kk _ _) (k:=i) (by omega)).1 ?_
  refine xl 0 ((La (Zf a2) (Kk _ _) (k:=i) (by omega)).2) ?_
  refine xid 9 ((↑((Jv x (Z.map Prod.fst)).getD i 0):Int)≥(3:Int)) (fun a8=>?_) (fun a8=>?_)
  ·refine xwm 2 ((↑(Za6 (Jv x (Z.map Prod.fst)) i):Int)+1) (↑((Za6 (Jv x (Z.map Prod.fst)) i)+1):Int) ?_
   refine xwm 5 ((i:Int)+1) (↑(i+1):Int) ?_
   refine xv1 2 3 (show(V0 (↑((Za6 (Jv x (Z.map Prod.fst)) i)+1):Int):Value)=V0 (↑(Za6 (Jv x (Z.map Prod.fst)) (i+1)):Int) from by rw[Bc (k:=i) (by rw[Kk];omega),if_pos (by omega)]) ?_
   exact ze 0 (a6 _ _ _ ⟨i+1,rfl,rfl,a1,a0,a2,by omega⟩ (by omega))
  refine xwm 4 ((i:Int)+1) (↑(i+1):Int) ?_
  refine xv1 2 3 (show(V0 (↑(Za6 (Jv x (Z.map Prod.fst)) i):Int):Value)=V0 (↑(Za6 (Jv x (Z.map Prod.fst)) (i+1)):Int) from by rw[Bc (k:=i) (by rw[Kk];omega),if_neg (by omega),Nat.add_zero]) ?_
  exact ze 0 (a6 _ _ _ ⟨i+1,rfl,rfl,a1,a0,a2,by omega⟩ (by omega))
 exact xe 12 (V0 (↑(Za6 (Jv x (Z.map Prod.fst)) i):Int)) ⟨by obtain rfl:i=x:=(by omega);rfl,a1⟩
theorem devs_row{Z:List Zv}{i:Nat}(h:i<Z.length):((((Z.map Prod.fst).map fun d=>Xw 2 d.2.length).take i).map nv)++[V0 (↑(Xw 2 (Z.getD i zvD).1.2.length):Int)]=((((Z.map Prod.fst).map fun d=>Xw 2 d.2.length).take (i+1)).map nv):=by
 rw[List.take_succ_eq_append_getElem (by simpa using h),List.map_append]
 simp[List.getD,h,nv]
theorem dev_few{data:Int}{Z:List Zv}(hk:DevsOk data (Z.map Prod.fst)){i:Nat}(h:i<Z.length):(Z.getD i zvD).1.2.length≤16384:=by
 have a:=hk.sum
 have b:=Zf5 (L:=Z.map Prod.fst) (i:=i) (by rw[List.length_map];exact h)
 rw[zfst h] at b
 omega
theorem Zf2{L:List Dv}:(L.map fun d=>Xw 2 d.2.length).length=L.length:=List.length_map ..
theorem size_sum7(b a1 a2 a3 a4 a5 a6:Nat)(w:World)(k:Blk w b [V0 1,V0 (a1:Int),V0 (a2:Int),V0 (a3:Int),V0 (a4:Int),V0 (a5:Int),V0 (a6:Int)] 3)(h:1+a1+a2+a3+a4+a5+a6≤1000000000) :
 C0 179 #[.slice (S1 b) 7 7] w (Ret (V0 (↑(1+a1+a2+a3+a4+a5+a6):Int)) w):=by
 have e:[1,a1,a2,a3,a4,a5,a6].sum=1+a1+a2+a3+a4+a5+a6:=by simp only[List.sum_cons,List.sum_nil];omega
 have q:=Zgu (S1 b) 7 7 [1,a1,a2,a3,a4,a5,a6] w rfl (k.sl 7 7 (by decide) (by decide)) (by rw[e];exact h)
 rw[e] at q
 exact q
theorem base_eq{x n:Nat}{L:List Dv}(h:L.length=n):1+Xw 3 n+Xw 1 n+My L+bmN x+Xw 4 (bmN x)+Xw 5 (oftL x L)=Ej x L:=by
 subst h;rfl
theorem size_Base(p:O0)(c n x:Nat)(t u v:Int)(Z:List Zv)(w:World)(hZ:Z.length=n)(hP:DevsR w p c Z)(hk:PoolOk t u v (x:Int) (Z.map Prod.fst)) :
 C0 106 #[.agg #[V0 t,V0 u,V0 v,V0 (x:Int),.slice p n c]] w (Ret (V0 (↑(Ej x (Z.map Prod.fst)):Int)) w):=by
 have hx:x≤65536:=by have:=hk.hdata;omega
 have c6:(Z.map Prod.fst).length=n:=by rw[List.length_map];exact hZ
 have d8:=hk.devs.few
 have f2:=hk.devs.sum
 rw[c6] at d8
 have e5:=Lf hk.devs
 have e7:=Zg0 hx hk.devs
 have e8:bmN x≤69:=by unfold bmN;omega
 have f5:=Sl.len (hP.rowN hZ)
 refine zin 46 Tryz.func106 ?_
 refine xa 2 [V0 t,V0 u,V0 v,V0 (x:Int),.slice p n c] 28 fun b1 W1 n1=>?_
 refine xlv 6 n1.blk.rp ?_
 refine xr 0 (args:=#[.agg #[V0 t,V0 u,V0 v,V0 (x:Int),.slice p n c]]) (Bu p c n t u v (x:Int) Z _ hZ (hP.below n1.below)) fun W2 d3=>?_
 refine xk 3 (show(((Gq t u v (x:Int) (Z.map Prod.fst)) != (0:Int)):Bool)=false from by rw[Oa.2 hk];rfl) ?_
 have a7:=n1.blk.below d3
 refine xb 11 4 a7 ?_
 have c7:=bln n1.below d3
 refine zl 5 46 (fun zm e1 V=>∃ (i:Nat) (p3:O0) (c3:Nat),e1=[(1,P0 b1),(2,V0 0),(3,.slice p3 i c3),(11,.slice p n c),(12,V0 (n:Int)),(13,V0 (i:Int))]∧zm=n-((i:Int)).toNat∧B3 w V∧Blk V b1 ([V0 t,V0 u,V0 v,V0 (x:Int),.slice p n c]) 28∧V.ownsRow w.heap.size 3 1 (.slice p3 i c3) i ((((Z.map Prod.fst).map fun d=>Xw 2 d.2.length).take i).map nv)∧i≤n) ⟨0,none,0,rfl,rfl,c7,a7,World.ownsRow_nil _ _ _ _,Nat.zero_le _⟩ ?_
 rintro _ _ W3 ⟨i,p3,c3,rfl,rfl,a3,a1,hl,hi⟩ J3 d7 r3
 refine xid 6 ((i:Int)<(n:Int)) (fun d9=>?_) (fun d9=>?_)
 ·have e2:=dev_few hk.devs (i:=i) (by omega)
  refine xx 6 _ n i 5 (hP.someN hZ (i:=i) (by omega)) ?_
  refine xlv 0 (Sts.rp (k:=i) (hP.below a3).row Gg zvD (by omega) (by decide)) ?_
  refine xa 0 [V0 0,V0 0,V0 0,V0 0,S0] 42 fun b5 W5 n5=>?_
  have g5:=n5.ge a3
  refine xsv 0 n5.blk [V0 ((Z.getD i zvD).1.1.1),V0 ((Z.getD i zvD).1.1.2.1),V0 ((Z.getD i zvD).1.1.2.2.1),V0 ((Z.getD i zvD).1.1.2.2.2),.slice ((Z.getD i zvD).2.1) ((Z.getD i zvD).1.2.length) ((Z.getD i zvD).2.2)] fun W6 u6 k6=>?_
  refine xb 5 4 k6 ?_
  refine xr 1 (args:=#[V0 2,V0 (↑((Z.getD i zvD).1.2.length):Int)]) (Qq 2 ((Z.getD i zvD).1.2.length) _ (by decide) (by decide) (by omega)) fun W7 d2=>?_
  refine xbs 0 1 [V0 (↑(Xw 2 ((Z.getD i zvD).1.2.length)):Int)] 3 fun b8 W8 n8=>?_
  have b9:=bln (u6.below (bln a3 n5.below) g5) d2
  have g8:=n8.ge b9
  have b6:=Zb (u6.own2 (Zb hl n5.below) n5.blk (by decide)) d2
  have d5:=Zu b6 n8
  have a5:=Zb b6 n8.below
  have c0:=bln b9 n8.below
  refine xbi 0 fun _ _ _ _ zJ zQ zo zx zy zK=>Xd (m:=1) (news:=[V0 (↑(Xw 2 ((Z.getD i zvD).1.2.length)):Int)]) (V0 0) 1 8 (i+1) (((((Z.map Prod.fst).map fun d=>Xw 2 d.2.length).take (i+1)).map nv)) zo Tryz.underlying35 (by kernel_rfl) rfl (by decide) zx a5 zy (n8.blk.sl 1 1 (by decide) (by decide)) rfl (by simp[Value.oneCell']) (by unfold maxLen;omega) (by omega) c0.size (by rfl) (by exact devs_row (by omega)) fun e4 f6 W9 o9 d6 e0=>?_
  refine zK _ _ ?_
  refine xwm 5 ((i:Int)+1) (↑(i+1):Int) ?_
  have d1:=c0.trans e0
  have a2:=(((u6.blkT (a1.below n5.below) n5.blk (by decide)).below d2).below n8.below).grown d6 a5 (by decide)
  exact ze 2 (d7 _ _ _ ⟨i+1,_,_,rfl,rfl,d1,a2,o9,by omega⟩ (by omega))
 obtain rfl:n=i:=by omega
 rw[List.take_of_length_le (by rw[Zf2,List.length_map];omega)] at hl
 refine xb 8 3 a1 ?_
 refine xr 0 (args:=#[V0 (x:Int)]) (Dp x _ hx) fun c8 a4=>?_
 refine xd 4 .z ?_
 have a0:=(a1.below a4).below (Za c8)
 refine xb (.e [0] 1) 4 a0 ?_
 refine xb (.e [2,4] 5) 4 a0 ?_
 refine xlv (.e [6,8,10,11] 13) a0.rp ?_
 refine xr (.o [] 3) (args:=#[V0 3,V0 (n:Int)]) (Qq 3 n _ (by decide) (by decide) (by omega)) fun f1 a8=>?_
 refine xr (.o [] 7) (args:=#[V0 1,V0 (n:Int)]) (Qq 1 n _ (by decide) (by decide) (by omega)) fun f0 c1=>?_
 have b7:=Zb (Zb (Zb (Zb hl a4) (Za c8)) a8) c1
 refine xr (.o [] 9) (args:=#[.slice p3 n c3]) (Zgu p3 n c3 ((Z.map Prod.fst).map fun d=>Xw 2 d.2.length) _ (by rw[Zf2,List.length_map];exact hZ) (Zf b7) (by have:=Zgg (L:=(Z.map Prod.fst));unfold My at this;omega)) fun e6 b3=>?_
 refine xr (.o [] 12) (args:=#[V0 4,V0 (↑(bmN x):Int)]) (Qq 4 (bmN x) _ (by decide) (by decide) (by omega)) fun e9 b4=>?_
 have a9:=bln (bln (bln (bln (bln (bln a3 a4) (Za c8)) a8) c1) b3) b4
 refine xr (.o [] 14) (args:=#[.agg #[V0 t,V0 u,V0 v,V0 (x:Int),.slice p n c]]) (size_often p c n x t u v Z _ hZ (hP.below a9) hk) fun f7 a6=>?_
 refine xr (.o [] 15) (args:=#[V0 5,V0 (↑(oftL x (Z.map Prod.fst)):Int)]) (Qq 5 (oftL x (Z.map Prod.fst)) _ (by decide) (by decide) (by omega)) fun f3 b2=>?_
 refine xbs (.o [] 16) 7 [V0 1,V0 (↑(Xw 3 n):Int),V0 (↑(Xw 1 n):Int),V0 (↑(My (Z.map Prod.fst)):Int),V0 (↑(bmN x):Int),V0 (↑(Xw 4 (bmN x)):Int),V0 (↑(Xw 5 (oftL x (Z.map Prod.fst))):Int)] 3 fun d4 f4 c2=>?_
 have b0:=bln (bln a9 a6) b2
 have f8:=c2.ge b0
 have c5:=Zb (Zb (Zb (Zb b7 b3) b4) a6) b2
 have c4:=Zu c5 c2
 refine xr (.o [] 17) (args:=#[.slice (S1 d4) 7 7]) (by have q:=size_sum7 d4 (Xw 3 n) (Xw 1 n) (My (Z.map Prod.fst)) (bmN x) (Xw 4 (bmN x)) (Xw 5 (oftL x (Z.map Prod.fst))) _ c2.blk (by rw[base_eq c6];omega);rw[base_eq c6] at q;exact q) fun e3 c9=>?_
 have d0:=bln (bln b0 c2.below) c9
 exact xe (.r [18] 3) (V0 (↑(Ej x (Z.map Prod.fst)):Int)) ⟨rfl,d0⟩
theorem need_quo(bs:Nat)(h:bs≤100000):IntKind.i64.wrap (Int.tdiv (↑(bs+1):Int) 959)=(↑((bs+1)/959):Int):=by
 rw[show(959:Int)=((959:Nat):Int) from rfl,←Int.ofNat_tdiv]
 exact IntWalk.i64_in _ (by omega)
theorem size_Need(p:O0)(c n x:Nat)(t u v:Int)(Z:List Zv)(w:World)(hZ:Z.length=n)(hP:DevsR w p c Z)(hk:PoolOk t u v (x:Int) (Z.map Prod.fst)) :
 C0 64 #[.agg #[V0 t,V0 u,V0 v,V0 (x:Int),.slice p n c]] w (Ret (V0 (↑(Ms x (Z.map Prod.fst)):Int)) w):=by
 have hx:x≤65536:=by have:=hk.hdata;omega
 have a2:=Zg0 hx hk.devs
 obtain⟨bs,a0⟩:∃ y,Ej x (Z.map Prod.fst)=y:=⟨_,rfl⟩
 rw[a0] at a2
 refine zin 17 Tryz.func64 ?_
 refine xa 2 [V0 t,V0 u,V0 v,V0 (x:Int),.slice p n c] 28 fun b1 W1 n1=>?_
 refine xlv 5 n1.blk.rp ?_
 refine xr 0 (args:=#[.agg #[V0 t,V0 u,V0 v,V0 (x:Int),.slice p n c]]) (by have q:=size_Base p c n x t u v Z _ hZ (hP.below n1.below) hk;rw[a0] at q;exact q) fun W2 a3=>?_
 refine xk 10 (show(((bs:Int)==(0:Int)):Bool)=false from beq_false_of_ne (by omega)) ?_
 refine xwm 5 ((bs:Int)+2) (↑(bs+2):Int) ?_
 refine xwm 7 ((↑(bs+2):Int)-1) (↑((bs+2)-1):Int) ?_
 refine xq 0 (congrArg V0 (show(IntKind.i64.wrap (Int.tdiv (↑((bs+2)-1):Int) 959):Int)=(↑((bs+1)/959):Int) from need_quo bs a2.2)) ?_
 refine xwm 0 ((↑(bs+2):Int)+(↑((bs+1)/959):Int)) (↑((bs+2)+((bs+1)/959)):Int) ?_
 refine xwm 0 ((↑((bs+2)+((bs+1)/959)):Int)+1) (↑(((bs+2)+((bs+1)/959))+1):Int) ?_
 have a1:=bln n1.below a3
 exact xe 4 (V0 (↑(((bs+2)+((bs+1)/959))+1):Int)) ⟨by unfold Ms Zfb;rw[a0];exact congrArg (fun z:Int=>Ending.returned (Value.int .i64 z)) (by omega),a1⟩
def entE(v:Nat)(l:List Ent)(i:Nat):Prop:=lastK l i<(l.getD i Zn).1∧(l.getD i Zn).1≤281474976710655∧(l.getD i Zn).2.1.length=v
instance (v:Nat) (l:List Ent) (i:Nat):Decidable (entE v l i):=by unfold entE;infer_instance
structure AlG(B ba b:Nat)(pa:Option Addr)(N ca k:Nat)(L:List Int)(w:World):Prop where
 blk:Blk w ba [.slice pa N ca,.int .i64 (k:Int),.pointer (some ⟨b,0,none⟩)] 152
 nums:w.ownsRow B 3 1 (.slice pa N ca) N (L.map (Value.int .i64))
 hL:L.length=N
 hB:B≤ba
 hN:N≤1000000
 hk:k≤N
theorem AlG.below{B ba b:Nat}{pa:O0}{N ca k:Nat}{L:List Int}{w W:World}(h:AlG B ba b pa N ca k L w)(hb:B3 w W):AlG B ba b pa N ca k L W:=⟨h.blk.below hb,Zb h.nums hb,h.hL,h.hB,h.hN,h.hk⟩
theorem AlG.only{B ba b:Nat}{pa:O0}{N ca k:Nat}{L:List Int}{w W:World}{T:List TypeId}(h:AlG B ba b pa N ca k L w)(hO:Zd T w W)(hT:T.contains 152=false∧T.contains 3=false):AlG B ba b pa N ca k L W:=⟨h.blk.only hO hT.1,Zi h.nums hO hT.2,h.hL,h.hB,h.hN,h.hk⟩
theorem AlG.mono{B B' ba b:Nat}{pa:O0}{N ca k:Nat}{L:List Int}{w:World}(h:AlG B ba b pa N ca k L w)(hB:B'≤B):AlG B' ba b pa N ca k L w:=⟨h.blk,Zh h.nums hB,h.hL,Nat.le_trans hB h.hB,h.hN,h.hk⟩
theorem clone_ints(p:Addr)(N c:Nat)(xs:List Value)(w:World)(h:Sl w (.slice (some p) N c) N xs)(hl:xs.length=N)(h1:∀ u∈xs,u.oneCell'=true)(hn:N≤1000000) :
 C0 124 #[.slice (some p) N c] w (Vo (fun w' r=>∃ q c2,r=.slice q N c2∧w'.ownsRow w.heap.size 3 1 (.slice q N c2) N xs) w):=by
 refine zin 8 Tryz.func124 ?_
 refine xb0 17 3 fun b1 W1 n1=>?_
 have o1:=Xl (size:=1) (n:=0) n1.blk (n1.ge (B4 w)) rfl (by decide)
 refine xbi 1 fun _ _ _ _ zJ zQ zo zx zy zK=>Xd (m:=N) (news:=xs) (V0 0) 1 8 (N) (xs) zo Tryz.underlying35 (by kernel_rfl) rfl (by decide) zx o1 zy (h.below n1.below) (by rw[hl,Nat.mul_one]) h1 (by unfold maxLen;omega) (by omega) n1.below.size (by omega) (by rfl) fun a1 a3 W2 o2 a4 a2=>?_
 refine zK _ _ ?_
 have a0:=n1.below.trans a2
 exact xe 4 (.slice a1 N a3) ⟨_,rfl,a0,_,_,rfl,o2⟩
theorem Tg(w:World) :
 C0 124 #[S0] w (Ret (S0) w):=by
 refine zin 8 Tryz.func124 ?_
 exact xe 20 (S0) ⟨rfl,(B4 w)⟩
theorem Zff(a:O0)(N c:Nat)(xs:List Value)(w:World)(h:Sl w (.slice a N c) N xs)(hc:a=none→c=0)(hl:xs.length=N)(h1:∀ u∈xs,u.oneCell'=true)(hn:N≤1000000) :
 C0 124 #[.slice a N c] w (Vo (fun w' r=>∃ q c2,r=.slice q N c2∧w'.ownsRow w.heap.size 3 1 (.slice q N c2) N xs) w):=by
 cases a with
 | some p=>exact clone_ints p N c xs w h hl h1 hn
 | none =>
  have hN:N=0∧xs=[]:=by
   rcases h with ⟨a',c',h2,h3,h4⟩|⟨b',a0,a1,h2,_⟩
   ·simp only[Value.slice.injEq] at h2;exact⟨h2.2.1,h4⟩
   ·cases h2
  obtain⟨rfl,rfl⟩:=hN
  obtain rfl:=hc rfl
  refine(Tg w).mono ?_
  rintro e W ⟨rfl,hb⟩
  exact⟨_,rfl,hb,none,0,rfl,World.ownsRow_nil _ _ _ _⟩
theorem sl_cut{w:World}{b:O0}{n c:Nat}{xs:List Value}(h:Sl w (.slice b n c) n xs)(hl:xs.length=n)(k:Nat)(hk:k≤n):Sl w (.slice (Wh b k c 1) (n-k) (c-k)) (n-k) (xs.drop k):=by
 rcases h with ⟨a',c',h1,h2,h3⟩|⟨g,a0,a1,h1,h2,h3,h4⟩
 ·obtain rfl:k=0:=by omega
  subst h3 h2
  exact .inl ⟨Wh b 0 c 1,c-0,rfl,rfl,rfl⟩
 ·simp only[Value.slice.injEq] at h1
  obtain⟨rfl,_,rfl⟩:=h1
  by_cases hz:n-k=0
  ·refine .inl ⟨Wh (some ⟨g,a0,none⟩) k c 1,c-k,by rw[hz],by omega,?_⟩
   exact List.drop_eq_nil_of_le (by omega)
  ·refine .inr ⟨g,a0+k*1,c-k,?_,by omega,by omega,fun j x hj=>?_⟩
   ·rw[Wh,if_neg (by omega)];simp[Addr.add]
   ·rw[List.getElem?_drop] at hj
    have:=h4 (k+j) x hj
    rwa [Nat.mul_one,Nat.add_assoc]
theorem sl_take{w:World}{b:O0}{n c:Nat}{xs:List Value}(h:Sl w (.slice b n c) n xs)(hl:xs.length=n)(m:Nat)(hm:m≤n):Sl w (.slice b m c) m (xs.take m):=Sl.head h hl m hm
theorem aheadSl{w:World}{b:O0}{n c k i:Nat}{L:List Int}(h:Sl w (.slice b n c) n (L.map V0))(hl:L.length=n)(hk:k≤n):Sl w (.slice (Wh b k c 1) (min i (n-k)) (c-k)) (min i (n-k)) (((L.drop k).take i).map V0):=by
 have h1:=sl_cut h (by simpa using hl) k hk
 have h2:=sl_take h1 (by simp[hl]) (min i (n-k)) (by omega)
 rw[←List.map_drop,←List.map_take] at h2
 have e:(L.drop k).take (min i (n-k))=(L.drop k).take i:=by
  rcases Nat.le_total i (n-k) with q|q
  ·rw[Nat.min_eq_left q]
  ·rw[Nat.min_eq_right q,List.take_of_length_le (by simp[hl]),List.take_of_length_le (by simp[hl];omega)]
 rw[e] at h2
 exact h2
theorem aheadN{w:World}{B:Nat}{b:O0}{n c k:Nat}{xs:List Value}{e size:Nat}(h:w.ownsRow B e size (.slice b n c) n xs):Wh b k c 1=none→c-k=0:=by
 intro hn
 have hb:b=none:=by
  unfold Wh at hn
  split at hn
  ·exact hn
  ·simpa using hn
 subst hb
 rcases h.2 with ⟨h2,_⟩|⟨g,a1,a0,h2,_⟩
 ·simp only[Value.slice.injEq] at h2;omega
 ·cases h2
theorem Zfk(B ba b:Nat)(p0:O0)(N ca k i:Nat)(L:List Int)(w:World)(hA:AlG B ba b p0 N ca k L w)(hi:i≤1000000) :
 C0 125 #[P0 ba,V0 (i:Int)] w (Vo (fun w' r=>∃ q c2,r=.slice q (min i (N-k)) c2∧w'.ownsRow w.heap.size 3 1 (.slice q (min i (N-k)) c2) (min i (N-k)) (((L.drop k).take i).map V0)) w):=by
 have hk:=hA.blk
 have a5:=hA.hk
 have hL:=hA.hL
 have hN:=hA.hN
 have a9:N≤ca:=by
  rcases Nat.eq_zero_or_pos N with q|q
  ·omega
  ·exact Ze0 hA.nums q
 refine zin 23 Tryz.func125 ?_
 refine xr 9 (args:=#[P0 ba]) (Jh ba b _ _ _ hk) fun W1 a0=>?_
 refine xid 6 ((i:Int)<(1:Int)) (fun a8=>?_) (fun a8=>?_)
 ·refine xe 7 (S0) ?_
  obtain rfl:i=0:=by omega
  exact⟨_,rfl,a0,none,0,by rw[Nat.zero_min],by rw[Nat.zero_min,List.take_zero];exact World.ownsRow_nil _ _ _ _⟩
 have a1:=hk.below a0
 refine xr 7 (args:=#[P0 ba]) (Ah ba p0 N ca k _ _ a1 a5) fun W3 a4=>?_
 refine xq 9 (congrArg V0 (show(if(↑(N-k):Int)<(i:Int) then(↑(N-k):Int) else(i:Int):Int)=(↑(min i (N-k)):Int) from Oo i (N-k))) ?_
 refine xsH 0 (fun _ _ _ _ zo zx zy V=>Qf (k:=(min i (N-k))) (b:=(Wh p0 k ca 1)) (n:=(N-k)) (c:=(ca-k)) (i:=(↑(min i (N-k)):Int)) (ki:=.i64) zo zx zy rfl (by omega) Tryz.underlying35 (by kernel_rfl) V) ?_
 have hB:=bln a0 a4
 refine xc 0 (args:=#[.slice (Wh p0 k ca 1) (min i (N-k)) (ca-k)]) (Zff (Wh p0 k ca 1) (min i (N-k)) (ca-k) (((L.drop k).take i).map V0) _ (aheadSl (Zf (Zb hA.nums hB)) hL a5) (aheadN hA.nums) (by simp;omega) (Zgi _) (by omega)) ?_
 rintro _ W4 ⟨_,rfl,a7,pq,cq,rfl,hq⟩
 have a6:=(bln a0 a4).size
 have a3:=bln hB a7
 have a2:=Zh hq a6
 exact xe 4 (.slice pq (min i (N-k)) cq) ⟨_,rfl,a3,_,_,rfl,a2⟩
def rsV (L:List (List Int))(q i:Nat):List Value:=[V0 ((q+i:Nat):Int),V0 (Ys (L.getD i []):Int),V0 (Xo (L.getD i []):Int)]
def rsL (L:List (List Int))(q n:Nat):List Value:=(List.range n).flatMap (rsV L q)
theorem rsL_succ(L:List (List Int))(q n:Nat):rsL L q (n+1)=rsL L q n++rsV L q n:=by simp[rsL,List.range_succ]
def rsC (x:Nat×Nat×Nat):List Value:=[V0 (x.1:Int),V0 (x.2.1:Int),V0 (x.2.2:Int)]
theorem rsC_len(x:Nat×Nat×Nat):(rsC x).length=3:=rfl
def rsD:Nat×Nat×Nat:=(0,0,0)
def Rs (L:List (List Int))(q n:Nat):List (Nat×Nat×Nat):=(List.range n).map fun i=>(q+i,Ys (L.getD i []),Xo (L.getD i []))
theorem Fv(L:List (List Int))(q n:Nat):(Rs L q n).length=n:=by simp[Rs]
theorem Rs_get{L:List (List Int)}{q n i:Nat}(h:i<n):(Rs L q n).getD i rsD=(q+i,Ys (L.getD i []),Xo (L.getD i [])):=by simp[Rs,List.getD,List.getElem?_range h]
theorem rsL_Rs(L:List (List Int))(q n:Nat):rsL L q n=(Rs L q n).flatMap rsC:=by simp[rsL,Rs,List.flatMap_map];rfl
theorem Rs_sts{L:List (List Int)}{q n c:Nat}{p:O0}{w:World}(h:Sl w (.slice p n c) n (rsL L q n)):Sts rsC w (.slice p (Rs L q n).length c) (Rs L q n):=by unfold Sts;rw[Fv,←rsL_Rs];exact h
def slB (x:Nat×Nat×Nat):Bl:=leB (x.1:Int) 8++leB (x.2.1:Int) 4++leB (x.2.2:Int) 4
theorem slB_len(x:Nat×Nat×Nat):(slB x).length=16:=by simp[slB,Zj]
def idxP(S:List (Nat×Nat×Nat))(i:Nat):Bl:=leB (S.length:Int) 4++(List.range i).flatMap fun j=>slB (S.getD j rsD)
theorem Zce(S:List (Nat×Nat×Nat))(i:Nat):idxP S (i+1)=idxP S i++slB (S.getD i rsD):=by simp[idxP,List.range_succ]
theorem Zgk(S:List (Nat×Nat×Nat)):∀ i,(idxP S i).length=4+i*16
 | 0=>by simp[idxP,Zj]
 | i+1=>by rw[Zce,List.length_append,Zgk S i,slB_len];omega
def idxB(S:List (Nat×Nat×Nat)):Bl:=idxP S S.length++List.replicate (244-(4+S.length*16)) 0
theorem Oe{S:List (Nat×Nat×Nat)}(h:S.length≤15):(idxB S).length=244:=by unfold idxB;rw[List.length_append,Zgk,List.length_replicate];omega
def Zed(S:List (Nat×Nat×Nat)):Prop:=S.length≤14∧∀ i,i<S.length→1≤(S.getD i rsD).1∧(S.getD i rsD).1≤14399∧(S.getD i rsD).2.1≤960∧(S.getD i rsD).2.2≤960
theorem slB_ne(x:Nat×Nat×Nat):((⟨(leB (x.1:Int) 8++leB (x.2.1:Int) 4++leB (x.2.2:Int) 4).toArray⟩:ByteArray).toList==(⟨#[]⟩:ByteArray).toList)=false:=by
 rw[show(⟨#[]⟩:ByteArray)=⟨([]:Bl).toArray⟩ from rfl,str_beq]
 apply beq_false_of_ne
 intro q
 have h1:=congrArg List.length q
 simp[Zj] at h1
theorem slots_Put(a:O0)(c:Nat)(S:List (Nat×Nat×Nat))(w:World)(hS:Zed S)(h:Sts rsC w (.slice a S.length c) S) :
 C0 127 #[.slice a S.length c] w (Vo (fun w' r=>∃ p c,r=.tuple #[.slice p 244 c,V0 0]∧w'.ownsRow w.heap.size 5 1 (.slice p 244 c) 244 ((idxB S).map bv)) w):=by
 have c3:=hS.1
 refine zin 39 Tryz.func127 ?_
 refine xk 14 (show(decide ((S.length:Int)>(15:Int)):Bool)=false from decide_eq_false (by omega)) ?_
 refine xbs 7 1 [V0 4,V0 (S.length:Int)] 235 fun b1 W1 n1=>?_
 refine xc 0 (args:=#[.slice (S1 b1) 1 1]) (Da b1 (S.length:Int) (by omega) (by omega) _ n1.blk) ?_
 rintro _ W2 ⟨_,rfl,b0,p2,c2,rfl,h2⟩
 have a6:=Zh h2 n1.below.size
 have hB:=bln n1.below b0
 have a5:=n1.blk.below b0
 refine zl 16 39 (fun zm b9 V=>∃ (i:Nat) (p4:O0) (c4:Nat),b9=[(4,.slice p4 (4+i*16) c4),(20,.slice a S.length c),(21,V0 (S.length:Int)),(22,V0 (i:Int))]∧zm=S.length-((i:Int)).toNat∧B3 w V∧Blk V b1 ([V0 4,V0 (S.length:Int)]) 235∧V.ownsRow w.heap.size 5 1 (.slice p4 (4+i*16) c4) (4+i*16) ((idxP S i).map bv)∧i≤S.length) ⟨0,p2,c2,rfl,rfl,hB,a5,(by simpa [idxP] using a6),Nat.zero_le _⟩ ?_
 rintro _ _ W3 ⟨i,p4,c4,rfl,rfl,a0,a2,ho,hi⟩ J3 b2 r3
 refine xid 6 ((i:Int)<(S.length:Int)) (fun b4=>?_) (fun b4=>?_)
 ·refine xx 6 _ S.length i 3 (Sts.cell h rsC_len rsD (k:=i) (i:=0) (by omega) rfl).1 ?_
  refine xlv 0 (Sts.rp (k:=i) (h.below a0) rsC_len rsD (by omega) (by decide)) ?_
  refine xa 0 [V0 0,V0 0,V0 0] 217 fun b5 W5 n5=>?_
  have g5:=n5.ge a0
  refine xsv 0 n5.blk [V0 (↑(S.getD i rsD).1:Int),V0 (↑(S.getD i rsD).2.1:Int),V0 (↑(S.getD i rsD).2.2:Int)] fun W6 u6 k6=>?_
  refine xlv 4 k6.rp ?_
  refine xr 0 (args:=#[.agg #[V0 (↑(S.getD i rsD).1:Int),V0 (↑(S.getD i rsD).2.1:Int),V0 (↑(S.getD i rsD).2.2:Int)]]) (Hi (↑(S.getD i rsD).1:Int) (↑(S.getD i rsD).2.1:Int) (↑(S.getD i rsD).2.2:Int) (by have:=hS.2 i (by omega);omega) (by have:=hS.2 i (by omega);omega) (by omega) (by have:=hS.2 i (by omega);omega) (by omega) (by have:=hS.2 i (by omega);omega) _) fun W7 a9=>?_
  refine xk 10 (show(((⟨(leB (↑(S.getD i rsD).1:Int) 8++leB (↑(S.getD i rsD).2.1:Int) 4++leB (↑(S.getD i rsD).2.2:Int) 4).toArray⟩:ByteArray).toList==(⟨#[]⟩:ByteArray).toList):Bool)=false from slB_ne _) ?_
  have a4:=Zb (u6.own2 (Zb ho n5.below) n5.blk (by decide)) a9
  have a3:=bln (u6.below (bln a0 n5.below) g5) a9
  refine xbi 5 (t2:=9) fun _ _ _ _ zJ zQ zo zx zy zK=>op_appS (leB (↑(S.getD i rsD).1:Int) 8++leB (↑(S.getD i rsD).2.1:Int) 4++leB (↑(S.getD i rsD).2.2:Int) 4) ((4+(i+1)*16)) ((idxP S (i+1)).map bv) zo Tryz.underlying22 Tryz.underlying9 (by kernel_rfl) zx a4 zy (by simp[Zj];omega) a3.size (by simp[Zj];omega) (by simp[Zce,slB]) fun c5 c6 W8 o8 b6 b8=>?_
  refine zK _ _ ?_
  refine xwm 5 ((i:Int)+1) (↑(i+1):Int) ?_
  have a7:=a3.trans b8
  have a1:=((u6.blkT (a2.below n5.below) n5.blk (by decide)).below a9).grown b6 a4 (by decide)
  exact ze 2 (b2 _ _ _ ⟨i+1,_,_,rfl,rfl,a7,a1,o8,by omega⟩ (by omega))
 refine xwm 10 (244-(↑(4+i*16):Int)) (↑(244-(4+i*16)):Int) ?_
 refine xbi 0 (t2:=3) fun _ _ _ _ zJ zQ zo zx zy zK=>op_appZo (kq:=.i64) (244-(4+i*16)) (244) ((idxB S).map bv) zo Tryz.underlying22 Tryz.underlying3 (by kernel_rfl) zx ho zy (by omega) (by omega) a0.size (by omega) (by rw[show i=S.length by omega];unfold idxB;rw[List.map_append,List.map_replicate];rfl) fun b3 c0 W9 o9 c1 b7=>?_
 refine zK _ _ ?_
 have a8:=a0.trans b7
 exact xe 5 (.tuple #[.slice b3 244 c0,V0 0]) ⟨_,rfl,a8,_,_,rfl,o9⟩
def Vr(l:List Int)(f n:Nat):List Int:=(List.range l.length).map fun i=>l.getD i 0+(if f≤i∧i<f+n then 1 else 0)
theorem Vv(l:List Int)(f n:Nat):(Vr l f n).length=l.length:=by simp[Vr]
theorem Zch{l:List Int}{f n i:Nat}(h:i<l.length):(Vr l f n).getD i 0=l.getD i 0+(if f≤i∧i<f+n then 1 else 0):=by simp[Vr,List.getD,List.getElem?_range h]
theorem bumpL_zero(l:List Int)(f:Nat):Vr l f 0=l:=by
 apply List.ext_getElem (by simp[Vr])
 intro i h1 h2
 simp[Vr,List.getD,h2]
 omega
theorem bumpL_set{l:List Int}{f j:Nat}(h:f+j<l.length):((Vr l f j).map V0).set (f+j) (V0 (l.getD (f+j) 0+1))=(Vr l f (j+1)).map V0:=by
 apply List.ext_getElem?
 intro i
 by_cases hi:i<l.length
 ·by_cases e:f+j=i
  ·subst e
   rw[List.getElem?_set_self (by simp[Vv];exact h)]
   simp[Vr,List.getElem?_range h]
  ·rw[List.getElem?_set_ne e]
   have hc:(f≤i∧i<f+j)↔(f≤i∧i<f+(j+1)):=by omega
   simp only[Vr,List.getElem?_map,List.getElem?_range hi,Option.map_some]
   by_cases q:f≤i∧i<f+j
   ·rw[if_pos q,if_pos (hc.1 q)]
   ·rw[if_neg q,if_neg (fun z=>q (hc.2 z))]
 ·rw[List.getElem?_eq_none (by simp[Vv];omega),List.getElem?_eq_none (by simp[Vv];omega)]
def FreeOk(l:List Int)(f:Int):Prop:=∀ i,i<l.length→(f≤(i:Int)→l.getD i 0=0)∧l.getD i 0≤1073741824
theorem Zg6{l:List Int}{f n:Nat}(h:FreeOk l (f:Int))(hc:∀ k,k<l.length→Pe (l.getD k 0)):∀ k,k<(Vr l f n).length→Pe ((Vr l f n).getD k 0):=by
 intro k hk
 rw[Vv] at hk
 rw[Zch hk]
 have h1:=(h k hk).2
 have h2:=hc k hk
 unfold Pe at h2 ⊢
 split<;>omega
def Qb(l:List Int):Nat:=Xw 5 (Zz l l.length).length+bmN l.length+1
theorem Ty{w:World}{b:O0}{n c f N k i:Nat}(h:Sl w (.slice b n c) n ((((Az f N).drop k).take n).map V0))(hn:k+n≤N)(hi:i<n):b.isSome=true∧w.cell? (Zo b (i*1))=some (V0 ((f+k+i:Nat):Int)):=by
 have a0:(((Az f N).drop k).take n).length=n:=by simp[Az];omega
 have h1:=IntsN.elem h a0 hi
 have e:(((Az f N).drop k).take n).getD i 0=((f+k+i:Nat):Int):=by
  have h2:=Zf4 (f:=f) (N:=N) (k:=k+i) (by omega)
  rw[←Nat.add_assoc] at h2
  rw[←h2]
  simp only[List.getD,List.getElem?_take,List.getElem?_drop,if_pos hi]
 rwa [e] at h1
def Ed(l:List Int)(f k0:Nat)(bs:Bl):Int×Int×Bl:=(((f+k0+(Xw 5 (Zz l l.length).length)+(bmN (Vr l (f+k0) (Qb l)).length)):Nat),(Yz 5 (Zz l l.length) (f+k0) bs).1,Kn (Jl (Xs (Zw (Vr l (f+k0) (Qb l))) (bmN (Vr l (f+k0) (Qb l)).length)) (f+k0+(Xw 5 (Zz l l.length).length)) (Yz 5 (Zz l l.length) (f+k0) bs).2 (bmN (Vr l (f+k0) (Qb l)).length)) ((f+k0+(Xw 5 (Zz l l.length).length)+(bmN (Vr l (f+k0) (Qb l)).length))*256) (Yf 4 (((f+k0+(Xw 5 (Zz l l.length).length)+(bmN (Vr l (f+k0) (Qb l)).length)):Nat):Int) (idxB (Rs (Xs (Zw (Vr l (f+k0) (Qb l))) (bmN (Vr l (f+k0) (Qb l)).length)) (f+k0+(Xw 5 (Zz l l.length).length)) (bmN (Vr l (f+k0) (Qb l)).length)))))
theorem Zhi(l:List Int)(q n:Nat):bmN (Vr l q n).length=bmN l.length:=by rw[Vv]
theorem Tb{w:World}{b:O0}{n c q i:Nat}{l:List Int}(h:Sl w (.slice b n c) n ((Vr l q i).map V0))(hn:l.length=n)(hi:q+i<n):b.isSome=true∧w.cell? (Zo b ((q+i)*1))=some (V0 (l.getD (q+i) 0)):=by
 have h1:=IntsN.elem h (by rw[Vv];exact hn) hi
 rw[Zch (by omega),if_neg (by omega),Int.add_zero] at h1
 exact h1
def ClosM(B Bx bl:Nat)(L:List (List Int))(q i:Nat)(w:World)(e:Ending)(w':World):Prop :=
 ∃ u p c,e=.returned u∧Below B w w'∧Zd [231,217] w w'∧Blk w' bl [.slice p (i+1) c] 231∧w'.ownsRow Bx 217 3 (.slice p (i+1) c) (i+1) (rsL L q (i+1))∧FrB Bx [bl] w w'
theorem plot_meta1(B Bx bl:Nat)(p:O0)(c:Nat)(L:List (List Int))(q i:Nat)(w:World)(hBm:B≤Bx)(hBx:Bx≤w.heap.size)(hBw:B≤w.heap.size)(hBl:B≤bl)(kl:Blk w bl [.slice p i c] 231)(hup:w.ownsRow Bx 217 3 (.slice p i c) i (rsL L q i))(hi:i≤100000) :
 C0 126 #[.agg #[V0 (↑(q+i):Int),V0 (↑(Ys (L.getD i [])):Int),V0 (↑(Xo (L.getD i [])):Int)],P0 bl] w (ClosM B Bx bl L q i w):=by
 have hZ:FrZ Bx [bl] w w:=FrZ.refl hBx
 refine zin 7 Tryz.func126 ?_
 refine xa 2 [V0 (↑(q+i):Int),V0 (↑(Ys (L.getD i [])):Int),V0 (↑(Xo (L.getD i [])):Int)] 217 fun b1 W1 n1=>?_
 have a5:=Zu hup n1
 have a3:=kl.below n1.below
 refine xb 3 0 a3 ?_
 refine xlv 0 n1.blk.rp ?_
 refine xbs 0 1 [V0 (↑(q+i):Int),V0 (↑(Ys (L.getD i [])):Int),V0 (↑(Xo (L.getD i [])):Int)] 217 fun b2 W2 n2=>?_
 have b0:=n2.ne n1.blk
 have a1:=Zb hup n1.below
 have a8:=Zu a1 n2
 have a0:=Zb a1 n2.below
 have hB:=blB (blB (Below.refl B w) hBw n1.below) hBw n2.below
 refine xbi 0 fun _ _ _ _ zJ zQ zo zx zy zK=>Xd (m:=1) (news:=[V0 (↑(q+i):Int),V0 (↑(Ys (L.getD i [])):Int),V0 (↑(Xo (L.getD i [])):Int)]) (.agg #[V0 0,V0 0,V0 0]) 3 24 (i+1) ((rsL L q (i+1))) zo Tryz.underlying231 (by kernel_rfl) rfl (by decide) zx a0 zy (n2.blk.sl 1 1 (by decide) (by decide)) rfl (by simp[Value.oneCell']) (by unfold maxLen;omega) (by omega) (Nat.le_trans hBx hB.size) (by rfl) (by rw[rsL_succ];rfl) fun b4 b5 W3 o3 a6 b3=>?_
 refine zK _ _ ?_
 have a2:=(a3.below n2.below).grown a6 a0 (by decide)
 refine xs 0 a2 [.slice b4 (i+1) b5] fun W4 u4 k4=>?_
 have a7:=u4.below (hB.trans (b3.mono hBm)) hBl
 have hO:=(((show Zd [231,217] w _ from(Zd.of_below n1.below)).trans (Zd.of_below n2.below)).trans (Zd.of_grown a6 a0 (by decide))).trans (Zd.of_upd u4 a2 (by decide))
 have a9:=u4.own2 o3 a2 (by decide)
 have a4:=(((hZ.below n1.below).below n2.below).grown a6 a0).upd u4 (by simp)
 exact xe 1 (.tuple #[]) ⟨_,_,_,rfl,a7,hO,k4,a9,a4.fr⟩
def LayPostM(B ba b g nn cc:Nat)(pa:O0)(ca f N k0:Nat)(bs:Bl)(bl:Nat)(L:List (List Int))(w:World)(e:Ending)(w':World):Prop :=
 ∃ p c,e=.returned .nilIface∧Below B w w'∧Zd [152,5,231,217] w w'∧Fr [ba,g,bl] w w'∧Al B ba b g nn cc pa ca f N (k0+L.length) (Jl L (f+k0) bs L.length) w'∧Blk w' bl [.slice p L.length c] 231∧w'.ownsRow w.heap.size 217 3 (.slice p L.length c) L.length (rsL L (f+k0) L.length)
theorem plot_layM(B ba b g nn cc:Nat)(pa:O0)(ca f N k0:Nat)(bs:Bl)(bl B2:Nat)(pl:O0)(cl:Nat)(gs:List (Nat×Nat))(L:List (List Int))(w:World)(hC:AlC B ba nn cc ca f N)(hA:Al B ba b g nn cc pa ca f N k0 bs w)(hL:Lists w B2 (.slice pl L.length cl) gs L)(hS:∀ i,i<L.length→Wp (L.getD i [])∧(L.getD i []).length≤960)(hf1:1≤f)(hk:k0+L.length≤N)(kl:Blk w bl [S0] 231)(hBl:B≤bl)(hBw:B≤w.heap.size) :
 C0 115 #[P0 ba,.slice pl L.length cl,.func (.func 126) #[] #[P0 bl]] w (LayPostM B ba b g nn cc pa ca f N k0 bs bl L w):=by
 have d2:=hC.hf
 have d4:=hC.hn
 refine zin 51 Tryz.func115 ?_
 have hB:=Below.refl B w
 refine zl 14 51 (fun zm c4 V=>∃ (i:Nat) (p:O0) (c:Nat),c4=[(0,P0 ba),(2,.func (.func 126) #[] #[P0 bl]),(15,.slice pl L.length cl),(16,V0 (L.length:Int)),(17,V0 (i:Int))]∧zm=L.length-((i:Int)).toNat∧Below B w V∧Fr [ba,g,bl] w V∧Zd [152,5,231,217] w V∧Blk V bl ([.slice p i c]) 231∧Al B ba b g nn cc pa ca f N (k0+i) (Jl L (f+k0) bs i) V∧Lists V B2 (.slice pl L.length cl) gs L∧V.ownsRow w.heap.size 217 3 (.slice p i c) i (rsL L (f+k0) i)∧i≤L.length) ⟨0,none,0,rfl,rfl,hB,(Fr.refl _ _),(Zd.refl _ _),kl,hA,hL,World.ownsRow_nil _ _ _ _,Nat.zero_le _⟩ ?_
 rintro _ _ W1 ⟨i,p,c,rfl,rfl,a2,b1,a9,a1,hA,hL,b2,hi⟩ J1 c3 r1
 refine xid 6 ((i:Int)<(L.length:Int)) (fun c7=>?_) (fun c7=>?_)
 ·refine xx 6 _ L.length i 1 (Lists.elem hL rfl (k:=i) (by omega)).1 ?_
  refine xl 0 ((Lists.elem hL rfl (k:=i) (by omega)).2) ?_
  refine xc 6 (args:=#[.slice (some ⟨(gs.getD i (0,0)).1,0,none⟩) ((L.getD i []).length) ((gs.getD i (0,0)).2)]) (Zf3 _ _ (L.getD i []) _ (hS i (by omega)).1 (hS i (by omega)).2 (Zf (hL.each i (by omega)))) ?_
  rintro _ W3 ⟨_,rfl,a5,g6,rfl,h6⟩
  have b5:=hA.below a5
  have a3:=a9.trans (Zd.of_below a5)
  have b6:=Zh h6 a2.size
  have b0:=blB a2 hBw a5
  refine xc 21 (args:=#[P0 ba,V0 3,.slice (S1 g6) 244 244]) (Pp B ba b g nn cc pa ca f N (k0+i) (Jl L (f+k0) bs i) 3 (S1 g6) 244 (Tf (L.getD i [])) (f+k0+i) 244 _ (Nat.add_assoc _ _ _).symm (Hy _ _) hC b5 (by omega) (by decide) (by decide) (fun W _ a3=>Qu (Zf (Zi b6 a3 (by decide))) (Hy _ _)) (by decide) (Nat.le_trans hBw b0.size)) ?_
  rintro _ W4 ⟨rfl,c6,b3,c5,hA⟩
  have a7:=(hL.below a5).only b3 (by decide)
  refine xr 20 (args:=#[.slice (some ⟨(gs.getD i (0,0)).1,0,none⟩) ((L.getD i []).length) ((gs.getD i (0,0)).2)]) (Zb6 _ _ (L.getD i []) _ (hS i (by omega)).2 (Zf (a7.each i (by omega)))) fun W5 a4=>?_
  have d3:Ys (L.getD i [])≤960:=Nat.le_trans (Ep _ _) (hS i (by omega)).2
  have d1:Xo (L.getD i [])≤960:=Nat.le_trans (Fm _) (hS i (by omega)).2
  have a6:=blB (b0.trans c6) hBw a4
  have a0:=((a1.below a5).only b3 (by decide)).below a4
  have a8:=Zb (Zi (Zb b2 a5) b3 (by decide)) a4
  refine xc 13 (args:=#[.agg #[V0 (↑(f+k0+i):Int),V0 (↑(Ys (L.getD i [])):Int),V0 (↑(Xo (L.getD i [])):Int)],P0 bl]) (plot_meta1 B w.heap.size bl p c L (f+k0) i _ hBw a6.size (Nat.le_trans hBw a6.size) hBl a0 a8 (by omega)) ?_
  rintro _ W6 ⟨_,p9,c9,rfl,c2,c0,d0,b2,c8⟩
  refine xwm 4 ((i:Int)+1) (↑(i+1):Int) ?_
  have b7:=(hA.below a4).only c0 (by decide)
  have b8:=(a7.below a4).only c0 (by decide)
  have c1:=a6.trans c2
  have b9:=(Fr.trans_B (((b1.trans (Fr.of_below a5)).trans (c5.mono (by simp))).trans (Fr.of_below a4)) c8 (by simp))
  have b4:=((a3.trans (b3.wide)).trans (Zd.of_below a4)).trans (c0.wide)
  exact ze 2 (c3 _ _ _ ⟨i+1,_,_,rfl,rfl,c1,b9,b4,d0,b7,b8,b2,by omega⟩ (by omega))
 refine xe 11 .nilIface ?_
 obtain rfl:i=L.length:=by omega
 exact⟨_,_,rfl,a2,a9,b1,hA,a1,b2⟩
structure Sin(w W:World):Prop where
 b:Below w.heap.size w W
theorem Sin.below{w W V:World}(h:Sin w W)(hb:B3 W V):Sin w V:=⟨bln h.b hb⟩
theorem Sin.trans{w W V:World}(h:Sin w W)(hb:Below w.heap.size W V):Sin w V:=⟨h.b.trans hb⟩
theorem Sin.upd{w W V:World}{b:Nat}(h:Sin w W)(u:Upd W b V)(hb:w.heap.size≤b):Sin w V:=⟨u.below h.b hb⟩
theorem rs_ok{L:List (List Int)}{q n:Nat}(hS:∀ i,i<L.length→Wp (L.getD i [])∧(L.getD i []).length≤960)(hn:L.length=n)(h1:1≤q)(h2:q+n≤14400)(h3:n≤14):Zed (Rs L q n):=by
 refine⟨by rw[Fv];exact h3,fun i hi=>?_⟩
 rw[Fv] at hi
 rw[Rs_get hi]
 have hc:=(hS i (by omega)).2
 exact⟨by show 1≤q+i;omega,by show q+i≤14399;omega,Nat.le_trans (Ep _ _) hc,Nat.le_trans (Fm _) hc⟩
theorem Zbe(j:Nat)(B ba b g nn cc:Nat)(pa:O0)(ca f N k0:Nat)(bs:Bl)(w:World)(hC:AlC B ba nn cc ca f N)(hA:Al B ba b g nn cc pa ca f N k0 bs w)(hk:k0≤N)(hN:N≤1000000)(hj:j≤1000000)(hjn:j≤N-k0) :
 C0 125 #[P0 ba,V0 (j:Int)] w (Vo (fun w' r=>∃ q c2,r=.slice q j c2∧w'.ownsRow w.heap.size 3 1 (.slice q j c2) j ((((Az f N).drop k0).take j).map V0)) w):=by
 have h:=Zfk B ba b pa N ca k0 j (Az f N) w ⟨hA.blkA,hA.nums,Zgj _ _,hC.hB,hN,hk⟩ hj
 rwa [Nat.min_eq_left hjn] at h
theorem Cx(n:Nat)(a:O0)(c:Nat)(l:List Int)(w:World)(hn:l.length=n)(h:Sl w (.slice a n c) n (l.map V0))(hl:n≤65536)(hs:Jd l=0):C0 112 #[.slice a n c] w (fun e w'=>∃ pb cb gs po co,e=.returned (.tuple #[.slice pb (bmN n) cb,.slice po (Zz l n).length co,V0 0])∧B3 w w'∧Lists w' w.heap.size (.slice pb (bmN n) cb) gs (Xs (Zw l) (bmN n))∧w'.ownsRow w.heap.size 122 3 (.slice po (Zz l n).length co) (Zz l n).length ((Zz l n).flatMap Qz)):=by
 subst hn;exact Nr a c l w h hl hs
theorem slots_PutN(n:Nat)(a:O0)(c:Nat)(S:List (Nat×Nat×Nat))(w:World)(hn:S.length=n)(hS:Zed S)(h:Sts rsC w (.slice a S.length c) S):C0 127 #[.slice a n c] w (Vo (fun w' r=>∃ p c,r=.tuple #[.slice p 244 c,V0 0]∧w'.ownsRow w.heap.size 5 1 (.slice p 244 c) 244 ((idxB S).map bv)) w):=by
 subst hn;exact slots_Put a c S w hS h
theorem seal_in{l:Bl}{kind:Int}{k:Nat}{li:Bl}(h1:1≤kind)(h2:kind≤4)(hk:k<l.length/256)(h4:k<14400)(hli:li.length=244)(hb:Km l k=Yf kind (k:Int) li):inE l kind (k:Int)=0∧inB l (k:Int)=li:=by
 constructor
 ·rw[Zgp rfl rfl hk,hb];exact Zcd h1 h2 (by omega) (by omega) (by omega)
 ·rw[Zgc rfl,hb,in_seal (by omega)];unfold Zda;rw[hli,Nat.sub_self];simp
def Qo(u n:Nat):List Int:=(List.range n).map fun i=>if i<u then 1 else 0
theorem Yc(u n:Nat):(Qo u n).length=n:=by simp[Qo]
theorem Zc6{u n i:Nat}(h:i<n):(Qo u n).getD i 0=if i<u then 1 else 0:=by simp[Qo,List.getD,List.getElem?_range h]
theorem Zfv(u n i:Nat):0≤(Qo u n).getD i 0∧(Qo u n).getD i 0≤1:=by
 by_cases h:i<n
 ·rw[Zc6 h];split<;>omega
 ·rw[show(Qo u n).getD i 0=0 from by simp[Qo,List.getD,Nat.le_of_not_lt h]];omega
theorem Co(u n k:Nat):Zz (Qo u n) k=[]:=by
 induction k with
 | zero=>rfl
 | succ k ih=>rw[Pr (by have:=Zfv u n k;omega),ih]
theorem Mo{u n:Nat}(h:n≤65536):Jd (Qo u n)=0:=by
 unfold Jd
 rw[if_neg (by rw[Yc];omega),if_pos fun k _=>by have:=Zfv u n k;unfold Pe;omega]
theorem Cj{u n:Nat}:FreeOk (Qo u n) (u:Int):=fun i hi=>by
 rw[Yc] at hi
 rw[Zc6 hi]
 constructor
 ·intro h;rw[if_neg (by omega)]
 ·split<;>omega
theorem Zfp:Xw 5 0=1:=by
 unfold Xw Ui
 rw[show ovN 0 (Qy 5 true)=1 from by decide,Gh (by decide)]
 rfl
theorem Ca(u n:Nat):Qb (Qo u n)=2+bmN n:=by
 unfold Qb
 rw[Co,List.length_nil,Zfp,Yc];omega
theorem self_make(n:Nat):Kv (Value.int .i64 0).cells.toList n=(Qo 0 n).map V0:=by
 rw[show Kv (Value.int .i64 0).cells.toList n=List.replicate n (V0 0) from by
  rw[show(Value.int .i64 0).cells.toList=[Value.int .i64 0] from rfl,Kv]
  induction n with
  | zero=>rfl
  | succ n ih=>rw[List.replicate_succ,List.flatten_cons,ih];rfl]
 apply List.ext_getElem (by simp[Qo])
 intro i h1 h2
 simp[Qo]
theorem self_set{i n:Nat}(h:i<n):((Qo i n).map V0).set i (V0 1)=(Qo (i+1) n).map V0:=by
 apply List.ext_getElem?
 intro j
 by_cases hj:j<n
 ·by_cases e:i=j
  ·subst e
   rw[List.getElem?_set_self (by simp[Qo];exact h)]
   simp[Qo,List.getElem?_range h]
  ·rw[List.getElem?_set_ne e]
   simp only[Qo,List.getElem?_map,List.getElem?_range hj,Option.map_some]
   by_cases q:j<i
   ·rw[if_pos q,if_pos (by omega)]
   ·rw[if_neg q,if_neg (by omega)]
 ·rw[List.getElem?_eq_none (by simp[Qo];omega),List.getElem?_eq_none (by simp[Qo];omega)]
theorem plotN_bdW{l:List Int}(h:l.length≤65536)(ho:(Zz l l.length).length≤32768):2≤Pa l∧Pa l≤80000∧bmN l.length≤69:=by
 have h4:=Hu 4 (bmN l.length)
 have h5:=Hu 5 (Zz l l.length).length
 have a1:=Um 4 (bmN l.length)
 have a0:=Um 5 (Zz l l.length).length
 have hb:bmN l.length≤69:=by unfold bmN;omega
 unfold Pa
 omega
theorem Cg(B ba b g nn cc:Nat)(pa:O0)(ca f N k0:Nat)(bs:Bl)(a:O0)(c:Nat)(l:List Int)(w:World)(hC:AlC B ba nn cc ca f N)(hA:Al B ba b g nn cc pa ca f N k0 bs w)(h:Sl w (.slice a l.length c) l.length (l.map V0))(hl:l.length≤65536)(ho:(Zz l l.length).length≤32768)(hs:Jd l=0)(hf1:1≤f)(hkN:k0≤N)(hk:k0+Pa l≤N)(hBw:B≤w.heap.size) :
 C0 67 #[P0 ba,.slice a l.length c] w (DataP B ba b g nn cc pa ca f N k0 bs l w):=by
 have d6:=hC.hf
 have d8:=hC.hn
 have d5:=plotN_bdW hl ho
 have c2:=Rp hs
 have d3:=Lz l l.length
 have d4:Pa l=(bmN l.length)+Xw 4 (bmN l.length)+Xw 5 (Zz l l.length).length:=rfl
 have d9:=Hu 4 (bmN l.length)
 have d7:=Hu 5 (Zz l l.length).length
 refine zin 70 Tryz.func67 ?_
 refine xr 11 (args:=#[P0 ba]) (Qj ba b _ _ _ hA.blkA) fun W1 a3=>?_
 refine xc 9 (args:=#[.slice a l.length c]) (Nr a c l _ (h.below a3) (by omega) hs) ?_
 rintro _ W2 ⟨pb,cb,gs,po,co,rfl,a4,hL,b5⟩
 have c9:=(blB (Below.refl B w) hBw a3).size
 have a6:=(hA.below a3).below a4
 refine xr 23 (args:=#[P0 ba]) (Cd ba b pa N ca k0 _ a6.blkA hkN) fun W3 a1=>?_
 refine xr 4 (args:=#[V0 4,V0 (↑(bmN l.length):Int)]) (Qq 4 (bmN l.length) _ (by decide) (by decide) (by omega)) fun W4 a2=>?_
 refine xwm 0 ((↑(bmN l.length):Int)+(↑(Xw 4 (bmN l.length)):Int)) (↑((bmN l.length)+(Xw 4 (bmN l.length))):Int) ?_
 refine xr 2 (args:=#[V0 5,V0 (↑((Zz l l.length).length):Int)]) (Qq 5 (Zz l l.length).length _ (by decide) (by decide) (by omega)) fun W5 a0=>?_
 refine xwm 0 ((↑((bmN l.length)+(Xw 4 (bmN l.length))):Int)+(↑(Xw 5 (Zz l l.length).length):Int)) (↑(((bmN l.length)+(Xw 4 (bmN l.length)))+(Xw 5 (Zz l l.length).length)):Int) ?_
 refine xk 3 (show(decide ((↑(N-k0):Int)<(↑(((bmN l.length)+(Xw 4 (bmN l.length)))+(Xw 5 (Zz l l.length).length)):Int)):Bool)=false from decide_eq_false (by omega)) ?_
 refine xa 4 [S0] 105 fun b6 W6 n6=>?_
 have hX:=(((((show Fr [ba,g] w _ from(Fr.of_below a3)).trans (Fr.of_below a4)).trans (Fr.of_below a1)).trans (Fr.of_below a2)).trans (Fr.of_below a0)).trans (Fr.of_below n6.below)
 have a8:=Zb (Zb (Zb (Zb (Zh b5 c9) a1) a2) a0) n6.below
 have b0:=(((a6.below a1).below a2).below a0).below n6.below
 have b2:=fun(W:World) (hX:Fr ([ba,g]++[b6]) _ W)=>own_keep a8 b0 n6.blk hX
 have b3:=(((hL.below a1).below a2).below a0).below n6.below
 have g6:=n6.ge0 (blB (blB (blB (blB (blB (Below.refl B w) hBw a3) hBw a4) hBw a1) hBw a2) hBw a0)
 have hB:=blB (blB (blB (blB (blB (blB (Below.refl B w) hBw a3) hBw a4) hBw a1) hBw a2) hBw a0) hBw n6.below
 refine xc 8 (args:=#[P0 ba,.slice pb (bmN l.length) cb,.func (.func 116) #[] #[P0 b6]]) (plot_layDN B ba b g nn cc pa ca f N k0 bs b6 _ pb cb gs (Xs (Zw l) (bmN l.length)) (bmN l.length) (Hw _ _) _ hC b0 b3 (De c2.2 _) hf1 (by omega) n6.blk (Nat.le_trans hBw g6) (Nat.le_trans hBw hB.size)) ?_
 rintro _ W7 ⟨p8,c8,rfl,d2,c7,b8,hA,d0,c1⟩
 have c0:=(blB (blB (blB (blB (blB (blB (Below.refl B w) hBw a3) hBw a4) hBw a1) hBw a2) hBw a0) hBw n6.below).size
 replace b5:=b2 _ b8
 refine xb 15 0 d0 ?_
 have a7:=Zh c1 c0
 have a9:=hB.trans d2
 refine xc 0 (args:=#[P0 ba,V0 4,.slice p8 (bmN l.length) c8]) (Un B ba b g nn cc pa ca f N (k0+(bmN l.length)) (Jl (Xs (Zw l) (bmN l.length)) (f+k0) bs (bmN l.length)) 4 p8 c8 (Yh (Xs (Zw l) (bmN l.length)) (f+k0) (bmN l.length)) (bmN l.length) _ (Hn _ _ _) hC hA (by decide) (by decide) (Aa _ _ _ (by omega)) (by omega) hf1 (by omega) (by omega) (fun W _ h2=>by unfold Sts;rw[Hn];exact Zf (Zi a7 h2 (by decide))) (Nat.le_trans hBw a9.size)) ?_
 rintro _ W8 ⟨rfl,c5,b9,c3,hA⟩
 rw[Hn] at hA
 have a5:=Zi b5 b9 (by decide)
 have b1:=a9.trans c5
 refine xc 21 (args:=#[P0 ba,V0 5,.slice po ((Zz l l.length).length) co]) (Un B ba b g nn cc pa ca f N (k0+(bmN l.length)+Xw 4 (bmN l.length)) (Yz 4 (Yh (Xs (Zw l) (bmN l.length)) (f+k0) (bmN l.length)) (f+(k0+(bmN l.length))) (Jl (Xs (Zw l) (bmN l.length)) (f+k0) bs (bmN l.length))).2 5 po co (Zz l l.length) (Zz l l.length).length _ rfl hC hA (by decide) (by decide) (Ln _ _ (by omega)) (by omega) hf1 (by omega) (by omega) (fun W _ h2=>Zf (Zi a5 h2 (by decide))) (Nat.le_trans hBw b1.size)) ?_
 rintro _ W9 ⟨rfl,c4,d1,c6,hA⟩
 have b7:=b1.trans c4
 have hO:=((((((((show Zd [152,5,105,122,32] w _ from(Zd.of_below a3)).trans (Zd.of_below a4)).trans (Zd.of_below a1)).trans (Zd.of_below a2)).trans (Zd.of_below a0)).trans (Zd.of_below n6.below)).trans (c7.wide)).trans (b9.wide)).trans (d1.wide)
 have b4:=((Fr.trans_new hX b8 g6).trans (c3.mono (by simp))).trans (c6.mono (by simp))
 refine xe 27 (.tuple #[V0 ((Yz 4 (Yh (Xs (Zw l) (bmN l.length)) (f+k0) (bmN l.length)) (f+(k0+(bmN l.length))) (Jl (Xs (Zw l) (bmN l.length)) (f+k0) bs (bmN l.length))).1),V0 ((Yz 5 (Zz l l.length) (f+(k0+(bmN l.length)+Xw 4 (bmN l.length))) (Yz 4 (Yh (Xs (Zw l) (bmN l.length)) (f+k0) (bmN l.length)) (f+(k0+(bmN l.length))) (Jl (Xs (Zw l) (bmN l.length)) (f+k0) bs (bmN l.length))).2).1),.nilIface]) ?_
 have e1:f+(k0+(bmN l.length))=f+k0+(bmN l.length):=by omega
 have e2:f+(k0+(bmN l.length)+Xw 4 (bmN l.length))=f+k0+(bmN l.length)+Xw 4 (bmN l.length):=by omega
 rw[e2,e1] at hA ⊢
 have e3:k0+(bmN l.length)+Xw 4 (bmN l.length)+Xw 5 (Zz l l.length).length=k0+Pa l:=by omega
 rw[e3] at hA
 exact⟨rfl,b7,hO,b4,hA⟩
end Go.Proofs.YtceeiinepijokaaGreat
