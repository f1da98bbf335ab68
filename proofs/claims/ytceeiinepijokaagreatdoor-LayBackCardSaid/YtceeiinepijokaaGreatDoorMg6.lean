/- What plot.Meta wrote, chart.Meta reads back, plainly. -/
import Derived.RangeFuncNested
import Derived.RangeFuncBound
import Derived.RangeFuncCalls
import Derived.RangeFuncLeaves
import Derived.Shelf.Abstract
import Derived.Shelf.RegionOpen
import Derived.OwnWalkIn
import Derived.TacticsInMore
import Derived.LoopNIn
import Derived.LoopIn
import Derived.Sort.BigQuietIn
import Derived.Test.YtceeiinepijokaaGreatDoorMg5
namespace Go.Proofs.YtceeiinepijokaaGreatDoor
set_option maxHeartbeats 8000000
set_option maxRecDepth 100000
open Go.RowKit Go.Extern.Stop Go.Stop Go.Extern
set_option linter.unusedVariables false
attribute [local irreducible] wpList wpAnyH Code.wp Oper.wp Go
theorem Ba{t:Int}{l:List Ent}{q p:Nat}{L:List (List Int)}{bs:Bl}(h1:1≤t)(h2:t≤5)(E:EntsOk (Jd t true) l)(hq:q+Xk t l.length≤p):∀ j,(p+j)*256≤bs.length→Zz t l q (Xy L p bs j)=((Zz t l q bs).1,Xy L p (Zz t l q bs).2 j)
 | 0,_=>by simp only[Xy]
 | j+1,h=>by
  have ih:=Ba (L:=L) (bs:=bs) h1 h2 E hq j M0
  have hc:=Yh (L:=L) (q:=p) (bs:=bs) j M0
  have hx:(Xu 3 ((p+j:Nat):Int) (Kt (L.getD j []))).length=256:=Yn (by unfold Kt;rw[Vb];decide)
  rw[show Xy L p bs (j+1)=Qh (Xy L p bs j) ((p+j)*256) (Xu 3 ((p+j:Nat):Int) (Kt (L.getD j []))) from rfl,Hg h1 h2 E hx (by rw[hc];omega) (by rw[hc];omega) M0,ih]
  rfl
theorem Zck{l:List Int}{f m:Nat}(h:Zcv l (f:Int)):∀ k,k≤l.length→Zp (Qx l f m) k=Zp l k
 | 0,_=>rfl
 | k+1,hk=>by
  rw[Cn,Cn,Zck h k M0]
  congr 1
  unfold ovX
  rw[Ff M0]
  by_cases hc:f≤k∧k<f+m
  ·have:=(h k M0).1 M0
   rw[if_pos hc,this,if_neg M0,if_neg M0]
  ·rw[if_neg hc,Int.add_zero]
theorem Zuv{l:List Int}{u:Nat}{bs:Bl}{fuel:Int}(hu:1≤u)(hs:Jr l=0)(hf:Zcv l (u:Int))(hl:l.length≤3000)(h4:u+Yf l≤14400)(hb:(u+Yf l)*256≤bs.length)(hfu:(Yf l:Int)≤fuel) :
 Zcj (Vo l u 0 bs).2.2 (Vo l u 0 bs).1 (Vo l u 0 bs).2.1 (l.length:Int) fuel=([],0,Qx l u (Yf l)):=by
 obtain⟨N,hN⟩:∃ N,bmN l.length=N:=⟨_,rfl⟩
 obtain⟨O,hO⟩:∃ O,Zp l l.length=O:=⟨_,rfl⟩
 obtain⟨T,hT⟩:∃ T,Xk 5 O.length=T:=⟨_,rfl⟩
 have hm:Yf l=T+N+1:=by unfold Yf;rw[hN,hO,hT]
 obtain⟨B,hB⟩:∃ B,Qx l u (Yf l)=B:=⟨_,rfl⟩
 have a5:B.length=l.length:=by rw[←hB,Qa]
 have c2:Zp B B.length=O:=by rw[a5,←hB,Zck hf _ (At _),hO]
 have b6:∀ k,k<B.length→Wn (B.getD k 0):=by rw[←hB];exact Ig hf (Pe hs).2
 obtain⟨C,hC⟩:∃ C,Xa (Zl B) N=C:=⟨_,rfl⟩
 obtain⟨R,hR⟩:∃ R,Rs C (u+T) N=R:=⟨_,rfl⟩
 obtain⟨X,hX⟩:∃ X,Xu 4 ((u+T+N:Nat):Int) (Ei R)=X:=⟨_,rfl⟩
 have d1:N≤4:=by unfold bmN at hN;omega
 have c9:O.length≤l.length:=by rw[←hO];exact Pf _ _
 have hP:Vo l u 0 bs=(((u+T+N:Nat):Int),(Zz 5 O u bs).1,Qh (Xy C (u+T) (Zz 5 O u bs).2 N) ((u+T+N)*256) X):=by
  unfold Vo
  simp only[G3,hB,a5,hN,hO,hT,hC,hR,hX]
 have EO:EntsOk (Jd 5 true) O:=hO▸Vl _ _ M0
 have c0:∀ i,i<N→C.getD i []=Yy (Zl B) i:=fun i hi=>by rw[←hC,Kq hi]
 have a6:=Gh b6
 have b8:∀ i,i<N→R.getD i rsD=(u+T+i,Yo (Yy (Zl B) i),Xl (Yy (Zl B) i)):=fun i hi=>by rw[←hR,Zxw hi,c0 i hi]
 have a7:R.length=N:=by rw[←hR,Cb]
 have b4:Rk R:=⟨by omega,fun i hi=>by
  rw[a7] at hi
  rw[b8 i hi]
  have h1:=(a6 i).2
  exact⟨by show 1≤u+T+i;omega,by show u+T+i≤14399;omega,N0 (Pw _ _) h1,N0 (Ph _) h1⟩⟩
 have c6:(Ei R).length=244:=Mu M0
 have a3:X.length=256:=by rw[←hX];exact Yn M0
 have a0:=Qf (t:=5) (l:=O) (q:=u) (bs:=bs) Do Do EO (by rw[hT];omega)
 have a4:=Yh (L:=C) (q:=u+T) (bs:=bs) N M0
 have a2:=Yh (L:=C) (q:=u+T) (bs:=(Zz 5 O u bs).2) N (by rw[a0.1];omega)
 have c7:(Qh (Xy C (u+T) bs N) ((u+T+N)*256) X).length=bs.length:=by rw[Yg (by rw[a3,a4];omega),a4]
 have c5:Zz 5 O u (Qh (Xy C (u+T) bs N) ((u+T+N)*256) X)=((Zz 5 O u bs).1,Qh (Xy C (u+T) (Zz 5 O u bs).2 N) ((u+T+N)*256) X):=by
  rw[Hg Do Do EO a3 (by rw[a4,hT];omega) (by rw[a4];omega) (by rw[hT];omega),Ba Do Do EO (by rw[hT];exact At _) N M0]
 have s5:=Cg (t:=5) (fuel:=fuel) (l:=O) (q:=u) (bs:=Qh (Xy C (u+T) bs N) ((u+T+N)*256) X) Do Do EO M0 hu (by rw[c7,hT];omega) (by rw[hT];omega) (by rw[hT];omega)
 rw[c5] at s5
 rw[hP]
 obtain⟨b1,d0,c3,-,a9⟩:=s5
 simp only at a9 ⊢
 obtain⟨F,hF⟩:∃ F,Qh (Xy C (u+T) (Zz 5 O u bs).2 N) ((u+T+N)*256) X=F:=⟨_,rfl⟩
 have b9:F.length=bs.length:=by rw[←hF,Yg (by rw[a3,a2,a0.1];omega),a2,a0.1]
 have b0:=Zey (l:=F) (kind:=4) (k:=u+T+N) (li:=Ei R) Do Do (by rw[b9];omega) M0 c6 (by rw[←hF,hX];exact Ci a3 (by rw[a2,a0.1];omega))
 have a8:∀ i,i<N→Yi F ((u+T+i:Nat):Int)=0∧Uo F ((u+T+i:Nat):Int)=Yy (Zl B) i:=fun i hi=>by
  refine Rd (by rw[b9];omega) M0 ?_ (a6 i).1 (a6 i).2
  rw[←hF,Yv (k:=u+T+N) a3 (by rw[a2,a0.1];omega) M0 (by rw[a2,a0.1];omega),Cd (m:=bs.length/256) (by rw[a2,a0.1]) (by rw[a0.1]) M0 hi,c0 i hi]
 rw[hF] at a9 ⊢
 have b7:Qw F ((u+T+N:Nat):Int)=0:=by unfold Qw;rw[if_pos b0.1,b0.2];exact(Ft b4).1
 have c4:We F ((u+T+N:Nat):Int)=R:=by rw[(Rt b7).1,b0.2,Zen M0];exact(Ft b4).2
 have b5:∀ i,i<N→(R.map (Zmk ((u+T+N:Nat):Int))).getD i Nj=((u+T+i,Yo (Yy (Zl B) i),Xl (Yy (Zl B) i)),((u+T+N:Nat):Int),0):=fun i hi=>by
  have e:=b8 i hi
  rw[show R.getD i rsD=R[i]' M0 from by simp[List.getD,show i<R.length by omega]] at e
  simp only[List.getD,C4,A4 (show i<R.length by omega),D5,J0,e]
  rfl
 have h1:∀ i,i<N→Zf1 F (R.map (Zmk ((u+T+N:Nat):Int))) (l.length:Int) i=if((Yy (Zl B) i).length:Int)≠Uj (l.length:Int) i then([((u+T+N:Nat):Int)],7,[]) else([],0,Yy (Zl B) i):=fun i hi=>by
  unfold Zf1 Zn4
  rw[b5 i hi]
  simp only
  rw[(a8 i hi).1,(a8 i hi).2]
  simp
 have c1:∀ i,(Yy (Zl B) i).length=min 960 (l.length-i*960):=fun i=>by rw[Nx,Wh,a5]
 have a1:(Zd F (Zz 5 O u bs).1 5 fuel).es=b1∧(Zd F (Zz 5 O u bs).1 5 fuel).fs=[]:=by rw[a9];exact⟨rfl,rfl⟩
 have b3:(R.map (Zmk ((u+T+N:Nat):Int))).length=N:=by rw[A6,a7]
 have c8:N*960<l.length+960∧l.length≤N*960:=by unfold bmN at hN;omega
 unfold Zcj
 rw[if_neg (fun q=>q b7),c4,if_neg (fun q=>q (by rw[a7];unfold bmI;rw[G1,hN]))]
 rw[Za6 fun i hi=>by
  rw[b3] at hi
  rw[h1 i hi,if_neg (fun q=>q (by rw[c1];unfold Uj;split<;>omega))]]
 have ha:Lp F (R.map (Zmk ((u+T+N:Nat):Int))) (l.length:Int) (R.map (Zmk ((u+T+N:Nat):Int))).length=C:=by
  rw[b3,←hC]
  unfold Lp Xa
  apply H9
  intro i hi
  have hi:=B9.1 hi
  rw[b5 i hi]
  exact(a8 i hi).2
 have b2:C.flatten=Zl B:=by
  have:=Ip (Zl B)
  rwa [Wh,a5,hN,hC] at this
 have hj:=Zg6 (E:=b1) b6 (by rw[c2];exact c3)
 rw[ha,Zfa a1.2 (by rw[b2,a1.1,hj]),b2,a1.1,hj,hB]
end Go.Proofs.YtceeiinepijokaaGreatDoor
namespace Go.Proofs.YtceeiinepijokaaGreatDoor
set_option maxHeartbeats 8000000
set_option maxRecDepth 100000
open Go.RowKit
set_option linter.unusedVariables false
def SeqL{α:Type}(P:Program)(g:Nat)(lb:Array Value)(encs:α→Array Value)(Kp:World→World→Prop)(q:Nat→Prop)(R:List α)(w:World):Prop :=
 ∀ (l:Nat) (J Jx:Nat→World→Prop) (W:World),B3 w W →
  (∀ k A B row,J k A→A.grownBy B row→(∀ r,row=some r→q r)→J k B) →
  (∀ k x V,R[k]? = some x→J k V→YieldAt Fence.wide 2 P l (encs x) V fun e U =>
   (e=.returned (.bool true)∧J (k+1) U∧Kp V U)∨(e=.returned (.bool false)∧Jx k U)) →
  J 0 W →
  CallsIn Fence.wide 3 P g (#[.func (.yield l) #[] #[]]++lb) W fun e U=>(∃ v,e=.returned v)∧(J R.length U∨∃ k,k<R.length∧Jx k U)
def rdPost(B:Nat)(Kp:World→World→Prop)(I:Nat→World→Prop)(Ix:Code→Nat→World→Prop)(k:Nat)(W:World):Exit→Act→World→Prop
 | .normal,_,V=>KeepsFrom B W V∧Kp W V∧I (k+1) V
 | .ret,_,V=>KeepsFrom B W V∧Ix .ret k V
 | .exit id,_,V=>KeepsFrom B W V∧Ix (.exit id) k V
 | .goto _,_,_=>False
 | .panic _,_,_=>False
 | .outgrown,_,_=>False
structure RecAt(n:Nat)(r:Loop)(W:World):Prop where
 l:W.heap[n+1]? = some (.loop r)
 d:W.heap[n]? = some (.deferred (some []))
theorem RecAt.lt{n:Nat}{r:Loop}{W:World}(h:RecAt n r W):n+1<W.heap.size:=(Array.getElem?_eq_some_iff.1 h.l).1
theorem RecAt.kept{n:Nat}{r:Loop}{A B:World}{row:Option Nat}(h:RecAt n r A)(hg:A.grownBy B row)(hr:∀ k,row=some k→k<n):RecAt n r B :=
 ⟨(hg.block _ h.lt (fun e=>by have:=hr _ e.symm;omega)).trans h.l,(hg.block _ (by have:=h.lt;omega) (fun e=>by have:=hr _ e.symm;omega)).trans h.d⟩
theorem RecAt.from{n:Nat}{r:Loop}{A B:World}(h:RecAt n r A)(k:KeepsFrom n A B):RecAt n r B:=⟨k.same _ _ M0 h.l rfl,k.same _ _ (At _) h.d rfl⟩
theorem RecAt.put{n:Nat}{r:Loop}{A:World}(h:RecAt n r A)(r':Loop):RecAt n r' (A.putObj (n+1) (.loop r')) :=
 ⟨World.putObj_heap_same h.lt,(H1 M0).trans h.d⟩
theorem Zhr{α:Type}{P:Program}{g:Operand}{ps:Array Tmp}{assign body:Code}{Q:Exit→Act→World→Prop}{a:Act}{w:World}{gf:Nat}{lb:Array Value}
  (hg:a.eval g=.func (.func gf) #[] lb) (eg:∀ args w,(callFunc gf args).run P w=.ok (.enter gf args) w) {encs:α→Array Value} {R:List α} (p q:Nat→Prop) (hp:∀ b,p b→b<w.heap.size) (hq:∀ b,q b→b<w.heap.size)
  (hseq:SeqL P gf lb encs (Keeps p) q R w) (hps:∀ x,(encs x).size=ps.size)
  (I:Nat→World→Prop) (Ix:Code→Nat→World→Prop) (hI:∀ k A B row,I k A→A.grownBy B row→(∀ r,row=some r→q r∨w.heap.size≤r∧∃ o:Obj,A.heap[r]? = some o∧o.isCells=false)→I k B)
  (hIx:∀ c k A B row,Ix c k A→A.grownBy B row→(∀ r,row=some r→w.heap.size≤r∧∃ o:Obj,A.heap[r]? = some o∧o.isCells=false)→Ix c k B) (h0:I 0 w) (a₁:α→Act)
  (hassign:∀ (l k:Nat) (x:α) (W:World) (K:Act→World→Prop),R[k]? = some x→K (a₁ x) W →
   assign.wpIn (Fence.wide.inRound l) 2 P (Exit.then K (fun _ _ _=>False)) { tmps:=(ps.zip (encs x)).foldl (fun t (p,v)=>t.setIfInBounds p v) a.tmps,defers:=[] } W)
  (hbody:∀ (l k:Nat) (x:α) (W:World),w.heap.size≤l→R[k]? = some x→I k W→body.wpIn (Fence.wide.inRound l) 2 P (rdPost w.heap.size (Keeps p) I Ix k W) (a₁ x) W)
  (hdone:∀ (D:Nat) (W:World),w.heap.size≤D→I R.length W→W.heap[D]? = some (.deferred (some []))→Q .normal { a with defers:={ target:=.collected D,args:=#[] }::a.defers } W)
  (hstop:∀ (D:Nat) (c:Code) (k:Nat) (W:World),w.heap.size≤D→k<R.length→Ix c k W→W.heap[D]? = some (.deferred (some []))→c.wp P Q { a with defers:={ target:=.collected D,args:=#[] }::a.defers } W) :
  (Code.rangeFunc g ps assign body).wp P Q a w:=by
 refine(wpIn_wide (n:=4)).1 (wpIn_rangeFunc fun fn _=>?_)
 obtain⟨a2,a0⟩:∃ a2:LoopState→Option Code→Loop,a2=fun st pe=>{ state:=st,pending:=pe,fn,tmps:=a.tmps,params:=ps,assign,body,defers:=w.heap.size }:=⟨_,rfl⟩
 obtain⟨W1,b0⟩:∃ W1,(w.alloc (.deferred (some []))).alloc (.loop (a2 .ready none))=W1:=⟨_,rfl⟩
 have b6:RecAt w.heap.size (a2 .ready none) W1:=by
  rw[←b0]
  refine⟨?_,(Below.heap_alloc _ _ _ (by simp)).trans (K6 w _)⟩
  have:=K6 (w.alloc (.deferred (some []))) (.loop (a2 .ready none))
  rwa [World.size_alloc] at this
 have b9:I 0 W1:=by
  rw[←b0]
  exact hI _ _ _ none (hI _ _ _ none h0 (L5 _ _ _) (fun _ e=>by cases e)) (L5 _ _ _) (fun _ e=>by cases e)
 have b5:B3 w W1:=by
  rw[←b0];exact((Below.refl _ w).alloc (At _) _).alloc (by simp) _
 refine⟨w.heap.size+1,[{ target:=.collected w.heap.size,args:=#[] }],W1,{ target:=.fn (.func gf) lb,args:=#[.func (.yield (w.heap.size+1)) #[] #[]] },W1,gf,
  #[.func (.yield (w.heap.size+1)) #[] #[]]++lb,W1,?_,?_,fun _ _=>trivial,?_,fun _=>by omega,?_⟩
 ·rw[←b0,a0];exact run_enterLoop_outer _ _ _ _ _
 ·simp only[resolve,hg]
  simp[go_sem]
 ·simp[invoke,go_sem,eg]
 refine(hseq (w.heap.size+1) (fun k W=>I k W∧RecAt w.heap.size (a2 .ready none) W) (fun k W=>∃ c,Ix c k W∧RecAt w.heap.size (a2 .done (some c)) W) W1 b5
  (fun k A B row hs b4 hr=>⟨hI _ _ _ _ hs.1 b4 (fun r e=>.inl (hr r e)),hs.2.kept b4 (fun r e=>hq r (hr r e))⟩) ?_ ⟨b9,b6⟩).mono ?_
 ·rintro k x W hx ⟨hi,hl⟩
  have hy:=run_yield (P:=P) (args:=encs x) hl.l (by rw[a0];exact hps x)
  rw[a0] at hy
  refine⟨fn,_,assign,body,hy,roundIn_of_wpIn trivial (hassign _ k x W _ hx ⟨_,run_beginRound hl.l (by rw[a0]),?_⟩)⟩
  obtain⟨Wb,a5⟩:∃ Wb,W.putObj (w.heap.size+1) (.loop { a2 .ready none with state:=.busy })=Wb:=⟨_,rfl⟩
  have b8:RecAt w.heap.size (a2 .busy none) Wb:=by
   have:=hl.put (a2 .busy none)
   rw[a0] at this a5
   rw[a5] at this
   rw[a0]
   exact this
  have b7:I k Wb:=by
   rw[←a5]
   exact hI _ _ _ _ hi (grownBy_putObj' W _ _) (fun r e=>.inr (by cases e;exact⟨by omega,_,hl.l,rfl⟩))
  have c0:Keeps p W Wb:=by
   rw[←a5]
   exact Iq hp W _ _ _ M0 hl.l rfl rfl
  rw[a5]
  refine wpIn_mono (hbody _ k x Wb M0 hx b7) ?_
  have b2:∀ (a1:Option Code) (V:World),KeepsFrom w.heap.size Wb V→RecAt w.heap.size (a2 .busy none) V∧∃ U,U=V.putObj (w.heap.size+1) (.loop (a2 (if a1.isNone then .ready else .done) a1)) ∧
    (Instr.endRound (w.heap.size+1) a1).run P V=.ok (.bool a1.isNone) U∧RecAt w.heap.size (a2 (if a1.isNone then .ready else .done) a1) U:=fun a1 V hk=>by
   have hv:=b8.from hk
   have he:=run_endRound (P:=P) a1 hv.l
   refine⟨hv,_,rfl,?_,hv.put _⟩
   rw[a0] at he ⊢
   exact he
  have b1:∀ {V:World} {r r':Loop} {k:Nat},RecAt w.heap.size r V→I k V→I k (V.putObj (w.heap.size+1) (.loop r')):=fun hv h=>hI _ _ _ _ h (grownBy_putObj' _ _ _) (fun r e=>.inr (by cases e;exact⟨by omega,_,hv.l,rfl⟩))
  have a8:∀ {V:World} {r r':Loop} {c:Code} {k:Nat},RecAt w.heap.size r V→Ix c k V→Ix c k (V.putObj (w.heap.size+1) (.loop r')):=fun hv h=>hIx _ _ _ _ _ h (grownBy_putObj' _ _ _) (fun r e=>by cases e;exact⟨by omega,_,hv.l,rfl⟩)
  rintro e a3 V a4
  cases e with
  | normal =>
   obtain⟨a7,b3,a6⟩:=a4
   obtain⟨hv,U,rfl,hr,a9⟩:=b2 none V a7
   exact⟨_,_,hr,.inl ⟨rfl,⟨b1 hv a6,a9⟩,(c0.trans b3).trans (Iq hp V _ _ _ M0 hv.l rfl rfl)⟩⟩
  | ret =>
   obtain⟨a7,a6⟩:=a4
   obtain⟨hv,U,rfl,hr,a9⟩:=b2 (some .ret) V a7
   exact⟨_,_,hr,.inr ⟨rfl,.ret,a8 hv a6,a9⟩⟩
  | exit id =>
   obtain⟨a7,a6⟩:=a4
   obtain⟨hv,U,rfl,hr,a9⟩:=b2 (some (.exit id)) V a7
   exact⟨_,_,hr,.inr ⟨rfl,.exit id,a8 hv a6,a9⟩⟩
  | goto t=>exact a4.elim
  | panic ch=>exact a4.elim
  | outgrown=>exact a4.elim
 ·rintro e W2 ⟨⟨v,rfl⟩,(⟨hi,hl⟩|⟨k,hk,c,hi,hl⟩)⟩
  ·have he:=run_endLoop (P:=P) hl.l (by rw[a0];simp)
   rw[show(a2 .ready none).pending=none by rw[a0]] at he
   exact⟨none,_,he,hdone _ _ (At _) (hI _ _ _ _ hi (grownBy_putObj' _ _ _) (fun r e=>.inr (by cases e;exact⟨by omega,_,hl.l,rfl⟩))) ((H1 M0).trans hl.d)⟩
  ·have he:=run_endLoop (P:=P) hl.l (by rw[a0];simp)
   rw[show(a2 .done (some c)).pending=some c by rw[a0]] at he
   exact⟨some c,_,he,wpIn_wide.2 (hstop _ c k _ (At _) hk (hIx _ _ _ _ _ hi (grownBy_putObj' _ _ _) (fun r e=>by cases e;exact⟨by omega,_,hl.l,rfl⟩)) ((H1 M0).trans hl.d))⟩
def SeqB{α:Type}(P:Program)(g:Nat)(lb:Array Value)(encs:α→Array Value)(Kp:World→World→Prop)(R:List α)(w:World):Prop :=
 ∀ (l:Nat) (J Jx:Nat→World→Prop) (W:World),B3 w W →
  (∀ k A B,J k A→Below A.heap.size A B→J k B) →
  (∀ k x V,R[k]? = some x→J k V→YieldAt Fence.wide 2 P l (encs x) V fun e U =>
   (e=.returned (.bool true)∧J (k+1) U∧Kp V U)∨(e=.returned (.bool false)∧Jx k U)) →
  J 0 W →
  CallsIn Fence.wide 3 P g (#[.func (.yield l) #[] #[]]++lb) W fun e U=>(∃ v,e=.returned v)∧(J R.length U∨∃ k,k<R.length∧Jx k U)
theorem RecAt.bel{n:Nat}{r:Loop}{A B:World}(h:RecAt n r A)(k:Below A.heap.size A B):RecAt n r B:=⟨(k.block _ h.lt).trans h.l,(k.block _ (by have:=h.lt;omega)).trans h.d⟩
theorem Zr8{α:Type}{P:Program}{g:Operand}{ps:Array Tmp}{assign body:Code}{Q:Exit→Act→World→Prop}{a:Act}{w:World}{gf:Nat}{lb:Array Value}
  (hg:a.eval g=.func (.func gf) #[] lb) (eg:∀ args w,(callFunc gf args).run P w=.ok (.enter gf args) w) {encs:α→Array Value} {R:List α} (p:Nat→Prop) (hp:∀ b,p b→b<w.heap.size)
  (hseq:SeqB P gf lb encs (Keeps p) R w) (hps:∀ x,(encs x).size=ps.size)
  (I:Nat→World→Prop) (Ix:Code→Nat→World→Prop) (hIb:∀ k A B,I k A→Below A.heap.size A B→I k B) (hI:∀ k A B row,I k A→A.grownBy B row→(∀ r,row=some r→w.heap.size≤r∧∃ o:Obj,A.heap[r]? = some o∧o.isCells=false)→I k B)
  (hIx:∀ c k A B row,Ix c k A→A.grownBy B row→(∀ r,row=some r→w.heap.size≤r∧∃ o:Obj,A.heap[r]? = some o∧o.isCells=false)→Ix c k B) (h0:I 0 w) (A2:α→Act→World→Prop)
  (hA2:∀ x a A B row,A2 x a A→A.grownBy B row→(∀ r,row=some r→w.heap.size≤r∧∃ o:Obj,A.heap[r]? = some o∧o.isCells=false)→A2 x a B)
  (hassign:∀ (l k:Nat) (x:α) (W:World) (K:Act→World→Prop),R[k]? = some x→I k W→(∀ a2 W2,B3 W W2→A2 x a2 W2→K a2 W2) →
   assign.wpIn (Fence.wide.inRound l) 2 P (Exit.then K (fun _ _ _=>False)) { tmps:=(ps.zip (encs x)).foldl (fun t (p,v)=>t.setIfInBounds p v) a.tmps,defers:=[] } W)
  (hbody:∀ (l k:Nat) (x:α) (a2:Act) (W:World),w.heap.size≤l→R[k]? = some x→I k W→A2 x a2 W→body.wpIn (Fence.wide.inRound l) 2 P (rdPost w.heap.size (Keeps p) I Ix k W) a2 W)
  (hdone:∀ (D:Nat) (W:World),w.heap.size≤D→I R.length W→W.heap[D]? = some (.deferred (some []))→Q .normal { a with defers:={ target:=.collected D,args:=#[] }::a.defers } W)
  (hstop:∀ (D:Nat) (c:Code) (k:Nat) (W:World),w.heap.size≤D→k<R.length→Ix c k W→W.heap[D]? = some (.deferred (some []))→c.wp P Q { a with defers:={ target:=.collected D,args:=#[] }::a.defers } W) :
  (Code.rangeFunc g ps assign body).wp P Q a w:=by
 refine(wpIn_wide (n:=4)).1 (wpIn_rangeFunc fun fn _=>?_)
 obtain⟨a4,a0⟩:∃ a4:LoopState→Option Code→Loop,a4=fun st pe=>{ state:=st,pending:=pe,fn,tmps:=a.tmps,params:=ps,assign,body,defers:=w.heap.size }:=⟨_,rfl⟩
 obtain⟨W1,b2⟩:∃ W1,(w.alloc (.deferred (some []))).alloc (.loop (a4 .ready none))=W1:=⟨_,rfl⟩
 have b8:RecAt w.heap.size (a4 .ready none) W1:=by
  rw[←b2]
  refine⟨?_,(Below.heap_alloc _ _ _ (by simp)).trans (K6 w _)⟩
  have:=K6 (w.alloc (.deferred (some []))) (.loop (a4 .ready none))
  rwa [World.size_alloc] at this
 have c2:I 0 W1:=by
  rw[←b2]
  exact hI _ _ _ none (hI _ _ _ none h0 (L5 _ _ _) (fun _ e=>by cases e)) (L5 _ _ _) (fun _ e=>by cases e)
 have b7:B3 w W1:=by
  rw[←b2];exact((Below.refl _ w).alloc (At _) _).alloc (by simp) _
 refine⟨w.heap.size+1,[{ target:=.collected w.heap.size,args:=#[] }],W1,{ target:=.fn (.func gf) lb,args:=#[.func (.yield (w.heap.size+1)) #[] #[]] },W1,gf,
  #[.func (.yield (w.heap.size+1)) #[] #[]]++lb,W1,?_,?_,fun _ _=>trivial,?_,fun _=>by omega,?_⟩
 ·rw[←b2,a0];exact run_enterLoop_outer _ _ _ _ _
 ·simp only[resolve,hg]
  simp[go_sem]
 ·simp[invoke,go_sem,eg]
 refine(hseq (w.heap.size+1) (fun k W=>I k W∧RecAt w.heap.size (a4 .ready none) W) (fun k W=>∃ c,Ix c k W∧RecAt w.heap.size (a4 .done (some c)) W) W1 b7
  (fun k A B hs hb=>⟨hIb _ _ _ hs.1 hb,hs.2.bel hb⟩) ?_ ⟨c2,b8⟩).mono ?_
 ·rintro k x W hx ⟨hi,hl⟩
  have hy:=run_yield (P:=P) (args:=encs x) hl.l (by rw[a0];exact hps x)
  rw[a0] at hy
  refine⟨fn,_,assign,body,hy,roundIn_of_wpIn trivial (hassign _ k x W _ hx hi fun a2 W2 a7 c3=>⟨_,run_beginRound (hl.bel a7).l (by rw[a0]),?_⟩)⟩
  have b3:=hl.bel a7
  obtain⟨Wb,a6⟩:∃ Wb,W2.putObj (w.heap.size+1) (.loop { a4 .ready none with state:=.busy })=Wb:=⟨_,rfl⟩
  have c1:RecAt w.heap.size (a4 .busy none) Wb:=by
   have:=b3.put (a4 .busy none)
   rw[a0] at this a6
   rw[a6] at this
   rw[a0]
   exact this
  have c0:I k Wb:=by
   rw[←a6]
   exact hI _ _ _ _ (hIb _ _ _ hi a7) (grownBy_putObj' W2 _ _) (fun r e=>by cases e;exact⟨by omega,_,b3.l,rfl⟩)
  have b9:A2 x a2 Wb:=by
   rw[←a6]
   exact hA2 _ _ _ _ _ c3 (grownBy_putObj' W2 _ _) (fun r e=>by cases e;exact⟨by omega,_,b3.l,rfl⟩)
  have c4:Keeps p W Wb:=by
   have h1:Keeps p W W2:=⟨a7.size,fun b hb=>a7.block b (Nat.lt_trans (hp b hb) (by have:=hl.lt;omega))⟩
   rw[←a6]
   exact h1.trans (Iq hp W2 _ _ _ M0 b3.l rfl rfl)
  rw[a6]
  refine wpIn_mono (hbody _ k x a2 Wb M0 hx c0 b9) ?_
  have b5:∀ (a1:Option Code) (V:World),KeepsFrom w.heap.size Wb V→RecAt w.heap.size (a4 .busy none) V∧∃ U,U=V.putObj (w.heap.size+1) (.loop (a4 (if a1.isNone then .ready else .done) a1)) ∧
    (Instr.endRound (w.heap.size+1) a1).run P V=.ok (.bool a1.isNone) U∧RecAt w.heap.size (a4 (if a1.isNone then .ready else .done) a1) U:=fun a1 V hk=>by
   have hv:=c1.from hk
   have he:=run_endRound (P:=P) a1 hv.l
   refine⟨hv,_,rfl,?_,hv.put _⟩
   rw[a0] at he ⊢
   exact he
  have b4:∀ {V:World} {r r':Loop} {k:Nat},RecAt w.heap.size r V→I k V→I k (V.putObj (w.heap.size+1) (.loop r')):=fun hv h=>hI _ _ _ _ h (grownBy_putObj' _ _ _) (fun r e=>(by cases e;exact⟨by omega,_,hv.l,rfl⟩))
  have b0:∀ {V:World} {r r':Loop} {c:Code} {k:Nat},RecAt w.heap.size r V→Ix c k V→Ix c k (V.putObj (w.heap.size+1) (.loop r')):=fun hv h=>hIx _ _ _ _ _ h (grownBy_putObj' _ _ _) (fun r e=>by cases e;exact⟨by omega,_,hv.l,rfl⟩)
  rintro e a3 V a5
  cases e with
  | normal =>
   obtain⟨a9,b6,a8⟩:=a5
   obtain⟨hv,U,rfl,hr,b1⟩:=b5 none V a9
   exact⟨_,_,hr,.inl ⟨rfl,⟨b4 hv a8,b1⟩,(c4.trans b6).trans (Iq hp V _ _ _ M0 hv.l rfl rfl)⟩⟩
  | ret =>
   obtain⟨a9,a8⟩:=a5
   obtain⟨hv,U,rfl,hr,b1⟩:=b5 (some .ret) V a9
   exact⟨_,_,hr,.inr ⟨rfl,.ret,b0 hv a8,b1⟩⟩
  | exit id =>
   obtain⟨a9,a8⟩:=a5
   obtain⟨hv,U,rfl,hr,b1⟩:=b5 (some (.exit id)) V a9
   exact⟨_,_,hr,.inr ⟨rfl,.exit id,b0 hv a8,b1⟩⟩
  | goto t=>exact a5.elim
  | panic ch=>exact a5.elim
  | outgrown=>exact a5.elim
 ·rintro e W2 ⟨⟨v,rfl⟩,(⟨hi,hl⟩|⟨k,hk,c,hi,hl⟩)⟩
  ·have he:=run_endLoop (P:=P) hl.l (by rw[a0];simp)
   rw[show(a4 .ready none).pending=none by rw[a0]] at he
   exact⟨none,_,he,hdone _ _ (At _) (hI _ _ _ _ hi (grownBy_putObj' _ _ _) (fun r e=>(by cases e;exact⟨by omega,_,hl.l,rfl⟩))) ((H1 M0).trans hl.d)⟩
  ·have he:=run_endLoop (P:=P) hl.l (by rw[a0];simp)
   rw[show(a4 .done (some c)).pending=some c by rw[a0]] at he
   exact⟨some c,_,he,wpIn_wide.2 (hstop _ c k _ (At _) hk (hIx _ _ _ _ _ hi (grownBy_putObj' _ _ _) (fun r e=>by cases e;exact⟨by omega,_,hl.l,rfl⟩)) ((H1 M0).trans hl.d))⟩
end Go.Proofs.YtceeiinepijokaaGreatDoor
namespace Go.Proofs.YtceeiinepijokaaGreatDoor
set_option maxHeartbeats 8000000
set_option maxRecDepth 100000
open Go.RowKit Go.Extern.Stop Go.Stop Go.Extern
set_option linter.unusedVariables false
attribute [local irreducible] wpList wpAnyH Code.wp Oper.wp Go
def Mf:List Ln:=[(8,0,1099511627775)]
theorem Zkm:Gj Mf:=by
 refine⟨by decide,fun i hi=>?_⟩
 have a0:i<1:=hi
 obtain rfl:i=0:=by omega
 simp[Mf,List.getD]
def Nc:List Ln:=[(8,0,16384),(8,0,2147483647),(4,0,16777215),(4,0,16777215)]
theorem Zet:Gj Nc:=by
 refine⟨by decide,fun i hi=>?_⟩
 have a0:i<4:=hi
 obtain rfl|rfl|rfl|rfl:i=0∨i=1∨i=2∨i=3:=by omega
 all_goals simp[Nc,List.getD]
abbrev Mp:=Int×Int×Int
def Cu(m:Mp):List Value:=[V0 m.1,V0 m.2.1,V0 m.2.2]
theorem Gx(m:Mp):(Cu m).length=3:=rfl
abbrev Dv:=(Int×Int×Int×Int)×List Mp
structure MapsOk(data:Int)(M:List Mp):Prop where
 rise:M.Pairwise (fun x y=>x.1<y.1)
 each:∀ m∈M,(0≤m.1∧m.1≤281474976710655)∧(0≤m.2.1∧m.2.1<data)∧0≤m.2.2∧m.2.2≤16777215
theorem MapsOk.nil(data:Int):MapsOk data []:=⟨.nil,fun _ h=>by cases h⟩
structure DevOk(data:Int)(d:Dv):Prop where
 id:0≤d.1.1∧d.1.1≤16777215
 tx:0≤d.1.2.1∧d.1.2.1≤2147483647
 made:0≤d.1.2.2.1∧d.1.2.2.1≤16777215
 snap:0≤d.1.2.2.2∧d.1.2.2.2≤16777215
 maps:MapsOk data d.2
def Up(L:List Dv):Nat:=(L.map fun d=>d.2.length).sum
structure DevsOk(data:Int)(L:List Dv):Prop where
 few:L.length≤4096
 sum:Up L≤16384
 rise:L.Pairwise (fun x y=>x.1.1<y.1.1)
 each:∀ d∈L,DevOk data d
theorem DevsOk.nil(data:Int):DevsOk data []:=⟨by decide,by decide,.nil,fun _ h=>by cases h⟩
def mapN(v:Bl):Nat:=(Xs Mf v).getD 0 0
def Ov(v:Bl):Nat:=mapN v/16777216
def Zez(v:Bl):Nat:=mapN v%16777216
theorem mapN_bd(v:Bl):mapN v≤1099511627775:=by
 unfold mapN Xs
 by_cases h:Xn Mf v=0
 ·rw[if_pos h]
  unfold Xn at h
  split at h
  ·split at h
   ·rename_i h1 h2
    unfold Pu Us at h2
    rw[H7] at h2
    have h3:=of_decide_eq_true (h2 0 (B9.2 Do))
    rw[show((Mc Mf v).map fun n:Nat=>(n:Int)).getD 0 0=(((Mc Mf v).getD 0 0:Nat):Int) by simp[List.getD,show 0<(Mc Mf v).length by rw[Fu];decide]] at h3
    have h4:(((Mc Mf v).getD 0 0:Nat):Int)≤1099511627775:=h3.2
    omega
   ·simp at h
  ·simp at h
 ·rw[if_neg h];decide
def Zf3(data:Int)(v:Bl):Int:=if Xn Mf v≠0 then Xn Mf v else if data≤(Ov v:Int) then 2 else 0
def Kj(v:Bl)(i:Nat):Nat:=(Xs Nc v).getD i 0
def mpD:Mp:=(0,0,0)
def inZ (n lo hi:Int):Bool:=decide (lo≤n∧n≤hi)
theorem inZ_t{n lo hi:Int}:inZ n lo hi=true↔lo≤n∧n≤hi:=decide_eq_true_iff
def dvE (d:Dv)(last:Int):Int:=if inZ d.1.1 0 16777215&&(inZ d.1.2.1 0 2147483647&&(inZ d.1.2.2.1 0 16777215&&inZ d.1.2.2.2 0 16777215)) then(if d.1.1≤last then 8 else 0) else 2
def mpE (data:Int)(m:Mp)(last:Int):Int:=if inZ m.1 0 281474976710655&&(inZ m.2.1 0 (data-1)&&inZ m.2.2 0 16777215) then(if m.1≤last then 8 else 0) else 2
def Zdp(data:Int):List Mp→Int→Int
 | [],_=>0
 | m::r,last=>if mpE data m last≠0 then mpE data m last else Zdp data r m.1
def Zrz(data:Int):List Dv→Int→Int
 | [],_=>0
 | d::r,last=>if dvE d last≠0 then dvE d last else if Zdp data d.2 (-1)≠0 then Zdp data d.2 (-1) else Zrz data r d.1.1
def wsum(L:List Dv):Int:=IntKind.i64.wrap (Up L:Int)
def Qz(tx time unit data:Int)(L:List Dv):Int :=
 if(inZ tx 0 2147483647&&inZ time 0 16777215)&&(inZ unit 1 65536&&inZ data 0 65536) then(if 4096<L.length∨16384<wsum L then 2 else Zrz data L (-1)) else 2
theorem mpE_2{data:Int}{m:Mp}{last:Int}(h:(inZ m.1 0 281474976710655&&(inZ m.2.1 0 (data-1)&&inZ m.2.2 0 16777215))=false):mpE data m last=2:=if_neg (by rw[h];decide)
theorem mpE_8{data:Int}{m:Mp}{last:Int}(h:(inZ m.1 0 281474976710655&&(inZ m.2.1 0 (data-1)&&inZ m.2.2 0 16777215))=true)(h2:m.1≤last):mpE data m last=8:=(if_pos h).trans (if_pos h2)
theorem mpE_0{data:Int}{m:Mp}{last:Int}(h:(inZ m.1 0 281474976710655&&(inZ m.2.1 0 (data-1)&&inZ m.2.2 0 16777215))=true)(h2:¬ m.1≤last):mpE data m last=0:=(if_pos h).trans (if_neg h2)
theorem dvE_2{d:Dv}{last:Int}(h:(inZ d.1.1 0 16777215&&(inZ d.1.2.1 0 2147483647&&(inZ d.1.2.2.1 0 16777215&&inZ d.1.2.2.2 0 16777215)))=false):dvE d last=2:=if_neg (by rw[h];decide)
theorem dvE_8{d:Dv}{last:Int}(h:(inZ d.1.1 0 16777215&&(inZ d.1.2.1 0 2147483647&&(inZ d.1.2.2.1 0 16777215&&inZ d.1.2.2.2 0 16777215)))=true)(h2:d.1.1≤last):dvE d last=8:=(if_pos h).trans (if_pos h2)
theorem dvE_0{d:Dv}{last:Int}(h:(inZ d.1.1 0 16777215&&(inZ d.1.2.1 0 2147483647&&(inZ d.1.2.2.1 0 16777215&&inZ d.1.2.2.2 0 16777215)))=true)(h2:¬ d.1.1≤last):dvE d last=0:=(if_pos h).trans (if_neg h2)
theorem mpE_ok{data:Int}{m:Mp}{last:Int}:mpE data m last=0↔((0≤m.1∧m.1≤281474976710655)∧(0≤m.2.1∧m.2.1<data)∧0≤m.2.2∧m.2.2≤16777215)∧last<m.1:=by
 unfold mpE
 simp only[D9,inZ_t]
 split
 ·split
  ·exact⟨fun h=>absurd h Do,fun h=>by omega⟩
  ·exact⟨fun _=>by omega,fun _=>rfl⟩
 ·exact⟨fun h=>absurd h Do,fun h=>by omega⟩
theorem dvE_ok{d:Dv}{last:Int}:dvE d last=0↔((0≤d.1.1∧d.1.1≤16777215)∧(0≤d.1.2.1∧d.1.2.1≤2147483647)∧(0≤d.1.2.2.1∧d.1.2.2.1≤16777215)∧0≤d.1.2.2.2∧d.1.2.2.2≤16777215)∧last<d.1.1:=by
 unfold dvE
 simp only[D9,inZ_t]
 split
 ·split
  ·exact⟨fun h=>absurd h Do,fun h=>by omega⟩
  ·exact⟨fun _=>by omega,fun _=>rfl⟩
 ·exact⟨fun h=>absurd h Do,fun h=>by omega⟩
theorem Zjr{data:Int}:∀ {M:List Mp} {last:Int},Zdp data M last=0↔MapsOk data M∧∀ m∈M,last<m.1
 | [],last=>⟨fun _=>⟨.nil _,fun _ h=>by cases h⟩,fun _=>rfl⟩
 | m::r,last=>by
  have ih:=@Zjr data r m.1
  show(if mpE data m last≠0 then mpE data m last else Zdp data r m.1)=0↔_
  by_cases h:mpE data m last=0
  ·rw[if_neg (fun q=>q h),ih]
   have h2:=mpE_ok.1 h
   constructor
   ·rintro⟨a,b⟩
    refine⟨⟨.cons b a.rise,fun x hx=>?_⟩,fun x hx=>?_⟩
    ·rcases A9.1 hx with rfl|hx
     ·exact h2.1
     ·exact a.each x hx
    ·rcases A9.1 hx with rfl|hx
     ·exact h2.2
     ·have:=b x hx;omega
   ·rintro⟨a,_⟩
    obtain⟨c1,c2⟩:=List.pairwise_cons.1 a.rise
    exact⟨⟨c2,fun x hx=>a.each x (I3 _ hx)⟩,c1⟩
  ·rw[if_pos h]
   exact⟨fun q=>absurd q h,fun q=>absurd (mpE_ok.2 ⟨q.1.each m (F8 ..),q.2 m (F8 ..)⟩) h⟩
theorem Ztk{data:Int}:∀ {L:List Dv} {last:Int},Zrz data L last=0↔(L.Pairwise (fun x y=>x.1.1<y.1.1)∧∀ d∈L,DevOk data d)∧∀ d∈L,last<d.1.1
  | [],last=>⟨fun _=>⟨⟨.nil,fun _ h=>by cases h⟩,fun _ h=>by cases h⟩,fun _=>rfl⟩
  | d :: r, last => by
    have ih:=@Ztk data r d.1.1
    show(if dvE d last≠0 then dvE d last else if Zdp data d.2 (-1)≠0 then Zdp data d.2 (-1) else Zrz data r d.1.1)=0↔_
    by_cases h:dvE d last=0
    · rw[if_neg (fun q=>q h)]
      have h2:=dvE_ok.1 h
      by_cases g:Zdp data d.2 (-1)=0
      · rw[if_neg (fun q=>q g),ih]
        have g2:=Zjr.1 g
        constructor
        · rintro⟨⟨a1,a2⟩,b⟩
          refine⟨⟨.cons b a1,fun x hx=>?_⟩,fun x hx=>?_⟩
          · rcases A9.1 hx with rfl|hx
            · exact⟨h2.1.1,h2.1.2.1,h2.1.2.2.1,h2.1.2.2.2,g2.1⟩
            · exact a2 x hx
          · rcases A9.1 hx with rfl|hx
            · exact h2.2
            · have:=b x hx;omega
        · rintro⟨⟨a1,a2⟩,_⟩
          obtain⟨c1,c2⟩:=List.pairwise_cons.1 a1
          exact⟨⟨c2,fun x hx=>a2 x (I3 _ hx)⟩,c1⟩
      · rw[if_pos g]
        refine⟨fun q=>absurd q g,fun q=>absurd (Zjr.2 ⟨(q.1.2 d (F8 ..)).maps,fun m hm=>?_⟩) g⟩
        have:=(q.1.2 d (F8 ..)).maps.each m hm;omega
    · rw[if_pos h]
      refine⟨fun q=>absurd q h,fun q=>absurd (dvE_ok.2 ⟨?_,q.2 d (F8 ..)⟩) h⟩
      have:=q.1.2 d (F8 ..)
      exact⟨this.id,this.tx,this.made,this.snap⟩
structure PoolOk(tx time unit data:Int)(L:List Dv):Prop where
 htx:0≤tx∧tx≤2147483647
 htime:0≤time∧time≤16777215
 hunit:1≤unit∧unit≤65536
 hdata:0≤data∧data≤65536
 devs:DevsOk data L
theorem Zvn{M:List Mp}(h:M.Pairwise (fun x y=>x.1<y.1))(h0:∀ m∈M,0≤m.1):∀ i (hi:i<M.length),(i:Int)≤M[i].1
 | 0,hi=>h0 _ (G6 hi)
 | i+1,hi=>by
  have ih:=Zvn h h0 i M0
  have:=List.pairwise_iff_getElem.1 h i (i+1) M0 hi M0
  omega
theorem maps_few{data:Int}{M:List Mp}(h:MapsOk data M):M.length≤281474976710656:=by
 by_cases h0:M.length=0
 ·omega
 ·have h1:=Zvn h.rise (fun m hm=>(h.each m hm).1.1) (M.length-1) M0
  have h2:=(h.each _ (G6 (show M.length-1<M.length by omega))).1.2
  omega
theorem sum_few{L:List Dv}{k:Nat}(h:∀ d∈L,d.2.length≤k):Up L≤L.length*k:=by
 induction L with
 | nil=>exact A3 _
 | cons d r ih =>
  have h1:=h d (F8 ..)
  have h2:=ih fun x hx=>h x (I3 _ hx)
  have e:Up (d::r)=d.2.length+Up r:=rfl
  rw[e,C7,G8];omega
theorem Zvm{data:Int}{L:List Dv}(hf:L.length≤4096)(h:∀ d∈L,DevOk data d):wsum L=(Up L:Int):=by
 have h1:=sum_few fun d hd=>maps_few (h d hd).maps
 have h2:L.length*281474976710656≤4096*281474976710656:=E7 _ hf
 exact IntWalk.i64_in _ M0
theorem Zlj(a b:Int):IntKind.i64.wrap (IntKind.i64.wrap a+b)=IntKind.i64.wrap (a+b):=by
 simp only[IntKind.wrap,IntKind.signed,IntKind.bits]
 simp
 try omega
theorem Cr{tx time unit data:Int}{L:List Dv}:Qz tx time unit data L=0↔PoolOk tx time unit data L:=by
 unfold Qz
 simp only[D9,inZ_t]
 split
 ·rename_i h
  split
  ·rename_i g
   refine⟨fun q=>absurd q Do,fun q=>?_⟩
   have a:=q.devs.few
   have b:=q.devs.sum
   rw[Zvm a q.devs.each] at g
   omega
  ·rename_i g
   rw[Ztk]
   constructor
   ·rintro⟨⟨a,b⟩,_⟩
    have hw:=Zvm (L:=L) M0 b
    exact⟨h.1.1,h.1.2,h.2.1,h.2.2,by omega,by omega,a,b⟩
   ·intro q
    exact⟨⟨q.devs.rise,q.devs.each⟩,fun d hd=>by have:=(q.devs.each d hd).id;omega⟩
 ·rename_i h
  exact⟨fun q=>absurd q Do,fun q=>absurd ⟨⟨q.htx,q.htime⟩,q.hunit,q.hdata⟩ h⟩
theorem Zw0{L:List Dv}{n:Nat}(h:n<L.length){x:Dv}:Up (L.take (n+1))=Up (L.take n)+(L.getD n x).2.length:=by
 unfold Up
 rw[A7 h,B5,F0]
 simp[List.getD,h]
theorem Bt{data:Int}{M:List Mp}{i:Nat}{x:Mp}{last:Int}(h:i<M.length):Zdp data (M.drop i) last=if mpE data (M.getD i x) last≠0 then mpE data (M.getD i x) last else Zdp data (M.drop (i+1)) (M.getD i x).1:=by
 rw[E8 h,show M.getD i x=M[i] from by simp[List.getD,h]];rfl
theorem mpsE_end{data:Int}{M:List Mp}{i:Nat}{last:Int}(h:M.length≤i):Zdp data (M.drop i) last=0:=by
 rw[E0 h];rfl
theorem Zux{data:Int}{L:List Dv}{i:Nat}{x:Dv}{last:Int}(h:i<L.length):Zrz data (L.drop i) last=if dvE (L.getD i x) last≠0 then dvE (L.getD i x) last else if Zdp data (L.getD i x).2 (-1)≠0 then Zdp data (L.getD i x).2 (-1) else Zrz data (L.drop (i+1)) (L.getD i x).1.1:=by
 rw[E8 h,show L.getD i x=L[i] from by simp[List.getD,h]];rfl
theorem dvsE_end{data:Int}{L:List Dv}{i:Nat}{last:Int}(h:L.length≤i):Zrz data (L.drop i) last=0:=by
 rw[E0 h];rfl
abbrev Zv:=Dv×O0×Nat
def zvD:Zv:=(((0,0,0,0),[]),none,0)
def Zh5(z:Zv):List Value:=[V0 z.1.1.1,V0 z.1.1.2.1,V0 z.1.1.2.2.1,V0 z.1.1.2.2.2,.slice z.2.1 z.1.2.length z.2.2]
theorem Gu(z:Zv):(Zh5 z).length=5:=rfl
structure DevsR(w:World)(p:Option Addr)(c:Nat)(Z:List Zv):Prop where
 row:Sts Zh5 w (.slice p Z.length c) Z
 each:∀ i,i<Z.length→Sts Cu w (.slice (Z.getD i zvD).2.1 (Z.getD i zvD).1.2.length (Z.getD i zvD).2.2) (Z.getD i zvD).1.2
theorem DevsR.below{w W:World}{p:O0}{c:Nat}{Z:List Zv}(h:DevsR w p c Z)(hb:B3 w W):DevsR W p c Z:=⟨h.row.below hb,fun i hi=>(h.each i hi).below hb⟩
theorem DevsR.rowN{w:World}{p:O0}{c n:Nat}{Z:List Zv}(h:DevsR w p c Z)(hn:Z.length=n):Sl w (.slice p n c) n (Z.flatMap Zh5):=by subst hn;exact h.row
theorem DevsR.someN{w:World}{p:O0}{c n i:Nat}{Z:List Zv}(h:DevsR w p c Z)(hn:Z.length=n)(hi:i<n):p.isSome=true:=by subst hn;exact(Sts.cell h.row Gu zvD (k:=i) (i:=0) hi rfl).1
theorem Lc(n lo hi:Int)(w:World) :
 C0 46 #[V0 n,V0 lo,V0 hi] w (Ret (.bool (inZ n lo hi)) w):=by
 refine zin 15 Tryz.func46 ?_
 refine xg 11 [9,10] (decide (lo≤n)) (fun a0=>?_) (fun a0=>?_)
 ·have a0:=of_decide_eq_true a0
  exact xe 8 (.bool (decide (n≤hi))) ⟨by rw[show inZ n lo hi=decide (n≤hi) from by unfold inZ;exact decide_eq_decide.2 M0],(B4 w)⟩
 have a0:=of_decide_eq_false a0
 exact xe 8 (.bool false) ⟨by rw[show inZ n lo hi=false from decide_eq_false M0],(B4 w)⟩
theorem Dm(t:Int)(w:World) :
 C0 94 #[V0 t] w (Ret (.bool !(inZ t 0 16777215)) w):=by
 refine zin 6 Tryz.func94 ?_
 refine xr 8 (Lc t 0 16777215 _) fun W1 a0=>?_
 exact xe 5 (.bool (!(inZ t 0 16777215))) ⟨rfl,a0⟩
theorem indexT1(t:Int)(b:Nat)(w:World)(k:Blk w b [V0 t] 3) :
 C0 150 #[.slice (S1 b) 1 1,.func (.func 94) #[] #[]] w ((fun e w'=>((inZ t 0 16777215)=true∧e=.returned (V0 (-1))∧B3 w w')∨((inZ t 0 16777215)=false∧∃ i:Nat,e=.returned (V0 (i:Int))∧B3 w w'))):=by
 refine zin 19 Tryz.func150 ?_
 refine xu 14 2 ?_
 refine xb 23 0 k ?_
 refine xr 0 (Dm t _) fun W1 a0=>?_
 refine xi 2 (!(inZ t 0 16777215)) (fun a1=>?_) (fun a1=>?_)
 ·exact xe 12 (V0 0) (.inr ⟨by simp_all,0,rfl,a0⟩)
 exact xe 26 (V0 (-1)) (.inl ⟨by simp_all,rfl,a0⟩)
theorem Zpx(t:Int)(b:Nat)(w:World)(k:Blk w b [V0 t] 3) :
 C0 93 #[.slice (S1 b) 1 1,.func (.func 94) #[] #[]] w (Ret (.bool !(inZ t 0 16777215)) w):=by
 refine zin 9 Tryz.func93 ?_
 refine xc 9 (indexT1 t b _ k) ?_
 rintro e W1 a1
 rcases a1 with ⟨hz,rfl,a0⟩|⟨hz,i0,rfl,a0⟩
 ·exact xe 5 (.bool false) ⟨by first|(rw[hz];rfl)|(rw[hz,decide_eq_true M0];rfl),a0⟩
 exact xe 5 (.bool (decide ((i0:Int)≥(0:Int)))) ⟨by first|(rw[hz];rfl)|(rw[hz,decide_eq_true M0];rfl),a0⟩
theorem Zg2(tx:Int)(t:Int)(b:Nat)(w:World)(k:Blk w b [V0 t] 3) :
 C0 45 #[V0 tx,.slice (S1 b) 1 1] w (Ret (.bool ((inZ tx 0 2147483647)&&(inZ t 0 16777215))) w):=by
 refine zin 12 Tryz.func45 ?_
 refine xr 8 (Lc tx 0 2147483647 _) fun W1 a0=>?_
 refine xg 1 [6,7] (inZ tx 0 2147483647) (fun a2=>?_) (fun a2=>?_)
 ·have a1:=k.below a0
  refine xr 1 (Zpx t b _ a1) fun W3 a3=>?_
  have hB:=bln a0 a3
  exact xe 6 (.bool (!(!(inZ t 0 16777215)))) ⟨by simp_all,hB⟩
 exact xe 8 (.bool false) ⟨by simp_all,a0⟩
theorem indexT2(t u:Int)(b:Nat)(w:World)(k:Blk w b [V0 t,V0 u] 3) :
 C0 150 #[.slice (S1 b) 2 2,.func (.func 94) #[] #[]] w ((fun e w'=>(((inZ t 0 16777215)&&(inZ u 0 16777215))=true∧e=.returned (V0 (-1))∧B3 w w')∨(((inZ t 0 16777215)&&(inZ u 0 16777215))=false∧∃ i:Nat,e=.returned (V0 (i:Int))∧B3 w w'))):=by
 refine zin 19 Tryz.func150 ?_
 refine xu 14 3 ?_
 refine xb 23 0 k ?_
 refine xr 0 (Dm t _) fun W1 a0=>?_
 refine xi 2 (!(inZ t 0 16777215)) (fun a3=>?_) (fun a3=>?_)
 ·exact xe 12 (V0 0) (.inr ⟨by simp_all,0,rfl,a0⟩)
 have a4:=k.below a0
 refine xb 31 1 a4 ?_
 refine xr 0 (Dm u _) fun W3 a1=>?_
 refine xi 2 (!(inZ u 0 16777215)) (fun a2=>?_) (fun a2=>?_)
 ·have hB:=bln a0 a1
  exact xe 12 (V0 1) (.inr ⟨by simp_all,1,rfl,hB⟩)
 have hB:=bln a0 a1
 exact xe 26 (V0 (-1)) (.inl ⟨by simp_all,rfl,hB⟩)
theorem Zqa(t u:Int)(b:Nat)(w:World)(k:Blk w b [V0 t,V0 u] 3) :
 C0 93 #[.slice (S1 b) 2 2,.func (.func 94) #[] #[]] w (Ret (.bool !((inZ t 0 16777215)&&(inZ u 0 16777215))) w):=by
 refine zin 9 Tryz.func93 ?_
 refine xc 9 (indexT2 t u b _ k) ?_
 rintro e W1 a1
 rcases a1 with ⟨hz,rfl,a0⟩|⟨hz,i0,rfl,a0⟩
 ·exact xe 5 (.bool false) ⟨by first|(rw[hz];rfl)|(rw[hz,decide_eq_true M0];rfl),a0⟩
 exact xe 5 (.bool (decide ((i0:Int)≥(0:Int)))) ⟨by first|(rw[hz];rfl)|(rw[hz,decide_eq_true M0];rfl),a0⟩
theorem Zhs(tx:Int)(t u:Int)(b:Nat)(w:World)(k:Blk w b [V0 t,V0 u] 3) :
 C0 45 #[V0 tx,.slice (S1 b) 2 2] w (Ret (.bool ((inZ tx 0 2147483647)&&((inZ t 0 16777215)&&(inZ u 0 16777215)))) w):=by
 refine zin 12 Tryz.func45 ?_
 refine xr 8 (Lc tx 0 2147483647 _) fun W1 a0=>?_
 refine xg 1 [6,7] (inZ tx 0 2147483647) (fun a2=>?_) (fun a2=>?_)
 ·have a1:=k.below a0
  refine xr 1 (Zqa t u b _ a1) fun W3 a3=>?_
  have hB:=bln a0 a3
  exact xe 6 (.bool (!(!((inZ t 0 16777215)&&(inZ u 0 16777215))))) ⟨by simp_all,hB⟩
 exact xe 8 (.bool false) ⟨by simp_all,a0⟩
theorem Zjs(d:Dv)(last:Int)(a:O0)(n c:Nat)(w:World) :
 C0 48 #[.agg #[V0 d.1.1,V0 d.1.2.1,V0 d.1.2.2.1,V0 d.1.2.2.2,.slice a n c],V0 last] w (Ret (V0 (dvE d last)) w):=by
 refine zin 26 Tryz.func48 ?_
 refine xa 2 [V0 d.1.1,V0 d.1.2.1,V0 d.1.2.2.1,V0 d.1.2.2.2,.slice a n c] 95 fun b1 W1 n1=>?_
 refine xb 8 0 n1.blk ?_
 refine xr 0 (Lc d.1.1 0 16777215 _) fun W2 a3=>?_
 refine xg 2 [9,10] (!(inZ d.1.1 0 16777215)) (fun a1=>?_) (fun a1=>?_)
 ·have a1:=Zb9 a1
  have hB:=bln n1.below a3
  exact xe 22 (V0 2) ⟨by rw[dvE_2 (by rw[a1];rfl)],hB⟩
 have a1:=Zb8 a1
 have a0:=n1.blk.below a3
 refine xb 1 1 a0 ?_
 refine xb 1 2 a0 ?_
 refine xb 1 3 a0 ?_
 refine xbs 0 2 [V0 d.1.2.2.1,V0 d.1.2.2.2] 3 fun b4 W4 n4=>?_
 refine xr 0 (Zhs d.1.2.1 d.1.2.2.1 d.1.2.2.2 b4 _ n4.blk) fun W5 a4=>?_
 refine xi 5 (!((inZ d.1.2.1 0 2147483647)&&((inZ d.1.2.2.1 0 16777215)&&(inZ d.1.2.2.2 0 16777215)))) (fun a2=>?_) (fun a2=>?_)
 ·have a2:=Zb9 a2
  have hB:=bln (bln (bln n1.below a3) n4.below) a4
  exact xe 8 (V0 2) ⟨by rw[dvE_2 (by rw[a1,a2];rfl)],hB⟩
 have a2:=Zb8 a2
 have a5:=(a0.below n4.below).below a4
 refine xb 3 0 a5 ?_
 refine xid 5 (d.1.1≤last) (fun a6=>?_) (fun a6=>?_)
 ·have hB:=bln (bln (bln n1.below a3) n4.below) a4
  exact xe 8 (V0 8) ⟨by rw[dvE_8 (by rw[a1,a2];rfl) M0],hB⟩
 have hB:=bln (bln (bln n1.below a3) n4.below) a4
 exact xe 9 (V0 0) ⟨by rw[dvE_0 (by rw[a1,a2];rfl) M0],hB⟩
theorem Zk2(a:O0)(c:Nat)(L:List Mp)(data:Int)(w:World)(hd:0≤data∧data≤65536)(ha:Sts Cu w (.slice a L.length c) L) :
 C0 49 #[.slice a L.length c,V0 data] w (Ret (V0 (Zdp data L (-1))) w):=by
 have c1:=Sl.len ha
 refine zin 41 Tryz.func49 ?_
 have hB:=Below.refl w.heap.size w
 refine zl 19 41 (fun zm c0 V=>∃ (i:Nat) (a4:Int),c0=[(1,V0 data),(5,V0 a4),(8,.slice a L.length c),(9,V0 (L.length:Int)),(10,V0 (i:Int))]∧zm=L.length-((i:Int)).toNat∧B3 w V∧i≤L.length∧Zdp data L (-1)=Zdp data (L.drop i) a4) ⟨0,(-1),rfl,rfl,hB,A3 _,rfl⟩ ?_
 rintro _ _ W1 ⟨i,a4,rfl,rfl,a0,hi,he⟩ J1 b8 r1
 refine xid 6 ((i:Int)<(L.length:Int)) (fun b9=>?_) (fun b9=>?_)
 ·refine xx 6 _ L.length i 3 (Sts.cell ha Gx mpD (k:=i) (i:=0) M0 rfl).1 ?_
  refine xlv 0 (Sts.rp (k:=i) (ha.below a0) Gx mpD M0 Do) ?_
  refine xa 0 [V0 0,V0 0,V0 0] 159 fun b3 W3 n3=>?_
  have g3:=n3.ge a0
  refine xsv 0 n3.blk [V0 ((L.getD i mpD).1),V0 ((L.getD i mpD).2.1),V0 ((L.getD i mpD).2.2)] fun W4 u4 k4=>?_
  refine xb 7 0 k4 ?_
  refine xr 0 (Lc ((L.getD i mpD).1) 0 281474976710655 _) fun W5 a5=>?_
  refine xg 2 [18,19] (!(inZ ((L.getD i mpD).1) 0 281474976710655)) (fun a2=>?_) (fun a2=>?_)
  ·have a2:=Zb9 a2
   have b5:=bln (u4.below (bln a0 n3.below) g3) a5
   exact xe 30 (V0 2) ⟨by rw[he,Bt (x:=mpD) M0,mpE_2 (by rw[a2];rfl)];rfl,b5⟩
  have a2:=Zb8 a2
  have a6:=k4.below a5
  refine xb 1 1 a6 ?_
  refine xw 1 (data-1) ?_
  refine xr 0 (Lc ((L.getD i mpD).2.1) 0 (data-1) _) fun W7 a9=>?_
  refine xg 3 [25,26,27] (!(inZ ((L.getD i mpD).2.1) 0 (data-1))) (fun a3=>?_) (fun a3=>?_)
  ·have a3:=Zb9 a3
   have b2:=bln (bln (u4.below (bln a0 n3.below) g3) a5) a9
   exact xe 22 (V0 2) ⟨by rw[he,Bt (x:=mpD) M0,mpE_2 (by rw[a2,a3];rfl)];rfl,b2⟩
  have a3:=Zb8 a3
  have a8:=a6.below a9
  refine xb 1 2 a8 ?_
  refine xr 0 (Lc ((L.getD i mpD).2.2) 0 16777215 _) fun W9 b0=>?_
  refine xi 5 (!(inZ ((L.getD i mpD).2.2) 0 16777215)) (fun a1=>?_) (fun a1=>?_)
  ·have a1:=Zb9 a1
   have b4:=bln (bln (bln (u4.below (bln a0 n3.below) g3) a5) a9) b0
   exact xe 13 (V0 2) ⟨by rw[he,Bt (x:=mpD) M0,mpE_2 (by rw[a2,a3,a1];rfl)];rfl,b4⟩
  have a1:=Zb8 a1
  have a7:=a8.below b0
  refine xb 3 0 a7 ?_
  refine xid 5 ((L.getD i mpD).1≤a4) (fun b7=>?_) (fun b7=>?_)
  ·have b6:=bln (bln (bln (u4.below (bln a0 n3.below) g3) a5) a9) b0
   exact xe 13 (V0 8) ⟨by rw[he,Bt (x:=mpD) M0,mpE_8 (by rw[a2,a3,a1];rfl) M0];rfl,b6⟩
  refine xb 5 0 a7 ?_
  refine xwm 5 ((i:Int)+1) (↑(i+1):Int) ?_
  have b1:=bln (bln (bln (u4.below (bln a0 n3.below) g3) a5) a9) b0
  exact ze 2 (b8 _ _ _ ⟨i+1,(L.getD i mpD).1,rfl,rfl,b1,by omega,by rw[he,Bt (x:=mpD) M0,mpE_0 (by rw[a2,a3,a1];rfl) M0];rfl⟩ M0)
 exact xe 11 (V0 0) ⟨by rw[he,mpsE_end M0],a0⟩
theorem zfst{Z:List Zv}{i:Nat}(h:i<Z.length)(x:Dv):(Z.map Prod.fst).getD i x=(Z.getD i zvD).1:=by simp[List.getD,h]
theorem Rl{data:Int}{Z:List Zv}{i:Nat}{last:Int}(h:i<Z.length):Zrz data ((Z.map Prod.fst).drop i) last=if dvE (Z.getD i zvD).1 last≠0 then dvE (Z.getD i zvD).1 last else if Zdp data (Z.getD i zvD).1.2 (-1)≠0 then Zdp data (Z.getD i zvD).1.2 (-1) else Zrz data ((Z.map Prod.fst).drop (i+1)) (Z.getD i zvD).1.1.1:=by
 rw[Zux (x:=zvD.1) (by rw[A6];exact h),zfst h]
theorem Sj{Z:List Zv}{i:Nat}(h:i<Z.length):Up ((Z.map Prod.fst).take (i+1))=Up ((Z.map Prod.fst).take i)+(Z.getD i zvD).1.2.length:=by
 rw[Zw0 (x:=zvD.1) (by rw[A6];exact h),zfst h]
theorem Zpv(p:O0)(c n:Nat)(t u v x:Int)(Z:List Zv)(w:World)(hZ:Z.length=n)(hP:DevsR w p c Z) :
 C0 47 #[.agg #[V0 t,V0 u,V0 v,V0 x,.slice p n c]] w (Ret (V0 (wsum (Z.map Prod.fst))) w):=by
 have a7:=Sl.len (hP.rowN hZ)
 refine zin 20 Tryz.func47 ?_
 refine xa 2 [V0 t,V0 u,V0 v,V0 x,.slice p n c] 48 fun b1 W1 n1=>?_
 refine xb 12 4 n1.blk ?_
 refine zl 5 20 (fun zm a5 V=>∃ (i:Nat),a5=[(2,V0 0),(3,V0 (IntKind.i64.wrap (↑(Up ((Z.map Prod.fst).take i)):Int))),(7,.slice p n c),(8,V0 (n:Int)),(9,V0 (i:Int))]∧zm=n-((i:Int)).toNat∧B3 w V∧Blk V b1 ([V0 t,V0 u,V0 v,V0 x,.slice p n c]) 48∧i≤n) ⟨0,rfl,rfl,n1.below,n1.blk,A3 _⟩ ?_
 rintro _ _ W2 ⟨i,rfl,rfl,a1,a2,hi⟩ J2 a6 r2
 refine xid 6 ((i:Int)<(n:Int)) (fun a4=>?_) (fun a4=>?_)
 ·refine xx 6 _ n i 5 (hP.someN hZ (i:=i) M0) ?_
  refine xlv 0 (Sts.rp (k:=i) (hP.below a1).row Gu zvD M0 Do) ?_
  refine xa 0 [V0 0,V0 0,V0 0,V0 0,S0] 95 fun b4 W4 n4=>?_
  have g4:=n4.ge a1
  refine xsv 0 n4.blk [V0 ((Z.getD i zvD).1.1.1),V0 ((Z.getD i zvD).1.1.2.1),V0 ((Z.getD i zvD).1.1.2.2.1),V0 ((Z.getD i zvD).1.1.2.2.2),.slice ((Z.getD i zvD).2.1) ((Z.getD i zvD).1.2.length) ((Z.getD i zvD).2.2)] fun W5 u5 k5=>?_
  refine xb 5 4 k5 ?_
  refine xwm 7 ((i:Int)+1) (↑(i+1):Int) ?_
  refine xv1 2 3 (show(V0 (IntKind.i64.wrap ((IntKind.i64.wrap (↑(Up ((Z.map Prod.fst).take i)):Int))+(↑((Z.getD i zvD).1.2.length):Int))):Value)=V0 (IntKind.i64.wrap (↑(Up ((Z.map Prod.fst).take (i+1))):Int)) from congrArg V0 ((Zlj _ _).trans (congrArg IntKind.i64.wrap (by have:=Sj (Z:=Z) (i:=i) M0;omega)))) ?_
  have a3:=u5.below (bln a1 n4.below) g4
  have a0:=u5.blkT (a2.below n4.below) n4.blk Do
  exact ze 0 (a6 _ _ _ ⟨i+1,rfl,rfl,a3,a0,by omega⟩ M0)
 exact xe 12 (V0 (IntKind.i64.wrap (↑(Up ((Z.map Prod.fst).take i)):Int))) ⟨by unfold wsum;rw[C1 (by rw[A6];omega)],a1⟩
theorem Il{tx time unit data:Int}{L:List Dv}(h:((inZ tx 0 2147483647&&inZ time 0 16777215)&&(inZ unit 1 65536&&inZ data 0 65536))=false):Qz tx time unit data L=2:=if_neg (by rw[h];decide)
theorem Zh4{tx time unit data:Int}{L:List Dv}(h:((inZ tx 0 2147483647&&inZ time 0 16777215)&&(inZ unit 1 65536&&inZ data 0 65536))=true)(h2:4096<L.length∨16384<wsum L):Qz tx time unit data L=2:=(if_pos h).trans (if_pos h2)
theorem Sg{tx time unit data:Int}{L:List Dv}(h:((inZ tx 0 2147483647&&inZ time 0 16777215)&&(inZ unit 1 65536&&inZ data 0 65536))=true)(h2:¬ (4096<L.length∨16384<wsum L)):Qz tx time unit data L=Zrz data L (-1):=(if_pos h).trans (if_neg h2)
theorem Jt(p:O0)(c n:Nat)(t u v x:Int)(Z:List Zv)(w:World)(hZ:Z.length=n)(hP:DevsR w p c Z) :
 C0 17 #[.agg #[V0 t,V0 u,V0 v,V0 x,.slice p n c]] w (Ret (V0 (Qz t u v x (Z.map Prod.fst))) w):=by
 have e6:=Sl.len (hP.rowN hZ)
 refine zin 60 Tryz.func17 ?_
 refine xa 2 [V0 t,V0 u,V0 v,V0 x,.slice p n c] 48 fun b1 W1 n1=>?_
 refine xb 7 0 n1.blk ?_
 refine xb 1 1 n1.blk ?_
 refine xbs 0 1 [V0 u] 3 fun b2 W2 n2=>?_
 refine xr 0 (Zg2 t u b2 _ n2.blk) fun W3 b9=>?_
 refine xg 2 [14,15] (!((inZ t 0 2147483647)&&(inZ u 0 16777215))) (fun a3=>?_) (fun a3=>?_)
 ·have a3:=Zb9 a3
  have hB:=bln (bln n1.below n2.below) b9
  exact xe 21 (V0 2) ⟨by rw[Il (by rw[a3];rfl)],hB⟩
 have a3:=Zb8 a3
 have c4:=(n1.blk.below n2.below).below b9
 refine xb 1 2 c4 ?_
 refine xr 0 (Lc v 1 65536 _) fun W5 c2=>?_
 refine xg 3 [19,20,21] (!(inZ v 1 65536)) (fun a5=>?_) (fun a5=>?_)
 ·have a5:=Zb9 a5
  have hB:=bln (bln (bln n1.below n2.below) b9) c2
  exact xe 15 (V0 2) ⟨by rw[Il (by rw[a3,a5];rfl)],hB⟩
 have a5:=Zb8 a5
 have c8:=c4.below c2
 refine xb 1 3 c8 ?_
 refine xr 0 (Lc x 0 65536 _) fun W7 c7=>?_
 refine xi 4 (!(inZ x 0 65536)) (fun a4=>?_) (fun a4=>?_)
 ·have a4:=Zb9 a4
  have hB:=bln (bln (bln (bln n1.below n2.below) b9) c2) c7
  exact xe 7 (V0 2) ⟨by rw[Il (by rw[a3,a5,a4];rfl)],hB⟩
 have a4:=Zb8 a4
 have b6:=c8.below c7
 refine xb 6 4 b6 ?_
 refine xg 3 [30,31] (decide ((n:Int)>(4096:Int))) (fun c3=>?_) (fun c3=>?_)
 ·have c3:=of_decide_eq_true c3
  have hB:=bln (bln (bln (bln n1.below n2.below) b9) c2) c7
  exact xe 14 (V0 2) ⟨by rw[Zh4 (by rw[a3,a5,a4];rfl) (by rw[A6];omega)],hB⟩
 have c3:=of_decide_eq_false c3
 refine xlv 0 b6.rp ?_
 have hB:=bln (bln (bln (bln n1.below n2.below) b9) c2) c7
 refine xr 0 (Zpv p c n t u v x Z _ hZ (hP.below hB)) fun f2 b0=>?_
 refine xid 4 ((wsum (Z.map Prod.fst))>(16384:Int)) (fun d8=>?_) (fun d8=>?_)
 ·have d7:=bln hB b0
  exact xe 7 (V0 2) ⟨by rw[Zh4 (by rw[a3,a5,a4];rfl) (by rw[A6];omega)],d7⟩
 have d3:¬ (4096<(Z.map Prod.fst).length∨16384<wsum (Z.map Prod.fst)):=by rw[A6];omega
 have c6:=b6.below b0
 refine xb 11 4 c6 ?_
 have d5:=bln hB b0
 have d0:=(((n2.blk.below b9).below c2).below c7).below b0
 refine zl 5 60 (fun zm e2 V=>∃ (i:Nat) (a2:Int),e2=[(1,P0 b1),(3,V0 a2),(37,.slice p n c),(38,V0 (n:Int)),(39,V0 (i:Int))]∧zm=n-((i:Int)).toNat∧B3 w V∧Blk V b1 ([V0 t,V0 u,V0 v,V0 x,.slice p n c]) 48∧Blk V b2 ([V0 u]) 3∧i≤n∧Zrz x (Z.map Prod.fst) (-1)=Zrz x ((Z.map Prod.fst).drop i) a2) ⟨0,(-1),rfl,rfl,d5,c6,d0,A3 _,rfl⟩ ?_
 rintro _ _ e9 ⟨i,a2,rfl,rfl,a0,b7,c1,hi,he⟩ e3 d1 f0
 have hx:=inZ_t.1 a4
 refine xid 6 ((i:Int)<(n:Int)) (fun d9=>?_) (fun d9=>?_)
 ·refine xx 6 _ n i 5 (hP.someN hZ (i:=i) M0) ?_
  refine xlv 0 (Sts.rp (k:=i) (hP.below a0).row Gu zvD M0 Do) ?_
  refine xa 0 [V0 0,V0 0,V0 0,V0 0,S0] 95 fun e4 e8 b5=>?_
  have e0:=b5.ge a0
  refine xsv 0 b5.blk [V0 ((Z.getD i zvD).1.1.1),V0 ((Z.getD i zvD).1.1.2.1),V0 ((Z.getD i zvD).1.1.2.2.1),V0 ((Z.getD i zvD).1.1.2.2.2),.slice ((Z.getD i zvD).2.1) ((Z.getD i zvD).1.2.length) ((Z.getD i zvD).2.2)] fun f1 c9 e1=>?_
  refine xlv 5 e1.rp ?_
  refine xr 1 (args:=#[.agg #[V0 ((Z.getD i zvD).1.1.1),V0 ((Z.getD i zvD).1.1.2.1),V0 ((Z.getD i zvD).1.1.2.2.1),V0 ((Z.getD i zvD).1.1.2.2.2),.slice ((Z.getD i zvD).2.1) ((Z.getD i zvD).1.2.length) ((Z.getD i zvD).2.2)],V0 a2]) (Zjs (Z.getD i zvD).1 a2 _ _ _ _) fun e5 a7=>?_
  refine xin 9 (dvE (Z.getD i zvD).1 a2) (0:Int) (fun b3=>?_) (fun b3=>?_)
  ·have d6:=bln (c9.below (bln a0 b5.below) e0) a7
   exact xe 13 (V0 (dvE (Z.getD i zvD).1 a2)) ⟨by rw[Sg (by rw[a3,a5,a4];rfl) d3,he,Rl M0,if_pos b3],d6⟩
  have b4:=e1.below a7
  refine xb 6 4 b4 ?_
  have a1:=(c9.blkT (b7.below b5.below) b5.blk Do).below a7
  refine xb 1 3 a1 ?_
  have b8:=bln (c9.below (bln a0 b5.below) e0) a7
  refine xr 0 (args:=#[.slice ((Z.getD i zvD).2.1) ((Z.getD i zvD).1.2.length) ((Z.getD i zvD).2.2),V0 x]) (Zk2 _ _ (Z.getD i zvD).1.2 x _ hx ((hP.below b8).each i M0)) fun e7 a9=>?_
  refine xin 9 (Zdp x (Z.getD i zvD).1.2 (-1)) (0:Int) (fun c0=>?_) (fun c0=>?_)
  ·have d4:=bln b8 a9
   exact xe 13 (V0 (Zdp x (Z.getD i zvD).1.2 (-1))) ⟨by rw[Sg (by rw[a3,a5,a4];rfl) d3,he,Rl M0,if_neg (fun q=>q b3),if_pos c0],d4⟩
  have c5:=b4.below a9
  refine xb 4 0 c5 ?_
  refine xwm 5 ((i:Int)+1) (↑(i+1):Int) ?_
  have d2:=bln b8 a9
  have a8:=a1.below a9
  have a6:=((c9.blkT (c1.below b5.below) b5.blk Do).below a7).below a9
  exact ze 2 (d1 _ _ _ ⟨i+1,(Z.getD i zvD).1.1.1,rfl,rfl,d2,a8,a6,by omega,by rw[he,Rl M0,if_neg (fun q=>q b3),if_neg (fun q=>q c0)]⟩ M0)
 exact xe 11 (V0 0) ⟨by rw[Sg (by rw[a3,a5,a4];rfl) d3,he,dvsE_end (by rw[A6];omega)],a0⟩
theorem unp_put{ps:List Ln}{N:List Int}{C:Bl}:∀ k,k≤ps.length→(∀ i,i<k→0≤N.getD i 0∧(N.getD i 0).toNat<256 ^ (ps.getD i Qd).1) →
 Nu (Td ps N k++C) 0 (Ny ps k)=(List.range k).map fun i=>(N.getD i 0).toNat:=by
 intro k
 induction k generalizing C with
 | zero=>intro _ _;rfl
 | succ k ih =>
  intro hk h
  have e:Td ps N (k+1)++C=Td ps N k++(leB (N.getD k 0) (ps.getD k Qd).1++C):=by rw[Et,A1]
  rw[Hm,Eu,e,ih M0 fun i hi=>h i M0,C3,B5]
  congr 1
  have h2:=h k M0
  have:=Gv (P:=Td ps N k) (Q:=C) (k:=0+(Ny ps k).sum) (w:=(ps.getD k Qd).1) (x:=N.getD k 0) (by rw[Cw];omega) h2.1 h2.2
  simp only[D7,H0,I8,and_true]
  omega
theorem Znh{ps:List Ln}{N:List Int}(hp:Gj ps)(hN:N.length=ps.length)(h:Us ps N ps.length=true):Xn ps (Td ps N ps.length)=0∧∀ i,i<ps.length→(((Xs ps (Td ps N ps.length)).getD i 0:Nat):Int)=N.getD i 0:=by
 have a0:=h
 unfold Us at a0
 rw[H7] at a0
 have hb:∀ i,i<ps.length→0≤N.getD i 0∧(N.getD i 0).toNat<256 ^ (ps.getD i Qd).1:=fun i hi=>by
  have h1:=of_decide_eq_true (a0 i (B9.2 hi))
  have h2:=hp.2 i hi
  refine⟨by omega,?_⟩
  rcases h2.1 with h4|h8
  ·have:=h2.2.2.2 h4
   rw[h4,show(256:Nat) ^ 4=4294967296 from rfl];omega
  ·rw[h8,show(256:Nat) ^ 8=18446744073709551616 from rfl];omega
 have hr:Mc ps (Td ps N ps.length)=(List.range ps.length).map fun i=>(N.getD i 0).toNat:=by
  have:=unp_put (ps:=ps) (N:=N) (C:=[]) ps.length (At _) hb
  rw[G0] at this
  exact this
 have hg:∀ i,i<ps.length→(((Mc ps (Td ps N ps.length)).getD i 0:Nat):Int)=N.getD i 0:=fun i hi=>by
  rw[hr]
  have:=(hb i hi).1
  simp only[List.getD,C4,B8 hi,D5,J0] at this ⊢
  omega
 have he:Xn ps (Td ps N ps.length)=0:=by
  unfold Xn
  rw[if_pos (Cw _ _ _),if_pos]
  unfold Pu Us
  rw[H7]
  intro i hi
  have hi:=B9.1 hi
  have e:((Mc ps (Td ps N ps.length)).map fun n:Nat=>(n:Int)).getD i 0=N.getD i 0:=by
   rw[←hg i hi]
   simp[List.getD,show i<(Mc ps (Td ps N ps.length)).length by rw[Fu];exact hi]
  rw[e]
  exact a0 i (B9.2 hi)
 refine⟨he,fun i hi=>?_⟩
 unfold Xs
 rw[if_pos he]
 exact hg i hi
def Zrv(m:Mp):Bl:=Td Mf [m.2.1*16777216+m.2.2] 1
theorem mapV_len(m:Mp):(Zrv m).length=8:=by unfold Zrv;rw[Cw];rfl
def Pr(n:Int)(d:Dv):Bl:=Td Nc [n,d.1.2.1,d.1.2.2.1,d.1.2.2.2] 4
theorem Zqj(n:Int)(d:Dv):(Pr n d).length=24:=by unfold Pr;rw[Cw];rfl
def Hy(M:List Mp):List Ent:=M.map fun m=>(m.1,Zrv m,0)
theorem Hb(M:List Mp):(Hy M).length=M.length:=A6 ..
def dvD:Dv:=((0,0,0,0),[])
def Nb(L:List Dv)(R:Nat→Nat):List Ent:=(List.range L.length).map fun i=>((L.getD i dvD).1.1,leB (R i:Int) 4,0)
def Pm(L:List Dv)(C:Nat→Int):List Ent:=(List.range L.length).map fun i=>((L.getD i dvD).1.1,Pr (C i) (L.getD i dvD),0)
theorem Qk(L:List Dv)(R:Nat→Nat):(Nb L R).length=L.length:=by simp[Nb]
theorem Km(L:List Dv)(C:Nat→Int):(Pm L C).length=L.length:=by simp[Pm]
theorem Gz{L:List Dv}{R:Nat→Nat}{i:Nat}(h:i<L.length):(Nb L R).getD i Zo=((L.getD i dvD).1.1,leB (R i:Int) 4,0):=by simp[Nb,List.getD,B8 h]
theorem Pb{L:List Dv}{C:Nat→Int}{i:Nat}(h:i<L.length):(Pm L C).getD i Zo=((L.getD i dvD).1.1,Pr (C i) (L.getD i dvD),0):=by simp[Pm,List.getD,B8 h]
theorem Nl{M:List Mp}{i:Nat}(h:i<M.length):(Hy M).getD i Zo=((M.getD i (0,0,0)).1,Zrv (M.getD i (0,0,0)),0):=by simp[Hy,List.getD,h]
theorem mapEs_ok{data:Int}{M:List Mp}(h:MapsOk data M):EntsOk 8 (Hy M):=by
 refine⟨fun i hi=>?_,fun j hj=>?_,fun i hi=>?_⟩
 ·rw[Hb] at hi
  rw[Nl hi]
  have:=h.each (M.getD i (0,0,0)) (by simp[List.getD,hi])
  exact this.1
 ·rw[Hb] at hj
  rw[Nl M0,Nl hj]
  have:=List.pairwise_iff_getElem.1 h.rise j (j+1) M0 hj M0
  simpa [List.getD,hj,show j<M.length by omega] using this
 ·rw[Hb] at hi
  rw[Nl hi];exact mapV_len _
theorem Zm2{data:Int}{L:List Dv}(h:DevsOk data L):(∀ i,i<L.length→0≤(L.getD i dvD).1.1∧(L.getD i dvD).1.1≤281474976710655)∧∀ j,j+1<L.length→(L.getD j dvD).1.1<(L.getD (j+1) dvD).1.1:=by
 refine⟨fun i hi=>?_,fun j hj=>?_⟩
 ·have:=(h.each (L.getD i dvD) (by simp[List.getD,hi])).id;omega
 ·have:=List.pairwise_iff_getElem.1 h.rise j (j+1) M0 hj M0
  simpa [List.getD,hj,show j<L.length by omega] using this
theorem topEs_ok{data:Int}{L:List Dv}{R:Nat→Nat}(h:DevsOk data L):EntsOk 4 (Nb L R):=by
 obtain⟨h1,h2⟩:=Zm2 h
 refine⟨fun i hi=>?_,fun j hj=>?_,fun i hi=>?_⟩
 ·rw[Qk] at hi
  rw[Gz hi];exact h1 i hi
 ·rw[Qk] at hj
  rw[Gz M0,Gz hj];exact h2 j hj
 ·rw[Qk] at hi
  rw[Gz hi];exact Zj _ _
theorem detEs_ok{data:Int}{L:List Dv}{C:Nat→Int}(h:DevsOk data L):EntsOk 24 (Pm L C):=by
 obtain⟨h1,h2⟩:=Zm2 h
 refine⟨fun i hi=>?_,fun j hj=>?_,fun i hi=>?_⟩
 ·rw[Km] at hi
  rw[Pb hi];exact h1 i hi
 ·rw[Km] at hj
  rw[Pb M0,Pb hj];exact h2 j hj
 ·rw[Km] at hi
  rw[Pb hi];exact Zqj _ _
abbrev Jo:=Int×List Ent
def Lh(x:Jo):Prop:=1≤x.1∧x.1≤5∧EntsOk (Jd x.1 true) x.2∧x.2.length≤32768
def Ve(x:Jo):Nat:=Xk x.1 x.2.length
def Xj:List Jo→Nat
 | []=>0
 | x::r=>Ve x+Xj r
def Ey:List Jo→Nat→Bl→Bl
 | [],_,bs=>bs
 | x::r,q,bs=>Ey r (q+Ve x) (Zz x.1 x.2 q bs).2
theorem Gp(a b:List Jo):Xj (a++b)=Xj a+Xj b:=by
 induction a with
 | nil=>simp[Xj]
 | cons x a ih=>simp only[F5,Xj,ih];omega
theorem Zal(a b:List Jo):∀ (q:Nat) (bs:Bl),Ey (a++b) q bs=Ey b (q+Xj a) (Ey a q bs):=by
 induction a with
 | nil=>intro q bs;simp[Ey,Xj]
 | cons x a ih =>
  intro q bs
  simp only[F5,Ey,Xj,ih]
  rw[show q+Ve x+Xj a=q+(Ve x+Xj a) by omega]
theorem Gm{α:Type}{a b:List α}(d:α)(hl:a.length=b.length)(h:∀ i,i<a.length→a.getD i d=b.getD i d):a=b:=by
 refine F4 hl fun i h1 h2=>?_
 have:=h i h1
 simpa [List.getD,h1,h2] using this
theorem Ti(L:List Dv)(i:Nat):Up (L.take i)≤Up L:=by
 conv=>rhs;rw[←F9 i L]
 unfold Up
 rw[B5,F0];omega
theorem Zwv{α:Type}{l:List α}{k:Nat}(d:α)(h:k<l.length):l.getD k d∈l:=by
 rw[show l.getD k d=l[k] from by simp[List.getD,h]];exact G6 _
def Ua(L:List Dv):List Jo:=L.map fun d=>(2,Hy d.2)
def Pk(L:List Dv)(i:Nat):Nat:=Xj (Ua (L.take (i+1)))
theorem Dt(a b:List Dv):Ua (a++b)=Ua a++Ua b:=B5 ..
theorem Zag{L:List Dv}{i:Nat}(h:i<L.length):Ua (L.take (i+1))=Ua (L.take i)++[(2,Hy (L.getD i dvD).2)]:=by
 rw[A7 h,Dt]
 simp[Ua,List.getD,h]
theorem Zp6{l:List Nat}{a:Nat}(h:a∈l):a≤l.sum:=by
 induction l with
 | nil=>cases h
 | cons b l ih =>
  rw[G5]
  rcases A9.1 h with rfl|h
  ·omega
  ·have:=ih h;omega
theorem Zju{data:Int}{L:List Dv}(h:DevsOk data L):∀ x∈Ua L,Lh x:=by
 intro x hx
 obtain⟨d,hd,rfl⟩:=List.mem_map.1 hx
 have hs:d.2.length≤Up L:=by
  unfold Up
  exact Zp6 (List.mem_map.2 ⟨d,hd,rfl⟩)
 have:=h.sum
 exact⟨show(1:Int)≤2 by decide,show(2:Int)≤5 by decide,mapEs_ok (h.each d hd).maps,by rw[Hb];omega⟩
theorem forN_one(x:Jo):Xj [x]=Ve x:=by show Ve x+0=_;omega
theorem Qq(F:List Jo)(x:Jo):Xj (F++[x])=Xj F+Ve x:=by rw[Gp,forN_one]
theorem Zv0(F:List Jo)(x:Jo)(q:Nat)(bs:Bl):Ey (F++[x]) q bs=(Zz x.1 x.2 (q+Xj F) (Ey F q bs)).2:=by rw[Zal];rfl
theorem Ww(x:Jo):1≤Ve x:=Mi _ _
def AlF (B ba b g nn cc:Nat)(pa:O0)(ca N:Nat)(bs:Bl)(F:List Jo)(w:World):Prop:=Al B ba b g nn cc pa ca 1 N (Xj F) (Ey F 1 bs) w
theorem AlF.below{B ba b g nn cc:Nat}{pa:O0}{ca N:Nat}{bs:Bl}{F:List Jo}{w W:World}(h:AlF B ba b g nn cc pa ca N bs F w)(hb:B3 w W):AlF B ba b g nn cc pa ca N bs F W:=Al.below h hb
theorem AlF.only{B ba b g nn cc:Nat}{pa:O0}{ca N:Nat}{bs:Bl}{F:List Jo}{w W:World}{T:List TypeId}(h:AlF B ba b g nn cc pa ca N bs F w)(hO:Ze T w W)(hT:(T.contains 200||(T.contains 80||(T.contains 5||T.contains 3)))=false):AlF B ba b g nn cc pa ca N bs F W:=by
 simp only[K7] at hT
 exact⟨h.blkA.only hO hT.1,h.blkI.only hO hT.2.1,Zi h.data hO hT.2.2.1,Zi h.nums hO hT.2.2.2⟩
theorem build_F(B ba b g nn cc:Nat)(pa:O0)(ca N:Nat)(bs:Bl)(F:List Jo)(t:Int)(a:O0)(c n:Nat)(l:List Ent)(w:World)(hl:l.length=n)(hC:AlC B ba nn cc ca 1 N)(hA:AlF B ba b g nn cc pa ca N bs F w)(hok:Lh (t,l))(hr:Xj (F++[(t,l)])≤N)
 (hin:∀ W,Below B w W→Ze [200,5,28] w W→Sl W (.slice a n c) n (l.flatMap Kd)) (hBw:B≤w.heap.size) :
 C0 161 #[P0 ba,V0 t,.slice a n c] w (fun e w'=>e=.returned (.tuple #[V0 (Xj (F++[(t,l)]):Int),.nilIface])∧Below B w w'∧Ze [200,5,28] w w'∧Fr [ba,g] w w'∧AlF B ba b g nn cc pa ca N bs (F++[(t,l)]) w'):=by
 subst hl
 have hn:=Ww (t,l)
 rw[Qq] at hr
 refine(Mq B ba b g nn cc pa ca 1 N (Xj F) (Ey F 1 bs) t a c l l.length w rfl hC hA hok.1 hok.2.1 hok.2.2.1 (N0 hok.2.2.2 Do) (At _) M0 hr hin hBw).mono ?_
 rintro e w' ⟨rfl,hb,hO,hX,a1⟩
 have a0:(Zz t l (1+Xj F) (Ey F 1 bs)).1=((Xj (F++[(t,l)]):Nat):Int):=by
  rw[Cp M0,Qq]
  show((1+Xj F+Ve (t,l)-1:Nat):Int)=_
  omega
 refine⟨by rw[a0],hb,hO,hX,?_⟩
 unfold AlF
 rw[Qq,Zv0]
 exact a1
theorem Ztm{data:Int}{L:List Dv}{R:Nat→Nat}(h:DevsOk data L):Lh (1,Nb L R):=by
 have:=h.few
 exact⟨show(1:Int)≤1 by decide,show(1:Int)≤5 by decide,topEs_ok h,by rw[Qk];omega⟩
theorem Zto{data:Int}{L:List Dv}{C:Nat→Int}(h:DevsOk data L):Lh (3,Pm L C):=by
 have:=h.few
 exact⟨show(1:Int)≤3 by decide,show(3:Int)≤5 by decide,detEs_ok h,by rw[Km];omega⟩
theorem Zke{E:List Ent}{i:Nat}(h:i<E.length){x:Ent}(hx:E.getD i Zo=x):(E.take i).flatMap Kd++Kd x=(E.take (i+1)).flatMap Kd:=by
 subst hx
 rw[A7 h,C8]
 simp[List.getD,h]
theorem Zwk{L:List Dv}{i:Nat}(h:i<L.length):1≤Xj (Ua (L.take (i+1))):=by
 rw[Zag h,Qq]
 have:=Ww (2,Hy (L.getD i dvD).2);omega
theorem Znq{data:Int}{L:List Dv}(hD:DevsOk data L){i:Nat}(h:i<L.length):Lh (2,Hy (L.getD i dvD).2):=Zju hD _ (List.mem_map.2 ⟨L.getD i dvD,by simp[List.getD,h],rfl⟩)
theorem Znm{L:List Dv}{i:Nat}(h:i<L.length):(L.getD i dvD).2.length≤Up L:=by
 have a:=Ti L (i+1)
 have e:Up (L.take (i+1))=Up (L.take i)+(L.getD i dvD).2.length:=by
  unfold Up
  rw[A7 h,B5,F0]
  simp[List.getD,h]
 omega
def Hw(L:List Dv):Nat→Int:=fun i=>((L.getD i dvD).2.length:Int)
def F1 (L:List Dv):List Jo:=Ua L++[(1,Nb L (Pk L))]
def F2 (L:List Dv):List Jo:=F1 L++[(3,Pm L (Hw L))]
def Ll(cs:List Nat)(k:Int):List Nat:=cs.set k.toNat (cs.getD k.toNat 0+1)
def zer (cs:List Nat):Nat:=cs.count 0
def phi (cs:List Nat):Nat:=cs.sum+2001*zer cs
theorem Jl(cs:List Nat)(k:Int):(Ll cs k).length=cs.length:=by simp[Ll]
theorem sum_set{cs:List Nat}{k:Nat}(h:k<cs.length)(v:Nat):(cs.set k v).sum+cs.getD k 0=cs.sum+v:=by
 induction cs generalizing k with
 | nil=>exact absurd h (by simp)
 | cons a cs ih =>
  cases k with
  | zero=>simp[List.getD];omega
  | succ k =>
   have:=ih (k:=k) (by simpa using h)
   simp only[List.set_cons_succ,G5,O2]
   omega
theorem zer_set{cs:List Nat}{k:Nat}(h:k<cs.length){v:Nat}(hv:v≠0):zer (cs.set k v)+(if cs.getD k 0=0 then 1 else 0)=zer cs:=by
 unfold zer
 induction cs generalizing k with
 | nil=>exact absurd h (by simp)
 | cons a cs ih =>
  cases k with
  | zero =>
   simp only[List.set_cons_zero,List.count_cons,List.getD_cons_zero]
   have:(v==0)=false:=by simpa using hv
   rw[this]
   by_cases e:a=0<;>simp[e]
  | succ k =>
   have:=ih (k:=k) (by simpa using h)
   simp only[List.set_cons_succ,List.count_cons,O2]
   omega
theorem Rg{cs:List Nat}{k:Int}(h0:0≤k)(h:k<cs.length):zer (Ll cs k)+(if cs.getD k.toNat 0=0 then 1 else 0)=zer cs:=zer_set M0 M0
theorem Ie{cs:List Nat}{k:Int}(h0:0≤k)(h:k<cs.length):(Ll cs k).sum=cs.sum+1:=by
 have:=sum_set (cs:=cs) (k:=k.toNat) M0 (cs.getD k.toNat 0+1)
 unfold Ll;omega
theorem getD_sum(cs:List Nat)(k:Nat):cs.getD k 0≤cs.sum:=by
 induction cs generalizing k with
 | nil=>simp
 | cons a cs ih =>
  cases k with
  | zero=>simp[List.getD]
  | succ k=>have:=ih k;simp only[O2,G5];omega
theorem getD_phi(cs:List Nat)(k:Nat):cs.getD k 0≤phi cs:=N0 (getD_sum cs k) (L4 _ _)
theorem zer_le(cs:List Nat):zer cs≤cs.length:=List.count_le_length
def Uu:Nat→List Dv→List (Nat×Mp)
 | _,[]=>[]
 | i,d::r=>d.2.map (fun m=>(i,m))++Uu (i+1) r
theorem Zbu(L:List Dv):∀ i,(Uu i L).length=Up L:=by
 induction L with
 | nil=>intro i;rfl
 | cons d r ih=>intro i;rw[Uu,A8,A6,ih];rfl
theorem Zpa(L:List Dv):∀ (b i:Nat),i≤L.length→(Uu b L).drop (Up (L.take i))=Uu (b+i) (L.drop i):=by
 induction L with
 | nil =>
  intro b i hi;obtain rfl:i=0:=by simpa using hi
  rfl
 | cons d r ih =>
   intro b i hi
   cases i with
   | zero=>rfl
   | succ i =>
    have e:Up ((d::r).take (i+1))=d.2.length+Up (r.take i):=rfl
    rw[e,Uu,List.drop_append,A6,show d.2.length+Up (r.take i)-d.2.length=Up (r.take i) by omega,E0 (by rw[A6];omega),Gt,ih (b+1) i (by simpa using hi)]
    rw[show b+1+i=b+(i+1) by omega];rfl
theorem mapsR_at{L:List Dv}{i j:Nat}(hi:i<L.length)(hj:j<(L.getD i dvD).2.length):(Uu 0 L)[Up (L.take i)+j]? = some (i,(L.getD i dvD).2.getD j (0,0,0)):=by
 have h:=Zpa L 0 i M0
 rw[←F7,h,E8 hi,Uu,F3]
 have e:L.getD i dvD=L[i]:=by simp[List.getD,hi]
 rw[e] at hj ⊢
 rw[Ge (by rw[A6];exact hj),C4,A4 hj]
 simp[List.getD,hj]
def Ag(cs:List Nat)(R:List (Nat×Mp)):List Nat:=R.foldl (fun c x=>Ll c x.2.2.1) cs
def Ut(data:Nat)(L:List Dv):List Nat:=Ag (List.replicate data 0) (Uu 0 L)
theorem Zgc(R:List (Nat×Mp)):∀ cs,(Ag cs R).length=cs.length:=by
 induction R with
 | nil=>intro cs;rfl
 | cons x r ih=>intro cs;show(Ag (Ll cs x.2.2.1) r).length=_;rw[ih,Jl]
theorem Hi(data:Nat)(L:List Dv):(Ut data L).length=data:=by unfold Ut;rw[Zgc,B6]
theorem Zpn(cs:List Nat)(R:List (Nat×Mp)){k:Nat}{x:Nat×Mp}(h:R[k]? = some x):Ag cs (R.take (k+1))=Ll (Ag cs (R.take k)) x.2.2.1:=by
 have hk:k<R.length:=by
  rcases G2 k R.length with q|q
  ·exact q
  ·rw[C6 q] at h;cases h
 rw[A4 hk,A0] at h
 unfold Ag
 rw[A7 hk,List.foldl_append,h];rfl
theorem Zir{data:Int}:∀ (L:List Dv),(∀ d∈L,DevOk data d)→∀ (b:Nat),∀ x∈Uu b L,0≤x.2.2.1∧x.2.2.1<data
 | [],_,_,x,hx=>by cases hx
 | d::r,he,b,x,hx=>by
  rw[Uu] at hx
  rcases List.mem_append.1 hx with hx|hx
  ·obtain⟨m,hm,rfl⟩:=List.mem_map.1 hx
   exact((he d (F8 ..)).maps.each m hm).2.1
  ·exact Zir r (fun y hy=>he y (I3 _ hy)) (b+1) x hx
theorem Zl6{data:Int}{L:List Dv}(h:DevsOk data L)(b:Nat):∀ x∈Uu b L,0≤x.2.2.1∧x.2.2.1<data:=Zir L h.each b
theorem Zgw{data:Nat}(R:List (Nat×Mp))(h:∀ x∈R,0≤x.2.2.1∧x.2.2.1<(data:Int)):∀ cs,cs.length=data→(Ag cs R).sum=cs.sum+R.length:=by
 induction R with
 | nil=>intro cs _;rfl
 | cons x r ih =>
  intro cs hc
  have hx:=h x (F8 ..)
  show(Ag (Ll cs x.2.2.1) r).sum=_
  rw[ih (fun y hy=>h y (I3 _ hy)) _ (by rw[Jl];exact hc),Ie hx.1 M0,C7];omega
theorem Zim{data:Nat}{L:List Dv}(h:DevsOk (data:Int) L):(Ut data L).sum=Up L:=by
 unfold Ut
 rw[Zgw _ (Zl6 h 0) _ B6,P2,Zbu];omega
theorem Zbn(l:List Nat)(i:Nat):l.getD i 0≤l.sum:=by
 induction l generalizing i with
 | nil=>simp[List.getD]
 | cons a l ih =>
  cases i with
  | zero=>simp[List.getD]
  | succ i=>have:=ih i;simp only[O2,G5];omega
def Xw(data:Nat)(L:List Dv):List Int:=(Ut data L).map fun n:Nat=>(n:Int)
theorem Xx(data:Nat)(L:List Dv):(Xw data L).length=data:=by unfold Xw;rw[A6,Hi]
theorem Zb0(data:Nat)(L:List Dv)(i:Nat):(Xw data L).getD i 0=((Ut data L).getD i 0:Nat):=by
 unfold Xw
 simp only[List.getD,C4]
 cases (Ut data L)[i]? <;> rfl
theorem Pd{data:Nat}{L:List Dv}(hd:data≤65536)(h:DevsOk (data:Int) L):Jr (Xw data L)=0:=by
 unfold Jr
 rw[Xx,if_neg M0,if_pos]
 intro k hk
 rw[Zb0]
 have a:=Zbn (Ut data L) k
 rw[Zim h] at a
 have b:=h.sum
 unfold Wn;omega
def Zf4(cs:List Nat)(k:Nat):Nat:=((cs.take k).filter fun n=>decide (3≤n)).length
theorem Fz{cs:List Nat}{k:Nat}(h:k<cs.length):Zf4 cs (k+1)=Zf4 cs k+if 3≤cs.getD k 0 then 1 else 0:=by
 unfold Zf4
 rw[A7 h,List.filter_append,A8,show cs.getD k 0=cs[k] from by simp[List.getD,h]]
 congr 1
 by_cases q:3≤cs[k]<;>simp[q]
theorem Zl0(cs:List Nat):∀ k,k≤cs.length→3*Zf4 cs k≤(cs.take k).sum
 | 0,_=>by simp[Zf4]
 | k+1,h=>by
  have ih:=Zl0 cs k M0
  rw[Fz M0,A7 M0,F0]
  have e:cs.getD k 0=cs[k]:=by simp[List.getD,show k<cs.length by omega]
  rw[e]
  simp only[G5,N3,G3]
  split<;>omega
theorem Zmp(data:Nat)(L:List Dv):∀ k,k≤data→(Zp (Xw data L) k).length=Zf4 (Ut data L) k
 | 0,_=>by simp[Zp,Zf4]
 | k+1,h=>by
  have ih:=Zmp data L k M0
  rw[Fz (by rw[Hi];omega),←ih]
  by_cases q:3≤(Xw data L).getD k 0
  ·rw[Bc q,A8,if_pos (by rw[Zb0] at q;omega)];rfl
  ·rw[Cv q,if_neg (by rw[Zb0] at q;omega),G3]
def Zrw(data:Nat)(L:List Dv):Nat:=Zf4 (Ut data L) data
theorem Fs(data:Nat)(L:List Dv):(Zp (Xw data L) (Xw data L).length).length=Zrw data L:=by rw[Xx];exact Zmp data L data (At _)
theorem Fw{data:Nat}{L:List Dv}(h:DevsOk (data:Int) L):Zrw data L≤5462:=by
 have a:=Zl0 (Ut data L) data (by rw[Hi];exact At _)
 rw[C1 (by rw[Hi];exact At _),Zim h] at a
 have:=h.sum
 unfold Zrw;omega
def Si(L:List Dv):Nat:=(L.map fun d=>Xk 2 d.2.length).sum
def Mm(data:Nat)(L:List Dv):Nat:=1+Xk 3 L.length+Xk 1 L.length+Si L+bmN data+Xk 4 (bmN data)+Xk 5 (Zrw data L)
theorem Zq2(L:List Dv):Xj (Ua L)=Si L:=by
 induction L with
 | nil=>rfl
 | cons d r ih =>
  have e:Xj (Ua (d::r))=Xk 2 (Hy d.2).length+Xj (Ua r):=rfl
  have e2:Si (d::r)=Xk 2 d.2.length+Si r:=rfl
  rw[e,e2,ih,Hb]
def Zin(m:Nat):Nat:=m+(m-1)/959+1
def Uk(data:Nat)(L:List Dv):Nat:=Zin (Mm data L+2)
theorem Zlu{L:List Dv}:Si L≤2*Up L+2*L.length:=by
 induction L with
 | nil=>exact A3 _
 | cons d r ih =>
  have e2:Si (d::r)=Xk 2 d.2.length+Si r:=rfl
  have e3:Up (d::r)=d.2.length+Up r:=rfl
  have:=Ws 2 d.2.length
  rw[e2,e3,C7];omega
theorem Zml{data:Nat}{L:List Dv}(hd:data≤65536)(h:DevsOk (data:Int) L):1≤Mm data L∧Mm data L≤100000:=by
 have a:=Ws 3 L.length
 have b:=Ws 1 L.length
 have c:=@Zlu L
 have d:=Ws 4 (bmN data)
 have e:=Ws 5 (Zrw data L)
 have f:=Fw h
 have g:=h.few
 have i:=h.sum
 have j:bmN data≤69:=by unfold bmN;omega
 unfold Mm;omega
theorem Zs7{m n:Nat}(h:Zin m≤n):m+bmN n≤n:=by unfold Zin at h;unfold bmN;omega
end Go.Proofs.YtceeiinepijokaaGreatDoor
namespace Go.Proofs.YtceeiinepijokaaGreatDoor
set_option maxHeartbeats 8000000
set_option maxRecDepth 100000
open Go.RowKit
set_option linter.unusedVariables false
attribute [local go_sem] Oper.semAt_some
theorem Sl.to{w W:World}{v:Value}{n:Nat}{xs:List Value}(h:Sl w v n xs)(hk:∀ a x,w.cell? a=some x→W.cell? a=some x):Sl W v n xs:=by
 rcases h with h|⟨b,a1,a0,h1,h2,h3,h4⟩
 ·exact .inl h
 ·exact .inr ⟨b,a1,a0,h1,h2,h3,fun j x hj=>hk _ _ (h4 j x hj)⟩
theorem DevsR.to{w W:World}{p:O0}{c:Nat}{Z:List Zv}(h:DevsR w p c Z)(hk:∀ a x,w.cell? a=some x→W.cell? a=some x):DevsR W p c Z:=⟨Sl.to h.row hk,fun i hi=>Sl.to (h.each i hi) hk⟩
def encM(x:Nat×Mp):Array Value:=#[V0 (x.1:Int),.agg #[V0 x.2.1,V0 x.2.2.1,V0 x.2.2.2]]
theorem Zao{q:Nat→Prop}{W V:World}(h:Keeps q W V)(hq:∀ b,q b→b<W.heap.size)(o:Obj):Keeps q W (V.alloc o):=by
 have hb:=(Below.refl V.heap.size V).alloc (At _) o
 exact⟨N0 h.size hb.size,fun b a0=>(hb.block b (D4 (hq b a0) h.size)).trans (h.block b a0)⟩
theorem sl_lit{α:Type}{f:α→List Value}{w:World}{p:O0}{n c:Nat}{l:List α}(h:Sl w (.slice p n c) n (l.flatMap f))(hn:0<n):∃ pb po,p=some ⟨pb,po,none⟩∧∀ j x,(l.flatMap f)[j]? = some x→w.cell? ⟨pb,po+j,none⟩=some x:=by
 rcases h with ⟨a,cc,h1,h2,_⟩|⟨pb,po,a0,h1,_,_,h4⟩
 ·omega
 ·simp only[C2] at h1
  exact⟨pb,po,h1.1,h4⟩
theorem maps1_in(l B1:Nat)(pp:O0)(n c:Nat)(t u v x:Int)(Z:List Zv)(w:World)(hZ:Z.length=n)(hP:DevsR w pp c Z)(hn:n≤1000000000)(q:Nat→Prop)(hq:∀ b,b<w.heap.size→q b)(J Jx:Nat→World→Prop)(hJ:∀ k A B,J k A→Below A.heap.size A B→J k B)
 (hY:∀ k x V,(Uu 0 (Z.map Prod.fst))[k]? = some x→J k V→YieldAt Fence.wide 2 Tryz.prog l (encM x) V fun e U =>
 (e=.returned (.bool true)∧J (k+1) U∧Keeps q V U)∨(e=.returned (.bool false)∧Jx k U))
 (W:World) (hW:B3 w W) (hqlt:∀ b,q b→b<W.heap.size) (hk1:Blk W B1 [V0 t,V0 u,V0 v,V0 x,.slice pp n c] 48) (h0:J 0 W) :
 CallsIn Fence.wide 3 Tryz.prog 120 #[.func (.yield l) #[] #[],P0 B1] W fun e U=>(∃ v,e=.returned v)∧(J (Uu 0 (Z.map Prod.fst)).length U∨∃ k,k<(Uu 0 (Z.map Prod.fst)).length∧Jx k U):=by
 refine callsIn_of_wp Tryz.func120 rfl trivial ?_ rfl
 simp only[Tryz.ntmps120,F6,C7,D6,Nat.reduceAdd,Nat.reduceSub,H5,H6,I7,Id,Gt,F5]
 have z4:=hk1.cell (i:=4) rfl
 have c6:(Z.map Prod.fst).length=n:=by rw[A6];exact hZ
 gi_wp2
 gi_loopw [10] (fun i wr=>∃ k:Nat,k≤n∧i=V0 (k:Int)∧J (Up ((Z.map Prod.fst).take k)) wr∧Keeps q W wr)
  (fun i _=>(n-(intOf i)).toNat)
 case atStart=>exact⟨0,A3 _,rfl,h0,Keeps.refl _ _⟩
 case round =>
  obtain⟨k,hk,rfl,a0,b4⟩:=hrel
  by_cases hlt:k<n
  ·have b3:∀ {V:World},Keeps q W V→DevsR V pp c Z:=fun hV=>hP.to (fun a x ha=>(hV.cell (a:=a) (hq _ (ltC ha))).trans (Fh hW ha))
   have a9:=b3 b4
   have a1:Sl wr (.slice pp n c) n (Z.flatMap Zh5):=a9.rowN hZ
   obtain⟨pb,po,b7,hc⟩:=sl_lit a1 M0
   have gz:∀ i x,i<5→(Zh5 (Z.getD k zvD))[i]? = some x→wr.cell? ⟨pb,po+k*5+i,none⟩=some x:=fun i x hi hx=>by
    rw[E9]
    exact hc _ _ ((El Gu Z k i zvD M0 hi).trans hx)
   have a2:=fun j hj=>mapsR_at (L:=Z.map Prod.fst) (i:=k) (j:=j) M0 hj
   rw[zfst M0] at a2
   have a6:=Sj (Z:=Z) (i:=k) M0
   have b6:=fun {V:World} (hV:Keeps q W V)=>(b3 hV).each k M0
   obtain⟨⟨⟨⟨i0,i1,i2,i3⟩,M⟩,mp,mc⟩,hz⟩:∃ z,Z.getD k zvD=z:=⟨_,rfl⟩
   rw[hz] at gz a2 a6
   simp only[hz] at b6
   have z5:=gz 0 _ Do rfl
   have z6:=gz 1 _ Do rfl
   have z7:=gz 2 _ Do rfl
   have z8:=gz 3 _ Do rfl
   have z9:=gz 4 _ Do rfl
   rw[G3] at z5
   clear gz hc hz a1 a9
   subst b7
   obtain⟨S,hS⟩:∃ S,Up ((Z.map Prod.fst).take k)=S:=⟨_,rfl⟩
   rw[hS] at a0 a2 a6
   gi_wp2
   gi_loopw [18] (fun j b2=>∃ m:Nat,m≤M.length∧j=V0 (m:Int)∧J (S+m) b2∧Keeps q W b2)
    (fun j _=>(M.length-(intOf j)).toNat)
   case atStart=>exact⟨0,A3 _,rfl,hJ _ _ _ a0 ((Below.refl _ wr).alloc (At _) _),Zao b4 hqlt _⟩
   case round =>
    obtain⟨m,hm,rfl,b5,a3⟩:=hrel
    have hM:=b6 a3
    have c5:M.length≤9223372036854775807:=Sl.len hM
    by_cases hmt:m<M.length
    ·have b0:Sl wr (.slice mp M.length mc) M.length (M.flatMap Cu):=hM
     obtain⟨mb,mo,b8,b1⟩:=sl_lit b0 M0
     have gm:∀ i x,i<3→(Cu (M.getD m (0,0,0)))[i]? = some x→wr.cell? ⟨mb,mo+m*3+i,none⟩=some x:=fun i x hi hx=>by
      rw[E9]
      exact b1 _ _ ((El Gx M m i (0,0,0) hmt hi).trans hx)
     have hx:=a2 m hmt
     obtain⟨⟨m1,m2,m3⟩,a8⟩:∃ y,M.getD m (0,0,0)=y:=⟨_,rfl⟩
     rw[a8] at gm
     have a5:(Uu 0 (Z.map Prod.fst))[S+m]? = some (k,(m1,m2,m3)):=by rw[hx];exact congrArg (fun y=>some (k,y)) a8
     have y1:=gm 0 _ Do rfl
     have y2:=gm 1 _ Do rfl
     have y3:=gm 2 _ Do rfl
     rw[G3] at y1
     clear gm b1 b0 hM hx a8
     subst b8
     have b9:=(Below.refl wr.heap.size wr).alloc (At _) (.cells #[V0 m1,V0 m2,V0 m3] 159)
     obtain⟨fn,c0,a7,c1,hy,hR⟩:=hY _ _ (wr.alloc (.cells #[V0 m1,V0 m2,V0 m3] 159)) a5 (hJ _ _ _ b5 b9)
     have c2:=Zao a3 hqlt (.cells #[V0 m1,V0 m2,V0 m3] 159)
     simp only[encM] at hy
     gi_wp2
     refine hR.mono ?_
     rintro e W3 (⟨rfl,c4,c3⟩|⟨rfl,a4⟩)
     ·gi_wp2
      go_roundw
      case rel =>
       refine⟨m+1,by omega,?_,c4,c2.trans c3⟩
       exact congrArg V0 M0
      case measure=>simp only[intOf];omega
     ·gi_wp2
      refine bodyPost_ret (results_none rfl _ _ _) rfl ?_
      refine⟨⟨_,rfl⟩,.inr ⟨_,?_,a4⟩⟩
      rcases G2 (S+m) (Uu 0 (Z.map Prod.fst)).length with h|h
      ·exact h
      ·rw[C6 h] at a5;cases a5
    ·obtain rfl:m=M.length:=by omega
     gi_wp2
     go_roundw
     case rel =>
      refine⟨k+1,by omega,?_,by rw[a6];exact b5,a3⟩
      exact congrArg V0 M0
     case measure=>simp only[intOf];omega
  ·obtain rfl:k=n:=by omega
   have HJ:=Lib.hid a0;clear a0
   gi_wp2
   go_end0
   have a0:=HJ.out
   rw[C1 M0] at a0
   exact⟨⟨_,rfl⟩,.inl (by rw[Zbu];exact a0)⟩
end Go.Proofs.YtceeiinepijokaaGreatDoor
namespace Go.Proofs.YtceeiinepijokaaGreatDoor
set_option maxHeartbeats 8000000
set_option maxRecDepth 100000
open Go.RowKit Go.Extern.Stop Go.Stop Go.Extern
set_option linter.unusedVariables false
attribute [local irreducible] wpList wpAnyH Code.wp Oper.wp Go
theorem Zbb(cs:List Nat):(cs.map fun c:Nat=>(c:Int)).map V0=cs.map nv:=by simp[nv]
theorem nv_get{cs:List Nat}{k:Nat}(h:k<cs.length):(cs.map nv)[k]? = some (V0 ((cs.getD k 0:Nat):Int)):=by simp[List.getD,h,nv]
theorem Zwl(cs:List Nat)(k:Nat):(cs.map nv).set k (V0 ((cs.getD k 0+1:Nat):Int))=(Ll cs (k:Int)).map nv:=by
 unfold Ll;rw[G1,List.map_set];rfl
theorem Zl4{cs:List Nat}{k:Nat}(h:k<cs.length):(Ll cs (k:Int)).getD k 0=cs.getD k 0+1:=by
 unfold Ll;rw[G1];simp[List.getD,h]
def AddP(B g n:Nat)(cs:List Nat)(no:Int)(w:World)(e:Ending)(w':World):Prop :=
 (¬ (0≤no∧no<cs.length)∧e=.returned (.tuple #[V0 0,V0 3])∧Below B w w'∧Ze [3] w w'∧w'.ownsRow B 3 1 (.slice (S1 g) n n) n (cs.map nv)) ∨
 ((0≤no∧no<cs.length)∧e=.returned (.tuple #[V0 ((cs.getD no.toNat 0+1:Nat):Int),V0 0])∧Below B w w'∧Ze [3] w w'∧w'.ownsRow B 3 1 (.slice (S1 g) n n) n ((Ll cs no).map nv))
theorem Hd{w:World}{pc:O0}{n m:Nat}{cs:List Nat}(h:Sl w (.slice pc n m) n (cs.map nv)){k:Nat}(hk:k<cs.length):pc.isSome=true∧w.cell? (Zx pc (k*1))=some (V0 ((cs.getD k 0:Nat):Int)):=by
 rcases h with ⟨a,c,h1,h2,h3⟩|⟨b,a1,a0,h1,h2,h3,h4⟩
 ·simp only[C2] at h1
  have:(cs.map nv).length=0:=by rw[h3];rfl
  rw[A6] at this;omega
 ·simp only[C2] at h1
  obtain⟨rfl,_,_⟩:=h1
  refine⟨rfl,?_⟩
  have:=h4 k _ (nv_get hk)
  simpa [Zx,Addr.add_mid] using this
theorem Zr4(br g n:Nat)(no:Int)(w:World)(kr:Blk w br [.slice (S1 g) n n] 232)(ho:¬ (0≤no∧no<n)) :
 C0 66 #[P0 br,V0 no] w (Ret (.tuple #[V0 0,V0 3]) w):=by
 refine zin 37 Tryz.func66 ?_
 refine xg 21 [11,12] (decide (no<(0:Int))) (fun a0=>?_) (fun a0=>?_)
 ·have a0:=of_decide_eq_true a0
  exact xe 21 (.tuple #[V0 0,V0 3]) ⟨rfl,(B4 w)⟩
 have a0:=of_decide_eq_false a0
 refine xb 4 0 kr ?_
 refine xk 6 (show(decide (no≥(n:Int)):Bool)=true from decide_eq_true M0) ?_
 exact xe 9 (.tuple #[V0 0,V0 3]) ⟨rfl,(B4 w)⟩
theorem Zij(B br g n k:Nat)(cs:List Nat)(w:World)(kr:Blk w br [.slice (S1 g) n n] 232)(hBw:B≤w.heap.size)(hc:w.ownsRow B 3 1 (.slice (S1 g) n n) n (cs.map nv))(hn:cs.length=n)(hk:k<n)(hb:cs.getD k 0≤4000000000000000000) :
 C0 66 #[P0 br,V0 (k:Int)] w ((fun e w'=>e=.returned (.tuple #[V0 ((cs.getD k 0+1:Nat):Int),V0 0])∧Below B w w'∧Ze [3] w w'∧w'.ownsRow B 3 1 (.slice (S1 g) n n) n ((Ll cs (k:Int)).map nv))):=by
 have a3:=Jl cs (k:Int)
 refine zin 37 Tryz.func66 ?_
 refine xg 21 [11,12] (decide ((k:Int)<(0:Int))) (fun a0=>?_) (fun a0=>?_)
 ·have a0:=of_decide_eq_true a0
  exact xe 21 (.tuple #[V0 0,V0 3]) (by exfalso;omega)
 have a0:=of_decide_eq_false a0
 refine xb 4 0 kr ?_
 refine xid 6 ((k:Int)≥(n:Int)) (fun a2=>?_) (fun a2=>?_)
 ·exact xe 9 (.tuple #[V0 0,V0 3]) (by exfalso;omega)
 refine xb 8 0 kr ?_
 refine xx 1 _ n k 1 (Hd (Zg hc) (k:=k) M0).1 ?_
 refine xl 0 ((Hd (Zg hc) (k:=k) M0).2) ?_
 refine xwm 0 ((↑(cs.getD k 0):Int)+1) (↑((cs.getD k 0)+1):Int) ?_
 refine xx 0 _ n k 1 (Hd (Zg hc) (k:=k) M0).1 ?_
 refine xst 0 fun _ _ _ _ zJ zQ zo zx zy zK=>Gd (t:=3) (k:=k) (v:=V0 (↑((cs.getD k 0)+1):Int)) zo zx zy K0 rfl hc M0 fun W3 u3 o3=>?_
 rw[Zwl cs k] at o3
 refine zK _ _ ?_
 have a1:=u3.blk kr (Me kr hc Do)
 refine xb 7 0 a1 ?_
 refine xx 1 _ n k 1 (Hd (Zg o3) (k:=k) M0).1 ?_
 refine xl 0 ((Hd (Zg o3) (k:=k) M0).2) ?_
 have hB:=u3.below (Below.refl B w) (De hc)
 have hO:=(show Ze [3] w _ from(Ze.of_updRow u3 hc Do))
 exact xe 5 (.tuple #[V0 (↑((Ll cs (k:Int)).getD k 0):Int),V0 0]) ⟨by rw[Zl4 M0],hB,hO,o3⟩
theorem refs_Add(B br g n:Nat)(cs:List Nat)(no:Int)(w:World)(kr:Blk w br [.slice (S1 g) n n] 232)(hBw:B≤w.heap.size)(hc:w.ownsRow B 3 1 (.slice (S1 g) n n) n (cs.map nv))(hn:cs.length=n)(hb:phi cs≤1000000000000):C0 66 #[P0 br,V0 no] w (AddP B g n cs no w):=by
 by_cases ho:0≤no∧no<cs.length
 ·obtain⟨k,rfl⟩:∃ k:Nat,no=(k:Int):=⟨no.toNat,by omega⟩
  have h1:=getD_phi cs k
  refine(Zij B br g n k cs w kr hBw hc hn M0 M0).mono ?_
  rintro e W ⟨rfl,a0,hO,a1⟩
  exact .inr ⟨ho,by rw[G1],a0,hO,a1⟩
 ·refine(Zr4 br g n no w kr (by rw[←hn];exact ho)).mono ?_
  rintro e W ⟨rfl,a0⟩
  exact .inl ⟨ho,rfl,a0.mono hBw,Q0 a0,Zb hc a0⟩
theorem zerosV(n:Nat):Hz (Value.int .i64 0).cells.toList n=(List.replicate n (0:Nat)).map nv:=by
 rw[show(Value.int .i64 0).cells.toList=[Value.int .i64 0] from rfl,Hz,O5]
 induction n with
 | zero=>rfl
 | succ n ih=>rw[K4,P1,ih,K4];rfl
theorem nv_one(cs:List Nat):∀ u∈cs.map nv,u.oneCell'=true:=fun u hu=>by obtain⟨y,_,rfl⟩:=List.mem_map.1 hu;rfl
theorem Zih(n:Nat)(w:World)(h:n≤65536) :
 C0 65 #[V0 (n:Int)] w (Kc (fun w' r=>∃ br g,r=.tuple #[P0 br,V0 0]∧w.heap.size≤br∧Blk w' br [.slice (S1 g) n n] 232∧w'.ownsRow w.heap.size 3 1 (.slice (S1 g) n n) n ((List.replicate n (0:Nat)).map nv)) w):=by
 refine zin 14 Tryz.func65 ?_
 refine xgk 12 [5,6] (show(decide ((n:Int)<(0:Int)):Bool)=false from decide_eq_false M0) ?_
 refine xk 5 (show(decide ((n:Int)>(65536:Int)):Bool)=false from decide_eq_false M0) ?_
 refine xmk 5 fun _ _ _ _ zJ zQ zo zx zy zK=>Gl n (V0 0) 1 8 ((List.replicate n (0:Nat)).map nv) zo zx zy Tryz.underlying34 K0 rfl M0 M0 ((zerosV n)) fun b2 W2 n2=>?_
 refine zK _ _ ?_
 refine xa 1 [.slice (S1 b2) n n] 232 fun b3 W3 n3=>?_
 have o2:=Zb (Yd (size:=1) (n:=n) n2.blk (n2.ge (B4 w)) (by rw[A6,B6,G4]) (by unfold maxLen;omega)) n3.below
 have hB:=bln n2.below n3.below
 have g3:=n3.ge n2.below
 exact xe 5 (.tuple #[P0 b3,V0 0]) ⟨_,rfl,hB,_,_,rfl,g3,n3.blk,o2⟩
theorem refs_own(br n:Nat)(p:O0)(w:World)(kr:Blk w br [.slice p n n] 232) :
 C0 119 #[P0 br] w (Ret (.slice p n n) w):=by
 refine zin 9 Tryz.func119 ?_
 refine xb 20 0 kr ?_
 exact xe 4 (.slice p n n) ⟨rfl,(B4 w)⟩
theorem Zhj(br g n B0:Nat)(cs:List Nat)(w:World)(kr:Blk w br [.slice (S1 g) n n] 232)(hc:w.ownsRow B0 3 1 (.slice (S1 g) n n) n (cs.map nv))(hn:cs.length=n)(hn2:n≤100000) :
 C0 68 #[P0 br] w (Kc (fun w' r=>∃ q c2,r=.slice q n c2∧w'.ownsRow w.heap.size 3 1 (.slice q n c2) n (cs.map nv)) w):=by
 refine zin 6 Tryz.func68 ?_
 refine xr 8 (args:=#[P0 br]) (refs_own br n _ _ kr) fun W1 a1=>?_
 have a0:=Zb hc a1
 refine xc 0 (args:=#[.slice (S1 g) n n]) (Ex ⟨g,0,none⟩ n n (cs.map nv) _ (Zg a0) (by rw[A6];exact hn) (nv_one _) M0) ?_
 rintro _ W2 ⟨_,rfl,a3,q,c2,rfl,hq⟩
 have a2:=Zf hq a1.size
 have hB:=bln a1 a3
 exact xe 4 (.slice q n c2) ⟨_,rfl,hB,_,_,rfl,a2⟩
theorem Zwj(B br g n k:Nat)(cs:List Nat)(w:World)(kr:Blk w br [.slice (S1 g) n n] 232)(hBw:B≤w.heap.size)(hc:w.ownsRow B 3 1 (.slice (S1 g) n n) n (cs.map nv))(hn:cs.length=n)(hk:k<n)(hb:cs.getD k 0≤4000000000000000000) :
 C0 66 #[P0 br,V0 (k:Int)] w ((fun e w'=>e=.returned (.tuple #[V0 ((cs.getD k 0+1:Nat):Int),V0 0])∧Below B w w'∧Ze [3] w w'∧Fr [g] w w'∧w'.ownsRow B 3 1 (.slice (S1 g) n n) n ((Ll cs (k:Int)).map nv))):=by
 have a3:=Jl cs (k:Int)
 refine zin 37 Tryz.func66 ?_
 refine xg 21 [11,12] (decide ((k:Int)<(0:Int))) (fun a0=>?_) (fun a0=>?_)
 ·have a0:=of_decide_eq_true a0
  exact xe 21 (.tuple #[V0 0,V0 3]) (by exfalso;omega)
 have a0:=of_decide_eq_false a0
 refine xb 4 0 kr ?_
 refine xid 6 ((k:Int)≥(n:Int)) (fun a2=>?_) (fun a2=>?_)
 ·exact xe 9 (.tuple #[V0 0,V0 3]) (by exfalso;omega)
 refine xb 8 0 kr ?_
 refine xx 1 _ n k 1 (Hd (Zg hc) (k:=k) M0).1 ?_
 refine xl 0 ((Hd (Zg hc) (k:=k) M0).2) ?_
 refine xwm 0 ((↑(cs.getD k 0):Int)+1) (↑((cs.getD k 0)+1):Int) ?_
 refine xx 0 _ n k 1 (Hd (Zg hc) (k:=k) M0).1 ?_
 refine xst 0 fun _ _ _ _ zJ zQ zo zx zy zK=>Gd (t:=3) (k:=k) (v:=V0 (↑((cs.getD k 0)+1):Int)) zo zx zy K0 rfl hc M0 fun W3 u3 o3=>?_
 rw[Zwl cs k] at o3
 refine zK _ _ ?_
 have a1:=u3.blk kr (Me kr hc Do)
 refine xb 7 0 a1 ?_
 refine xx 1 _ n k 1 (Hd (Zg o3) (k:=k) M0).1 ?_
 refine xl 0 ((Hd (Zg o3) (k:=k) M0).2) ?_
 have hB:=u3.below (Below.refl B w) (De hc)
 have hO:=(show Ze [3] w _ from(Ze.of_updRow u3 hc Do))
 have hX:=(show Fr [g] w _ from(Fr.of_upd u3 (by simp)))
 exact xe 5 (.tuple #[V0 (↑((Ll cs (k:Int)).getD k 0):Int),V0 0]) ⟨by rw[Zl4 M0],hB,hO,hX,o3⟩
end Go.Proofs.YtceeiinepijokaaGreatDoor
namespace Go.Proofs.YtceeiinepijokaaGreatDoor
set_option maxHeartbeats 8000000
set_option maxRecDepth 100000
open Go.RowKit
set_option linter.unusedVariables false
theorem Zkc{P:Program}{l n:Nat}{ops:Array Oper}{Q:Exit→Act→World→Prop}(hQ:¬ LetsOut Q):∀ (r:List Oper) (a:Act) (w:World),(∀ o∈r,∀ c,o.op≠.defer c)→wpList P ops Q r a w→wpListIn (Fence.wide.inRound l) n P ops Q r a w
 | [],_,_,_,h=>h
 | o::r,a,w,hd,h=>by
  unfold wpList at h
  unfold wpListIn
  split at h
  ·rename_i hw
   rw[if_pos hw]
   exact Oper.wpIn_mono (fun a w=>Zkc hQ r a w (fun o ho=>hd o (by simp[ho]))) (Zv4 (hd o (by simp)) (h.resolve_right fun q=>hQ q.2))
  ·rename_i hw
   rw[if_neg hw]
   exact⟨fun _ _=>trivial,Zkc hQ r _ _ (fun o ho=>hd o (by simp[ho])) h⟩
theorem Li{P:Program}{l0 n0 id:Nat}{l:List Oper}{Q:Exit→Act→World→Prop}{a:Act}{w:World}(hQ:¬ LetsOut Q)(hd:∀ o∈l,∀ c,o.op≠.defer c)(h:wpList P l.toArray Q l a w):(Code.region id l.toArray false).wpIn (Fence.wide.inRound l0) n0 P Q a w :=
 wpIn_region_lit (Zkc hQ l a w hd h)
structure RdS(w0:World)(S:List Nat)(W V:World):Prop where
 ko:KeepsOthers W V
 fr:∀ k,k<w0.heap.size→k∉S→V.heap[k]? = W.heap[k]?
 le:W.heap.size≤V.heap.size
 l0:w0.heap.size≤W.heap.size
theorem RdS.refl{w0 W:World}(S:List Nat)(h:w0.heap.size≤W.heap.size):RdS w0 S W W:=⟨⟨At _,fun _ _ h _=>h⟩,fun _ _ _=>rfl,At _,h⟩
theorem RdS.below{w0 W V U:World}{S:List Nat}(h:RdS w0 S W V)(hb:Below V.heap.size V U):RdS w0 S W U :=
 ⟨h.ko.trans (Ly hb),fun k hk hn=>(hb.block k (D4 hk (N0 h.l0 h.le))).trans (h.fr k hk hn),N0 h.le hb.size,h.l0⟩
theorem RdS.upd{w0 W V U:World}{S:List Nat}{b:Nat}{cs:List Value}{t:TypeId}(h:RdS w0 S W V)(u:Upd V b U)(k:Blk V b cs t)(hb:b∈S∨w0.heap.size≤b):RdS w0 S W U :=
 ⟨h.ko.trans (Zc5 u k),fun i hi hn=>(u.block i (fun e=>by subst e;rcases hb with hb|hb;exact hn hb;omega)).trans (h.fr i hi hn),N0 h.le (M8 u.size.symm),h.l0⟩
theorem RdS.frm{w0 W V U:World}{S:List Nat}{b:Nat}{cs:List Value}{t:TypeId}(h:RdS w0 S W V)(u:Fr [b] V U)(k:Blk V b cs t)(hb:b∈S):RdS w0 S W U :=
 ⟨h.ko.trans ⟨u.size,fun i o hi ho=>(u.block i (Array.getElem?_eq_some_iff.1 hi).1 (by
  simp only[D3]
  rintro rfl
  rw[show V.heap[i]? = _ from k] at hi
  cases hi;cases ho)).trans hi⟩,fun i hi hn=>(u.block i (D4 hi (N0 h.l0 h.le)) (by simp only[D3];rintro rfl;exact hn hb)).trans (h.fr i hi hn),N0 h.le u.size,h.l0⟩
theorem RdS.grown{w0 W V U:World}{S:List Nat}{size n:Nat}{e:TypeId}{v:Value}{xs:List Value}(h:RdS w0 S W V)(hg:V.grownBy U v.ownBlock)(k:V.ownsRow w0.heap.size e size v n xs):RdS w0 S W U :=
 ⟨h.ko.trans ⟨hg.size,fun i o hi ho=>by
   rw[hg.block i (Array.getElem?_eq_some_iff.1 hi).1 (fun q=>by
    rcases k.2 with ⟨rfl,_⟩|⟨g,a0,a1,rfl,_,hh,_⟩
    ·cases q
    ·simp only[Value.ownBlock,A0] at q
     subst q
     rw[hh] at hi
     cases hi
     cases ho)]
   exact hi⟩,
  fun i hi hn=>(hg.block i (D4 hi (N0 h.l0 h.le)) (fun e=>by have:=(k.lt i e.symm).1;omega)).trans (h.fr i hi hn),N0 h.le hg.size,h.l0⟩
def Zwi(q:Nat→Prop)(n:Nat)(A:World)(row:Option Nat):Prop:=∀ r,row=some r→q r∨n≤r∧∃ o:Obj,A.heap[r]? = some o∧o.isCells=false
theorem fr_ab{S:List Nat}{q:Nat→Prop}{w0 A B:World}{row:Option Nat}(h:Fr S w0 A)(hg:A.grownBy B row)(hr:Zwi q w0.heap.size A row)(hq:∀ r,q r→r∈S):Fr S w0 B :=
 ⟨N0 h.size hg.size,fun k hk hn=>(hg.block k (D4 hk h.size) (fun e=>by
  rcases hr k e.symm with h1|h1
  ·exact hn (hq _ h1)
  ·omega)).trans (h.block k hk hn)⟩
theorem Ze7{n m:Nat}{q:Nat→Prop}{w A B:World}{row:Option Nat}(h:Below n w A)(hg:A.grownBy B row)(hr:Zwi q m A row)(hn:n≤w.heap.size)(hm:n≤m)(hq:∀ r,q r→n≤r):Below n w B :=
 h.grown hg (N0 hn h.size) (fun r e=>by rcases hr r e with h1|h1;exact hq _ h1;omega)
theorem Zts{q:Nat→Prop}{A B:World}{row:Option Nat}{base size n m:Nat}{e:TypeId}{v:Value}{xs:List Value}(k:A.ownsRow base e size v n xs)(hg:A.grownBy B row)(hr:Zwi q m A row)(hq:∀ r,q r→r<base):B.ownsRow base e size v n xs:=by
 obtain⟨h1,h2⟩:=k
 refine⟨h1,?_⟩
 rcases h2 with h2|⟨g,a0,a1,hv,hb,hh,r⟩
 ·exact Or.inl h2
 ·refine Or.inr ⟨g,a0,a1,hv,hb,?_,r⟩
  rw[hg.block g (Array.getElem?_eq_some_iff.1 hh).1 (fun q=>by
   rcases hr g q.symm with h3|⟨_,o,ho,hc⟩
   ·have:=hq _ h3;omega
   ·rw[hh] at ho
    cases ho
    cases hc)]
  exact hh
theorem Zh6{q:Nat→Prop}{A B:World}{row:Option Nat}{b m:Nat}{cs:List Value}{t:TypeId}(k:Blk A b cs t)(hg:A.grownBy B row)(hr:Zwi q m A row)(hq:∀ r,q r→b≠r):Blk B b cs t :=
 k.kept hg (fun e'=>by
  rcases hr b e'.symm with h3|⟨_,o,ho,hc⟩
  ·exact hq _ h3 rfl
  ·rw[show A.heap[b]? = _ from k] at ho;cases ho;cases hc)
theorem Zvk{F:Fence}{n:Nat}{P:Program}{c:Code}{Q:Exit→Act→World→Prop}{a:Act}{w:World}(a':Act)(h:a=a')(k:c.wpIn F n P Q a' w):c.wpIn F n P Q a w:=h▸k
theorem Zsl{S S2:List Nat}{w0 W V:World}(h:Fr S w0 W)(z:RdS w0 S2 W V)(hs:∀ k,k∈S2→k∈S∨V.heap[k]? = w0.heap[k]?):Fr S w0 V :=
 ⟨N0 h.size z.le,fun k hk hn=>by
  by_cases h2:k∈S2
  ·exact(hs k h2).resolve_left hn
  ·exact(z.fr k hk h2).trans (h.block k hk hn)⟩
theorem Dfr.put{D D2:Nat}{w:World}(h:Dfr D w)(hne:D≠D2)(o:Obj):Dfr D (w.putObj D2 o):=(H1 hne).trans h
theorem Kr.pt{D:Nat}{w:World}{l:List (Option Int)}{c:Option Int}{v:Value}(h:Kr w l c v)(hK:Dfr D w)(o:Obj):Kr (w.putObj D o) l c v:=h.kept fun _ _ k=>k.put hK rfl o
theorem Zsd{D:Nat}{w:World}{base size n:Nat}{e:TypeId}{v:Value}{xs:List Value}(k:w.ownsRow base e size v n xs)(hK:Dfr D w)(o:Obj):(w.putObj D o).ownsRow base e size v n xs:=(Upd.of_put w D o).own3 k (hK.row k)
theorem Zlp{n D:Nat}{w W:World}(h:Below n w W)(hn:n≤W.heap.size)(hD:n≤D)(o:Obj):Below n w (W.putObj D o):=h.grown (grownBy_putObj' W D o) hn (fun r e=>by cases e;exact hD)
theorem ret2{P:Program}{fn:Func}{R:Ending→World→Prop}{a:Act}{w:World}{v:Value}{b10 b11 D E:Nat}{x y:Value}{t t':TypeId}(k10:Blk w b10 [x] t)(k11:Blk w b11 [y] t')(hK:Dfr D w)(hE:Dfr E w)(hne:D≠E)(hr:∀ U,Blk U b10 [x] t→Blk U b11 [y] t'→(results fn a.tmps).run P U=.ok v U)(hd:a.defers=[{ target:=.collected E,args:=#[] },{ target:=.collected D,args:=#[] }])(h:R (.returned v) ((w.putObj E (.deferred none)).putObj D (.deferred none))):bodyPostM Fence.wide 4 P fn R .ret a w:=by
 have hD:=hK.put hne (.deferred none)
 show LeavesInM _ _ _ _ a.tmps R a.defers .returning w
 rw[hd]
 exact⟨by simp,.inl ⟨_,_,rfl,run_takeDeferred hE,by simp,.inl ⟨_,_,rfl,run_takeDeferred hD,v,hr _ ((k10.put hE rfl _).put hD rfl _) ((k11.put hE rfl _).put hD rfl _),h⟩⟩⟩
end Go.Proofs.YtceeiinepijokaaGreatDoor
namespace Go.Proofs.YtceeiinepijokaaGreatDoor
set_option maxHeartbeats 8000000
set_option maxRecDepth 100000
open Go.RowKit Go.Extern.Stop Go.Stop Go.Extern
set_option linter.unusedVariables false
attribute [local irreducible] wpList wpAnyH Code.wp Oper.wp Go
theorem maps_seq(B1:Nat)(p:O0)(n c:Nat)(t u v x:Int)(Z:List Zv)(w w0:World)(hZ:Z.length=n)(hP:DevsR w p c Z)(hn:n≤1000000000)(hW:B3 w w0)(q:Nat→Prop)(hq:∀ b,b<w.heap.size→q b)(hqlt:∀ b,q b→b<w0.heap.size)(hk1:Blk w0 B1 [V0 t,V0 u,V0 v,V0 x,.slice p n c] 48) :
  SeqB Tryz.prog 120 #[P0 B1] encM (Keeps q) (Uu 0 (Z.map Prod.fst)) w0:=fun l J Jx W hw hJ hY h0 =>
 maps1_in l B1 p n c t u v x Z w hZ hP hn q hq J Jx hJ hY W (bln hW hw) (fun b hb=>D4 (hqlt b hb) hw.size) (hk1.below hw) h0
theorem frg_ko{g:Nat}{W V:World}{cs:List Value}{t:TypeId}(h:Fr [g] W V)(k:Blk W g cs t):KeepsOthers W V:=⟨h.size,fun i o hi ho=>(h.block i (Array.getElem?_eq_some_iff.1 hi).1 (by
 simp only[D3]
 rintro rfl
 rw[show W.heap[i]? = _ from k] at hi
 cases hi;cases ho)).trans hi⟩
theorem Zxh{p:Nat→Prop}{g:Nat}{W V:World}(h:Fr [g] W V)(hp:∀ b,p b→b<W.heap.size)(hg:¬ p g):Keeps p W V:=⟨h.size,fun b hb=>h.block b (hp b hb) (by simp only[D3];rintro rfl;exact hg hb)⟩
theorem Zs0(t u v x:Int)(p:O0)(n c:Nat)(w:World) :
 C0 69 #[.agg #[V0 t,V0 u,V0 v,V0 x,.slice p n c]] w (Kc (fun w' r=>∃ b,r=.func (.func 120) #[] #[P0 b]∧w.heap.size≤b∧Blk w' b [V0 t,V0 u,V0 v,V0 x,.slice p n c] 48) w):=by
 refine zin 4 Tryz.func69 ?_
 refine xa 2 [V0 t,V0 u,V0 v,V0 x,.slice p n c] 48 fun b1 W1 n1=>?_
 exact xe 10 (.func (.func 120) #[] #[P0 b1]) ⟨_,rfl,n1.below,b1,rfl,(n1.ge (B4 w)),n1.blk⟩
theorem Lq(p:O0)(c n x:Nat)(t u v:Int)(Z:List Zv)(w:World)(hZ:Z.length=n)(hP:DevsR w p c Z)(hk:PoolOk t u v (x:Int) (Z.map Prod.fst)) :
 C0 25 #[.agg #[V0 t,V0 u,V0 v,V0 (x:Int),.slice p n c]] w (Kc (fun w' r=>∃ q d,r=.slice q x d∧w'.ownsRow w.heap.size 3 1 (.slice q x d) x ((Ut x (Z.map Prod.fst)).map nv)) w):=by
 have hx:x≤65536:=by have:=hk.hdata;omega
 have d0:n≤1000000000:=by have:=hk.devs.few;rw[A6] at this;omega
 have a5:=Zl6 hk.devs 0
 have c9:=hk.devs.sum
 refine Jf Tryz.func25 rfl ?_
 refine Zls ⟨#[.agg #[V0 t,V0 u,V0 v,V0 (x:Int),.slice p n c],undef,undef,undef,undef,undef,undef,undef,undef,undef,undef,undef,undef,undef,undef,undef,undef,undef,undef,undef,undef,undef,undef,undef,undef,undef],[]⟩ K0 ?_
 refine wp_seq ?_
 refine wp_region_lit ?_
 refine Yx K0 (Rf [V0 t,V0 u,V0 v,V0 (x:Int),.slice p n c] rfl K0 ?_)
 intro b1 W1 n1
 have g1:=n1.ge (B4 w)
 have hB:=n1.below
 have k1:=n1.blk
 refine Vn 1 [(2,S0)] K0 ?_
 refine wpList_nil ?_
 refine wp_seq ?_
 refine wp_seq ?_
 refine wp_region_lit ?_
 refine Yx K0 (Gw (b:=b1) (off:=0) [V0 t,V0 u,V0 v,V0 (x:Int),.slice p n c] _ rfl K0 Tryz.underlying48 rfl K0 k1.whole ?_)
 refine Yx K0 (Yu (lb:=#[]) 17 #[.agg #[V0 t,V0 u,V0 v,V0 (x:Int),.slice p n c]] rfl K0 (fun _ _=>by kernel_rfl) K0 ((Jt p c n t u v (x:Int) Z _ hZ (hP.below hB)).mono ?_))
 rintro e W2 ⟨rfl,c1⟩
 refine⟨_,rfl,?_⟩
 replace hB:=bln hB c1
 replace k1:=k1.below c1
 refine Vn 1 [(9,.bool ((Qz t u v (x:Int) (Z.map Prod.fst)) != (0:Int)))] K0 ?_
 refine wpList_nil ?_
 refine wp_cond_split (t:=((Qz t u v (x:Int) (Z.map Prod.fst)) != (0:Int))) K0 (fun hh=>absurd (hh.symm.trans (show(((Qz t u v (x:Int) (Z.map Prod.fst)) != (0:Int)):Bool)=false from by rw[Cr.2 hk];rfl)) Do) (fun _=>?_)
 refine wp_skip ?_
 refine wp_seq ?_
 refine wp_region_lit ?_
 refine Vn 1 [(11,.pointer (some ⟨b1,3,none⟩))] K0 ?_
 refine Yx K0 (Ys ⟨b1,3,none⟩ (V0 (x:Int)) rfl K0 K0 (k1.cell (i:=3) rfl) ?_)
 have d3:=hB.size
 have d1:w.heap.size≤(W2).heap.size:=hB.size
 refine Yx K0 (Yu (lb:=#[]) 65 #[V0 (x:Int)] rfl K0 (fun _ _=>by kernel_rfl) K0 ((Zih x _ hx).mono ?_))
 rintro e W4 ⟨_,rfl,c4,br,g,rfl,c3,a1,hc⟩
 refine⟨_,rfl,?_⟩
 replace hB:=bln hB c4
 replace k1:=k1.below c4
 replace hc:=Zf hc d1
 replace c3:=N0 d3 c3
 refine Vn 3 [(10,.tuple #[P0 br,V0 0]),(14,P0 br),(15,V0 0)] K0 ?_
 refine Yx K0 (Qt [.pointer none] rfl K0 ?_)
 intro b5 W5 n5
 have a4:=n5.ne k1
 have a3:=n5.ne a1
 have g5:=n5.ge hB
 replace hB:=bln hB n5.below
 replace k1:=k1.below n5.below
 replace a1:=a1.below n5.below
 replace hc:=Zb hc n5.below
 have k5:=n5.blk
 refine Yx K0 (Yr (v:=P0 br) (b:=b5) (off:=0) rfl K0 K0 K0 rfl k5 (by first|decide|simp) ?_)
 intro W6 u6 k6
 change Blk _ _ [P0 br] _ at k6
 replace hB:=u6.below hB g5
 replace k1:=u6.blk k1 a4
 replace a1:=u6.blk a1 a3
 replace hc:=u6.own2 hc k5 Do
 refine Vn 1 [(4,V0 0)] K0 ?_
 refine wpList_nil ?_
 refine wp_seq ?_
 refine wp_seq ?_
 refine wp_region_lit ?_
 refine Yx K0 (Gw (b:=b1) (off:=0) [V0 t,V0 u,V0 v,V0 (x:Int),.slice p n c] _ rfl K0 Tryz.underlying48 rfl K0 k1.whole ?_)
 have d5:=hB.size
 refine Yx K0 (Yu (lb:=#[]) 69 #[.agg #[V0 t,V0 u,V0 v,V0 (x:Int),.slice p n c]] rfl K0 (fun _ _=>by kernel_rfl) K0 ((Zs0 t u v (x:Int) p n c _).mono ?_))
 rintro e W7 ⟨_,rfl,a6,bm,rfl,b9,c8⟩
 refine⟨_,rfl,?_⟩
 replace hB:=bln hB a6
 replace k1:=k1.below a6
 replace a1:=a1.below a6
 replace k6:=k6.below a6
 replace hc:=Zb hc a6
 replace b9:=N0 d5 b9
 refine wpList_nil ?_
 refine wp_block ?_
 have b4:=hB
 have a8:w.heap.size≤W7.heap.size:=b4.size
 have m3:=k6
 have mr:=a1
 have mm:=c8
 have mc:=hc
 have d2:w.heap.size≤g∧g<W7.heap.size:=mc.lt g rfl
 have hq:=maps_seq bm p n c t u v (x:Int) Z w W7 hZ hP d0 b4 (fun b=>b<w.heap.size) (fun b h=>h) (fun b h=>D4 h a8) mm
 refine Zls ⟨#[.agg #[V0 t,V0 u,V0 v,V0 (x:Int),.slice p n c],P0 b1,S0,P0 b5,V0 0,undef,undef,.agg #[V0 t,V0 u,V0 v,V0 (x:Int),.slice p n c],V0 (Qz t u v (x:Int) (Z.map Prod.fst)),.bool ((Qz t u v (x:Int) (Z.map Prod.fst)) != (0:Int)),.tuple #[P0 br,V0 0],.pointer (some ⟨b1,3,none⟩),V0 (x:Int),.tuple #[P0 br,V0 0],P0 br,V0 0,.agg #[V0 t,V0 u,V0 v,V0 (x:Int),.slice p n c],.func (.func 120) #[] #[P0 bm],undef,undef,undef,undef,undef,undef,undef,undef],[]⟩ K0 ?_
 refine Zr8 (g:=.tmp 17) (gf:=120) (lb:=#[P0 bm]) rfl (enters_of Tryz.func120 K0 rfl) (fun b=>b<w.heap.size) (fun b h=>D4 h a8) hq (fun _=>rfl)
  (fun k V=>B3 w V∧Blk V b5 [P0 br] 143∧Blk V br [.slice (S1 g) x x] 232∧V.ownsRow w.heap.size 3 1 (.slice (S1 g) x x) x ((Ag (List.replicate x 0) ((Uu 0 (Z.map Prod.fst)).take k)).map nv))
  (fun _ _ _=>False) ?bel ?own (fun _ _ _ _ _ h _ _=>h.elim) ⟨b4,m3,mr,mc⟩
  (fun y a' V=>∃ b6,a'={ tmps:=#[.agg #[V0 t,V0 u,V0 v,V0 (x:Int),.slice p n c],P0 b1,S0,P0 b5,V0 0,undef,P0 b6,.agg #[V0 t,V0 u,V0 v,V0 (x:Int),.slice p n c],V0 (Qz t u v (x:Int) (Z.map Prod.fst)),.bool ((Qz t u v (x:Int) (Z.map Prod.fst)) != (0:Int)),.tuple #[P0 br,V0 0],.pointer (some ⟨b1,3,none⟩),V0 (x:Int),.tuple #[P0 br,V0 0],P0 br,V0 0,.agg #[V0 t,V0 u,V0 v,V0 (x:Int),.slice p n c],.func (.func 120) #[] #[P0 bm],V0 (y.1:Int),.agg #[V0 y.2.1,V0 y.2.2.1,V0 y.2.2.2],undef,undef,undef,undef,undef,undef],defers:=[] }∧Blk V b6 [V0 y.2.1,V0 y.2.2.1,V0 y.2.2.2] 159) ?two ?assign ?body ?done (fun _ _ _ _ _ _ h _=>h.elim)
 case bel=>exact fun k A B h hb=>⟨bln h.1 hb,h.2.1.below hb,h.2.2.1.below hb,Zb h.2.2.2 hb⟩
 case own=>exact fun k A B c6 h hg hr=>⟨Ze7 (q:=fun _=>False) h.1 hg (fun r e=>.inr (hr r e)) (At _) a8 (fun _ q=>q.elim),Zh6 (q:=fun _=>False) (m:=W7.heap.size) h.2.1 hg (fun r e=>.inr (hr r e)) (fun _ q=>q.elim),Zh6 (q:=fun _=>False) (m:=W7.heap.size) h.2.2.1 hg (fun r e=>.inr (hr r e)) (fun _ q=>q.elim),Zts (q:=fun _=>False) (m:=W7.heap.size) h.2.2.2 hg (fun r e=>.inr (hr r e)) (fun _ q=>q.elim)⟩
 case two=>exact fun y a' A B c6 ⟨b6,ha,h6⟩ hg hr=>⟨b6,ha,Zh6 (q:=fun _=>False) (m:=W7.heap.size) h6 hg (fun r e=>.inr (hr r e)) (fun _ q=>q.elim)⟩
 case assign =>
  rintro lr k y W K hy hI hK
  refine Zvk { tmps:=#[.agg #[V0 t,V0 u,V0 v,V0 (x:Int),.slice p n c],P0 b1,S0,P0 b5,V0 0,undef,undef,.agg #[V0 t,V0 u,V0 v,V0 (x:Int),.slice p n c],V0 (Qz t u v (x:Int) (Z.map Prod.fst)),.bool ((Qz t u v (x:Int) (Z.map Prod.fst)) != (0:Int)),.tuple #[P0 br,V0 0],.pointer (some ⟨b1,3,none⟩),V0 (x:Int),.tuple #[P0 br,V0 0],P0 br,V0 0,.agg #[V0 t,V0 u,V0 v,V0 (x:Int),.slice p n c],.func (.func 120) #[] #[P0 bm],V0 (y.1:Int),.agg #[V0 y.2.1,V0 y.2.2.1,V0 y.2.2.2],undef,undef,undef,undef,undef,undef],defers:=[] } K0 ?_
  refine Li (fun⟨_,_,q⟩=>q) (by simp) ?_
  refine Yx K0 (Qt [V0 0,V0 0,V0 0] rfl K0 ?_)
  intro b8 W8 n8
  have g8:=n8.ge (B4 W)
  have hB:=n8.below
  have k8:=n8.blk
  refine Yx K0 (Nz (b:=b8) (off:=0) [V0 y.2.1,V0 y.2.2.1,V0 y.2.2.2] rfl K0 K0 K0 (by first|decide|simp[Value.oneCell']) k8 (by first|decide|simp) ?_)
  intro W9 u9 k9
  change Blk _ _ [V0 y.2.1,V0 y.2.2.1,V0 y.2.2.2] _ at k9
  replace hB:=u9.below hB g8
  refine wpList_nil ?_
  exact hK _ _ hB ⟨_,rfl,k9⟩
 case body =>
  rintro lr k y a' W d7 hy ⟨a9,n3,nr,nc⟩ ⟨b6,rfl,n6⟩
  have c0:w.heap.size≤W.heap.size:=a9.size
  obtain⟨d8,e0⟩:=a5 y (List.mem_of_getElem? hy)
  obtain⟨j,hj⟩:∃ j:Nat,y.2.2.1=(j:Int):=⟨y.2.2.1.toNat,by omega⟩
  have c7:(Ag (List.replicate x 0) ((Uu 0 (Z.map Prod.fst)).take k)).length=x:=by rw[Zgc,B6]
  have e1:=Zbn (Ag (List.replicate x 0) ((Uu 0 (Z.map Prod.fst)).take k)) j
  have c5:=Zgw (data:=x) ((Uu 0 (Z.map Prod.fst)).take k) (fun z hz=>a5 z (Q5 hz)) (List.replicate x 0) B6
  rw[P2,E3] at c5
  have d4:=Nat.min_le_right k (Uu 0 (Z.map Prod.fst)).length
  rw[Zbu] at d4 c5
  rw[hj] at n6
  obtain⟨cg,kg⟩:=Za4 nc
  refine wpIn_block ?_
  refine Li (fun⟨_,_,q⟩=>q) (by simp) ?_
  refine Yx K0 (Ys ⟨b5,0,none⟩ (P0 br) rfl K0 K0 (n3.cell (i:=0) rfl) ?_)
  refine Vn 1 [(21,.pointer (some ⟨b6,1,none⟩))] K0 ?_
  refine Yx K0 (Ys ⟨b6,1,none⟩ (V0 (j:Int)) rfl K0 K0 (n6.cell (i:=1) rfl) ?_)
  refine Yx K0 (Yu (lb:=#[]) 66 #[P0 br,V0 (j:Int)] rfl K0 (fun _ _=>by kernel_rfl) K0 ((Zwj w.heap.size br g x j (Ag (List.replicate x 0) ((Uu 0 (Z.map Prod.fst)).take k)) _ nr (N0 c0 (Below.refl w.heap.size _).size) nc c7 M0 M0).mono ?_))
  rintro e e2 ⟨rfl,b2,a2,b0,b7⟩
  refine⟨_,rfl,?_⟩
  have hX:Fr [g] W _:=b0
  have hB:=b2
  replace n3:=n3.only a2 Do
  replace nr:=nr.only a2 Do
  replace n6:=n6.only a2 Do
  refine wpList_nil ?_
  exact⟨(frg_ko hX kg).from _,Zxh hX (fun b hb=>D4 hb c0) (Nat.not_lt.2 d2.1),a9.trans hB,n3,nr,by rw[Zpn _ _ hy,hj];exact b7⟩
 case done =>
  rintro D W hD ⟨a9,n3,nr,nc⟩ c2
  have hK:Dfr D W:=c2;clear c2
  rw[C1 (At _)] at nc
  refine Zk5 ?_
  have hB:=a9
  refine wp_seq ?_
  refine wp_region_lit ?_
  refine Yx K0 (Ys ⟨b5,0,none⟩ (P0 br) rfl K0 K0 (n3.cell (i:=0) rfl) ?_)
  have b3:w.heap.size≤(W).heap.size:=hB.size
  refine Yx K0 (Yu (lb:=#[]) 68 #[P0 br] rfl K0 (fun _ _=>by kernel_rfl) K0 ((Zhj br g x w.heap.size (Ut x (Z.map Prod.fst)) _ nr nc (Hi _ _) M0).mono ?_))
  rintro e d6 ⟨_,rfl,a0,q9,d9,rfl,a7⟩
  refine⟨_,rfl,?_⟩
  replace hB:=bln hB a0
  replace n3:=n3.below a0
  replace nr:=nr.below a0
  replace nc:=Zb nc a0
  replace hK:=hK.below a0
  replace a7:=Zf a7 b3
  refine Vn 1 [(2,.slice q9 x d9)] K0 ?_
  refine wpList_nil ?_
  refine wp_ret ?_
  exact Zhq hK (.slice q9 x d9) K0 K0 ⟨_,rfl,(Upd.of_put _ _ _).below hB (N0 a8 hD),_,_,rfl,(Upd.of_put _ _ _).own3 a7 (hK.row a7)⟩
theorem Tp{cs:List Nat}{i:Nat}(h:i<cs.length):(cs.take (i+1)).sum=(cs.take i).sum+cs.getD i 0:=by
 rw[A7 h,F0];simp[List.getD,h]
theorem Zq8(cs:List Nat)(i:Nat):(cs.take i).sum≤cs.sum:=by
 conv=>rhs;rw[←F9 i cs]
 rw[F0];omega
theorem Fq{w:World}{pc:O0}{n m:Nat}{cs:List Nat}(h:Sl w (.slice pc n m) n (cs.map nv))(hn:cs.length=n){k:Nat}(hk:k<n):pc.isSome=true∧w.cell? (Zx pc (k*1))=some (V0 ((cs.getD k 0:Nat):Int)):=Hd h M0
theorem Zlv(a:O0)(n c:Nat)(cs:List Nat)(w:World)(hn:cs.length=n)(h:Sl w (.slice a n c) n (cs.map nv))(hs:cs.sum≤1000000000) :
 C0 71 #[.slice a n c] w (Ret (V0 (cs.sum:Int)) w):=by
 have a5:=Sl.len h
 refine zin 17 Tryz.func71 ?_
 have hB:=Below.refl w.heap.size w
 refine zl 19 17 (fun zm a3 V=>∃ (i:Nat),a3=[(2,V0 0),(3,V0 (↑((cs.take i).sum):Int)),(6,.slice a n c),(7,V0 (n:Int)),(8,V0 (i:Int))]∧zm=n-((i:Int)).toNat∧B3 w V∧i≤n) ⟨0,rfl,rfl,hB,A3 _⟩ ?_
 rintro _ _ W1 ⟨i,rfl,rfl,a0,hi⟩ J1 a1 r1
 have a6:=Zq8 cs (i+1)
 refine xid 6 ((i:Int)<(n:Int)) (fun a2=>?_) (fun a2=>?_)
 ·have a4:=Tp (cs:=cs) (i:=i) M0
  refine xx 6 _ n i 1 (Fq h hn (k:=i) M0).1 ?_
  refine xl 0 ((Fq (h.below a0) hn (k:=i) M0).2) ?_
  refine xwm 6 ((↑((cs.take i).sum):Int)+(↑(cs.getD i 0):Int)) (↑(((cs.take i).sum)+(cs.getD i 0)):Int) ?_
  refine xwm 5 ((i:Int)+1) (↑(i+1):Int) ?_
  refine xv1 2 3 (show(V0 (↑(((cs.take i).sum)+(cs.getD i 0)):Int):Value)=V0 (↑((cs.take (i+1)).sum):Int) from by rw[Tp (i:=i) M0]) ?_
  exact ze 0 (a1 _ _ _ ⟨i+1,rfl,rfl,a0,by omega⟩ M0)
 exact xe 12 (V0 (↑((cs.take i).sum):Int)) ⟨by rw[C1 M0],a0⟩
theorem Zqb(p:O0)(c n x:Nat)(t u v:Int)(Z:List Zv)(w:World)(hZ:Z.length=n)(hP:DevsR w p c Z)(hk:PoolOk t u v (x:Int) (Z.map Prod.fst)) :
 C0 72 #[.agg #[V0 t,V0 u,V0 v,V0 (x:Int),.slice p n c]] w (Ret (V0 (↑(Zrw x (Z.map Prod.fst)):Int)) w):=by
 have hx:x≤65536:=by have:=hk.hdata;omega
 refine zin 19 Tryz.func72 ?_
 refine xa 2 [V0 t,V0 u,V0 v,V0 (x:Int),.slice p n c] 48 fun b1 W1 n1=>?_
 refine xlv 11 n1.blk.rp ?_
 refine xc 0 (Lq p c n x t u v Z _ hZ (hP.below n1.below) hk) ?_
 rintro _ W2 ⟨_,rfl,a6,q9,d9,rfl,a2⟩
 have a3:=Zf a2 n1.below.size
 have a5:=bln n1.below a6
 have a4:=n1.blk.below a6
 refine zl 5 19 (fun zm b0 V=>∃ (i:Nat),b0=[(2,V0 0),(3,V0 (↑(Zf4 (Ut x (Z.map Prod.fst)) i):Int)),(7,.slice q9 x d9),(8,V0 (x:Int)),(9,V0 (i:Int))]∧zm=x-((i:Int)).toNat∧B3 w V∧Blk V b1 ([V0 t,V0 u,V0 v,V0 (x:Int),.slice p n c]) 48∧V.ownsRow w.heap.size 3 1 (.slice q9 x d9) x ((Ut x (Z.map Prod.fst)).map nv)∧i≤x) ⟨0,rfl,rfl,a5,a4,a3,A3 _⟩ ?_
 rintro _ _ W3 ⟨i,rfl,rfl,a1,a0,a2,hi⟩ J3 a7 r3
 refine xid 6 ((i:Int)<(x:Int)) (fun a8=>?_) (fun a8=>?_)
 ·have b2:Zf4 (Ut x (Z.map Prod.fst)) i≤i:=by unfold Zf4;exact N0 (P5 _ _) (by rw[E3];exact K3 _ _)
  refine xx 6 _ x i 1 (Fq (Zg a2) (Hi _ _) (k:=i) M0).1 ?_
  refine xl 0 ((Fq (Zg a2) (Hi _ _) (k:=i) M0).2) ?_
  refine xid 9 ((↑((Ut x (Z.map Prod.fst)).getD i 0):Int)≥(3:Int)) (fun a9=>?_) (fun a9=>?_)
  ·refine xwm 2 ((↑(Zf4 (Ut x (Z.map Prod.fst)) i):Int)+1) (↑((Zf4 (Ut x (Z.map Prod.fst)) i)+1):Int) ?_
   refine xwm 5 ((i:Int)+1) (↑(i+1):Int) ?_
   refine xv1 2 3 (show(V0 (↑((Zf4 (Ut x (Z.map Prod.fst)) i)+1):Int):Value)=V0 (↑(Zf4 (Ut x (Z.map Prod.fst)) (i+1)):Int) from by rw[Fz (k:=i) (by rw[Hi];omega),if_pos M0]) ?_
   exact ze 0 (a7 _ _ _ ⟨i+1,rfl,rfl,a1,a0,a2,by omega⟩ M0)
  refine xwm 4 ((i:Int)+1) (↑(i+1):Int) ?_
  refine xv1 2 3 (show(V0 (↑(Zf4 (Ut x (Z.map Prod.fst)) i):Int):Value)=V0 (↑(Zf4 (Ut x (Z.map Prod.fst)) (i+1)):Int) from by rw[Fz (k:=i) (by rw[Hi];omega),if_neg M0,G3]) ?_
  exact ze 0 (a7 _ _ _ ⟨i+1,rfl,rfl,a1,a0,a2,by omega⟩ M0)
 exact xe 12 (V0 (↑(Zf4 (Ut x (Z.map Prod.fst)) i):Int)) ⟨by obtain rfl:i=x:=M0;rfl,a1⟩
theorem devs_row{Z:List Zv}{i:Nat}(h:i<Z.length):((((Z.map Prod.fst).map fun d=>Xk 2 d.2.length).take i).map nv)++[V0 (↑(Xk 2 (Z.getD i zvD).1.2.length):Int)]=((((Z.map Prod.fst).map fun d=>Xk 2 d.2.length).take (i+1)).map nv):=by
 rw[A7 (by simpa using h),B5]
 simp[List.getD,h,nv]
theorem dev_few{data:Int}{Z:List Zv}(hk:DevsOk data (Z.map Prod.fst)){i:Nat}(h:i<Z.length):(Z.getD i zvD).1.2.length≤16384:=by
 have a:=hk.sum
 have b:=Znm (L:=Z.map Prod.fst) (i:=i) (by rw[A6];exact h)
 rw[zfst h] at b
 omega
theorem Znf{L:List Dv}:(L.map fun d=>Xk 2 d.2.length).length=L.length:=A6 ..
theorem Zws(b a1 a2 a3 a4 a5 a6:Nat)(w:World)(k:Blk w b [V0 1,V0 (a1:Int),V0 (a2:Int),V0 (a3:Int),V0 (a4:Int),V0 (a5:Int),V0 (a6:Int)] 3)(h:1+a1+a2+a3+a4+a5+a6≤1000000000) :
 C0 71 #[.slice (S1 b) 7 7] w (Ret (V0 (↑(1+a1+a2+a3+a4+a5+a6):Int)) w):=by
 have e:[1,a1,a2,a3,a4,a5,a6].sum=1+a1+a2+a3+a4+a5+a6:=by simp only[G5,N3];omega
 have q:=Zlv (S1 b) 7 7 [1,a1,a2,a3,a4,a5,a6] w rfl (k.sl 7 7 Do Do) (by rw[e];exact h)
 rw[e] at q
 exact q
theorem Zwh{x n:Nat}{L:List Dv}(h:L.length=n):1+Xk 3 n+Xk 1 n+Si L+bmN x+Xk 4 (bmN x)+Xk 5 (Zrw x L)=Mm x L:=by
 subst h;rfl
theorem Zii(p:O0)(c n x:Nat)(t u v:Int)(Z:List Zv)(w:World)(hZ:Z.length=n)(hP:DevsR w p c Z)(hk:PoolOk t u v (x:Int) (Z.map Prod.fst)) :
 C0 26 #[.agg #[V0 t,V0 u,V0 v,V0 (x:Int),.slice p n c]] w (Ret (V0 (↑(Mm x (Z.map Prod.fst)):Int)) w):=by
 have hx:x≤65536:=by have:=hk.hdata;omega
 have c5:(Z.map Prod.fst).length=n:=by rw[A6];exact hZ
 have d7:=hk.devs.few
 have e8:=hk.devs.sum
 rw[c5] at d7
 have f6:=Fw hk.devs
 have f1:=Zml hx hk.devs
 have e6:bmN x≤69:=by unfold bmN;omega
 have e5:=Sl.len (hP.rowN hZ)
 refine zin 46 Tryz.func26 ?_
 refine xa 2 [V0 t,V0 u,V0 v,V0 (x:Int),.slice p n c] 48 fun b1 W1 n1=>?_
 refine xlv 6 n1.blk.rp ?_
 refine xr 0 (Jt p c n t u v (x:Int) Z _ hZ (hP.below n1.below)) fun W2 d3=>?_
 refine xk 3 (show(((Qz t u v (x:Int) (Z.map Prod.fst)) != (0:Int)):Bool)=false from by rw[Cr.2 hk];rfl) ?_
 have a6:=n1.blk.below d3
 refine xb 11 4 a6 ?_
 have c7:=bln n1.below d3
 refine zl 5 46 (fun zm e0 V=>∃ (i:Nat) (p3:O0) (c3:Nat),e0=[(1,P0 b1),(2,V0 0),(3,.slice p3 i c3),(11,.slice p n c),(12,V0 (n:Int)),(13,V0 (i:Int))]∧zm=n-((i:Int)).toNat∧B3 w V∧Blk V b1 ([V0 t,V0 u,V0 v,V0 (x:Int),.slice p n c]) 48∧V.ownsRow w.heap.size 3 1 (.slice p3 i c3) i ((((Z.map Prod.fst).map fun d=>Xk 2 d.2.length).take i).map nv)∧i≤n) ⟨0,none,0,rfl,rfl,c7,a6,A5 _ _ _ _,A3 _⟩ ?_
 rintro _ _ W3 ⟨i,p3,c3,rfl,rfl,a2,a1,hl,hi⟩ J3 d8 r3
 refine xid 6 ((i:Int)<(n:Int)) (fun d6=>?_) (fun d6=>?_)
 ·have f0:=dev_few hk.devs (i:=i) M0
  refine xx 6 _ n i 5 (hP.someN hZ (i:=i) M0) ?_
  refine xlv 0 (Sts.rp (k:=i) (hP.below a2).row Gu zvD M0 Do) ?_
  refine xa 0 [V0 0,V0 0,V0 0,V0 0,S0] 95 fun b5 W5 n5=>?_
  have g5:=n5.ge a2
  refine xsv 0 n5.blk [V0 ((Z.getD i zvD).1.1.1),V0 ((Z.getD i zvD).1.1.2.1),V0 ((Z.getD i zvD).1.1.2.2.1),V0 ((Z.getD i zvD).1.1.2.2.2),.slice ((Z.getD i zvD).2.1) ((Z.getD i zvD).1.2.length) ((Z.getD i zvD).2.2)] fun W6 u6 k6=>?_
  refine xb 5 4 k6 ?_
  refine xr 1 (Ka 2 ((Z.getD i zvD).1.2.length) _ Do Do M0) fun W7 d0=>?_
  refine xbs 0 1 [V0 (↑(Xk 2 ((Z.getD i zvD).1.2.length)):Int)] 3 fun b8 W8 n8=>?_
  have b4:=bln (u6.below (bln a2 n5.below) g5) d0
  have g8:=n8.ge b4
  have a8:=Zb (u6.own2 (Zb hl n5.below) n5.blk Do) d0
  have d4:=Zu a8 n8
  have b6:=Zb a8 n8.below
  have b9:=bln b4 n8.below
  refine xbi 0 fun _ _ _ _ zJ zQ zo zx zy zK=>Xi (m:=1) (news:=[V0 (↑(Xk 2 ((Z.getD i zvD).1.2.length)):Int)]) (V0 0) 1 8 (i+1) (((((Z.map Prod.fst).map fun d=>Xk 2 d.2.length).take (i+1)).map nv)) zo Tryz.underlying34 K0 rfl Do zx b6 zy (n8.blk.sl 1 1 Do Do) rfl (by simp[Value.oneCell']) (by unfold maxLen;omega) M0 b9.size (by rfl) (by exact devs_row M0) fun e9 f5 W9 o9 d9 e1=>?_
  refine zK _ _ ?_
  refine xwm 5 ((i:Int)+1) (↑(i+1):Int) ?_
  have c8:=b9.trans e1
  have a3:=(((u6.blkT (a1.below n5.below) n5.blk Do).below d0).below n8.below).grown d9 b6 Do
  exact ze 2 (d8 _ _ _ ⟨i+1,_,_,rfl,rfl,c8,a3,o9,by omega⟩ M0)
 obtain rfl:n=i:=by omega
 rw[C1 (by rw[Znf,A6];omega)] at hl
 refine xb 8 3 a1 ?_
 refine xr 0 (Ca x _ hx) fun d2 a4=>?_
 refine xd 4 .z ?_
 have a0:=(a1.below a4).below (Za d2)
 refine xb (.e [0] 1) 4 a0 ?_
 refine xb (.e [2,4] 5) 4 a0 ?_
 refine xlv (.e [6,8,10,11] 13) a0.rp ?_
 refine xr (.o [] 3) (Ka 3 n _ Do Do M0) fun f3 b7=>?_
 refine xr (.o [] 7) (Ka 1 n _ Do Do M0) fun f4 a7=>?_
 have c0:=Zb (Zb (Zb (Zb hl a4) (Za d2)) b7) a7
 refine xr (.o [] 9) (Zlv p3 n c3 ((Z.map Prod.fst).map fun d=>Xk 2 d.2.length) _ (by rw[Znf,A6];exact hZ) (Zg c0) (by have:=Zlu (L:=(Z.map Prod.fst));unfold Si at this;omega)) fun f8 a5=>?_
 refine xr (.o [] 12) (Ka 4 (bmN x) _ Do Do M0) fun f2 b3=>?_
 have b2:=bln (bln (bln (bln (bln (bln a2 a4) (Za d2)) b7) a7) a5) b3
 refine xr (.o [] 14) (Zqb p c n x t u v Z _ hZ (hP.below b2) hk) fun f7 c1=>?_
 refine xr (.o [] 15) (Ka 5 (Zrw x (Z.map Prod.fst)) _ Do Do M0) fun e3 b0=>?_
 refine xbs (.o [] 16) 7 [V0 1,V0 (↑(Xk 3 n):Int),V0 (↑(Xk 1 n):Int),V0 (↑(Si (Z.map Prod.fst)):Int),V0 (↑(bmN x):Int),V0 (↑(Xk 4 (bmN x)):Int),V0 (↑(Xk 5 (Zrw x (Z.map Prod.fst))):Int)] 3 fun d5 e4 c2=>?_
 have a9:=bln (bln b2 c1) b0
 have e2:=c2.ge a9
 have c6:=Zb (Zb (Zb (Zb c0 a5) b3) c1) b0
 have c4:=Zu c6 c2
 refine xr (.o [] 17) (by have q:=Zws d5 (Xk 3 n) (Xk 1 n) (Si (Z.map Prod.fst)) (bmN x) (Xk 4 (bmN x)) (Xk 5 (Zrw x (Z.map Prod.fst))) _ c2.blk (by rw[Zwh c5];omega);rw[Zwh c5] at q;exact q) fun e7 d1=>?_
 have c9:=bln (bln a9 c2.below) d1
 exact xe (.r [18] 3) (V0 (↑(Mm x (Z.map Prod.fst)):Int)) ⟨rfl,c9⟩
theorem need_quo(bs:Nat)(h:bs≤100000):IntKind.i64.wrap (Int.tdiv (↑(bs+1):Int) 959)=(↑((bs+1)/959):Int):=by
 rw[show(959:Int)=((959:Nat):Int) from rfl,←Int.ofNat_tdiv]
 exact IntWalk.i64_in _ M0
theorem Iw(p:O0)(c n x:Nat)(t u v:Int)(Z:List Zv)(w:World)(hZ:Z.length=n)(hP:DevsR w p c Z)(hk:PoolOk t u v (x:Int) (Z.map Prod.fst)) :
 C0 16 #[.agg #[V0 t,V0 u,V0 v,V0 (x:Int),.slice p n c]] w (Ret (V0 (↑(Uk x (Z.map Prod.fst)):Int)) w):=by
 have hx:x≤65536:=by have:=hk.hdata;omega
 have a2:=Zml hx hk.devs
 obtain⟨bs,a1⟩:∃ y,Mm x (Z.map Prod.fst)=y:=⟨_,rfl⟩
 rw[a1] at a2
 refine zin 17 Tryz.func16 ?_
 refine xa 2 [V0 t,V0 u,V0 v,V0 (x:Int),.slice p n c] 48 fun b1 W1 n1=>?_
 refine xlv 5 n1.blk.rp ?_
 refine xr 0 (by have q:=Zii p c n x t u v Z _ hZ (hP.below n1.below) hk;rw[a1] at q;exact q) fun W2 a3=>?_
 refine xk 10 (show(((bs:Int)==(0:Int)):Bool)=false from beq_false_of_ne M0) ?_
 refine xwm 5 ((bs:Int)+2) (↑(bs+2):Int) ?_
 refine xwm 7 ((↑(bs+2):Int)-1) (↑((bs+2)-1):Int) ?_
 refine xq 0 (congrArg V0 (show(IntKind.i64.wrap (Int.tdiv (↑((bs+2)-1):Int) 959):Int)=(↑((bs+1)/959):Int) from need_quo bs a2.2)) ?_
 refine xwm 0 ((↑(bs+2):Int)+(↑((bs+1)/959):Int)) (↑((bs+2)+((bs+1)/959)):Int) ?_
 refine xwm 0 ((↑((bs+2)+((bs+1)/959)):Int)+1) (↑(((bs+2)+((bs+1)/959))+1):Int) ?_
 have a0:=bln n1.below a3
 exact xe 4 (V0 (↑(((bs+2)+((bs+1)/959))+1):Int)) ⟨by unfold Uk Zin;rw[a1];exact congrArg (fun z:Int=>Ending.returned (Value.int .i64 z)) M0,a0⟩
theorem Ztz{l:List Int}(h:l.length≤65536)(ho:(Zp l l.length).length≤32768):2≤Qr l∧Qr l≤80000∧bmN l.length≤69:=by
 have h4:=Ws 4 (bmN l.length)
 have h5:=Ws 5 (Zp l l.length).length
 have a1:=Mi 4 (bmN l.length)
 have a0:=Mi 5 (Zp l l.length).length
 have hb:bmN l.length≤69:=by unfold bmN;omega
 unfold Qr
 omega
theorem Sd(B ba b g nn cc:Nat)(pa:O0)(ca f N k0:Nat)(bs:Bl)(a:O0)(c:Nat)(l:List Int)(w:World)(hC:AlC B ba nn cc ca f N)(hA:Al B ba b g nn cc pa ca f N k0 bs w)(h:Sl w (.slice a l.length c) l.length (l.map V0))(hl:l.length≤65536)(ho:(Zp l l.length).length≤32768)(hs:Jr l=0)(hf1:1≤f)(hkN:k0≤N)(hk:k0+Qr l≤N)(hBw:B≤w.heap.size) :
 C0 97 #[P0 ba,.slice a l.length c] w (DataP B ba b g nn cc pa ca f N k0 bs l w):=by
 have d4:=hC.hf
 have d7:=hC.hn
 have d3:=Ztz hl ho
 have c9:=Pe hs
 have d5:=Pf l l.length
 have d9:Qr l=(bmN l.length)+Xk 4 (bmN l.length)+Xk 5 (Zp l l.length).length:=rfl
 have d6:=Ws 4 (bmN l.length)
 have d8:=Ws 5 (Zp l l.length).length
 refine zin 70 Tryz.func97 ?_
 refine xr 11 (args:=#[P0 ba]) (Vt ba b _ _ _ hA.blkA) fun W1 a0=>?_
 refine xc 9 (Dl a c l _ (h.below a0) M0 hs) ?_
 rintro _ W2 ⟨pb,cb,gs,po,co,rfl,a4,hL,b4⟩
 have c3:=(blB (Below.refl B w) hBw a0).size
 have b1:=(hA.below a0).below a4
 refine xr 23 (Ro ba b pa N ca k0 _ b1.blkA hkN) fun W3 a2=>?_
 refine xr 4 (Ka 4 (bmN l.length) _ Do Do M0) fun W4 a1=>?_
 refine xwm 0 ((↑(bmN l.length):Int)+(↑(Xk 4 (bmN l.length)):Int)) (↑((bmN l.length)+(Xk 4 (bmN l.length))):Int) ?_
 refine xr 2 (Ka 5 (Zp l l.length).length _ Do Do M0) fun W5 a3=>?_
 refine xwm 0 ((↑((bmN l.length)+(Xk 4 (bmN l.length))):Int)+(↑(Xk 5 (Zp l l.length).length):Int)) (↑(((bmN l.length)+(Xk 4 (bmN l.length)))+(Xk 5 (Zp l l.length).length)):Int) ?_
 refine xk 3 (show(decide ((↑(N-k0):Int)<(↑(((bmN l.length)+(Xk 4 (bmN l.length)))+(Xk 5 (Zp l l.length).length)):Int)):Bool)=false from decide_eq_false M0) ?_
 refine xa 4 [S0] 123 fun b6 W6 n6=>?_
 have hX:=(((((show Fr [ba,g] w _ from(Q2 a0)).trans (Q2 a4)).trans (Q2 a2)).trans (Q2 a1)).trans (Q2 a3)).trans (Q2 n6.below)
 have a9:=Zb (Zb (Zb (Zb (Zf b4 c3) a2) a1) a3) n6.below
 have a6:=(((b1.below a2).below a1).below a3).below n6.below
 have b5:=fun(W:World) (hX:Fr ([ba,g]++[b6]) _ W)=>own_keep a9 a6 n6.blk hX
 have b3:=(((hL.below a2).below a1).below a3).below n6.below
 have g6:=n6.ge0 (blB (blB (blB (blB (blB (Below.refl B w) hBw a0) hBw a4) hBw a2) hBw a1) hBw a3)
 have hB:=blB (blB (blB (blB (blB (blB (Below.refl B w) hBw a0) hBw a4) hBw a2) hBw a1) hBw a3) hBw n6.below
 refine xc 8 (args:=#[P0 ba,.slice pb (bmN l.length) cb,.func (.func 159) #[] #[P0 b6]]) (Zn2 B ba b g nn cc pa ca f N k0 bs b6 _ pb cb gs (Xa (Zl l) (bmN l.length)) (bmN l.length) (Wq _ _) _ hC a6 b3 (Tc c9.2 _) hf1 M0 n6.blk (N0 hBw g6) (N0 hBw hB.size)) ?_
 rintro _ W7 ⟨p8,c8,rfl,d0,c1,b9,hA,c4,c2⟩
 have c0:=(blB (blB (blB (blB (blB (blB (Below.refl B w) hBw a0) hBw a4) hBw a2) hBw a1) hBw a3) hBw n6.below).size
 replace b4:=b5 _ b9
 refine xb 15 0 c4 ?_
 have a5:=Zf c2 c0
 have b0:=hB.trans d0
 refine xc 0 (args:=#[P0 ba,V0 4,.slice p8 (bmN l.length) c8]) (Mq B ba b g nn cc pa ca f N (k0+(bmN l.length)) (Xy (Xa (Zl l) (bmN l.length)) (f+k0) bs (bmN l.length)) 4 p8 c8 (Xm (Xa (Zl l) (bmN l.length)) (f+k0) (bmN l.length)) (bmN l.length) _ (Xg _ _ _) hC hA Do Do (Ga _ _ _ M0) M0 hf1 M0 M0 (fun W _ h2=>by unfold Sts;rw[Xg];exact Zg (Zi a5 h2 Do)) (N0 hBw b0.size)) ?_
 rintro _ W8 ⟨rfl,c5,b8,d1,hA⟩
 rw[Xg] at hA
 have a7:=Zi b4 b8 Do
 have a8:=b0.trans c5
 refine xc 21 (args:=#[P0 ba,V0 5,.slice po ((Zp l l.length).length) co]) (Mq B ba b g nn cc pa ca f N (k0+(bmN l.length)+Xk 4 (bmN l.length)) (Zz 4 (Xm (Xa (Zl l) (bmN l.length)) (f+k0) (bmN l.length)) (f+(k0+(bmN l.length))) (Xy (Xa (Zl l) (bmN l.length)) (f+k0) bs (bmN l.length))).2 5 po co (Zp l l.length) (Zp l l.length).length _ rfl hC hA Do Do (Vl _ _ M0) M0 hf1 M0 M0 (fun W _ h2=>Zg (Zi a7 h2 Do)) (N0 hBw a8.size)) ?_
 rintro _ W9 ⟨rfl,d2,c7,c6,hA⟩
 have b7:=a8.trans d2
 have hO:=((((((((show Ze [200,5,123,132,28] w _ from(Q0 a0)).trans (Q0 a4)).trans (Q0 a2)).trans (Q0 a1)).trans (Q0 a3)).trans (Q0 n6.below)).trans (c1.wide)).trans (b8.wide)).trans (c7.wide)
 have b2:=((Fr.trans_new hX b9 g6).trans (d1.mono (by simp))).trans (c6.mono (by simp))
 refine xe 27 (.tuple #[V0 ((Zz 4 (Xm (Xa (Zl l) (bmN l.length)) (f+k0) (bmN l.length)) (f+(k0+(bmN l.length))) (Xy (Xa (Zl l) (bmN l.length)) (f+k0) bs (bmN l.length))).1),V0 ((Zz 5 (Zp l l.length) (f+(k0+(bmN l.length)+Xk 4 (bmN l.length))) (Zz 4 (Xm (Xa (Zl l) (bmN l.length)) (f+k0) (bmN l.length)) (f+(k0+(bmN l.length))) (Xy (Xa (Zl l) (bmN l.length)) (f+k0) bs (bmN l.length))).2).1),.nilIface]) ?_
 have e1:f+(k0+(bmN l.length))=f+k0+(bmN l.length):=by omega
 have e2:f+(k0+(bmN l.length)+Xk 4 (bmN l.length))=f+k0+(bmN l.length)+Xk 4 (bmN l.length):=by omega
 rw[e2,e1] at hA ⊢
 have e3:k0+(bmN l.length)+Xk 4 (bmN l.length)+Xk 5 (Zp l l.length).length=k0+Qr l:=by omega
 rw[e3] at hA
 exact⟨rfl,b7,hO,b2,hA⟩
theorem Dc(w:World) :
 C0 256 #[] w (Kc (fun w' r=>∃ b,r=.slice (S1 b) 1 1∧w.heap.size≤b∧Blk w' b [V0 8,V0 0,V0 1099511627775] 312) w):=by
 refine zin 3 Tryz.func256 ?_
 refine xbs 8 1 [V0 8,V0 0,V0 1099511627775] 312 fun b1 W1 n1=>?_
 exact xe 4 (.slice (S1 b1) 1 1) ⟨_,rfl,n1.below,b1,rfl,(n1.ge (B4 w)),n1.blk⟩
theorem map_shr(s:Bl):Int.fdiv (↑((Xs Mf s).getD 0 0):Int) (2 ^ 24)=(Ov s:Int):=by
 show Int.fdiv ((mapN s:Nat):Int) ((16777216:Nat):Int)=_
 rw[N8 _ M0]
 unfold Ov;omega
theorem map_and(s:Bl):IntKind.i64.wrap (↑(BitVec.ofInt 64 (↑((Xs Mf s).getD 0 0):Int) &&& BitVec.ofInt 64 (16777215:Int)).toNat:Int)=(Zez s:Int):=by
 show IntKind.i64.wrap (↑(BitVec.ofInt 64 (mapN s:Int) &&& BitVec.ofInt 64 (16777215:Int)).toNat:Int)=(Zez s:Int)
 have:=mapN_bd s
 rw[show(16777215:Int)=((16777215:Nat):Int) from rfl,E4,E4,P3,E6,E6,E2 M0,E2 M0]
 rw[show mapN s &&& 16777215=mapN s%16777216 from L8 (mapN s) 24]
 exact Mk M0
theorem Zes(s:Bl)(w:World)(hs:s.length≤1000) :
 C0 263 #[.string ⟨s.toArray⟩] w (Ret (.tuple #[V0 (↑(Ov s):Int),V0 (↑(Zez s):Int),V0 (Xn Mf s)]) w):=by
 refine zin 22 Tryz.func263 ?_
 refine xc 9 (Dc _) ?_
 rintro _ W1 ⟨_,rfl,a1,gl,rfl,gg,kl⟩
 refine xc 1 (Lb Mf s (S1 gl) 1 _ Zkm Do M0 (kl.sl 1 1 Do Do)) ?_
 rintro _ W2 ⟨_,rfl,a2,p5,c5,rfl,h5⟩
 refine xd 8 .z ?_
 have a0:=Zb (Zf h5 a1.size) (Za W2)
 refine xx (.e [0] 1) _ 1 0 1 (Xc (l:=Xs Mf s) (Zg a0) (Ym _ _) (k:=0) Do).1 ?_
 refine xl (.e [] 2) ((Xc (l:=Xs Mf s) (Zg a0) (Ym _ _) (k:=0) Do).2) ?_
 refine xq (.e [] 3) (congrArg V0 (show(Int.fdiv (↑((Xs Mf s).getD 0 0):Int) (2 ^ 24):Int)=(↑(Ov s):Int) from map_shr s)) ?_
 refine xx (.e [4] 5) _ 1 0 1 (Xc (l:=Xs Mf s) (Zg a0) (Ym _ _) (k:=0) Do).1 ?_
 refine xl (.e [] 6) ((Xc (l:=Xs Mf s) (Zg a0) (Ym _ _) (k:=0) Do).2) ?_
 refine xq (.e [] 7) (congrArg V0 (show(IntKind.i64.wrap (↑(BitVec.ofInt 64 (↑((Xs Mf s).getD 0 0):Int) &&& BitVec.ofInt 64 (16777215:Int)).toNat:Int):Int)=(↑(Zez s):Int) from map_and s)) ?_
 have hB:=bln (bln a1 a2) (Za W2)
 exact xe (.r [8,9,10,11] 3) (.tuple #[V0 (↑(Ov s):Int),V0 (↑(Zez s):Int),V0 (Xn Mf s)]) ⟨rfl,hB⟩
theorem Nf(w:World) :
 C0 215 #[] w (Kc (fun w' r=>∃ b,r=.slice (S1 b) 4 4∧w.heap.size≤b∧Blk w' b [V0 8,V0 0,V0 16384,V0 8,V0 0,V0 2147483647,V0 4,V0 0,V0 16777215,V0 4,V0 0,V0 16777215] 312) w):=by
 refine zin 6 Tryz.func215 ?_
 refine xbs 11 4 [V0 8,V0 0,V0 16384,V0 8,V0 0,V0 2147483647,V0 4,V0 0,V0 16777215,V0 4,V0 0,V0 16777215] 312 fun b1 W1 n1=>?_
 exact xe 4 (.slice (S1 b1) 4 4) ⟨_,rfl,n1.below,b1,rfl,(n1.ge (B4 w)),n1.blk⟩
theorem Aj(s:Bl)(w:World)(hs:s.length≤1000) :
 C0 175 #[.string ⟨s.toArray⟩] w (Ret (.tuple #[.agg #[V0 (↑(Kj s 0):Int),V0 (↑(Kj s 1):Int),V0 (↑(Kj s 2):Int),V0 (↑(Kj s 3):Int)],V0 (Xn Nc s)]) w):=by
 refine zin 26 Tryz.func175 ?_
 refine xa 2 [V0 0,V0 0,V0 0,V0 0] 280 fun b1 W1 n1=>?_
 refine xc 5 (Nf _) ?_
 rintro _ W2 ⟨_,rfl,a1,gl,rfl,gg,kl⟩
 refine xc 1 (Lb Nc s (S1 gl) 4 _ Zet Do M0 (kl.sl 4 4 Do Do)) ?_
 rintro _ W3 ⟨_,rfl,a2,p5,c5,rfl,h5⟩
 have a3:=(bln n1.below a1).size
 refine xd 8 (.t w.heap.size [280]) ?_
 have a0:=Zb (Zf h5 a3) (Za W3)
 refine xx (.e [0] 1) _ 4 0 1 (Xc (l:=Xs Nc s) (Zg a0) (Ym _ _) (k:=0) Do).1 ?_
 refine xlt (.e [] 2) (.t w.heap.size [280]) (fun V hV=>(Xc (l:=Xs Nc s) (Zg (Zi a0 hV.2 Do)) (Ym _ _) (k:=0) Do).2) ?_
 refine xx (.e [3] 4) _ 4 1 1 (Xc (l:=Xs Nc s) (Zg a0) (Ym _ _) (k:=1) Do).1 ?_
 refine xlt (.e [] 5) (.t w.heap.size [280]) (fun V hV=>(Xc (l:=Xs Nc s) (Zg (Zi a0 hV.2 Do)) (Ym _ _) (k:=1) Do).2) ?_
 refine xx (.e [6] 7) _ 4 2 1 (Xc (l:=Xs Nc s) (Zg a0) (Ym _ _) (k:=2) Do).1 ?_
 refine xlt (.e [] 8) (.t w.heap.size [280]) (fun V hV=>(Xc (l:=Xs Nc s) (Zg (Zi a0 hV.2 Do)) (Ym _ _) (k:=2) Do).2) ?_
 refine xx (.e [9] 10) _ 4 3 1 (Xc (l:=Xs Nc s) (Zg a0) (Ym _ _) (k:=3) Do).1 ?_
 refine xlt (.e [] 11) (.t w.heap.size [280]) (fun V hV=>(Xc (l:=Xs Nc s) (Zg (Zi a0 hV.2 Do)) (Ym _ _) (k:=3) Do).2) ?_
 have k1:=((n1.blk.below a1).below a2).below (Za W3)
 have g1:=n1.ge (B4 w)
 refine ysv (.o [12,13] 14) k1 [V0 (↑((Xs Nc s).getD 0 0):Int),V0 (↑((Xs Nc s).getD 1 0):Int),V0 (↑((Xs Nc s).getD 2 0):Int),V0 (↑((Xs Nc s).getD 3 0):Int)] (.t w.heap.size [280]) fun W4 u4 k4=>⟨(Zt u4 k1 g1 Do),?_⟩
 have hB:=u4.below (bln (bln (bln n1.below a1) a2) (Za W3)) g1
 exact xec (.r [15] 3) k4 (.tuple #[.agg #[V0 (↑((Xs Nc s).getD 0 0):Int),V0 (↑((Xs Nc s).getD 1 0):Int),V0 (↑((Xs Nc s).getD 2 0):Int),V0 (↑((Xs Nc s).getD 3 0):Int)],V0 (Xn Nc s)]) ⟨rfl,hB⟩
theorem Sc(ps:List Ln)(N:List Int)(gl gn:O0)(cl cn n:Nat)(w:World)(hps:Gj ps)(hn:n=ps.length)(hNl:N.length=n)(hP:Sts Zkl w (.slice gl ps.length cl) ps)(hN:Sl w (.slice gn n cn) n (N.map V0))(h:Us ps N n=true) :
  C0 181 #[.slice gl ps.length cl,.slice gn n cn] w (Ret (.string ⟨(Td ps N ps.length).toArray⟩) w):=(Ow ps N gl gn cl cn n w hps hn hNl hP hN).mono (by
 rintro e W q
 rcases q with ⟨q,_⟩|⟨_,rfl,hb⟩
 ·rw[h] at q;cases q
 ·exact⟨rfl,hb⟩)
theorem map_or{b t:Int}(h1:0≤b∧b≤65535)(h2:0≤t∧t≤16777215):IntKind.i64.wrap (↑(BitVec.ofInt 64 (b*16777216) ||| BitVec.ofInt 64 t).toNat:Int)=b*16777216+t:=by
 obtain⟨p,rfl⟩:∃ p:Nat,b=(p:Int):=⟨b.toNat,by omega⟩
 obtain⟨q,rfl⟩:∃ q:Nat,t=(q:Int):=⟨t.toNat,by omega⟩
 have e:((p:Int)*16777216)=((p*16777216:Nat):Int):=by omega
 rw[e,E4,E4,BitVec.toNat_or,E6,E6,E2 M0,E2 M0]
 have h:=Nat.two_pow_add_eq_or_of_lt (i:=24) (b:=q) M0 p
 rw[show(2:Nat) ^ 24*p=p*16777216 by omega] at h
 rw[←h]
 exact(IntWalk.i64_in _ M0).trans M0
theorem Zpb(m:Mp)(w:World)(h1:0≤m.2.1∧m.2.1≤65535)(h2:0≤m.2.2∧m.2.2≤16777215) :
 C0 213 #[V0 m.2.1,V0 m.2.2] w (Ret (.string ⟨(Zrv m).toArray⟩) w):=by
 refine zin 26 Tryz.func213 ?_
 refine xgk 11 [6,7] (show(decide (m.2.1<(0:Int)):Bool)=false from decide_eq_false M0) ?_
 refine xgk 4 [9,10,11] (show(decide (m.2.1≥(65536:Int)):Bool)=false from decide_eq_false M0) ?_
 refine xgk 4 [13,14,15] (show(decide (m.2.2<(0:Int)):Bool)=false from decide_eq_false M0) ?_
 refine xk 5 (show(decide (m.2.2>(16777215:Int)):Bool)=false from decide_eq_false M0) ?_
 refine xc 4 (Dc _) ?_
 rintro _ W4 ⟨_,rfl,a1,gl,rfl,gg,kl⟩
 refine xq 1 (congrArg V0 (show(IntKind.i64.wrap (m.2.1*2 ^ 24):Int)=m.2.1*16777216 from IntWalk.i64_in _ M0)) ?_
 refine xq 1 (congrArg V0 (show(IntKind.i64.wrap (↑(BitVec.ofInt 64 (m.2.1*16777216) ||| BitVec.ofInt 64 m.2.2).toNat:Int):Int)=m.2.1*16777216+m.2.2 from map_or h1 h2)) ?_
 refine xbs 0 1 [V0 (m.2.1*16777216+m.2.2)] 3 fun b5 W5 n5=>?_
 have a0:=kl.below n5.below
 refine xr 0 (Sc Mf [m.2.1*16777216+m.2.2] (S1 gl) (S1 b5) 1 1 1 _ Zkm rfl rfl (a0.sl 1 1 Do Do) (n5.blk.sl 1 1 Do Do) (by unfold Us;rw[show List.range 1=[0] from rfl];simp[inP,Mf,List.getD];omega)) fun W6 a2=>?_
 have hB:=bln (bln a1 n5.below) a2
 exact xe 4 (.string ⟨(Zrv m).toArray⟩) ⟨rfl,hB⟩
theorem Ze1(data n:Int)(d:Dv)(w:World)(h:DevOk data d)(hn:0≤n∧n≤16384) :
 C0 155 #[.agg #[V0 n,V0 d.1.2.1,V0 d.1.2.2.1,V0 d.1.2.2.2]] w (Ret (.string ⟨(Pr n d).toArray⟩) w):=by
 refine zin 14 Tryz.func155 ?_
 refine xa 2 [V0 n,V0 d.1.2.1,V0 d.1.2.2.1,V0 d.1.2.2.2] 280 fun b1 W1 n1=>?_
 refine xd 4 .z ?_
 have k1:=n1.blk.below (Za W1)
 refine xb (.e [1] 2) 0 k1 ?_
 refine xb (.e [3] 4) 1 k1 ?_
 refine xb (.e [5] 6) 2 k1 ?_
 refine xb (.e [7] 8) 3 k1 ?_
 refine xm2 0 0 9 ?_ ?_
 ·refine yc 0 (args:=#[]) .z (Nf _) ?_
  rintro _ W2 ⟨_,rfl,a2,gl,rfl,gg,kl⟩
  refine⟨a2,?_⟩
  refine xbs (.o [] 9) 4 [V0 n,V0 d.1.2.1,V0 d.1.2.2.1,V0 d.1.2.2.2] 3 fun b3 W3 n3=>?_
  have a1:=kl.below n3.below
  refine xr (.o [] 10) (Sc Nc [n,d.1.2.1,d.1.2.2.1,d.1.2.2.2] (S1 gl) (S1 b3) 4 4 4 _ Zet rfl rfl (a1.sl 4 4 Do Do) (n3.blk.sl 4 4 Do Do) (by have a:=h.tx;have b:=h.made;have c:=h.snap;unfold Us;rw[show List.range 4=[0,1,2,3] from rfl];simp[inP,Nc,List.getD];omega)) fun W4 a3=>?_
  have hB:=bln (bln (bln (bln n1.below (Za W1)) a2) n3.below) a3
  exact xe (.r [11] 3) (.string ⟨(Pr n d).toArray⟩) ⟨rfl,hB⟩
 refine xbs 0 4 [V0 n,V0 d.1.2.1,V0 d.1.2.2.1,V0 d.1.2.2.2] 3 fun b5 W5 n5=>?_
 refine yc (.o [] 0) (args:=#[]) .z (Nf _) ?_
 rintro _ W6 ⟨_,rfl,a0,gl,rfl,gg,kl⟩
 refine⟨a0,?_⟩
 have k5:=n5.blk.below a0
 refine xr (.o [] 10) (Sc Nc [n,d.1.2.1,d.1.2.2.1,d.1.2.2.2] (S1 gl) (S1 b5) 4 4 4 _ Zet rfl rfl (kl.sl 4 4 Do Do) (k5.sl 4 4 Do Do) (by have a:=h.tx;have b:=h.made;have c:=h.snap;unfold Us;rw[show List.range 4=[0,1,2,3] from rfl];simp[inP,Nc,List.getD];omega)) fun W7 a4=>?_
 have hB:=bln (bln (bln (bln n1.below (Za W1)) n5.below) a0) a4
 exact xe (.r [11] 3) (.string ⟨(Pr n d).toArray⟩) ⟨rfl,hB⟩
theorem F2_len(L:List Dv):Xj (F2 L)=Si L+Xk 1 L.length+Xk 3 L.length:=by
 have e1:Xj (F1 L)=Xj (Ua L)+Xk 1 (Nb L (Pk L)).length:=Qq _ _
 have e2:Xj (F2 L)=Xj (F1 L)+Xk 3 (Pm L (Hw L)).length:=Qq _ _
 rw[Qk] at e1
 rw[Km] at e2
 rw[Zq2] at e1
 omega
theorem Zdx(x:Nat)(L:List Dv):Mm x L=1+Xj (F2 L)+Qr (Xw x L):=by
 have h:=F2_len L
 have h2:=Fs x L
 unfold Mm Qr
 rw[h2,Xx]
 omega
theorem La{x:Nat}{L:List Dv}{k:Nat}(h:Uk x L≤k):1+Xj (F2 L)+Qr (Xw x L)+2+bmN k≤k:=by
 have a:=Zs7 (m:=Mm x L+2) h
 have b:=Zdx x L
 omega
theorem Za3{L:List Dv}(i:Nat):Xj (Ua (L.take i))≤Xj (Ua L):=by
 have e:Ua L=Ua (L.take i)++Ua (L.drop i):=by rw[←Dt,F9]
 rw[e,Gp];omega
theorem Zo2(p:O0)(c n x k:Nat)(t u v:Int)(Z:List Zv)(w:World)(hZ:Z.length=n)(hP:DevsR w p c Z)(hk:PoolOk t u v (x:Int) (Z.map Prod.fst))(h1:Uk x (Z.map Prod.fst)≤k)(h2:k≤14400) :
 C0 52 #[.agg #[V0 t,V0 u,V0 v,V0 (x:Int),.slice p n c],V0 (k:Int)] w (Ret (.bool true) w):=by
 have a1:1≤Uk x (Z.map Prod.fst):=by unfold Uk Zin;omega
 obtain⟨m,hm⟩:∃ y,Uk x (Z.map Prod.fst)=y:=⟨_,rfl⟩
 rw[hm] at h1 a1
 refine zin 19 Tryz.func52 ?_
 refine xa 2 [V0 t,V0 u,V0 v,V0 (x:Int),.slice p n c] 48 fun b1 W1 n1=>?_
 refine xlv 5 n1.blk.rp ?_
 refine xr 0 (by have q:=Iw p c n x t u v Z _ hZ (hP.below n1.below) hk;rw[hm] at q;exact q) fun W2 a2=>?_
 refine xgk 8 [9,10] (show(decide ((m:Int)>(0:Int)):Bool)=true from decide_eq_true M0) ?_
 refine xgk 5 [13,14,15] (show(decide ((k:Int)≥(m:Int)):Bool)=true from decide_eq_true M0) ?_
 have a0:=bln n1.below a2
 exact xe 7 (.bool (decide ((k:Int)≤(14400:Int)))) ⟨by rw[decide_eq_true M0],a0⟩
theorem Zoh(p:O0)(c n x k:Nat)(t u v:Int)(Z:List Zv)(w:World)(hZ:Z.length=n)(hP:DevsR w p c Z)(hk:PoolOk t u v (x:Int) (Z.map Prod.fst))(h1:k<Uk x (Z.map Prod.fst)) :
 C0 52 #[.agg #[V0 t,V0 u,V0 v,V0 (x:Int),.slice p n c],V0 (k:Int)] w (Ret (.bool false) w):=by
 have a1:1≤Uk x (Z.map Prod.fst):=by unfold Uk Zin;omega
 obtain⟨m,hm⟩:∃ y,Uk x (Z.map Prod.fst)=y:=⟨_,rfl⟩
 rw[hm] at h1 a1
 refine zin 19 Tryz.func52 ?_
 refine xa 2 [V0 t,V0 u,V0 v,V0 (x:Int),.slice p n c] 48 fun b1 W1 n1=>?_
 refine xlv 5 n1.blk.rp ?_
 refine xr 0 (by have q:=Iw p c n x t u v Z _ hZ (hP.below n1.below) hk;rw[hm] at q;exact q) fun W2 a2=>?_
 refine xgk 8 [9,10] (show(decide ((m:Int)>(0:Int)):Bool)=true from decide_eq_true M0) ?_
 refine xgk 5 [13,14,15] (show(decide ((k:Int)≥(m:Int)):Bool)=false from decide_eq_false M0) ?_
 have a0:=bln n1.below a2
 exact xe 7 (.bool false) ⟨rfl,a0⟩
theorem Hk(w:World) :
 C0 54 #[.nilIface] w (Ret (.tuple #[]) w):=by
 refine zin 7 Tryz.func54 ?_
 exact xe 8 (.tuple #[]) ⟨rfl,(B4 w)⟩
theorem Zej(B ba b g nn cc:Nat)(pa:O0)(ca N:Nat)(bs:Bl)(F:List Jo)(t:Int)(a:O0)(c n:Nat)(l:List Ent)(w:World)(hl:l.length=n)(hC:AlC B ba nn cc ca 1 N)(hA:AlF B ba b g nn cc pa ca N bs F w)(hok:Lh (t,l))(hr:Xj (F++[(t,l)])≤N)(hin:∀ W,Below B w W→Ze [200,5,28] w W→Sl W (.slice a n c) n (l.flatMap Kd))(hBw:B≤w.heap.size) :
 C0 152 #[.agg #[P0 ba],V0 t,.slice a n c] w ((fun e w'=>e=.returned (V0 (↑(Xj (F++[(t,l)])):Int))∧Below B w w'∧Ze [200,5,28] w w'∧AlF B ba b g nn cc pa ca N bs (F++[(t,l)]) w')):=by
 refine zin 20 Tryz.func152 ?_
 refine xa 2 [P0 ba] 115 fun b1 W1 n1=>?_
 refine xb 6 0 n1.blk ?_
 have hB:=blB (Below.refl B w) hBw n1.below
 have hO:=(show Ze [200,5,28] w _ from(Q0 n1.below))
 have a4:=hA.below n1.below
 refine xc 2 (build_F B ba b g nn cc pa ca N bs F t a c n l _ hl hC a4 hok hr (fun W h1 h2=>hin W (hB.trans h1) (hO.trans h2)) (N0 hBw hB.size)) ?_
 rintro _ W2 ⟨rfl,a6,a5,a7,hA⟩
 refine xr 10 (Hk _) fun W3 a3=>?_
 have a1:=blB (hB.trans a6) hBw a3
 have a0:=(hO.trans a5).trans (Q0 a3)
 have a2:=hA.below a3
 exact xe 9 (V0 (↑(Xj (F++[(t,l)])):Int)) ⟨rfl,a1,a0,a2⟩
theorem lay_maps(p:O0)(c:Nat)(data:Int)(m:List Mp)(w:World)(h:Sts Cu w (.slice p m.length c) m)(hok:MapsOk data m)(hd:data≤65536)(hf:m.length≤16384) :
 C0 153 #[.slice p m.length c] w (Kc (fun w' r=>∃ q d,r=.slice q m.length d∧w'.ownsRow w.heap.size 132 3 (.slice q m.length d) m.length ((Hy m).flatMap Kd)) w):=by
 have b7:=Sl.len h
 refine zin 25 Tryz.func153 ?_
 have hB:=Below.refl w.heap.size w
 refine zl 19 25 (fun zm b2 V=>∃ (k:Nat) (p1:O0) (c1:Nat),b2=[(2,S0),(3,.slice p1 k c1),(6,.slice p m.length c),(7,V0 (m.length:Int)),(8,V0 (k:Int))]∧zm=m.length-((k:Int)).toNat∧B3 w V∧V.ownsRow w.heap.size 132 3 (.slice p1 k c1) k (((Hy m).take k).flatMap Kd)∧k≤m.length) ⟨0,none,0,rfl,rfl,hB,A5 _ _ _ _,A3 _⟩ ?_
 rintro _ _ W1 ⟨k,p1,c1,rfl,rfl,a0,hl,hk⟩ J1 b0 r1
 refine xid 6 ((k:Int)<(m.length:Int)) (fun b1=>?_) (fun b1=>?_)
 ·have b8:=hok.each (m.getD k mpD) (Zwv _ M0)
  refine xx 6 _ m.length k 3 (Sts.cell h Gx mpD (k:=k) (i:=0) M0 rfl).1 ?_
  refine xlv 0 (Sts.rp (k:=k) (h.below a0) Gx mpD M0 Do) ?_
  refine xa 0 [V0 0,V0 0,V0 0] 159 fun b3 W3 n3=>?_
  have g3:=n3.ge a0
  refine xsv 0 n3.blk [V0 ((m.getD k mpD).1),V0 ((m.getD k mpD).2.1),V0 ((m.getD k mpD).2.2)] fun W4 u4 k4=>?_
  refine xd 2 (.t w.heap.size [132]) ?_
  have a1:=k4.below (Za W4)
  refine xbt (.e [0,1] 2) 0 w.heap.size [132] a1 ?_
  refine xbt (.e [3] 4) 1 w.heap.size [132] a1 ?_
  refine xbt (.e [5] 6) 2 w.heap.size [132] a1 ?_
  refine xr (.o [] 7) (Zpb (m.getD k mpD) _ ⟨by omega,by omega⟩ ⟨by omega,by omega⟩) fun W5 a7=>?_
  refine xbs (.o [8] 9) 1 [V0 ((m.getD k mpD).1),.string ⟨(Zrv (m.getD k mpD)).toArray⟩,V0 0] 132 fun b6 W6 n6=>?_
  have a3:=bln (bln (u4.below (bln a0 n3.below) g3) (Za W4)) a7
  have g6:=n6.ge a3
  have a2:=Zb (Zb (u4.own2 (Zb hl n3.below) n3.blk Do) (Za W4)) a7
  have a9:=Zu a2 n6
  have a4:=Zb a2 n6.below
  have a5:=bln a3 n6.below
  refine ybi (.o [] 10) (.t w.heap.size [132]) fun _ _ _ _ zJ zQ zo zx zy zK=>Xi (m:=1) (news:=[V0 ((m.getD k mpD).1),.string ⟨(Zrv (m.getD k mpD)).toArray⟩,V0 0]) (.agg #[V0 0,.string ⟨#[]⟩,V0 0]) 3 32 (k+1) ((((Hy m).take (k+1)).flatMap Kd)) zo Tryz.underlying123 K0 rfl Do zx a4 zy (n6.blk.sl 1 1 Do Do) rfl (by simp[Value.oneCell']) (by unfold maxLen;omega) M0 a5.size (by rfl) (by exact Zke (by rw[Hb];omega) (Nl M0)) fun b9 b5 W7 o7 b4 a8=>?_
  refine zK _ _ (Yk a8 b4 a4 Do) ?_
  refine xwm (.r [11] 4) ((k:Int)+1) (↑(k+1):Int) ?_
  have a6:=a5.trans a8
  exact ze 2 (b0 _ _ _ ⟨k+1,_,_,rfl,rfl,a6,o7,by omega⟩ M0)
 exact xe 12 (.slice p1 k c1) (by obtain rfl:k=m.length:=M0;have q:=hl;rw[C1 (by rw[Hb];omega)] at q;exact⟨_,rfl,a0,_,_,rfl,q⟩)
theorem Sm(B ba b g cc:Nat)(pa:O0)(ca f N k n:Nat)(bs:Bl)(w:World)(hA:Al B ba b g (n*256) cc pa ca f N k bs w)(hk:k+1≤n)(hn:n≤14400) :
 C0 99 #[.agg #[P0 ba]] w (Kc (fun w' r=>∃ q d,r=.slice (some q) n d∧w'.ownsRow w.heap.size 3 1 (.slice (some q) n d) n ((Xt (k+1) n).map V0)) w):=by
 refine zin 22 Tryz.func99 ?_
 refine xa 2 [P0 ba] 115 fun b1 W1 n1=>?_
 refine xb 6 0 n1.blk ?_
 refine xr 0 (args:=#[P0 ba]) (Vt ba b _ _ _ (hA.blkA.below n1.below)) fun W2 b3=>?_
 have a4:=bln n1.below b3
 refine xr 0 (args:=#[P0 b]) (by have q:=Yz b _ (n*256) _ _ (hA.blkI.below a4) M0;rw[show n*256/256=n by omega] at q;exact q) fun W3 b2=>?_
 refine xmk 0 fun _ _ _ _ zJ zQ zo zx zy zK=>Gl n (V0 0) 1 8 ((Xt 0 n).map V0) zo zx zy Tryz.underlying34 K0 rfl M0 M0 ((Zu9 n)) fun b4 W4 n4=>?_
 have a5:=bln a4 b2
 have g4:=n4.ge a5
 refine zK _ _ ?_
 have a3:=((n1.blk.below b3).below b2).below n4.below
 refine xb 7 0 a3 ?_
 have a6:=bln a5 n4.below
 refine xr 0 (args:=#[P0 ba]) (Zrq ba b _ k _ (hA.blkA.below a6)) fun W5 a8=>?_
 refine xwm 0 ((k:Int)+1) (↑(k+1):Int) ?_
 have o4:=Zb (Yd (size:=1) (n:=n) n4.blk g4 (by rw[A6,Zr,G4]) (by unfold maxLen;omega)) a8
 have b0:=bln a6 a8
 have a7:=a3.below a8
 refine zl 4 22 (fun zm b5 V=>∃ (i:Nat),b5=[(2,S0),(3,.slice (S1 b4) n n),(13,V0 (↑(k+1):Int)),(14,V0 (i:Int))]∧zm=(k+1)-((i:Int)).toNat∧B3 w V∧Blk V b1 ([P0 ba]) 115∧V.ownsRow w.heap.size 3 1 (.slice (S1 b4) n n) n ((Xt i n).map V0)∧i≤k+1) ⟨0,rfl,rfl,b0,a7,o4,A3 _⟩ ?_
 rintro _ _ W6 ⟨i,rfl,rfl,a2,a1,ho,hi⟩ J6 b7 r6
 refine xid 6 ((i:Int)<(↑(k+1):Int)) (fun b6=>?_) (fun b6=>?_)
 ·refine xx 13 _ n i 1 (show(some (⟨b4,0,none⟩:Addr)).isSome=true from rfl) ?_
  refine xst 0 fun _ _ _ _ zJ zQ zo zx zy zK=>Gd (t:=3) (k:=i) (v:=V0 1) zo zx zy K0 rfl ho M0 fun W8 u8 o8=>?_
  rw[self_set (i:=i) (n:=n) M0] at o8
  refine zK _ _ ?_
  refine xwm 4 ((i:Int)+1) (↑(i+1):Int) ?_
  have a9:=u8.below a2 (De ho)
  have a0:=u8.blk a1 (Me a1 ho Do)
  exact ze 2 (b7 _ _ _ ⟨i+1,rfl,rfl,a9,a0,o8,by omega⟩ M0)
 exact xe 12 (.slice (S1 b4) n n) (by obtain rfl:i=k+1:=M0;exact⟨_,rfl,a2,_,_,rfl,ho⟩)
theorem Zox(B ba b g nn cc:Nat)(pa:O0)(ca f N k0:Nat)(bs:Bl)(bl B2:Nat)(pl:O0)(cl:Nat)(gs:List (Nat×Nat))(L:List (List Int))(n:Nat)(hn:L.length=n)(w:World)(hC:AlC B ba nn cc ca f N)(hA:Al B ba b g nn cc pa ca f N k0 bs w)(hL:Lists w B2 (.slice pl n cl) gs L)(hS:∀ i,i<L.length→Ui (L.getD i [])∧(L.getD i []).length≤960)(hf1:1≤f)(hk:k0+n≤N)(kl:Blk w bl [S0] 140)(hBl:B≤bl)(hBw:B≤w.heap.size) :
 C0 158 #[P0 ba,.slice pl n cl,.func (.func 163) #[] #[P0 bl]] w (fun e w'=>∃ p c,e=.returned .nilIface∧Below B w w'∧Ze [200,5,140,134] w w'∧Fr ([ba,g]++[bl]) w w'∧Al B ba b g nn cc pa ca f N (k0+n) (Xy L (f+k0) bs n) w'∧Blk w' bl [.slice p n c] 140∧w'.ownsRow w.heap.size 134 3 (.slice p n c) n (rsL L (f+k0) n)):=by
 subst hn;exact Zuo B ba b g nn cc pa ca f N k0 bs bl B2 pl cl gs L w hC hA hL hS hf1 hk kl hBl hBw
def MetaP(B ba b g nn cc:Nat)(pa:O0)(ca f N k0:Nat)(bs:Bl)(l:List Int)(w:World)(e:Ending)(w':World):Prop :=
 e=.returned (.tuple #[V0 (Vo l f k0 bs).1,V0 (Vo l f k0 bs).2.1,.nilIface])∧Below B w w'∧Ze [200,5,140,134,28] w w'∧Fr [ba,g] w w'∧Al B ba b g nn cc pa ca f N (k0+Yf l) (Vo l f k0 bs).2.2 w'
theorem Rp(B ba b g nn cc:Nat)(pa:O0)(ca f N k0:Nat)(bs:Bl)(a:Addr)(c:Nat)(l:List Int)(w:World)(hC:AlC B ba nn cc ca f N)(hA:Al B ba b g nn cc pa ca f N k0 bs w)(h:Sl w (.slice (some a) l.length c) l.length (l.map V0))(hl:l.length≤3000)(hlen:l.length=nn/256)(hs:Jr l=0)(hkN:k0≤N)(hk:k0+Yf l≤N)(hf1:1≤f)(hfree2:Zcv l ((f+k0:Nat):Int))(hBw:B≤w.heap.size) :
 C0 98 #[P0 ba,.slice (some a) l.length c] w (MetaP B ba b g nn cc pa ca f N k0 bs l w):=by
 have hW:Sin w w:=⟨Below.refl _ _⟩
 have j2:=hC.hf
 have j3:=hC.hn
 have g6:=Pe hs
 have j7:=Pf l l.length
 have j6:Yf l=(Xk 5 (Zp l l.length).length)+(bmN l.length)+1:=rfl
 have k7:=Ws 5 (Zp l l.length).length
 have i8:bmN l.length≤4:=by unfold bmN;omega
 have i2:Jr (Qx l (f+k0) (Yf l))=0:=by unfold Jr;rw[if_neg (by rw[Qa];omega),if_pos (Ig hfree2 g6.2)]
 have g8:=Tc (Ig (n:=Yf l) hfree2 g6.2) (bmN l.length)
 refine zin 120 Tryz.func98 ?_
 refine xr 10 (args:=#[P0 ba]) (Vt ba b _ _ _ (hA.below hW.b).blkA) fun W1 b1=>?_
 have d5:=hW.below b1
 refine xr 19 (args:=#[P0 b]) (Yz b _ nn cc _ (hA.below d5.b).blkI M0) fun W2 a5=>?_
 refine xk 3 (show(((l.length:Int) != (↑(nn/256):Int)):Bool)=false from by rw[hlen];simp) ?_
 have d2:=d5.below a5
 refine xc 5 (Sw l.length (some a) c l _ rfl (Sl.below h d2.b) M0 hs) ?_
 rintro _ W3 ⟨i9,j9,i7,po,co,rfl,b8,j4,e0⟩
 have i1:=(blB (blB (Below.refl B w) hBw b1) hBw a5).size
 refine xr 23 (Ka 5 (Zp l l.length).length _ Do Do M0) fun W4 a9=>?_
 refine xr 2 (Ca l.length _ M0) fun W5 b0=>?_
 refine xwm 0 ((↑(Xk 5 (Zp l l.length).length):Int)+(↑(bmN l.length):Int)) (↑((Xk 5 (Zp l l.length).length)+(bmN l.length)):Int) ?_
 refine xwm 0 ((↑((Xk 5 (Zp l l.length).length)+(bmN l.length)):Int)+1) (↑(((Xk 5 (Zp l l.length).length)+(bmN l.length))+1):Int) ?_
 have c6:=((d2.below b8).below a9).below b0
 refine xr 7 (Ro ba b pa N ca k0 _ (hA.below c6.b).blkA hkN) fun W6 a8=>?_
 refine xk 4 (show(decide ((↑(N-k0):Int)<(↑(((Xk 5 (Zp l l.length).length)+(bmN l.length))+1):Int)):Bool)=false from decide_eq_false M0) ?_
 have b6:=c6.below a8
 have i0:=b6.b.size
 refine xc 5 (args:=#[.slice (some a) l.length c]) (Ex a l.length c (l.map V0) _ (Sl.below h b6.b) (by simp) (Zlk _) M0) ?_
 rintro _ W7 ⟨_,rfl,b7,qb,cq,rfl,g3⟩
 have k3:=(blB (blB (blB (blB (blB (blB (Below.refl B w) hBw b1) hBw a5) hBw b8) hBw a9) hBw b0) hBw a8).size
 have a0:=Zf g3 i0
 have a7:=b6.below b7
 have h9:=a7.b.size
 have e6:=a0
 refine xc 8 (Zio (Yf l) B ba b g nn cc pa ca f N k0 bs _ hC (hA.below a7.b) hkN M0 M0 M0) ?_
 rintro _ W8 ⟨_,rfl,b9,qa,g7,rfl,d7⟩
 have k6:=(blB (blB (blB (blB (blB (blB (blB (Below.refl B w) hBw b1) hBw a5) hBw b8) hBw a9) hBw b0) hBw a8) hBw b7).size
 have h3:=Po.of_lt e6 d7 (At _)
 have c1:=Zf d7 h9
 have a3:=Zb a0 b9
 obtain⟨gb,rfl,i4⟩:=Mb a3 M0
 have d4:=Zb (Zb (Zb (Zb (Zb (Zf e0 i1) a9) b0) a8) b7) b9
 have g0:=a7.below b9
 have hB:=blB (blB (blB (blB (blB (blB (blB (blB (Below.refl B w) hBw b1) hBw a5) hBw b8) hBw a9) hBw b0) hBw a8) hBw b7) hBw b9
 have hX:=(((((((show Fr [ba,g] w _ from(Q2 b1)).trans (Q2 a5)).trans (Q2 b8)).trans (Q2 a9)).trans (Q2 b0)).trans (Q2 a8)).trans (Q2 b7)).trans (Q2 b9)
 have hO:=(((((((show Ze [200,5,140,134,28] w _ from(Q0 b1)).trans (Q0 a5)).trans (Q0 b8)).trans (Q0 a9)).trans (Q0 b0)).trans (Q0 a8)).trans (Q0 b7)).trans (Q0 b9)
 refine zl 5 120 (fun zm h7 V=>∃ (i:Nat),h7=[(0,P0 ba),(4,V0 0),(5,V0 0),(6,.nilIface),(9,.slice po ((Zp l l.length).length) co),(10,V0 0),(12,.slice (S1 gb) l.length cq),(61,.slice qa (Yf l) g7),(62,V0 (↑(Yf l):Int)),(63,V0 (i:Int))]∧zm=Yf l-((i:Int)).toNat∧Below B w V∧Fr [ba,g] w V∧Ze [200,5,140,134,28] w V∧V.ownsRow w.heap.size 3 1 (.slice (S1 gb) l.length cq) l.length ((Qx l (f+k0) i).map V0)∧V.ownsRow w.heap.size 3 1 (.slice qa (Yf l) g7) (Yf l) ((((Zdg f N).drop k0).take (Yf l)).map V0)∧V.ownsRow w.heap.size 132 3 (.slice po ((Zp l l.length).length) co) ((Zp l l.length).length) ((Zp l l.length).flatMap Kd)∧Sin w V∧i≤Yf l) ⟨0,rfl,rfl,hB,hX,hO,(by rw[Zn9];exact a3),c1,d4,g0,A3 _⟩ ?_
 rintro _ _ W9 ⟨i,rfl,rfl,b3,c5,c4,a0,c1,e0,hW,hi⟩ J9 h5 r9
 have i6:i<Yf l→l.getD (f+k0+i) 0=0:=fun q=>(hfree2 (f+k0+i) M0).1 M0
 refine xid 6 ((i:Int)<(↑(Yf l):Int)) (fun g5=>?_) (fun g5=>?_)
 ·refine xx 6 _ (Yf l) i 1 (Zdz (Zg c1) M0 (i:=i) M0).1 ?_
  refine xl 0 ((Zdz (Zg c1) M0 (i:=i) M0).2) ?_
  refine xx 6 _ l.length (f+k0+i) 1 (Zaj (Zg a0) rfl (q:=f+k0) (i:=i) M0).1 ?_
  refine xl 0 ((Zaj (Zg a0) rfl (q:=f+k0) (i:=i) M0).2) ?_
  refine xw 0 ((l.getD (f+k0+i) 0)+1) ?_
  refine xx 0 _ l.length (f+k0+i) 1 (Zaj (Zg a0) rfl (q:=f+k0) (i:=i) M0).1 ?_
  refine xst 0 fun _ _ _ _ zJ zQ zo zx zy zK=>Gd (t:=3) (k:=(f+k0+i)) (v:=V0 ((l.getD (f+k0+i) 0)+1)) zo zx zy K0 rfl a0 M0 fun k1 c0 h1=>?_
  rw[Zso (l:=l) (f:=f+k0) (j:=i) M0] at h1
  refine zK _ _ ?_
  refine xwm 4 ((i:Int)+1) (↑(i+1):Int) ?_
  have e9:=c0.below b3 (N0 hBw (De a0))
  have f8:=(Fr.upd_new c5 c0 (De a0))
  have f6:=(Ze.upd_new c4 c0 (De a0))
  have c2:=c0.own3 c1 (fun j hj e=>h3 _ rfl (e▸hj))
  have c9:=c0.ownRow e0 a0 Do
  have f4:=hW.upd c0 (De a0)
  exact ze 2 (h5 _ _ _ ⟨i+1,rfl,rfl,e9,f8,f6,h1,c2,c9,f4,by omega⟩ M0)
 refine xc 9 (args:=#[P0 ba,V0 5,.slice po ((Zp l l.length).length) co]) (Mq B ba b g nn cc pa ca f N k0 bs 5 po co (Zp l l.length) (Zp l l.length).length _ rfl hC (hA.below hW.b) Do Do (Vl _ _ M0) M0 hf1 M0 M0 (fun W _ h2=>Zg (Zi e0 h2 Do)) (N0 hBw b3.size)) ?_
 rintro _ j1 ⟨rfl,f7,d6,e7,b2⟩
 have d9:=Zi a0 d6 Do
 refine xc 20 (args:=#[.slice (S1 gb) l.length cq]) (Sw l.length (S1 gb) cq (Qx l (f+k0) (Yf l)) _ (Qa _ _ _) (by have hh:=Zg d9;rw[show i=Yf l by omega] at hh;exact hh) M0 i2) ?_
 rintro _ j0 ⟨pb,cb,gs,j8,k2,rfl,a1,hL,h4⟩
 refine xa 21 [S0] 140 fun g9 k5 a4=>?_
 have a6:=blB (b3.trans f7) hBw a1
 have h0:=a4.ge0 a6
 have c3:=(b2.below a1).below a4.below
 have f3:=hL.below a4.below
 have b4:=blB a6 hBw a4.below
 refine xc 8 (args:=#[P0 ba,.slice pb (bmN l.length) cb,.func (.func 163) #[] #[P0 g9]]) (Zox B ba b g nn cc pa ca f N (k0+(Xk 5 (Zp l l.length).length)) (Zz 5 (Zp l l.length) (f+k0) bs).2 g9 _ pb cb gs (Xa (Zl (Qx l (f+k0) (Yf l))) (bmN l.length)) (bmN l.length) (Wq _ _) _ hC c3 f3 g8 hf1 M0 a4.blk (N0 hBw h0) (N0 hBw b4.size)) ?_
 rintro _ j5 ⟨p8,c8,rfl,d1,e8,f1,b2,h8,h6⟩
 have g1:=(blB a6 hBw a4.below).size
 refine xb 14 0 h8 ?_
 have d3:=Zf h6 g1
 refine xc 0 (args:=#[.slice p8 (bmN l.length) c8]) (Zqk (bmN l.length) p8 c8 (Rs (Xa (Zl (Qx l (f+k0) (Yf l))) (bmN l.length)) (f+(k0+(Xk 5 (Zp l l.length).length))) (bmN l.length)) _ (Cb _ _ _) (rs_ok g8 (Wq _ _) M0 M0 M0) (Rs_sts (Zg d3))) ?_
 rintro _ i5 ⟨_,rfl,a2,pz,cz,rfl,i3⟩
 have e5:=(b4.trans d1).size
 have c7:=b2.below a2
 have b5:=((((c4.trans (d6.wide)).trans (Q0 a1)).trans (Q0 a4.below)).trans (e8.wide)).trans (Q0 a2)
 have d8:=Zf i3 e5
 have d0:=blB (b4.trans d1) hBw a2
 refine xc 21 (args:=#[P0 ba,V0 4,.slice pz 244 cz]) (Cs B ba b g nn cc pa ca f N (k0+(Xk 5 (Zp l l.length).length)+(bmN l.length)) (Xy (Xa (Zl (Qx l (f+k0) (Yf l))) (bmN l.length)) (f+(k0+(Xk 5 (Zp l l.length).length))) (Zz 5 (Zp l l.length) (f+k0) bs).2 (bmN l.length)) 4 pz cz (Ei (Rs (Xa (Zl (Qx l (f+k0) (Yf l))) (bmN l.length)) (f+(k0+(Xk 5 (Zp l l.length).length))) (bmN l.length))) (f+(k0+(Xk 5 (Zp l l.length).length)+(bmN l.length))) 244 _ rfl (Mu (by rw[Cb];omega)) hC c7 M0 Do Do (fun W _ b5=>Vc (Zg (Zi d8 b5 Do)) (Mu (by rw[Cb];omega))) Do (N0 hBw d0.size)) ?_
 rintro _ k4 ⟨rfl,e4,f5,f0,b2⟩
 have g2:=d0.trans e4
 have f9:=b5.trans (f5.wide)
 have f2:=((Fr.trans_new (((c5.trans (e7.mono (by simp))).trans (Q2 a1)).trans (Q2 a4.below)) f1 h0).trans (Q2 a2)).trans (f0.mono (by simp))
 refine xe 27 (.tuple #[V0 (↑(f+(k0+(Xk 5 (Zp l l.length).length)+(bmN l.length))):Int),V0 ((Zz 5 (Zp l l.length) (f+k0) bs).1),.nilIface]) ?_
 have e1:f+(k0+(Xk 5 (Zp l l.length).length)+(bmN l.length))=f+k0+(Xk 5 (Zp l l.length).length)+(bmN l.length):=by omega
 have e2:f+(k0+(Xk 5 (Zp l l.length).length))=f+k0+(Xk 5 (Zp l l.length).length):=by omega
 rw[e1,e2] at b2
 rw[e1]
 have e3:k0+(Xk 5 (Zp l l.length).length)+(bmN l.length)+1=k0+Yf l:=by omega
 rw[e3] at b2
 refine⟨?_,g2,f9,f2,?_⟩
 ·unfold Vo;rw[Zm4]
 ·unfold Vo;rw[Zm4];exact b2
theorem dvs_getZ{Z:List Zv}{L:List Dv}(hL:Z.map Prod.fst=L){i:Nat}(h:i<Z.length):L.getD i dvD=(Z.getD i zvD).1:=by rw[←hL];exact zfst h _
theorem F1_le(L:List Dv):Xj (Ua L)+1≤Xj (F1 L)∧Xj (F1 L)+1≤Xj (F2 L):=by
 have e1:Xj (F1 L)=Xj (Ua L)+Ve (1,Nb L (Pk L)):=Qq _ _
 have e2:Xj (F2 L)=Xj (F1 L)+Ve (3,Pm L (Hw L)):=Qq _ _
 have:=Ww (1,Nb L (Pk L))
 have:=Ww (3,Pm L (Hw L))
 omega
theorem Eg(B ba b g nn cc:Nat)(pa:O0)(ca N:Nat)(bs:Bl)(p:O0)(c n:Nat)(data:Int)(Z:List Zv)(L:List Dv)(w:World)(hZ:Z.length=n)(hL:Z.map Prod.fst=L)(hD:DevsOk data L)(hd:data≤65536)(hP:∀ W,Below B w W→DevsR W p c Z)(hC:AlC B ba nn cc ca 1 N)(hA:AlF B ba b g nn cc pa ca N bs [] w)(hr:Xj (F2 L)≤N)(hBw:B≤w.heap.size) :
 C0 96 #[.agg #[P0 ba],.slice p n c] w ((fun e w'=>e=.returned (.tuple #[V0 (↑(Xj (F1 L)):Int),V0 (↑(Xj (F2 L)):Int)])∧Below B w w'∧Ze [200,5,28,132] w w'∧AlF B ba b g nn cc pa ca N bs (F2 L) w')):=by
 have i2:∀ W,Below B w W→Ze [200,5,28,132] w W→DevsR W p c Z:=fun W h _=>hP W h
 have l6:L.length=n:=by rw[←hL,A6];exact hZ
 have k1:=F1_le L
 have j7:=hD.few
 have l3:N≤14400:=by have a:=hC.hf;have b:=hC.hn;omega
 have k2:=Sl.len ((hP w (Below.refl _ _)).rowN hZ)
 refine zin 58 Tryz.func96 ?_
 refine xa 2 [P0 ba] 115 fun b1 W1 n1=>?_
 have g7:=hA.below n1.below
 have hB:=blB (Below.refl B w) hBw n1.below
 have hO:=(show Ze [200,5,28,132] w _ from(Q0 n1.below))
 refine zl 19 58 (fun zm j1 V=>∃ (i:Nat) (p7:O0) (c7:Nat) (p8:O0) (c8:Nat),j1=[(2,P0 b1),(4,V0 0),(5,V0 0),(6,.slice p7 i c7),(7,.slice p8 i c8),(13,.slice p n c),(14,V0 (n:Int)),(15,V0 (i:Int))]∧zm=n-((i:Int)).toNat∧Below B w V∧Ze [200,5,28,132] w V∧Blk V b1 ([P0 ba]) 115∧V.ownsRow w.heap.size 132 3 (.slice p7 i c7) i (((Nb L (Pk L)).take i).flatMap Kd)∧V.ownsRow w.heap.size 132 3 (.slice p8 i c8) i (((Pm L (Hw L)).take i).flatMap Kd)∧AlF B ba b g nn cc pa ca N bs (Ua (L.take i)) V∧i≤n∧Po (.slice p7 i c7) (.slice p8 i c8)) ⟨0,none,0,none,0,rfl,rfl,hB,hO,n1.blk,A5 _ _ _ _,A5 _ _ _ _,g7,A3 _,Po.nil _⟩ ?_
 rintro _ _ W2 ⟨i,p7,c7,p8,c8,rfl,rfl,a4,d2,b3,d9,d8,hA,hi,d4⟩ J2 i5 r2
 refine xid 6 ((i:Int)<(n:Int)) (fun i7=>?_) (fun i7=>?_)
 ·have e0:=dvs_getZ hL (i:=i) M0
  have j8:=Znm (L:=L) (i:=i) M0
  rw[e0] at j8
  have j4:=hD.sum
  have e9:=(hD.each (L.getD i dvD) (Zwv _ M0)).maps
  have f5:=hD.each (L.getD i dvD) (Zwv _ M0)
  rw[e0] at e9 f5
  have i1:Ua (L.take i)++[(2,Hy (Z.getD i zvD).1.2)]=Ua (L.take (i+1)):=by rw[Zag M0,e0]
  have i9:Lh (2,Hy (Z.getD i zvD).1.2):=by rw[←e0];exact Znq hD M0
  have l5:=Zwk (L:=L) (i:=i) M0
  have k4:=Za3 (L:=L) (i+1)
  refine xx 6 _ n i 5 ((hP _ (Below.refl _ _)).someN hZ (i:=i) M0) ?_
  refine xlv 0 (Sts.rp (k:=i) (i2 _ a4 d2).row Gu zvD M0 Do) ?_
  refine xa 0 [V0 0,V0 0,V0 0,V0 0,S0] 95 fun b4 W4 n4=>?_
  have g4:=n4.ge0 a4
  refine xsv 0 n4.blk [V0 ((Z.getD i zvD).1.1.1),V0 ((Z.getD i zvD).1.1.2.1),V0 ((Z.getD i zvD).1.1.2.2.1),V0 ((Z.getD i zvD).1.1.2.2.2),.slice ((Z.getD i zvD).2.1) ((Z.getD i zvD).1.2.length) ((Z.getD i zvD).2.2)] fun W5 u5 k5=>?_
  refine xd 3 (.t B [200,5,28,132]) ?_
  have a2:=(u5.blkT (b3.below n4.below) n4.blk Do).below (Za W5)
  refine Zun (.e [] 0) (.t B [200,5,28,132]) (fun V hV=>(a2.only hV.2 Do).rp) ?_
  have f0:=k5.below (Za W5)
  refine xbt (.e [1] 2) 4 B [200,5,28,132] f0 ?_
  have e8:=(Ze.upd_new (d2.trans (Q0 n4.below)) u5 g4).trans (Q0 (Za W5))
  have e3:=blB (u5.below (blB a4 hBw n4.below) (N0 hBw g4)) hBw (Za W5)
  refine yc (.o [] 3) (.t B [200,5,28,132]) (lay_maps (Z.getD i zvD).2.1 (Z.getD i zvD).2.2 data (Z.getD i zvD).1.2 _ ((i2 _ e3 e8).each i M0) e9 hd M0) ?_
  rintro _ W6 ⟨_,rfl,c9,ql,dl,rfl,j5⟩
  have j3:=(blB (u5.below (blB a4 hBw n4.below) (N0 hBw g4)) hBw (Za W5)).size
  refine⟨(Q3 _ c9),?_⟩
  have c5:=Zf j5 j3
  have g8:=(((hA.below n4.below).only (Q1 (T:=[95]) u5 n4.blk Do) Do).below (Za W5)).below c9
  have e6:=blB e3 hBw c9
  refine yc (.o [] 4) (.t B [200,5,28,132]) (by have q:=Zej B ba b g nn cc pa ca N bs (Ua (L.take i)) 2 ql dl (Z.getD i zvD).1.2.length (Hy (Z.getD i zvD).1.2) _ (by rw[Hb]) hC g8 (i9) (by rw[i1];have:=Za3 (L:=L) (i+1);omega) (fun W _ h2=>Zg (Zi c5 h2 Do)) (N0 hBw e6.size);rw[i1] at q;exact q) ?_
  rintro _ W7 ⟨rfl,h9,d1,hA⟩
  refine⟨(Ux h9 d1),?_⟩
  refine xd (.r [5] 3) (.t B [132]) ?_
  have e1:=((f0.below c9).only d1 Do).below (Za W7)
  refine xbt (.e [0,1] 2) 0 B [132] e1 ?_
  refine xr (.o [3] 4) (Zdw (↑(Xj (Ua (L.take (i+1)))):Int) M0 M0 _) fun W8 c6=>?_
  refine xbs (.o [5] 6) 1 [V0 ((Z.getD i zvD).1.1.1),.string ⟨(leB (↑(Xj (Ua (L.take (i+1)))):Int) 4).toArray⟩,V0 0] 132 fun b9 W9 n9=>?_
  have f7:=blB (blB (e6.trans h9) hBw (Za W7)) hBw c6
  have g9:=n9.ge0 f7
  have a8:=Zb (Zb (Zi (Zb (Zb (u5.own2 (Zb d9 n4.below) n4.blk Do) (Za W5)) c9) d1 Do) (Za W7)) c6
  have g2:=Zu a8 n9
  have a7:=Zb (Zb (Zi (Zb (Zb (u5.own2 (Zb d8 n4.below) n4.blk Do) (Za W5)) c9) d1 Do) (Za W7)) c6
  have g1:=Zu a7 n9
  have f1:=Zb (Zb (Zi c5 d1 Do) (Za W7)) c6
  have h5:=Zu f1 n9
  have a0:=Zb a8 n9.below
  have f2:=blB f7 hBw n9.below
  refine ybi (.o [] 7) (.t B [132]) fun _ _ _ _ zJ zQ zo zx zy zK=>Fa (b:=b9) (c:=1) (m:=1) (news:=[V0 ((Z.getD i zvD).1.1.1),.string ⟨(leB (↑(Xj (Ua (L.take (i+1)))):Int) 4).toArray⟩,V0 0]) (.agg #[V0 0,.string ⟨#[]⟩,V0 0]) 3 32 (i+1) ((((Nb L (Pk L)).take (i+1)).flatMap Kd)) zo Tryz.underlying123 K0 rfl Do zx a0 zy n9.blk rfl (by simp[Value.oneCell']) (by unfold maxLen;omega) M0 f2.size (by rfl) (by have e:=Gz (L:=L) (R:=Pk L) (i:=i) M0;rw[e0] at e;exact Zke (by rw[Qk];omega) e) fun j9 i4 l0 i3 a6 e2 h1=>?_
  have b2:=Zb a7 n9.below
  have b5:=d4.row b2 a6
  replace d4:=(d4.grow b2 h1)
  have b8:=b5
  refine zK _ _ (Yk (e2.mono hBw) a6 a0 Do) ?_
  have a9:=((e1.below c6).below n9.below).grown a6 a0 Do
  refine xb (.r [8] 5) 4 a9 ?_
  refine xb 2 1 a9 ?_
  refine xb 1 2 a9 ?_
  refine xb 1 3 a9 ?_
  refine xa 1 [V0 0,V0 0,V0 0,V0 0] 280 fun k9 k8 a3=>?_
  have f6:=f2.trans (e2.mono hBw)
  have i0:=a3.ge0 f6
  refine xsv 0 a3.blk [V0 (↑((Z.getD i zvD).1.2.length):Int),V0 ((Z.getD i zvD).1.1.2.1),V0 ((Z.getD i zvD).1.1.2.2.1),V0 ((Z.getD i zvD).1.1.2.2.2)] fun c4 d3 j2=>?_
  refine xd 2 (.t B [132]) ?_
  have g5:=(d3.blkT (a9.below a3.below) a3.blk Do).below (Za c4)
  refine xbt (.e [0,1] 2) 0 B [132] g5 ?_
  have f8:=j2.below (Za c4)
  refine Zun (.e [] 3) (.t B [132]) (fun V hV=>(f8.only hV.2 Do).rp) ?_
  refine xr (.o [] 4) (Ze1 data (↑(Z.getD i zvD).1.2.length:Int) (Z.getD i zvD).1 _ f5 ⟨by omega,by omega⟩) fun k3 a5=>?_
  refine xbs (.o [5] 6) 1 [V0 ((Z.getD i zvD).1.1.1),.string ⟨(Pr (↑(Z.getD i zvD).1.2.length:Int) (Z.getD i zvD).1).toArray⟩,V0 0] 132 fun j6 l4 b7=>?_
  have e5:=blB (blB (d3.below (blB f6 hBw a3.below) (N0 hBw i0)) hBw (Za c4)) hBw a5
  have l1:=b7.ge0 e5
  have b0:=Zb (Zb (d3.own2 (Zb b8 a3.below) a3.blk Do) (Za c4)) a5
  have e4:=Zu b0 b7
  have c3:=Zb (Zb (d3.own2 (Zb i3 a3.below) a3.blk Do) (Za c4)) a5
  have g0:=Zu c3 b7
  have a1:=Zb b0 b7.below
  have e7:=blB e5 hBw b7.below
  refine ybi (.o [] 7) (.t B [132]) fun _ _ _ _ zJ zQ zo zx zy zK=>Fa (b:=j6) (c:=1) (m:=1) (news:=[V0 ((Z.getD i zvD).1.1.1),.string ⟨(Pr (↑(Z.getD i zvD).1.2.length:Int) (Z.getD i zvD).1).toArray⟩,V0 0]) (.agg #[V0 0,.string ⟨#[]⟩,V0 0]) 3 32 (i+1) ((((Pm L (Hw L)).take (i+1)).flatMap Kd)) zo Tryz.underlying123 K0 rfl Do zx a1 zy b7.blk rfl (by simp[Value.oneCell']) (by unfold maxLen;omega) M0 e7.size (by rfl) (by have e:=Pb (L:=L) (C:=Hw L) (i:=i) M0;unfold Hw at e;rw[e0] at e;exact Zke (by rw[Km];omega) e) fun j0 i6 k7 i8 b6 f4 g6=>?_
  have d0:=Zb c3 b7.below
  have c0:=d4.symm.row d0 b6
  replace d4:=(d4.symm.grow d0 g6).symm
  have d6:=c0
  refine zK _ _ (Yk (f4.mono hBw) b6 a1 Do) ?_
  refine xwm (.r [8] 4) ((i:Int)+1) (↑(i+1):Int) ?_
  have h8:=e7.trans (f4.mono hBw)
  have h7:=(Ze.grown_new ((((Ze.upd_new ((Ze.grown_new (((((e8.trans (Q0 c9)).trans (d1.wide Do)).trans (Q0 (Za W7))).trans (Q0 c6)).trans (Q0 n9.below)) a6 a0).trans (Q0 a3.below)) d3 i0).trans (Q0 (Za c4))).trans (Q0 a5)).trans (Q0 b7.below)) b6 a1)
  have c2:=((((d3.blkT (((((((a2.below c9).only d1 Do).below (Za W7)).below c6).below n9.below).grown a6 a0 Do).below a3.below) a3.blk Do).below (Za c4)).below a5).below b7.below).grown b6 a1 Do
  have h3:=(((((((((hA.below (Za W7)).below c6).below n9.below).only (Q4 (T:=[132]) a6 a0 Do) Do).below a3.below).only (Q1 (T:=[280]) d3 a3.blk Do) Do).below (Za c4)).below a5).below b7.below).only (Q4 (T:=[132]) b6 a1 Do) Do
  exact ze 2 (i5 _ _ _ ⟨i+1,_,_,_,_,rfl,rfl,h8,h7,c2,d6,i8,h3,by omega,d4⟩ M0)
 have k6:i=n:=by omega
 rw[C1 (by rw[Qk];omega)] at d9
 rw[C1 (by rw[Km];omega)] at d8
 rw[show L.take i=L from C1 M0] at hA
 refine xlv 7 b3.rp ?_
 refine xc 1 (args:=#[.agg #[P0 ba],V0 1,.slice p7 i c7]) (by have q:=Zej B ba b g nn cc pa ca N bs (Ua L) 1 p7 c7 i ((Nb L (Pk L))) _ (by rw[Qk];omega) hC hA (Ztm hD) (by show Xj (F1 L)≤N;omega) (fun W _ h2=>Zg (Zi d9 h2 Do)) (N0 hBw a4.size);exact q) ?_
 rintro _ k0 ⟨rfl,h6,d5,hA⟩
 have c1:=b3.only d5 Do
 refine xlv 6 c1.rp ?_
 have d7:=Zi d8 d5 Do
 have f3:=a4.trans h6
 refine xc 1 (args:=#[.agg #[P0 ba],V0 3,.slice p8 i c8]) (by have q:=Zej B ba b g nn cc pa ca N bs (F1 L) 3 p8 c8 i ((Pm L (Hw L))) _ (by rw[Km];omega) hC hA (Zto hD) (by show Xj (F2 L)≤N;omega) (fun W _ h2=>Zg (Zi d7 h2 Do)) (N0 hBw f3.size);exact q) ?_
 rintro _ l2 ⟨rfl,g3,h0,hA⟩
 have f9:=f3.trans g3
 have h4:=(d2.trans (d5.wide Do)).trans (h0.wide Do)
 exact xe 5 (.tuple #[V0 (↑(Xj (F1 L)):Int),V0 (↑(Xj (F2 L)):Int)]) ⟨rfl,f9,h4,hA⟩
def Gf(L:List Dv)(k:Nat):Bl:=Ey (F2 L) 1 (List.replicate (k*256) (0:UInt8))
def Qu(x:Nat)(L:List Dv):Nat:=Xj (F2 L)+Qr (Xw x L)
def Kw(x:Nat)(L:List Dv)(k:Nat):Int×Int×Bl:=Vk (Xw x L) (1+Xj (F2 L)) (Gf L k)
def Ug(x:Nat)(L:List Dv)(k:Nat):Int×Int×Bl:=Vo (Xt (Qu x L+1) k) 1 (Qu x L) (Kw x L k).2.2
def Zb7(t u v:Int)(x:Nat)(L:List Dv)(k:Nat):Sup:=⟨t,u,v,(x:Int),(k:Int),(Xj (F1 L):Int),(Xj (F2 L):Int),(Kw x L k).1,(Kw x L k).2.1,(Ug x L k).1,(Ug x L k).2.1⟩
def Qb(t u v:Int)(x:Nat)(L:List Dv)(k:Nat):Bl:=Qh (Ug x L k).2.2 (0*256) (Xu 1 (0:Nat) (Py (Zb7 t u v x L k)))
theorem Zjn(L:List (List Int))(f:Nat):∀ n,(Xm L f n).length=n:=fun n=>Xg L f n
theorem layD_in(x:Nat)(L:List Dv)(k:Nat):1≤(Kw x L k).1∧(Kw x L k).1≤(Qu x L:Int)∧1≤(Kw x L k).2.1∧(Kw x L k).2.1≤(Qu x L:Int):=by
 have a:=Cp (t:=4) (l:=Xm (Xa (Zl (Xw x L)) (bmN (Xw x L).length)) (1+Xj (F2 L)) (bmN (Xw x L).length)) (q:=1+Xj (F2 L)+bmN (Xw x L).length) (bs:=Xy (Xa (Zl (Xw x L)) (bmN (Xw x L).length)) (1+Xj (F2 L)) (Gf L k) (bmN (Xw x L).length)) M0
 have b:=Cp (t:=5) (l:=Zp (Xw x L) (Xw x L).length) (q:=1+Xj (F2 L)+bmN (Xw x L).length+Xk 4 (bmN (Xw x L).length)) (bs:=(Zz 4 (Xm (Xa (Zl (Xw x L)) (bmN (Xw x L).length)) (1+Xj (F2 L)) (bmN (Xw x L).length)) (1+Xj (F2 L)+bmN (Xw x L).length) (Xy (Xa (Zl (Xw x L)) (bmN (Xw x L).length)) (1+Xj (F2 L)) (Gf L k) (bmN (Xw x L).length))).2) M0
 rw[Zjn] at a
 have e1:(Kw x L k).1=_:=a
 have e2:(Kw x L k).2.1=_:=b
 have h4:=Mi 4 (bmN (Xw x L).length)
 have h5:=Mi 5 (Zp (Xw x L) (Xw x L).length).length
 have e3:Qu x L=Xj (F2 L)+(bmN (Xw x L).length+Xk 4 (bmN (Xw x L).length)+Xk 5 (Zp (Xw x L) (Xw x L).length).length):=rfl
 rw[e1,e2,e3]
 omega
theorem layM_in(x:Nat)(L:List Dv)(k:Nat):1≤(Ug x L k).1∧(Ug x L k).1≤(Qu x L+2+bmN k:Nat)∧1≤(Ug x L k).2.1∧(Ug x L k).2.1≤(Qu x L+2+bmN k:Nat):=by
 have a:=Cp (t:=5) (l:=Zp (Xt (Qu x L+1) k) (Xt (Qu x L+1) k).length) (q:=1+Qu x L) (bs:=(Kw x L k).2.2) M0
 have e2:(Ug x L k).2.1=_:=a
 have e1:(Ug x L k).1=((1+Qu x L+Xk 5 (Zp (Xt (Qu x L+1) k) (Xt (Qu x L+1) k).length).length+bmN (Qx (Xt (Qu x L+1) k) (1+Qu x L) (Yf (Xt (Qu x L+1) k))).length:Nat):Int):=rfl
 rw[Qa,Zr] at e1
 rw[Wa,D6,Ob] at e1 e2
 rw[e1,e2]
 omega
theorem Od{t u v:Int}{x k:Nat}{L:List Dv}(hk:PoolOk t u v (x:Int) L)(hr:Uk x L≤k)(hk2:k≤14400):Qg (Zb7 t u v x L k)=true:=by
 have a:=layD_in x L k
 have b:=layM_in x L k
 have c:=La hr
 have d:=F1_le L
 have e:Qu x L=Xj (F2 L)+Qr (Xw x L):=rfl
 have h1:=hk.htx
 have h2:=hk.htime
 have h3:=hk.hunit
 have h4:=hk.hdata
 unfold Qg Zb7
 simp only[D9,decide_eq_true_eq,true_and]
 refine⟨⟨⟨⟨⟨⟨⟨⟨⟨⟨?_,?_⟩,?_⟩,?_⟩,?_⟩,?_⟩,?_⟩,?_⟩,?_⟩,?_⟩,?_⟩<;>omega
theorem Zfh(t u v:Int)(x k:Nat)(L:List Dv)(w:World)(hr:Qg (Zb7 t u v x L k)=true):C0 100 #[.agg #[V0 t,V0 u,V0 v,V0 (x:Int),V0 (k:Int),V0 (↑(Xj (F1 L)):Int),V0 (↑(Xj (F2 L)):Int),V0 (Kw x L k).1,V0 (Kw x L k).2.1,V0 (Ug x L k).1,V0 (Ug x L k).2.1]] w (Kc (fun w' r=>∃ p c,r=.tuple #[.slice p 244 c,V0 0]∧w'.ownsRow w.heap.size 5 1 (.slice p 244 c) 244 ((Py (Zb7 t u v x L k)).map bv)) w):=by
 refine(Zl9 (Zb7 t u v x L k) w ⟨by show(0:Int)≤(k:Int);omega,?_⟩).mono ?_
 ·unfold Qg Zb7 at hr
  simp only[D9,decide_eq_true_eq,true_and] at hr
  show(k:Int)<_
  omega
 ·rintro e W q
  rcases q with ⟨h,_⟩|⟨_,p,c,rfl,hb,ho⟩
  ·rw[hr] at h;cases h
  ·exact⟨_,rfl,hb,p,c,rfl,ho⟩
theorem lay_all(B ba b g cc:Nat)(pa:O0)(ca N k:Nat)(p:O0)(c n x:Nat)(t u v:Int)(Z:List Zv)(L:List Dv)(w:World)(hZ:Z.length=n)(hL:Z.map Prod.fst=L)(hk:PoolOk t u v (x:Int) L)(hP:∀ W,Below B w W→DevsR W p c Z)(hN:N=k-1)(hC:AlC B ba (k*256) cc ca 1 N)(hA:AlF B ba b g (k*256) cc pa ca N (List.replicate (k*256) (0:UInt8)) [] w)(hr:Uk x L≤k)(hk3:k≤3000)(hBw:B≤w.heap.size) :
 C0 55 #[.agg #[P0 ba],.agg #[V0 t,V0 u,V0 v,V0 (x:Int),.slice p n c]] w ((fun e w'=>e=.returned (.tuple #[])∧Below B w w'∧ImgR B b (S1 g) (k*256) cc (Qb t u v x L k) w')):=by
 have hx:x≤65536:=by have:=hk.hdata;omega
 have t6:=La hr
 have ae:Qu x L=Xj (F2 L)+Qr (Xw x L):=rfl
 have s8:=Od hk hr M0
 refine zin 72 Tryz.func55 ?_
 refine xa 2 [P0 ba] 115 fun b1 W1 n1=>?_
 refine xa 0 [V0 t,V0 u,V0 v,V0 (x:Int),.slice p n c] 48 fun b2 W2 n2=>?_
 refine xd 3 (.t B [200,5,28,123,132,140,134,24]) ?_
 have k2:=n2.blk.below (Za W2)
 refine xbt (.e [0] 1) 0 B [200,5,28,123,132,140,134,24] k2 ?_
 refine xbt (.e [2] 3) 1 B [200,5,28,123,132,140,134,24] k2 ?_
 refine xbt (.e [4] 5) 2 B [200,5,28,123,132,140,134,24] k2 ?_
 refine xbt (.e [6] 7) 3 B [200,5,28,123,132,140,134,24] k2 ?_
 have k1:=(n1.blk.below n2.below).below (Za W2)
 refine xbt (.e [8] 9) 0 B [200,5,28,123,132,140,134,24] k1 ?_
 refine xm2 0 10 13 ?_ ?_
 ·have f5:=((hA.below n1.below).below n2.below).below (Za W2)
  refine xr 0 (args:=#[P0 ba]) (Vt ba b _ _ _ f5.blkA) fun W3 d2=>?_
  refine xm2 0 11 13 ?_ ?_
  ·have j5:=f5.below d2
   refine xr 0 (args:=#[P0 b]) (by have q:=Yz b _ (k*256) _ _ j5.blkI M0;rw[show k*256/256=k by omega] at q;exact q) fun W4 q3=>?_
   refine xa (.o [12] 13) [V0 0,V0 0,V0 0,V0 0,V0 0,V0 0,V0 0,V0 0,V0 0,V0 0,V0 0] 24 fun b5 W5 n5=>?_
   have hB:=blB (blB (blB (blB (blB (Below.refl B w) hBw n1.below) hBw n2.below) hBw (Za W2)) hBw d2) hBw q3
   have g5:=n5.ge0 hB
   refine ysv (.o [] 14) n5.blk [V0 t,V0 u,V0 v,V0 (x:Int),V0 (k:Int),V0 0,V0 0,V0 0,V0 0,V0 0,V0 0] (.t B [200,5,28,123,132,140,134,24]) fun W6 u6 k6=>⟨(Zt u6 n5.blk (N0 hBw g5) Do),?_⟩
   have m8:=u6.blkT (((k1.below d2).below q3).below n5.below) n5.blk Do
   refine xlv 9 m8.rp ?_
   have n4:=u6.blkT (((k2.below d2).below q3).below n5.below) n5.blk Do
   refine xb 1 4 n4 ?_
   have s6:=((j5.below q3).below n5.below).only (Q1 (T:=[24]) u6 n5.blk Do) Do
   have d0:=u6.below (blB hB hBw n5.below) (N0 hBw g5)
   refine xc 0 (Eg B ba b g (k*256) cc pa ca N (List.replicate (k*256) (0:UInt8)) p c n (x:Int) Z L _ hZ hL hk.devs M0 (fun W h=>hP W (d0.trans h)) hC s6 M0 (N0 hBw d0.size)) ?_
   rintro _ W7 ⟨rfl,t7,r1,hA⟩
   have d3:=k6.only r1 Do
   refine xs 4 d3 [V0 t,V0 u,V0 v,V0 (x:Int),V0 (k:Int),V0 (↑(Xj (F1 L)):Int),V0 0,V0 0,V0 0,V0 0,V0 0] fun W8 u8 k8=>?_
   refine xs 1 k8 [V0 t,V0 u,V0 v,V0 (x:Int),V0 (k:Int),V0 (↑(Xj (F1 L)):Int),V0 (↑(Xj (F2 L)):Int),V0 0,V0 0,V0 0,V0 0] fun W9 u9 k9=>?_
   refine xd 3 (.t B [200,5,28,123,132,140,134,24]) ?_
   have i6:=(u9.blkT (u8.blkT (m8.only r1 Do) d3 Do) k8 Do).below (Za W9)
   refine xbt (.e [0] 1) 0 B [200,5,28,123,132,140,134,24] i6 ?_
   have s9:=(u9.blkT (u8.blkT (n4.only r1 Do) d3 Do) k8 Do).below (Za W9)
   refine Zun (.e [] 2) (.t B [200,5,28,123,132,140,134,24]) (fun V hV=>(s9.only hV.2 Do).rp) ?_
   have j6:=blB (u9.below (u8.below (d0.trans t7) (N0 hBw g5)) (N0 hBw g5)) hBw (Za W9)
   refine yc (.o [] 3) (.t B [200,5,28,123,132,140,134,24]) (by have q:=Lq p c n x t u v Z _ hZ (hP _ j6) (by rw[hL];exact hk);rw[hL] at q;exact q) ?_
   rintro _ af ⟨_,rfl,b0,q9,d9,rfl,j8⟩
   have r7:=(blB (u9.below (u8.below (d0.trans t7) (N0 hBw g5)) (N0 hBw g5)) hBw (Za W9)).size
   refine⟨(Q3 _ b0),?_⟩
   have p5:=Zf j8 r7
   have r2:=(((hA.only (Q1 (T:=[24]) u8 d3 Do) Do).only (Q1 (T:=[24]) u9 k8 Do) Do).below (Za W9)).below b0
   have h3:=blB j6 hBw b0
   refine yc (.o [] 4) (.t B [200,5,28,123,132,140,134,24]) (by have q:=Sd B ba b g (k*256) cc pa ca 1 N (Xj (F2 L)) (Gf L k) q9 d9 (Xw x L) _ hC r2 (by rw[Xx];have q:=Zg p5;rw[←Zbb] at q;exact q) (by rw[Xx];omega) (by rw[Fs];have:=Fw hk.devs;omega) (Pd M0 hk.devs) Do M0 M0 (N0 hBw h3.size);rw[Xx] at q;exact q) ?_
   rintro _ aa ⟨rfl,h1,e9,u5,hA⟩
   refine⟨(Ux h1 e9),?_⟩
   have d1:=((k9.below (Za W9)).below b0).only e9 Do
   refine ys (.o [5,6,7,8,9] 10) d1 [V0 t,V0 u,V0 v,V0 (x:Int),V0 (k:Int),V0 (↑(Xj (F1 L)):Int),V0 (↑(Xj (F2 L)):Int),V0 ((Kw x L k).1),V0 0,V0 0,V0 0] (.t B [200,5,28,123,132,140,134,24]) fun x6 i5 q2=>⟨(Zt i5 d1 (N0 hBw g5) Do),?_⟩
   refine ys (.o [11] 12) q2 [V0 t,V0 u,V0 v,V0 (x:Int),V0 (k:Int),V0 (↑(Xj (F1 L)):Int),V0 (↑(Xj (F2 L)):Int),V0 ((Kw x L k).1),V0 ((Kw x L k).2.1),V0 0,V0 0] (.t B [200,5,28,123,132,140,134,24]) fun x3 o0 v9=>⟨(Zt o0 q2 (N0 hBw g5) Do),?_⟩
   refine xr (.r [13] 5) (Hk _) fun n8 c0=>?_
   refine xd 3 (.t B [200,5,28,123,132,140,134,24]) ?_
   have f8:=((o0.blkT (i5.blkT ((i6.below b0).only e9 Do) d1 Do) q2 Do).below c0).below (Za n8)
   refine xbt (.e [0] 1) 0 B [200,5,28,123,132,140,134,24] f8 ?_
   refine Zun (.e [] 2) (.t B [200,5,28,123,132,140,134,24]) (fun V hV=>(f8.only hV.2 Do).rp) ?_
   have l9:=(((hA.only (Q1 (T:=[24]) i5 d1 Do) Do).only (Q1 (T:=[24]) o0 q2 Do) Do).below c0).below (Za n8)
   refine yc (.o [] 3) (.t B [200,5,28,123,132,140,134,24]) (Sm B ba b g cc pa ca 1 N (Qu x L) k _ _ l9 M0 M0) ?_
   rintro _ z1 ⟨_,rfl,c5,q8,d8,rfl,n3⟩
   have t1:=(blB (blB (o0.below (i5.below (h3.trans h1) (N0 hBw g5)) (N0 hBw g5)) hBw c0) hBw (Za n8)).size
   refine⟨(Q3 _ c5),?_⟩
   have s3:=l9.below c5
   have m9:=Zf n3 t1
   have g3:=blB (blB (blB (o0.below (i5.below (h3.trans h1) (N0 hBw g5)) (N0 hBw g5)) hBw c0) hBw (Za n8)) hBw c5
   refine yc (.o [] 4) (.t B [200,5,28,123,132,140,134,24]) (by have q:=Rp B ba b g (k*256) cc pa ca 1 N (Qu x L) (Kw x L k).2.2 q8 d8 (Xt (Qu x L+1) k) _ hC s3 (by rw[Zr];exact Zg m9) (by rw[Zr];omega) (by rw[Zr];omega) (Wz M0) M0 (by rw[Rv];omega) Do (by rw[L1 1];exact Nv) (N0 hBw g3.size);rw[Zr] at q;exact q) ?_
   rintro _ w0 ⟨rfl,g9,g0,u1,hA⟩
   refine⟨(Ux g9 g0),?_⟩
   have a3:=(((v9.below c0).below (Za n8)).below c5).only g0 Do
   refine ys (.o [5,6,7,8,9] 10) a3 [V0 t,V0 u,V0 v,V0 (x:Int),V0 (k:Int),V0 (↑(Xj (F1 L)):Int),V0 (↑(Xj (F2 L)):Int),V0 ((Kw x L k).1),V0 ((Kw x L k).2.1),V0 ((Ug x L k).1),V0 0] (.t B [200,5,28,123,132,140,134,24]) fun ag i4 q5=>⟨(Zt i4 a3 (N0 hBw g5) Do),?_⟩
   refine ys (.o [11] 12) q5 [V0 t,V0 u,V0 v,V0 (x:Int),V0 (k:Int),V0 (↑(Xj (F1 L)):Int),V0 (↑(Xj (F2 L)):Int),V0 ((Kw x L k).1),V0 ((Kw x L k).2.1),V0 ((Ug x L k).1),V0 ((Ug x L k).2.1)] (.t B [200,5,28,123,132,140,134,24]) fun w4 o6 u4=>⟨(Zt o6 q5 (N0 hBw g5) Do),?_⟩
   refine xr (.r [13] 5) (Hk _) fun x8 a9=>?_
   have k7:=u4.below a9
   refine xlv 4 k7.rp ?_
   refine xc 0 (Zfh t u v x k L _ s8) ?_
   rintro _ z9 ⟨_,rfl,h4,q7,d7,rfl,l0⟩
   have r4:=(blB (o6.below (i4.below (g3.trans g9) (N0 hBw g5)) (N0 hBw g5)) hBw a9).size
   have r9:=((o6.blkT (i4.blkT ((f8.below c5).only g0 Do) a3 Do) q5 Do).below a9).below h4
   refine xb 19 0 r9 ?_
   have o8:=(((hA.only (Q1 (T:=[24]) i4 a3 Do) Do).only (Q1 (T:=[24]) o6 q5 Do) Do).below a9).below h4
   refine xr 0 (args:=#[P0 ba]) (Vt ba b _ _ _ o8.blkA) fun ao g8=>?_
   have m5:=Zb (Zf l0 r4) g8
   have n0:=o8.below g8
   have o1:=blB (blB (blB (o6.below (i4.below (g3.trans g9) (N0 hBw g5)) (N0 hBw g5)) hBw a9) hBw h4) hBw g8
   refine xc 1 (args:=#[P0 b,V0 0,V0 1,.slice q7 244 d7]) (Bd B b (S1 g) (k*256) cc 0 (0:Int) (Ug x L k).2.2 1 q7 d7 244 (Py (Zb7 t u v x L k)) _ rfl (Kx _) ⟨n0.blkI,n0.data,hC.hn⟩ M0 Do Do (Vc (Zg m5) (Kx _)) Do (N0 hBw o1.size)) ?_
   rintro _ y0 ⟨rfl,s5,v2,hI⟩
   refine xr 0 (Hk _) fun x5 o4=>?_
   have t3:=hI.below o4
   have r8:=blB (o1.trans s5) hBw o4
   exact xe 1 (.tuple #[]) ⟨rfl,r8,t3⟩
  refine xa 0 [V0 0,V0 0,V0 0,V0 0,V0 0,V0 0,V0 0,V0 0,V0 0,V0 0,V0 0] 24 fun y9 ai h8=>?_
  have l3:=(f5.below d2).below h8.below
  refine xr (.o [] 11) (args:=#[P0 b]) (by have q:=Yz b _ (k*256) _ _ l3.blkI M0;rw[show k*256/256=k by omega] at q;exact q) fun ah c9=>?_
  have k5:=h8.blk.below c9
  have a1:=h8.ge0 (blB (blB (blB (blB (Below.refl B w) hBw n1.below) hBw n2.below) hBw (Za W2)) hBw d2)
  refine ysv (.o [12] 14) k5 [V0 t,V0 u,V0 v,V0 (x:Int),V0 (k:Int),V0 0,V0 0,V0 0,V0 0,V0 0,V0 0] (.t B [200,5,28,123,132,140,134,24]) fun y4 m3 t9=>⟨(Zt m3 k5 (N0 hBw a1) Do),?_⟩
  have j7:=m3.blkT (((k1.below d2).below h8.below).below c9) k5 Do
  refine xlv 9 j7.rp ?_
  have k3:=m3.blkT (((k2.below d2).below h8.below).below c9) k5 Do
  refine xb 1 4 k3 ?_
  have l5:=(l3.below c9).only (Q1 (T:=[24]) m3 k5 Do) Do
  have hB:=m3.below (blB (blB (blB (blB (blB (blB (Below.refl B w) hBw n1.below) hBw n2.below) hBw (Za W2)) hBw d2) hBw h8.below) hBw c9) (N0 hBw a1)
  refine xc 0 (Eg B ba b g (k*256) cc pa ca N (List.replicate (k*256) (0:UInt8)) p c n (x:Int) Z L _ hZ hL hk.devs M0 (fun W h=>hP W (hB.trans h)) hC l5 M0 (N0 hBw hB.size)) ?_
  rintro _ y2 ⟨rfl,i8,f4,hA⟩
  have a6:=t9.only f4 Do
  refine xs 4 a6 [V0 t,V0 u,V0 v,V0 (x:Int),V0 (k:Int),V0 (↑(Xj (F1 L)):Int),V0 0,V0 0,V0 0,V0 0,V0 0] fun z4 m7 q1=>?_
  refine xs 1 q1 [V0 t,V0 u,V0 v,V0 (x:Int),V0 (k:Int),V0 (↑(Xj (F1 L)):Int),V0 (↑(Xj (F2 L)):Int),V0 0,V0 0,V0 0,V0 0] fun i1 l6 u0=>?_
  refine xd 3 (.t B [200,5,28,123,132,140,134,24]) ?_
  have l7:=(l6.blkT (m7.blkT (j7.only f4 Do) a6 Do) q1 Do).below (Za i1)
  refine xbt (.e [0] 1) 0 B [200,5,28,123,132,140,134,24] l7 ?_
  have r3:=(l6.blkT (m7.blkT (k3.only f4 Do) a6 Do) q1 Do).below (Za i1)
  refine Zun (.e [] 2) (.t B [200,5,28,123,132,140,134,24]) (fun V hV=>(r3.only hV.2 Do).rp) ?_
  have k4:=blB (l6.below (m7.below (hB.trans i8) (N0 hBw a1)) (N0 hBw a1)) hBw (Za i1)
  refine yc (.o [] 3) (.t B [200,5,28,123,132,140,134,24]) (by have q:=Lq p c n x t u v Z _ hZ (hP _ k4) (by rw[hL];exact hk);rw[hL] at q;exact q) ?_
  rintro _ x0 ⟨_,rfl,c8,q9,d9,rfl,j8⟩
  have t5:=(blB (l6.below (m7.below (hB.trans i8) (N0 hBw a1)) (N0 hBw a1)) hBw (Za i1)).size
  refine⟨(Q3 _ c8),?_⟩
  have p0:=Zf j8 t5
  have j0:=(((hA.only (Q1 (T:=[24]) m7 a6 Do) Do).only (Q1 (T:=[24]) l6 q1 Do) Do).below (Za i1)).below c8
  have h5:=blB k4 hBw c8
  refine yc (.o [] 4) (.t B [200,5,28,123,132,140,134,24]) (by have q:=Sd B ba b g (k*256) cc pa ca 1 N (Xj (F2 L)) (Gf L k) q9 d9 (Xw x L) _ hC j0 (by rw[Xx];have q:=Zg p0;rw[←Zbb] at q;exact q) (by rw[Xx];omega) (by rw[Fs];have:=Fw hk.devs;omega) (Pd M0 hk.devs) Do M0 M0 (N0 hBw h5.size);rw[Xx] at q;exact q) ?_
  rintro _ ak ⟨rfl,f9,f3,v0,hA⟩
  refine⟨(Ux f9 f3),?_⟩
  have a7:=((u0.below (Za i1)).below c8).only f3 Do
  refine ys (.o [5,6,7,8,9] 10) a7 [V0 t,V0 u,V0 v,V0 (x:Int),V0 (k:Int),V0 (↑(Xj (F1 L)):Int),V0 (↑(Xj (F2 L)):Int),V0 ((Kw x L k).1),V0 0,V0 0,V0 0] (.t B [200,5,28,123,132,140,134,24]) fun y1 l8 p8=>⟨(Zt l8 a7 (N0 hBw a1) Do),?_⟩
  refine ys (.o [11] 12) p8 [V0 t,V0 u,V0 v,V0 (x:Int),V0 (k:Int),V0 (↑(Xj (F1 L)):Int),V0 (↑(Xj (F2 L)):Int),V0 ((Kw x L k).1),V0 ((Kw x L k).2.1),V0 0,V0 0] (.t B [200,5,28,123,132,140,134,24]) fun y6 m2 v7=>⟨(Zt m2 p8 (N0 hBw a1) Do),?_⟩
  refine xr (.r [13] 5) (Hk _) fun o5 b9=>?_
  refine xd 3 (.t B [200,5,28,123,132,140,134,24]) ?_
  have h2:=((m2.blkT (l8.blkT ((l7.below c8).only f3 Do) a7 Do) p8 Do).below b9).below (Za o5)
  refine xbt (.e [0] 1) 0 B [200,5,28,123,132,140,134,24] h2 ?_
  refine Zun (.e [] 2) (.t B [200,5,28,123,132,140,134,24]) (fun V hV=>(h2.only hV.2 Do).rp) ?_
  have e4:=(((hA.only (Q1 (T:=[24]) l8 a7 Do) Do).only (Q1 (T:=[24]) m2 p8 Do) Do).below b9).below (Za o5)
  refine yc (.o [] 3) (.t B [200,5,28,123,132,140,134,24]) (Sm B ba b g cc pa ca 1 N (Qu x L) k _ _ e4 M0 M0) ?_
  rintro _ x1 ⟨_,rfl,b6,q8,d8,rfl,n3⟩
  have r6:=(blB (blB (m2.below (l8.below (h5.trans f9) (N0 hBw a1)) (N0 hBw a1)) hBw b9) hBw (Za o5)).size
  refine⟨(Q3 _ b6),?_⟩
  have j4:=e4.below b6
  have m0:=Zf n3 r6
  have g6:=blB (blB (blB (m2.below (l8.below (h5.trans f9) (N0 hBw a1)) (N0 hBw a1)) hBw b9) hBw (Za o5)) hBw b6
  refine yc (.o [] 4) (.t B [200,5,28,123,132,140,134,24]) (by have q:=Rp B ba b g (k*256) cc pa ca 1 N (Qu x L) (Kw x L k).2.2 q8 d8 (Xt (Qu x L+1) k) _ hC j4 (by rw[Zr];exact Zg m0) (by rw[Zr];omega) (by rw[Zr];omega) (Wz M0) M0 (by rw[Rv];omega) Do (by rw[L1 1];exact Nv) (N0 hBw g6.size);rw[Zr] at q;exact q) ?_
  rintro _ x2 ⟨rfl,g1,f1,t8,hA⟩
  refine⟨(Ux g1 f1),?_⟩
  have a5:=(((v7.below b9).below (Za o5)).below b6).only f1 Do
  refine ys (.o [5,6,7,8,9] 10) a5 [V0 t,V0 u,V0 v,V0 (x:Int),V0 (k:Int),V0 (↑(Xj (F1 L)):Int),V0 (↑(Xj (F2 L)):Int),V0 ((Kw x L k).1),V0 ((Kw x L k).2.1),V0 ((Ug x L k).1),V0 0] (.t B [200,5,28,123,132,140,134,24]) fun w6 p3 q4=>⟨(Zt p3 a5 (N0 hBw a1) Do),?_⟩
  refine ys (.o [11] 12) q4 [V0 t,V0 u,V0 v,V0 (x:Int),V0 (k:Int),V0 (↑(Xj (F1 L)):Int),V0 (↑(Xj (F2 L)):Int),V0 ((Kw x L k).1),V0 ((Kw x L k).2.1),V0 ((Ug x L k).1),V0 ((Ug x L k).2.1)] (.t B [200,5,28,123,132,140,134,24]) fun ac o2 v3=>⟨(Zt o2 q4 (N0 hBw a1) Do),?_⟩
  refine xr (.r [13] 5) (Hk _) fun z6 b4=>?_
  have l1:=v3.below b4
  refine xlv 4 l1.rp ?_
  refine xc 0 (Zfh t u v x k L _ s8) ?_
  rintro _ ad ⟨_,rfl,f7,q7,d7,rfl,l0⟩
  have t2:=(blB (o2.below (p3.below (g6.trans g1) (N0 hBw a1)) (N0 hBw a1)) hBw b4).size
  have r5:=((o2.blkT (p3.blkT ((h2.below b6).only f1 Do) a5 Do) q4 Do).below b4).below f7
  refine xb 19 0 r5 ?_
  have e7:=(((hA.only (Q1 (T:=[24]) p3 a5 Do) Do).only (Q1 (T:=[24]) o2 q4 Do) Do).below b4).below f7
  refine xr 0 (args:=#[P0 ba]) (Vt ba b _ _ _ e7.blkA) fun x4 h6=>?_
  have o7:=Zb (Zf l0 t2) h6
  have d6:=e7.below h6
  have e8:=blB (blB (blB (o2.below (p3.below (g6.trans g1) (N0 hBw a1)) (N0 hBw a1)) hBw b4) hBw f7) hBw h6
  refine xc 1 (args:=#[P0 b,V0 0,V0 1,.slice q7 244 d7]) (Bd B b (S1 g) (k*256) cc 0 (0:Int) (Ug x L k).2.2 1 q7 d7 244 (Py (Zb7 t u v x L k)) _ rfl (Kx _) ⟨d6.blkI,d6.data,hC.hn⟩ M0 Do Do (Vc (Zg o7) (Kx _)) Do (N0 hBw e8.size)) ?_
  rintro _ x9 ⟨rfl,t0,v8,hI⟩
  refine xr 0 (Hk _) fun w8 p7=>?_
  have r0:=hI.below p7
  have n9:=blB (e8.trans t0) hBw p7
  exact xe 1 (.tuple #[]) ⟨rfl,n9,r0⟩
 refine xa 0 [V0 0,V0 0,V0 0,V0 0,V0 0,V0 0,V0 0,V0 0,V0 0,V0 0,V0 0] 24 fun ab w1 i0=>?_
 have e6:=(((hA.below n1.below).below n2.below).below (Za W2)).below i0.below
 refine xr (.o [] 10) (args:=#[P0 ba]) (Vt ba b _ _ _ e6.blkA) fun z3 b7=>?_
 have e5:=e6.below b7
 refine xr (.o [] 11) (args:=#[P0 b]) (by have q:=Yz b _ (k*256) _ _ e5.blkI M0;rw[show k*256/256=k by omega] at q;exact q) fun y8 c7=>?_
 have j9:=(i0.blk.below b7).below c7
 have a0:=i0.ge0 (blB (blB (blB (Below.refl B w) hBw n1.below) hBw n2.below) hBw (Za W2))
 refine ysv (.o [12] 14) j9 [V0 t,V0 u,V0 v,V0 (x:Int),V0 (k:Int),V0 0,V0 0,V0 0,V0 0,V0 0,V0 0] (.t B [200,5,28,123,132,140,134,24]) fun x7 m1 v6=>⟨(Zt m1 j9 (N0 hBw a0) Do),?_⟩
 have l2:=m1.blkT (((k1.below i0.below).below b7).below c7) j9 Do
 refine xlv 9 l2.rp ?_
 have i3:=m1.blkT (((k2.below i0.below).below b7).below c7) j9 Do
 refine xb 1 4 i3 ?_
 have i7:=(e5.below c7).only (Q1 (T:=[24]) m1 j9 Do) Do
 have hB:=m1.below (blB (blB (blB (blB (blB (blB (Below.refl B w) hBw n1.below) hBw n2.below) hBw (Za W2)) hBw i0.below) hBw b7) hBw c7) (N0 hBw a0)
 refine xc 0 (Eg B ba b g (k*256) cc pa ca N (List.replicate (k*256) (0:UInt8)) p c n (x:Int) Z L _ hZ hL hk.devs M0 (fun W h=>hP W (hB.trans h)) hC i7 M0 (N0 hBw hB.size)) ?_
 rintro _ w9 ⟨rfl,p2,f0,hA⟩
 have a4:=v6.only f0 Do
 refine xs 4 a4 [V0 t,V0 u,V0 v,V0 (x:Int),V0 (k:Int),V0 (↑(Xj (F1 L)):Int),V0 0,V0 0,V0 0,V0 0,V0 0] fun z8 j1 p9=>?_
 refine xs 1 p9 [V0 t,V0 u,V0 v,V0 (x:Int),V0 (k:Int),V0 (↑(Xj (F1 L)):Int),V0 (↑(Xj (F2 L)):Int),V0 0,V0 0,V0 0,V0 0] fun h9 k0 u2=>?_
 refine xd 3 (.t B [200,5,28,123,132,140,134,24]) ?_
 have d4:=(k0.blkT (j1.blkT (l2.only f0 Do) a4 Do) p9 Do).below (Za h9)
 refine xbt (.e [0] 1) 0 B [200,5,28,123,132,140,134,24] d4 ?_
 have s2:=(k0.blkT (j1.blkT (i3.only f0 Do) a4 Do) p9 Do).below (Za h9)
 refine Zun (.e [] 2) (.t B [200,5,28,123,132,140,134,24]) (fun V hV=>(s2.only hV.2 Do).rp) ?_
 have e3:=blB (k0.below (j1.below (hB.trans p2) (N0 hBw a0)) (N0 hBw a0)) hBw (Za h9)
 refine yc (.o [] 3) (.t B [200,5,28,123,132,140,134,24]) (by have q:=Lq p c n x t u v Z _ hZ (hP _ e3) (by rw[hL];exact hk);rw[hL] at q;exact q) ?_
 rintro _ z2 ⟨_,rfl,c6,q9,d9,rfl,j8⟩
 have s4:=(blB (k0.below (j1.below (hB.trans p2) (N0 hBw a0)) (N0 hBw a0)) hBw (Za h9)).size
 refine⟨(Q3 _ c6),?_⟩
 have o9:=Zf j8 s4
 have p1:=(((hA.only (Q1 (T:=[24]) j1 a4 Do) Do).only (Q1 (T:=[24]) k0 p9 Do) Do).below (Za h9)).below c6
 have c4:=blB e3 hBw c6
 refine yc (.o [] 4) (.t B [200,5,28,123,132,140,134,24]) (by have q:=Sd B ba b g (k*256) cc pa ca 1 N (Xj (F2 L)) (Gf L k) q9 d9 (Xw x L) _ hC p1 (by rw[Xx];have q:=Zg o9;rw[←Zbb] at q;exact q) (by rw[Xx];omega) (by rw[Fs];have:=Fw hk.devs;omega) (Pd M0 hk.devs) Do M0 M0 (N0 hBw c4.size);rw[Xx] at q;exact q) ?_
 rintro _ z7 ⟨rfl,h0,g7,v1,hA⟩
 refine⟨(Ux h0 g7),?_⟩
 have a8:=((u2.below (Za h9)).below c6).only g7 Do
 refine ys (.o [5,6,7,8,9] 10) a8 [V0 t,V0 u,V0 v,V0 (x:Int),V0 (k:Int),V0 (↑(Xj (F1 L)):Int),V0 (↑(Xj (F2 L)):Int),V0 ((Kw x L k).1),V0 0,V0 0,V0 0] (.t B [200,5,28,123,132,140,134,24]) fun al l4 q0=>⟨(Zt l4 a8 (N0 hBw a0) Do),?_⟩
 refine ys (.o [11] 12) q0 [V0 t,V0 u,V0 v,V0 (x:Int),V0 (k:Int),V0 (↑(Xj (F1 L)):Int),V0 (↑(Xj (F2 L)):Int),V0 ((Kw x L k).1),V0 ((Kw x L k).2.1),V0 0,V0 0] (.t B [200,5,28,123,132,140,134,24]) fun w3 o3 u3=>⟨(Zt o3 q0 (N0 hBw a0) Do),?_⟩
 refine xr (.r [13] 5) (Hk _) fun n7 c1=>?_
 refine xd 3 (.t B [200,5,28,123,132,140,134,24]) ?_
 have b3:=((o3.blkT (l4.blkT ((d4.below c6).only g7 Do) a8 Do) q0 Do).below c1).below (Za n7)
 refine xbt (.e [0] 1) 0 B [200,5,28,123,132,140,134,24] b3 ?_
 refine Zun (.e [] 2) (.t B [200,5,28,123,132,140,134,24]) (fun V hV=>(b3.only hV.2 Do).rp) ?_
 have e0:=(((hA.only (Q1 (T:=[24]) l4 a8 Do) Do).only (Q1 (T:=[24]) o3 q0 Do) Do).below c1).below (Za n7)
 refine yc (.o [] 3) (.t B [200,5,28,123,132,140,134,24]) (Sm B ba b g cc pa ca 1 N (Qu x L) k _ _ e0 M0 M0) ?_
 rintro _ w7 ⟨_,rfl,b8,q8,d8,rfl,n3⟩
 have s0:=(blB (blB (o3.below (l4.below (c4.trans h0) (N0 hBw a0)) (N0 hBw a0)) hBw c1) hBw (Za n7)).size
 refine⟨(Q3 _ b8),?_⟩
 have m4:=e0.below b8
 have m6:=Zf n3 s0
 have c3:=blB (blB (blB (o3.below (l4.below (c4.trans h0) (N0 hBw a0)) (N0 hBw a0)) hBw c1) hBw (Za n7)) hBw b8
 refine yc (.o [] 4) (.t B [200,5,28,123,132,140,134,24]) (by have q:=Rp B ba b g (k*256) cc pa ca 1 N (Qu x L) (Kw x L k).2.2 q8 d8 (Xt (Qu x L+1) k) _ hC m4 (by rw[Zr];exact Zg m6) (by rw[Zr];omega) (by rw[Zr];omega) (Wz M0) M0 (by rw[Rv];omega) Do (by rw[L1 1];exact Nv) (N0 hBw c3.size);rw[Zr] at q;exact q) ?_
 rintro _ aj ⟨rfl,f2,g2,v5,hA⟩
 refine⟨(Ux f2 g2),?_⟩
 have a2:=(((u3.below c1).below (Za n7)).below b8).only g2 Do
 refine ys (.o [5,6,7,8,9] 10) a2 [V0 t,V0 u,V0 v,V0 (x:Int),V0 (k:Int),V0 (↑(Xj (F1 L)):Int),V0 (↑(Xj (F2 L)):Int),V0 ((Kw x L k).1),V0 ((Kw x L k).2.1),V0 ((Ug x L k).1),V0 0] (.t B [200,5,28,123,132,140,134,24]) fun w2 i9 q6=>⟨(Zt i9 a2 (N0 hBw a0) Do),?_⟩
 refine ys (.o [11] 12) q6 [V0 t,V0 u,V0 v,V0 (x:Int),V0 (k:Int),V0 (↑(Xj (F1 L)):Int),V0 (↑(Xj (F2 L)):Int),V0 ((Kw x L k).1),V0 ((Kw x L k).2.1),V0 ((Ug x L k).1),V0 ((Ug x L k).2.1)] (.t B [200,5,28,123,132,140,134,24]) fun y3 p4 v4=>⟨(Zt p4 q6 (N0 hBw a0) Do),?_⟩
 refine xr (.r [13] 5) (Hk _) fun z0 c2=>?_
 have j3:=v4.below c2
 refine xlv 4 j3.rp ?_
 refine xc 0 (Zfh t u v x k L _ s8) ?_
 rintro _ y7 ⟨_,rfl,f6,q7,d7,rfl,l0⟩
 have s1:=(blB (p4.below (i9.below (c3.trans f2) (N0 hBw a0)) (N0 hBw a0)) hBw c2).size
 have p6:=((p4.blkT (i9.blkT ((b3.below b8).only g2 Do) a2 Do) q6 Do).below c2).below f6
 refine xb 19 0 p6 ?_
 have d5:=(((hA.only (Q1 (T:=[24]) i9 a2 Do) Do).only (Q1 (T:=[24]) p4 q6 Do) Do).below c2).below f6
 refine xr 0 (args:=#[P0 ba]) (Vt ba b _ _ _ d5.blkA) fun z5 h7=>?_
 have n6:=Zb (Zf l0 s1) h7
 have e1:=d5.below h7
 have e2:=blB (blB (blB (p4.below (i9.below (c3.trans f2) (N0 hBw a0)) (N0 hBw a0)) hBw c2) hBw f6) hBw h7
 refine xc 1 (args:=#[P0 b,V0 0,V0 1,.slice q7 244 d7]) (Bd B b (S1 g) (k*256) cc 0 (0:Int) (Ug x L k).2.2 1 q7 d7 244 (Py (Zb7 t u v x L k)) _ rfl (Kx _) ⟨e1.blkI,e1.data,hC.hn⟩ M0 Do Do (Vc (Zg n6) (Kx _)) Do (N0 hBw e2.size)) ?_
 rintro _ w5 ⟨rfl,s7,u7,hI⟩
 refine xr 0 (Hk _) fun y5 j2=>?_
 have t4:=hI.below j2
 have i2:=blB (e2.trans s7) hBw j2
 exact xe 1 (.tuple #[]) ⟨rfl,i2,t4⟩
theorem Ic(r:List Jo):∀ (q:Nat) (bs:Bl),(∀ x∈r,Lh x)→(q+Xj r)*256≤bs.length→(Ey r q bs).length=bs.length:=by
 induction r with
 | nil=>intro q bs _ _;rfl
 | cons x r ih =>
  intro q bs h hb
  have hx:=h x (by simp)
  rw[show Xj (x::r)=Ve x+Xj r from rfl] at hb
  have hk:=Qf (q:=q) (bs:=bs) hx.1 hx.2.1 hx.2.2.1 (by change (q+Ve x)*256≤_;omega)
  rw[show Ey (x::r) q bs=Ey r (q+Ve x) (Zz x.1 x.2 q bs).2 from rfl,ih _ _ (fun y hy=>h y (by simp[hy])) (by rw[hk.1];omega),hk.1]
theorem for_comm{y:Jo}{p:Nat}(hy:Lh y)(r:List Jo):∀ (q:Nat) (bs:Bl),(∀ x∈r,Lh x)→(q+Xj r)*256≤bs.length→p+Ve y≤q →
 Zz y.1 y.2 p (Ey r q bs)=((Zz y.1 y.2 p bs).1,Ey r q (Zz y.1 y.2 p bs).2):=by
 induction r with
 | nil=>intro q bs _ _ _;rfl
 | cons x r ih =>
  intro q bs h hb hp
  have hx:=h x (by simp)
  rw[show Xj (x::r)=Ve x+Xj r from rfl] at hb
  have hk:=Qf (q:=q) (bs:=bs) hx.1 hx.2.1 hx.2.2.1 (by change (q+Ve x)*256≤_;omega)
  have hc:=Wc (t:=x.1) (s:=y.1) (l:=x.2) (e:=y.2) (q:=q) (p:=p) (bs:=bs) hx.1 hx.2.1 hx.2.2.1 hy.1 hy.2.1 hy.2.2.1 (by change (q+Ve x)*256≤_;omega) hp
  rw[show Ey (x::r) q bs=Ey r (q+Ve x) (Zz x.1 x.2 q bs).2 from rfl,show Ey (x::r) q (Zz y.1 y.2 p bs).2=Ey r (q+Ve x) (Zz x.1 x.2 q (Zz y.1 y.2 p bs).2).2 from rfl,ih _ _ (fun z hz=>h z (by simp[hz])) (by rw[hk.1];omega) M0,hc]
end Go.Proofs.YtceeiinepijokaaGreatDoor
