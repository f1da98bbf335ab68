/- What plot.Data wrote, chart.Data reads back, plainly. -/
import Derived.RangeFuncNested
import Derived.RangeFuncBound
import Derived.RangeFuncCalls
import Derived.RangeFuncLeaves
import Derived.Shelf.Abstract
import Derived.Shelf.RegionOpen
import Derived.OwnWalkIn
import Derived.TacticsInMore
import Derived.LoopNIn
import Derived.LoopIn
import Derived.Sort.BigQuietIn
import Derived.Laws.StructEq
import Derived.Maps.Own
import Derived.Test.YtekomodnkfhihaaGreatDoorMg5
namespace Go.Proofs.YtekomodnkfhihaaGreatDoor
set_option maxHeartbeats 8000000
open Prod (fst)
open List (range replicate getD)
set_option maxRecDepth 100000
set_option linter.unusedVariables false
section
open Go.RowKit Go.Extern.Stop Go.Stop Go.Extern
section
attribute [local irreducible] wpList wpAnyH Code.wp Oper.wp Go
theorem Zie{l:V6 Int}{k:Nat}{x:Ent}:x∈Zp l k↔∃ j:Nat,j<k∧3≤l.getD j 0∧x=((j:Int),leB (l.getD j 0) 4,0):=by
 unfold Zp;simp only[List.mem_flatMap,A7];constructor
 ·rintro⟨j,hj,hx⟩;unfold ovX at hx;split at hx
  ·rename_i h3;exact⟨j,hj,h3,D0.1 hx⟩
  ·cases hx
 ·rintro⟨j,hj,h3,rfl⟩;exact⟨j,hj,by unfold ovX;rw[V8 h3];exact D0.2 rfl⟩
theorem cnt_val{n:Int}(h0:3≤n)(h:n≤2147483647):Xn Ak (leB n 4)=0∧Xq Ak (leB n 4)=[n.toNat]:=by
 obtain⟨m,rfl⟩:∃ m:Nat,n=(m:Int):=⟨n.toNat,M0⟩;have e:Zo (leB (m:Int) 4) 0 4=m:=by
  have h:=Dc (a:=[]) (b:=[]) (m:=m) (w:=4) M0;simpa using h
 have hr:Np Ak (leB (m:Int) 4)=[m]:=by
  show Mk (leB (m:Int) 4) 0 [4]=_;simp only[Mk];rw[e]
 have h1:Xn Ak (leB (m:Int) 4)=0:=by
  have hk:Pv Ak (leB (m:Int) 4)=true:=by
   unfold Pv;rw[hr,show Ak.length=1 from rfl];unfold Wg;rw[show range 1=[0] from rfl];simp[inP,Ak];omega
  unfold Xn;rw[V8 (by rw[Zl];rfl),V8 hk]
 exact⟨h1,by unfold Xq;rw[V8 h1,hr];simp⟩
theorem Zvo{n:Int}:mn3 n=3↔3≤n:=by unfold mn3;split<;>omega
theorem mn3_lt{n:Int}(h:n<3):mn3 n=n:=V8 h
theorem Dl(l:V6 Int)(k:Nat):(Zj l).getD k 0=mn3 (l.getD k 0):=by
 by_cases h:k<l.length
 ·simp[Zj,getD,h]
 ·simp[Zj,getD,Nat.le_of_not_lt h,mn3]
theorem kv_get{E O:V6 Ent}(hE:E.map kvE=O.map kvE):E.length=O.length∧∀ i,i<O.length→(E.getD i Zn).1=(O.getD i Zn).1∧(E.getD i Zn).2.1=(O.getD i Zn).2.1:=by
 have hl:E.length=O.length:=by simpa using congrArg List.length hE
 refine⟨hl,fun i hi=>?_⟩;have h:=congrArg (fun x=>x[i]?) hE;simp only[C3,A9 hi,A9 (show i<E.length by omega),D3,A0] at h;rw[Hw hi,Hw M0];have h2:(E[i].1,E[i].2.1)=(O[i].1,O[i].2.1):=h;exact⟨(Prod.mk.inj h2).1,(Prod.mk.inj h2).2⟩
theorem Zjb{l:V6 Int}{E:V6 Ent}(hc:∀ k,k<l.length→Ph (l.getD k 0))(hE:E.map kvE=(Zp l l.length).map kvE):Pn (Zj l) E=(0,l):=by
 obtain⟨hl,hg⟩:=kv_get hE;have hO:=Znu l l.length;have hm:∀ i,i<E.length→∃ k:Nat,k<l.length∧3≤l.getD k 0∧Gc E i=(k:Int)∧(E.getD i Zn).2.1=leB (l.getD k 0) 4:=fun i hi=>by
  rw[hl] at hi;obtain⟨k,hk,h3,e⟩:=Zie.1 (F3 hi);have:=hg i hi;rw[Hw (l:=Zp l l.length) hi,e] at this;exact⟨k,hk,h3,this.1,this.2⟩
 have hv:∀ i,i<E.length→∀ k:Nat,Gc E i=(k:Int)→jVal E i=l.getD k 0∧3≤l.getD k 0∧Xn Ak (E.getD i Zn).2.1=0:=fun i hi k hk=>by
  obtain⟨k2,h1,h2,h3,h4⟩:=hm i hi;obtain rfl:k=k2:=M0;have hb:=hc k h1;unfold Ph at hb;have hv:=cnt_val h2 hb.2;unfold jVal;rw[h4,hv.2];refine⟨?_,h2,hv.1⟩;show(((l.getD k 0).toNat:Nat):Int)=_;omega
 have a0:jOk (Zj l) E E.length:=fun i hi=>by
  obtain⟨k,h1,h2,h3,h4⟩:=hm i hi;have a1:Nj E i<Gc E i:=by
   unfold Nj;split
   ·omega
   ·rename_i h0;have hp:=List.pairwise_iff_getElem.1 hO.1 (i-1) i M0 M0 M0;have a:=(hg i M0).1;have b:=(hg (i-1) M0).1;rw[Hw (l:=Zp l l.length) M0] at a b;unfold Gc;rw[a,b];exact hp
  unfold Zjm;rw[V7 M0,V7 (fun q=>q (by rw[h3,G6,Dl];exact Zvo.2 h2))];exact(hv i hi k h3).2.2
 have a3:∀ k:Nat,k<l.length→(Zj l).getD k 0=3→∃ j,j<E.length∧Gc E j=(k:Int):=fun k hk h3=>by
  rw[Dl] at h3;obtain⟨j,hj,e⟩:=O6 (Zie.2 ⟨k,hk,Zvo.1 h3,rfl⟩);have a:=(hg j hj).1;rw[Hw (l:=Zp l l.length) hj,e] at a;exact⟨j,M0,a⟩
 rw[Oa a0,V8 (open_nil fun k hk h3=>a3 k (by rwa [Wo] at hk) h3)];congr 1;apply F6 (by rw[Hp,Wo]);intro k h1 h2;have e:=Zoh (E:=E) (i:=E.length) (show k<(Zj l).length by rwa [Hp] at h1);rw[show(Zgs (Zj l) E E.length).getD k 0=(Zgs (Zj l) E E.length)[k] from by simp[getD,h1]] at e;rw[e,show l[k]=l.getD k 0 from by simp[getD,h2]];by_cases h3:(Zj l).getD k 0=3
 ·obtain⟨j,hj,a2⟩:=a3 k h2 h3;unfold Zwz;rw[Zds hj a2 fun m a4=>by have:=Zvw a0 m j a4 hj;omega];exact(hv j hj k a2).1
 ·rw[jOut_not a0 h3,Dl];rw[Dl,Zvo] at h3;exact mn3_lt M0
theorem To(l:V6 Int):∀ j,(Xe l j).flatten=l.take (j*960)
 | 0=>by simp[Xe]
 | j+1=>by
  rw[Zhe,List.flatten_append,To l j,G8,I1,List.take_add];simp[Yv]
theorem Zbb(l:V6 Int):(Xe l (bmN l.length)).flatten=l:=by
 rw[To,B9 (by unfold bmN;omega)]
theorem Yd{L:V6 (V6 Int)}{q:Nat}{bs:Bl}:∀ n,(q+n)*256≤bs.length→(Xt L q bs n).length=bs.length
 | 0,_=>rfl
 | n+1,h=>by
  have ih:=Yd (L:=L) (q:=q) (bs:=bs) n M0;have hx:(Yf 3 ((q+n:Nat):Int) (Jr (L.getD n []))).length=256:=Yr (by unfold Jr;rw[Vj];decide);show(Qj (Xt L q bs n) ((q+n)*256) (Yf 3 ((q+n:Nat):Int) (Jr (L.getD n [])))).length=_;rw[Yk (by rw[hx,ih];omega),ih]
theorem Gp{l:V6 Int}(hc:∀ k,k<l.length→Ph (l.getD k 0))(i:Nat):Uo (Yv (Zj l) i)∧(Yv (Zj l) i).length≤960:=⟨Za0 (Zmu hc) i,by rw[Mg];exact K6 _ _⟩
theorem bitsB_I{l:V6 Int}(h:Uo l)(hl:l.length≤960):bitI (Jr l) l.length=l:=by
 apply F6 (by rw[Zmn]);intro i h1 h2;have e:=Zob h (i:=i) M0;rw[show l.getD i 0=l[i] from by simp[getD,h2]] at e;simp[bitI,Za5,e]
theorem Ra{F:Bl}{k:Nat}{c:V6 Int}(hk:k<F.length/256)(h4:k<14400)(hb:Kc F k=Yf 3 (k:Int) (Jr c))(hs:Uo c)(hl:c.length≤960):Ye F (k:Int)=0∧Ut F (k:Int)=c:=by
 have h:=Zfd (kind:=3) Do Do hk h4 (by unfold Jr;rw[Vj]) hb;have he:Ye F (k:Int)=0:=by unfold Ye;rw[V8 h.1,h.2,V8 (bitsB_ok hs hl)]
 refine⟨he,?_⟩;unfold Ut;rw[V8 he,h.2,Zap hl,bitsB_I hs hl]
theorem Ztq{L:V6 (V6 Int)}{q i:Nat}{e:Ent}(h0:1≤q)(h1:q+i≤14399)(hL:(L.getD i []).length≤960)(he:e.2.1=(Zfl L q i).2.1):Zjk e=((q+i,Yn (L.getD i []),Xi (L.getD i [])),e.2.2,0):=by
 have h2:Yn (L.getD i [])≤960:=N0 (Mt _ _) hL;have h3:Xi (L.getD i [])≤960:=N0 (Nv _) hL;have e2:(Zfl L q i).2.1=slB (q+i,Yn (L.getD i []),Xi (L.getD i [])):=rfl;unfold Zjk slotT;rw[he,e2,Zm6 (x:=(q+i,Yn (L.getD i []),Xi (L.getD i []))) (by simp only;omega) h1 h2 h3,Zkr (x:=(q+i,Yn (L.getD i []),Xi (L.getD i []))) (by simp only;omega) h1 h2 h3];rfl
theorem Bu{t:Int}{l:V6 Ent}{q p:Nat}{L:V6 (V6 Int)}{bs:Bl}(h1:1≤t)(h2:t≤5)(E:EntsOk (Jl t true) l)(hq:q+Zy t l.length≤p):∀ j,(p+j)*256≤bs.length→Xf t l q (Xt L p bs j)=((Xf t l q bs).1,Xt L p (Xf t l q bs).2 j)
 | 0,_=>by simp only[Xt]
 | j+1,h=>by
  have ih:=Bu (L:=L) (bs:=bs) h1 h2 E hq j M0;have hc:=Yd (L:=L) (q:=p) (bs:=bs) j M0;have hx:(Yf 3 ((p+j:Nat):Int) (Jr (L.getD j []))).length=256:=Yr (by unfold Jr;rw[Vj];decide);rw[show Xt L p bs (j+1)=Qj (Xt L p bs j) ((p+j)*256) (Yf 3 ((p+j:Nat):Int) (Jr (L.getD j []))) from rfl,Ho h1 h2 E hx (by rw[hc];omega) (by rw[hc];omega) M0,ih];rfl
theorem Zd2{l:V6 Int}{f m:Nat}(h:Zbe l (f:Int)):∀ k,k≤l.length→Zp (Qy l f m) k=Zp l k
 | 0,_=>rfl
 | k+1,hk=>by
  rw[Dk,Dk,Zd2 h k M0];congr 1;unfold ovX;rw[Fm M0];by_cases hc:f≤k∧k<f+m
  ·have:=(h k M0).1 M0;rw[V8 hc,this,V7 M0,V7 M0]
  ·rw[V7 hc,Int.add_zero]
theorem Zt6{l:V6 Int}{u:Nat}{bs:Bl}{am:Int}(hu:1≤u)(hs:Jn l=0)(hf:Zbe l (u:Int))(hl:l.length≤3000)(h4:u+Yj l≤14400)(hb:(u+Yj l)*256≤bs.length)(hfu:(Yj l:Int)≤am) :
 Zcc (Ke l u 0 bs).2.2 (Ke l u 0 bs).1 (Ke l u 0 bs).2.1 (l.length:Int) am=([],0,Qy l u (Yj l)):=by
 obtain⟨N,hN⟩:∃ N,bmN l.length=N:=⟨_,rfl⟩
 obtain⟨O,hO⟩:∃ O,Zp l l.length=O:=⟨_,rfl⟩
 obtain⟨T,hT⟩:∃ T,Zy 5 O.length=T:=⟨_,rfl⟩
 have hm:Yj l=T+N+1:=by unfold Yj;rw[hN,hO,hT]
 obtain⟨B,hB⟩:∃ B,Qy l u (Yj l)=B:=⟨_,rfl⟩
 have a5:B.length=l.length:=by rw[←hB,Qe]
 have c5:Zp B B.length=O:=by rw[a5,←hB,Zd2 hf _ (At _),hO]
 have b5:∀ k,k<B.length→Ph (B.getD k 0):=by rw[←hB];exact Ii hf (Ws hs).2
 obtain⟨C,hC⟩:∃ C,Xe (Zj B) N=C:=⟨_,rfl⟩
 obtain⟨R,hR⟩:∃ R,Rs C (u+T) N=R:=⟨_,rfl⟩
 obtain⟨X,hX⟩:∃ X,Yf 4 ((u+T+N:Nat):Int) (Fw R)=X:=⟨_,rfl⟩
 have c9:N≤4:=by unfold bmN at hN;omega
 have d0:O.length≤l.length:=by rw[←hO];exact By _ _
 have hP:Ke l u 0 bs=(((u+T+N:Nat):Int),(Xf 5 O u bs).1,Qj (Xt C (u+T) (Xf 5 O u bs).2 N) ((u+T+N)*256) X):=by
  unfold Ke;simp only[G4,hB,a5,hN,hO,hT,hC,hR,hX]
 have EO:EntsOk (Jl 5 true) O:=hO▸Vl _ _ M0
 have b9:∀ i,i<N→C.getD i []=Yv (Zj B) i:=fun i hi=>by rw[←hC,Ko hi]
 have b0:=Gp b5
 have c0:∀ i,i<N→R.getD i rsD=(u+T+i,Yn (Yv (Zj B) i),Xi (Yv (Zj B) i)):=fun i hi=>by rw[←hR,Ztv hi,b9 i hi]
 have a9:R.length=N:=by rw[←hR,Du]
 have b4:Rv R:=⟨M0,fun i hi=>by
  rw[a9] at hi;rw[c0 i hi];have h1:=(b0 i).2;exact⟨by show 1≤u+T+i;omega,by show u+T+i≤14399;omega,N0 (Mt _ _) h1,N0 (Nv _) h1⟩⟩
 have c2:(Fw R).length=244:=Db M0
 have a3:X.length=256:=by rw[←hX];exact Yr M0
 have a0:=Qa (t:=5) (l:=O) (q:=u) (bs:=bs) Do Do EO (by rw[hT];omega)
 have a4:=Yd (L:=C) (q:=u+T) (bs:=bs) N M0
 have a2:=Yd (L:=C) (q:=u+T) (bs:=(Xf 5 O u bs).2) N (by rw[a0.1];omega)
 have c6:(Qj (Xt C (u+T) bs N) ((u+T+N)*256) X).length=bs.length:=by rw[Yk (by rw[a3,a4];omega),a4]
 have c7:Xf 5 O u (Qj (Xt C (u+T) bs N) ((u+T+N)*256) X)=((Xf 5 O u bs).1,Qj (Xt C (u+T) (Xf 5 O u bs).2 N) ((u+T+N)*256) X):=by
  rw[Ho Do Do EO a3 (by rw[a4,hT];omega) (by rw[a4];omega) (by rw[hT];omega),Bu Do Do EO (by rw[hT];exact At _) N M0]
 have s5:=Dd (t:=5) (am:=am) (l:=O) (q:=u) (bs:=Qj (Xt C (u+T) bs N) ((u+T+N)*256) X) Do Do EO M0 hu (by rw[c6,hT];omega) (by rw[hT];omega) (by rw[hT];omega)
 rw[c7] at s5
 rw[hP]
 obtain⟨b6,d1,c1,-,a7⟩:=s5
 simp only at a7 ⊢
 obtain⟨F,hF⟩:∃ F,Qj (Xt C (u+T) (Xf 5 O u bs).2 N) ((u+T+N)*256) X=F:=⟨_,rfl⟩
 have b7:F.length=bs.length:=by rw[←hF,Yk (by rw[a3,a2,a0.1];omega),a2,a0.1]
 have a8:=Zfd (l:=F) (kind:=4) (k:=u+T+N) (li:=Fw R) Do Do (by rw[b7];omega) M0 c2 (by rw[←hF,hX];exact Fx a3 (by rw[a2,a0.1];omega))
 have a6:∀ i,i<N→Ye F ((u+T+i:Nat):Int)=0∧Ut F ((u+T+i:Nat):Int)=Yv (Zj B) i:=fun i hi=>by
  refine Ra (by rw[b7];omega) M0 ?_ (b0 i).1 (b0 i).2;rw[←hF,Va (k:=u+T+N) a3 (by rw[a2,a0.1];omega) M0 (by rw[a2,a0.1];omega),Cg (m:=bs.length/256) (by rw[a2,a0.1]) (by rw[a0.1]) M0 hi,b9 i hi]
 rw[hF] at a7 ⊢
 have b8:Qr F ((u+T+N:Nat):Int)=0:=by unfold Qr;rw[V8 a8.1,a8.2];exact(Fy b4).1
 have c4:Wj F ((u+T+N:Nat):Int)=R:=by rw[(Rr b8).1,a8.2,Ze6 M0];exact(Fy b4).2
 have b2:∀ i,i<N→(R.map (Zok ((u+T+N:Nat):Int))).getD i Mi=((u+T+i,Yn (Yv (Zj B) i),Xi (Yv (Zj B) i)),((u+T+N:Nat):Int),0):=fun i hi=>by
  have e:=c0 i hi;rw[show R.getD i rsD=R[i]' M0 from by simp[getD,show i<R.length by omega]] at e;simp only[getD,C3,A9 (show i<R.length by omega),D3,K2,e];rfl
 have h1:∀ i,i<N→Zgn F (R.map (Zok ((u+T+N:Nat):Int))) (l.length:Int) i=if((Yv (Zj B) i).length:Int)≠Ur (l.length:Int) i then([((u+T+N:Nat):Int)],7,[]) else([],0,Yv (Zj B) i):=fun i hi=>by
  unfold Zgn Zp5;rw[b2 i hi];simp only;rw[(a6 i hi).1,(a6 i hi).2];simp
 have c3:∀ i,(Yv (Zj B) i).length=min 960 (l.length-i*960):=fun i=>by rw[Mg,Wo,a5]
 have a1:(Ze F (Xf 5 O u bs).1 5 am).es=b6∧(Ze F (Xf 5 O u bs).1 5 am).fs=[]:=by rw[a7];exact⟨rfl,rfl⟩
 have b3:(R.map (Zok ((u+T+N:Nat):Int))).length=N:=by rw[A3,a9]
 have c8:N*960<l.length+960∧l.length≤N*960:=by unfold bmN at hN;omega
 unfold Zcc
 rw[V7 (fun q=>q b8),c4,V7 (fun q=>q (by rw[a9];unfold bmI;rw[G6,hN]))]
 rw[Zb4 fun i hi=>by
  rw[b3] at hi;rw[h1 i hi,V7 (fun q=>q (by rw[c3];unfold Ur;split<;>omega))]]
 have ha:Ba F (R.map (Zok ((u+T+N:Nat):Int))) (l.length:Int) (R.map (Zok ((u+T+N:Nat):Int))).length=C:=by
  rw[b3,←hC];unfold Ba Xe;apply F9;intro i hi;have hi:=A7.1 hi;rw[b2 i hi];exact(a6 i hi).2
 have b1:C.flatten=Zj B:=by
  have:=Zbb (Zj B);rwa [Wo,a5,hN,hC] at this
 have hj:=Zjb (E:=b6) b5 (by rw[c5];exact c1)
 rw[ha,Ze9 a1.2 (by rw[b1,a1.1,hj]),b1,a1.1,hj,hB]
end
end
section
open Go.RowKit
def SeqL{α:Type}(P:V4)(g:Nat)(lb:Array V2)(encs:α→Array V2)(Kp:V1→V1→Prop)(q:Nat→Prop)(R:V6 α)(w:V1):Prop :=
 ∀ (l:Nat) (J Jx:Nat→V1→Prop) (W:V1),B3 w W →
  (∀ k A B row,J k A→A.grownBy B row→(∀ r,row=some r→q r)→J k B) →
  (∀ k x V,R[k]? = some x→J k V→YieldAt Fence.wide 2 P l (encs x) V fun e U =>
   (e=.returned (.bool true)∧J (k+1) U∧Kp V U)∨(e=.returned (.bool false)∧Jx k U)) →
  J 0 W →
  CallsIn Fence.wide 3 P g (#[.func (.yield l) #[] #[]]++lb) W fun e U=>(∃ v,e=.returned v)∧(J R.length U∨∃ k,k<R.length∧Jx k U)
def rdPost(B:Nat)(Kp:V1→V1→Prop)(I:Nat→V1→Prop)(Ix:Code→Nat→V1→Prop)(k:Nat)(W:V1):Exit→Act→V1→Prop
 | .normal,_,V=>KeepsFrom B W V∧Kp W V∧I (k+1) V
 | .ret,_,V=>KeepsFrom B W V∧Ix .ret k V
 | .exit id,_,V=>KeepsFrom B W V∧Ix (.exit id) k V
 | .goto _,_,_=>False
 | .panic _,_,_=>False
 | .outgrown,_,_=>False
structure RecAt(n:Nat)(r:Loop)(W:V1):Prop where
 l:W.heap[n+1]? = some (.loop r)
 d:W.heap[n]? = some (.deferred (some []))
theorem RecAt.lt{n:Nat}{r:Loop}{W:V1}(h:RecAt n r W):n+1<W.heap.size:=(Array.getElem?_eq_some_iff.1 h.l).1
theorem RecAt.kept{n:Nat}{r:Loop}{A B:V1}{row:Option Nat}(h:RecAt n r A)(hg:A.grownBy B row)(hr:∀ k,row=some k→k<n):RecAt n r B :=
 ⟨(hg.block _ h.lt (fun e=>by have:=hr _ e.symm;omega)).trans h.l,(hg.block _ (by have:=h.lt;omega) (fun e=>by have:=hr _ e.symm;omega)).trans h.d⟩
theorem RecAt.from{n:Nat}{r:Loop}{A B:V1}(h:RecAt n r A)(k:KeepsFrom n A B):RecAt n r B:=⟨k.same _ _ M0 h.l rfl,k.same _ _ (At _) h.d rfl⟩
theorem RecAt.put{n:Nat}{r:Loop}{A:V1}(h:RecAt n r A)(r':Loop):RecAt n r' (A.putObj (n+1) (.loop r')) :=
 ⟨World.putObj_heap_same h.lt,(H4 M0).trans h.d⟩
theorem Zik{α:Type}{P:V4}{g:Operand}{ps:Array Tmp}{assign body:Code}{Q:Exit→Act→V1→Prop}{a:Act}{w:V1}{gf:Nat}{lb:Array V2}
  (hg:a.eval g=.func (.func gf) #[] lb) (eg:∀ args w,(callFunc gf args).run P w=.ok (.enter gf args) w) {encs:α→Array V2} {R:V6 α} (p q:Nat→Prop) (hp:∀ b,p b→b<w.heap.size) (hq:∀ b,q b→b<w.heap.size)
  (hseq:SeqL P gf lb encs (Keeps p) q R w) (hps:∀ x,(encs x).size=ps.size)
  (I:Nat→V1→Prop) (Ix:Code→Nat→V1→Prop) (hI:∀ k A B row,I k A→A.grownBy B row→(∀ r,row=some r→q r∨w.heap.size≤r∧∃ o:Obj,A.heap[r]? = some o∧o.isCells=false)→I k B)
  (hIx:∀ c k A B row,Ix c k A→A.grownBy B row→(∀ r,row=some r→w.heap.size≤r∧∃ o:Obj,A.heap[r]? = some o∧o.isCells=false)→Ix c k B) (h0:I 0 w) (a₁:α→Act)
  (hassign:∀ (l k:Nat) (x:α) (W:V1) (K:Act→V1→Prop),R[k]? = some x→K (a₁ x) W →
   assign.wpIn (Fence.wide.inRound l) 2 P (Exit.then K (fun _ _ _=>False)) { tmps:=(ps.zip (encs x)).foldl (fun t (p,v)=>t.setIfInBounds p v) a.tmps,defers:=[] } W)
  (hbody:∀ (l k:Nat) (x:α) (W:V1),w.heap.size≤l→R[k]? = some x→I k W→body.wpIn (Fence.wide.inRound l) 2 P (rdPost w.heap.size (Keeps p) I Ix k W) (a₁ x) W)
  (hdone:∀ (D:Nat) (W:V1),w.heap.size≤D→I R.length W→W.heap[D]? = some (.deferred (some []))→Q .normal { a with defers:={ target:=.collected D,args:=#[] }::a.defers } W)
  (hstop:∀ (D:Nat) (c:Code) (k:Nat) (W:V1),w.heap.size≤D→k<R.length→Ix c k W→W.heap[D]? = some (.deferred (some []))→c.wp P Q { a with defers:={ target:=.collected D,args:=#[] }::a.defers } W) :
  (Code.rangeFunc g ps assign body).wp P Q a w:=by
 refine(wpIn_wide (n:=4)).1 (wpIn_rangeFunc fun fn _=>?_)
 obtain⟨a2,a0⟩:∃ a2:LoopState→Option Code→Loop,a2=fun st pe=>{ state:=st,pending:=pe,fn,tmps:=a.tmps,params:=ps,assign,body,defers:=w.heap.size }:=⟨_,rfl⟩
 obtain⟨W1,b0⟩:∃ W1,(w.alloc (.deferred (some []))).alloc (.loop (a2 .ready none))=W1:=⟨_,rfl⟩
 have c0:RecAt w.heap.size (a2 .ready none) W1:=by
  rw[←b0];refine⟨?_,(Below.heap_alloc _ _ _ Y5).trans (K4 w _)⟩;have:=K4 (w.alloc (.deferred (some []))) (.loop (a2 .ready none));rwa [World.size_alloc] at this
 have b6:I 0 W1:=by
  rw[←b0];exact hI _ _ _ none (hI _ _ _ none h0 (M6 _ _ _) (fun _ e=>by cases e)) (M6 _ _ _) (fun _ e=>by cases e)
 have b8:B3 w W1:=by
  rw[←b0];exact((U3 _ w).alloc (At _) _).alloc Y5 _
 refine⟨w.heap.size+1,[{ target:=.collected w.heap.size,args:=#[] }],W1,{ target:=.fn (.func gf) lb,args:=#[.func (.yield (w.heap.size+1)) #[] #[]] },W1,gf,
  #[.func (.yield (w.heap.size+1)) #[] #[]]++lb,W1,?_,?_,fun _ _=>trivial,?_,fun _=>by omega,?_⟩
 ·rw[←b0,a0];exact run_enterLoop_outer _ _ _ _ _
 ·simp only[resolve,hg]
  simp[go_sem]
 ·simp[invoke,go_sem,eg]
 refine(hseq (w.heap.size+1) (fun k W=>I k W∧RecAt w.heap.size (a2 .ready none) W) (fun k W=>∃ c,Ix c k W∧RecAt w.heap.size (a2 .done (some c)) W) W1 b8
  (fun k A B row hs b4 hr=>⟨hI _ _ _ _ hs.1 b4 (fun r e=>.inl (hr r e)),hs.2.kept b4 (fun r e=>hq r (hr r e))⟩) ?_ ⟨b6,c0⟩).mono ?_
 ·rintro k x W hx ⟨hi,hl⟩
  have hy:=run_yield (P:=P) (args:=encs x) hl.l (by rw[a0];exact hps x)
  rw[a0] at hy
  refine⟨fn,_,assign,body,hy,roundIn_of_wpIn trivial (hassign _ k x W _ hx ⟨_,run_beginRound hl.l (by rw[a0]),?_⟩)⟩
  obtain⟨Wb,a7⟩:∃ Wb,W.putObj (w.heap.size+1) (.loop { a2 .ready none with state:=.busy })=Wb:=⟨_,rfl⟩
  have b7:RecAt w.heap.size (a2 .busy none) Wb:=by
   have:=hl.put (a2 .busy none);rw[a0] at this a7;rw[a7] at this;rw[a0];exact this
  have b5:I k Wb:=by
   rw[←a7];exact hI _ _ _ _ hi (grownBy_putObj' W _ _) (fun r e=>.inr (by cases e;exact⟨M0,_,hl.l,rfl⟩))
  have b9:Keeps p W Wb:=by
   rw[←a7];exact Oe hp W _ _ _ M0 hl.l rfl rfl
  rw[a7]
  refine wpIn_mono (hbody _ k x Wb M0 hx b5) ?_
  have b1:∀ (a1:Option Code) (V:V1),KeepsFrom w.heap.size Wb V→RecAt w.heap.size (a2 .busy none) V∧∃ U,U=V.putObj (w.heap.size+1) (.loop (a2 (if a1.isNone then .ready else .done) a1)) ∧
    (Instr.endRound (w.heap.size+1) a1).run P V=.ok (.bool a1.isNone) U∧RecAt w.heap.size (a2 (if a1.isNone then .ready else .done) a1) U:=fun a1 V hk=>by
   have hv:=b7.from hk
   have he:=run_endRound (P:=P) a1 hv.l
   refine⟨hv,_,rfl,?_,hv.put _⟩
   rw[a0] at he ⊢
   exact he
  have b3:∀ {V:V1} {r r':Loop} {k:Nat},RecAt w.heap.size r V→I k V→I k (V.putObj (w.heap.size+1) (.loop r')):=fun hv h=>hI _ _ _ _ h (grownBy_putObj' _ _ _) (fun r e=>.inr (by cases e;exact⟨M0,_,hv.l,rfl⟩))
  have a6:∀ {V:V1} {r r':Loop} {c:Code} {k:Nat},RecAt w.heap.size r V→Ix c k V→Ix c k (V.putObj (w.heap.size+1) (.loop r')):=fun hv h=>hIx _ _ _ _ _ h (grownBy_putObj' _ _ _) (fun r e=>by cases e;exact⟨M0,_,hv.l,rfl⟩)
  rintro e a3 V a4
  cases e with
  | normal =>
   obtain⟨a9,b2,a5⟩:=a4
   obtain⟨hv,U,rfl,hr,a8⟩:=b1 none V a9
   exact⟨_,_,hr,.inl ⟨rfl,⟨b3 hv a5,a8⟩,(b9.trans b2).trans (Oe hp V _ _ _ M0 hv.l rfl rfl)⟩⟩
  | ret =>
   obtain⟨a9,a5⟩:=a4
   obtain⟨hv,U,rfl,hr,a8⟩:=b1 (some .ret) V a9
   exact⟨_,_,hr,.inr ⟨rfl,.ret,a6 hv a5,a8⟩⟩
  | exit id =>
   obtain⟨a9,a5⟩:=a4
   obtain⟨hv,U,rfl,hr,a8⟩:=b1 (some (.exit id)) V a9
   exact⟨_,_,hr,.inr ⟨rfl,.exit id,a6 hv a5,a8⟩⟩
  | goto t=>exact a4.elim
  | panic ch=>exact a4.elim
  | outgrown=>exact a4.elim
 ·rintro e W2 ⟨⟨v,rfl⟩,(⟨hi,hl⟩|⟨k,hk,c,hi,hl⟩)⟩
  ·have he:=run_endLoop (P:=P) hl.l (by rw[a0];simp)
   rw[show(a2 .ready none).pending=none by rw[a0]] at he
   exact⟨none,_,he,hdone _ _ (At _) (hI _ _ _ _ hi (grownBy_putObj' _ _ _) (fun r e=>.inr (by cases e;exact⟨M0,_,hl.l,rfl⟩))) ((H4 M0).trans hl.d)⟩
  ·have he:=run_endLoop (P:=P) hl.l (by rw[a0];simp)
   rw[show(a2 .done (some c)).pending=some c by rw[a0]] at he
   exact⟨some c,_,he,wpIn_wide.2 (hstop _ c k _ (At _) hk (hIx _ _ _ _ _ hi (grownBy_putObj' _ _ _) (fun r e=>by cases e;exact⟨M0,_,hl.l,rfl⟩)) ((H4 M0).trans hl.d))⟩
def SeqB{α:Type}(P:V4)(g:Nat)(lb:Array V2)(encs:α→Array V2)(Kp:V1→V1→Prop)(R:V6 α)(w:V1):Prop :=
 ∀ (l:Nat) (J Jx:Nat→V1→Prop) (W:V1),B3 w W →
  (∀ k A B,J k A→Below A.heap.size A B→J k B) →
  (∀ k x V,R[k]? = some x→J k V→YieldAt Fence.wide 2 P l (encs x) V fun e U =>
   (e=.returned (.bool true)∧J (k+1) U∧Kp V U)∨(e=.returned (.bool false)∧Jx k U)) →
  J 0 W →
  CallsIn Fence.wide 3 P g (#[.func (.yield l) #[] #[]]++lb) W fun e U=>(∃ v,e=.returned v)∧(J R.length U∨∃ k,k<R.length∧Jx k U)
theorem RecAt.bel{n:Nat}{r:Loop}{A B:V1}(h:RecAt n r A)(k:Below A.heap.size A B):RecAt n r B:=⟨(k.block _ h.lt).trans h.l,(k.block _ (by have:=h.lt;omega)).trans h.d⟩
theorem Zvx{α:Type}{P:V4}{g:Operand}{ps:Array Tmp}{assign body:Code}{Q:Exit→Act→V1→Prop}{a:Act}{w:V1}{gf:Nat}{lb:Array V2}
  (hg:a.eval g=.func (.func gf) #[] lb) (eg:∀ args w,(callFunc gf args).run P w=.ok (.enter gf args) w) {encs:α→Array V2} {R:V6 α} (p:Nat→Prop) (hp:∀ b,p b→b<w.heap.size)
  (hseq:SeqB P gf lb encs (Keeps p) R w) (hps:∀ x,(encs x).size=ps.size)
  (I:Nat→V1→Prop) (Ix:Code→Nat→V1→Prop) (hIb:∀ k A B,I k A→Below A.heap.size A B→I k B) (hI:∀ k A B row,I k A→A.grownBy B row→(∀ r,row=some r→w.heap.size≤r∧∃ o:Obj,A.heap[r]? = some o∧o.isCells=false)→I k B)
  (hIx:∀ c k A B row,Ix c k A→A.grownBy B row→(∀ r,row=some r→w.heap.size≤r∧∃ o:Obj,A.heap[r]? = some o∧o.isCells=false)→Ix c k B) (h0:I 0 w) (A2:α→Act→V1→Prop)
  (hA2:∀ x a A B row,A2 x a A→A.grownBy B row→(∀ r,row=some r→w.heap.size≤r∧∃ o:Obj,A.heap[r]? = some o∧o.isCells=false)→A2 x a B)
  (hassign:∀ (l k:Nat) (x:α) (W:V1) (K:Act→V1→Prop),R[k]? = some x→I k W→(∀ a2 W2,B3 W W2→A2 x a2 W2→K a2 W2) →
   assign.wpIn (Fence.wide.inRound l) 2 P (Exit.then K (fun _ _ _=>False)) { tmps:=(ps.zip (encs x)).foldl (fun t (p,v)=>t.setIfInBounds p v) a.tmps,defers:=[] } W)
  (hbody:∀ (l k:Nat) (x:α) (a2:Act) (W:V1),w.heap.size≤l→R[k]? = some x→I k W→A2 x a2 W→body.wpIn (Fence.wide.inRound l) 2 P (rdPost w.heap.size (Keeps p) I Ix k W) a2 W)
  (hdone:∀ (D:Nat) (W:V1),w.heap.size≤D→I R.length W→W.heap[D]? = some (.deferred (some []))→Q .normal { a with defers:={ target:=.collected D,args:=#[] }::a.defers } W)
  (hstop:∀ (D:Nat) (c:Code) (k:Nat) (W:V1),w.heap.size≤D→k<R.length→Ix c k W→W.heap[D]? = some (.deferred (some []))→c.wp P Q { a with defers:={ target:=.collected D,args:=#[] }::a.defers } W) :
  (Code.rangeFunc g ps assign body).wp P Q a w:=by
 refine(wpIn_wide (n:=4)).1 (wpIn_rangeFunc fun fn _=>?_)
 obtain⟨a4,a0⟩:∃ a4:LoopState→Option Code→Loop,a4=fun st pe=>{ state:=st,pending:=pe,fn,tmps:=a.tmps,params:=ps,assign,body,defers:=w.heap.size }:=⟨_,rfl⟩
 obtain⟨W1,b2⟩:∃ W1,(w.alloc (.deferred (some []))).alloc (.loop (a4 .ready none))=W1:=⟨_,rfl⟩
 have c3:RecAt w.heap.size (a4 .ready none) W1:=by
  rw[←b2];refine⟨?_,(Below.heap_alloc _ _ _ Y5).trans (K4 w _)⟩;have:=K4 (w.alloc (.deferred (some []))) (.loop (a4 .ready none));rwa [World.size_alloc] at this
 have b8:I 0 W1:=by
  rw[←b2];exact hI _ _ _ none (hI _ _ _ none h0 (M6 _ _ _) (fun _ e=>by cases e)) (M6 _ _ _) (fun _ e=>by cases e)
 have c1:B3 w W1:=by
  rw[←b2];exact((U3 _ w).alloc (At _) _).alloc Y5 _
 refine⟨w.heap.size+1,[{ target:=.collected w.heap.size,args:=#[] }],W1,{ target:=.fn (.func gf) lb,args:=#[.func (.yield (w.heap.size+1)) #[] #[]] },W1,gf,
  #[.func (.yield (w.heap.size+1)) #[] #[]]++lb,W1,?_,?_,fun _ _=>trivial,?_,fun _=>by omega,?_⟩
 ·rw[←b2,a0];exact run_enterLoop_outer _ _ _ _ _
 ·simp only[resolve,hg]
  simp[go_sem]
 ·simp[invoke,go_sem,eg]
 refine(hseq (w.heap.size+1) (fun k W=>I k W∧RecAt w.heap.size (a4 .ready none) W) (fun k W=>∃ c,Ix c k W∧RecAt w.heap.size (a4 .done (some c)) W) W1 c1
  (fun k A B hs hb=>⟨hIb _ _ _ hs.1 hb,hs.2.bel hb⟩) ?_ ⟨b8,c3⟩).mono ?_
 ·rintro k x W hx ⟨hi,hl⟩
  have hy:=run_yield (P:=P) (args:=encs x) hl.l (by rw[a0];exact hps x)
  rw[a0] at hy
  refine⟨fn,_,assign,body,hy,roundIn_of_wpIn trivial (hassign _ k x W _ hx hi fun a2 W2 b0 b9=>⟨_,run_beginRound (hl.bel b0).l (by rw[a0]),?_⟩)⟩
  have b3:=hl.bel b0
  obtain⟨Wb,a6⟩:∃ Wb,W2.putObj (w.heap.size+1) (.loop { a4 .ready none with state:=.busy })=Wb:=⟨_,rfl⟩
  have c0:RecAt w.heap.size (a4 .busy none) Wb:=by
   have:=b3.put (a4 .busy none);rw[a0] at this a6;rw[a6] at this;rw[a0];exact this
  have b7:I k Wb:=by
   rw[←a6];exact hI _ _ _ _ (hIb _ _ _ hi b0) (grownBy_putObj' W2 _ _) (fun r e=>by cases e;exact⟨M0,_,b3.l,rfl⟩)
  have c4:A2 x a2 Wb:=by
   rw[←a6];exact hA2 _ _ _ _ _ b9 (grownBy_putObj' W2 _ _) (fun r e=>by cases e;exact⟨M0,_,b3.l,rfl⟩)
  have c2:Keeps p W Wb:=by
   have h1:Keeps p W W2:=⟨b0.size,fun b hb=>b0.block b (Nat.lt_trans (hp b hb) (by have:=hl.lt;omega))⟩;rw[←a6];exact h1.trans (Oe hp W2 _ _ _ M0 b3.l rfl rfl)
  rw[a6]
  refine wpIn_mono (hbody _ k x a2 Wb M0 hx b7 c4) ?_
  have b4:∀ (a1:Option Code) (V:V1),KeepsFrom w.heap.size Wb V→RecAt w.heap.size (a4 .busy none) V∧∃ U,U=V.putObj (w.heap.size+1) (.loop (a4 (if a1.isNone then .ready else .done) a1)) ∧
    (Instr.endRound (w.heap.size+1) a1).run P V=.ok (.bool a1.isNone) U∧RecAt w.heap.size (a4 (if a1.isNone then .ready else .done) a1) U:=fun a1 V hk=>by
   have hv:=c0.from hk
   have he:=run_endRound (P:=P) a1 hv.l
   refine⟨hv,_,rfl,?_,hv.put _⟩
   rw[a0] at he ⊢
   exact he
  have b6:∀ {V:V1} {r r':Loop} {k:Nat},RecAt w.heap.size r V→I k V→I k (V.putObj (w.heap.size+1) (.loop r')):=fun hv h=>hI _ _ _ _ h (grownBy_putObj' _ _ _) (fun r e=>(by cases e;exact⟨M0,_,hv.l,rfl⟩))
  have a8:∀ {V:V1} {r r':Loop} {c:Code} {k:Nat},RecAt w.heap.size r V→Ix c k V→Ix c k (V.putObj (w.heap.size+1) (.loop r')):=fun hv h=>hIx _ _ _ _ _ h (grownBy_putObj' _ _ _) (fun r e=>by cases e;exact⟨M0,_,hv.l,rfl⟩)
  rintro e a3 V a5
  cases e with
  | normal =>
   obtain⟨b1,b5,a7⟩:=a5
   obtain⟨hv,U,rfl,hr,a9⟩:=b4 none V b1
   exact⟨_,_,hr,.inl ⟨rfl,⟨b6 hv a7,a9⟩,(c2.trans b5).trans (Oe hp V _ _ _ M0 hv.l rfl rfl)⟩⟩
  | ret =>
   obtain⟨b1,a7⟩:=a5
   obtain⟨hv,U,rfl,hr,a9⟩:=b4 (some .ret) V b1
   exact⟨_,_,hr,.inr ⟨rfl,.ret,a8 hv a7,a9⟩⟩
  | exit id =>
   obtain⟨b1,a7⟩:=a5
   obtain⟨hv,U,rfl,hr,a9⟩:=b4 (some (.exit id)) V b1
   exact⟨_,_,hr,.inr ⟨rfl,.exit id,a8 hv a7,a9⟩⟩
  | goto t=>exact a5.elim
  | panic ch=>exact a5.elim
  | outgrown=>exact a5.elim
 ·rintro e W2 ⟨⟨v,rfl⟩,(⟨hi,hl⟩|⟨k,hk,c,hi,hl⟩)⟩
  ·have he:=run_endLoop (P:=P) hl.l (by rw[a0];simp)
   rw[show(a4 .ready none).pending=none by rw[a0]] at he
   exact⟨none,_,he,hdone _ _ (At _) (hI _ _ _ _ hi (grownBy_putObj' _ _ _) (fun r e=>(by cases e;exact⟨M0,_,hl.l,rfl⟩))) ((H4 M0).trans hl.d)⟩
  ·have he:=run_endLoop (P:=P) hl.l (by rw[a0];simp)
   rw[show(a4 .done (some c)).pending=some c by rw[a0]] at he
   exact⟨some c,_,he,wpIn_wide.2 (hstop _ c k _ (At _) hk (hIx _ _ _ _ _ hi (grownBy_putObj' _ _ _) (fun r e=>by cases e;exact⟨M0,_,hl.l,rfl⟩)) ((H4 M0).trans hl.d))⟩
section
attribute [local go_sem] Oper.semAt_some
theorem Sl.to{w W:V1}{v:V2}{n:Nat}{xs:V6 V2}(h:Sl w v n xs)(hk:∀ a x,w.cell? a=some x→W.cell? a=some x):Sl W v n xs:=by
 rcases h with h|⟨b,a1,a0,h1,h2,h3,h4⟩
 ·exact .inl h
 ·exact .inr ⟨b,a1,a0,h1,h2,h3,fun j x hj=>hk _ _ (h4 j x hj)⟩
theorem DevsR.to{w W:V1}{p:O0}{c:Nat}{Z:V6 Zv}(h:DevsR w p c Z)(hk:∀ a x,w.cell? a=some x→W.cell? a=some x):DevsR W p c Z:=⟨Sl.to h.row hk,fun i hi=>Sl.to (h.each i hi) hk⟩
def encM(x:Nat×Mp):Array V2:=#[V0 (x.1:Int),.agg #[V0 x.2.1,V0 x.2.2.1,V0 x.2.2.2]]
theorem Zaz{q:Nat→Prop}{W V:V1}(h:Keeps q W V)(hq:∀ b,q b→b<W.heap.size)(o:Obj):Keeps q W (V.alloc o):=by
 have hb:=(U3 V.heap.size V).alloc (At _) o;exact⟨N0 h.size hb.size,fun b a0=>(hb.block b (D5 (hq b a0) h.size)).trans (h.block b a0)⟩
theorem sl_lit{α:Type}{f:α→V6 V2}{w:V1}{p:O0}{n c:Nat}{l:V6 α}(h:Sl w (.slice p n c) n (l.flatMap f))(hn:0<n):∃ pb po,p=some ⟨pb,po,none⟩∧∀ j x,(l.flatMap f)[j]? = some x→w.cell? ⟨pb,po+j,none⟩=some x:=by
 rcases h with ⟨a,cc,h1,h2,_⟩|⟨pb,po,a0,h1,_,_,h4⟩
 ·omega
 ·simp only[C2] at h1;exact⟨pb,po,h1.1,h4⟩
theorem maps1_in(l B1:Nat)(pp:O0)(n c:Nat)(t u v x:Int)(Z:V6 Zv)(w:V1)(hZ:Z.length=n)(hP:DevsR w pp c Z)(hn:n≤1000000000)(q:Nat→Prop)(hq:∀ b,b<w.heap.size→q b)(J Jx:Nat→V1→Prop)(hJ:∀ k A B,J k A→Below A.heap.size A B→J k B)
 (hY:∀ k x V,(Uz 0 (Z.map fst))[k]? = some x→J k V→YieldAt Fence.wide 2 Tryz.prog l (encM x) V fun e U =>
 (e=.returned (.bool true)∧J (k+1) U∧Keeps q V U)∨(e=.returned (.bool false)∧Jx k U))
 (W:V1) (hW:B3 w W) (hqlt:∀ b,q b→b<W.heap.size) (hk1:Blk W B1 [V0 t,V0 u,V0 v,V0 x,.slice pp n c] 24) (h0:J 0 W) :
 CallsIn Fence.wide 3 Tryz.prog 137 #[.func (.yield l) #[] #[],P0 B1] W fun e U=>(∃ v,e=.returned v)∧(J (Uz 0 (Z.map fst)).length U∨∃ k,k<(Uz 0 (Z.map fst)).length∧Jx k U):=by
 refine callsIn_of_wp Tryz.func137 rfl trivial ?_ rfl
 simp only[Tryz.ntmps137,Gt,C5,E4,Nat.reduceAdd,Nat.reduceSub,H9,Id,I9,I2,F7,Ge]
 have z4:=hk1.cell (i:=4) rfl
 have c6:(Z.map fst).length=n:=by rw[A3];exact hZ
 gi_wp2
 gi_loopw [10] (fun i wr=>∃ k:Nat,k≤n∧i=V0 (k:Int)∧J (Un ((Z.map fst).take k)) wr∧Keeps q W wr)
  (fun i _=>(n-(intOf i)).toNat)
 case atStart=>exact⟨0,A5 _,rfl,h0,Keeps.refl _ _⟩
 case round =>
  obtain⟨k,hk,rfl,a0,b5⟩:=hrel
  by_cases hlt:k<n
  ·have b6:∀ {V:V1},Keeps q W V→DevsR V pp c Z:=fun hV=>hP.to (fun a x ha=>(hV.cell (a:=a) (hq _ (ltC ha))).trans (Fh hW ha))
   have b3:=b6 b5
   have a1:Sl wr (.slice pp n c) n (Z.flatMap Zg5):=b3.b6 hZ
   obtain⟨pb,po,b9,hc⟩:=sl_lit a1 M0
   have gz:∀ i x,i<5→(Zg5 (Z.getD k zvD))[i]? = some x→wr.cell? ⟨pb,po+k*5+i,none⟩=some x:=fun i x hi hx=>by
    rw[F2];exact hc _ _ ((Fq Jd Z k i zvD M0 hi).trans hx)
   have a2:=fun j hj=>mapsR_at (L:=Z.map fst) (i:=k) (j:=j) M0 hj
   rw[zfst M0] at a2
   have a8:=Si (Z:=Z) (i:=k) M0
   have a9:=fun {V:V1} (hV:Keeps q W V)=>(b6 hV).each k M0
   obtain⟨⟨⟨⟨i0,i1,i2,i3⟩,M⟩,mp,mc⟩,hz⟩:∃ z,Z.getD k zvD=z:=⟨_,rfl⟩
   rw[hz] at gz a2 a8
   simp only[hz] at a9
   have z5:=gz 0 _ Do rfl
   have z6:=gz 1 _ Do rfl
   have z7:=gz 2 _ Do rfl
   have z8:=gz 3 _ Do rfl
   have z9:=gz 4 _ Do rfl
   rw[G4] at z5
   clear gz hc hz a1 b3
   subst b9
   obtain⟨S,hS⟩:∃ S,Un ((Z.map fst).take k)=S:=⟨_,rfl⟩
   rw[hS] at a0 a2 a8
   gi_wp2
   gi_loopw [18] (fun j b1=>∃ m:Nat,m≤M.length∧j=V0 (m:Int)∧J (S+m) b1∧Keeps q W b1)
    (fun j _=>(M.length-(intOf j)).toNat)
   case atStart=>exact⟨0,A5 _,rfl,hJ _ _ _ a0 ((U3 _ wr).alloc (At _) _),Zaz b5 hqlt _⟩
   case round =>
    obtain⟨m,hm,rfl,b2,a7⟩:=hrel
    have hM:=a9 a7
    have c5:M.length≤9223372036854775807:=Sl.len hM
    by_cases hmt:m<M.length
    ·have b0:Sl wr (.slice mp M.length mc) M.length (M.flatMap Cu):=hM
     obtain⟨mb,mo,b8,b4⟩:=sl_lit b0 M0
     have gm:∀ i x,i<3→(Cu (M.getD m (0,0,0)))[i]? = some x→wr.cell? ⟨mb,mo+m*3+i,none⟩=some x:=fun i x hi hx=>by
      rw[F2];exact b4 _ _ ((Fq Jv M m i (0,0,0) hmt hi).trans hx)
     have hx:=a2 m hmt
     obtain⟨⟨m1,m2,m3⟩,a6⟩:∃ y,M.getD m (0,0,0)=y:=⟨_,rfl⟩
     rw[a6] at gm
     have a4:(Uz 0 (Z.map fst))[S+m]? = some (k,(m1,m2,m3)):=by rw[hx];exact congrArg (fun y=>some (k,y)) a6
     have y1:=gm 0 _ Do rfl
     have y2:=gm 1 _ Do rfl
     have y3:=gm 2 _ Do rfl
     rw[G4] at y1
     clear gm b4 b0 hM hx a6
     subst b8
     have c2:=(U3 wr.heap.size wr).alloc (At _) (.cells #[V0 m1,V0 m2,V0 m3] 63)
     obtain⟨fn,c0,a3,c4,hy,hR⟩:=hY _ _ (wr.alloc (.cells #[V0 m1,V0 m2,V0 m3] 63)) a4 (hJ _ _ _ b2 c2)
     have c1:=Zaz a7 hqlt (.cells #[V0 m1,V0 m2,V0 m3] 63)
     simp only[encM] at hy
     gi_wp2
     refine hR.mono ?_
     rintro e W3 (⟨rfl,b7,c3⟩|⟨rfl,a5⟩)
     ·gi_wp2
      go_roundw
      case rel =>
       refine⟨m+1,M0,?_,b7,c1.trans c3⟩
       exact congrArg V0 M0
      case measure=>simp only[intOf];omega
     ·gi_wp2
      refine bodyPost_ret (results_none rfl _ _ _) rfl ?_
      refine⟨⟨_,rfl⟩,.inr ⟨_,?_,a5⟩⟩
      rcases F0 (S+m) (Uz 0 (Z.map fst)).length with h|h
      ·exact h
      ·rw[C4 h] at a4;cases a4
    ·obtain rfl:m=M.length:=M0
     gi_wp2
     go_roundw
     case rel =>
      refine⟨k+1,M0,?_,by rw[a8];exact b2,a7⟩
      exact congrArg V0 M0
     case measure=>simp only[intOf];omega
  ·obtain rfl:k=n:=M0
   have HJ:=Lib.hid a0;clear a0
   gi_wp2
   go_end0
   have a0:=HJ.out
   rw[B9 M0] at a0
   exact⟨⟨_,rfl⟩,.inl (by rw[Zaj];exact a0)⟩
end
end
section
open Go.RowKit Go.Extern.Stop Go.Stop Go.Extern
section
attribute [local irreducible] wpList wpAnyH Code.wp Oper.wp Go
theorem Zkg(cs:V6 Nat):(cs.map fun c:Nat=>(c:Int)).map V0=cs.map nv:=by simp[nv]
theorem nv_get{cs:V6 Nat}{k:Nat}(h:k<cs.length):(cs.map nv)[k]? = some (V0 ((cs.getD k 0:Nat):Int)):=by simp[getD,h,nv]
theorem Zld(cs:V6 Nat)(k:Nat):(cs.map nv).set k (V0 ((cs.getD k 0+1:Nat):Int))=(Nl cs (k:Int)).map nv:=by
 unfold Nl;rw[G6,List.map_set];rfl
theorem Zn5{cs:V6 Nat}{k:Nat}(h:k<cs.length):(Nl cs (k:Int)).getD k 0=cs.getD k 0+1:=by
 unfold Nl;rw[G6];simp[getD,h]
def AddP(B g n:Nat)(cs:V6 Nat)(no:Int)(w:V1)(e:V5)(w':V1):Prop :=
 (¬ (0≤no∧no<cs.length)∧e=.returned (.tuple #[V0 0,V0 3])∧Below B w w'∧Zd [3] w w'∧w'.ownsRow B 3 1 (.slice (S3 g) n n) n (cs.map nv)) ∨
 ((0≤no∧no<cs.length)∧e=.returned (.tuple #[V0 ((cs.getD no.toNat 0+1:Nat):Int),V0 0])∧Below B w w'∧Zd [3] w w'∧w'.ownsRow B 3 1 (.slice (S3 g) n n) n ((Nl cs no).map nv))
theorem Jy{w:V1}{pc:O0}{n m:Nat}{cs:V6 Nat}(h:Sl w (.slice pc n m) n (cs.map nv)){k:Nat}(hk:k<cs.length):pc.isSome=true∧w.cell? (Zx pc (k*1))=some (V0 ((cs.getD k 0:Nat):Int)):=by
 rcases h with ⟨a,c,h1,h2,h3⟩|⟨b,a1,a0,h1,h2,h3,h4⟩
 ·simp only[C2] at h1;have:(cs.map nv).length=0:=by rw[h3];rfl
  rw[A3] at this;omega
 ·simp only[C2] at h1;obtain⟨rfl,_,_⟩:=h1;refine⟨rfl,?_⟩;have:=h4 k _ (nv_get hk);simpa [Zx,Addr.add_mid] using this
theorem Zva(br g n:Nat)(no:Int)(w:V1)(kr:Blk w br [.slice (S3 g) n n] 231)(ho:¬ (0≤no∧no<n)) :
 C0 71 #[P0 br,V0 no] w (Ret (.tuple #[V0 0,V0 3]) w):=by
 refine zin 37 Tryz.func71 ?_
 refine xg 21 [11,12] (decide (no<(0:Int))) (fun a0=>?_) (fun a0=>?_)
 ·have a0:=U1 a0
  exact xe 21 (.tuple #[V0 0,V0 3]) ⟨rfl,(B4 w)⟩
 have a0:=U2 a0
 refine xb 4 0 kr ?_
 refine xk 6 (show(decide (no≥(n:Int)):Bool)=true from U0 M0) ?_
 exact xe 9 (.tuple #[V0 0,V0 3]) ⟨rfl,(B4 w)⟩
theorem Zjg(B br g n k:Nat)(cs:V6 Nat)(w:V1)(kr:Blk w br [.slice (S3 g) n n] 231)(hBw:B≤w.heap.size)(hc:w.ownsRow B 3 1 (.slice (S3 g) n n) n (cs.map nv))(hn:cs.length=n)(hk:k<n)(hb:cs.getD k 0≤4000000000000000000) :
 C0 71 #[P0 br,V0 (k:Int)] w ((fun e w'=>e=.returned (.tuple #[V0 ((cs.getD k 0+1:Nat):Int),V0 0])∧Below B w w'∧Zd [3] w w'∧w'.ownsRow B 3 1 (.slice (S3 g) n n) n ((Nl cs (k:Int)).map nv))):=by
 have a3:=Vv cs (k:Int)
 refine zin 37 Tryz.func71 ?_
 refine xg 21 [11,12] (decide ((k:Int)<(0:Int))) (fun a0=>?_) (fun a0=>?_)
 ·have a0:=U1 a0
  exact xe 21 (.tuple #[V0 0,V0 3]) (by exfalso;omega)
 have a0:=U2 a0
 refine xb 4 0 kr ?_
 refine xid 6 ((k:Int)≥(n:Int)) (fun a2=>?_) (fun a2=>?_)
 ·exact xe 9 (.tuple #[V0 0,V0 3]) (by exfalso;omega)
 refine xb 8 0 kr ?_
 refine xx 1 _ n k 1 (Jy (Zf hc) (k:=k) M0).1 ?_
 refine xl 0 ((Jy (Zf hc) (k:=k) M0).2) ?_
 refine xwm 0 ((↑(cs.getD k 0):Int)+1) (↑((cs.getD k 0)+1):Int) ?_
 refine xx 0 _ n k 1 (Jy (Zf hc) (k:=k) M0).1 ?_
 refine xst 0 fun _ _ _ _ zJ zQ zo zx zy zK=>Vx (t:=3) (k:=k) (v:=V0 (↑((cs.getD k 0)+1):Int)) zo zx zy K0 rfl hc M0 fun W3 u3 o3=>?_
 rw[Zld cs k] at o3
 refine zK _ _ ?_
 have a1:=u3.blk kr (Yc kr hc Do)
 refine xb 7 0 a1 ?_
 refine xx 1 _ n k 1 (Jy (Zf o3) (k:=k) M0).1 ?_
 refine xl 0 ((Jy (Zf o3) (k:=k) M0).2) ?_
 have hB:=u3.i (U3 B w) (Ux hc)
 have hO:=(show Zd [3] w _ from(Q9 u3 hc Do))
 exact xe 5 (.tuple #[V0 (↑((Nl cs (k:Int)).getD k 0):Int),V0 0]) ⟨by rw[Zn5 M0],hB,hO,o3⟩
theorem refs_Add(B br g n:Nat)(cs:V6 Nat)(no:Int)(w:V1)(kr:Blk w br [.slice (S3 g) n n] 231)(hBw:B≤w.heap.size)(hc:w.ownsRow B 3 1 (.slice (S3 g) n n) n (cs.map nv))(hn:cs.length=n)(hb:phi cs≤1000000000000):C0 71 #[P0 br,V0 no] w (AddP B g n cs no w):=by
 by_cases ho:0≤no∧no<cs.length
 ·obtain⟨k,rfl⟩:∃ k:Nat,no=(k:Int):=⟨no.toNat,M0⟩;have h1:=getD_phi cs k;refine(Zjg B br g n k cs w kr hBw hc hn M0 M0).mono ?_;rintro e W ⟨rfl,a0,hO,a1⟩;exact .inr ⟨ho,by rw[G6],a0,hO,a1⟩
 ·refine(Zva br g n no w kr (by rw[←hn];exact ho)).mono ?_;rintro e W ⟨rfl,a0⟩;exact .inl ⟨ho,rfl,a0.mono hBw,Q0 a0,Zb hc a0⟩
theorem zerosV(n:Nat):Gw (Value.int .i64 0).cells.toList n=(replicate n (0:Nat)).map nv:=by
 rw[show(Value.int .i64 0).cells.toList=[Value.int .i64 0] from rfl,Gw,O9];induction n with
 | zero=>rfl
 | succ n ih=>rw[K7,P3,ih,K7];rfl
theorem nv_one(cs:V6 Nat):∀ u∈cs.map nv,u.oneCell'=true:=fun u hu=>by obtain⟨y,_,rfl⟩:=List.mem_map.1 hu;rfl
theorem Zig(n:Nat)(w:V1)(h:n≤65536) :
 C0 70 #[V0 (n:Int)] w (Kd (fun w' r=>∃ br g,r=.tuple #[P0 br,V0 0]∧w.heap.size≤br∧Blk w' br [.slice (S3 g) n n] 231∧w'.ownsRow w.heap.size 3 1 (.slice (S3 g) n n) n ((replicate n (0:Nat)).map nv)) w):=by
 refine zin 14 Tryz.func70 ?_
 refine xgk 12 [5,6] (show(decide ((n:Int)<(0:Int)):Bool)=false from V9 M0) ?_
 refine xk 5 (show(decide ((n:Int)>(65536:Int)):Bool)=false from V9 M0) ?_
 refine xmk 5 fun _ _ _ _ zJ zQ zo zx zy zK=>Ht n (V0 0) 1 8 ((replicate n (0:Nat)).map nv) zo zx zy Tryz.underlying27 K0 rfl M0 M0 ((zerosV n)) fun b2 W2 n2=>?_
 refine zK _ _ ?_
 refine xa 1 [.slice (S3 b2) n n] 231 fun b3 W3 n3=>?_
 have o2:=Zb (Xw (size:=1) (n:=n) n2.blk (n2.ge (B4 w)) (by rw[A3,B7,G7]) Y2) n3.i
 have hB:=bln n2.i n3.i
 have g3:=n3.ge n2.i
 exact xe 5 (.tuple #[P0 b3,V0 0]) ⟨_,rfl,hB,_,_,rfl,g3,n3.blk,o2⟩
theorem refs_own(br n:Nat)(p:O0)(w:V1)(kr:Blk w br [.slice p n n] 231) :
 C0 136 #[P0 br] w (Ret (.slice p n n) w):=by
 refine zin 9 Tryz.func136 ?_
 refine xb 20 0 kr ?_
 exact xe 4 (.slice p n n) ⟨rfl,(B4 w)⟩
theorem Zhg(br g n B0:Nat)(cs:V6 Nat)(w:V1)(kr:Blk w br [.slice (S3 g) n n] 231)(hc:w.ownsRow B0 3 1 (.slice (S3 g) n n) n (cs.map nv))(hn:cs.length=n)(hn2:n≤100000) :
 C0 73 #[P0 br] w (Kd (fun w' r=>∃ q c2,r=.slice q n c2∧w'.ownsRow w.heap.size 3 1 (.slice q n c2) n (cs.map nv)) w):=by
 refine zin 6 Tryz.func73 ?_
 refine xr 8 (args:=#[P0 br]) (refs_own br n _ _ kr) fun W1 a0=>?_
 have a2:=Zb hc a0
 refine xc 0 (args:=#[.slice (S3 g) n n]) (Fv ⟨g,0,none⟩ n n (cs.map nv) _ (Zf a2) (by rw[A3];exact hn) (nv_one _) M0) ?_
 rintro _ W2 ⟨_,rfl,a3,q,c2,rfl,hq⟩
 have a1:=Zg hq a0.size
 have hB:=bln a0 a3
 exact xe 4 (.slice q n c2) ⟨_,rfl,hB,_,_,rfl,a1⟩
theorem Zxk(B br g n k:Nat)(cs:V6 Nat)(w:V1)(kr:Blk w br [.slice (S3 g) n n] 231)(hBw:B≤w.heap.size)(hc:w.ownsRow B 3 1 (.slice (S3 g) n n) n (cs.map nv))(hn:cs.length=n)(hk:k<n)(hb:cs.getD k 0≤4000000000000000000) :
 C0 71 #[P0 br,V0 (k:Int)] w ((fun e w'=>e=.returned (.tuple #[V0 ((cs.getD k 0+1:Nat):Int),V0 0])∧Below B w w'∧Zd [3] w w'∧Fr [g] w w'∧w'.ownsRow B 3 1 (.slice (S3 g) n n) n ((Nl cs (k:Int)).map nv))):=by
 have a3:=Vv cs (k:Int)
 refine zin 37 Tryz.func71 ?_
 refine xg 21 [11,12] (decide ((k:Int)<(0:Int))) (fun a0=>?_) (fun a0=>?_)
 ·have a0:=U1 a0
  exact xe 21 (.tuple #[V0 0,V0 3]) (by exfalso;omega)
 have a0:=U2 a0
 refine xb 4 0 kr ?_
 refine xid 6 ((k:Int)≥(n:Int)) (fun a2=>?_) (fun a2=>?_)
 ·exact xe 9 (.tuple #[V0 0,V0 3]) (by exfalso;omega)
 refine xb 8 0 kr ?_
 refine xx 1 _ n k 1 (Jy (Zf hc) (k:=k) M0).1 ?_
 refine xl 0 ((Jy (Zf hc) (k:=k) M0).2) ?_
 refine xwm 0 ((↑(cs.getD k 0):Int)+1) (↑((cs.getD k 0)+1):Int) ?_
 refine xx 0 _ n k 1 (Jy (Zf hc) (k:=k) M0).1 ?_
 refine xst 0 fun _ _ _ _ zJ zQ zo zx zy zK=>Vx (t:=3) (k:=k) (v:=V0 (↑((cs.getD k 0)+1):Int)) zo zx zy K0 rfl hc M0 fun W3 u3 o3=>?_
 rw[Zld cs k] at o3
 refine zK _ _ ?_
 have a1:=u3.blk kr (Yc kr hc Do)
 refine xb 7 0 a1 ?_
 refine xx 1 _ n k 1 (Jy (Zf o3) (k:=k) M0).1 ?_
 refine xl 0 ((Jy (Zf o3) (k:=k) M0).2) ?_
 have hB:=u3.i (U3 B w) (Ux hc)
 have hO:=(show Zd [3] w _ from(Q9 u3 hc Do))
 have hX:=(show Fr [g] w _ from(X2 u3 Y5))
 exact xe 5 (.tuple #[V0 (↑((Nl cs (k:Int)).getD k 0):Int),V0 0]) ⟨by rw[Zn5 M0],hB,hO,hX,o3⟩
end
end
section
open Go.RowKit
theorem Zkh{P:V4}{l n:Nat}{ops:Array Oper}{Q:Exit→Act→V1→Prop}(hQ:¬ LetsOut Q):∀ (r:V6 Oper) (a:Act) (w:V1),(∀ o∈r,∀ c,o.op≠.defer c)→wpList P ops Q r a w→wpListIn (Fence.wide.inRound l) n P ops Q r a w
 | [],_,_,_,h=>h
 | o::r,a,w,hd,h=>by
  unfold wpList at h;unfold wpListIn;split at h
  ·rename_i hw;rw[V8 hw];exact Oper.wpIn_mono (fun a w=>Zkh hQ r a w (fun o ho=>hd o (by simp[ho]))) (Zum (hd o Y5) (h.resolve_right fun q=>hQ q.2))
  ·rename_i hw;rw[V7 hw];exact⟨fun _ _=>trivial,Zkh hQ r _ _ (fun o ho=>hd o (by simp[ho])) h⟩
theorem Lq{P:V4}{l0 n0 id:Nat}{l:V6 Oper}{Q:Exit→Act→V1→Prop}{a:Act}{w:V1}(hQ:¬ LetsOut Q)(hd:∀ o∈l,∀ c,o.op≠.defer c)(h:wpList P l.toArray Q l a w):(Code.region id l.toArray false).wpIn (Fence.wide.inRound l0) n0 P Q a w :=
 wpIn_region_lit (Zkh hQ l a w hd h)
structure RdS(w0:V1)(S:V6 Nat)(W V:V1):Prop where
 ko:KeepsOthers W V
 fr:∀ k,k<w0.heap.size→k∉S→V.heap[k]? = W.heap[k]?
 le:W.heap.size≤V.heap.size
 l0:w0.heap.size≤W.heap.size
theorem RdS.refl{w0 W:V1}(S:V6 Nat)(h:w0.heap.size≤W.heap.size):RdS w0 S W W:=⟨⟨At _,fun _ _ h _=>h⟩,fun _ _ _=>rfl,At _,h⟩
theorem RdS.i{w0 W V U:V1}{S:V6 Nat}(h:RdS w0 S W V)(hb:Below V.heap.size V U):RdS w0 S W U :=
 ⟨h.ko.trans (Cp hb),fun k hk hn=>(hb.block k (D5 hk (N0 h.l0 h.le))).trans (h.fr k hk hn),N0 h.le hb.size,h.l0⟩
theorem RdS.I{w0 W V U:V1}{S:V6 Nat}{b:Nat}{cs:V6 V2}{t:V3}(h:RdS w0 S W V)(u:Upd V b U)(k:Blk V b cs t)(hb:b∈S∨w0.heap.size≤b):RdS w0 S W U :=
 ⟨h.ko.trans (Zc7 u k),fun i hi hn=>(u.block i (fun e=>by subst e;rcases hb with hb|hb;exact hn hb;omega)).trans (h.fr i hi hn),N0 h.le (N7 u.size.symm),h.l0⟩
theorem RdS.j4{w0 W V U:V1}{S:V6 Nat}{b:Nat}{cs:V6 V2}{t:V3}(h:RdS w0 S W V)(u:Fr [b] V U)(k:Blk V b cs t)(hb:b∈S):RdS w0 S W U :=
 ⟨h.ko.trans ⟨u.size,fun i o hi ho=>(u.block i (Array.getElem?_eq_some_iff.1 hi).1 (by
  simp only[D0];rintro rfl;rw[show V.heap[i]? = _ from k] at hi;cases hi;cases ho)).trans hi⟩,fun i hi hn=>(u.block i (D5 hi (N0 h.l0 h.le)) (by simp only[D0];rintro rfl;exact hn hb)).trans (h.fr i hi hn),N0 h.le u.size,h.l0⟩
theorem RdS.grown{w0 W V U:V1}{S:V6 Nat}{size n:Nat}{e:V3}{v:V2}{xs:V6 V2}(h:RdS w0 S W V)(hg:V.grownBy U v.ownBlock)(k:V.ownsRow w0.heap.size e size v n xs):RdS w0 S W U :=
 ⟨h.ko.trans ⟨hg.size,fun i o hi ho=>by
   rw[hg.block i (Array.getElem?_eq_some_iff.1 hi).1 (fun q=>by
    rcases k.2 with ⟨rfl,_⟩|⟨g,a0,a1,rfl,_,hh,_⟩
    ·cases q
    ·simp only[Value.ownBlock,A0] at q;subst q;rw[hh] at hi;cases hi;cases ho)]
   exact hi⟩,
  fun i hi hn=>(hg.block i (D5 hi (N0 h.l0 h.le)) (fun e=>by have:=(k.lt i e.symm).1;omega)).trans (h.fr i hi hn),N0 h.le hg.size,h.l0⟩
def Zxa(q:Nat→Prop)(n:Nat)(A:V1)(row:Option Nat):Prop:=∀ r,row=some r→q r∨n≤r∧∃ o:Obj,A.heap[r]? = some o∧o.isCells=false
theorem fr_ab{S:V6 Nat}{q:Nat→Prop}{w0 A B:V1}{row:Option Nat}(h:Fr S w0 A)(hg:A.grownBy B row)(hr:Zxa q w0.heap.size A row)(hq:∀ r,q r→r∈S):Fr S w0 B :=
 ⟨N0 h.size hg.size,fun k hk hn=>(hg.block k (D5 hk h.size) (fun e=>by
  rcases hr k e.symm with h1|h1
  ·exact hn (hq _ h1)
  ·omega)).trans (h.block k hk hn)⟩
theorem Zeq{n m:Nat}{q:Nat→Prop}{w A B:V1}{row:Option Nat}(h:Below n w A)(hg:A.grownBy B row)(hr:Zxa q m A row)(hn:n≤w.heap.size)(hm:n≤m)(hq:∀ r,q r→n≤r):Below n w B :=
 h.grown hg (N0 hn h.size) (fun r e=>by rcases hr r e with h1|h1;exact hq _ h1;omega)
theorem Zup{q:Nat→Prop}{A B:V1}{row:Option Nat}{base size n m:Nat}{e:V3}{v:V2}{xs:V6 V2}(k:A.ownsRow base e size v n xs)(hg:A.grownBy B row)(hr:Zxa q m A row)(hq:∀ r,q r→r<base):B.ownsRow base e size v n xs:=by
 obtain⟨h1,h2⟩:=k;refine⟨h1,?_⟩;rcases h2 with h2|⟨g,a0,a1,hv,hb,hh,r⟩
 ·exact Or.inl h2
 ·refine Or.inr ⟨g,a0,a1,hv,hb,?_,r⟩;rw[hg.block g (Array.getElem?_eq_some_iff.1 hh).1 (fun q=>by
   rcases hr g q.symm with h3|⟨_,o,ho,hc⟩
   ·have:=hq _ h3;omega
   ·rw[hh] at ho;cases ho;cases hc)]
  exact hh
theorem Zhm{q:Nat→Prop}{A B:V1}{row:Option Nat}{b m:Nat}{cs:V6 V2}{t:V3}(k:Blk A b cs t)(hg:A.grownBy B row)(hr:Zxa q m A row)(hq:∀ r,q r→b≠r):Blk B b cs t :=
 k.kept hg (fun e'=>by
  rcases hr b e'.symm with h3|⟨_,o,ho,hc⟩
  ·exact hq _ h3 rfl
  ·rw[show A.heap[b]? = _ from k] at ho;cases ho;cases hc)
theorem Zwq{F:Fence}{n:Nat}{P:V4}{c:Code}{Q:Exit→Act→V1→Prop}{a:Act}{w:V1}(a':Act)(h:a=a')(k:c.wpIn F n P Q a' w):c.wpIn F n P Q a w:=h▸k
theorem Zui{S S2:V6 Nat}{w0 W V:V1}(h:Fr S w0 W)(z:RdS w0 S2 W V)(hs:∀ k,k∈S2→k∈S∨V.heap[k]? = w0.heap[k]?):Fr S w0 V :=
 ⟨N0 h.size z.le,fun k hk hn=>by
  by_cases h2:k∈S2
  ·exact(hs k h2).resolve_left hn
  ·exact(z.fr k hk h2).trans (h.block k hk hn)⟩
theorem Dfr.put{D D2:Nat}{w:V1}(h:Dfr D w)(hne:D≠D2)(o:Obj):Dfr D (w.putObj D2 o):=(H4 hne).trans h
theorem Kx.pt{D:Nat}{w:V1}{l:V6 (Option Int)}{c:Option Int}{v:V2}(h:Kx w l c v)(hK:Dfr D w)(o:Obj):Kx (w.putObj D o) l c v:=h.kept fun _ _ k=>k.put hK rfl o
theorem Zye{D:Nat}{w:V1}{base size n:Nat}{e:V3}{v:V2}{xs:V6 V2}(k:w.ownsRow base e size v n xs)(hK:Dfr D w)(o:Obj):(w.putObj D o).ownsRow base e size v n xs:=(Q7 w D o).O k (hK.row k)
theorem Znb{n D:Nat}{w W:V1}(h:Below n w W)(hn:n≤W.heap.size)(hD:n≤D)(o:Obj):Below n w (W.putObj D o):=h.grown (grownBy_putObj' W D o) hn (fun r e=>by cases e;exact hD)
theorem ret2{P:V4}{fn:Func}{R:V5→V1→Prop}{a:Act}{w:V1}{v:V2}{b10 b11 D E:Nat}{x y:V2}{t t':V3}(k10:Blk w b10 [x] t)(k11:Blk w b11 [y] t')(hK:Dfr D w)(hE:Dfr E w)(hne:D≠E)(hr:∀ U,Blk U b10 [x] t→Blk U b11 [y] t'→(results fn a.tmps).run P U=.ok v U)(hd:a.defers=[{ target:=.collected E,args:=#[] },{ target:=.collected D,args:=#[] }])(h:R (.returned v) ((w.putObj E (.deferred none)).putObj D (.deferred none))):bodyPostM Fence.wide 4 P fn R .ret a w:=by
 have hD:=hK.put hne (.deferred none);show LeavesInM _ _ _ _ a.tmps R a.defers .returning w;rw[hd];exact⟨Y5,.inl ⟨_,_,rfl,run_takeDeferred hE,Y5,.inl ⟨_,_,rfl,run_takeDeferred hD,v,hr _ ((k10.put hE rfl _).put hD rfl _) ((k11.put hE rfl _).put hD rfl _),h⟩⟩⟩
end
section
open Go.RowKit Go.Extern.Stop Go.Stop Go.Extern
section
attribute [local irreducible] wpList wpAnyH Code.wp Oper.wp Go
theorem maps_seq(B1:Nat)(p:O0)(n c:Nat)(t u v x:Int)(Z:V6 Zv)(w w0:V1)(hZ:Z.length=n)(hP:DevsR w p c Z)(hn:n≤1000000000)(hW:B3 w w0)(q:Nat→Prop)(hq:∀ b,b<w.heap.size→q b)(hqlt:∀ b,q b→b<w0.heap.size)(hk1:Blk w0 B1 [V0 t,V0 u,V0 v,V0 x,.slice p n c] 24) :
  SeqB Tryz.prog 137 #[P0 B1] encM (Keeps q) (Uz 0 (Z.map fst)) w0:=fun l J Jx W hw hJ hY h0 =>
 maps1_in l B1 p n c t u v x Z w hZ hP hn q hq J Jx hJ hY W (bln hW hw) (fun b hb=>D5 (hqlt b hb) hw.size) (hk1.i hw) h0
theorem frg_ko{g:Nat}{W V:V1}{cs:V6 V2}{t:V3}(h:Fr [g] W V)(k:Blk W g cs t):KeepsOthers W V:=⟨h.size,fun i o hi ho=>(h.block i (Array.getElem?_eq_some_iff.1 hi).1 (by
 simp only[D0];rintro rfl;rw[show W.heap[i]? = _ from k] at hi;cases hi;cases ho)).trans hi⟩
theorem Zxr{p:Nat→Prop}{g:Nat}{W V:V1}(h:Fr [g] W V)(hp:∀ b,p b→b<W.heap.size)(hg:¬ p g):Keeps p W V:=⟨h.size,fun b hb=>h.block b (hp b hb) (by simp only[D0];rintro rfl;exact hg hb)⟩
theorem Zvy(t u v x:Int)(p:O0)(n c:Nat)(w:V1) :
 C0 74 #[.agg #[V0 t,V0 u,V0 v,V0 x,.slice p n c]] w (Kd (fun w' r=>∃ b,r=.func (.func 137) #[] #[P0 b]∧w.heap.size≤b∧Blk w' b [V0 t,V0 u,V0 v,V0 x,.slice p n c] 24) w):=by
 refine zin 4 Tryz.func74 ?_
 refine xa 2 [V0 t,V0 u,V0 v,V0 x,.slice p n c] 24 fun b1 W1 n1=>?_
 exact xe 10 (.func (.func 137) #[] #[P0 b1]) ⟨_,rfl,n1.i,b1,rfl,(n1.ge (B4 w)),n1.blk⟩
theorem Zag(p:O0)(c n x:Nat)(t u v:Int)(Z:V6 Zv)(w:V1)(hZ:Z.length=n)(hP:DevsR w p c Z)(hk:PoolOk t u v (x:Int) (Z.map fst)) :
 C0 28 #[.agg #[V0 t,V0 u,V0 v,V0 (x:Int),.slice p n c]] w (Kd (fun w' r=>∃ q d,r=.slice q x d∧w'.ownsRow w.heap.size 3 1 (.slice q x d) x ((Us x (Z.map fst)).map nv)) w):=by
 have hx:x≤65536:=by have:=hk.a3;omega
 have d1:n≤1000000000:=by have:=hk.J.a0;rw[A3] at this;omega
 have a6:=Zor hk.J 0
 have d5:=hk.J.sum
 refine Jm Tryz.func28 rfl ?_
 refine Zzm ⟨#[.agg #[V0 t,V0 u,V0 v,V0 (x:Int),.slice p n c],undef,undef,undef,undef,undef,undef,undef,undef,undef,undef,undef,undef,undef,undef,undef,undef,undef,undef,undef,undef,undef,undef,undef,undef,undef],[]⟩ K0 ?_
 refine wp_seq ?_
 refine wp_region_lit ?_
 refine Jh K0 (Zc5 [V0 t,V0 u,V0 v,V0 (x:Int),.slice p n c] rfl K0 ?_)
 intro b1 W1 n1
 have hB:=n1.i
 have k1:=n1.blk
 refine Gg 1 [(2,S1)] K0 ?_
 refine wpList_nil ?_
 refine wp_seq ?_
 refine wp_seq ?_
 refine wp_region_lit ?_
 refine Jh K0 (Ay (b:=b1) (off:=0) [V0 t,V0 u,V0 v,V0 (x:Int),.slice p n c] _ rfl K0 Tryz.underlying24 rfl K0 k1.b0 ?_)
 refine Jh K0 (Ks (lb:=#[]) 12 #[.agg #[V0 t,V0 u,V0 v,V0 (x:Int),.slice p n c]] rfl K0 (fun _ _=>by kernel_rfl) K0 ((Hf p c n t u v (x:Int) Z _ hZ (hP.i hB)).mono ?_))
 rintro e W2 ⟨rfl,c5⟩
 refine⟨_,rfl,?_⟩
 replace hB:=bln hB c5
 replace k1:=k1.i c5
 refine Gg 1 [(9,.bool ((Hz t u v (x:Int) (Z.map fst)) != (0:Int)))] K0 ?_
 refine wpList_nil ?_
 refine wp_cond_split (t:=((Hz t u v (x:Int) (Z.map fst)) != (0:Int))) K0 (fun hh=>absurd (hh.symm.trans (show(((Hz t u v (x:Int) (Z.map fst)) != (0:Int)):Bool)=false from by rw[Mx.2 hk];rfl)) Do) (fun _=>?_)
 refine wp_skip ?_
 refine wp_seq ?_
 refine wp_region_lit ?_
 refine Gg 1 [(11,.pointer (some ⟨b1,3,none⟩))] K0 ?_
 refine Jh K0 (Qd ⟨b1,3,none⟩ (V0 (x:Int)) rfl K0 K0 (k1.cell (i:=3) rfl) ?_)
 have d2:=hB.size
 have c8:w.heap.size≤(W2).heap.size:=hB.size
 refine Jh K0 (Ks (lb:=#[]) 70 #[V0 (x:Int)] rfl K0 (fun _ _=>by kernel_rfl) K0 ((Zig x _ hx).mono ?_))
 rintro e W4 ⟨_,rfl,c3,br,g,rfl,c2,a1,hc⟩
 refine⟨_,rfl,?_⟩
 replace hB:=bln hB c3
 replace k1:=k1.i c3
 replace hc:=Zg hc c8
 replace c2:=N0 d2 c2
 refine Gg 3 [(10,.tuple #[P0 br,V0 0]),(14,P0 br),(15,V0 0)] K0 ?_
 refine Jh K0 (Jw [.pointer none] rfl K0 ?_)
 intro b5 W5 n5
 have a4:=n5.ne k1
 have a5:=n5.ne a1
 have g5:=n5.ge hB
 replace hB:=bln hB n5.i
 replace k1:=k1.i n5.i
 replace a1:=a1.i n5.i
 replace hc:=Zb hc n5.i
 have k5:=n5.blk
 refine Jh K0 (Kk (v:=P0 br) (b:=b5) (off:=0) rfl K0 K0 K0 rfl k5 (by first|decide|simp) ?_)
 intro W6 u6 k6
 change Blk _ _ [P0 br] _ at k6
 replace hB:=u6.i hB g5
 replace k1:=u6.blk k1 a4
 replace a1:=u6.blk a1 a5
 replace hc:=u6.j hc k5 Do
 refine Gg 1 [(4,V0 0)] K0 ?_
 refine wpList_nil ?_
 refine wp_seq ?_
 refine wp_seq ?_
 refine wp_region_lit ?_
 refine Jh K0 (Ay (b:=b1) (off:=0) [V0 t,V0 u,V0 v,V0 (x:Int),.slice p n c] _ rfl K0 Tryz.underlying24 rfl K0 k1.b0 ?_)
 have c9:=hB.size
 refine Jh K0 (Ks (lb:=#[]) 74 #[.agg #[V0 t,V0 u,V0 v,V0 (x:Int),.slice p n c]] rfl K0 (fun _ _=>by kernel_rfl) K0 ((Zvy t u v (x:Int) p n c _).mono ?_))
 rintro e W7 ⟨_,rfl,a3,bm,rfl,c0,d3⟩
 refine⟨_,rfl,?_⟩
 replace hB:=bln hB a3
 replace k1:=k1.i a3
 replace a1:=a1.i a3
 replace k6:=k6.i a3
 replace hc:=Zb hc a3
 replace c0:=N0 c9 c0
 refine wpList_nil ?_
 refine wp_block ?_
 have b7:=hB
 have a9:w.heap.size≤W7.heap.size:=b7.size
 have m3:=k6
 have mr:=a1
 have mm:=d3
 have mc:=hc
 have d0:w.heap.size≤g∧g<W7.heap.size:=mc.lt g rfl
 have hq:=maps_seq bm p n c t u v (x:Int) Z w W7 hZ hP d1 b7 (fun b=>b<w.heap.size) (fun b h=>h) (fun b h=>D5 h a9) mm
 refine Zzm ⟨#[.agg #[V0 t,V0 u,V0 v,V0 (x:Int),.slice p n c],P0 b1,S1,P0 b5,V0 0,undef,undef,.agg #[V0 t,V0 u,V0 v,V0 (x:Int),.slice p n c],V0 (Hz t u v (x:Int) (Z.map fst)),.bool ((Hz t u v (x:Int) (Z.map fst)) != (0:Int)),.tuple #[P0 br,V0 0],.pointer (some ⟨b1,3,none⟩),V0 (x:Int),.tuple #[P0 br,V0 0],P0 br,V0 0,.agg #[V0 t,V0 u,V0 v,V0 (x:Int),.slice p n c],.func (.func 137) #[] #[P0 bm],undef,undef,undef,undef,undef,undef,undef,undef],[]⟩ K0 ?_
 refine Zvx (g:=.tmp 17) (gf:=137) (lb:=#[P0 bm]) rfl (enters_of Tryz.func137 K0 rfl) (fun b=>b<w.heap.size) (fun b h=>D5 h a9) hq (fun _=>rfl)
  (fun k V=>B3 w V∧Blk V b5 [P0 br] 136∧Blk V br [.slice (S3 g) x x] 231∧V.ownsRow w.heap.size 3 1 (.slice (S3 g) x x) x ((Ad (replicate x 0) ((Uz 0 (Z.map fst)).take k)).map nv))
  (fun _ _ _=>False) ?bel ?own (fun _ _ _ _ _ h _ _=>h.elim) ⟨b7,m3,mr,mc⟩
  (fun y a' V=>∃ b6,a'={ tmps:=#[.agg #[V0 t,V0 u,V0 v,V0 (x:Int),.slice p n c],P0 b1,S1,P0 b5,V0 0,undef,P0 b6,.agg #[V0 t,V0 u,V0 v,V0 (x:Int),.slice p n c],V0 (Hz t u v (x:Int) (Z.map fst)),.bool ((Hz t u v (x:Int) (Z.map fst)) != (0:Int)),.tuple #[P0 br,V0 0],.pointer (some ⟨b1,3,none⟩),V0 (x:Int),.tuple #[P0 br,V0 0],P0 br,V0 0,.agg #[V0 t,V0 u,V0 v,V0 (x:Int),.slice p n c],.func (.func 137) #[] #[P0 bm],V0 (y.1:Int),.agg #[V0 y.2.1,V0 y.2.2.1,V0 y.2.2.2],undef,undef,undef,undef,undef,undef],defers:=[] }∧Blk V b6 [V0 y.2.1,V0 y.2.2.1,V0 y.2.2.2] 63) ?two ?assign ?body ?done (fun _ _ _ _ _ _ h _=>h.elim)
 case bel=>exact fun k A B h hb=>⟨bln h.1 hb,h.2.1.i hb,h.2.2.1.i hb,Zb h.2.2.2 hb⟩
 case own=>exact fun k A B c7 h hg hr=>⟨Zeq (q:=fun _=>False) h.1 hg (fun r e=>.inr (hr r e)) (At _) a9 (fun _ q=>q.elim),Zhm (q:=fun _=>False) (m:=W7.heap.size) h.2.1 hg (fun r e=>.inr (hr r e)) (fun _ q=>q.elim),Zhm (q:=fun _=>False) (m:=W7.heap.size) h.2.2.1 hg (fun r e=>.inr (hr r e)) (fun _ q=>q.elim),Zup (q:=fun _=>False) (m:=W7.heap.size) h.2.2.2 hg (fun r e=>.inr (hr r e)) (fun _ q=>q.elim)⟩
 case two=>exact fun y a' A B c7 ⟨b6,ha,h6⟩ hg hr=>⟨b6,ha,Zhm (q:=fun _=>False) (m:=W7.heap.size) h6 hg (fun r e=>.inr (hr r e)) (fun _ q=>q.elim)⟩
 case assign =>
  rintro lr k y W K hy hI hK
  refine Zwq { tmps:=#[.agg #[V0 t,V0 u,V0 v,V0 (x:Int),.slice p n c],P0 b1,S1,P0 b5,V0 0,undef,undef,.agg #[V0 t,V0 u,V0 v,V0 (x:Int),.slice p n c],V0 (Hz t u v (x:Int) (Z.map fst)),.bool ((Hz t u v (x:Int) (Z.map fst)) != (0:Int)),.tuple #[P0 br,V0 0],.pointer (some ⟨b1,3,none⟩),V0 (x:Int),.tuple #[P0 br,V0 0],P0 br,V0 0,.agg #[V0 t,V0 u,V0 v,V0 (x:Int),.slice p n c],.func (.func 137) #[] #[P0 bm],V0 (y.1:Int),.agg #[V0 y.2.1,V0 y.2.2.1,V0 y.2.2.2],undef,undef,undef,undef,undef,undef],defers:=[] } K0 ?_
  refine Lq (fun⟨_,_,q⟩=>q) Y5 ?_
  refine Jh K0 (Jw [V0 0,V0 0,V0 0] rfl K0 ?_)
  intro b8 W8 n8
  have g8:=n8.ge (B4 W)
  have hB:=n8.i
  have k8:=n8.blk
  refine Jh K0 (Ny (b:=b8) (off:=0) [V0 y.2.1,V0 y.2.2.1,V0 y.2.2.2] rfl K0 K0 K0 (by first|decide|simp[Value.oneCell']) k8 (by first|decide|simp) ?_)
  intro W9 u9 k9
  change Blk _ _ [V0 y.2.1,V0 y.2.2.1,V0 y.2.2.2] _ at k9
  replace hB:=u9.i hB g8
  refine wpList_nil ?_
  exact hK _ _ hB ⟨_,rfl,k9⟩
 case body =>
  rintro lr k y a' W e0 hy ⟨a8,n3,nr,nc⟩ ⟨b6,rfl,n6⟩
  have b9:w.heap.size≤W.heap.size:=a8.size
  obtain⟨d7,e1⟩:=a6 y (List.mem_of_getElem? hy)
  obtain⟨j,hj⟩:∃ j:Nat,y.2.2.1=(j:Int):=⟨y.2.2.1.toNat,M0⟩
  have d4:(Ad (replicate x 0) ((Uz 0 (Z.map fst)).take k)).length=x:=by rw[Zjd,B7]
  have d8:=Zab (Ad (replicate x 0) ((Uz 0 (Z.map fst)).take k)) j
  have c4:=Zir (data:=x) ((Uz 0 (Z.map fst)).take k) (fun z hz=>a6 z (M1 hz)) (replicate x 0) B7
  rw[P4,D8] at c4
  have c6:=Nat.min_le_right k (Uz 0 (Z.map fst)).length
  rw[Zaj] at c6 c4
  rw[hj] at n6
  obtain⟨cg,kg⟩:=Zai nc
  refine wpIn_block ?_
  refine Lq (fun⟨_,_,q⟩=>q) Y5 ?_
  refine Jh K0 (Qd ⟨b5,0,none⟩ (P0 br) rfl K0 K0 (n3.cell (i:=0) rfl) ?_)
  refine Gg 1 [(21,.pointer (some ⟨b6,1,none⟩))] K0 ?_
  refine Jh K0 (Qd ⟨b6,1,none⟩ (V0 (j:Int)) rfl K0 K0 (n6.cell (i:=1) rfl) ?_)
  refine Jh K0 (Ks (lb:=#[]) 71 #[P0 br,V0 (j:Int)] rfl K0 (fun _ _=>by kernel_rfl) K0 ((Zxk w.heap.size br g x j (Ad (replicate x 0) ((Uz 0 (Z.map fst)).take k)) _ nr (N0 b9 (U3 w.heap.size _).size) nc d4 M0 M0).mono ?_))
  rintro e e2 ⟨rfl,b0,a2,b2,b3⟩
  refine⟨_,rfl,?_⟩
  have hX:Fr [g] W _:=b2
  have hB:=b0
  replace n3:=n3.q a2 Do
  replace nr:=nr.q a2 Do
  replace n6:=n6.q a2 Do
  refine wpList_nil ?_
  exact⟨(frg_ko hX kg).from _,Zxr hX (fun b hb=>D5 hb b9) (Nat.not_lt.2 d0.1),a8.trans hB,n3,nr,by rw[Zsi _ _ hy,hj];exact b3⟩
 case done =>
  rintro D W hD ⟨a8,n3,nr,nc⟩ c1
  have hK:Dfr D W:=c1;clear c1
  rw[B9 (At _)] at nc
  refine Zks ?_
  have hB:=a8
  refine wp_seq ?_
  refine wp_region_lit ?_
  refine Jh K0 (Qd ⟨b5,0,none⟩ (P0 br) rfl K0 K0 (n3.cell (i:=0) rfl) ?_)
  have b4:w.heap.size≤(W).heap.size:=hB.size
  refine Jh K0 (Ks (lb:=#[]) 73 #[P0 br] rfl K0 (fun _ _=>by kernel_rfl) K0 ((Zhg br g x w.heap.size (Us x (Z.map fst)) _ nr nc (Kv _ _) M0).mono ?_))
  rintro e d6 ⟨_,rfl,a0,q9,d9,rfl,a7⟩
  refine⟨_,rfl,?_⟩
  replace hB:=bln hB a0
  replace n3:=n3.i a0
  replace nr:=nr.i a0
  replace nc:=Zb nc a0
  replace hK:=hK.i a0
  replace a7:=Zg a7 b4
  refine Gg 1 [(2,.slice q9 x d9)] K0 ?_
  refine wpList_nil ?_
  refine wp_ret ?_
  exact Zi2 hK (.slice q9 x d9) K0 K0 ⟨_,rfl,(Q7 _ _ _).i hB (N0 a9 hD),_,_,rfl,(Q7 _ _ _).O a7 (hK.row a7)⟩
theorem Tv{cs:V6 Nat}{i:Nat}(h:i<cs.length):(cs.take (i+1)).sum=(cs.take i).sum+cs.getD i 0:=by
 rw[B5 h,E8];simp[getD,h]
theorem Zr4(cs:V6 Nat)(i:Nat):(cs.take i).sum≤cs.sum:=by
 conv=>rhs;rw[←G9 i cs]
 rw[E8];omega
theorem Vf{w:V1}{pc:O0}{n m:Nat}{cs:V6 Nat}(h:Sl w (.slice pc n m) n (cs.map nv))(hn:cs.length=n){k:Nat}(hk:k<n):pc.isSome=true∧w.cell? (Zx pc (k*1))=some (V0 ((cs.getD k 0:Nat):Int)):=Jy h M0
theorem Znq(a:O0)(n c:Nat)(cs:V6 Nat)(w:V1)(hn:cs.length=n)(h:Sl w (.slice a n c) n (cs.map nv))(hs:cs.sum≤1000000000) :
 C0 81 #[.slice a n c] w (Ret (V0 (cs.sum:Int)) w):=by
 have a5:=Sl.len h
 refine zin 17 Tryz.func81 ?_
 have hB:=U3 w.heap.size w
 refine zl 19 17 (fun zm a1 V=>∃ (i:Nat),a1=[(2,V0 0),(3,V0 (↑((cs.take i).sum):Int)),(6,.slice a n c),(7,V0 (n:Int)),(8,V0 (i:Int))]∧zm=n-((i:Int)).toNat∧B3 w V∧i≤n) ⟨0,rfl,rfl,hB,A5 _⟩ ?_
 rintro _ _ W1 ⟨i,rfl,rfl,a0,hi⟩ J1 a2 r1
 have a4:=Zr4 cs (i+1)
 refine xid 6 ((i:Int)<(n:Int)) (fun a3=>?_) (fun a3=>?_)
 ·have a6:=Tv (cs:=cs) (i:=i) M0
  refine xx 6 _ n i 1 (Vf h hn (k:=i) M0).1 ?_
  refine xl 0 ((Vf (h.i a0) hn (k:=i) M0).2) ?_
  refine xwm 6 ((↑((cs.take i).sum):Int)+(↑(cs.getD i 0):Int)) (↑(((cs.take i).sum)+(cs.getD i 0)):Int) ?_
  refine xwm 5 ((i:Int)+1) (↑(i+1):Int) ?_
  refine xv1 2 3 (show(V0 (↑(((cs.take i).sum)+(cs.getD i 0)):Int):V2)=V0 (↑((cs.take (i+1)).sum):Int) from by rw[Tv (i:=i) M0]) ?_
  exact ze 0 (a2 _ _ _ ⟨i+1,rfl,rfl,a0,M0⟩ M0)
 exact xe 12 (V0 (↑((cs.take i).sum):Int)) ⟨by rw[B9 M0],a0⟩
theorem Zq9(p:O0)(c n x:Nat)(t u v:Int)(Z:V6 Zv)(w:V1)(hZ:Z.length=n)(hP:DevsR w p c Z)(hk:PoolOk t u v (x:Int) (Z.map fst)) :
 C0 82 #[.agg #[V0 t,V0 u,V0 v,V0 (x:Int),.slice p n c]] w (Ret (V0 (↑(Znz x (Z.map fst)):Int)) w):=by
 have hx:x≤65536:=by have:=hk.a3;omega
 refine zin 19 Tryz.func82 ?_
 refine xa 2 [V0 t,V0 u,V0 v,V0 (x:Int),.slice p n c] 24 fun b1 W1 n1=>?_
 refine xlv 11 n1.blk.rp ?_
 refine xc 0 (Zag p c n x t u v Z _ hZ (hP.i n1.i) hk) ?_
 rintro _ W2 ⟨_,rfl,a7,q9,d9,rfl,a2⟩
 have a3:=Zg a2 n1.i.size
 have a5:=bln n1.i a7
 have a4:=n1.blk.i a7
 refine zl 5 19 (fun zm a8 V=>∃ (i:Nat),a8=[(2,V0 0),(3,V0 (↑(Gd (Us x (Z.map fst)) i):Int)),(7,.slice q9 x d9),(8,V0 (x:Int)),(9,V0 (i:Int))]∧zm=x-((i:Int)).toNat∧B3 w V∧Blk V b1 ([V0 t,V0 u,V0 v,V0 (x:Int),.slice p n c]) 24∧V.ownsRow w.heap.size 3 1 (.slice q9 x d9) x ((Us x (Z.map fst)).map nv)∧i≤x) ⟨0,rfl,rfl,a5,a4,a3,A5 _⟩ ?_
 rintro _ _ W3 ⟨i,rfl,rfl,a1,a0,a2,hi⟩ J3 a6 r3
 refine xid 6 ((i:Int)<(x:Int)) (fun b0=>?_) (fun b0=>?_)
 ·have b2:Gd (Us x (Z.map fst)) i≤i:=by unfold Gd;exact N0 (O1 _ _) (by rw[D8];exact K6 _ _)
  refine xx 6 _ x i 1 (Vf (Zf a2) (Kv _ _) (k:=i) M0).1 ?_
  refine xl 0 ((Vf (Zf a2) (Kv _ _) (k:=i) M0).2) ?_
  refine xid 9 ((↑((Us x (Z.map fst)).getD i 0):Int)≥(3:Int)) (fun a9=>?_) (fun a9=>?_)
  ·refine xwm 2 ((↑(Gd (Us x (Z.map fst)) i):Int)+1) (↑((Gd (Us x (Z.map fst)) i)+1):Int) ?_
   refine xwm 5 ((i:Int)+1) (↑(i+1):Int) ?_
   refine xv1 2 3 (show(V0 (↑((Gd (Us x (Z.map fst)) i)+1):Int):V2)=V0 (↑(Gd (Us x (Z.map fst)) (i+1)):Int) from by rw[Pd (k:=i) (by rw[Kv];omega),V8 M0]) ?_
   exact ze 0 (a6 _ _ _ ⟨i+1,rfl,rfl,a1,a0,a2,M0⟩ M0)
  refine xwm 4 ((i:Int)+1) (↑(i+1):Int) ?_
  refine xv1 2 3 (show(V0 (↑(Gd (Us x (Z.map fst)) i):Int):V2)=V0 (↑(Gd (Us x (Z.map fst)) (i+1)):Int) from by rw[Pd (k:=i) (by rw[Kv];omega),V7 M0,G4]) ?_
  exact ze 0 (a6 _ _ _ ⟨i+1,rfl,rfl,a1,a0,a2,M0⟩ M0)
 exact xe 12 (V0 (↑(Gd (Us x (Z.map fst)) i):Int)) ⟨by obtain rfl:i=x:=M0;rfl,a1⟩
theorem devs_row{Z:V6 Zv}{i:Nat}(h:i<Z.length):((((Z.map fst).map fun d=>Zy 2 d.2.length).take i).map nv)++[V0 (↑(Zy 2 (Z.getD i zvD).1.2.length):Int)]=((((Z.map fst).map fun d=>Zy 2 d.2.length).take (i+1)).map nv):=by
 rw[B5 (by simpa using h),A6];simp[getD,h,nv]
theorem Zj4{data:Int}{Z:V6 Zv}(hk:DevsOk data (Z.map fst)){i:Nat}(h:i<Z.length):(Z.getD i zvD).1.2.length≤16384:=by
 have a:=hk.sum;have b:=Zff (L:=Z.map fst) (i:=i) (by rw[A3];exact h);rw[zfst h] at b;omega
theorem Zmw{L:V6 Dv}:(L.map fun d=>Zy 2 d.2.length).length=L.length:=A3 ..
theorem Zw4(b a1 a2 a3 a4 a5 a6:Nat)(w:V1)(k:Blk w b [V0 1,V0 (a1:Int),V0 (a2:Int),V0 (a3:Int),V0 (a4:Int),V0 (a5:Int),V0 (a6:Int)] 3)(h:1+a1+a2+a3+a4+a5+a6≤1000000000) :
 C0 81 #[.slice (S3 b) 7 7] w (Ret (V0 (↑(1+a1+a2+a3+a4+a5+a6):Int)) w):=by
 have e:[1,a1,a2,a3,a4,a5,a6].sum=1+a1+a2+a3+a4+a5+a6:=by simp only[G3,N9];omega
 have q:=Znq (S3 b) 7 7 [1,a1,a2,a3,a4,a5,a6] w rfl (k.sl 7 7 Do Do) (by rw[e];exact h)
 rw[e] at q
 exact q
theorem Zy5{x n:Nat}{L:V6 Dv}(h:L.length=n):1+Zy 3 n+Zy 1 n+Cf L+bmN x+Zy 4 (bmN x)+Zy 5 (Znz x L)=Cq x L:=by
 subst h;rfl
theorem Zzc(p:O0)(c n x:Nat)(t u v:Int)(Z:V6 Zv)(w:V1)(hZ:Z.length=n)(hP:DevsR w p c Z)(hk:PoolOk t u v (x:Int) (Z.map fst)) :
 C0 33 #[.agg #[V0 t,V0 u,V0 v,V0 (x:Int),.slice p n c]] w (Ret (V0 (↑(Cq x (Z.map fst)):Int)) w):=by
 have hx:x≤65536:=by have:=hk.a3;omega
 have b4:(Z.map fst).length=n:=by rw[A3];exact hZ
 have d7:=hk.J.a0
 have f3:=hk.J.sum
 rw[b4] at d7
 have e7:=Zgi hk.J
 have e8:=Zn6 hx hk.J
 have e5:bmN x≤69:=by unfold bmN;omega
 refine zin 46 Tryz.func33 ?_
 refine xa 2 [V0 t,V0 u,V0 v,V0 (x:Int),.slice p n c] 24 fun b1 W1 n1=>?_
 refine xlv 6 n1.blk.rp ?_
 refine xr 0 (Hf p c n t u v (x:Int) Z _ hZ (hP.i n1.i)) fun W2 d2=>?_
 refine xk 3 (show(((Hz t u v (x:Int) (Z.map fst)) != (0:Int)):Bool)=false from by rw[Mx.2 hk];rfl) ?_
 have a6:=n1.blk.i d2
 refine xb 11 4 a6 ?_
 have c0:=bln n1.i d2
 refine zl 5 46 (fun zm d4 V=>∃ (i:Nat) (p3:O0) (c3:Nat),d4=[(1,P0 b1),(2,V0 0),(3,.slice p3 i c3),(11,.slice p n c),(12,V0 (n:Int)),(13,V0 (i:Int))]∧zm=n-((i:Int)).toNat∧B3 w V∧Blk V b1 ([V0 t,V0 u,V0 v,V0 (x:Int),.slice p n c]) 24∧V.ownsRow w.heap.size 3 1 (.slice p3 i c3) i ((((Z.map fst).map fun d=>Zy 2 d.2.length).take i).map nv)∧i≤n) ⟨0,none,0,rfl,rfl,c0,a6,A8 _ _ _ _,A5 _⟩ ?_
 rintro _ _ W3 ⟨i,p3,c3,rfl,rfl,a2,a1,hl,hi⟩ J3 d3 r3
 refine xid 6 ((i:Int)<(n:Int)) (fun d8=>?_) (fun d8=>?_)
 ·have f1:=Zj4 hk.J (i:=i) M0
  refine xx 6 _ n i 5 (hP.a4 hZ (i:=i) M0) ?_
  refine xlv 0 (Sts.rp (k:=i) (hP.i a2).row Jd zvD M0 Do) ?_
  refine xa 0 [V0 0,V0 0,V0 0,V0 0,S1] 32 fun b5 W5 n5=>?_
  have g5:=n5.ge a2
  refine xsv 0 n5.blk [V0 ((Z.getD i zvD).1.1.1),V0 ((Z.getD i zvD).1.1.2.1),V0 ((Z.getD i zvD).1.1.2.2.1),V0 ((Z.getD i zvD).1.1.2.2.2),.slice ((Z.getD i zvD).2.1) ((Z.getD i zvD).1.2.length) ((Z.getD i zvD).2.2)] fun W6 u6 k6=>?_
  refine xb 5 4 k6 ?_
  refine xr 1 (Qu 2 ((Z.getD i zvD).1.2.length) _ Do Do M0) fun W7 b6=>?_
  refine xbs 0 1 [V0 (↑(Zy 2 ((Z.getD i zvD).1.2.length)):Int)] 3 fun b8 W8 n8=>?_
  have b2:=bln (u6.i (bln a2 n5.i) g5) b6
  have c4:=Zb (u6.j (Zb hl n5.i) n5.blk Do) b6
  have a7:=Zb c4 n8.i
  have a9:=bln b2 n8.i
  refine xbi 0 fun _ _ _ _ zJ zQ zo zx zy zK=>Xd (m:=1) (news:=[V0 (↑(Zy 2 ((Z.getD i zvD).1.2.length)):Int)]) (V0 0) 1 8 (i+1) (((((Z.map fst).map fun d=>Zy 2 d.2.length).take (i+1)).map nv)) zo Tryz.underlying27 K0 rfl Do zx a7 zy (n8.blk.sl 1 1 Do Do) rfl Y4 Y2 M0 a9.size Y6 (by exact devs_row M0) fun e4 e0 W9 o9 d5 d6=>?_
  refine zK _ _ ?_
  refine xwm 5 ((i:Int)+1) (↑(i+1):Int) ?_
  have c6:=a9.trans d6
  have a3:=(((u6.A (a1.i n5.i) n5.blk Do).i b6).i n8.i).grown d5 a7 Do
  exact ze 2 (d3 _ _ _ ⟨i+1,_,_,rfl,rfl,c6,a3,o9,M0⟩ M0)
 obtain rfl:n=i:=M0
 rw[B9 (by rw[Zmw,A3];omega)] at hl
 refine xb 8 3 a1 ?_
 refine xr 0 (Tz x _ hx) fun c8 a4=>?_
 refine xd 4 .z ?_
 have a0:=(a1.i a4).i (Za c8)
 refine xb (.e [0] 1) 4 a0 ?_
 refine xb (.e [2,4] 5) 4 a0 ?_
 refine xlv (.e [6,8,10,11] 13) a0.rp ?_
 refine xr (.o [] 3) (Qu 3 n _ Do Do M0) fun d9 b0=>?_
 refine xr (.o [] 7) (Qu 1 n _ Do Do M0) fun e9 a5=>?_
 have b7:=Zb (Zb (Zb (Zb hl a4) (Za c8)) b0) a5
 refine xr (.o [] 9) (Znq p3 n c3 ((Z.map fst).map fun d=>Zy 2 d.2.length) _ (by rw[Zmw,A3];exact hZ) (Zf b7) (by have:=Zov (L:=(Z.map fst));unfold Cf at this;omega)) fun e2 b3=>?_
 refine xr (.o [] 12) (Qu 4 (bmN x) _ Do Do M0) fun f0 c1=>?_
 have a8:=bln (bln (bln (bln (bln (bln a2 a4) (Za c8)) b0) a5) b3) c1
 refine xr (.o [] 14) (Zq9 p c n x t u v Z _ hZ (hP.i a8) hk) fun e6 c9=>?_
 refine xr (.o [] 15) (Qu 5 (Znz x (Z.map fst)) _ Do Do M0) fun f2 c2=>?_
 refine xbs (.o [] 16) 7 [V0 1,V0 (↑(Zy 3 n):Int),V0 (↑(Zy 1 n):Int),V0 (↑(Cf (Z.map fst)):Int),V0 (↑(bmN x):Int),V0 (↑(Zy 4 (bmN x)):Int),V0 (↑(Zy 5 (Znz x (Z.map fst))):Int)] 3 fun d0 e3 d1=>?_
 have c5:=bln (bln a8 c9) c2
 refine xr (.o [] 17) (by have q:=Zw4 d0 (Zy 3 n) (Zy 1 n) (Cf (Z.map fst)) (bmN x) (Zy 4 (bmN x)) (Zy 5 (Znz x (Z.map fst))) _ d1.blk (by rw[Zy5 b4];omega);rw[Zy5 b4] at q;exact q) fun e1 b9=>?_
 have c7:=bln (bln c5 d1.i) b9
 exact xe (.r [18] 3) (V0 (↑(Cq x (Z.map fst)):Int)) ⟨rfl,c7⟩
theorem Zvl{l:V6 Int}(h:l.length≤65536)(ho:(Zp l l.length).length≤32768):2≤Qk l∧Qk l≤80000∧bmN l.length≤69:=by
 have h4:=Pc 4 (bmN l.length);have h5:=Pc 5 (Zp l l.length).length;have a1:=Qf 4 (bmN l.length);have a0:=Qf 5 (Zp l l.length).length;have hb:bmN l.length≤69:=by unfold bmN;omega
 unfold Qk;omega
theorem Zqz(B ba b g nn cc:Nat)(pa:O0)(ca f N k0:Nat)(bs:Bl)(a:O0)(c:Nat)(l:V6 Int)(w:V1)(hC:AlC B ba nn cc ca f N)(hA:Al B ba b g nn cc pa ca f N k0 bs w)(h:Sl w (.slice a l.length c) l.length (l.map V0))(hl:l.length≤65536)(ho:(Zp l l.length).length≤32768)(hs:Jn l=0)(hf1:1≤f)(hkN:k0≤N)(hk:k0+Qk l≤N)(hBw:B≤w.heap.size) :
 C0 92 #[P0 ba,.slice a l.length c] w (DataP B ba b g nn cc pa ca f N k0 bs l w):=by
 have d3:=hC.hf
 have d6:=hC.hn
 have d7:=Zvl hl ho
 have c5:=Ws hs
 have d8:Qk l=(bmN l.length)+Zy 4 (bmN l.length)+Zy 5 (Zp l l.length).length:=rfl
 have d5:=Pc 4 (bmN l.length)
 have d4:=Pc 5 (Zp l l.length).length
 refine zin 70 Tryz.func92 ?_
 refine xr 11 (args:=#[P0 ba]) (Eo ba b _ _ _ hA.U) fun W1 a0=>?_
 refine xc 9 (Dy a c l _ (h.i a0) M0 hs) ?_
 rintro _ W2 ⟨pb,cb,gs,po,co,rfl,a4,hL,b7⟩
 have c3:=(blB (U3 B w) hBw a0).size
 have a9:=(hA.i a0).i a4
 refine xr 23 (Rp ba b pa N ca k0 _ a9.U hkN) fun W3 a3=>?_
 refine xr 4 (Qu 4 (bmN l.length) _ Do Do M0) fun W4 a2=>?_
 refine xwm 0 ((↑(bmN l.length):Int)+(↑(Zy 4 (bmN l.length)):Int)) (↑((bmN l.length)+(Zy 4 (bmN l.length))):Int) ?_
 refine xr 2 (Qu 5 (Zp l l.length).length _ Do Do M0) fun W5 a1=>?_
 refine xwm 0 ((↑((bmN l.length)+(Zy 4 (bmN l.length))):Int)+(↑(Zy 5 (Zp l l.length).length):Int)) (↑(((bmN l.length)+(Zy 4 (bmN l.length)))+(Zy 5 (Zp l l.length).length)):Int) ?_
 refine xk 3 (show(decide ((↑(N-k0):Int)<(↑(((bmN l.length)+(Zy 4 (bmN l.length)))+(Zy 5 (Zp l l.length).length)):Int)):Bool)=false from V9 M0) ?_
 refine xa 4 [S1] 99 fun b6 W6 n6=>?_
 have hX:=(((((show Fr [ba,g] w _ from(Q2 a0)).trans (Q2 a4)).trans (Q2 a3)).trans (Q2 a2)).trans (Q2 a1)).trans (Q2 n6.i)
 have b0:=Zb (Zb (Zb (Zb (Zg b7 c3) a3) a2) a1) n6.i
 have b1:=(((a9.i a3).i a2).i a1).i n6.i
 have b2:=fun(W:V1) (hX:Fr ([ba,g]++[b6]) _ W)=>own_keep b0 b1 n6.blk hX
 have b4:=(((hL.i a3).i a2).i a1).i n6.i
 have g6:=n6.Q (blB (blB (blB (blB (blB (U3 B w) hBw a0) hBw a4) hBw a3) hBw a2) hBw a1)
 have hB:=blB (blB (blB (blB (blB (blB (U3 B w) hBw a0) hBw a4) hBw a3) hBw a2) hBw a1) hBw n6.i
 refine xc 8 (args:=#[P0 ba,.slice pb (bmN l.length) cb,.func (.func 155) #[] #[P0 b6]]) (Zpb B ba b g nn cc pa ca f N k0 bs b6 _ pb cb gs (Xe (Zj l) (bmN l.length)) (bmN l.length) (Wu _ _) _ hC b1 b4 (Tb c5.2 _) hf1 M0 n6.blk (N0 hBw g6) (N0 hBw hB.size)) ?_
 rintro _ W7 ⟨p8,c8,rfl,c2,d0,b8,hA,c6,c0⟩
 have d1:=(blB (blB (blB (blB (blB (blB (U3 B w) hBw a0) hBw a4) hBw a3) hBw a2) hBw a1) hBw n6.i).size
 replace b7:=b2 _ b8
 refine xb 15 0 c6 ?_
 have a6:=Zg c0 d1
 have a8:=hB.trans c2
 refine xc 0 (args:=#[P0 ba,V0 4,.slice p8 (bmN l.length) c8]) (My B ba b g nn cc pa ca f N (k0+(bmN l.length)) (Xt (Xe (Zj l) (bmN l.length)) (f+k0) bs (bmN l.length)) 4 p8 c8 (Xl (Xe (Zj l) (bmN l.length)) (f+k0) (bmN l.length)) (bmN l.length) _ (Xg _ _ _) hC hA Do Do (Gi _ _ _ M0) M0 hf1 M0 M0 (fun W _ h2=>by unfold Sts;rw[Xg];exact Zf (Zi a6 h2 Do)) (N0 hBw a8.size)) ?_
 rintro _ W8 ⟨rfl,c7,b9,d2,hA⟩
 rw[Xg] at hA
 have a7:=Zi b7 b9 Do
 have a5:=a8.trans c7
 refine xc 21 (args:=#[P0 ba,V0 5,.slice po ((Zp l l.length).length) co]) (My B ba b g nn cc pa ca f N (k0+(bmN l.length)+Zy 4 (bmN l.length)) (Xf 4 (Xl (Xe (Zj l) (bmN l.length)) (f+k0) (bmN l.length)) (f+(k0+(bmN l.length))) (Xt (Xe (Zj l) (bmN l.length)) (f+k0) bs (bmN l.length))).2 5 po co (Zp l l.length) (Zp l l.length).length _ rfl hC hA Do Do (Vl _ _ M0) M0 hf1 M0 M0 (fun W _ h2=>Zf (Zi a7 h2 Do)) (N0 hBw a5.size)) ?_
 rintro _ W9 ⟨rfl,c9,c1,c4,hA⟩
 have b5:=a5.trans c9
 have hO:=((((((((show Zd [169,5,99,124,39] w _ from(Q0 a0)).trans (Q0 a4)).trans (Q0 a3)).trans (Q0 a2)).trans (Q0 a1)).trans (Q0 n6.i)).trans (d0.wide)).trans (b9.wide)).trans (c1.wide)
 have b3:=((X1 hX b8 g6).trans (d2.mono Y5)).trans (c4.mono Y5)
 refine xe 27 (.tuple #[V0 ((Xf 4 (Xl (Xe (Zj l) (bmN l.length)) (f+k0) (bmN l.length)) (f+(k0+(bmN l.length))) (Xt (Xe (Zj l) (bmN l.length)) (f+k0) bs (bmN l.length))).1),V0 ((Xf 5 (Zp l l.length) (f+(k0+(bmN l.length)+Zy 4 (bmN l.length))) (Xf 4 (Xl (Xe (Zj l) (bmN l.length)) (f+k0) (bmN l.length)) (f+(k0+(bmN l.length))) (Xt (Xe (Zj l) (bmN l.length)) (f+k0) bs (bmN l.length))).2).1),.nilIface]) ?_
 have e1:f+(k0+(bmN l.length))=f+k0+(bmN l.length):=M0
 have e2:f+(k0+(bmN l.length)+Zy 4 (bmN l.length))=f+k0+(bmN l.length)+Zy 4 (bmN l.length):=M0
 rw[e2,e1] at hA ⊢
 have e3:k0+(bmN l.length)+Zy 4 (bmN l.length)+Zy 5 (Zp l l.length).length=k0+Qk l:=M0
 rw[e3] at hA
 exact⟨rfl,b5,hO,b3,hA⟩
theorem Dx(w:V1) :
 C0 147 #[] w (Kd (fun w' r=>∃ b,r=.slice (S3 b) 1 1∧w.heap.size≤b∧Blk w' b [V0 8,V0 0,V0 1099511627775] 298) w):=by
 refine zin 3 Tryz.func147 ?_
 refine xbs 8 1 [V0 8,V0 0,V0 1099511627775] 298 fun b1 W1 n1=>?_
 exact xe 4 (.slice (S3 b1) 1 1) ⟨_,rfl,n1.i,b1,rfl,(n1.ge (B4 w)),n1.blk⟩
theorem map_shr(s:Bl):Int.fdiv (↑((Xq Mo s).getD 0 0):Int) (2 ^ 24)=(Oh s:Int):=by
 show Int.fdiv ((mapN s:Nat):Int) ((16777216:Nat):Int)=_;rw[O4 _ M0];unfold Oh;omega
theorem map_and(s:Bl):IntKind.i64.wrap (↑(BitVec.ofInt 64 (↑((Xq Mo s).getD 0 0):Int) &&& BitVec.ofInt 64 (16777215:Int)).toNat:Int)=(Zey s:Int):=by
 show IntKind.i64.wrap (↑(BitVec.ofInt 64 (mapN s:Int) &&& BitVec.ofInt 64 (16777215:Int)).toNat:Int)=(Zey s:Int);have:=mapN_bd s;rw[show(16777215:Int)=((16777215:Nat):Int) from rfl,E6,E6,P5,E9,E9,E5 M0,E5 M0];rw[show mapN s &&& 16777215=mapN s%16777216 from M9 (mapN s) 24];exact Lj M0
theorem Zfe(s:Bl)(w:V1)(hs:s.length≤1000) :
 C0 266 #[.string ⟨s.toArray⟩] w (Ret (.tuple #[V0 (↑(Oh s):Int),V0 (↑(Zey s):Int),V0 (Xn Mo s)]) w):=by
 refine zin 22 Tryz.func266 ?_
 refine xc 9 (Dx _) ?_
 rintro _ W1 ⟨_,rfl,a1,gl,rfl,gg,kl⟩
 refine xc 1 (Mr Mo s (S3 gl) 1 _ Zk0 Do M0 (kl.sl 1 1 Do Do)) ?_
 rintro _ W2 ⟨_,rfl,a2,p5,c5,rfl,h5⟩
 refine xd 8 .z ?_
 have a0:=Zb (Zg h5 a1.size) (Za W2)
 refine xx (.e [0] 1) _ 1 0 1 (Zz (l:=Xq Mo s) (Zf a0) (Yi _ _) (k:=0) Do).1 ?_
 refine xl (.e [] 2) ((Zz (l:=Xq Mo s) (Zf a0) (Yi _ _) (k:=0) Do).2) ?_
 refine xq (.e [] 3) (congrArg V0 (show(Int.fdiv (↑((Xq Mo s).getD 0 0):Int) (2 ^ 24):Int)=(↑(Oh s):Int) from map_shr s)) ?_
 refine xx (.e [4] 5) _ 1 0 1 (Zz (l:=Xq Mo s) (Zf a0) (Yi _ _) (k:=0) Do).1 ?_
 refine xl (.e [] 6) ((Zz (l:=Xq Mo s) (Zf a0) (Yi _ _) (k:=0) Do).2) ?_
 refine xq (.e [] 7) (congrArg V0 (show(IntKind.i64.wrap (↑(BitVec.ofInt 64 (↑((Xq Mo s).getD 0 0):Int) &&& BitVec.ofInt 64 (16777215:Int)).toNat:Int):Int)=(↑(Zey s):Int) from map_and s)) ?_
 have hB:=bln (bln a1 a2) (Za W2)
 exact xe (.r [8,9,10,11] 3) (.tuple #[V0 (↑(Oh s):Int),V0 (↑(Zey s):Int),V0 (Xn Mo s)]) ⟨rfl,hB⟩
theorem Nf(w:V1) :
 C0 150 #[] w (Kd (fun w' r=>∃ b,r=.slice (S3 b) 4 4∧w.heap.size≤b∧Blk w' b [V0 8,V0 0,V0 16384,V0 8,V0 0,V0 2147483647,V0 4,V0 0,V0 16777215,V0 4,V0 0,V0 16777215] 298) w):=by
 refine zin 6 Tryz.func150 ?_
 refine xbs 11 4 [V0 8,V0 0,V0 16384,V0 8,V0 0,V0 2147483647,V0 4,V0 0,V0 16777215,V0 4,V0 0,V0 16777215] 298 fun b1 W1 n1=>?_
 exact xe 4 (.slice (S3 b1) 4 4) ⟨_,rfl,n1.i,b1,rfl,(n1.ge (B4 w)),n1.blk⟩
theorem Ac(s:Bl)(w:V1)(hs:s.length≤1000) :
 C0 193 #[.string ⟨s.toArray⟩] w (Ret (.tuple #[.agg #[V0 (↑(Kn s 0):Int),V0 (↑(Kn s 1):Int),V0 (↑(Kn s 2):Int),V0 (↑(Kn s 3):Int)],V0 (Xn Nb s)]) w):=by
 refine zin 26 Tryz.func193 ?_
 refine xa 2 [V0 0,V0 0,V0 0,V0 0] 174 fun b1 W1 n1=>?_
 refine xc 5 (Nf _) ?_
 rintro _ W2 ⟨_,rfl,a1,gl,rfl,gg,kl⟩
 refine xc 1 (Mr Nb s (S3 gl) 4 _ Zfu Do M0 (kl.sl 4 4 Do Do)) ?_
 rintro _ W3 ⟨_,rfl,a2,p5,c5,rfl,h5⟩
 have a3:=(bln n1.i a1).size
 refine xd 8 (.t w.heap.size [174]) ?_
 have a0:=Zb (Zg h5 a3) (Za W3)
 refine xx (.e [0] 1) _ 4 0 1 (Zz (l:=Xq Nb s) (Zf a0) (Yi _ _) (k:=0) Do).1 ?_
 refine xlt (.e [] 2) (.t w.heap.size [174]) (fun V hV=>(Zz (l:=Xq Nb s) (Zf (Zi a0 hV.2 Do)) (Yi _ _) (k:=0) Do).2) ?_
 refine xx (.e [3] 4) _ 4 1 1 (Zz (l:=Xq Nb s) (Zf a0) (Yi _ _) (k:=1) Do).1 ?_
 refine xlt (.e [] 5) (.t w.heap.size [174]) (fun V hV=>(Zz (l:=Xq Nb s) (Zf (Zi a0 hV.2 Do)) (Yi _ _) (k:=1) Do).2) ?_
 refine xx (.e [6] 7) _ 4 2 1 (Zz (l:=Xq Nb s) (Zf a0) (Yi _ _) (k:=2) Do).1 ?_
 refine xlt (.e [] 8) (.t w.heap.size [174]) (fun V hV=>(Zz (l:=Xq Nb s) (Zf (Zi a0 hV.2 Do)) (Yi _ _) (k:=2) Do).2) ?_
 refine xx (.e [9] 10) _ 4 3 1 (Zz (l:=Xq Nb s) (Zf a0) (Yi _ _) (k:=3) Do).1 ?_
 refine xlt (.e [] 11) (.t w.heap.size [174]) (fun V hV=>(Zz (l:=Xq Nb s) (Zf (Zi a0 hV.2 Do)) (Yi _ _) (k:=3) Do).2) ?_
 have k1:=((n1.blk.i a1).i a2).i (Za W3)
 have g1:=n1.ge (B4 w)
 refine ysv (.o [12,13] 14) k1 [V0 (↑((Xq Nb s).getD 0 0):Int),V0 (↑((Xq Nb s).getD 1 0):Int),V0 (↑((Xq Nb s).getD 2 0):Int),V0 (↑((Xq Nb s).getD 3 0):Int)] (.t w.heap.size [174]) fun W4 u4 k4=>⟨(Zr u4 k1 g1 Do),?_⟩
 have hB:=u4.i (bln (bln (bln n1.i a1) a2) (Za W3)) g1
 exact xec (.r [15] 3) k4 (.tuple #[.agg #[V0 (↑((Xq Nb s).getD 0 0):Int),V0 (↑((Xq Nb s).getD 1 0):Int),V0 (↑((Xq Nb s).getD 2 0):Int),V0 (↑((Xq Nb s).getD 3 0):Int)],V0 (Xn Nb s)]) ⟨rfl,hB⟩
theorem Rw(ps:V6 Ly)(N:V6 Int)(gl gn:O0)(cl cn n:Nat)(w:V1)(hps:Gm ps)(hn:n=ps.length)(hNl:N.length=n)(hP:Sts Zlg w (.slice gl ps.length cl) ps)(hN:Sl w (.slice gn n cn) n (N.map V0))(h:Wg ps N n=true) :
  C0 146 #[.slice gl ps.length cl,.slice gn n cn] w (Ret (.string ⟨(Tr ps N ps.length).toArray⟩) w):=(Ok ps N gl gn cl cn n w hps hn hNl hP hN).mono (by
 rintro e W q
 rcases q with ⟨q,_⟩|⟨_,rfl,hb⟩
 ·rw[h] at q;cases q
 ·exact⟨rfl,hb⟩)
theorem map_or{b t:Int}(h1:0≤b∧b≤65535)(h2:0≤t∧t≤16777215):IntKind.i64.wrap (↑(BitVec.ofInt 64 (b*16777216) ||| BitVec.ofInt 64 t).toNat:Int)=b*16777216+t:=by
 obtain⟨p,rfl⟩:∃ p:Nat,b=(p:Int):=⟨b.toNat,M0⟩;obtain⟨q,rfl⟩:∃ q:Nat,t=(q:Int):=⟨t.toNat,M0⟩;have e:((p:Int)*16777216)=((p*16777216:Nat):Int):=M0;rw[e,E6,E6,BitVec.toNat_or,E9,E9,E5 M0,E5 M0];have h:=Nat.two_pow_add_eq_or_of_lt (i:=24) (b:=q) M0 p;rw[show(2:Nat) ^ 24*p=p*16777216 by omega] at h;rw[←h];exact(IntWalk.i64_in _ M0).trans M0
theorem Zs2(m:Mp)(w:V1)(h1:0≤m.2.1∧m.2.1≤65535)(h2:0≤m.2.2∧m.2.2≤16777215) :
 C0 88 #[V0 m.2.1,V0 m.2.2] w (Ret (.string ⟨(Zta m).toArray⟩) w):=by
 refine zin 26 Tryz.func88 ?_
 refine xgk 11 [6,7] (show(decide (m.2.1<(0:Int)):Bool)=false from V9 M0) ?_
 refine xgk 4 [9,10,11] (show(decide (m.2.1≥(65536:Int)):Bool)=false from V9 M0) ?_
 refine xgk 4 [13,14,15] (show(decide (m.2.2<(0:Int)):Bool)=false from V9 M0) ?_
 refine xk 5 (show(decide (m.2.2>(16777215:Int)):Bool)=false from V9 M0) ?_
 refine xc 4 (Dx _) ?_
 rintro _ W4 ⟨_,rfl,a1,gl,rfl,gg,kl⟩
 refine xq 1 (congrArg V0 (show(IntKind.i64.wrap (m.2.1*2 ^ 24):Int)=m.2.1*16777216 from IntWalk.i64_in _ M0)) ?_
 refine xq 1 (congrArg V0 (show(IntKind.i64.wrap (↑(BitVec.ofInt 64 (m.2.1*16777216) ||| BitVec.ofInt 64 m.2.2).toNat:Int):Int)=m.2.1*16777216+m.2.2 from map_or h1 h2)) ?_
 refine xbs 0 1 [V0 (m.2.1*16777216+m.2.2)] 3 fun b5 W5 n5=>?_
 have a0:=kl.i n5.i
 refine xr 0 (Rw Mo [m.2.1*16777216+m.2.2] (S3 gl) (S3 b5) 1 1 1 _ Zk0 rfl rfl (a0.sl 1 1 Do Do) (n5.blk.sl 1 1 Do Do) (by unfold Wg;rw[show range 1=[0] from rfl];simp[inP,Mo,getD];omega)) fun W6 a2=>?_
 have hB:=bln (bln a1 n5.i) a2
 exact xe 4 (.string ⟨(Zta m).toArray⟩) ⟨rfl,hB⟩
theorem Ze7(data n:Int)(d:Dv)(w:V1)(h:DevOk data d)(hn:0≤n∧n≤16384) :
 C0 91 #[.agg #[V0 n,V0 d.1.2.1,V0 d.1.2.2.1,V0 d.1.2.2.2]] w (Ret (.string ⟨(Pr n d).toArray⟩) w):=by
 refine zin 14 Tryz.func91 ?_
 refine xa 2 [V0 n,V0 d.1.2.1,V0 d.1.2.2.1,V0 d.1.2.2.2] 174 fun b1 W1 n1=>?_
 refine xd 4 .z ?_
 have k1:=n1.blk.i (Za W1)
 refine xb (.e [1] 2) 0 k1 ?_
 refine xb (.e [3] 4) 1 k1 ?_
 refine xb (.e [5] 6) 2 k1 ?_
 refine xb (.e [7] 8) 3 k1 ?_
 refine xm2 0 0 9 ?_ ?_
 ·refine yc 0 (args:=#[]) .z (Nf _) ?_
  rintro _ W2 ⟨_,rfl,a2,gl,rfl,gg,kl⟩
  refine⟨a2,?_⟩
  refine xbs (.o [] 9) 4 [V0 n,V0 d.1.2.1,V0 d.1.2.2.1,V0 d.1.2.2.2] 3 fun b3 W3 n3=>?_
  have a1:=kl.i n3.i
  refine xr (.o [] 10) (Rw Nb [n,d.1.2.1,d.1.2.2.1,d.1.2.2.2] (S3 gl) (S3 b3) 4 4 4 _ Zfu rfl rfl (a1.sl 4 4 Do Do) (n3.blk.sl 4 4 Do Do) (by have a:=h.tx;have b:=h.f7;have c:=h.f4;unfold Wg;rw[show range 4=[0,1,2,3] from rfl];simp[inP,Nb,getD];omega)) fun W4 a4=>?_
  have hB:=bln (bln (bln (bln n1.i (Za W1)) a2) n3.i) a4
  exact xe (.r [11] 3) (.string ⟨(Pr n d).toArray⟩) ⟨rfl,hB⟩
 refine xbs 0 4 [V0 n,V0 d.1.2.1,V0 d.1.2.2.1,V0 d.1.2.2.2] 3 fun b5 W5 n5=>?_
 refine yc (.o [] 0) (args:=#[]) .z (Nf _) ?_
 rintro _ W6 ⟨_,rfl,a0,gl,rfl,gg,kl⟩
 refine⟨a0,?_⟩
 have k5:=n5.blk.i a0
 refine xr (.o [] 10) (Rw Nb [n,d.1.2.1,d.1.2.2.1,d.1.2.2.2] (S3 gl) (S3 b5) 4 4 4 _ Zfu rfl rfl (kl.sl 4 4 Do Do) (k5.sl 4 4 Do Do) (by have a:=h.tx;have b:=h.f7;have c:=h.f4;unfold Wg;rw[show range 4=[0,1,2,3] from rfl];simp[inP,Nb,getD];omega)) fun W7 a3=>?_
 have hB:=bln (bln (bln (bln n1.i (Za W1)) n5.i) a0) a3
 exact xe (.r [11] 3) (.string ⟨(Pr n d).toArray⟩) ⟨rfl,hB⟩
theorem Zo4(B ba b g nn cc:Nat)(pa:O0)(ca f N k0:Nat)(bs:Bl)(bl B2:Nat)(pl:O0)(cl:Nat)(gs:V6 (Nat×Nat))(L:V6 (V6 Int))(n:Nat)(hn:L.length=n)(w:V1)(hC:AlC B ba nn cc ca f N)(hA:Al B ba b g nn cc pa ca f N k0 bs w)(hL:Lists w B2 (.slice pl n cl) gs L)(hS:∀ i,i<L.length→Uo (L.getD i [])∧(L.getD i []).length≤960)(hf1:1≤f)(hk:k0+n≤N)(kl:Blk w bl [S1] 132)(hBl:B≤bl)(hBw:B≤w.heap.size) :
 C0 154 #[P0 ba,.slice pl n cl,.func (.func 159) #[] #[P0 bl]] w (fun e w'=>∃ p c,e=.returned .nilIface∧Below B w w'∧Zd [169,5,132,126] w w'∧Fr ([ba,g]++[bl]) w w'∧Al B ba b g nn cc pa ca f N (k0+n) (Xt L (f+k0) bs n) w'∧Blk w' bl [.slice p n c] 132∧w'.ownsRow w.heap.size 126 3 (.slice p n c) n (rsL L (f+k0) n)):=by
 subst hn;exact Zyk B ba b g nn cc pa ca f N k0 bs bl B2 pl cl gs L w hC hA hL hS hf1 hk kl hBl hBw
def MetaP(B ba b g nn cc:Nat)(pa:O0)(ca f N k0:Nat)(bs:Bl)(l:V6 Int)(w:V1)(e:V5)(w':V1):Prop :=
 e=.returned (.tuple #[V0 (Ke l f k0 bs).1,V0 (Ke l f k0 bs).2.1,.nilIface])∧Below B w w'∧Zd [169,5,132,126,39] w w'∧Fr [ba,g] w w'∧Al B ba b g nn cc pa ca f N (k0+Yj l) (Ke l f k0 bs).2.2 w'
theorem Zr0(B ba b g nn cc:Nat)(pa:O0)(ca f N k0:Nat)(bs:Bl)(a:Addr)(c:Nat)(l:V6 Int)(w:V1)(hC:AlC B ba nn cc ca f N)(hA:Al B ba b g nn cc pa ca f N k0 bs w)(h:Sl w (.slice (some a) l.length c) l.length (l.map V0))(hl:l.length≤3000)(hlen:l.length=nn/256)(hs:Jn l=0)(hkN:k0≤N)(hk:k0+Yj l≤N)(hf1:1≤f)(hfree2:Zbe l ((f+k0:Nat):Int))(hBw:B≤w.heap.size) :
 C0 94 #[P0 ba,.slice (some a) l.length c] w (MetaP B ba b g nn cc pa ca f N k0 bs l w):=by
 have hW:Sin w w:=⟨U3 _ _⟩
 have i6:=hC.hf
 have i8:=hC.hn
 have h0:=Ws hs
 have j6:=By l l.length
 have j7:Yj l=(Zy 5 (Zp l l.length).length)+(bmN l.length)+1:=rfl
 have j0:bmN l.length≤4:=by unfold bmN;omega
 have h3:Jn (Qy l (f+k0) (Yj l))=0:=by unfold Jn;rw[V7 (by rw[Qe];omega),V8 (Ii hfree2 h0.2)]
 have h1:=Tb (Ii (n:=Yj l) hfree2 h0.2) (bmN l.length)
 refine zin 120 Tryz.func94 ?_
 refine xr 10 (args:=#[P0 ba]) (Eo ba b _ _ _ (hA.i hW.b).U) fun W1 c5=>?_
 have c1:=hW.i c5
 refine xr 19 (args:=#[P0 b]) (Hc b _ nn cc _ (hA.i c1.b).a7 M0) fun W2 d7=>?_
 refine xk 3 (show(((l.length:Int) != (↑(nn/256):Int)):Bool)=false from by rw[hlen];simp) ?_
 have b6:=c1.i d7
 refine xc 5 (Sw l.length (some a) c l _ rfl (Sl.i h b6.b) M0 hs) ?_
 rintro _ W3 ⟨i4,k3,i9,po,co,rfl,d9,i5,e0⟩
 have h8:=(blB (blB (U3 B w) hBw c5) hBw d7).size
 refine xr 23 (Qu 5 (Zp l l.length).length _ Do Do M0) fun W4 b7=>?_
 refine xr 2 (Tz l.length _ M0) fun W5 d4=>?_
 refine xwm 0 ((↑(Zy 5 (Zp l l.length).length):Int)+(↑(bmN l.length):Int)) (↑((Zy 5 (Zp l l.length).length)+(bmN l.length)):Int) ?_
 refine xwm 0 ((↑((Zy 5 (Zp l l.length).length)+(bmN l.length)):Int)+1) (↑(((Zy 5 (Zp l l.length).length)+(bmN l.length))+1):Int) ?_
 have d1:=((b6.i d9).i b7).i d4
 refine xr 7 (Rp ba b pa N ca k0 _ (hA.i d1.b).U hkN) fun W6 d6=>?_
 refine xk 4 (show(decide ((↑(N-k0):Int)<(↑(((Zy 5 (Zp l l.length).length)+(bmN l.length))+1):Int)):Bool)=false from V9 M0) ?_
 have a8:=d1.i d6
 have i3:=a8.b.size
 refine xc 5 (args:=#[.slice (some a) l.length c]) (Fv a l.length c (l.map V0) _ (Sl.i h a8.b) Y5 (Zom _) M0) ?_
 rintro _ W7 ⟨_,rfl,b5,qb,cq,rfl,e6⟩
 have a0:=Zg e6 i3
 have b1:=a8.i b5
 have i0:=b1.b.size
 have f1:=a0
 refine xc 8 (Zic (Yj l) B ba b g nn cc pa ca f N k0 bs _ hC (hA.i b1.b) hkN M0 M0 M0) ?_
 rintro _ W8 ⟨_,rfl,b3,qa,g7,rfl,d3⟩
 have i2:=X3 f1 d3 (At _)
 have c6:=Zg d3 i0
 have a4:=Zb a0 b3
 obtain⟨gb,rfl,k2⟩:=Nr a4 M0
 have d5:=Zb (Zb (Zb (Zb (Zb (Zg e0 h8) b7) d4) d6) b5) b3
 have f7:=b1.i b3
 have hB:=blB (blB (blB (blB (blB (blB (blB (blB (U3 B w) hBw c5) hBw d7) hBw d9) hBw b7) hBw d4) hBw d6) hBw b5) hBw b3
 have hX:=(((((((show Fr [ba,g] w _ from(Q2 c5)).trans (Q2 d7)).trans (Q2 d9)).trans (Q2 b7)).trans (Q2 d4)).trans (Q2 d6)).trans (Q2 b5)).trans (Q2 b3)
 have hO:=(((((((show Zd [169,5,132,126,39] w _ from(Q0 c5)).trans (Q0 d7)).trans (Q0 d9)).trans (Q0 b7)).trans (Q0 d4)).trans (Q0 d6)).trans (Q0 b5)).trans (Q0 b3)
 refine zl 5 120 (fun zm h6 V=>∃ (i:Nat),h6=[(0,P0 ba),(4,V0 0),(5,V0 0),(6,.nilIface),(9,.slice po ((Zp l l.length).length) co),(10,V0 0),(12,.slice (S3 gb) l.length cq),(61,.slice qa (Yj l) g7),(62,V0 (↑(Yj l):Int)),(63,V0 (i:Int))]∧zm=Yj l-((i:Int)).toNat∧Below B w V∧Fr [ba,g] w V∧Zd [169,5,132,126,39] w V∧V.ownsRow w.heap.size 3 1 (.slice (S3 gb) l.length cq) l.length ((Qy l (f+k0) i).map V0)∧V.ownsRow w.heap.size 3 1 (.slice qa (Yj l) g7) (Yj l) ((((Zb9 f N).drop k0).take (Yj l)).map V0)∧V.ownsRow w.heap.size 124 3 (.slice po ((Zp l l.length).length) co) ((Zp l l.length).length) ((Zp l l.length).flatMap Ki)∧Sin w V∧i≤Yj l) ⟨0,rfl,rfl,hB,hX,hO,(by rw[Zo2];exact a4),c6,d5,f7,A5 _⟩ ?_
 rintro _ _ W9 ⟨i,rfl,rfl,a9,b9,b8,a0,c6,e0,hW,hi⟩ J9 h5 r9
 have j4:i<Yj l→l.getD (f+k0+i) 0=0:=fun q=>(hfree2 (f+k0+i) M0).1 M0
 refine xid 6 ((i:Int)<(↑(Yj l):Int)) (fun e5=>?_) (fun e5=>?_)
 ·refine xx 6 _ (Yj l) i 1 (Zcw (Zf c6) M0 (i:=i) M0).1 ?_
  refine xl 0 ((Zcw (Zf c6) M0 (i:=i) M0).2) ?_
  refine xx 6 _ l.length (f+k0+i) 1 (Zb1 (Zf a0) rfl (q:=f+k0) (i:=i) M0).1 ?_
  refine xl 0 ((Zb1 (Zf a0) rfl (q:=f+k0) (i:=i) M0).2) ?_
  refine xw 0 ((l.getD (f+k0+i) 0)+1) ?_
  refine xx 0 _ l.length (f+k0+i) 1 (Zb1 (Zf a0) rfl (q:=f+k0) (i:=i) M0).1 ?_
  refine xst 0 fun _ _ _ _ zJ zQ zo zx zy zK=>Vx (t:=3) (k:=(f+k0+i)) (v:=V0 ((l.getD (f+k0+i) 0)+1)) zo zx zy K0 rfl a0 M0 fun j2 b2 g9=>?_
  rw[Ztw (l:=l) (f:=f+k0) (j:=i) M0] at g9
  refine zK _ _ ?_
  refine xwm 4 ((i:Int)+1) (↑(i+1):Int) ?_
  have g2:=b2.i a9 (N0 hBw (Ux a0))
  have f5:=(Q8 b9 b2 (Ux a0))
  have f8:=(Q3 b8 b2 (Ux a0))
  have c9:=b2.O c6 (fun j hj e=>i2 _ rfl (e▸hj))
  have d2:=b2.e2 e0 a0 Do
  have f3:=hW.I b2 (Ux a0)
  exact ze 2 (h5 _ _ _ ⟨i+1,rfl,rfl,g2,f5,f8,g9,c9,d2,f3,M0⟩ M0)
 refine xc 9 (args:=#[P0 ba,V0 5,.slice po ((Zp l l.length).length) co]) (My B ba b g nn cc pa ca f N k0 bs 5 po co (Zp l l.length) (Zp l l.length).length _ rfl hC (hA.i hW.b) Do Do (Vl _ _ M0) M0 hf1 M0 M0 (fun W _ h2=>Zf (Zi e0 h2 Do)) (N0 hBw a9.size)) ?_
 rintro _ k4 ⟨rfl,f9,d0,e9,a7⟩
 have c4:=Zi a0 d0 Do
 refine xc 20 (args:=#[.slice (S3 gb) l.length cq]) (Sw l.length (S3 gb) cq (Qy l (f+k0) (Yj l)) _ (Qe _ _ _) (by have hh:=Zf c4;rw[show i=Yj l by omega] at hh;exact hh) M0 h3) ?_
 rintro _ k1 ⟨pb,cb,gs,j1,i7,rfl,a2,hL,i1⟩
 refine xa 21 [S1] 132 fun g6 j8 a3=>?_
 have a6:=blB (a9.trans f9) hBw a2
 have g8:=a3.Q a6
 have c3:=(a7.i a2).i a3.i
 have e8:=hL.i a3.i
 have b0:=blB a6 hBw a3.i
 refine xc 8 (args:=#[P0 ba,.slice pb (bmN l.length) cb,.func (.func 159) #[] #[P0 g6]]) (Zo4 B ba b g nn cc pa ca f N (k0+(Zy 5 (Zp l l.length).length)) (Xf 5 (Zp l l.length) (f+k0) bs).2 g6 _ pb cb gs (Xe (Zj (Qy l (f+k0) (Yj l))) (bmN l.length)) (bmN l.length) (Wu _ _) _ hC c3 e8 h1 hf1 M0 a3.blk (N0 hBw g8) (N0 hBw b0.size)) ?_
 rintro _ j5 ⟨p8,c8,rfl,d8,f0,f4,a7,h7,h4⟩
 have g5:=(blB a6 hBw a3.i).size
 refine xb 14 0 h7 ?_
 have c0:=Zg h4 g5
 refine xc 0 (args:=#[.slice p8 (bmN l.length) c8]) (Zqu (bmN l.length) p8 c8 (Rs (Xe (Zj (Qy l (f+k0) (Yj l))) (bmN l.length)) (f+(k0+(Zy 5 (Zp l l.length).length))) (bmN l.length)) _ (Du _ _ _) (rs_ok h1 (Wu _ _) M0 M0 M0) (Rs_sts (Zf c0))) ?_
 rintro _ j9 ⟨_,rfl,a1,pz,cz,rfl,h9⟩
 have g0:=(b0.trans d8).size
 have b4:=a7.i a1
 have a5:=((((b8.trans (d0.wide)).trans (Q0 a2)).trans (Q0 a3.i)).trans (f0.wide)).trans (Q0 a1)
 have c2:=Zg h9 g0
 have c7:=blB (b0.trans d8) hBw a1
 refine xc 21 (args:=#[P0 ba,V0 4,.slice pz 244 cz]) (Cz B ba b g nn cc pa ca f N (k0+(Zy 5 (Zp l l.length).length)+(bmN l.length)) (Xt (Xe (Zj (Qy l (f+k0) (Yj l))) (bmN l.length)) (f+(k0+(Zy 5 (Zp l l.length).length))) (Xf 5 (Zp l l.length) (f+k0) bs).2 (bmN l.length)) 4 pz cz (Fw (Rs (Xe (Zj (Qy l (f+k0) (Yj l))) (bmN l.length)) (f+(k0+(Zy 5 (Zp l l.length).length))) (bmN l.length))) (f+(k0+(Zy 5 (Zp l l.length).length)+(bmN l.length))) 244 _ rfl (Db (by rw[Du];omega)) hC b4 M0 Do Do (fun W _ a5=>Vr (Zf (Zi c2 a5 Do)) (Db (by rw[Du];omega))) Do (N0 hBw c7.size)) ?_
 rintro _ j3 ⟨rfl,f2,e7,g1,a7⟩
 have g3:=c7.trans f2
 have f6:=a5.trans (e7.wide)
 have e4:=((X1 (((b9.trans (e9.mono Y5)).trans (Q2 a2)).trans (Q2 a3.i)) f4 g8).trans (Q2 a1)).trans (g1.mono Y5)
 refine xe 27 (.tuple #[V0 (↑(f+(k0+(Zy 5 (Zp l l.length).length)+(bmN l.length))):Int),V0 ((Xf 5 (Zp l l.length) (f+k0) bs).1),.nilIface]) ?_
 have e1:f+(k0+(Zy 5 (Zp l l.length).length)+(bmN l.length))=f+k0+(Zy 5 (Zp l l.length).length)+(bmN l.length):=M0
 have e2:f+(k0+(Zy 5 (Zp l l.length).length))=f+k0+(Zy 5 (Zp l l.length).length):=M0
 rw[e1,e2] at a7
 rw[e1]
 have e3:k0+(Zy 5 (Zp l l.length).length)+(bmN l.length)+1=k0+Yj l:=M0
 rw[e3] at a7
 refine⟨?_,g3,f6,e4,?_⟩
 ·unfold Ke;rw[Zoa]
 ·unfold Ke;rw[Zoa];exact a7
theorem Zj6(L:V6 (V6 Int))(f:Nat):∀ n,(Xl L f n).length=n:=fun n=>Xg L f n
theorem Zgf(r:V6 Kw):∀ (q:Nat) (bs:Bl),(∀ x∈r,Lu x)→(q+Xr r)*256≤bs.length→(Aa r q bs).length=bs.length:=by
 induction r with
 | nil=>intro q bs _ _;rfl
 | cons x r ih =>
  intro q bs h hb;have hx:=h x Y5;rw[show Xr (x::r)=Km x+Xr r from rfl] at hb;have hk:=Qa (q:=q) (bs:=bs) hx.1 hx.2.1 hx.2.2.1 (by change (q+Km x)*256≤_;omega);rw[show Aa (x::r) q bs=Aa r (q+Km x) (Xf x.1 x.2 q bs).2 from rfl,ih _ _ (fun y hy=>h y (by simp[hy])) (by rw[hk.1];omega),hk.1]
theorem for_comm{y:Kw}{p:Nat}(hy:Lu y)(r:V6 Kw):∀ (q:Nat) (bs:Bl),(∀ x∈r,Lu x)→(q+Xr r)*256≤bs.length→p+Km y≤q →
 Xf y.1 y.2 p (Aa r q bs)=((Xf y.1 y.2 p bs).1,Aa r q (Xf y.1 y.2 p bs).2):=by
 induction r with
 | nil=>intro q bs _ _ _;rfl
 | cons x r ih =>
  intro q bs h hb hp
  have hx:=h x Y5
  rw[show Xr (x::r)=Km x+Xr r from rfl] at hb
  have hk:=Qa (q:=q) (bs:=bs) hx.1 hx.2.1 hx.2.2.1 (by change (q+Km x)*256≤_;omega)
  have hc:=Wi (t:=x.1) (s:=y.1) (l:=x.2) (e:=y.2) (q:=q) (p:=p) (bs:=bs) hx.1 hx.2.1 hx.2.2.1 hy.1 hy.2.1 hy.2.2.1 (by change (q+Km x)*256≤_;omega) hp
  rw[show Aa (x::r) q bs=Aa r (q+Km x) (Xf x.1 x.2 q bs).2 from rfl,show Aa (x::r) q (Xf y.1 y.2 p bs).2=Aa r (q+Km x) (Xf x.1 x.2 q (Xf y.1 y.2 p bs).2).2 from rfl,ih _ _ (fun z hz=>h z (by simp[hz])) (by rw[hk.1];omega) M0,hc]
theorem supN_bdL{s:Sup}(h:Yz s=true):s.blocks≤14400∧∀ x∈Zdp s,0≤x∧x.toNat<256 ^ 4:=by
 unfold Yz at h;simp only[E2,decide_eq_true_eq,true_and] at h;refine⟨M0,fun x hx=>?_⟩;simp only[Zdp,B6,C8,or_false] at hx;rcases hx with rfl|rfl|rfl|rfl|rfl|rfl|rfl|rfl|rfl|rfl|rfl<;>omega
theorem Zzn(N:V6 Int)(Q:Bl)(h:∀ x∈N,0≤x∧x.toNat<256 ^ 4)(P:Bl)(i:Nat)(hi:i<N.length):(Zo (P++(Pg N++Q)) (P.length+i*4) 4:Int)=N.getD i 0:=by
 induction N generalizing P i with
 | nil=>simp at hi
 | cons n N ih =>
  have e:Pg (n::N)=leB n 4++Pg N:=rfl;cases i with
  | zero =>
   have:=h n Y5;rw[e,A4];simpa using Gy (P:=P) (Q:=Pg N++Q) (k:=P.length) (w:=4) (x:=n) rfl this.1 this.2
  | succ i =>
   have a0:i<N.length:=(by simpa using hi);have:=ih (fun x hx=>h x (by simp[hx])) (P++leB n 4) i a0;rw[e,A4,←A4 P];rw[A1,Zl] at this;rw[show P.length+(i+1)*4=P.length+4+i*4 by omega,this];simp[getD]
theorem Ry{s:Sup}(h:Yz s=true):Zh (Mw s)=s∧Zo (Mw s) 8 4=1:=by
 have hb:=(supN_bdL h).2;have g:=Zzn (1::Zdp s) (replicate 188 0) (fun x hx=>by
  rcases B6.1 hx with rfl|q
  ·decide
  ·exact hb x q) Ls
 have g:∀ i,i<12→(Zo (Mw s) (8+i*4) 4:Int)=(1::Zdp s).getD i 0:=fun i hi=>by
  have:=g i (by show i<12;exact hi);rw[show Ls.length=8 from rfl] at this;unfold Mw;rw[A4];exact this
 constructor
 ·unfold Zh;rw[show(Zo (Mw s) 12 4:Int)=s.tx from g 1 Do,show(Zo (Mw s) 16 4:Int)=s.time from g 2 Do,show(Zo (Mw s) 20 4:Int)=s.unit from g 3 Do,show(Zo (Mw s) 24 4:Int)=s.data from g 4 Do,show(Zo (Mw s) 28 4:Int)=s.blocks from g 5 Do,show(Zo (Mw s) 32 4:Int)=s.top from g 6 Do,show(Zo (Mw s) 36 4:Int)=s.details from g 7 Do,show(Zo (Mw s) 40 4:Int)=s.D from g 8 Do,show(Zo (Mw s) 44 4:Int)=s.G from g 9 Do,show(Zo (Mw s) 48 4:Int)=s.E from g 10 Do,show(Zo (Mw s) 52 4:Int)=s.H from g 11 Do]
 ·have:(Zo (Mw s) 8 4:Int)=1:=g 0 Do;omega
theorem Zq3{s:Sup}(h:Yz s=true):Zuk (Mw s)=true:=by
 rw[Aq (Ld s),(Ry h).1,h];simp
theorem sup_back{F:Bl}{s:Sup}{k:Nat}(hl:F.length=k*256)(hk:1≤k)(hb:Kc F 0=Yf 1 ((0:Nat):Int) (Mw s))(hr:Yz s=true)(hs:s.blocks≤(k:Int)):Yt F=0∧Zh (inB F 0)=s:=by
 obtain⟨h1,h2⟩:=Zfd (l:=F) (kind:=1) (k:=0) (li:=Mw s) Do Do M0 Do (Ld s) hb;have h1:inE F 1 0=0:=h1;have h2:inB F 0=Mw s:=h2;refine⟨?_,by rw[h2];exact(Ry hr).1⟩;unfold Yt;rw[V8 h1,h2];unfold Bv;rw[V8 (Zq3 hr),(Ry hr).1,V7 (by rw[hl];omega)]
theorem On{L:V6 (V6 Int)}{q:Nat}{bs:Bl}:∀ n,(q+n)*256≤bs.length→∀ x,x<q→Kc (Xt L q bs n) x=Kc bs x
 | 0,_,_,_=>rfl
 | n+1,h,x,hx=>by
  have ih:=On (L:=L) (q:=q) (bs:=bs) n M0 x hx;have hl:=Yd (L:=L) (q:=q) (bs:=bs) n M0;have a0:(Yf 3 ((q+n:Nat):Int) (Jr (L.getD n []))).length=256:=Yr (by unfold Jr;rw[Vj];decide);show Kc (Qj (Xt L q bs n) ((q+n)*256) (Yf 3 ((q+n:Nat):Int) (Jr (L.getD n [])))) x=_;rw[Va a0 (by rw[hl];omega) M0 (by rw[hl];omega),ih]
theorem Zx2{l:V6 Int}{q:Nat}{bs:Bl}(hl:l.length≤65536)(hb:(q+Qk l)*256≤bs.length):(Vp l q bs).2.2.length=bs.length∧∀ x,x<q→Kc (Vp l q bs).2.2 x=Kc bs x:=by
 obtain⟨N,hN⟩:∃ N,bmN l.length=N:=⟨_,rfl⟩;obtain⟨L,hL⟩:∃ L,Xe (Zj l) N=L:=⟨_,rfl⟩;obtain⟨O,hO⟩:∃ O,Zp l l.length=O:=⟨_,rfl⟩;have a2:Qk l=N+Zy 4 N+Zy 5 O.length:=by unfold Qk;rw[hN,hO]
 have a3:N≤69:=by unfold bmN at hN;omega
 have ES:EntsOk (Jl 4 true) (Xl L q N):=Gi _ _ _ M0;have EO:EntsOk (Jl 5 true) O:=hO▸Vl _ _ M0;have a0:=Yd (L:=L) (q:=q) (bs:=bs) N M0;have a1:=On (L:=L) (q:=q) (bs:=bs) N M0;have k4:=Qa (t:=4) (l:=Xl L q N) (q:=q+N) (bs:=Xt L q bs N) Do Do ES (by rw[a0,Xg];omega);have k5:=Qa (t:=5) (l:=O) (q:=q+N+Zy 4 N) (bs:=(Xf 4 (Xl L q N) (q+N) (Xt L q bs N)).2) Do Do EO (by rw[k4.1,a0];omega);have hP:(Vp l q bs).2.2=(Xf 5 O (q+N+Zy 4 N) (Xf 4 (Xl L q N) (q+N) (Xt L q bs N)).2).2:=by
  unfold Vp;simp only[hN,hL,hO]
 rw[hP];exact⟨by rw[k5.1,k4.1,a0],fun x hx=>by rw[k5.2 x M0,k4.2 x M0,a1 x hx]⟩
theorem Zy8{l:V6 Int}{u:Nat}{bs:Bl}(hl:l.length≤3000)(hb:(u+Yj l)*256≤bs.length):(Ke l u 0 bs).2.2.length=bs.length∧∀ x,x<u→Kc (Ke l u 0 bs).2.2 x=Kc bs x:=by
 obtain⟨N,hN⟩:∃ N,bmN l.length=N:=⟨_,rfl⟩;obtain⟨O,hO⟩:∃ O,Zp l l.length=O:=⟨_,rfl⟩;obtain⟨T,hT⟩:∃ T,Zy 5 O.length=T:=⟨_,rfl⟩;have hm:Yj l=T+N+1:=by unfold Yj;rw[hN,hO,hT]
 obtain⟨B,hB⟩:∃ B,Qy l u (Yj l)=B:=⟨_,rfl⟩;have a4:B.length=l.length:=by rw[←hB,Qe]
 obtain⟨C,hC⟩:∃ C,Xe (Zj B) N=C:=⟨_,rfl⟩;obtain⟨R,hR⟩:∃ R,Rs C (u+T) N=R:=⟨_,rfl⟩;obtain⟨X,hX⟩:∃ X,Yf 4 ((u+T+N:Nat):Int) (Fw R)=X:=⟨_,rfl⟩;have a7:N≤4:=by unfold bmN at hN;omega
 have hP:(Ke l u 0 bs).2.2=Qj (Xt C (u+T) (Xf 5 O u bs).2 N) ((u+T+N)*256) X:=by
  unfold Ke;simp only[G4,hB,a4,hN,hO,hT,hC,hR,hX]
 have EO:EntsOk (Jl 5 true) O:=hO▸Vl _ _ M0;have a6:R.length=N:=by rw[←hR,Du]
 have a0:=Qa (t:=5) (l:=O) (q:=u) (bs:=bs) Do Do EO (by rw[hT];omega);have a1:=Yd (L:=C) (q:=u+T) (bs:=(Xf 5 O u bs).2) N (by rw[a0.1];omega);have a3:=On (L:=C) (q:=u+T) (bs:=(Xf 5 O u bs).2) N (by rw[a0.1];omega);rw[hP];by_cases hN15:N≤15
 ·have a5:(Fw R).length=244:=Db M0;have a2:X.length=256:=by rw[←hX];exact Yr M0
  exact⟨by rw[Yk (by rw[a2,a1,a0.1];omega),a1,a0.1],fun x hx=>by rw[Va a2 (by rw[a1,a0.1];omega) M0 (by rw[a1,a0.1];omega),a3 x M0,a0.2 x hx]⟩
 ·exact absurd hN15 M0
theorem Hs(t:Int)(l:V6 Ent)(q:Nat)(bs:Bl):(Xf t l q bs).1=((q+Zy t l.length-1:Nat):Int):=by
 obtain⟨m,hm⟩:∃ m,Jj t true=m:=⟨_,rfl⟩;have a0:=Yu l.length m;have hg:=Vu (ovN l.length m);have hN:Zy t l.length=(Vz (ovN l.length m)).sum:=by unfold Zy Ue;rw[hm]
 unfold Xf;rw[hm,hN,Oi (by rw[Xk];exact a0) (by rw[Xk,Kt M0];show((q+(ovN l.length m-1):Nat):Int)=_;congr 1;omega) M0,Xk];congr 1;omega
theorem Zfa{L:V6 (V6 Int)}{q k:Nat}{bs x:Bl}(hx:x.length=256)(hk:(k+1)*256≤bs.length)(hd:k<q):∀ n,(q+n)*256≤bs.length→Xt L q (Qj bs (k*256) x) n=Qj (Xt L q bs n) (k*256) x
 | 0,_=>rfl
 | n+1,h=>by
  have ih:=Zfa (L:=L) hx hk hd n M0;have hc:=Yd (L:=L) (q:=q) (bs:=bs) n M0;have a0:(Yf 3 ((q+n:Nat):Int) (Jr (L.getD n []))).length=256:=Yr (by unfold Jr;rw[Vj];decide);show Qj (Xt L q (Qj bs (k*256) x) n) ((q+n)*256) _=Qj (Qj (Xt L q bs n) ((q+n)*256) _) (k*256) x;rw[ih];exact Zbm (by rw[hx,hc];omega) (by rw[a0,hc];omega) (.inl (by rw[hx];omega))
theorem Br{t:Int}{l:V6 Ent}{q:Nat}{bs:Bl}(h1:1≤t)(h2:t≤5)(E:EntsOk (Jl t true) l)(hq:(q+Zy t l.length)*256≤bs.length):(Xf t l q bs).2.length=bs.length:=(Qa h1 h2 E hq).1
theorem Pz(l:V6 Int)(q N:Nat)(bs:Bl)(L:V6 (V6 Int))(O:V6 Ent)(hN:bmN l.length=N)(hL:Xe (Zj l) N=L)(hO:Zp l l.length=O) :
 (Vp l q bs).2.2=(Xf 5 O (q+N+Zy 4 N) (Xf 4 (Xl L q N) (q+N) (Xt L q bs N)).2).2∧(Vp l q bs).1=((q+N+Zy 4 N-1:Nat):Int)∧(Vp l q bs).2.1=((q+Qk l-1:Nat):Int):=by
 have a0:Qk l=N+Zy 4 N+Zy 5 O.length:=by unfold Qk;rw[hN,hO]
 refine⟨by unfold Vp;simp only[hN,hL,hO],?_,?_⟩
 ·unfold Vp;simp only[hN,hL];rw[Hs,Xg]
 ·unfold Vp;simp only[hN,hL,hO];rw[Hs,a0];congr 1;omega
theorem plot_put{l:V6 Int}{q k:Nat}{bs x:Bl}(hl:l.length≤65536)(hx:x.length=256)(hb:(q+Qk l)*256≤bs.length)(hd:k<q):(Vp l q (Qj bs (k*256) x)).2.2=Qj (Vp l q bs).2.2 (k*256) x:=by
 obtain⟨N,hN⟩:∃ N,bmN l.length=N:=⟨_,rfl⟩;obtain⟨L,hL⟩:∃ L,Xe (Zj l) N=L:=⟨_,rfl⟩;obtain⟨O,hO⟩:∃ O,Zp l l.length=O:=⟨_,rfl⟩;have a1:Qk l=N+Zy 4 N+Zy 5 O.length:=by unfold Qk;rw[hN,hO]
 have a2:N≤69:=by unfold bmN at hN;omega
 have ES:EntsOk (Jl 4 true) (Xl L q N):=Gi _ _ _ M0;have EO:EntsOk (Jl 5 true) O:=hO▸Vl _ _ M0;have a0:=Yd (L:=L) (q:=q) (bs:=bs) N M0;have k4:=Br (t:=4) (l:=Xl L q N) (q:=q+N) (bs:=Xt L q bs N) Do Do ES (by rw[a0,Xg];omega);rw[(Pz l q N _ L O hN hL hO).1,(Pz l q N bs L O hN hL hO).1,Zfa hx M0 hd N M0,Ho Do Do ES hx (by rw[a0,Xg];omega) (by rw[a0];omega) (.inl M0),Ho Do Do EO hx (by rw[k4,a0];omega) (by rw[k4,a0];omega) (.inl M0)]
theorem Zxs{l:V6 Int}{q p:Nat}{bs:Bl}{s:Int}{e:V6 Ent}(hl:l.length≤65536)(s1:1≤s)(s2:s≤5)(Es:EntsOk (Jl s true) e)(hb:(q+Qk l)*256≤bs.length)(hd:p+Zy s e.length≤q):(Vp l q (Xf s e p bs).2).2.2=(Xf s e p (Vp l q bs).2.2).2:=by
 obtain⟨N,hN⟩:∃ N,bmN l.length=N:=⟨_,rfl⟩;obtain⟨L,hL⟩:∃ L,Xe (Zj l) N=L:=⟨_,rfl⟩;obtain⟨O,hO⟩:∃ O,Zp l l.length=O:=⟨_,rfl⟩;have a1:Qk l=N+Zy 4 N+Zy 5 O.length:=by unfold Qk;rw[hN,hO]
 have a2:N≤69:=by unfold bmN at hN;omega
 have ES:EntsOk (Jl 4 true) (Xl L q N):=Gi _ _ _ M0;have EO:EntsOk (Jl 5 true) O:=hO▸Vl _ _ M0;have a0:=Yd (L:=L) (q:=q) (bs:=bs) N M0;have k4:=Br (t:=4) (l:=Xl L q N) (q:=q+N) (bs:=Xt L q bs N) Do Do ES (by rw[a0,Xg];omega);have c1:=Bu (L:=L) (p:=q) (bs:=bs) s1 s2 Es hd N M0;have c2:=Wi (t:=4) (s:=s) (l:=Xl L q N) (e:=e) (q:=q+N) (p:=p) (bs:=Xt L q bs N) Do Do ES s1 s2 Es (by rw[a0,Xg];omega) M0;have c3:=Wi (t:=5) (s:=s) (l:=O) (e:=e) (q:=q+N+Zy 4 N) (p:=p) (bs:=(Xf 4 (Xl L q N) (q+N) (Xt L q bs N)).2) Do Do EO s1 s2 Es (by rw[k4,a0];omega) M0;rw[(Pz l q N _ L O hN hL hO).1,(Pz l q N bs L O hN hL hO).1,c3,c2,c1]
theorem Bn(l:V6 Int)(u N T:Nat)(bs:Bl)(C:V6 (V6 Int))(O:V6 Ent)(hN:bmN l.length=N)(hO:Zp l l.length=O)(hT:Zy 5 O.length=T)(hC:Xe (Zj (Qy l u (Yj l))) N=C) :
 (Ke l u 0 bs).2.2=Qj (Xt C (u+T) (Xf 5 O u bs).2 N) ((u+T+N)*256) (Yf 4 ((u+T+N:Nat):Int) (Fw (Rs C (u+T) N)))∧(Ke l u 0 bs).1=((u+T+N:Nat):Int)∧(Ke l u 0 bs).2.1=((u+T-1:Nat):Int):=by
 refine⟨by unfold Ke;simp only[G4,Qe,hN,hO,hT,hC],by unfold Ke;simp only[G4,Qe,hN,hO,hT],?_⟩
 unfold Ke
 simp only[G4,hO]
 rw[Hs,hT]
theorem Zny{C:V6 (V6 Int)}{p N k:Nat}(hN:N≤15):(Yf 4 ((k:Nat):Int) (Fw (Rs C p N))).length=256:=Yr (by have:=Db (S:=Rs C p N) (by rw[Du];omega);omega)
theorem Znp{l:V6 Int}{u k:Nat}{bs x:Bl}(hl:l.length≤3000)(hx:x.length=256)(hb:(u+Yj l)*256≤bs.length)(hd:k<u):(Ke l u 0 (Qj bs (k*256) x)).2.2=Qj (Ke l u 0 bs).2.2 (k*256) x:=by
 obtain⟨N,hN⟩:∃ N,bmN l.length=N:=⟨_,rfl⟩;obtain⟨O,hO⟩:∃ O,Zp l l.length=O:=⟨_,rfl⟩;obtain⟨T,hT⟩:∃ T,Zy 5 O.length=T:=⟨_,rfl⟩;obtain⟨C,hC⟩:∃ C,Xe (Zj (Qy l u (Yj l))) N=C:=⟨_,rfl⟩;have hm:Yj l=T+N+1:=by unfold Yj;rw[hN,hO,hT]
 have a3:N≤4:=by unfold bmN at hN;omega
 have EO:EntsOk (Jl 5 true) O:=hO▸Vl _ _ M0;have a0:=Br (t:=5) (l:=O) (q:=u) (bs:=bs) Do Do EO (by rw[hT];omega);have a1:=Yd (L:=C) (q:=u+T) (bs:=(Xf 5 O u bs).2) N (by rw[a0];omega);have a2:=Zny (C:=C) (p:=u+T) (N:=N) (k:=u+T+N) M0;rw[(Bn l u N T _ C O hN hO hT hC).1,(Bn l u N T bs C O hN hO hT hC).1,Ho Do Do EO hx (by rw[hT];omega) M0 (.inl hd)];simp only;rw[Zfa hx (by rw[a0];omega) M0 N (by rw[a0];omega)];exact Zbm (by rw[hx,a1,a0];omega) (by rw[a2,a1,a0];omega) (.inl (by rw[hx];omega))
theorem Zbw{l:V6 Int}{u p:Nat}{bs:Bl}{s:Int}{e:V6 Ent}(hl:l.length≤3000)(s1:1≤s)(s2:s≤5)(Es:EntsOk (Jl s true) e)(hb:(u+Yj l)*256≤bs.length)(hd:p+Zy s e.length≤u):(Ke l u 0 (Xf s e p bs).2).2.2=(Xf s e p (Ke l u 0 bs).2.2).2:=by
 obtain⟨N,hN⟩:∃ N,bmN l.length=N:=⟨_,rfl⟩;obtain⟨O,hO⟩:∃ O,Zp l l.length=O:=⟨_,rfl⟩;obtain⟨T,hT⟩:∃ T,Zy 5 O.length=T:=⟨_,rfl⟩;obtain⟨C,hC⟩:∃ C,Xe (Zj (Qy l u (Yj l))) N=C:=⟨_,rfl⟩;have hm:Yj l=T+N+1:=by unfold Yj;rw[hN,hO,hT]
 have a3:N≤4:=by unfold bmN at hN;omega
 have EO:EntsOk (Jl 5 true) O:=hO▸Vl _ _ M0;have a0:=Br (t:=5) (l:=O) (q:=u) (bs:=bs) Do Do EO (by rw[hT];omega);have a1:=Yd (L:=C) (q:=u+T) (bs:=(Xf 5 O u bs).2) N (by rw[a0];omega);have a2:=Zny (C:=C) (p:=u+T) (N:=N) (k:=u+T+N) M0;have c1:=Wi (t:=5) (s:=s) (l:=O) (e:=e) (q:=u) (p:=p) (bs:=bs) Do Do EO s1 s2 Es (by rw[hT];omega) hd;have c2:=Bu (L:=C) (t:=s) (l:=e) (q:=p) (p:=u+T) (bs:=(Xf 5 O u bs).2) s1 s2 Es M0 N (by rw[a0];omega);rw[(Bn l u N T _ C O hN hO hT hC).1,(Bn l u N T bs C O hN hO hT hC).1,Ho s1 s2 Es a2 (by rw[a1,a0];omega) (by rw[a1,a0];omega) (.inr M0),c2,c1]
theorem Zge{l:V6 Int}{u:Nat}{bs:Bl}(hl:l.length≤3000)(hb:(u+Yj l)*256≤bs.length):(Ke l u 0 bs).2.2.length=bs.length:=(Zy8 hl hb).1
theorem Zii{l:V6 Int}{u q:Nat}{bs:Bl}{L:V6 (V6 Int)}(hl:l.length≤3000)(hb:(u+Yj l)*256≤bs.length):∀ n,q+n≤u→(Ke l u 0 (Xt L q bs n)).2.2=Xt L q (Ke l u 0 bs).2.2 n
 | 0,_=>rfl
 | n+1,h=>by
  have ih:=Zii (L:=L) (q:=q) hl hb n M0;have hc:=Yd (L:=L) (q:=q) (bs:=bs) n M0;have a0:(Yf 3 ((q+n:Nat):Int) (Jr (L.getD n []))).length=256:=Yr (by unfold Jr;rw[Vj];decide);show(Ke l u 0 (Qj (Xt L q bs n) ((q+n)*256) _)).2.2=Qj (Xt L q (Ke l u 0 bs).2.2 n) ((q+n)*256) _;rw[Znp hl a0 (by rw[hc];exact hb) M0,ih]
theorem Zyr{l m:V6 Int}{u q:Nat}{bs:Bl}(hl:l.length≤3000)(hm:m.length≤65536)(hb:(u+Yj l)*256≤bs.length)(hd:q+Qk m≤u):(Ke l u 0 (Vp m q bs).2.2).2.2=(Vp m q (Ke l u 0 bs).2.2).2.2:=by
 obtain⟨N,hN⟩:∃ N,bmN m.length=N:=⟨_,rfl⟩;obtain⟨L,hL⟩:∃ L,Xe (Zj m) N=L:=⟨_,rfl⟩;obtain⟨O,hO⟩:∃ O,Zp m m.length=O:=⟨_,rfl⟩;have a1:Qk m=N+Zy 4 N+Zy 5 O.length:=by unfold Qk;rw[hN,hO]
 have a2:N≤69:=by unfold bmN at hN;omega
 have ES:EntsOk (Jl 4 true) (Xl L q N):=Gi _ _ _ M0;have EO:EntsOk (Jl 5 true) O:=hO▸Vl _ _ M0;have a0:=Yd (L:=L) (q:=q) (bs:=bs) N M0;have k4:=Br (t:=4) (l:=Xl L q N) (q:=q+N) (bs:=Xt L q bs N) Do Do ES (by rw[a0,Xg];omega);rw[(Pz m q N bs L O hN hL hO).1,(Pz m q N _ L O hN hL hO).1,Zbw hl Do Do EO (by rw[k4,a0];exact hb) M0,Zbw hl Do Do ES (by rw[a0];exact hb) (by rw[Xg];omega),Zii hl hb N M0]
end
section
attribute [local irreducible] wpList wpAnyH Code.wp Oper.wp Go
variable {t u v:Int} {x k:Nat} {L:V6 Dv}
theorem Ij{l:V6 Int}{q:Nat}{bs:Bl}(hl:l.length≤65536)(hb:(q+Qk l)*256≤bs.length):(Vp l q bs).2.2.length=bs.length:=(Zx2 hl hb).1
end
section
attribute [local irreducible] wpList wpAnyH Code.wp Oper.wp Go
def Zuw(x:Ent):Mp:=(x.1,(Oh x.2.1:Int),(Zey x.2.1:Int))
def Zpc(data:Int)(es:V6 Ent)(i:Nat):Prop:=∀ j,j<i→Zgt data (es.getD j Zn).2.1=0
theorem Zde{data:Int}{es:V6 Ent}{i:Nat}(h:Zpc data es i)(h2:Zgt data (es.getD i Zn).2.1=0):Zpc data es (i+1):=fun j hj=>by
 by_cases e:j=i
 ·subst e;exact h2
 ·exact h j M0
def Zlh(es:V6 Ent)(data:Int):V6 Int×Int×V6 Mp :=
 match (range es.length).find? (fun i=>Zgt data (es.getD i Zn).2.1 != 0) with
 | some i=>([(es.getD i Zn).2.2],Zgt data (es.getD i Zn).2.1,[])
 | none=>([],0,es.map Zuw)
theorem Zh7{es:V6 Ent}{data:Int}{i:Nat}(hi:i<es.length)(h:Zpc data es i)(hb:Zgt data (es.getD i Zn).2.1≠0):Zlh es data=([(es.getD i Zn).2.2],Zgt data (es.getD i Zn).2.1,[]):=by
 unfold Zlh;rw[show(range es.length).find? (fun i=>Zgt data (es.getD i Zn).2.1 != 0)=some i from by
  rw[L0];exact⟨by simpa using hb,A7.2 hi,fun m hm=>by simpa using h m hm⟩]
theorem Zfv{es:V6 Ent}{data:Int}(h:Zpc data es es.length):Zlh es data=([],0,es.map Zuw):=by
 unfold Zlh;rw[show(range es.length).find? (fun i=>Zgt data (es.getD i Zn).2.1 != 0)=none from by
  rw[N3];intro i hi;have:=h i (A7.1 hi);simpa using this]
def Zs1(l:Bl)(root data am:Int):V6 Int×Int×V6 Mp :=
 if(Ze l root 2 am).fs≠[] then((Kg (Ze l root 2 am)).1,(Kg (Ze l root 2 am)).2,[])
 else Zlh (Ze l root 2 am).es data
theorem Zhn{l:Bl}{root data am:Int}(h:(Ze l root 2 am).fs≠[]):Zs1 l root data am=((Kg (Ze l root 2 am)).1,(Kg (Ze l root 2 am)).2,[]):=V8 h
theorem Ff{l:Bl}{root data am:Int}(h:(Ze l root 2 am).fs=[]):Zs1 l root data am=Zlh (Ze l root 2 am).es data:=V7 (fun q=>q h)
def ownO(l:Bl)(y:Ent)(data am:Int):V6 Int×Int×V6 Mp:=Zs1 l (Ga y.2.1:Int) data am
def Ik(l:Bl)(x y:Ent)(data am:Int)(sum:Nat):V6 Int×Int :=
 if 16777215<x.1 then([x.2.2],9)
 else if Xn Nb x.2.1≠0 then([x.2.2],Xn Nb x.2.1)
 else if Qi y.2.1≠0 then([y.2.2],Qi y.2.1)
 else if(ownO l y data am).2.1≠0 then(y.2.2::(ownO l y data am).1,(ownO l y data am).2.1)
 else if(ownO l y data am).2.2.length≠Kn x.2.1 0 then([x.2.2],13)
 else if 16384<sum+(ownO l y data am).2.2.length then([y.2.2],2)
 else([],0)
def devX(l:Bl)(x y:Ent)(data am:Int):Dv:=((x.1,(Kn x.2.1 1:Int),(Kn x.2.1 2:Int),(Kn x.2.1 3:Int)),(ownO l y data am).2.2)
def Zww(l:Bl)(T:V6 Ent)(data am:Int):Nat→Nat
 | 0=>0
 | i+1=>Zww l T data am i+(ownO l (T.getD i Zn) data am).2.2.length
def Zs6(l:Bl)(D T:V6 Ent)(data am:Int)(i:Nat):V6 Int×Int:=Ik l (D.getD i Zn) (T.getD i Zn) data am (Zww l T data am i)
def devL(l:Bl)(D T:V6 Ent)(data am:Int)(i:Nat):V6 Dv:=(range i).map fun k=>devX l (D.getD k Zn) (T.getD k Zn) data am
theorem Zol(l:Bl)(D T:V6 Ent)(data am:Int)(i:Nat):(devL l D T data am i).length=i:=by simp[devL]
theorem Zhv(l:Bl)(D T:V6 Ent)(data am:Int)(i:Nat):devL l D T data am (i+1)=devL l D T data am i++[devX l (D.getD i Zn) (T.getD i Zn) data am]:=by simp[devL,B8]
def devK(l:Bl)(D T:V6 Ent)(data am:Int)(i:Nat):Prop:=∀ j,j<i→(Zs6 l D T data am j).2=0
theorem Zh3{l:Bl}{D T:V6 Ent}{data am:Int}{i:Nat}(h:devK l D T data am i)(h2:(Zs6 l D T data am i).2=0):devK l D T data am (i+1):=fun j hj=>by
 by_cases e:j=i
 ·subst e;exact h2
 ·exact h j M0
def Zq8(l:Bl)(D T:V6 Ent)(data am:Int):V6 Int×Int×V6 Dv :=
 match (range D.length).find? (fun i=>(Zs6 l D T data am i).2 != 0) with
 | some i=>((Zs6 l D T data am i).1,(Zs6 l D T data am i).2,[])
 | none=>([],0,devL l D T data am D.length)
theorem Zi1{l:Bl}{D T:V6 Ent}{data am:Int}{i:Nat}(hi:i<D.length)(h:devK l D T data am i)(hb:(Zs6 l D T data am i).2≠0):Zq8 l D T data am=((Zs6 l D T data am i).1,(Zs6 l D T data am i).2,[]):=by
 unfold Zq8;rw[show(range D.length).find? (fun i=>(Zs6 l D T data am i).2 != 0)=some i from by
  rw[L0];exact⟨by simpa using hb,A7.2 hi,fun m hm=>by simpa using h m hm⟩]
theorem Zm5{l:Bl}{D T:V6 Ent}{data am:Int}(h:devK l D T data am D.length):Zq8 l D T data am=([],0,devL l D T data am D.length):=by
 unfold Zq8;rw[show(range D.length).find? (fun i=>(Zs6 l D T data am i).2 != 0)=none from by
  rw[N3];intro i hi;have:=h i (A7.1 hi);simpa using this]
def Wt:V6 Ent→V6 Ent→Nat
 | [],[]=>0
 | [],_::_=>1
 | _::_,[]=>2
 | x::a,y::b=>if x.1=y.1 then Wt a b else if x.1<y.1 then 2 else 1
theorem Zd0{D T:V6 Ent}:∀ i,i≤D.length→i≤T.length→(∀ j,j<i→(D.getD j Zn).1=(T.getD j Zn).1)→Wt D T=Wt (D.drop i) (T.drop i)
 | 0,_,_,_=>by simp
 | i+1,h1,h2,h=>by
  rw[Zd0 i M0 M0 fun j hj=>h j M0];have e:=h i M0;rw[show D.getD i Zn=D[i]' M0 from by simp[getD,show i<D.length by omega],show T.getD i Zn=T[i]' M0 from by simp[getD,show i<T.length by omega]] at e;rw[F8 (show i<D.length by omega),F8 (show i<T.length by omega)];show(if D[i].1=T[i].1 then Wt (D.drop (i+1)) (T.drop (i+1)) else _)=_;rw[V8 e]
theorem Zrj{D T:V6 Ent}(h:Wt D T=0):D.length=T.length∧∀ i,i<D.length→(D.getD i Zn).1=(T.getD i Zn).1:=by
 induction D generalizing T with
 | nil =>
  cases T with
  | nil=>exact⟨rfl,fun i hi=>absurd hi Y5⟩
  | cons y b=>simp[Wt] at h
 | cons x a ih =>
  cases T with
  | nil=>simp[Wt] at h
  | cons y b =>
   by_cases e:x.1=y.1
   ·have h2:Wt a b=0:=(by simpa [Wt,e] using h);obtain⟨h3,h4⟩:=ih h2;refine⟨by simp[h3],fun i hi=>?_⟩;cases i with
    | zero=>simpa [getD] using e
    | succ i=>simpa [getD] using h4 i (by simpa using hi)
   ·by_cases q:x.1<y.1<;>simp[Wt,e,q] at h
def Zcr(l:Bl)(top details data am:Int):V6 Int×Int×V6 Dv :=
 if(Ze l details 3 am).fs≠[] then((Kg (Ze l details 3 am)).1,(Kg (Ze l details 3 am)).2,[])
 else if(Ze l top 1 am).fs≠[] then((Kg (Ze l top 1 am)).1,(Kg (Ze l top 1 am)).2,[])
 else if 4096<(Ze l details 3 am).es.length then([details],2,[])
 else if Wt (Ze l details 3 am).es (Ze l top 1 am).es=1 then([details],18,[])
 else if Wt (Ze l details 3 am).es (Ze l top 1 am).es=2 then([top],18,[])
 else Zq8 l (Ze l details 3 am).es (Ze l top 1 am).es data am
theorem Zvb{a:Act}{o:Oper}{p q:Operand}(x:Mp)(ho:o.op=.binOp .neq 63 p q 63)(hx:a.eval p=.agg (Cu x).toArray)(hy:a.eval q=.agg (Cu x).toArray)(V:V1) :
 (execOp a.eval o).run Tryz.prog V=.ok (.value (.bool false)) V:=by
 have h1:=Tryz.underlying63
 have h2:=Tryz.underlying3
 have h4:Tryz.prog.stoodInHeld 63=false:=K0
 have hb:(binOp .neq 63 (.agg (Cu x).toArray) (.agg (Cu x).toArray)).run Tryz.prog V=.ok (.bool false) V:=by
  obtain⟨x0,x1,x2⟩:=x;simp[go_sem,Program.fieldsOf,h1,h2,h4,Op.eqFields,Cu]
 have hg:=run_eqGuard_agg (P:=Tryz.prog) (w:=V) .neq 63 p q (Cu x).toArray (Cu x).toArray K0
 simp only[execOp,ho,hx,hy,C9,hg,E0,hb]
 rfl
def Ys(B:Nat)(w:V1)(Z:V6 Zv):Prop:=∀ i,i<Z.length→w.ownsRow B 63 3 (.slice (Z.getD i zvD).2.1 (Z.getD i zvD).1.2.length (Z.getD i zvD).2.2) (Z.getD i zvD).1.2.length ((Z.getD i zvD).1.2.flatMap Cu)
theorem Ys.nil(B:Nat)(w:V1):Ys B w []:=fun i hi=>absurd hi Y5
theorem Ys.i{B:Nat}{w W:V1}{Z:V6 Zv}(h:Ys B w Z)(hb:B3 w W):Ys B W Z:=fun i hi=>Zb (h i hi) hb
theorem Ys.q{B:Nat}{w W:V1}{Z:V6 Zv}{T:V6 V3}(h:Ys B w Z)(hO:Zd T w W)(hT:T.contains 63=false):Ys B W Z:=fun i hi=>Zi (h i hi) hO hT
theorem Ys.a8{B n:Nat}{w:V1}{Z:V6 Zv}{d:Dv}{p:O0}{c:Nat}(h:Ys B w Z)(hn:d.2.length=n)(ho:w.ownsRow B 63 3 (.slice p n c) n (d.2.flatMap Cu)):Ys B w (Z++[(d,p,c)]):=by
 subst hn;intro i hi;by_cases e:i<Z.length
 ·have:=h i e;rw[show(Z++[(d,p,c)]).getD i zvD=Z.getD i zvD from by simp[getD,G5 e]];exact this
 ·obtain rfl:i=Z.length:=by simp at hi;omega
  rw[show(Z++[(d,p,c)]).getD Z.length zvD=(d,p,c) from by simp[getD]];exact ho
theorem Zxl{B:Nat}{w:V1}{p:O0}{c:Nat}{Z:V6 Zv}(hM:Ys B w Z)(ho:w.ownsRow B 32 5 (.slice p Z.length c) Z.length (Z.flatMap Zg5)):DevsR w p c Z:=⟨Zf ho,fun i hi=>Zf (hM i hi)⟩
theorem Fn{l:Bl}{top details data am:Int}(h:(Ze l details 3 am).fs=[])(h2:(Ze l top 1 am).fs=[])(h3:¬ 4096<(Ze l details 3 am).es.length)(h4:Wt (Ze l details 3 am).es (Ze l top 1 am).es=0):Zcr l top details data am=Zq8 l (Ze l details 3 am).es (Ze l top 1 am).es data am:=by unfold Zcr;rw[V7 (fun q=>q h),V7 (fun q=>q h2),V7 h3,V7 M0,V7 M0]
theorem Zyz{m:Mp}(h1:0≤m.2.1∧m.2.1≤65535)(h2:0≤m.2.2∧m.2.2≤16777215):Xn Mo (Zta m)=0∧(Oh (Zta m):Int)=m.2.1∧(Zey (Zta m):Int)=m.2.2:=by
 obtain⟨he,hv⟩:=Zoo (ps:=Mo) (N:=[m.2.1*16777216+m.2.2]) Zk0 rfl (by
  unfold Wg;rw[show range Mo.length=[0] from rfl];simp[inP,Mo,getD];omega)
 have h:=hv 0 Do;have hn:(mapN (Zta m):Int)=m.2.1*16777216+m.2.2:=h;refine⟨he,?_,?_⟩
 ·unfold Oh;omega
 ·unfold Zey;omega
theorem Zkb{data n:Int}{d:Dv}(h:DevOk data d)(hn:0≤n∧n≤16384):Xn Nb (Pr n d)=0∧(Kn (Pr n d) 0:Int)=n∧(Kn (Pr n d) 1:Int)=d.1.2.1∧(Kn (Pr n d) 2:Int)=d.1.2.2.1∧(Kn (Pr n d) 3:Int)=d.1.2.2.2:=by
 obtain⟨he,hv⟩:=Zoo (ps:=Nb) (N:=[n,d.1.2.1,d.1.2.2.1,d.1.2.2.2]) Zfu rfl (by
  have a:=h.tx;have b:=h.f7;have c:=h.f4;unfold Wg;rw[show range Nb.length=[0,1,2,3] from rfl];simp[inP,Nb,getD];omega)
 exact⟨he,hv 0 Do,hv 1 Do,hv 2 Do,hv 3 Do⟩
def Dp(B:Bl)(am:Int)(t:Int)(e:V6 Ent)(r:Int):Prop:=(Ze B r t am).es.map kvE=e.map kvE∧(Ze B r t am).fs=[]
theorem Dp.len{B:Bl}{am t r:Int}{e:V6 Ent}(h:Dp B am t e r):(Ze B r t am).es.length=e.length:=by
 have:=congrArg List.length h.1;simpa using this
theorem kv_getS{es e:V6 Ent}(h:es.map kvE=e.map kvE)(i:Nat):(es.getD i Zn).1=(e.getD i Zn).1∧(es.getD i Zn).2.1=(e.getD i Zn).2.1:=by
 have hl:es.length=e.length:=by simpa using congrArg List.length h
 by_cases hi:i<es.length
 ·have e1:(es.map kvE)[i]? = (e.map kvE)[i]? := by rw[h]
  have a0:i<e.length:=M0;rw[C3,C3,A9 hi,A9 a0] at e1;simp only[D3,A0,kvE,D9] at e1;simp[getD,hi,a0,e1]
 ·have a0:¬ i<e.length:=M0;simp[getD,hi,a0]
theorem Dp.get{B:Bl}{am t r:Int}{e:V6 Ent}(h:Dp B am t e r)(i:Nat):((Ze B r t am).es.getD i Zn).1=(e.getD i Zn).1∧((Ze B r t am).es.getD i Zn).2.1=(e.getD i Zn).2.1:=kv_getS h.1 i
theorem Zo6{B:Bl}{am data r:Int}{M:V6 Mp}(hd:data≤65536)(hM:MapsOk data M)(h:Dp B am 2 (Up M) r):Zs1 B r data am=([],0,M):=by
 have hl:=h.len;rw[Jo] at hl;have hx:∀ j,j<M.length→Zgt data ((Ze B r 2 am).es.getD j Zn).2.1=0∧Zuw ((Ze B r 2 am).es.getD j Zn)=M.getD j (0,0,0):=fun j hj=>by
  obtain⟨g1,g2⟩:=h.get j;rw[Md hj] at g1 g2;have hb:=hM.each (M.getD j (0,0,0)) (by simp[getD,hj]);obtain⟨r1,r2,r3⟩:=Zyz (m:=M.getD j (0,0,0)) ⟨M0,M0⟩ hb.2.2;refine⟨?_,?_⟩
  ·unfold Zgt;rw[g2,V7 (fun q=>q r1),V7 (by rw[r2];omega)]
  ·unfold Zuw;rw[g1,g2,r2,r3]
 rw[Ff h.2,Zfv fun j hj=>(hx j M0).1];congr 2;refine Gs (0,0,0) (by rw[A3,hl]) fun i hi=>?_;rw[A3] at hi;rw[←(hx i M0).2];simp[getD,hi]
structure DevsStand(B:V6 UInt8)(am data:Int)(L:V6 Dv)(R:Nat→Nat)(C:Nat→Int)(x y:Int):Prop where
 g5:Dp B am 3 (Po L C) y
 top:Dp B am 1 (Wd L R) x
 own:∀ i,i<L.length→Dp B am 2 (Up (L.getD i dvD).2) (R i:Int)
 root:∀ i,i<L.length→1≤R i∧R i≤14399
theorem DevsStand.ownO{B:Bl}{am data x y:Int}{L:V6 Dv}{R:Nat→Nat}{C:Nat→Int}(h:DevsStand B am data L R C x y)(hd:data≤65536)(hL:DevsOk data L){i:Nat}(hi:i<L.length):ownO B ((Ze B x 1 am).es.getD i Zn) data am=([],0,(L.getD i dvD).2)∧Qi ((Ze B x 1 am).es.getD i Zn).2.1=0:=by
 have hg:=(h.top.get i).2;rw[Ui hi] at hg;obtain⟨r1,r2⟩:=Ic (h.root i hi).1 (h.root i hi).2;unfold Go.Proofs.YtekomodnkfhihaaGreatDoor.ownO;rw[hg,r2,r1];exact⟨Zo6 hd (hL.each _ (by simp[getD,hi])).b8 (h.own i hi),rfl⟩
theorem DevsStand.sum{B:Bl}{am data x y:Int}{L:V6 Dv}{R:Nat→Nat}{C:Nat→Int}(h:DevsStand B am data L R C x y)(hd:data≤65536)(hL:DevsOk data L):∀ i,i≤L.length→Zww B (Ze B x 1 am).es data am i=Un (L.take i)
 | 0,_=>by simp[Zww,Un]
 | i+1,hi=>by
  have e:=sumL_take hd h hL (i:=i) M0;show Zww B (Ze B x 1 am).es data am i+_=_;rw[DevsStand.sum h hd hL i M0,e]
where
 sumL_take {B:V6 UInt8} {am data x y:Int} {L:V6 Dv} {R:Nat→Nat} {C:Nat→Int} (hd:data≤65536) (h:DevsStand B am data L R C x y) (hL:DevsOk data L) {i:Nat} (hi:i<L.length):Un (L.take i)+(Go.Proofs.YtekomodnkfhihaaGreatDoor.ownO B ((Ze B x 1 am).es.getD i Zn) data am).2.2.length=Un (L.take (i+1)):=by
  rw[(h.ownO hd hL hi).1];unfold Un;rw[B5 hi,A6,E8];simp[getD,hi]
theorem Zvi{D T:V6 Ent}(hl:D.length=T.length)(h:∀ i,i<D.length→(D.getD i Zn).1=(T.getD i Zn).1):Wt D T=0:=by
 rw[Zd0 D.length (At _) M0 h,List.drop_length,hl,List.drop_length];rfl
theorem DevsStand.j3{B:Bl}{am data x y:Int}{L:V6 Dv}{R:Nat→Nat}{C:Nat→Int}(h:DevsStand B am data L R C x y):Wt (Ze B y 3 am).es (Ze B x 1 am).es=0:=by
 refine Zvi (by rw[h.g5.len,h.top.len,Kr,Yw]) fun i hi=>?_;rw[h.g5.len,Kr] at hi;rw[(h.g5.get i).1,(h.top.get i).1,Pa hi,Ui hi]
theorem Zsl{B:Bl}{am data x y:Int}{L:V6 Dv}{R:Nat→Nat}(hd:data≤65536)(hL:DevsOk data L)(h:DevsStand B am data L R (fun i=>((L.getD i dvD).2.length:Int)) x y):Zcr B x y data am=([],0,L):=by
 have a2:(Ze B y 3 am).es.length=L.length:=by rw[h.g5.len,Kr]
 have a3:=hL.a0;rw[Fn h.g5.2 h.top.2 M0 h.j3];have hx:∀ j,j<L.length→(Zs6 B (Ze B y 3 am).es (Ze B x 1 am).es data am j).2=0∧devX B ((Ze B y 3 am).es.getD j Zn) ((Ze B x 1 am).es.getD j Zn) data am=L.getD j dvD:=fun j hj=>by
  have a1:=hL.each (L.getD j dvD) (by simp[getD,hj]);obtain⟨o1,o2⟩:=h.ownO hd hL hj;obtain⟨g1,g2⟩:=h.g5.get j;rw[Pa hj] at g1 g2;have hs:=h.sum hd hL j M0;have a0:=DevsStand.sum.sumL_take hd h hL hj;rw[o1] at a0;have a4:=Sv L (j+1);have a5:=hL.sum;obtain⟨d0,d1,d2,d3,d4⟩:=Zkb (n:=((L.getD j dvD).2.length:Int)) a1 ⟨M0,by change (((L.getD j dvD).2.length:Nat):Int)≤_;change Un (L.take j)+(L.getD j dvD).2.length=_ at a0;omega⟩;constructor
  ·unfold Zs6 Ik;rw[g1,g2,o1,o2,hs,V7 (by have:=a1.id;simp only;omega),V7 (fun q=>q d0),V7 (fun q=>q rfl),V7 (fun q=>q rfl),V7 (by simp only;omega),V7 (by change ¬ _<Un (L.take j)+(L.getD j dvD).2.length;change Un (L.take j)+(L.getD j dvD).2.length=_ at a0;omega)]
  ·unfold devX;rw[g1,g2,o1,d2,d3,d4]
 rw[Zm5 fun j hj=>(hx j M0).1,a2];congr 2;refine Gs dvD (Zol _ _ _ _ _ _) fun i hi=>?_;rw[Zol] at hi;rw[←(hx i hi).2];simp[devL,getD,C1 hi]
end
section
attribute [local irreducible] wpList wpAnyH Code.wp Oper.wp Go
theorem Zk2{l:V6 Int}{q N:Nat}{bs:Bl}{am:Int}(hN:bmN l.length=N)(hq:1≤q)(hl:l.length≤65536)(ho:(Zp l l.length).length≤32768)(h4:q+Qk l≤14400)(hb:(q+Qk l)*256≤bs.length)(hfu:(Qk l:Int)≤am) :
 Zmb ((Xl (Xe (Zj l) N) q N).map kvE) (Zy 4 N) (Ue 4 N).length (Ze (Vp l q bs).2.2 (Vp l q bs).1 4 am) ∧
 Zmb ((Zp l l.length).map kvE) (Zy 5 (Zp l l.length).length) (Ue 5 (Zp l l.length).length).length (Ze (Vp l q bs).2.2 (Vp l q bs).2.1 5 am) ∧
 (Vp l q bs).2.2.length=bs.length ∧
 ∀ i,i<N→Kc (Vp l q bs).2.2 (q+i)=Yf 3 ((q+i:Nat):Int) (Jr (Yv (Zj l) i)):=by
 have a3:N≤69:=by unfold bmN at hN;omega
 have a1:=By l l.length
 obtain⟨L,hL⟩:∃ L,Xe (Zj l) N=L:=⟨_,rfl⟩
 obtain⟨O,hO⟩:∃ O,Zp l l.length=O:=⟨_,rfl⟩
 have a2:Qk l=N+Zy 4 N+Zy 5 O.length:=by unfold Qk;rw[hN,hO]
 have ES:EntsOk (Jl 4 true) (Xl L q N):=Gi _ _ _ M0
 have EO:EntsOk (Jl 5 true) O:=hO▸Vl _ _ M0
 rw[hO] at a1 ho
 have a0:=Yd (L:=L) (q:=q) (bs:=bs) N M0
 have hP:Vp l q bs=((Xf 4 (Xl L q N) (q+N) (Xt L q bs N)).1,(Xf 5 O (q+N+Zy 4 N) (Xf 4 (Xl L q N) (q+N) (Xt L q bs N)).2).1,(Xf 5 O (q+N+Zy 4 N) (Xf 4 (Xl L q N) (q+N) (Xt L q bs N)).2).2):=by
  unfold Vp;simp only[hN,hL,hO]
 have hT:=Wi (t:=5) (s:=4) (l:=O) (e:=Xl L q N) (q:=q+N+Zy 4 N) (p:=q+N) (bs:=Xt L q bs N) Do Do EO Do Do ES (by rw[a0];omega) (by rw[Xg];exact At _)
 have k4:=Qa (t:=4) (l:=Xl L q N) (q:=q+N) (bs:=Xt L q bs N) Do Do ES (by rw[a0,Xg];omega)
 have k5:=Qa (t:=5) (l:=O) (q:=q+N+Zy 4 N) (bs:=(Xf 4 (Xl L q N) (q+N) (Xt L q bs N)).2) Do Do EO (by rw[k4.1,a0];omega)
 have k6:=Qa (t:=5) (l:=O) (q:=q+N+Zy 4 N) (bs:=Xt L q bs N) Do Do EO (by rw[a0];omega)
 have s4:=Dd (t:=4) (am:=am) (l:=Xl L q N) (q:=q+N) (bs:=(Xf 5 O (q+N+Zy 4 N) (Xt L q bs N)).2) Do Do ES (by rw[Xg];omega) M0 (by rw[Xg,k6.1,a0];omega) (by rw[Xg];omega) (by rw[Xg];omega)
 have s5:=Dd (t:=5) (am:=am) (l:=O) (q:=q+N+Zy 4 N) (bs:=(Xf 4 (Xl L q N) (q+N) (Xt L q bs N)).2) Do Do EO M0 M0 (by rw[k4.1,a0];omega) M0 M0
 rw[hT,Xg] at s4
 rw[hP,hL,hO]
 refine⟨s4,s5,by show(Xf 5 O _ _).2.length=_;rw[k5.1,k4.1,a0],fun i hi=>?_⟩
 show Kc (Xf 5 O _ _).2 _=_
 rw[k5.2 _ M0,k4.2 _ M0,Cg (m:=bs.length/256) (by rw[a0]) rfl M0 hi,←hL,Ko hi]
theorem Zp8{l:V6 Int}{q:Nat}{bs:Bl}{am:Int}(hq:1≤q)(hs:Jn l=0)(hl:l.length≤65536)(ho:(Zp l l.length).length≤32768)(h4:q+Qk l≤14400)(hb:(q+Qk l)*256≤bs.length)(hfu:(Qk l:Int)≤am) :
 Ah (Vp l q bs).2.2 (Vp l q bs).1 (Vp l q bs).2.1 (l.length:Int) am=([],0,l):=by
 obtain⟨N,hN⟩:∃ N,bmN l.length=N:=⟨_,rfl⟩
 have hc:=(Ws hs).2
 obtain⟨⟨es,bl,he,-,a3⟩,⟨a9,b3,b0,-,a6⟩,hF,hB⟩:=Zk2 hN hq hl ho h4 hb hfu
 have b2:Qk l=N+Zy 4 N+Zy 5 (Zp l l.length).length:=by unfold Qk;rw[hN]
 obtain⟨a2,hg⟩:=kv_get he
 rw[Xg] at a2 hg
 obtain⟨F,a8⟩:∃ F,(Vp l q bs).2.2=F:=⟨_,rfl⟩
 rw[a8] at a3 a6 hF hB ⊢
 have hk:Zdt es=true:=Ziv fun i hi=>by
  rw[(hg i M0).1,Gj M0];rfl
 have hX:∀ i,i<N→(es.map Zjk).getD i Mi=((q+i,Yn (Yv (Zj l) i),Xi (Yv (Zj l) i)),(es.getD i Zn).2.2,0):=fun i hi=>by
  have a1:=Gp hc i;have hp:=Ztq (L:=Xe (Zj l) N) (q:=q) (i:=i) (e:=es.getD i Zn) hq M0 (by rw[Ko hi];exact a1.2) (by rw[(hg i hi).2,Gj hi]);rw[Ko hi] at hp;rw[←hp];simp[getD,show i<es.length by omega]
 have hR:∀ i,i<N→Ye F ((q+i:Nat):Int)=0∧Ut F ((q+i:Nat):Int)=Yv (Zj l) i:=fun i hi=>by
  have a1:=Gp hc i;exact Ra (by rw[hF];omega) M0 (hB i hi) a1.1 a1.2
 have h1:∀ (n:Int) (i:Nat),i<N→Zgn F (es.map Zjk) n i=if((Yv (Zj l) i).length:Int)≠Ur n i then([(es.getD i Zn).2.2],7,[]) else([],0,Yv (Zj l) i):=fun n i hi=>by
  unfold Zgn Zp5;rw[hX i hi];simp only;rw[(hR i hi).1,(hR i hi).2];simp
 have b1:∀ i,(Yv (Zj l) i).length=min 960 (l.length-i*960):=fun i=>by rw[Mg,Wo]
 have a5:(Ze F (Vp l q bs).1 4 am).es=es∧(Ze F (Vp l q bs).1 4 am).fs=[]:=by rw[a3];exact⟨rfl,rfl⟩
 have a0:(Ze F (Vp l q bs).2.1 5 am).es=a9∧(Ze F (Vp l q bs).2.1 5 am).fs=[]:=by rw[a6];exact⟨rfl,rfl⟩
 have a7:(es.map Zjk).length=N:=by rw[A3,a2]
 have b4:N*960<l.length+960∧l.length≤N*960:=by unfold bmN at hN;omega
 unfold Ah
 rw[V7 (fun q=>q a5.2),a5.1,V7 (fun q=>q (by rw[a2];unfold bmI;rw[G6,hN])),V7 (by rw[hk];decide)]
 rw[Zb4 fun i hi=>by
  rw[a7] at hi;rw[h1 _ i hi,V7 (fun q=>q (by rw[b1];unfold Ur;split<;>omega))]]
 have ha:Ba F (es.map Zjk) (l.length:Int) (es.map Zjk).length=Xe (Zj l) N:=by
  rw[a7];unfold Ba Xe;apply F9;intro i hi;have hi:=A7.1 hi;rw[hX i hi];exact(hR i hi).2
 have a4:(Xe (Zj l) N).flatten=Zj l:=by
  have:=Zbb (Zj l);rwa [Wo,hN] at this
 have hj:=Zjb hc b0
 rw[ha,Ze9 a0.2 (by rw[a4,a0.1,hj]),a4,a0.1,hj]
variable {t u v:Int} {x k:Nat} {L:V6 Dv}
end
end
section
abbrev Rx:=Int×Int×Int
abbrev Cx:=V6 Nat×V6 Int×Int
def Zct(no t:Int)(dx:Bool)(v:Bl):Rx :=
 if dx=true∧t=4 then(if Xn Xx v≠0 then(no,7,Xn Xx v) else(((Xq Xx v).getD 0 0:Nat),7,0))
 else if Qi v≠0 then(no,(if dx then 2 else t),Qi v) else((Ga v:Int),(if dx then 2 else t),0)
def Bm(t:Int)(dx:Bool):Prop:=dx=true∧t≠1∧t≠4
instance (t:Int) (dx:Bool):Decidable (Bm t dx):=inferInstanceAs (Decidable (_∧_∧_))
def Zb8(l:Bl)(no ak:Int):Int:=if ak=6 then Qr l no else if ak=7 then Ye l no else Xy l no ak
def nodX(l:Bl)(no:Int):V6 Rx:=if Bm (Qt (inB l no)) (Yg (inB l no)) then [] else(Um l no).map (Zct no (Qt (inB l no)) (Yg (inB l no)))
def Lz(s:Nat×Nat×Nat):Rx:=((s.1:Int),7,0)
def Zcn(l:Bl)(no ak:Int):V6 Rx:=if ak=6 then(Wj l no).map Lz else if ak=7 then [] else nodX l no
def Hk(f:V6 Nat→Rx→Cx):V6 Nat→V6 Rx→Cx
 | cs,[]=>(cs,[],0)
 | cs,x::r=>if(f cs x).2.2≠0 then f cs x else Hk f (f cs x).1 r
def Xm(l:Bl):Nat→V6 Nat→Rx→Cx
 | 0,cs,x=>(cs,[],0)
 | d+1,cs,x =>
  if x.2.2≠0 then(cs,[x.1],x.2.2)
  else if ¬ (0≤x.1∧x.1<cs.length) then(cs,[x.1],3)
  else if cs.getD x.1.toNat 0≠0 then(Nl cs x.1,[],0)
  else if Zb8 l x.1 x.2.1≠0 then(Nl cs x.1,[x.1],Zb8 l x.1 x.2.1)
  else Hk (Xm l d) (Nl cs x.1) (Zcn l x.1 x.2.1)
theorem Jf(f:V6 Nat→Rx→Cx)(cs:V6 Nat)(x:Rx)(r:V6 Rx):Hk f cs (x::r)=if(f cs x).2.2≠0 then f cs x else Hk f (f cs x).1 r:=rfl
theorem Py(f:V6 Nat→Rx→Cx):∀ (A B:V6 Rx) (cs:V6 Nat),Hk f cs (A++B)=if(Hk f cs A).2.2≠0 then Hk f cs A else Hk f (Hk f cs A).1 B
 | [],B,cs=>by simp[Hk]
 | x::A,B,cs=>by
  rw[Ge,Jf,Jf];by_cases h:(f cs x).2.2≠0
  ·rw[V8 h,V8 h,V8 h]
  ·rw[V7 h,V7 h];exact Py f A B _
structure Well(cs:V6 Nat)(n:Nat)(o:Cx):Prop where
 len:o.1.length=cs.length
 zer:zer o.1≤zer cs
 phi:phi o.1≤phi cs+n
theorem Well.refl(cs:V6 Nat)(n:Nat)(b:V6 Int)(e:Int):Well cs n (cs,b,e):=⟨rfl,At _,M5 _ _⟩
theorem Well.mono{cs:V6 Nat}{n m:Nat}{o:Cx}(h:Well cs n o)(hm:n≤m):Well cs m o:=⟨h.len,h.zer,by have:=h.phi;omega⟩
theorem Well.trans{cs:V6 Nat}{n m:Nat}{o o2:Cx}(h:Well cs n o)(k:Well o.1 m o2):Well cs (n+m) o2:=⟨k.len.trans h.len,N0 k.zer h.zer,by have:=h.phi;have:=k.phi;omega⟩
theorem Sa{f:V6 Nat→Rx→Cx}(hf:∀ cs x,Well cs 1 (f cs x)):∀ (L:V6 Rx) (cs:V6 Nat),Well cs L.length (Hk f cs L)
 | [],cs=>Well.refl cs _ _ _
 | x::r,cs=>by
  rw[Jf];split
  ·exact(hf cs x).mono Y5
  ·have:=(hf cs x).trans (Sa hf r (f cs x).1);exact this.mono (by simp;omega)
theorem maxC(l:Bl)(no ak:Int)(h:Xy l no ak=0):Xa (inB l no)≤18:=N0 (Ee (Zav (El (Sc h).2))) (Zyh _ _)
theorem Zm8(l:Bl)(no:Int):(Wj l no).length≤255:=by
 by_cases h:Qr l no=0
 ·rw[(Rr h).2];unfold Qr at h;by_cases h1:inE l 4 no=0
  ·rw[V8 h1] at h;unfold Zgu at h;by_cases h2:Ze5 (inB l no)=true
   ·have h3:(decide (Zo (inB l no) 0 4≤15)&&_)=true:=h2;rw[E2] at h3;have:=U1 h3.1;omega
   ·rw[V7 h2] at h;omega
  ·rw[V7 h1] at h;exact absurd h h1
 ·rw[idxR_bad h];exact A5 _
theorem hasL_few{l:Bl}{no ak:Int}(h:Zb8 l no ak=0):(Zcn l no ak).length≤1000:=by
 unfold Zb8 at h;unfold Zcn;split
 ·rw[A3];have:=Zm8 l no;omega
 ·rename_i h6;rw[V7 h6] at h;split
  ·exact A5 _
  ·rename_i h7;rw[V7 h7] at h;unfold nodX;split
   ·exact A5 _
   ·rw[A3];have:=maxC l no ak h;unfold Um;rw[Cj];omega
theorem Lh(l:Bl):∀ (d:Nat) (cs:V6 Nat) (x:Rx),Well cs 1 (Xm l d cs x)
 | 0,cs,x=>Well.refl cs _ _ _
 | d+1,cs,x=>by
  unfold Xm;split
  ·exact Well.refl cs _ _ _
  ·split
   ·exact Well.refl cs _ _ _
   ·rename_i h1 h2;have h2:0≤x.1∧x.1<cs.length:=Classical.not_not.1 h2;have hz:=Rc h2.1 h2.2;have hs:=Rf h2.1 h2.2;have hb:Well cs 1 (Nl cs x.1,([]:V6 Int),0):=⟨Vv _ _,by show zer (Nl cs x.1)≤_;omega,by show phi (Nl cs x.1)≤_;unfold phi;omega⟩;split
    ·exact hb
    ·rename_i h3;split
     ·exact⟨hb.len,hb.zer,hb.phi⟩
     ·rename_i h4;have hw:=Sa (Lh l d) (Zcn l x.1 x.2.1) (Nl cs x.1);have hf:=hasL_few (Classical.not_not.1 h4);rw[V8 (Classical.not_not.1 h3)] at hz;refine⟨hw.len.trans (Vv _ _),N0 hw.zer hb.zer,?_⟩;have:=hw.phi;unfold phi at this ⊢;omega
theorem Ef{f g:V6 Nat→Rx→Cx}{n:Nat}(hf:∀ cs x,Well cs 1 (f cs x))(h:∀ cs x,zer cs≤n→f cs x=g cs x):∀ (L:V6 Rx) (cs:V6 Nat),zer cs≤n→Hk f cs L=Hk g cs L
 | [],cs,_=>rfl
 | x::r,cs,hn=>by
  rw[Jf,Jf,h cs x hn];split
  ·rfl
  ·have:=(hf cs x).zer;rw[h cs x hn] at this;exact Ef hf h r _ (N0 this hn)
theorem Zbq(l:Bl):∀ (d d':Nat) (cs:V6 Nat) (x:Rx),zer cs<d→zer cs<d'→Xm l d cs x=Xm l d' cs x
 | 0,_,_,_,h,_=>absurd h M0
 | _+1,0,_,_,_,h=>absurd h M0
 | d+1,d'+1,cs,x,h,h'=>by
  unfold Xm;by_cases h1:x.2.2≠0
  ·rw[V8 h1,V8 h1]
  ·rw[V7 h1,V7 h1];by_cases h2:¬ (0≤x.1∧x.1<cs.length)
   ·rw[V8 h2,V8 h2]
   ·rw[V7 h2,V7 h2];by_cases h3:cs.getD x.1.toNat 0≠0
    ·rw[V8 h3,V8 h3]
    ·rw[V7 h3,V7 h3];by_cases h4:Zb8 l x.1 x.2.1≠0
     ·rw[V8 h4,V8 h4]
     ·rw[V7 h4,V7 h4];have a0:=Classical.not_not.1 h2;have hz:=Rc a0.1 a0.2;rw[V8 (Classical.not_not.1 h3)] at hz;exact Ef (n:=zer (Nl cs x.1)) (Lh l d) (fun a1 x' hn=>Zbq l d d' a1 x' M0 M0) _ _ (At _)
def Pw(l:Bl)(cs:V6 Nat)(L:V6 Rx):Cx:=Hk (Xm l (cs.length+1)) cs L
theorem Zo8(l:Bl)(cs:V6 Nat):Pw l cs []=(cs,[],0):=rfl
theorem Zk7{l:Bl}{cs:V6 Nat}{x:Rx}{r:V6 Rx}(h:x.2.2=0)(h2:0≤x.1∧x.1<cs.length)(h3:cs.getD x.1.toNat 0≠0):Pw l cs (x::r)=Pw l (Nl cs x.1) r:=by
 have e:Xm l (cs.length+1) cs x=(Nl cs x.1,[],0):=by unfold Xm;rw[V7 (fun q=>q h),V7 (fun q=>q h2),V8 h3]
 unfold Pw;rw[Jf,e,V7 Y5,Vv]
theorem Tw{l:Bl}{cs:V6 Nat}{x:Rx}{r:V6 Rx}(h:x.2.2=0)(h2:0≤x.1∧x.1<cs.length)(h3:cs.getD x.1.toNat 0=0)(h4:Zb8 l x.1 x.2.1=0):Pw l cs (x::r)=Pw l (Nl cs x.1) (Zcn l x.1 x.2.1++r):=by
 have hz:=Rc h2.1 h2.2;rw[V8 h3] at hz;have a1:=zer_le cs;have e:Xm l (cs.length+1) cs x=Hk (Xm l (cs.length+1)) (Nl cs x.1) (Zcn l x.1 x.2.1):=by
  conv=>lhs;unfold Xm
  rw[V7 (fun q=>q h),V7 (fun q=>q h2),V7 (fun q=>q h3),V7 (fun q=>q h4)];exact Ef (n:=zer (Nl cs x.1)) (Lh l _) (fun a0 x' hn=>Zbq l _ _ a0 x' M0 M0) _ _ (At _)
 unfold Pw;rw[Jf,e,Vv,Py]
end
section
open Go.RowKit Go.Extern.Stop Go.Stop Go.Extern
section
attribute [local irreducible] wpList wpAnyH Code.wp Oper.wp Go
theorem Zd8{cs S T:V6 Nat}(hp:S.Perm T)(h:∀ b∈S,b<cs.length):Ky cs S=Ky cs T:=by
 refine Gs 0 (by rw[Uc,Uc]) fun i _=>?_;rw[Pe S cs h,Pe T cs (fun b hb=>h b (hp.mem_iff.2 hb)),hp.count_eq]
def Qp(l:Bl)(L:V6 Rx)(S:V6 Nat):Prop:=∀ (cs:V6 Nat) (r:V6 Rx),(∀ b∈S,b<cs.length∧cs.getD b 0=0)→Pw l cs (L++r)=Pw l (Ky cs S) r
variable {l:V6 UInt8}
theorem Qp.nil:Qp l [] []:=fun cs r _=>rfl
theorem Qp.append{A B:V6 Rx}{S T:V6 Nat}(h1:Qp l A S)(h2:Qp l B T)(hd:∀ b∈T,b∉S):Qp l (A++B) (S++T):=fun cs r h=>by
 rw[A4,h1 cs (B++r) (fun b hb=>h b (If _ hb)),h2 (Ky cs S) r (fun b hb=>?_),Cm];have:=h b (List.mem_append_right _ hb);rw[Uc,Pe S cs (fun b hb=>(h b (If _ hb)).1),List.count_eq_zero.2 (hd b hb)];exact this
theorem Qp.node{no:Nat}{ak:Int}{S:V6 Nat}(he:Zb8 l (no:Int) ak=0)(h:Qp l (Zcn l (no:Int) ak) S)(hn:no∉S):Qp l [((no:Int),ak,0)] (no::S):=fun cs r hz=>by
 obtain⟨h1,h2⟩:=hz no D6;rw[List.singleton_append,Tw (x:=((no:Int),ak,0)) rfl ⟨by simp only;omega,by simp only;omega⟩ (by simpa using h2) he,h (Nl cs (no:Int)) r (fun b hb=>?_),Me];have:=hz b (E1 _ hb);rw[Vv,Cl h1,V7 (fun e:no=b=>hn (e▸hb))];exact this
theorem Qp.c2{L:V6 Rx}{S T:V6 Nat}(h:Qp l L S)(hp:S.Perm T):Qp l L T:=fun cs r hz=>by
 rw[h cs r (fun b hb=>hz b (hp.mem_iff.1 hb)),Zd8 hp fun b hb=>(hz b (hp.mem_iff.1 hb)).1]
theorem Qp.d0{x:Nat→Rx}{H:Nat→V6 Nat}(n:Nat)(h:∀ k,k<n→Qp l [x k] (H k))(hd:∀ i j,i<j→j<n→∀ b∈H j,b∉H i):Qp l ((range n).map x) ((range n).flatMap H):=by
 induction n with
 | zero=>exact Qp.nil
 | succ n ih =>
  rw[B8,A6,C7];refine(ih (fun k hk=>h k M0) (fun i j hi hj=>hd i j hi M0)).append (by simpa using h n M0) fun b hb hq=>?_;obtain⟨i,hi,hq⟩:=List.mem_flatMap.1 hq;exact hd i n (A7.1 hi) M0 b (by simpa using hb) hq
theorem Gz{f:Nat→Nat}{g:Nat→V6 Nat}(n:Nat):((range n).flatMap fun j=>f j::g j).Perm ((range n).map f++(range n).flatMap g):=by
 induction n with
 | zero=>exact List.Perm.refl _
 | succ n ih =>
  rw[B8,C7,A6,C7];simp only[E7,K9,F4,D7,H0];refine(ih.append_right _).trans ?_;rw[A4,A4];refine L6 _ ?_;exact(List.perm_middle).trans (List.Perm.refl _)
def rng (q n:Nat):V6 Nat:=(range n).map (q+·)
theorem Ql{q n b:Nat}:b∈rng q n↔q≤b∧b<q+n:=by
 unfold rng;rw[List.mem_map];constructor
 ·rintro⟨j,hj,rfl⟩;have:=A7.1 hj;omega
 ·intro h;exact⟨b-q,A7.2 M0,M0⟩
theorem Ep(q a b:Nat):rng q (a+b)=rng q a++rng (q+a) b:=by
 unfold rng;rw[P1,A6,L5];congr 1;apply F9;intro j _;simp only[Function.comp];omega
theorem Wy(q n i:Nat):(rng q n).count i=if q≤i∧i<q+n then 1 else 0:=by
 have hn:(rng q n).Nodup:=by
  unfold rng;exact List.Pairwise.map _ (fun a b h e=>h M0) List.nodup_range
 by_cases h:q≤i∧i<q+n
 ·rw[V8 h];exact List.Nodup.count hn |>.trans (V8 (Ql.2 h))
 ·rw[V7 h];exact List.count_eq_zero.2 fun q=>h (Ql.1 q)
theorem Zc2{no t:Int}{k:Nat}(h1:1≤k)(h2:k≤14399):Zct no t false (leB (k:Int) 4)=((k:Int),t,0):=by
 obtain⟨a,b⟩:=Ic h1 h2;unfold Zct;rw[V7 (fun q=>by cases q.1),V7 (fun q=>q a),b];rfl
theorem Ao{F:Bl}{t:Int}{dx:Bool}{m v:Nat}{u:V6 Ent}{q i len:Nat}(E:EntsOk v u)(h1:1≤t)(h2:t≤5)(hm:Jj t dx=m)(hv:Jl t dx=v)(hl:dx=false→1≤u.length)(hi:i<ovN u.length m)(hF:Kc F (q+i)=Yf 2 ((q+i:Nat):Int) (Zs9 t dx m v (Xb u m i)))(hlen:F.length=len)(hb:(q+i+1)*256≤len)(h4:q+i<14400) :
 Zb8 F ((q+i:Nat):Int) t=0∧Zcn F ((q+i:Nat):Int) t=if Bm t dx then [] else(range (Yq u.length m i)).map fun j=>Zct ((q+i:Nat):Int) t dx (u.getD (i*m+j) Zn).2.1:=by
 have N:=Mu E h1 h2 hm hv hl hi
 have B:=Ar N
 obtain⟨he,a0⟩:=Ze2 N hlen M0 M0 hF t (.inr rfl)
 have hC:Xa (inB F ((q+i:Nat):Int))=(Xb u m i).length:=by rw[a0];exact B.c
 have hV:Um F ((q+i:Nat):Int)=Hh (Xb u m i):=by unfold Um;rw[hC,a0];exact B.v
 have hL:Yg (inB F ((q+i:Nat):Int))=dx:=by rw[a0];exact B.l
 have hT:Qt (inB F ((q+i:Nat):Int))=t:=by rw[a0];exact B.t
 have a1:=Hu u m i
 have a2:Hh (Xb u m i)=(range (Yq u.length m i)).map fun j=>(u.getD (i*m+j) Zn).2.1:=by
  refine Gs [] (by rw[Ci,A3,List.length_range,a1]) fun j hj=>?_;rw[Ci,a1] at hj;rw[Za7 (by rw[a1];exact hj),Hq hj];simp[getD,hj]
 constructor
 ·unfold Zb8;rw[V7 M0,V7 M0];exact he
 ·unfold Zcn;rw[V7 M0,V7 M0]
  unfold nodX
  rw[hT,hL,hV,a2,L5]
  rfl
theorem Ziw{t:Int}(h1:1≤t)(h2:t≤5)(n:Nat):∀ (u:V6 Ent) (base:Nat) (bs F:Bl) (H:Nat→V6 Nat),u.length=n→1≤n→EntsOk 4 u→(∀ k,k<n→(u.getD k Zn).2.1=leB ((base+k:Nat):Int) 4∧(u.getD k Zn).2.2=((base+k:Nat):Int)) →
 1≤base→(base+n+((Vz n).sum-n))*256≤bs.length→F.length=bs.length→base+n+((Vz n).sum-n)≤14400→(∀ x,base+n≤x→x<base+n+((Vz n).sum-n)→Kc F x=Kc (Qs t u (base+n) bs).2 x) →
 (∀ k,k<n→Qp F [(((base+k:Nat):Int),t,0)] (H k))→(∀ i j,i<j→j<n→∀ b∈H j,b∉H i)→(∀ k,k<n→∀ b∈H k,b<base+n∨base+n+((Vz n).sum-n)≤b) →
 ∃ S,Qp F [((Qs t u (base+n) bs).1,t,0)] S∧S.Perm (rng (base+n) ((Vz n).sum-n)++(range n).flatMap H):=by
 induction n using Nat.strongRecOn with
 | _ n ih =>
  intro u base bs F H hn b5 E hu c7 b4 b0 h4 hF hT hd a5
  subst hn
  by_cases h9:u.length≤1
  ·have b3:u.length=1:=M0
   have c1:Vz u.length=[1]:=by rw[Ja h9,b3]
   rw[c1,b3,Kb h9,(hu 0 M0).2]
   exact⟨H 0,hT 0 M0,by simp[rng]⟩
  ·have c3:=Znf (x:=u.length) M0
   have hp:=Yu u.length 18
   have b7:Vz u.length=u.length::Vz (ovN u.length 18):=Qv h9
   have hg:=Vu (ovN u.length 18)
   rw[b7] at b4 h4 hF a5 ⊢
   simp only[G3] at b4 h4 hF a5 ⊢
   obtain⟨a1,a2,a3⟩:=Qw (t:=t) (dx:=false) (m:=18) (v:=4) (l:=u) (q:=base+u.length) (bs:=bs) E h1 h2 rfl rfl (fun _=>by omega) (ovN u.length 18) (At _) M0
   obtain⟨b1,b2⟩:=Ha (t:=t) h1 h2 (ovN u.length 18) (upE u 18 (base+u.length) (ovN u.length 18)) (base+u.length+ovN u.length 18) (Pp t false 18 4 u (base+u.length) bs (ovN u.length 18)) (Xk _ _ _ _) hp (Mm E Do) (by rw[a1];omega)
   have a0:=Qn (t:=t) (q:=base+u.length) (bs:=bs) h9
   have a7:∀ i,Yq u.length 18 i=min 18 (u.length-i*18):=fun i=>rfl
   have a6:∀ j,j<ovN u.length 18→Qp F [(((base+u.length+j:Nat):Int),t,0)] ((base+u.length+j)::(range (Yq u.length 18 j)).flatMap fun i=>H (j*18+i)):=fun j hj=>by
    have hk:=Ao (F:=F) (q:=base+u.length) (i:=j) E h1 h2 (dx:=false) (m:=18) (v:=4) rfl rfl (fun _=>b5) hj (by rw[hF _ M0 M0,a0,b2 _ M0];exact a2 j hj) b0 M0 M0;refine Qp.node hk.1 ?_ fun hq=>?_
    ·rw[hk.2,V7 (fun q=>by cases q.1)];have e:((range (Yq u.length 18 j)).map fun i=>Zct ((base+u.length+j:Nat):Int) t false (u.getD (j*18+i) Zn).2.1)=(range (Yq u.length 18 j)).map fun i=>((((base+(j*18+i):Nat):Int),t,(0:Int)):Rx):=by
      apply F9;intro i hi;have hi:=A7.1 hi;rw[a7] at hi;rw[(hu (j*18+i) M0).1,Zc2 M0 M0]
     rw[e];refine Qp.d0 (x:=fun i=>(((base+(j*18+i):Nat):Int),t,0)) _ (fun k hk=>?_) fun a b c9 hb=>?_
     ·rw[a7] at hk;exact hT _ M0
     ·rw[a7] at hb;exact hd _ _ M0 M0
    ·obtain⟨i,hi,hq⟩:=List.mem_flatMap.1 hq;have hi:=A7.1 hi;rw[a7] at hi;have:=a5 _ M0 _ hq;omega
   have a8:∀ j b,b∈(range (Yq u.length 18 j)).flatMap (fun i=>H (j*18+i))→∃ i,i<u.length∧j*18≤i∧i<j*18+18∧b∈H i:=fun j b hq=>by
    obtain⟨i,hi,hq⟩:=List.mem_flatMap.1 hq;have hi:=A7.1 hi;rw[a7] at hi;exact⟨j*18+i,M0,M0,M0,hq⟩
   obtain⟨S,hS,b6⟩:=ih (ovN u.length 18) M0 (upE u 18 (base+u.length) (ovN u.length 18)) (base+u.length) (Pp t false 18 4 u (base+u.length) bs (ovN u.length 18)) F (fun j=>(base+u.length+j)::(range (Yq u.length 18 j)).flatMap fun i=>H (j*18+i)) (Xk _ _ _ _) hp (Mm E Do) (fun k hk=>by rw[Kt hk];exact⟨rfl,rfl⟩)
    M0 (by rw[a1];omega) (by rw[b0,a1]) M0 (fun x c2 c5=>by rw[hF x M0 M0,a0]) a6
    (fun i j b8 hj b hb hq=>by
     rcases B6.1 hb with rfl|hb
     ·rcases B6.1 hq with e|hq
      ·omega
      ·obtain⟨k,hk,_,_,hq⟩:=a8 i _ hq;have:=a5 k hk _ hq;omega
     ·obtain⟨k,hk,c6,c8,hb⟩:=a8 j _ hb;rcases B6.1 hq with rfl|hq
      ·have:=a5 k hk _ hb;omega
      ·obtain⟨k',c4,c0,b9,hq⟩:=a8 i _ hq;have:(i+1)*18≤j*18:=F1 18 b8;exact hd k' k M0 hk b hb hq)
    (fun k hk b hb=>by
     rcases B6.1 hb with rfl|hb
     ·omega
     ·obtain⟨i,hi,_,_,hb⟩:=a8 k _ hb;have:=a5 i hi _ hb;omega)
   rw[a0]
   refine⟨S,hS,b6.trans ?_⟩
   have a9:=It (n:=u.length) (m:=18) Do
   have a4:=Gl (n:=u.length) (m:=18) Do H (ovN u.length 18) (At _)
   rw[a9] at a4
   refine(L6 _ (Gz (f:=fun j=>base+u.length+j) _)).trans ?_
   rw[a4,←A4]
   refine List.Perm.append_right _ ?_
   have e:u.length+(Vz (ovN u.length 18)).sum-u.length=ovN u.length 18+((Vz (ovN u.length 18)).sum-ovN u.length 18):=M0
   rw[e,Ep]
   exact L7
end
section
attribute [local irreducible] wpList wpAnyH Code.wp Oper.wp Go
theorem Wx{t:Int}{l:V6 Ent}{q:Nat}{bs F:Bl}{G:Nat→V6 Nat}(hF:F=(Xf t l q bs).2)(h1:1≤t)(h2:t≤5)(E:EntsOk (Jl t true) l)(hq:1≤q)(hbs:(q+Zy t l.length)*256≤bs.length)(h4:q+Zy t l.length≤14400)
 (hD:Bm t true→∀ k,k<l.length→G k=[]) (hG:¬ Bm t true→∀ k,k<l.length→∃ y,(∀ no:Int,Zct no t true (l.getD k Zn).2.1=y)∧Qp F [y] (G k))
 (hd:∀ i j,i<j→j<l.length→∀ b∈G j,b∉G i) (hfr:∀ k,k<l.length→∀ b∈G k,b<q∨q+Zy t l.length≤b) :
 ∃ S,Qp F [((Xf t l q bs).1,t,0)] S∧S.Perm (rng q (Zy t l.length)++(range l.length).flatMap G):=by
 obtain⟨m,hm⟩:∃ m,Jj t true=m:=⟨_,rfl⟩
 obtain⟨v,hv⟩:∃ v,Jl t true=v:=⟨_,rfl⟩
 have a4:=Qc t true
 have b3:=Yu l.length m
 have hg:=Vu (ovN l.length m)
 have hN:Zy t l.length=(Vz (ovN l.length m)).sum:=by unfold Zy Ue;rw[hm]
 have hT:Xf t l q bs=Qs t (upE l m q (ovN l.length m)) (q+ovN l.length m) (Pp t true m v l q bs (ovN l.length m)):=by unfold Xf;rw[hm,hv]
 rw[hv] at E
 rw[hm] at a4
 rw[hT] at hF ⊢
 rw[hN] at hbs h4 hfr ⊢
 have a9:=hF
 obtain⟨a1,a2,a3⟩:=Qw (t:=t) (dx:=true) (m:=m) (v:=v) (l:=l) (q:=q) (bs:=bs) E h1 h2 hm hv (fun h=>by cases h) (ovN l.length m) (At _) M0
 obtain⟨b1,b2⟩:=Ha (t:=t) h1 h2 (ovN l.length m) (upE l m q (ovN l.length m)) (q+ovN l.length m) (Pp t true m v l q bs (ovN l.length m)) (Xk _ _ _ _) b3 (Mm E a4.1) (by rw[a1];omega)
 have b0:F.length=bs.length:=by rw[a9,b1,a1]
 have b7:∀ i,Yq l.length m i=min m (l.length-i*m):=fun i=>rfl
 have a5:∀ i j,j<Yq l.length m i→i*m+j<l.length∧j<m:=fun i j h=>by rw[b7] at h;omega
 have a6:∀ i,i<ovN l.length m→Qp F [(((q+i:Nat):Int),t,0)] ((q+i)::(range (Yq l.length m i)).flatMap fun j=>G (i*m+j)):=fun i hi=>by
  have hk:=Ao (F:=F) (q:=q) (i:=i) E h1 h2 (dx:=true) (m:=m) (v:=v) hm hv (fun h=>by cases h) hi (by rw[a9,b2 _ M0];exact a2 i hi) b0 M0 M0;refine Qp.node hk.1 ?_ fun hq=>?_
  ·rw[hk.2];by_cases hdd:Bm t true
   ·rw[V8 hdd];have e:((range (Yq l.length m i)).flatMap fun j=>G (i*m+j))=[]:=by
     rw[List.flatMap_eq_nil_iff];intro j hj;exact hD hdd _ (a5 i j (A7.1 hj)).1
    rw[e];exact Qp.nil
   ·rw[V7 hdd];refine Qp.d0 (x:=fun j=>Zct ((q+i:Nat):Int) t true (l.getD (i*m+j) Zn).2.1) _ (fun k hk=>?_) fun a b c2 hb=>?_
    ·obtain⟨y,e,hy⟩:=hG hdd _ (a5 i k hk).1;rw[e];exact hy
    ·exact hd _ _ M0 (a5 i b hb).1
  ·obtain⟨j,hj,hq⟩:=List.mem_flatMap.1 hq;have:=hfr _ (a5 i j (A7.1 hj)).1 _ hq;omega
 have a7:∀ i b,b∈(range (Yq l.length m i)).flatMap (fun j=>G (i*m+j))→∃ k,k<l.length∧i*m≤k∧k<i*m+m∧b∈G k:=fun i b hq=>by
  obtain⟨j,hj,hq⟩:=List.mem_flatMap.1 hq;have hj:=a5 i j (A7.1 hj);exact⟨i*m+j,hj.1,M0,M0,hq⟩
 obtain⟨S,hS,b8⟩:=Ziw h1 h2 (ovN l.length m) (upE l m q (ovN l.length m)) q (Pp t true m v l q bs (ovN l.length m)) F (fun i=>(q+i)::(range (Yq l.length m i)).flatMap fun j=>G (i*m+j)) (Xk _ _ _ _) b3 (Mm E a4.1) (fun k hk=>by rw[Kt hk];exact⟨rfl,rfl⟩) hq
  (by rw[a1];omega) (by rw[b0,a1]) M0 (fun x _ _=>by rw[a9]) a6
  (fun i j b4 hj b hb hq=>by
   rcases B6.1 hb with rfl|hb
   ·rcases B6.1 hq with e|hq
    ·omega
    ·obtain⟨k,hk,_,_,hq⟩:=a7 i _ hq;have:=hfr k hk _ hq;omega
   ·obtain⟨k,hk,b9,c0,hb⟩:=a7 j _ hb;rcases B6.1 hq with rfl|hq
    ·have:=hfr k hk _ hb;omega
    ·obtain⟨k',c1,b6,b5,hq⟩:=a7 i _ hq;have:(i+1)*m≤j*m:=F1 m b4;rw[G8,I1] at this;exact hd k' k M0 hk b hb hq)
  (fun k hk b hb=>by
   rcases B6.1 hb with rfl|hb
   ·omega
   ·obtain⟨i,hi,_,_,hb⟩:=a7 k _ hb;have:=hfr i hi _ hb;omega)
 refine⟨S,hS,b8.trans ?_⟩
 have a8:=It (n:=l.length) (m:=m) a4.1
 have a0:=Gl (n:=l.length) (m:=m) a4.1 G (ovN l.length m) (At _)
 rw[a8] at a0
 have e:rng q (Vz (ovN l.length m)).sum=rng q (ovN l.length m)++rng (q+ovN l.length m) ((Vz (ovN l.length m)).sum-ovN l.length m):=by
  rw[←Ep];congr 1;omega
 refine(L6 _ (Gz (f:=fun j=>q+j) _)).trans ?_
 rw[a0,←A4,e]
 exact List.Perm.append_right _ L7
theorem Zd1{F:Bl}{b:Nat}(h:Ye F (b:Int)=0):Qp F [((b:Int),7,0)] [b] :=
 Qp.node (by unfold Zb8;rw[V7 Do,V8 rfl];exact h) (by unfold Zcn;rw[V7 Do,V8 rfl];exact Qp.nil) Y5
theorem Ir(s:Bl)(w:V1)(hs:s.length≤1000) :
 C0 202 #[.string ⟨s.toArray⟩] w (Ret (.tuple #[V0 (↑((Xq Ak s).getD 0 0):Int),V0 (Xn Ak s)]) w):=by
 refine zin 16 Tryz.func202 ?_
 refine xc 8 (Oo _) ?_
 rintro _ W1 ⟨_,rfl,a1,gl,rfl,gg,kl⟩
 refine xc 1 (Mr Ak s (S3 gl) 1 _ cntP_ok Do M0 (kl.sl 1 1 Do Do)) ?_
 rintro _ W2 ⟨_,rfl,a2,p5,c5,rfl,h5⟩
 have a0:=Zg h5 a1.size
 refine xx 10 _ 1 0 1 (Zz (l:=Xq Ak s) (Zf a0) (Yi _ _) (k:=0) Do).1 ?_
 refine xl 0 ((Zz (l:=Xq Ak s) (Zf a0) (Yi _ _) (k:=0) Do).2) ?_
 have hB:=bln a1 a2
 exact xe 6 (.tuple #[V0 (↑((Xq Ak s).getD 0 0):Int),V0 (Xn Ak s)]) ⟨rfl,hB⟩
theorem Zcd(m:Nat)(w:V1)(hm:1≤m)(hn:m≤1099511627776) :
 C0 64 #[V0 (m:Int)] w (Ret (V0 (↑(bmN m):Int)) w):=by
 refine zin 9 Tryz.func64 ?_
 refine xk 12 (show(decide ((m:Int)<(1:Int)):Bool)=false from V9 M0) ?_
 refine xwm 5 ((m:Int)-1) (↑(m-1):Int) ?_
 refine xq 0 (congrArg V0 (show(IntKind.i64.wrap (Int.tdiv (↑(m-1):Int) 960):Int)=(↑((m-1)/960):Int) from An (m-1) 960 M0 Do)) ?_
 refine xw 0 ((↑((m-1)/960):Int)+1) ?_
 exact xe 4 (V0 ((↑((m-1)/960):Int)+1)) ⟨by rw[show bmN m=(m-1)/960+1 from by unfold bmN;omega,Int.natCast_add];rfl,(B4 w)⟩
theorem Zck(n:Int)(w:V1)(hn:n<1) :
 C0 64 #[V0 n] w (Ret (V0 0) w):=by
 refine zin 9 Tryz.func64 ?_
 refine xk 12 (show(decide (n<(1:Int)):Bool)=true from U0 hn) ?_
 exact xe 7 (V0 0) ⟨rfl,(B4 w)⟩
theorem Fi(n:Int)(w:V1)(hn:n≤1099511627776):C0 64 #[V0 n] w (Ret (V0 (↑(bmI n):Int)) w):=by
 by_cases h:n<1
 ·have:=Zck n w h;rwa [show(0:Int)=((bmI n:Nat):Int) from by unfold bmI bmN;omega] at this
 ·obtain⟨m,rfl⟩:∃ m:Nat,n=(m:Int):=⟨n.toNat,M0⟩;exact Zcd m w M0 M0
end
end
section
open Go.RowKit Go.Extern.Stop Go.Stop Go.Extern
open Go.ChangeMaps (setBlock heap_setBlock_same heap_setBlock_other)
section
attribute [local irreducible] wpList wpAnyH Code.wp Oper.wp Go
def Zcl(ks:V6 Int):V6 (V2×V2):=ks.map fun k=>(Value.int .i64 k,Value.bool true)
def Nx(W:V1)(r:Nat)(ks:V6 Int):Prop:=∃ es clock,W.heap[r]? = some (.map es clock)∧es.toList.map (fun e=>(e.key,e.val))=Zcl ks
theorem Nx.lt{W:V1}{r:Nat}{ks:V6 Int}(h:Nx W r ks):r<W.heap.size:=by
 obtain⟨es,a0,h1,_⟩:=h;exact(Array.getElem?_eq_some_iff.1 h1).1
theorem Nx.kept{w W:V1}{r:Nat}{ks:V6 Int}(h:Nx w r ks)(hb:W.heap[r]? = w.heap[r]?):Nx W r ks:=by
 obtain⟨es,a0,h1,h2⟩:=h;exact⟨es,a0,hb.trans h1,h2⟩
theorem Nx.i{w W:V1}{r:Nat}{ks:V6 Int}(h:Nx w r ks)(hb:B3 w W):Nx W r ks:=h.kept (hb.block r h.lt)
theorem Nx.b7{w:V1}{r b:Nat}{ks:V6 Int}{cs:V6 V2}{t:V3}(h:Nx w r ks)(k:Blk w b cs t):r≠b:=fun e=>by
 subst e;obtain⟨es,a0,h1,_⟩:=h;have:w.heap[r]? = some (.cells cs.toArray t (0,0)):=k;rw[h1] at this;cases this
theorem Nx.a9{w:V1}{r base size n:Nat}{ks:V6 Int}{e:V3}{v:V2}{xs:V6 V2}(h:Nx w r ks)(k:w.ownsRow base e size v n xs):some r≠v.ownBlock:=fun q=>by
 rcases k.2 with ⟨h2,_⟩|⟨g,a2,a1,hv,hg,hh,_⟩
 ·subst h2;simp[Value.ownBlock] at q
 ·subst hv;simp only[Value.ownBlock,A0] at q;subst q;obtain⟨es,a0,h1,_⟩:=h;rw[h1] at hh;cases hh
theorem Nx.grown{w W:V1}{r base size n:Nat}{ks:V6 Int}{e:V3}{v:V2}{xs:V6 V2}(h:Nx w r ks)(hg:w.grownBy W v.ownBlock)(k:w.ownsRow base e size v n xs):Nx W r ks:=h.kept (hg.block r h.lt (h.a9 k))
theorem Nx.e3{w W:V1}{r b base size n c:Nat}{ks:V6 Int}{e:V3}{xs:V6 V2}(h:Nx w r ks)(u:Upd w b W)(k:w.ownsRow base e size (.slice (S3 b) n c) n xs):Nx W r ks:=h.kept (u.block r fun q=>h.a9 k (by simp[Value.ownBlock,q]))
theorem Nx.c6{w W:V1}{r b:Nat}{ks:V6 Int}{cs:V6 V2}{t:V3}(h:Nx w r ks)(u:Upd w b W)(k:Blk w b cs t):Nx W r ks:=h.kept (u.block r (h.b7 k))
theorem Zkw{w W:V1}{r base size n:Nat}{ks:V6 Int}{e:V3}{v:V2}{xs:V6 V2}(k:w.ownsRow base e size v n xs)(h:Nx w r ks)(u:Upd w r W):W.ownsRow base e size v n xs:=u.O k fun j hj q=>h.a9 k (by rw[hj,q])
theorem blk_map{w W:V1}{r b:Nat}{ks:V6 Int}{cs:V6 V2}{t:V3}(k:Blk w b cs t)(h:Nx w r ks)(u:Upd w r W):Blk W b cs t:=u.blk k (fun q=>h.b7 k q.symm)
structure NewM(w:V1)(r:Nat)(W:V1):Prop where
 at_:r=w.heap.size
 i:Below w.heap.size w W
 map:Nx W r []
theorem NewM.ge{w W A:V1}{r:Nat}(h:NewM w r W)(k:Below A.heap.size A w):A.heap.size≤r:=by have:=k.size;have:=h.at_;omega
theorem NewM.i0(w:V1):NewM w w.heap.size (w.alloc (.map #[] 0)):=⟨rfl,blx _ _,#[],0,K4 w _,rfl⟩
theorem Zb5(k:Int):∀ (es:V6 MapEntry) (ks:V6 Int) (i:Nat),es.map (fun e=>(e.key,e.val))=Zcl ks→Instr.findNow (.int .i64) (V0 k) es i=some (if k∈ks then some (i+ks.idxOf k,.bool true) else none)
 | [],ks,i,h=>by
  have:ks=[]:=by simpa [Zcl] using h.symm
  subst this;rfl
 | e::es,[],i,h=>by simp[Zcl] at h
 | e::es,k0::ks,i,h=>by
  simp only[Zcl,D7,I5,D9] at h;obtain⟨⟨h1,h2⟩,h3⟩:=h;have ih:=Zb5 k es ks (i+1) h3;by_cases q:k=k0
  ·subst q;simp[Instr.findNow,h1,h2,Instr.sameNow]
  ·have hq:(k==k0)=false:=(by simpa using q);simp only[Instr.findNow,h1,Instr.sameNow,if_true,hq,ih];by_cases m:k∈ks
   ·rw[V8 m,V8 (E1 _ m),List.idxOf_cons,show(k0==k)=false from by simpa using fun z=>q z.symm];simp;omega
   ·rw[V7 m,V7 (by simp[q,m])]
theorem Eh{P:V4}{kt:V3}(hk:P.underlying kt=some (.int .i64))(k:Int){es:V6 MapEntry}{ks:V6 Int}(h:es.map (fun e=>(e.key,e.val))=Zcl ks)(w:V1) :
 (Instr.findKey kt (V0 k) es).run P w=.ok (if k∈ks then some (ks.idxOf k,.bool true) else none) w:=by
 simp only[Instr.findKey,C9,run_underlying hk,E0,Zb5 k es ks 0 h,F5]
 rfl
theorem run_keyN{P:V4}{kt:V3}(hk:P.underlying kt=some (.int .i64))(k:Int)(b:Bool)(n:Nat)(w:V1):(Instr.checkKey b (n+1) kt (V0 k)).run P w=.ok () w:=by
 simp only[Instr.checkKey,C9,run_underlying hk,E0];rfl
theorem Ez{P:V4}{kt:V3}(hk:P.underlying kt=some (.int .i64))(k:Int)(b:Bool)(w:V1):(Instr.checkKey b 10000 kt (V0 k)).run P w=.ok () w:=run_keyN hk k b 9999 w
variable {P:V4} {w:V1}
theorem Zkv{t kt et:V3}{r:Nat}{ks:V6 Int}(ht:P.underlying t=some (.map kt et))(hk:P.underlying kt=some (.int .i64))(hz:(zeroValue et).run P w=.ok (.bool false) w)(h:Nx w r ks)(k:Int) :
 (Instr.lookup t (.map (some r)) (V0 k) false).run P w=.ok (.bool (decide (k∈ks))) w:=by
 obtain⟨es,a0,h1,h2⟩:=h
 have hf:=Eh (P:=P) hk k h2 w
 by_cases m:k∈ks
 ·rw[V8 m] at hf
  simp[Instr.lookup,run_underlying ht,MapKept.run_getObj_map h1,Ez hk,hf,Result.andThen,m]
 ·rw[V7 m] at hf
  simp[Instr.lookup,run_underlying ht,MapKept.run_getObj_map h1,Ez hk,hf,hz,Result.andThen,m]
theorem Cd{r:Nat}{es:Array MapEntry}{c:Nat}(hb:w.heap[r]? = some (.map es c))(o:Obj):Upd w r (setBlock w r o):=⟨rfl,rfl,rfl,by simp[setBlock],fun k hk=>heap_setBlock_other hb _ hk⟩
theorem Zso{t kt et:V3}{r:Nat}{ks:V6 Int}(ht:P.underlying t=some (.map kt et))(hk:P.underlying kt=some (.int .i64))(h:Nx w r ks){k:Int}(hn:k∉ks) :
 ∃ W,(Instr.mapUpdate t (.map (some r)) (V0 k) (.bool true)).run P w=.ok () W∧Upd w r W∧Nx W r (ks++[k]):=by
 obtain⟨es,a0,h1,h2⟩:=h
 have hf:=Eh (P:=P) hk k h2 w
 rw[V7 hn] at hf
 refine⟨setBlock w r (.map (es.push ⟨V0 k,.bool true,a0⟩) (a0+1)),?_,Cd h1 _,_,_,heap_setBlock_same h1 _,?_⟩
 ·simp[Instr.mapUpdate,run_underlying ht,MapKept.run_getObj_map h1,Ez hk,hf,MapKept.run_setObj_map _ h1,Result.andThen,setBlock]
 ·rw[Array.toList_push,A6,h2];simp[Zcl]
theorem Lo{α β:Type}(f:α→β):∀ (l:V6 α) (i:Nat),(l.eraseIdx i).map f=(l.map f).eraseIdx i
 | [],i=>by simp
 | a::l,0=>by simp
 | a::l,i+1=>by simp[Lo f l i]
theorem Zcg(k:Int)(ks:V6 Int)(h:k∈ks):ks.eraseIdx (ks.idxOf k)=ks.erase k:=(List.erase_eq_eraseIdx_of_idxOf (w:=rfl)).symm
theorem Zpg{t kt et ty:V3}{r:Nat}{ks:V6 Int}(ht:P.underlying t=some (.map kt et))(hk:P.underlying kt=some (.int .i64))(h:Nx w r ks){k:Int}(hm:k∈ks) :
 ∃ W,(Builtin.delete_ #[t,kt] ty #[.map (some r),V0 k]).run P w=.ok (.tuple #[]) W∧Upd w r W∧Nx W r (ks.erase k):=by
 obtain⟨es,a0,h1,h2⟩:=h
 have hf:=Eh (P:=P) hk k h2 w
 rw[V8 hm] at hf
 have hl:es.toList.length=ks.length:=by have:=congrArg List.length h2;simpa [Zcl] using this
 have a1:ks.idxOf k<es.size:=by have:=List.idxOf_lt_length_iff.2 hm;simp at hl;omega
 refine⟨setBlock w r (.map (es.eraseIdxIfInBounds (ks.idxOf k)) a0),?_,Cd h1 _,_,_,heap_setBlock_same h1 _,?_⟩
 ·simp[Builtin.delete_,run_underlying ht,MapKept.run_getObj_map h1,Ez hk,hf,MapKept.run_setObj_map _ h1,Result.andThen,setBlock]
 ·rw[←Zcg k ks hm]
  have e:(es.eraseIdxIfInBounds (ks.idxOf k)).toList=es.toList.eraseIdx (ks.idxOf k):=by
   unfold Array.eraseIdxIfInBounds;rw[dif_pos a1];simp
  rw[e,Lo,h2]
  unfold Zcl
  rw[Lo]
theorem Zra{t kt et ty:V3}{r:Nat}{ks:V6 Int}(ht:P.underlying t=some (.map kt et))(h:Nx w r ks):(Builtin.len_ #[t] ty #[.map (some r)]).run P w=.ok (V0 (ks.length:Int)) w:=by
 obtain⟨es,a0,h1,h2⟩:=h;have hl:es.size=ks.length:=by have:=congrArg List.length h2;simpa [Zcl] using this
 simp[Builtin.len_,run_underlying ht,MapKept.run_getObj_map h1,Result.andThen,goInt,hl]
inductive Zm
 | mm (t:V3)
 | lk (t:V3) (m k:V2)
 | mu (t:V3) (m k v:V2)
 | b1 (b:Builtin) (t:V3) (u:V2)
 | b2 (b:Builtin) (t t2:V3) (u v:V2)
noncomputable def zmf (n:Nat) (kv:V6 (Nat×V2)) (o:Oper):Option Zm:=match o.op with
 | .makeMap t none=>some (.mm t)
 | .lookup t x y false=>some (.lk t (zev n kv x) (zev n kv y))
 | .mapUpdate t x y z=>some (.mu t (zev n kv x) (zev n kv y) (zev n kv z))
 | .call c=>match c.callee with
  | .builtin b=>match c.args.toList,c.argTypes.toList with
   | [x],[t]=>some (.b1 b t (zev n kv x))
   | [x,y],[t,t2]=>some (.b2 b t t2 (zev n kv x) (zev n kv y))
   | _,_=>none
  | _=>none
 | _=>none
noncomputable def zm (s:Zs):Option Zm:=match zop s with
 | some o=>zmf s.n s.kv o
 | none=>none
def ZmOk(a:Act)(o:Oper):Zm→Prop
 | .mm t=>o.op=.makeMap t none
 | .lk t m k=>∃ x y,o.op=.lookup t x y false∧a.eval x=m∧a.eval y=k
 | .mu t m k v=>∃ x y z,o.op=.mapUpdate t x y z∧a.eval x=m∧a.eval y=k∧a.eval z=v
 | .b1 b t u=>∃ x,o.op=.call { callee:=.builtin b,args:=#[x],argTypes:=#[t] }∧a.eval x=u
 | .b2 b t t2 u v=>∃ x y,o.op=.call { callee:=.builtin b,args:=#[x,y],argTypes:=#[t,t2] }∧a.eval x=u∧a.eval y=v
theorem Zht{n:Nat}{kv:V6 (Nat×V2)}{o:Oper}{k:Zm}(h:zmf n kv o=some k):ZmOk (zact n kv) o k:=by
 unfold zmf at h;split at h
 ·rename_i a1;cases h;exact a1
 ·rename_i a1;cases h;exact⟨_,_,a1,by rw[Zu],by rw[Zu]⟩
 ·rename_i a1;cases h;exact⟨_,_,_,a1,by rw[Zu],by rw[Zu],by rw[Zu]⟩
 ·rename_i c a1;split at h
  ·rename_i b hb;obtain⟨a2,a0,ts⟩:=c;dsimp only at hb h;subst hb;split at h
   ·rename_i x t h1 h2;cases h;have e1:a0=#[x]:=(by rw[←I7 (xs:=a0),h1]);have e2:ts=#[t]:=(by rw[←I7 (xs:=ts),h2]);subst e1 e2;exact⟨x,a1,by rw[Zu]⟩
   ·rename_i x y t t2 h1 h2;cases h;have e1:a0=#[x,y]:=(by rw[←I7 (xs:=a0),h1]);have e2:ts=#[t,t2]:=(by rw[←I7 (xs:=ts),h2]);subst e1 e2;exact⟨x,y,a1,by rw[Zu],by rw[Zu]⟩
   ·cases h
  ·cases h
 ·cases h
section
variable {P:V4} {fn:Func} {R:V5→V1→Prop} {w:V1} {s:Zs}
theorem xmm(q:Zq)(t:V3)(k:∀ r W,NewM w r W→Go P fn R (znx (zq P q s) (.map (some r))) W)(h:zm (zq P q s)=some (.mm t):=by kernel_rfl)(hz:Uh (zq P q s)=true:=by kernel_rfl):Go P fn R s w:=by
 obtain⟨o,ho,h⟩:=Qq h;have a0:o.op=.makeMap t none:=Zht h;exact Zw q s (zgo ho (Ve hz) fun K hK=>Uw (v:=.map (some w.heap.size)) (w':=w.alloc (.map #[] 0)) (by simp[execOp,a0,Instr.makeMap,newObj,Sem.run,Result.andThen]) (hK _ _ (Vm hz) (k _ _ (NewM.i0 w))))
theorem xlk(q:Zq){t kt et:V3}{r:Nat}{ks:V6 Int}{k:Int}(ht:P.underlying t=some (.map kt et))(hk:P.underlying kt=some (.int .i64))(hz0:∀ V,(zeroValue et).run P V=.ok (.bool false) V)(hM:Nx w r ks)(g:Go P fn R (znx (zq P q s) (.bool (decide (k∈ks)))) w)
 (h:zm (zq P q s)=some (.lk t (.map (some r)) (V0 k)):=by kernel_rfl) (hz:Dq (zq P q s)=true:=by kernel_rfl):Go P fn R s w:=by
 obtain⟨o,ho,h⟩:=Qq h
 obtain⟨x,y,h1,h2,h3⟩:=Zht h
 exact Zw q s (Zf2 ho (fun V hV=>by
  have hr:=Zkv (P:=P) ht hk (hz0 V) (hM.i (Gk hz hV)) k;simp[execOp,h1,h2,h3,hr,Result.andThen]) g)
theorem xml(q:Zq){t kt et:V3}{r:Nat}{ks:V6 Int}(ht:P.underlying t=some (.map kt et))(hM:Nx w r ks)(g:Go P fn R (znx (zq P q s) (V0 (ks.length:Int))) w)
 (h:zm (zq P q s)=some (.b1 .len t (.map (some r))):=by kernel_rfl) (hz:Dq (zq P q s)=true:=by kernel_rfl):Go P fn R s w:=by
 obtain⟨o,ho,h⟩:=Qq h
 obtain⟨x,h1,h2⟩:=Zht h
 exact Zw q s (Zf2 ho (fun V hV=>by
  have hr:=Zra (P:=P) (ty:=o.type) ht (hM.i (Gk hz hV));simp[execOp,h1,resolve,invoke,builtin,h2,hr,Result.andThen]) g)
theorem Zv7{a:Act}{o:Oper}{K:Act→V1→Prop}{Q:Exit→Act→V1→Prop}{w':V1}(hv:(execOp a.eval o).run P w=.ok .skip w')(k:K (a.put o.dst undef) w'):o.wp P a w K Q:=by
 simp only[Oper.wp,hv,Oper.upon];exact k
theorem xmu(q:Zq){t kt et:V3}{r:Nat}{ks:V6 Int}{k:Int}(ht:P.underlying t=some (.map kt et))(hk:P.underlying kt=some (.int .i64))(hM:Nx w r ks)(hn:k∉ks)(g:∀ W,Upd w r W→Nx W r (ks++[k])→Go P fn R (znx (zq P q s) undef) W)
 (h:zm (zq P q s)=some (.mu t (.map (some r)) (V0 k) (.bool true)):=by kernel_rfl) (hz:Uh (zq P q s)=true:=by kernel_rfl):Go P fn R s w:=by
 obtain⟨o,ho,h⟩:=Qq h
 obtain⟨x,y,z,h1,h2,h3,h4⟩:=Zht h
 obtain⟨W,hr,hu,hm⟩:=Zso (P:=P) ht hk hM hn
 exact Zw q s (zgo ho (Ve hz) fun K hK=>Zv7 (w':=W) (by simp[execOp,h1,h2,h3,h4,hr,Result.andThen]) (hK _ _ (Vm hz) (g W hu hm)))
theorem xmd(q:Zq){t kt et:V3}{r:Nat}{ks:V6 Int}{k:Int}(ht:P.underlying t=some (.map kt et))(hk:P.underlying kt=some (.int .i64))(hM:Nx w r ks)(hn:k∈ks)(g:∀ W,Upd w r W→Nx W r (ks.erase k)→Go P fn R (znx (zq P q s) (.tuple #[])) W)
 (h:zm (zq P q s)=some (.b2 .delete t kt (.map (some r)) (V0 k)):=by kernel_rfl) (hz:Uh (zq P q s)=true:=by kernel_rfl):Go P fn R s w:=by
 obtain⟨o,ho,h⟩:=Qq h
 obtain⟨x,y,h1,h2,h3⟩:=Zht h
 obtain⟨W,hr,hu,hm⟩:=Zpg (P:=P) (ty:=o.type) ht hk hM hn
 exact Zw q s (zgo ho (Ve hz) fun K hK=>Uw (v:=.tuple #[]) (w':=W) (by simp[execOp,h1,resolve,invoke,builtin,h2,h3,hr,Result.andThen]) (hK _ _ (Vm hz) (g W hu hm)))
end
end
end
section
open Go.RowKit Go.Extern.Stop Go.Stop Go.Extern
section
attribute [local irreducible] wpList wpAnyH Code.wp Oper.wp Go
theorem Zme{w:V1}{g o j:Nat}{v:V2}(h:w.cell? (Zx (some ⟨g,o,none⟩) j)=some v):w.cell? ⟨g,o+j,none⟩=some v:=by simpa [Zx,Addr.add_mid] using h
theorem Zdn{F:V6 Int}{m:Nat}(h:m=F.length):(m:Int)∉Gf F:=fun q=>by
 have:=(Zeb.1 q).2;rw[show F.getD ((m:Int)).toNat 0=0 from by simp[getD,h]] at this;omega
theorem Wm{l:V6 Int}{k:Nat}(h:k<l.length):l.take (k+1)=l.take k++[l.getD k 0]:=by rw[B5 h];simp[getD,h]
theorem Zeg{A l:V6 Int}{k m:Nat}(h:k<l.length)(h3:l.getD k 0=3)(hm:m=A.length+k):Gf (A++l.take k)++[(m:Int)]=Gf (A++l.take (k+1)):=by
 rw[Wm h,←A4,Ol,V8 h3,hm,A1,D8,I4 M0]
theorem Zdy{A l:V6 Int}{k:Nat}(h:k<l.length)(h3:l.getD k 0≠3):Gf (A++l.take k)=Gf (A++l.take (k+1)):=by
 rw[Wm h,←A4,Ol,V7 h3,F4]
theorem Zho{L:V6 (V6 Int)}{i k:Nat}(hi:i<L.length)(hk:(L.getD i []).length≤k):Uf L i++(L.getD i []).take k=Uf L (i+1):=by rw[Zdl hi,B9 hk]
theorem flat_all(L:V6 (V6 Int)):Uf L L.length=L.flatten:=by unfold Uf;rw[B9 (At _)]
theorem Zsd(B2:Nat)(pl:O0)(cl:Nat)(gs:V6 (Nat×Nat))(L:V6 (V6 Int))(w:V1)(hL:Lists w B2 (.slice pl L.length cl) gs L)(hF:FormOk L)(hl:L.length≤1200000000) :
 C0 201 #[.slice pl L.length cl] w (Kd (fun w' r=>∃ p c rm,r=.tuple #[.slice p L.flatten.length c,.map (some rm),.bool true]∧w'.ownsRow w.heap.size 3 1 (.slice p L.flatten.length c) L.flatten.length (L.flatten.map V0)∧Nx w' rm (Gf L.flatten)∧w.heap.size≤rm) w):=by
 refine zin 67 Tryz.func201 ?_
 refine xmm 14 301 fun r1 W1 m1=>?_
 refine zl 12 67 (fun zm b3 V=>∃ (i m:Nat) (p:O0) (c:Nat),b3=[(0,.slice pl L.length cl),(5,.slice p m c),(6,.map (some r1)),(13,.slice pl L.length cl),(14,V0 (L.length:Int)),(15,V0 (i:Int))]∧zm=L.length-((i:Int)).toNat∧B3 w V∧V.ownsRow w.heap.size 3 1 (.slice p m c) m ((Uf L i).map V0)∧Nx V r1 (Gf (Uf L i))∧i≤L.length∧m=(Uf L i).length) ⟨0,0,none,0,rfl,rfl,m1.i,A8 _ _ _ _,m1.map,A5 _,rfl⟩ ?_
 rintro _ _ W2 ⟨i,m,p,c,rfl,rfl,a3,ho,hm,hi,e9⟩ J2 f5 r2
 have c9:=fun(q:i<L.length)=>hF.len i q
 have h6:=fun(q:i≤L.length)=>Zgy hF i q
 refine xid 6 ((i:Int)<(L.length:Int)) (fun g8=>?_) (fun g8=>?_)
 ·refine xx 7 _ L.length i 1 (Lists.elem hL rfl (k:=i) M0).1 ?_
  refine xl 0 ((Lists.elem (hL.i a3) rfl (k:=i) M0).2) ?_
  refine xwm 9 ((L.length:Int)-1) (↑(L.length-1):Int) ?_
  refine xgk 11 [27,28] (show(decide ((↑((L.getD i []).length):Int)>(960:Int)):Bool)=false from V9 (by have:=(c9 M0).2.1;omega)) ?_
  refine xgk 5 [31,32,33] (show(((↑((L.getD i []).length):Int)==(0:Int)):Bool)=false from beq_false_of_ne (by have:=(c9 M0).1;omega)) ?_
  refine xg 3 [35,36] (!((i:Int)==(↑(L.length-1):Int))) (fun f2=>?_) (fun f2=>?_)
  ·have a7:i+1<L.length:=by simp at f2;omega
   refine xk 7 (show(decide ((↑((L.getD i []).length):Int)<(960:Int)):Bool)=false from V9 (by have:=(c9 M0).2.2 a7;omega)) ?_
   refine zl 10 67 (fun zm b3 V=>∃ (k m2:Nat) (p2:O0) (c2:Nat),b3=[(0,.slice pl L.length cl),(5,.slice p2 m2 c2),(6,.map (some r1)),(13,.slice pl L.length cl),(14,V0 (L.length:Int)),(15,V0 (i:Int)),(42,.slice (some ⟨(gs.getD i (0,0)).1,0,none⟩) ((L.getD i []).length) ((gs.getD i (0,0)).2)),(43,V0 (↑((L.getD i []).length):Int)),(44,V0 (k:Int))]∧zm=(L.getD i []).length-((k:Int)).toNat∧B3 w V∧V.ownsRow w.heap.size 3 1 (.slice p2 m2 c2) m2 ((Uf L i++(L.getD i []).take k).map V0)∧Nx V r1 (Gf (Uf L i++(L.getD i []).take k))∧k≤(L.getD i []).length∧m2=(Uf L i).length+k) ⟨0,m,_,_,rfl,rfl,a3,(by rw[O2,F4];exact ho),(by rw[O2,F4];exact hm),A5 _,M0⟩ ?_
   rintro _ _ W7 ⟨k,m2,p2,c2,rfl,rfl,a5,a6,a4,hk,h1⟩ J7 f1 r7
   have b9:=fun(q:k<(L.getD i []).length)=>Gn (hF.h9 i M0) k
   refine xid 6 ((k:Int)<(↑((L.getD i []).length):Int)) (fun g2=>?_) (fun g2=>?_)
   ·refine xxb 6 (gs.getD i (0,0)).1 0 ((L.getD i []).length) k 1 ?_
    refine xl 0 (Zme (IntsN.elem (Zf (Lists.each (hL.i a5) i M0)) rfl (k:=k) M0).2) ?_
    refine xgk 9 [49,50] (show(decide (((L.getD i []).getD k 0)<(0:Int)):Bool)=false from V9 (by have:=(b9 M0).1;omega)) ?_
    refine xk 5 (show(decide (((L.getD i []).getD k 0)>(3:Int)):Bool)=false from V9 (by have:=(b9 M0).2;omega)) ?_
    refine xie 9 ((L.getD i []).getD k 0) (3:Int) (fun d0=>?_) (fun d0=>?_)
    ·refine xmu 4 (k:=(m2:Int)) Tryz.underlying301 Tryz.underlying3 a4 (Zdn (by rw[A1,D8];omega)) fun h8 f3 e8=>?_
     rw[Zeg (A:=Uf L i) (l:=(L.getD i [])) (k:=k) (m:=m2) M0 M0 M0] at e8
     have g1:=m1.ge (B4 w)
     refine xbs 5 1 [V0 ((L.getD i []).getD k 0)] 3 fun h7 j0 c5=>?_
     have d9:=f3.i a5 g1
     have e0:=Zkw a6 a4 f3
     have b1:=Zb e0 c5.i
     have b2:=bln d9 c5.i
     refine xbi 0 fun _ _ _ _ zJ zQ zo zx zy zK=>Xd (m:=1) (news:=[V0 ((L.getD i []).getD k 0)]) (V0 0) 1 8 (m2+1) (((Uf L i++(L.getD i []).take (k+1)).map V0)) zo Tryz.underlying27 K0 rfl Do zx b1 zy (c5.blk.sl 1 1 Do Do) rfl Y4 Y2 M0 b2.size M0 (by rw[Wm (l:=(L.getD i [])) (k:=k) M0];simp) fun g3 f9 i8 g5 e1 d4=>?_
     refine zK _ _ ?_
     refine xwm 5 ((k:Int)+1) (↑(k+1):Int) ?_
     have e4:=b2.trans d4
     have b0:=(e8.i c5.i).grown e1 b1
     exact ze 2 (f1 _ _ _ ⟨k+1,_,_,_,rfl,rfl,e4,g5,b0,M0,M0⟩ M0)
    refine xbs 5 1 [V0 ((L.getD i []).getD k 0)] 3 fun h4 i4 c6=>?_
    have b5:=Zb a6 c6.i
    have b7:=bln a5 c6.i
    refine xbi 0 fun _ _ _ _ zJ zQ zo zx zy zK=>Xd (m:=1) (news:=[V0 ((L.getD i []).getD k 0)]) (V0 0) 1 8 (m2+1) (((Uf L i++(L.getD i []).take (k+1)).map V0)) zo Tryz.underlying27 K0 rfl Do zx b5 zy (c6.blk.sl 1 1 Do Do) rfl Y4 Y2 M0 b7.size M0 (by rw[Wm (l:=(L.getD i [])) (k:=k) M0];simp) fun h0 g6 i0 g9 c7 e6=>?_
    refine zK _ _ ?_
    refine xwm 5 ((k:Int)+1) (↑(k+1):Int) ?_
    have d1:=(a4.i c6.i).grown c7 b5
    have e3:=b7.trans e6
    exact ze 2 (f1 _ _ _ ⟨k+1,_,_,_,rfl,rfl,e3,g9,(by rw[←Zdy (A:=Uf L i) (l:=(L.getD i [])) (k:=k) M0 M0];exact d1),M0,M0⟩ M0)
   refine xwm 7 ((i:Int)+1) (↑(i+1):Int) ?_
   have hE:=Zho (L:=L) (i:=i) (k:=k) M0 M0
   exact ze 2 (f5 _ _ _ ⟨i+1,_,_,_,rfl,rfl,a5,(by rw[←hE];exact a6),(by rw[←hE];exact a4),M0,by rw[←hE,A1,D8];omega⟩ M0)
  refine zl 18 67 (fun zm b3 V=>∃ (k m2:Nat) (p2:O0) (c2:Nat),b3=[(0,.slice pl L.length cl),(5,.slice p2 m2 c2),(6,.map (some r1)),(13,.slice pl L.length cl),(14,V0 (L.length:Int)),(15,V0 (i:Int)),(42,.slice (some ⟨(gs.getD i (0,0)).1,0,none⟩) ((L.getD i []).length) ((gs.getD i (0,0)).2)),(43,V0 (↑((L.getD i []).length):Int)),(44,V0 (k:Int))]∧zm=(L.getD i []).length-((k:Int)).toNat∧B3 w V∧V.ownsRow w.heap.size 3 1 (.slice p2 m2 c2) m2 ((Uf L i++(L.getD i []).take k).map V0)∧Nx V r1 (Gf (Uf L i++(L.getD i []).take k))∧k≤(L.getD i []).length∧m2=(Uf L i).length+k) ⟨0,m,_,_,rfl,rfl,a3,(by rw[O2,F4];exact ho),(by rw[O2,F4];exact hm),A5 _,M0⟩ ?_
  rintro _ _ i5 ⟨k,m2,p2,c2,rfl,rfl,a0,a2,a1,hk,h1⟩ i6 b6 i3
  have b9:=fun(q:k<(L.getD i []).length)=>Gn (hF.h9 i M0) k
  refine xid 6 ((k:Int)<(↑((L.getD i []).length):Int)) (fun d7=>?_) (fun d7=>?_)
  ·refine xxb 6 (gs.getD i (0,0)).1 0 ((L.getD i []).length) k 1 ?_
   refine xl 0 (Zme (IntsN.elem (Zf (Lists.each (hL.i a0) i M0)) rfl (k:=k) M0).2) ?_
   refine xgk 9 [49,50] (show(decide (((L.getD i []).getD k 0)<(0:Int)):Bool)=false from V9 (by have:=(b9 M0).1;omega)) ?_
   refine xk 5 (show(decide (((L.getD i []).getD k 0)>(3:Int)):Bool)=false from V9 (by have:=(b9 M0).2;omega)) ?_
   refine xie 9 ((L.getD i []).getD k 0) (3:Int) (fun d8=>?_) (fun d8=>?_)
   ·refine xmu 4 (k:=(m2:Int)) Tryz.underlying301 Tryz.underlying3 a1 (Zdn (by rw[A1,D8];omega)) fun i1 f0 f4=>?_
    rw[Zeg (A:=Uf L i) (l:=(L.getD i [])) (k:=k) (m:=m2) M0 M0 M0] at f4
    have g1:=m1.ge (B4 w)
    refine xbs 5 1 [V0 ((L.getD i []).getD k 0)] 3 fun i2 h9 c3=>?_
    have e2:=f0.i a0 g1
    have e7:=Zkw a2 a1 f0
    have b4:=Zb e7 c3.i
    have c1:=bln e2 c3.i
    refine xbi 0 fun _ _ _ _ zJ zQ zo zx zy zK=>Xd (m:=1) (news:=[V0 ((L.getD i []).getD k 0)]) (V0 0) 1 8 (m2+1) (((Uf L i++(L.getD i []).take (k+1)).map V0)) zo Tryz.underlying27 K0 rfl Do zx b4 zy (c3.blk.sl 1 1 Do Do) rfl Y4 Y2 M0 c1.size M0 (by rw[Wm (l:=(L.getD i [])) (k:=k) M0];simp) fun f8 f7 i7 f6 d6 c8=>?_
    refine zK _ _ ?_
    refine xwm 5 ((k:Int)+1) (↑(k+1):Int) ?_
    have e5:=c1.trans c8
    have c0:=(f4.i c3.i).grown d6 b4
    exact ze 2 (b6 _ _ _ ⟨k+1,_,_,_,rfl,rfl,e5,f6,c0,M0,M0⟩ M0)
   refine xbs 5 1 [V0 ((L.getD i []).getD k 0)] 3 fun h3 i9 c4=>?_
   have b8:=Zb a2 c4.i
   have a9:=bln a0 c4.i
   refine xbi 0 fun _ _ _ _ zJ zQ zo zx zy zK=>Xd (m:=1) (news:=[V0 ((L.getD i []).getD k 0)]) (V0 0) 1 8 (m2+1) (((Uf L i++(L.getD i []).take (k+1)).map V0)) zo Tryz.underlying27 K0 rfl Do zx b8 zy (c4.blk.sl 1 1 Do Do) rfl Y4 Y2 M0 a9.size M0 (by rw[Wm (l:=(L.getD i [])) (k:=k) M0];simp) fun g0 h2 h5 g7 d3 d5=>?_
   refine zK _ _ ?_
   refine xwm 5 ((k:Int)+1) (↑(k+1):Int) ?_
   have d2:=(a1.i c4.i).grown d3 b8
   have a8:=a9.trans d5
   exact ze 2 (b6 _ _ _ ⟨k+1,_,_,_,rfl,rfl,a8,g7,(by rw[←Zdy (A:=Uf L i) (l:=(L.getD i [])) (k:=k) M0 M0];exact d2),M0,M0⟩ M0)
  refine xwm 7 ((i:Int)+1) (↑(i+1):Int) ?_
  have hE:=Zho (L:=L) (i:=i) (k:=k) M0 M0
  exact ze 2 (f5 _ _ _ ⟨i+1,_,_,_,rfl,rfl,a0,(by rw[←hE];exact a2),(by rw[←hE];exact a1),M0,by rw[←hE,A1,D8];omega⟩ M0)
 have g1:=m1.ge (B4 w)
 refine xe 15 (.tuple #[.slice p m c,.map (some r1),.bool true]) ?_
 obtain rfl:i=L.length:=M0
 rw[flat_all] at ho hm e9
 subst e9
 exact⟨_,rfl,a3,_,_,_,rfl,ho,hm,g1⟩
theorem Ai(E:V6 Ent)(i:Nat)(w:V1)(hs:(E.getD i Zn).2.1.length≤1000):C0 202 #[.string ⟨(E.getD i Zn).2.1.toArray⟩] w (Ret (.tuple #[V0 (jVal E i),V0 (Xn Ak (E.getD i Zn).2.1)]) w):=Ir _ w hs
theorem Zwa{F:V6 Int}{E:V6 Ent}{i kk:Nat}(h:jOk F E (i+1))(hk:Gc E i=(kk:Int)):((Zgs F E i).map V0).set kk (V0 (jVal E i))=(Zgs F E (i+1)).map V0:=by
 have e:=outL_set h;rwa [hk,G6] at e
theorem Zrh{F:V6 Int}{E:V6 Ent}{i kk:Nat}(hk:Gc E i=(kk:Int)):(Mj F E i).erase ((kk:Nat):Int)=Mj F E (i+1):=by rw[←hk];exact Zzf F E i
theorem Zro(E:V6 Ent)(i:Nat):Nj E (i+1)=Gc E i:=by unfold Nj;rw[V7 M0,N1]
def JoinP(F:V6 Int)(E:V6 Ent)(w:V1)(e:V5)(w':V1):Prop :=
 ∃ p c,e=.returned (.tuple #[.slice p (Pn F E).2.length c,V0 (Pn F E).1])∧B3 w w'∧w'.ownsRow w.heap.size 3 1 (.slice p (Pn F E).2.length c) (Pn F E).2.length ((Pn F E).2.map V0)
theorem Fz{F:V6 Int}{E:V6 Ent}{w W:V1}{z:Int}(h:Pn F E=(z,[]))(hb:B3 w W):JoinP F E w (.returned (.tuple #[S1,V0 z])) W:=⟨none,0,by rw[h];rfl,hb,by rw[h];exact A8 _ _ _ _⟩
theorem jBad_8{F:V6 Int}{E:V6 Ent}{i:Nat}(h:Gc E i≤Nj E i):Zjm F E i=8:=V8 h
theorem jBad_13{F:V6 Int}{E:V6 Ent}{i:Nat}(h:Nj E i<Gc E i)(h3:F.getD (Gc E i).toNat 0≠3):Zjm F E i=13:=by unfold Zjm;rw[V7 M0,V8 h3]
theorem jBad_r{F:V6 Int}{E:V6 Ent}{i:Nat}(h:Nj E i<Gc E i)(h3:F.getD (Gc E i).toNat 0=3):Zjm F E i=Xn Ak (E.getD i Zn).2.1:=by unfold Zjm;rw[V7 M0,V7 (fun q=>q h3)]
theorem Zqn(B2:Nat)(pl:O0)(cl:Nat)(gs:V6 (Nat×Nat))(L:V6 (V6 Int))(a:O0)(ce:Nat)(E:V6 Ent)(w:V1)(hL:Lists w B2 (.slice pl L.length cl) gs L)(hF:FormOk L)(hl:L.length≤1200000000)(hE:Sts Ki w (.slice a E.length ce) E)(hv:∀ i,i<E.length→(E.getD i Zn).2.1.length≤1000) :
 C0 130 #[.slice pl L.length cl,.slice a E.length ce] w (JoinP L.flatten E w):=by
 have e3:=Sl.len hE
 refine zin 61 Tryz.func130 ?_
 refine xc 9 (Zsd B2 pl cl gs L _ (hL.i (B4 w)) hF hl) ?_
 rintro _ W1 ⟨_,rfl,d1,p,c,rm,rfl,e0,d7,d4⟩
 have e1:=At w.heap.size
 refine xv1 33 9 (show(V0 (-1):V2)=V0 (Nj E 0) from rfl) ?_
 have a6:=Zg e0 e1
 refine zl 0 61 (fun zm d0 V=>∃ (i:Nat),d0=[(6,.slice p L.flatten.length c),(7,.map (some rm)),(9,V0 (Nj E i)),(22,.slice a E.length ce),(23,V0 (E.length:Int)),(24,V0 (i:Int))]∧zm=E.length-((i:Int)).toNat∧B3 w V∧V.ownsRow w.heap.size 3 1 (.slice p L.flatten.length c) L.flatten.length ((Zgs L.flatten E i).map V0)∧Nx V rm (Mj L.flatten E i)∧i≤E.length∧jOk L.flatten E i) ⟨0,rfl,rfl,d1,(by rw[Zvg];exact a6),(by rw[Zq6];exact d7),A5 _,(fun j hj=>absurd hj M0)⟩ ?_
 rintro _ _ W2 ⟨i,rfl,rfl,a0,ho,hm,hi,a2⟩ J2 d9 r2
 have d5:=Rk a2
 refine xid 6 ((i:Int)<(E.length:Int)) (fun d2=>?_) (fun d2=>?_)
 ·refine xx 6 _ E.length i 3 (Sts.cell hE Qg Zn (k:=i) (i:=0) M0 rfl).1 ?_
  refine xlv 0 (Sts.rp (k:=i) (hE.i a0) Qg Zn M0 Do) ?_
  refine xa 0 [V0 0,.string ⟨#[]⟩,V0 0] 124 fun b4 W4 n4=>?_
  have g4:=n4.ge a0
  refine xsv 0 n4.blk [V0 (Gc E i),.string ⟨((E.getD i Zn).2.1).toArray⟩,V0 ((E.getD i Zn).2.2)] fun W5 u5 k5=>?_
  refine xb 6 0 k5 ?_
  refine xid 4 ((Gc E i)≤(Nj E i)) (fun d8=>?_) (fun d8=>?_)
  ·have b7:=u5.i (bln a0 n4.i) g4
   exact xe 13 (.tuple #[S1,V0 8]) (Fz ((Iu M0 a2 (by rw[jBad_8 M0];decide)).trans (by rw[jBad_8 M0])) b7)
  have b1:Nj E i<Gc E i:=M0
  refine xb 7 0 k5 ?_
  have b0:=(hm.i n4.i).c6 u5 n4.blk
  refine xlk 0 (k:=(Gc E i)) Tryz.underlying301 Tryz.underlying3 (fun V=>by kernel_rfl) b0 ?_
  refine xi 3 (!(decide ((Gc E i)∈(Mj L.flatten E i)))) (fun b2=>?_) (fun b2=>?_)
  ·have d3:¬ (Gc E i∈Mj L.flatten E i):=by simpa using b2
   have b3:=u5.i (bln a0 n4.i) g4
   refine xe 13 (.tuple #[S1,V0 13]) ?_
   have c6:=jBad_13 (F:=L.flatten) b1 (fun q=>d3 ((Zmz a2 b1).2 q))
   exact Fz ((Iu M0 a2 (by rw[c6];decide)).trans (by rw[c6])) b3
  have c7:Gc E i∈Mj L.flatten E i:=by simpa using b2
  have h3:=(Zmz a2 b1).1 c7
  have c1:=jBad_r (F:=L.flatten) b1 h3
  refine xb 5 1 k5 ?_
  refine xr 0 (Ai E i _ (hv i M0)) fun W8 a9=>?_
  refine xin 14 (Xn Ak (E.getD i Zn).2.1) (0:Int) (fun d6=>?_) (fun d6=>?_)
  ·have c3:=bln (u5.i (bln a0 n4.i) g4) a9
   exact xe 14 (.tuple #[S1,V0 (Xn Ak (E.getD i Zn).2.1)]) (Fz ((Iu M0 a2 (by rw[c1];omega)).trans (by rw[c1])) c3)
  have a5:jOk L.flatten E (i+1):=jOk_next a2 (by rw[c1];omega)
  obtain⟨kk,a4⟩:∃ kk:Nat,Gc E i=(kk:Int):=⟨(Gc E i).toNat,by have:=d5.1;omega⟩
  have c9:=Zxy h3
  rw[a4,G6] at c9
  have a1:=Zb (u5.j (Zb ho n4.i) n4.blk Do) a9
  obtain⟨gq,rfl,_⟩:=Nr a1 M0
  have c0:=k5.i a9
  have kq:Blk W8 b4 [V0 (kk:Int),.string ⟨((E.getD i Zn).2.1).toArray⟩,V0 ((E.getD i Zn).2.2)] 124:=by rw[←a4];exact c0
  refine xb 6 0 kq ?_
  refine xx 1 _ L.flatten.length kk 1 (Fl a1 M0).1 ?_
  refine xst 0 fun _ _ _ _ zJ zQ zo zx zy zK=>Vx (t:=3) (k:=kk) (v:=V0 (jVal E i)) zo zx zy K0 rfl a1 M0 fun e4 b5 c8=>?_
  rw[Zwa (F:=L.flatten) a5 a4] at c8
  refine zK _ _ ?_
  have a8:=b5.blk kq (Yc kq a1 Do)
  refine xb 6 0 a8 ?_
  have a3:=(b0.i a9).e3 b5 a1
  refine xmd 0 (k:=(kk:Int)) Tryz.underlying301 Tryz.underlying3 a3 (a4▸c7) fun e2 b6 c5=>?_
  rw[Zrh (F:=L.flatten) a4] at c5
  have b8:=blk_map a8 a3 b6
  refine xb 4 0 b8 ?_
  refine xwm 5 ((i:Int)+1) (↑(i+1):Int) ?_
  refine xv1 2 9 (show(V0 (kk:Int):V2)=V0 (Nj E (i+1)) from by rw[Zro,a4]) ?_
  have c2:=b6.i (b5.i (bln (u5.i (bln a0 n4.i) g4) a9) (Ux a1)) d4
  have a7:=Zkw c8 a3 b6
  exact ze 0 (d9 _ _ _ ⟨i+1,rfl,rfl,c2,a7,c5,M0,a5⟩ M0)
 refine xml 9 Tryz.underlying301 hm ?_
 refine xid 3 ((↑(Mj L.flatten E i).length:Int)>(0:Int)) (fun b9=>?_) (fun b9=>?_)
 ·refine xe 8 (.tuple #[S1,V0 13]) ?_
  obtain rfl:i=E.length:=M0
  exact Fz ((Oa a2).trans (V7 (fun q=>by have h0:=congrArg List.length q;rw[E4] at h0;omega))) a0
 refine xe 10 (.tuple #[.slice p L.flatten.length c,V0 0]) ?_
 obtain rfl:i=E.length:=M0
 have c4:Mj L.flatten E E.length=[]:=H1 M0
 have hj:=(Oa a2).trans (V8 c4)
 exact⟨p,c,by rw[hj,Hp],a0,by rw[hj,Hp];exact ho⟩
theorem He(l:Bl)(root tree am:Int):∀ i,i<(Ze l root tree am).es.length→((Ze l root tree am).es.getD i Zn).2.1.length≤1000:=fun i hi=>by
 have hx:(Ze l root tree am).es.getD i Zn∈(Ze l root tree am).es:=by rw[show(Ze l root tree am).es.getD i Zn=(Ze l root tree am).es[i] from by simp[getD,hi]];exact F3 hi
 obtain⟨_,_,k,_,_,h,_⟩:=(scan_law l root tree am).2.2.1 _ hx;rw[←h];exact En _ _ _
theorem Gv(Bi b:Nat)(pi:O0)(ni ci:Nat)(l:Bl)(root tree am:Int)(w:V1)(hfu:am≤1000000)(hI:ImgR Bi b pi ni ci l w) :
 C0 63 #[P0 b,V0 root,V0 tree,V0 am] w (fun e w' =>
 ((Ze l root tree am).fs≠[]∧∃ pe ce pb cb pf cf ty x,e=.returned (.tuple #[.agg #[.slice pe 0 ce,.slice pb 0 cb,V0 0,V0 0,.slice pf 0 cf],.iface ty x])∧B3 w w'∧Kx w' ((Kg (Ze l root tree am)).1.map some) (some (Kg (Ze l root tree am)).2) (.iface ty x)) ∨
 ((Ze l root tree am).fs=[]∧∃ pe ce pb nb cb dp lk pf cf,e=.returned (.tuple #[.agg #[.slice pe (Ze l root tree am).es.length ce,.slice pb nb cb,V0 dp,V0 lk,.slice pf 0 cf],.nilIface])∧B3 w w'∧w'.ownsRow w.heap.size 124 3 (.slice pe (Ze l root tree am).es.length ce) (Ze l root tree am).es.length ((Ze l root tree am).es.flatMap Ki))):=by
 refine(Zlr Bi b pi ni ci l root tree am w hfu hI).mono ?_
 rintro e W ⟨t,pe,pb,pf,ce,cb,cf,fv,v,ht,rfl,hb,hW,hv⟩
 by_cases h:(Ze l root tree am).fs=[]
 ·obtain⟨h1,_,h3,h4⟩:=Zos h
  rw[h1] at ht
  rw[h3,h4] at hv
  subst ht
  have a0:v=.nilIface:=hv
  subst a0
  refine .inr ⟨h,pe,ce,pb,(Ze l root tree am).bs.length,cb,(Ze l root tree am).deep,((Ze l root tree am).looked:Int),pf,cf,?_,hb,hW.c1⟩
  unfold walkC
  rw[h];rfl
 ·obtain⟨h1,h2,h3,h4⟩:=Rl h
  rw[h1] at ht
  rw[h3,h4,←h2] at hv
  subst ht
  rcases hv.a5 with ⟨hz,_⟩|⟨_,ty,x,rfl⟩
  ·simp[Fp] at hz
  ·exact .inl ⟨h,pe,ce,pb,cb,pf,cf,ty,x,rfl,hb,hv⟩
theorem Qm(no er:Int)(bl:V6 Int)(v:V2)(w:V1)(hv:Kx w (bl.map some) (some er) v) :
 C0 65 #[V0 no,v] w (fun e w'=>∃ ty x,e=.returned (.iface ty x)∧B3 w w'∧Kx w' ((no::bl).map some) (some er) (.iface ty x)):=by
 refine(Vw no (some er) (bl.map some) v w hv).mono ?_
 rintro e W ⟨r,rfl,hb,hr⟩
 rw[show atL no (bl.map some) (some er)=(no::bl).map some from by unfold atL Fp;simp] at hr
 have a0:Kx W (some no::bl.map some) (some er) r:=hr
 obtain⟨a1,v',rfl,h1,h2⟩:=a0
 exact⟨_,_,rfl,hb,a1,v',rfl,h1,h2⟩
theorem Fu{l:Bl}{root tree am:Int}(h:(Ze l root tree am).fs≠[]):(Kg (Ze l root tree am)).2≠0:=by
 obtain⟨es,fs,hw⟩:=Nq l root tree am;have h2:(Ze l root tree am).fs=fs:=by rw[hw.fsE];rfl
 rw[(Rl h).2.1];rw[h2] at h ⊢;cases fs with
 | nil=>exact absurd rfl h
 | cons f r=>exact(hw.flt f Y5).2.2
def OutP(O:V6 Int×Int×V6 Int)(w:V1)(e:V5)(w':V1):Prop :=
 (O.2.1≠0∧∃ ty x,e=.returned (.tuple #[S1,.iface ty x])∧B3 w w'∧Kx w' (O.1.map some) (some O.2.1) (.iface ty x)) ∨
 (O.2.1=0∧∃ p c,e=.returned (.tuple #[.slice p O.2.2.length c,.nilIface])∧B3 w w'∧w'.ownsRow w.heap.size 3 1 (.slice p O.2.2.length c) O.2.2.length (O.2.2.map V0))
theorem Gq{O:V6 Int×Int×V6 Int}{bl:V6 Int}{er:Int}{w W:V1}{ty:V3}{x:V2}(h:O=(bl,er,[]))(her:er≠0)(hb:B3 w W)(hv:Kx W (bl.map some) (some er) (.iface ty x)):OutP O w (.returned (.tuple #[S1,.iface ty x])) W:=by
 subst h;exact .inl ⟨her,ty,x,rfl,hb,hv⟩
theorem out_ok{O:V6 Int×Int×V6 Int}{L:V6 Int}{n:Nat}{w W:V1}{p:O0}{c:Nat}(h:O=([],0,L))(hn:L.length=n)(hb:B3 w W)(ho:W.ownsRow w.heap.size 3 1 (.slice p n c) n (L.map V0)):OutP O w (.returned (.tuple #[.slice p n c,.nilIface])) W:=by
 subst h hn;exact .inr ⟨rfl,p,c,rfl,hb,ho⟩
theorem bitR_le(l:Bl)(no:Int):(Ut l no).length≤960:=by
 by_cases h:Ye l no=0
 ·rw[(Zf1 h).2];unfold Ye at h;by_cases h1:inE l 3 no=0
  ·rw[V8 h1] at h;by_cases h2:Za6 (inB l no)=true
   ·exact((Ms _).1 h2).2.1
   ·rw[V7 h2] at h;omega
  ·rw[V7 h1] at h;exact absurd h h1
 ·rw[bitR_bad h];exact A5 _
theorem Zal(B b:Nat)(p:O0)(n c:Nat)(l:Bl)(no:Int)(w:V1)(hI:ImgR B b p n c l w) :
 C0 199 #[P0 b,V0 no] w (fun e w' =>
 (Ye l no≠0∧∃ ty x,e=.returned (.tuple #[S1,.iface ty x])∧B3 w w'∧Kx w' (([no]:V6 Int).map some) (some (Ye l no)) (.iface ty x)) ∨
 (Ye l no=0∧∃ p c,e=.returned (.tuple #[.slice p (Ut l no).length c,.nilIface])∧B3 w w'∧w'.ownsRow w.heap.size 3 1 (.slice p (Ut l no).length c) (Ut l no).length ((Ut l no).map V0))):=by
 refine(Zsc B b p n c l no w hI).mono ?_
 rintro e W q
 rcases q with ⟨h,b,rfl,hb,hv⟩|⟨h,p,c,rfl,hb,ho⟩
 ·exact .inl ⟨h,_,_,rfl,hb,hv⟩
 ·refine .inr ⟨h,p,c,by rw[(Zf1 h).2],hb,?_⟩
  rw[(Zf1 h).2,(Zf1 h).1,bitI_map];exact ho
theorem Zez(Bi b:Nat)(pi:O0)(ni ci:Nat)(l:Bl)(x:Plc)(want:Int)(w:V1)(hI:ImgR Bi b pi ni ci l w) :
 C0 129 #[.agg #[V0 (↑x.1.1:Int),V0 (↑x.1.2.1:Int),V0 (↑x.1.2.2:Int),V0 x.2.1,V0 x.2.2],P0 b,V0 want] w (OutP (Zp5 l x want) w):=by
 refine zin 65 Tryz.func129 ?_
 refine xa 2 [V0 (↑x.1.1:Int),V0 (↑x.1.2.1:Int),V0 (↑x.1.2.2:Int),V0 x.2.1,V0 x.2.2] 130 fun b1 W1 n1=>?_
 refine xb 8 4 n1.blk ?_
 refine xin 3 x.2.2 (0:Int) (fun d5=>?_) (fun d5=>?_)
 ·refine xb 3 3 n1.blk ?_
  refine xb 1 4 n1.blk ?_
  refine xc 1 (args:=#[V0 x.2.1,.iface 33 (V0 x.2.2)]) (Qm x.2.1 x.2.2 [] _ _ rfl) ?_
  rintro _ W3 ⟨d0,v3,rfl,d2,a1⟩
  have hB:=bln n1.i d2
  exact xe 6 (.tuple #[S1,.iface d0 (v3)]) (Gq (by unfold Zp5;rw[V8 Y3]) Y3 hB a1)
 refine xb 7 0 n1.blk ?_
 refine xc 0 (Zal Bi b pi ni ci l (↑x.1.1:Int) _ (hI.i n1.i)) ?_
 rintro e W4 c3
 rcases c3 with ⟨b9,c6,vb,rfl,a2,c4⟩|⟨b9,p9,c9,rfl,a2,c5⟩
 ·have b3:=n1.blk.i a2
  refine xb 18 3 b3 ?_
  refine xc 1 (args:=#[V0 x.2.1,.iface c6 (vb)]) (Qm x.2.1 (Ye l (↑x.1.1:Int)) [(↑x.1.1:Int)] _ _ c4) ?_
  rintro _ W5 ⟨d1,v5,rfl,c7,a1⟩
  have b5:=bln (bln n1.i a2) c7
  exact xe 6 (.tuple #[S1,.iface d1 (v5)]) (Gq (by unfold Zp5;rw[V7 M0,V8 b9]) b9 b5 a1)
 refine xin 26 (↑((Ut l (↑x.1.1:Int)).length):Int) want (fun d3=>?_) (fun d3=>?_)
 ·have c0:=n1.blk.i a2
  refine xb 3 3 c0 ?_
  refine xc 1 (args:=#[V0 x.2.1,.iface 33 (V0 7)]) (Qm x.2.1 7 [] _ _ rfl) ?_
  rintro _ W7 ⟨c8,v7,rfl,c2,a1⟩
  have a9:=bln (bln n1.i a2) c2
  exact xe 6 (.tuple #[S1,.iface c8 (v7)]) (Gq (by unfold Zp5;rw[V7 M0,V7 M0,V8 Y3]) Do a9 a1)
 have a3:=Zg c5 n1.i.size
 refine xr 6 (args:=#[.slice p9 ((Ut l (↑x.1.1:Int)).length) c9]) (Za1 p9 c9 (Ut l (↑x.1.1:Int)) _ (bitR_le _ _) (Zf a3)) fun W8 a5=>?_
 have a0:=(n1.blk.i a2).i a5
 refine xb 12 1 a0 ?_
 refine xg 2 [52,53] ((↑(Yn (Ut l (↑x.1.1:Int))):Int) != (↑x.1.2.1:Int)) (fun a6=>?_) (fun a6=>?_)
 ·have a6:=Cc a6
  refine xb 12 3 a0 ?_
  refine xc 1 (args:=#[V0 x.2.1,.iface 33 (V0 13)]) (Qm x.2.1 13 [] _ _ rfl) ?_
  rintro _ d7 ⟨b2,c1,rfl,a7,a1⟩
  have b8:=bln (bln (bln n1.i a2) a5) a7
  exact xe 6 (.tuple #[S1,.iface b2 (c1)]) (Gq (by unfold Zp5;rw[V7 M0,V7 M0,V7 M0,V7 M0]) Do b8 a1)
 have a6:=Vg a6
 refine xb 3 2 a0 ?_
 refine xin 4 (↑(Xi (Ut l (↑x.1.1:Int))):Int) (↑x.1.2.2:Int) (fun b4=>?_) (fun b4=>?_)
 ·refine xb 3 3 a0 ?_
  refine xc 1 (args:=#[V0 x.2.1,.iface 33 (V0 13)]) (Qm x.2.1 13 [] _ _ rfl) ?_
  rintro _ d6 ⟨a8,d4,rfl,b0,a1⟩
  have b6:=bln (bln (bln n1.i a2) a5) b0
  exact xe 6 (.tuple #[S1,.iface a8 (d4)]) (Gq (by unfold Zp5;rw[V7 M0,V7 M0,V7 M0,V7 M0]) Do b6 a1)
 have b7:=bln (bln n1.i a2) a5
 have a4:=Zb a3 a5
 exact xe 10 (.tuple #[.slice p9 ((Ut l (↑x.1.1:Int)).length) c9,.nilIface]) (out_ok (by unfold Zp5;rw[V7 M0,V7 M0,V7 M0,V8 M0]) rfl b7 a4)
end
end
end Go.Proofs.YtekomodnkfhihaaGreatDoor
