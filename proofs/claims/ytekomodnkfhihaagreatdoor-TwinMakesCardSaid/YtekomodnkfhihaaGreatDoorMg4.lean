/- The document's answer for layer 17: Right and Tree. -/
import Derived.RangeFuncNested
import Derived.RangeFuncBound
import Derived.RangeFuncCalls
import Derived.RangeFuncLeaves
import Derived.OwnWalkIn
import Derived.OrdersIn
import Derived.Test.YtekomodnkfhihaaGreatDoorRows
import Derived.Shelf.Abstract
import Derived.Shelf.RegionOpen
import Derived.TacticsInMore
import Derived.LoopNIn
import Derived.LoopIn
import Derived.Sort.BigQuietIn
import Derived.Test.YtekomodnkfhihaaGreatDoorMg3
namespace Go.Proofs.YtekomodnkfhihaaGreatDoor
set_option maxHeartbeats 8000000
set_option maxRecDepth 100000
open Go.RowKit Go.Extern.Stop Go.Stop Go.Extern
set_option linter.unusedVariables false
attribute [local irreducible] wpList wpAnyH Code.wp Oper.wp Go
theorem Tz(t:Int)(x:Value)(w:World)(h:¬ (1≤t∧t≤5)) :
 C0 104 #[V0 t,x] w (Ret (.bool false) w):=by
 refine zin 63 Tryz.func104 ?_
 refine xr 9 (args:=#[V0 t,.bool true]) (Zb2 t true _ h) fun W1 a0=>?_
 exact xe 16 (.bool false) ⟨rfl,a0⟩
theorem Ab(t:Int)(v:Nat)(a:O0)(c:Nat)(l:List Ent)(w:World)(ht1:1≤t)(ht2:t≤5)(hv:Nb t true=v)(h:Sts Yo w (.slice a l.length c) l)(hn:l.length≤32768) :
 C0 104 #[V0 t,.slice a l.length c] w (Ret (.bool (Po v l)) w):=by
 have c1:=Yu t true
 refine zin 63 Tryz.func104 ?_
 refine xr 9 (args:=#[V0 t,.bool true]) (Jn t true _ rfl ht1 ht2 _) fun W1 b7=>?_
 refine xgk 2 [8,9] (show(((↑(Vg t true):Int)==(0:Int)):Bool)=false from by simp;omega) ?_
 refine xk 6 (show(decide ((l.length:Int)>(32768:Int)):Bool)=false from decide_eq_false M0) ?_
 refine zl 9 63 (fun zm b6 V=>∃ (i:Nat),b6=[(0,V0 t),(1,.slice a l.length c),(5,V0 (i:Int))]∧zm=l.length-((i:Int)).toNat∧B3 w V∧i≤l.length∧(∀ j,j<i→Zcg v l j)) ⟨0,rfl,rfl,b7,A3 _,?_⟩ ?_
 ·exact fun j hj=>absurd hj M0
 rintro _ _ W3 ⟨i,rfl,rfl,a2,hi,hz⟩ J3 b5 r3
 have b9:=Af hz
 have c0:0<i→Bv l i=(l.getD (i-1) Xt).1:=Zj2
 have c3:i=0→Bv l i = -1:=Zfk
 refine xid 9 ((i:Int)<(l.length:Int)) (fun b8=>?_) (fun b8=>?_)
 ·refine xd 5 .z ?_
  refine xx (.e [0,1] 2) _ l.length i 3 (Sts.cell h Xg Xt (k:=i) (i:=0) M0 rfl).1 ?_
  have a0:=bln a2 (Zb W3)
  refine xl (.e [3] 4) ((Sts.cell (h.below a0) Xg Xt (k:=i) (i:=0) M0 rfl).2) ?_
  refine xg (.b [5,6]) [25,26] (decide ((l.getD i Xt).1<(0:Int))) (fun a7=>?_) (fun a7=>?_)
  ·have a7:=of_decide_eq_true a7
   exact xe (.r [7,8,9,10,11,12,13,14,15,16,17,18,19,20,21,22,23,24,25,26,27,28,29,30,31,32,33,34,35,36,37,38,39,40,41,42] 14) (.bool false) ⟨by rw[Jl (i:=i) M0 (fun a1=>by unfold Zcg at a1;omega)],a0⟩
  have a7:=of_decide_eq_false a7
  refine xx (.e [7,8] 9) _ l.length i 3 (Sts.cell h Xg Xt (k:=i) (i:=0) M0 rfl).1 ?_
  refine xl (.e [10] 11) ((Sts.cell (h.below a0) Xg Xt (k:=i) (i:=0) M0 rfl).2) ?_
  refine xg (.b [12,13,14]) [32,33,34] (decide ((l.getD i Xt).1>(281474976710655:Int))) (fun a5=>?_) (fun a5=>?_)
  ·have a5:=of_decide_eq_true a5
   exact xe (.r [15,16,17,18,19,20,21,22,23,24,25,26,27,28,29,30,31,32,33,34,35,36,37,38,39,40,41,42] 14) (.bool false) ⟨by rw[Jl (i:=i) M0 (fun a1=>by unfold Zcg at a1;omega)],a0⟩
  have a5:=of_decide_eq_false a5
  refine xg (.b [15,16,17]) [36,37] (decide ((i:Int)>(0:Int))) (fun a6=>?_) (fun a6=>?_)
  ·have a6:=of_decide_eq_true a6
   refine xx (.e [18,19] 20) _ l.length i 3 (Sts.cell h Xg Xt (k:=i) (i:=0) M0 rfl).1 ?_
   refine xl (.e [21] 22) ((Sts.cell (h.below a0) Xg Xt (k:=i) (i:=0) M0 rfl).2) ?_
   refine xwm (.e [23,24] 25) ((i:Int)-1) (↑(i-1):Int) ?_
   refine xx (.e [] 26) _ l.length (i-1) 3 (Sts.cell h Xg Xt (k:=(i-1)) (i:=0) M0 rfl).1 ?_
   refine xl (.e [27] 28) ((Sts.cell (h.below a0) Xg Xt (k:=(i-1)) (i:=0) M0 rfl).2) ?_
   refine xg (.b [29,30,31,32]) [49,50,51,52] (decide ((l.getD i Xt).1≤(l.getD (i-1) Xt).1)) (fun a3=>?_) (fun a3=>?_)
   ·have a3:=of_decide_eq_true a3
    exact xe (.r [33,34,35,36,37,38,39,40,41,42] 14) (.bool false) ⟨by rw[Jl (i:=i) M0 (fun a1=>by unfold Zcg at a1;omega)],a0⟩
   have a3:=of_decide_eq_false a3
   refine xx (.e [33,34] 35) _ l.length i 3 (Sts.cell h Xg Xt (k:=i) (i:=0) M0 rfl).1 ?_
   refine xl (.e [36] 37) ((Sts.cell (h.below a0) Xg Xt (k:=i) (i:=1) M0 rfl).2) ?_
   refine xr (.o [38,39] 40) (args:=#[V0 t,.bool true]) (Js t true v hv ht1 ht2 _) fun W9 b4=>?_
   refine xin (.r [41,42] 2) (↑((l.getD i Xt).2.1).length:Int) (v:Int) (fun a8=>?_) (fun a8=>?_)
   ·have b3:=bln a0 b4
    exact xe 11 (.bool false) ⟨by rw[Jl (i:=i) M0 (fun a1=>by unfold Zcg at a1;omega)],b3⟩
   refine xwm 5 ((i:Int)+1) (↑(i+1):Int) ?_
   have b2:=bln a0 b4
   exact ze 2 (b5 _ _ _ ⟨i+1,rfl,rfl,b2,by omega,fun j hj=>(C3 j i).elim (hz j) (fun q=>by obtain rfl:j=i:=M0;unfold Zcg;omega)⟩ M0)
  have a6:=of_decide_eq_false a6
  refine xx (.e [18,19,20,21,22,23,24,25,26,27,28,29,30,31,32,33,34] 35) _ l.length i 3 (Sts.cell h Xg Xt (k:=i) (i:=0) M0 rfl).1 ?_
  refine xl (.e [36] 37) ((Sts.cell (h.below a0) Xg Xt (k:=i) (i:=1) M0 rfl).2) ?_
  refine xr (.o [38,39] 40) (args:=#[V0 t,.bool true]) (Js t true v hv ht1 ht2 _) fun c2 a4=>?_
  refine xin (.r [41,42] 2) (↑((l.getD i Xt).2.1).length:Int) (v:Int) (fun b1=>?_) (fun b1=>?_)
  ·have a9:=bln a0 a4
   exact xe 11 (.bool false) ⟨by rw[Jl (i:=i) M0 (fun a1=>by unfold Zcg at a1;omega)],a9⟩
  refine xwm 5 ((i:Int)+1) (↑(i+1):Int) ?_
  have b0:=bln a0 a4
  exact ze 2 (b5 _ _ _ ⟨i+1,rfl,rfl,b0,by omega,fun j hj=>(C3 j i).elim (hz j) (fun q=>by obtain rfl:j=i:=M0;unfold Zcg;omega)⟩ M0)
 exact xe 11 (.bool true) ⟨by rw[Rk (fun j hj=>hz j M0)],a2⟩
theorem Zcl(t:Int)(a:O0)(c:Nat)(l:List Ent)(w:World)(h:Sts Yo w (.slice a l.length c) l)(hn:l.length≤32768) :
 C0 104 #[V0 t,.slice a l.length c] w (Ret (.bool (decide (1≤t∧t≤5∧Po (Nb t true) l=true))) w):=by
 by_cases ht:1≤t∧t≤5
 ·rw[show decide (1≤t∧t≤5∧Po (Nb t true) l=true)=Po (Nb t true) l by simp[ht.1,ht.2]]
  exact Ab t _ a c l w ht.1 ht.2 rfl h hn
 ·rw[show decide (1≤t∧t≤5∧Po (Nb t true) l=true)=false from decide_eq_false fun h=>ht ⟨h.1,h.2.1⟩]
  exact Tz t _ w ht
def RLaidQ(B bc bm:Nat)(pg:O0)(N cg f k:Nat)(p:O0)(K c:Nat)(l:Bl)(li:Bl)(q:Nat)(w:World)(e:Ending)(w':World):Prop :=
 ∃ a c2 fa m fc,e=.returned (.tuple #[V0 (q:Int),.agg #[.slice a 0 c2,V0 0]])∧Below B w w'∧Zd [189,9] w w'∧RAl B bc bm pg N cg fa m fc (k+1) (Qn f N) w'∧RefI B bm p K c (Km l (q*256) (Ja 2 (q:Int) li)) w'
theorem Cp(B bc bm:Nat)(pg:O0)(N cg:Nat)(fa:O0)(m fc f k:Nat)(p:O0)(K c:Nat)(l:Bl)(a:O0)(ci n':Nat)(li:Bl)(q:Nat)(w:World)(hq:f+k=q)(hn':li.length=n')(hl:n'≤244)(hkN:k<N)(hf:f+N≤K)(hA:RAl B bc bm pg N cg fa m fc k (Qn f N) w)(hI:RefI B bm p K c l w)(hin:∀ W,Below B w W→Zd [189,9] w W→Bys W (.slice a n' ci) li)(hBw:B≤w.heap.size) :
 C0 107 #[P0 bc,V0 2,.slice a n' ci] w (RLaidQ B bc bm pg N cg f k p K c l li q w):=by
 subst hq hn'
 have hK:=hI.hk
 have hL:(Qn f N).getD k 0=((f+k:Nat):Int):=Gq hkN
 have hs:Vy 2 ((f+k:Nat):Int) li=0:=by
  unfold Vy
  rw[if_pos (show Ku 2 ((f+k:Nat):Int)=true from decide_eq_true M0),if_pos hl]
 have hw:wrE 2 ((Qn f N).getD k 0) K li=0:=by
  rw[hL];unfold wrE;rw[if_pos hs,if_pos M0]
 refine(Zjy B bc bm pg N cg fa m fc k (Qn f N) p K c l 2 a ci li w hA hI hin hBw).mono ?_
 rintro e W ⟨a2,c2,a3,m2,a4,rfl,hb,hO,a1,a0,h5⟩
 have e1:lyV k N K (Qn f N) 2 li=((f+k:Nat):Int):=by rw[lyV,if_pos ⟨hkN,hw⟩,hL]
 have e2:lyE k N K (Qn f N) 2 li=0:=by rw[lyE,if_pos hkN,hw]
 have e3:lyB k N K (Qn f N) 2 li=[]:=by rw[lyB,if_pos hkN,hw];rfl
 have e4:lyK k N K (Qn f N) 2 li=k+1:=by rw[lyK,if_pos ⟨hkN,hw⟩]
 have e5:lyL k N K (Qn f N) 2 li l=Km l ((f+k)*256) (Ja 2 ((f+k:Nat):Int) li):=by rw[lyL,if_pos hkN,wrL,if_pos hw,hL];rfl
 rw[e4] at a1
 rw[e5] at a0
 exact⟨a2,c2,a3,m2,a4,by rw[e1,e2,e3];rfl,hb,hO,a1,a0⟩
def treeL(t:Int)(leaf:Bool)(m v:Nat)(l:List Ent)(q:Nat)(bs:Bl):Int×Bl:=Uu t (upE l m q (ovN l.length m)) (q+ovN l.length m) (Zal t leaf m v l q bs (ovN l.length m))
theorem from_lt{n m i:Nat}(hm:1≤m)(h:i*m<n∨i=0):i<ovN n m:=by
 have hp:=Qs n m
 rcases h with h|h
 ·unfold ovN
  have:i<(n+m-1)/m:=by
   rw[Nat.lt_div_iff_mul_lt M0];omega
  omega
 ·omega
theorem Zcy{n m i:Nat}(hm:1≤m)(hi:i≤ovN n m)(h:¬ i*m<n)(h0:i*m≠0):i=ovN n m:=by
 rcases C3 i (ovN n m) with q|q
 ·rcases F9 n with hn|hn
  ·subst hn
   rw[Iy hm (A3 _)] at q
   obtain rfl:i=0:=by omega
   simp at h0
  ·exact absurd (Zj7 hm hn q) h
 ·omega
def Ziw(B bc bm:Nat)(pg:O0)(N cg f k0:Nat)(p:O0)(K c:Nat)(bs:Bl)(t:Int)(l:List Ent)(w:World)(e:Ending)(w':World):Prop :=
 ∃ fa m fc,e=.returned (.tuple #[V0 (Vl t l (f+k0) bs).1,.agg #[S0,V0 0]])∧Below B w w'∧Zd [189,9] w w'∧RAl B bc bm pg N cg fa m fc (k0+Zw t l.length) (Qn f N) w'∧RefI B bm p K c (Vl t l (f+k0) bs).2 w'
theorem up_at{w:World}{p:O0}{i c m q:Nat}{u:List Ent}(h:Sl w (.slice p i c) i ((upE u m q i).flatMap Yo))(hi:0<i):p.isSome=true∧w.cell? ((Xa p (0*3)).add 2)=some (V0 (upX u m q 0).2.2):=by
 have h2:Sts Yo w (.slice p (upE u m q i).length c) (upE u m q i):=by unfold Sts;rw[Xl];exact h
 have:=Sts.cell h2 Xg Xt (k:=0) (i:=2) (by rw[Xl];exact hi) rfl
 rw[Hr hi] at this
 exact this
theorem Zaf(B bc bm:Nat)(pg:O0)(N cg:Nat)(fa:O0)(mf fc f k0:Nat)(p:O0)(K cI:Nat)(bs:Bl)(t:Int)(a:O0)(c:Nat)(l:List Ent)(w:World)(hR:RAl B bc bm pg N cg fa mf fc k0 (Qn f N) w)(hn:l.length≤32768)(hr:1≤t∧t≤5∧Po (Nb t true) l=true)(hs:k0+Zw t l.length≤N)(hf:f+N≤K)(hJ:RefI B bm p K cI bs w)(hin:∀ W,Below B w W→Zd [189,9] w W→Sts Yo W (.slice a l.length c) l)(hBw:B≤w.heap.size) :
 C0 51 #[P0 bc,V0 t,.slice a l.length c] w (Ziw B bc bm pg N cg f k0 p K cI bs t l w):=by
 have ah:=hr.1
 have ac:=hr.2.1
 have ow:=hR.hm
 have sr:=hJ.hk
 have hN:=hR.hN
 refine zin 128 Tryz.func51 ?_
 refine xa 3 [S0,V0 0] 44 fun b1 W1 n1=>?_
 have hB:=blB (Below.refl B w) hBw n1.below
 have hO:=(show Zd [189,9] w _ from(Zd.of_below n1.below))
 refine xr 7 (args:=#[V0 t,.slice a l.length c]) (Zcl t a c l _ (hin _ hB hO) hn) fun W2 fk=>?_
 refine xk 3 (show(!(decide (1≤t∧t≤5∧Po (Nb t true) l=true)):Bool)=false from by rw[decide_eq_true hr];rfl) ?_
 refine xd 4 .z ?_
 have fp:=((hR.below n1.below).below fk).below (Zb W2)
 refine xl (.e [0,1,2] 3) (fp.blk.cell (i:=1) rfl) ?_
 refine xr (.o [4,5,6,7] 8) (args:=#[V0 t,V0 (l.length:Int)]) (Yj t l.length _ ah ac hn) fun W3 bj=>?_
 refine xk (.r [9] 2) (show(decide ((mf:Int)<(↑(Zw t l.length):Int)):Bool)=false from decide_eq_false M0) ?_
 have iw:=fp.below bj
 have jf:=(((hJ.below n1.below).below fk).below (Zb W2)).below bj
 have cy:=blB (blB (blB hB hBw fk) hBw (Zb W2)) hBw bj
 have br:=((hO.trans (Zd.of_below fk)).trans (Zd.of_below (Zb W2))).trans (Zd.of_below bj)
 have k1:=((n1.blk.below fk).below (Zb W2)).below bj
 refine zl 8 128 (fun zm x2 V=>∃ (u:List Ent) (k m v:Nat) (a1:Bool) (b2:Bl) (a2:O0) (c2:Nat),x2=[(0,P0 bc),(1,V0 t),(2,.slice a2 u.length c2),(7,P0 b1),(8,.bool a1)]∧zm=(if a1=true then 40000 else u.length)∧Below B w V∧Zd [189,9] w V∧Blk V b1 ([S0,V0 0]) 44∧(∃ fa mf fc,RAl B bc bm pg N cg fa mf fc k (Qn f N) V)∧RefI B bm p K cI b2 V∧(∀ W,Below B V W→Zd [189,9] V W→Sts Yo W (.slice a2 u.length c2) u)∧Vg t a1=m∧Nb t a1=v∧EntsOk v u∧k+(Fz (ovN u.length m)).sum=k0+Zw t l.length∧(a1=false→2≤u.length)∧u.length≤32768∧treeL t a1 m v u (f+k) b2=Vl t l (f+k0) bs) ⟨l,k0,(Vg t true),(Nb t true),true,bs,a,c,rfl,rfl,cy,br,k1,⟨_,_,_,iw⟩,jf,?_,rfl,rfl,entsB_ok hr.2.2,rfl,(fun h=>by cases h),hn,rfl⟩ ?_
 ·exact fun W h1 h2=>hin W (cy.trans h1) (Zd.trans (by first|exact br|exact Zd.refl _ _) h2)
 rintro _ _ W4 ⟨u,k,m,v,a1,b2,a2,c2,rfl,rfl,w6,eu,eb,le,hJ,km,hm,hv,hE,hk,dc,pc,ki⟩ J4 mb r4
 have a0:B≤W4.heap.size:=N0 hBw w6.size
 obtain⟨fa,mf,fc,hR⟩:=le
 have ag:=Yu t a1
 rw[hm] at ag
 have qz:=Mz (ovN u.length m)
 have py:=Dy u.length m ag.1
 have qe:=Qs u.length m
 refine xr 15 (args:=#[V0 t,.bool a1]) (Jn t a1 m hm ah ac _) fun W5 ei=>?_
 refine xv1 5 10 (show(V0 0:Value)=V0 (↑(0*m):Int) from by rw[Nat.zero_mul];rfl) ?_
 have hu:=hR.below ei
 have hg:=hJ.below ei
 have hB:=blB (Below.refl B W4) a0 ei
 have hO:=(show Zd [189,9] W4 _ from(Zd.of_below ei))
 have q1:=eb.below ei
 refine zl 0 128 (fun zm x2 V=>∃ (i:Nat) (p4:O0) (c4:Nat) (fa:O0) (mf fc:Nat),x2=[(0,P0 bc),(1,V0 t),(2,.slice a2 u.length c2),(7,P0 b1),(8,.bool a1),(9,.slice p4 i c4),(10,V0 (↑(i*m):Int)),(11,V0 (m:Int))]∧zm=(ovN u.length m)-i∧Below B W4 V∧Zd [189,9] W4 V∧Blk V b1 ([S0,V0 0]) 44∧V.ownsRow W4.heap.size 124 3 (.slice p4 i c4) i ((upE u m (f+k) i).flatMap Yo)∧RAl B bc bm pg N cg fa mf fc (k+i) (Qn f N) V∧RefI B bm p K cI (Zal t a1 m v u (f+k) b2 i) V∧i≤(ovN u.length m)) ⟨0,none,0,fa,mf,fc,rfl,rfl,hB,hO,q1,A4 _ _ _ _,hu,hg,A3 _⟩ ?_
 rintro _ _ W6 ⟨i,p4,c4,fa,mf,fc,rfl,rfl,s2,s7,c8,x0,hR,hJ,hi⟩ J6 u4 r6
 have oi:(i*m<u.length∨i=0)→i<(ovN u.length m):=from_lt ag.1
 have qd:i*m=0→i=0:=fun h=>(Nat.mul_eq_zero.1 h).elim id (fun h=>by omega)
 refine xg 8 [41,42] (decide ((↑(i*m):Int)<(u.length:Int))) (fun ff=>?_) (fun ff=>?_)
 ·have ff:=of_decide_eq_true ff
  have y3:=s2
  have o7:=s7
  refine xa 14 [V0 0,.bool false,S0,S0] 191 fun b9 W9 n9=>?_
  refine xsv 0 n9.blk [V0 t,.bool a1,S0,S0] fun ns ni nc=>?_
  have g9:=n9.ge (B4 W6)
  have hB:=ni.below n9.below g9
  refine zl 10 128 (fun zm x2 V=>∃ (j:Nat) (kp:O0) (kc:Nat) (vp:O0) (vc:Nat),x2=[(0,P0 bc),(1,V0 t),(2,.slice a2 u.length c2),(7,P0 b1),(8,.bool a1),(9,.slice p4 i c4),(10,V0 (↑(i*m):Int)),(11,V0 (m:Int)),(12,P0 b9),(13,V0 (↑(i*m+j):Int))]∧zm=m-j∧B3 W6 V∧Blk V b9 ([V0 t,.bool a1,.slice kp j kc,.slice vp j vc]) 191∧V.ownsRow W6.heap.size 3 1 (.slice kp j kc) j (((Xu (Zn u m i)).take j).map V0)∧V.ownsRow W6.heap.size 9 1 (.slice vp j vc) j (((Ym (Zn u m i)).take j).map sv)∧j≤Vv u.length m i) ⟨0,none,0,none,0,rfl,rfl,hB,nc,A4 _ _ _ _,A4 _ _ _ _,A3 _⟩ ?_
  rintro _ _ t5 ⟨j,kp,kc,vp,vc,rfl,rfl,n2,c5,hK,hV,hj⟩ rn p8 ph
  have ll:Vv u.length m i=min m (u.length-i*m):=rfl
  have jy:=Vi u m i
  have m1:j<Vv u.length m i→(Zn u m i).getD j Xt=u.getD (i*m+j) Xt:=Uh
  refine xg 8 [53,54] (decide ((↑(i*m+j):Int)<(u.length:Int))) (fun o0=>?_) (fun o0=>?_)
  ·have o0:=of_decide_eq_true o0
   refine xwm 3 ((↑(i*m):Int)+(m:Int)) (↑((i*m)+m):Int) ?_
   refine xid 4 ((↑(i*m+j):Int)<(↑((i*m)+m):Int)) (fun jo=>?_) (fun jo=>?_)
   ·refine xd 5 (.t W6.heap.size [3,191]) ?_
    have b5:=km _ y3 o7
    refine xx (.e [0,2,3] 4) _ u.length (i*m+j) 3 (Sts.cell b5 Xg Xt (k:=(i*m+j)) (i:=0) M0 rfl).1 ?_
    have q7:=Za hV (Zb t5)
    have y5:=bln n2 (Zb t5)
    refine xlt (.e [5] 6) (.t W6.heap.size [3,191]) (fun V q7=>(Sts.cell (b5.below (Vm y5 q7 (A6 _))) Xg Xt (k:=(i*m+j)) (i:=0) M0 rfl).2) ?_
    refine xm2 0 1 7 ?_ ?_
    ·have g6:=c5.below (Zb t5)
     refine xb 0 2 g6 ?_
     refine xbs (.o [] 7) 1 [V0 ((u.getD (i*m+j) Xt).1)] 3 fun oe rr z7=>?_
     have ch:=Za hK (Zb t5)
     have ix:=Zg ch z7
     have p3:=Za ch z7.below
     have em:=bln y5 z7.below
     refine ybi (.o [] 8) (.t W6.heap.size [3,191]) fun _ _ _ _ zJ zQ zo zx zy zK=>Zr (m:=1) (news:=[V0 ((u.getD (i*m+j) Xt).1)]) (V0 0) 1 8 (j+1) (((Xu (Zn u m i)).take (j+1)).map V0) zo Tryz.underlying27 K0 rfl Do zx p3 zy (z7.blk.sl 1 1 Do Do) rfl (by simp[Value.oneCell']) (by unfold maxLen;omega) M0 em.size (by rfl) (by rw[Uo M0,m1 M0]) fun iq ia qr kj w5 di=>?_
     refine zK _ _ (Zt di w5 p3 Do) ?_
     have b3:=(g6.below z7.below).grown w5 p3 Do
     refine ys (.o [9] 10) b3 [V0 t,.bool a1,.slice iq (j+1) ia,.slice vp j vc] (.t W6.heap.size [3,191]) fun ar fo kq=>⟨(Xb fo b3 g9 Do),?_⟩
     refine xd 2 (.t W6.heap.size [9,191]) ?_
     refine xx (.e [0,2,3] 4) _ u.length (i*m+j) 3 (Sts.cell b5 Xg Xt (k:=(i*m+j)) (i:=0) M0 rfl).1 ?_
     have m2:=Za (fo.own2 (Zp (Za q7 z7.below) w5 p3 Do) b3 Do) (Zb ar)
     have y2:=bln (fo.below (em.trans di) g9) (Zb ar)
     refine xlt (.e [5] 6) (.t W6.heap.size [9,191]) (fun V m2=>(Sts.cell (b5.below (Vm y2 m2 (A6 _))) Xg Xt (k:=(i*m+j)) (i:=1) M0 rfl).2) ?_
     refine xm2 0 1 7 ?_ ?_
     ·have t1:=kq.below (Zb ar)
      refine xb 0 3 t1 ?_
      refine xbs (.o [] 7) 1 [.string ⟨((u.getD (i*m+j) Xt).2.1).toArray⟩] 9 fun sg nq z4=>?_
      have jm:=Zg m2 z4
      have s5:=Za m2 z4.below
      have ek:=bln y2 z4.below
      refine ybi (.o [] 8) (.t W6.heap.size [9,191]) fun _ _ _ _ zJ zQ zo zx zy zK=>Zr (m:=1) (news:=[.string ⟨((u.getD (i*m+j) Xt).2.1).toArray⟩]) (.string ⟨#[]⟩) 1 16 (j+1) (((Ym (Zn u m i)).take (j+1)).map sv) zo Tryz.underlying109 K0 rfl Do zx s5 zy (z4.blk.sl 1 1 Do Do) rfl (by simp[Value.oneCell']) (by unfold maxLen;omega) M0 ek.size (by rfl) (by rw[Ki M0,m1 M0]) fun ms nf qc mr x3 cs=>?_
      refine zK _ _ (Zt cs x3 s5 Do) ?_
      have k2:=(t1.below z4.below).grown x3 s5 Do
      refine ys (.o [9] 10) k2 [V0 t,.bool a1,.slice iq (j+1) ia,.slice ms (j+1) nf] (.t W6.heap.size [9,191]) fun os gg nm=>⟨(Xb gg k2 g9 Do),?_⟩
      refine xwm 5 ((↑(i*m+j):Int)+1) (↑((i*m+j)+1):Int) ?_
      have ho:=gg.below (ek.trans cs) g9
      have bp:=gg.own2 (Zp (Za (Za (fo.own2 kj b3 Do) (Zb ar)) z4.below) x3 s5 Do) k2 Do
      have dn:=gg.own2 mr k2 Do
      exact ze 2 (p8 _ _ _ ⟨j+1,_,_,_,_,rfl,rfl,ho,nm,bp,dn,by omega⟩ M0)
     refine xbs 0 1 [.string ⟨((u.getD (i*m+j) Xt).2.1).toArray⟩] 9 fun qi ou z9=>?_
     have hy:=Zg m2 z9
     have v9:=(kq.below (Zb ar)).below z9.below
     refine xb (.o [] 1) 3 v9 ?_
     have s4:=Za m2 z9.below
     have dy:=bln y2 z9.below
     refine ybi (.o [] 8) (.t W6.heap.size [9,191]) fun _ _ _ _ zJ zQ zo zx zy zK=>Zr (m:=1) (news:=[.string ⟨((u.getD (i*m+j) Xt).2.1).toArray⟩]) (.string ⟨#[]⟩) 1 16 (j+1) (((Ym (Zn u m i)).take (j+1)).map sv) zo Tryz.underlying109 K0 rfl Do zx s4 zy (z9.blk.sl 1 1 Do Do) rfl (by simp[Value.oneCell']) (by unfold maxLen;omega) M0 dy.size (by rfl) (by rw[Ki M0,m1 M0]) fun mx ky qg mm y6 dv=>?_
     refine zK _ _ (Zt dv y6 s4 Do) ?_
     have k3:=v9.grown y6 s4 Do
     refine ys (.o [9] 10) k3 [V0 t,.bool a1,.slice iq (j+1) ia,.slice mx (j+1) ky] (.t W6.heap.size [9,191]) fun pp gf ly=>⟨(Xb gf k3 g9 Do),?_⟩
     refine xwm 5 ((↑(i*m+j):Int)+1) (↑((i*m+j)+1):Int) ?_
     have ip:=gf.below (dy.trans dv) g9
     have fg:=gf.own2 (Zp (Za (Za (fo.own2 kj b3 Do) (Zb ar)) z9.below) y6 s4 Do) k3 Do
     have eg:=gf.own2 mm k3 Do
     exact ze 2 (p8 _ _ _ ⟨j+1,_,_,_,_,rfl,rfl,ip,ly,fg,eg,by omega⟩ M0)
    refine xbs 0 1 [V0 ((u.getD (i*m+j) Xt).1)] 3 fun om qq aw=>?_
    have bz:=Za hK (Zb t5)
    have gr:=Zg bz aw
    have h9:=(c5.below (Zb t5)).below aw.below
    refine xb (.o [] 1) 2 h9 ?_
    have p5:=Za bz aw.below
    have dt:=bln y5 aw.below
    refine ybi (.o [] 8) (.t W6.heap.size [3,191]) fun _ _ _ _ zJ zQ zo zx zy zK=>Zr (m:=1) (news:=[V0 ((u.getD (i*m+j) Xt).1)]) (V0 0) 1 8 (j+1) (((Xu (Zn u m i)).take (j+1)).map V0) zo Tryz.underlying27 K0 rfl Do zx p5 zy (aw.blk.sl 1 1 Do Do) rfl (by simp[Value.oneCell']) (by unfold maxLen;omega) M0 dt.size (by rfl) (by rw[Uo M0,m1 M0]) fun hh ka pn kf w9 eq=>?_
    refine zK _ _ (Zt eq w9 p5 Do) ?_
    have b4:=h9.grown w9 p5 Do
    refine ys (.o [9] 10) b4 [V0 t,.bool a1,.slice hh (j+1) ka,.slice vp j vc] (.t W6.heap.size [3,191]) fun ae bo kd=>⟨(Xb bo b4 g9 Do),?_⟩
    refine xd 2 (.t W6.heap.size [9,191]) ?_
    refine xx (.e [0,2,3] 4) _ u.length (i*m+j) 3 (Sts.cell b5 Xg Xt (k:=(i*m+j)) (i:=0) M0 rfl).1 ?_
    have l5:=Za (bo.own2 (Zp (Za q7 aw.below) w9 p5 Do) b4 Do) (Zb ae)
    have o1:=bln (bo.below (dt.trans eq) g9) (Zb ae)
    refine xlt (.e [5] 6) (.t W6.heap.size [9,191]) (fun V l5=>(Sts.cell (b5.below (Vm o1 l5 (A6 _))) Xg Xt (k:=(i*m+j)) (i:=1) M0 rfl).2) ?_
    refine xm2 0 1 7 ?_ ?_
    ·have v0:=kd.below (Zb ae)
     refine xb 0 3 v0 ?_
     refine xbs (.o [] 7) 1 [.string ⟨((u.getD (i*m+j) Xt).2.1).toArray⟩] 9 fun ru sb au=>?_
     have iv:=Zg l5 au
     have p7:=Za l5 au.below
     have w0:=bln o1 au.below
     refine ybi (.o [] 8) (.t W6.heap.size [9,191]) fun _ _ _ _ zJ zQ zo zx zy zK=>Zr (m:=1) (news:=[.string ⟨((u.getD (i*m+j) Xt).2.1).toArray⟩]) (.string ⟨#[]⟩) 1 16 (j+1) (((Ym (Zn u m i)).take (j+1)).map sv) zo Tryz.underlying109 K0 rfl Do zx p7 zy (au.blk.sl 1 1 Do Do) rfl (by simp[Value.oneCell']) (by unfold maxLen;omega) M0 w0.size (by rfl) (by rw[Ki M0,m1 M0]) fun kx md nu lg x8 fs=>?_
     refine zK _ _ (Zt fs x8 p7 Do) ?_
     have k8:=(v0.below au.below).grown x8 p7 Do
     refine ys (.o [9] 10) k8 [V0 t,.bool a1,.slice hh (j+1) ka,.slice kx (j+1) md] (.t W6.heap.size [9,191]) fun nx gc ld=>⟨(Xb gc k8 g9 Do),?_⟩
     refine xwm 5 ((↑(i*m+j):Int)+1) (↑((i*m+j)+1):Int) ?_
     have cz:=gc.below (w0.trans fs) g9
     have ba:=gc.own2 (Zp (Za (Za (bo.own2 kf b4 Do) (Zb ae)) au.below) x8 p7 Do) k8 Do
     have fi:=gc.own2 lg k8 Do
     exact ze 2 (p8 _ _ _ ⟨j+1,_,_,_,_,rfl,rfl,cz,ld,ba,fi,by omega⟩ M0)
    refine xbs 0 1 [.string ⟨((u.getD (i*m+j) Xt).2.1).toArray⟩] 9 fun qu ra ay=>?_
    have gy:=Zg l5 ay
    have u8:=(kd.below (Zb ae)).below ay.below
    refine xb (.o [] 1) 3 u8 ?_
    have q0:=Za l5 ay.below
    have u0:=bln o1 ay.below
    refine ybi (.o [] 8) (.t W6.heap.size [9,191]) fun _ _ _ _ zJ zQ zo zx zy zK=>Zr (m:=1) (news:=[.string ⟨((u.getD (i*m+j) Xt).2.1).toArray⟩]) (.string ⟨#[]⟩) 1 16 (j+1) (((Ym (Zn u m i)).take (j+1)).map sv) zo Tryz.underlying109 K0 rfl Do zx q0 zy (ay.blk.sl 1 1 Do Do) rfl (by simp[Value.oneCell']) (by unfold maxLen;omega) M0 u0.size (by rfl) (by rw[Ki M0,m1 M0]) fun lt kv ps lr x6 cf=>?_
    refine zK _ _ (Zt cf x6 q0 Do) ?_
    have k7:=u8.grown x6 q0 Do
    refine ys (.o [9] 10) k7 [V0 t,.bool a1,.slice hh (j+1) ka,.slice lt (j+1) kv] (.t W6.heap.size [9,191]) fun sq gj lz=>⟨(Xb gj k7 g9 Do),?_⟩
    refine xwm 5 ((↑(i*m+j):Int)+1) (↑((i*m+j)+1):Int) ?_
    have bd:=gj.below (u0.trans cf) g9
    have fn:=gj.own2 (Zp (Za (Za (bo.own2 kf b4 Do) (Zb ae)) ay.below) x6 q0 Do) k7 Do
    have fr:=gj.own2 lr k7 Do
    exact ze 2 (p8 _ _ _ ⟨j+1,_,_,_,_,rfl,rfl,bd,lz,fn,fr,by omega⟩ M0)
   refine xlv 7 c5.rp ?_
   have j1:B3 W6 t5:=n2
   have dp:W4.heap.size≤W6.heap.size:=y3.size
   have w8:=Zf hK dp
   have ez:=Zf hV dp
   have i9:Vv u.length m i=j:=by omega
   have f9:(Zn u m i).length=j:=by rw[Vi,i9]
   have x7:(Xu (Zn u m i)).take j=Xu (Zn u m i):=A1 (by rw[Yh];omega)
   have x4:(Ym (Zn u m i)).take j=Ym (Zn u m i):=A1 (by rw[Gh];omega)
   rw[x7] at w8
   rw[x4] at ez
   have hN:=Mj hE ah ac hm hv (fun h=>by have:=dc h;omega) (show i<(ovN u.length m) by omega)
   have d9:=Mi hN
   rw[f9] at hN
   have y7:Jz m v (Qi t a1 j m v) (Xu (Zn u m i)) (Ym (Zn u m i)) j=Zhe t a1 m v (Zn u m i):=by rw[←f9];rfl
   refine xc 0 (args:=#[.agg #[V0 t,.bool a1,.slice kp j kc,.slice vp j vc]]) (Nu t a1 j m v (Xu (Zn u m i)) (Ym (Zn u m i)) kp vp kc vc _ hN (Ze w8) (Ze ez)) ?_
   rintro _ rs ⟨_,rfl,h4,p6,c6,rfl,h6⟩
   have jv:=(blB y3 a0 j1).size
   have cm:=Zf h6 jv
   rw[y7] at cm
   have je:=(hR.below j1).below h4
   have gz:=(hJ.below j1).below h4
   have hO:=(o7.trans (Zd.of_below j1)).trans (Zd.of_below h4)
   have hB:=blB (blB y3 a0 j1) a0 h4
   refine xc 11 (args:=#[P0 bc,V0 2,.slice p6 244 c6]) (Cp B bc bm pg N cg fa mf fc f (k+i) p K cI (Zal t a1 m v u (f+k) b2 i) p6 c6 244 (Zhe t a1 m v (Zn u m i)) (f+k+i) _ (D4 _ _ _).symm d9 Do M0 hf je gz (fun W _ hO=>Ya (Ze (Zi cm hO Do)) d9) (N0 a0 hB.size)) ?_
   rintro _ se ⟨a9,c9,ie,gu,gw,rfl,m9,m5,hR,hJ⟩
   refine xa 3 [S0,V0 0] 44 fun qo sd d2=>?_
   have g2:=((c8.below j1).below h4).only m5 Do
   have o3:=d2.ne g2
   refine xsv 1 d2.blk [.slice a9 0 c9,V0 0] fun ql i3 mo=>?_
   have z0:=d2.ge0 (hB.trans m9)
   refine xb 6 1 mo ?_
   refine xc 9 (args:=#[V0 (↑(f+k+i):Int),V0 4]) (Xf ((f+k+i:Nat):Int) 4 4 _ M0 M0 rfl Do) ?_
   rintro _ si ⟨_,rfl,b8,pk,ck,rfl,y4⟩
   have hz:=(i3.below (blB (hB.trans m9) a0 d2.below) (N0 a0 z0)).size
   have cc:=Zf y4 hz
   refine Zj5 0 (fun _ _ _ zo zx=>Yt zo zx (Ya (Ze cc) (Zj _ _)) (Zj _ _) Tryz.underlying50 Tryz.underlying5 Tryz.underlying9) ?_
   refine xa 2 [V0 0,.string ⟨#[]⟩,V0 0] 124 fun qf pv d4=>?_
   have o5:=Za (i3.own2 (Za (Zi (Za (Za x0 j1) h4) m5 Do) d2.below) d2.blk Do) b8
   have f5:=Zg o5 d4
   refine xsv 0 d4.blk [V0 0,.string ⟨(leB (↑(f+k+i):Int) 4).toArray⟩,V0 (↑(f+k+i):Int)] fun rm j2 af=>?_
   have y8:=d4.ge0 (blB (i3.below (blB (hB.trans m9) a0 d2.below) (N0 a0 z0)) a0 b8)
   have h0:=j2.blkT (((i3.blkT (((c5.below h4).only m5 Do).below d2.below) d2.blk Do).below b8).below d4.below) d4.blk Do
   refine xb 6 2 h0 ?_
   refine xid 4 ((j:Int)>(0:Int)) (fun iz=>?_) (fun iz=>?_)
   ·have e6:((Xu (Zn u m i))).getD 0 0=((Zn u m i).getD 0 Xt).1:=Un i9 M0
    refine xb 2 2 h0 ?_
    have ew:=j2.own2 (Za (Za (i3.own2 (Za (Zi (Za w8 h4) m5 Do) d2.below) d2.blk Do) b8) d4.below) d4.blk Do
    refine xx 0 _ j 0 1 (IntsN.elem (Ze ew) (by rw[Yh,f9]) (k:=0) M0).1 ?_
    refine xl 0 ((IntsN.elem (Ze ew) (by rw[Yh,f9]) (k:=0) M0).2) ?_
    refine xs 1 af [V0 ((Xu (Zn u m i)).getD 0 0),.string ⟨(leB (↑(f+k+i):Int) 4).toArray⟩,V0 (↑(f+k+i):Int)] fun qk z1 kb=>?_
    refine xlv 5 kb.rp ?_
    refine xbs 0 1 [V0 ((Xu (Zn u m i)).getD 0 0),.string ⟨(leB (↑(f+k+i):Int) 4).toArray⟩,V0 (↑(f+k+i):Int)] 124 fun ny pe q3=>?_
    have fw:=q3.ne kb
    have cw:=z1.below (j2.below (blB (blB (i3.below (blB (hB.trans m9) a0 d2.below) (N0 a0 z0)) a0 b8) a0 d4.below) (N0 a0 y8)) (N0 a0 y8)
    have t6:=z1.own3 (j2.own3 (Za o5 d4.below) f5) f5
    have ga:=Zg t6 q3
    have h8:=Za t6 q3.below
    have w3:=blB cw a0 q3.below
    refine xbi 0 fun _ _ _ _ zJ zQ zo zx zy zK=>Zr (m:=1) (news:=[V0 ((Xu (Zn u m i)).getD 0 0),.string ⟨(leB (↑(f+k+i):Int) 4).toArray⟩,V0 (↑(f+k+i):Int)]) (.agg #[V0 0,.string ⟨#[]⟩,V0 0]) 3 32 (i+1) ((upE u m (f+k) (i+1)).flatMap Yo) zo Tryz.underlying99 K0 rfl Do zx h8 zy (q3.blk.sl 1 1 Do Do) rfl (by simp[Value.oneCell']) (by unfold maxLen;omega) M0 w3.size (by rfl) (Pi (by first|exact e6|exact b0)) fun sk pq nw lh s6 jg=>?_
    refine zK _ _ ?_
    refine xwm 6 ((↑(i*m):Int)+(m:Int)) (↑((i*m)+m):Int) ?_
    refine xv1 3 10 (show(V0 (↑((i*m)+m):Int):Value)=V0 (↑((i+1)*m):Int) from by rw[D6,E0]) ?_
    have hw:=(((((((hR.below d2.below).only (Zd.of_upd (T:=[44]) i3 d2.blk Do) Do).below b8).below d4.below).only (Zd.of_upd (T:=[124]) j2 d4.blk Do) Do).only (Zd.of_upd (T:=[124]) z1 af Do) Do).below q3.below).only (Zd.of_grown (T:=[124]) s6 h8 Do) Do
    have jr:=(((((((hJ.below d2.below).only (Zd.of_upd (T:=[44]) i3 d2.blk Do) Do).below b8).below d4.below).only (Zd.of_upd (T:=[124]) j2 d4.blk Do) Do).only (Zd.of_upd (T:=[124]) z1 af Do) Do).below q3.below).only (Zd.of_grown (T:=[124]) s6 h8 Do) Do
    have et:=w3.trans (jg.mono a0)
    have jw:=(Zd.grown_new ((Zd.upd_new (Zd.upd_new (((Zd.upd_new ((hO.trans m5).trans (Zd.of_below d2.below)) i3 z0).trans (Zd.of_below b8)).trans (Zd.of_below d4.below)) j2 y8) z1 y8).trans (Zd.of_below q3.below)) s6 h8)
    have r9:=((z1.blkT (j2.blkT (((i3.blk (g2.below d2.below) o3).below b8).below d4.below) d4.blk Do) af Do).below q3.below).grown s6 h8 Do
    exact ze 0 (u4 _ _ _ ⟨i+1,_,_,_,_,_,rfl,rfl,et,jw,r9,lh,hw,jr,by omega⟩ M0)
   have b0:(0:Int)=((Zn u m i).getD 0 Xt).1:=Jj i9 M0
   refine xlv 5 af.rp ?_
   refine xbs 0 1 [V0 0,.string ⟨(leB (↑(f+k+i):Int) 4).toArray⟩,V0 (↑(f+k+i):Int)] 124 fun ol oz s0=>?_
   have fx:=s0.ne af
   have fm:=j2.below (blB (blB (i3.below (blB (hB.trans m9) a0 d2.below) (N0 a0 z0)) a0 b8) a0 d4.below) (N0 a0 y8)
   have v1:=j2.own3 (Za o5 d4.below) f5
   have gl:=Zg v1 s0
   have h3:=Za v1 s0.below
   have u9:=blB fm a0 s0.below
   refine xbi 0 fun _ _ _ _ zJ zQ zo zx zy zK=>Zr (m:=1) (news:=[V0 0,.string ⟨(leB (↑(f+k+i):Int) 4).toArray⟩,V0 (↑(f+k+i):Int)]) (.agg #[V0 0,.string ⟨#[]⟩,V0 0]) 3 32 (i+1) ((upE u m (f+k) (i+1)).flatMap Yo) zo Tryz.underlying99 K0 rfl Do zx h3 zy (s0.blk.sl 1 1 Do Do) rfl (by simp[Value.oneCell']) (by unfold maxLen;omega) M0 u9.size (by rfl) (Pi (by first|exact e6|exact b0)) fun ox pf rv lc p9 ha=>?_
   refine zK _ _ ?_
   refine xwm 6 ((↑(i*m):Int)+(m:Int)) (↑((i*m)+m):Int) ?_
   refine xv1 3 10 (show(V0 (↑((i*m)+m):Int):Value)=V0 (↑((i+1)*m):Int) from by rw[D6,E0]) ?_
   have ir:=((((((hR.below d2.below).only (Zd.of_upd (T:=[44]) i3 d2.blk Do) Do).below b8).below d4.below).only (Zd.of_upd (T:=[124]) j2 d4.blk Do) Do).below s0.below).only (Zd.of_grown (T:=[124]) p9 h3 Do) Do
   have jl:=((((((hJ.below d2.below).only (Zd.of_upd (T:=[44]) i3 d2.blk Do) Do).below b8).below d4.below).only (Zd.of_upd (T:=[124]) j2 d4.blk Do) Do).below s0.below).only (Zd.of_grown (T:=[124]) p9 h3 Do) Do
   have co:=u9.trans (ha.mono a0)
   have jt:=(Zd.grown_new ((Zd.upd_new (((Zd.upd_new ((hO.trans m5).trans (Zd.of_below d2.below)) i3 z0).trans (Zd.of_below b8)).trans (Zd.of_below d4.below)) j2 y8).trans (Zd.of_below s0.below)) p9 h3)
   have q6:=((j2.blkT (((i3.blk (g2.below d2.below) o3).below b8).below d4.below) d4.blk Do).below s0.below).grown p9 h3 Do
   exact ze 0 (u4 _ _ _ ⟨i+1,_,_,_,_,_,rfl,rfl,co,jt,q6,lc,ir,jl,by omega⟩ M0)
  have o0:=of_decide_eq_false o0
  refine xlv 16 c5.rp ?_
  have i8:B3 W6 t5:=n2
  have ej:W4.heap.size≤W6.heap.size:=y3.size
  have w7:=Zf hK ej
  have bq:=Zf hV ej
  have i9:Vv u.length m i=j:=by omega
  have f9:(Zn u m i).length=j:=by rw[Vi,i9]
  have x7:(Xu (Zn u m i)).take j=Xu (Zn u m i):=A1 (by rw[Yh];omega)
  have x4:(Ym (Zn u m i)).take j=Ym (Zn u m i):=A1 (by rw[Gh];omega)
  rw[x7] at w7
  rw[x4] at bq
  have hN:=Mj hE ah ac hm hv (fun h=>by have:=dc h;omega) (show i<(ovN u.length m) by omega)
  have d9:=Mi hN
  rw[f9] at hN
  have y7:Jz m v (Qi t a1 j m v) (Xu (Zn u m i)) (Ym (Zn u m i)) j=Zhe t a1 m v (Zn u m i):=by rw[←f9];rfl
  refine xc 0 (args:=#[.agg #[V0 t,.bool a1,.slice kp j kc,.slice vp j vc]]) (Nu t a1 j m v (Xu (Zn u m i)) (Ym (Zn u m i)) kp vp kc vc _ hN (Ze w7) (Ze bq)) ?_
  rintro _ qj ⟨_,rfl,h7,p6,c6,rfl,h6⟩
  have ic:=(blB y3 a0 i8).size
  have ce:=Zf h6 ic
  rw[y7] at ce
  have hd:=(hR.below i8).below h7
  have ib:=(hJ.below i8).below h7
  have hO:=(o7.trans (Zd.of_below i8)).trans (Zd.of_below h7)
  have hB:=blB (blB y3 a0 i8) a0 h7
  refine xc 11 (args:=#[P0 bc,V0 2,.slice p6 244 c6]) (Cp B bc bm pg N cg fa mf fc f (k+i) p K cI (Zal t a1 m v u (f+k) b2 i) p6 c6 244 (Zhe t a1 m v (Zn u m i)) (f+k+i) _ (D4 _ _ _).symm d9 Do M0 hf hd ib (fun W _ hO=>Ya (Ze (Zi ce hO Do)) d9) (N0 a0 hB.size)) ?_
  rintro _ re ⟨a9,c9,ie,gu,gw,rfl,n7,m3,hR,hJ⟩
  refine xa 3 [S0,V0 0] 44 fun og pu d5=>?_
  have g0:=((c8.below i8).below h7).only m3 Do
  have o4:=d5.ne g0
  refine xsv 1 d5.blk [.slice a9 0 c9,V0 0] fun pr i0 mt=>?_
  have ai:=d5.ge0 (hB.trans n7)
  refine xb 6 1 mt ?_
  refine xc 9 (args:=#[V0 (↑(f+k+i):Int),V0 4]) (Xf ((f+k+i:Nat):Int) 4 4 _ M0 M0 rfl Do) ?_
  rintro _ rt ⟨_,rfl,c0,pk,ck,rfl,y4⟩
  have hx:=(i0.below (blB (hB.trans n7) a0 d5.below) (N0 a0 ai)).size
  have df:=Zf y4 hx
  refine Zj5 0 (fun _ _ _ zo zx=>Yt zo zx (Ya (Ze df) (Zj _ _)) (Zj _ _) Tryz.underlying50 Tryz.underlying5 Tryz.underlying9) ?_
  refine xa 2 [V0 0,.string ⟨#[]⟩,V0 0] 124 fun sp rk d0=>?_
  have m6:=Za (i0.own2 (Za (Zi (Za (Za x0 i8) h7) m3 Do) d5.below) d5.blk Do) c0
  have f6:=Zg m6 d0
  refine xsv 0 d0.blk [V0 0,.string ⟨(leB (↑(f+k+i):Int) 4).toArray⟩,V0 (↑(f+k+i):Int)] fun pd l3 ao=>?_
  have aj:=d0.ge0 (blB (i0.below (blB (hB.trans n7) a0 d5.below) (N0 a0 ai)) a0 c0)
  have h5:=l3.blkT (((i0.blkT (((c5.below h7).only m3 Do).below d5.below) d5.blk Do).below c0).below d0.below) d0.blk Do
  refine xb 6 2 h5 ?_
  refine xid 4 ((j:Int)>(0:Int)) (fun ih=>?_) (fun ih=>?_)
  ·have e6:((Xu (Zn u m i))).getD 0 0=((Zn u m i).getD 0 Xt).1:=Un i9 M0
   refine xb 2 2 h5 ?_
   have bw:=l3.own2 (Za (Za (i0.own2 (Za (Zi (Za w7 h7) m3 Do) d5.below) d5.blk Do) c0) d0.below) d0.blk Do
   refine xx 0 _ j 0 1 (IntsN.elem (Ze bw) (by rw[Yh,f9]) (k:=0) M0).1 ?_
   refine xl 0 ((IntsN.elem (Ze bw) (by rw[Yh,f9]) (k:=0) M0).2) ?_
   refine xs 1 ao [V0 ((Xu (Zn u m i)).getD 0 0),.string ⟨(leB (↑(f+k+i):Int) 4).toArray⟩,V0 (↑(f+k+i):Int)] fun sh ax kk=>?_
   refine xlv 5 kk.rp ?_
   refine xbs 0 1 [V0 ((Xu (Zn u m i)).getD 0 0),.string ⟨(leB (↑(f+k+i):Int) 4).toArray⟩,V0 (↑(f+k+i):Int)] 124 fun sc sf q9=>?_
   have fv:=q9.ne kk
   have dj:=ax.below (l3.below (blB (blB (i0.below (blB (hB.trans n7) a0 d5.below) (N0 a0 ai)) a0 c0) a0 d0.below) (N0 a0 aj)) (N0 a0 aj)
   have v2:=ax.own3 (l3.own3 (Za m6 d0.below) f6) f6
   have gk:=Zg v2 q9
   have g7:=Za v2 q9.below
   have s9:=blB dj a0 q9.below
   refine xbi 0 fun _ _ _ _ zJ zQ zo zx zy zK=>Zr (m:=1) (news:=[V0 ((Xu (Zn u m i)).getD 0 0),.string ⟨(leB (↑(f+k+i):Int) 4).toArray⟩,V0 (↑(f+k+i):Int)]) (.agg #[V0 0,.string ⟨#[]⟩,V0 0]) 3 32 (i+1) ((upE u m (f+k) (i+1)).flatMap Yo) zo Tryz.underlying99 K0 rfl Do zx g7 zy (q9.blk.sl 1 1 Do Do) rfl (by simp[Value.oneCell']) (by unfold maxLen;omega) M0 s9.size (by rfl) (Pi (by first|exact e6|exact b0)) fun ri sm rl mi q8 jp=>?_
   refine zK _ _ ?_
   refine xwm 6 ((↑(i*m):Int)+(m:Int)) (↑((i*m)+m):Int) ?_
   refine xv1 3 10 (show(V0 (↑((i*m)+m):Int):Value)=V0 (↑((i+1)*m):Int) from by rw[D6,E0]) ?_
   have hp:=(((((((hR.below d5.below).only (Zd.of_upd (T:=[44]) i0 d5.blk Do) Do).below c0).below d0.below).only (Zd.of_upd (T:=[124]) l3 d0.blk Do) Do).only (Zd.of_upd (T:=[124]) ax ao Do) Do).below q9.below).only (Zd.of_grown (T:=[124]) q8 g7 Do) Do
   have js:=(((((((hJ.below d5.below).only (Zd.of_upd (T:=[44]) i0 d5.blk Do) Do).below c0).below d0.below).only (Zd.of_upd (T:=[124]) l3 d0.blk Do) Do).only (Zd.of_upd (T:=[124]) ax ao Do) Do).below q9.below).only (Zd.of_grown (T:=[124]) q8 g7 Do) Do
   have bi:=s9.trans (jp.mono a0)
   have il:=(Zd.grown_new ((Zd.upd_new (Zd.upd_new (((Zd.upd_new ((hO.trans m3).trans (Zd.of_below d5.below)) i0 ai).trans (Zd.of_below c0)).trans (Zd.of_below d0.below)) l3 aj) ax aj).trans (Zd.of_below q9.below)) q8 g7)
   have s1:=((ax.blkT (l3.blkT (((i0.blk (g0.below d5.below) o4).below c0).below d0.below) d0.blk Do) ao Do).below q9.below).grown q8 g7 Do
   exact ze 0 (u4 _ _ _ ⟨i+1,_,_,_,_,_,rfl,rfl,bi,il,s1,mi,hp,js,by omega⟩ M0)
  have b0:(0:Int)=((Zn u m i).getD 0 Xt).1:=Jj i9 M0
  refine xlv 5 ao.rp ?_
  refine xbs 0 1 [V0 0,.string ⟨(leB (↑(f+k+i):Int) 4).toArray⟩,V0 (↑(f+k+i):Int)] 124 fun rf ov r2=>?_
  have gb:=r2.ne ao
  have dl:=l3.below (blB (blB (i0.below (blB (hB.trans n7) a0 d5.below) (N0 a0 ai)) a0 c0) a0 d0.below) (N0 a0 aj)
  have u6:=l3.own3 (Za m6 d0.below) f6
  have fu:=Zg u6 r2
  have d8:=Za u6 r2.below
  have u1:=blB dl a0 r2.below
  refine xbi 0 fun _ _ _ _ zJ zQ zo zx zy zK=>Zr (m:=1) (news:=[V0 0,.string ⟨(leB (↑(f+k+i):Int) 4).toArray⟩,V0 (↑(f+k+i):Int)]) (.agg #[V0 0,.string ⟨#[]⟩,V0 0]) 3 32 (i+1) ((upE u m (f+k) (i+1)).flatMap Yo) zo Tryz.underlying99 K0 rfl Do zx d8 zy (r2.blk.sl 1 1 Do Do) rfl (by simp[Value.oneCell']) (by unfold maxLen;omega) M0 u1.size (by rfl) (Pi (by first|exact e6|exact b0)) fun pa qx ro na r1 jx=>?_
  refine zK _ _ ?_
  refine xwm 6 ((↑(i*m):Int)+(m:Int)) (↑((i*m)+m):Int) ?_
  refine xv1 3 10 (show(V0 (↑((i*m)+m):Int):Value)=V0 (↑((i+1)*m):Int) from by rw[D6,E0]) ?_
  have jq:=((((((hR.below d5.below).only (Zd.of_upd (T:=[44]) i0 d5.blk Do) Do).below c0).below d0.below).only (Zd.of_upd (T:=[124]) l3 d0.blk Do) Do).below r2.below).only (Zd.of_grown (T:=[124]) r1 d8 Do) Do
  have im:=((((((hJ.below d5.below).only (Zd.of_upd (T:=[44]) i0 d5.blk Do) Do).below c0).below d0.below).only (Zd.of_upd (T:=[124]) l3 d0.blk Do) Do).below r2.below).only (Zd.of_grown (T:=[124]) r1 d8 Do) Do
  have ey:=u1.trans (jx.mono a0)
  have hc:=(Zd.grown_new ((Zd.upd_new (((Zd.upd_new ((hO.trans m3).trans (Zd.of_below d5.below)) i0 ai).trans (Zd.of_below c0)).trans (Zd.of_below d0.below)) l3 aj).trans (Zd.of_below r2.below)) r1 d8)
  have q4:=((l3.blkT (((i0.blk (g0.below d5.below) o4).below c0).below d0.below) d0.blk Do).below r2.below).grown r1 d8 Do
  exact ze 0 (u4 _ _ _ ⟨i+1,_,_,_,_,_,rfl,rfl,ey,hc,q4,na,jq,im,by omega⟩ M0)
 have ff:=of_decide_eq_false ff
 refine xie 5 (↑(i*m):Int) (0:Int) (fun gx=>?_) (fun gx=>?_)
 ·have i4:=s2
  have i7:=s7
  refine xa 8 [V0 0,.bool false,S0,S0] 191 fun kn rj gs=>?_
  refine xsv 0 gs.blk [V0 t,.bool a1,S0,S0] fun nz mh lb=>?_
  have l6:=gs.ge (B4 W6)
  have hB:=mh.below gs.below l6
  refine zl 10 128 (fun zm x2 V=>∃ (j:Nat) (kp:O0) (kc:Nat) (vp:O0) (vc:Nat),x2=[(0,P0 bc),(1,V0 t),(2,.slice a2 u.length c2),(7,P0 b1),(8,.bool a1),(9,.slice p4 i c4),(10,V0 (↑(i*m):Int)),(11,V0 (m:Int)),(12,P0 kn),(13,V0 (↑(i*m+j):Int))]∧zm=m-j∧B3 W6 V∧Blk V kn ([V0 t,.bool a1,.slice kp j kc,.slice vp j vc]) 191∧V.ownsRow W6.heap.size 3 1 (.slice kp j kc) j (((Xu (Zn u m i)).take j).map V0)∧V.ownsRow W6.heap.size 9 1 (.slice vp j vc) j (((Ym (Zn u m i)).take j).map sv)∧j≤Vv u.length m i) ⟨0,none,0,none,0,rfl,rfl,hB,lb,A4 _ _ _ _,A4 _ _ _ _,A3 _⟩ ?_
  rintro _ _ v6 ⟨j,kp,kc,vp,vc,rfl,rfl,n8,b6,hK,hV,hj⟩ oa r3 nr
  have ll:Vv u.length m i=min m (u.length-i*m):=rfl
  have jy:=Vi u m i
  have m1:j<Vv u.length m i→(Zn u m i).getD j Xt=u.getD (i*m+j) Xt:=Uh
  refine xg 8 [53,54] (decide ((↑(i*m+j):Int)<(u.length:Int))) (fun o9=>?_) (fun o9=>?_)
  ·have o9:=of_decide_eq_true o9
   refine xwm 3 ((↑(i*m):Int)+(m:Int)) (↑((i*m)+m):Int) ?_
   refine xid 4 ((↑(i*m+j):Int)<(↑((i*m)+m):Int)) (fun gt=>?_) (fun gt=>?_)
   ·refine xd 5 (.t W6.heap.size [3,191]) ?_
    have a7:=km _ i4 i7
    refine xx (.e [0,2,3] 4) _ u.length (i*m+j) 3 (Sts.cell a7 Xg Xt (k:=(i*m+j)) (i:=0) M0 rfl).1 ?_
    have k9:=Za hV (Zb v6)
    have m8:=bln n8 (Zb v6)
    refine xlt (.e [5] 6) (.t W6.heap.size [3,191]) (fun V k9=>(Sts.cell (a7.below (Vm m8 k9 (A6 _))) Xg Xt (k:=(i*m+j)) (i:=0) M0 rfl).2) ?_
    refine xm2 0 1 7 ?_ ?_
    ·have e8:=b6.below (Zb v6)
     refine xb 0 2 e8 ?_
     refine xbs (.o [] 7) 1 [V0 ((u.getD (i*m+j) Xt).1)] 3 fun qs oy az=>?_
     have ci:=Za hK (Zb v6)
     have io:=Zg ci az
     have l2:=Za ci az.below
     have u7:=bln m8 az.below
     refine ybi (.o [] 8) (.t W6.heap.size [3,191]) fun _ _ _ _ zJ zQ zo zx zy zK=>Zr (m:=1) (news:=[V0 ((u.getD (i*m+j) Xt).1)]) (V0 0) 1 8 (j+1) (((Xu (Zn u m i)).take (j+1)).map V0) zo Tryz.underlying27 K0 rfl Do zx l2 zy (az.blk.sl 1 1 Do Do) rfl (by simp[Value.oneCell']) (by unfold maxLen;omega) M0 u7.size (by rfl) (by rw[Uo M0,m1 M0]) fun iu gp qt kr x9 er=>?_
     refine zK _ _ (Zt er x9 l2 Do) ?_
     have a6:=(e8.below az.below).grown x9 l2 Do
     refine ys (.o [9] 10) a6 [V0 t,.bool a1,.slice iu (j+1) gp,.slice vp j vc] (.t W6.heap.size [3,191]) fun z5 es kl=>⟨(Xb es a6 l6 Do),?_⟩
     refine xd 2 (.t W6.heap.size [9,191]) ?_
     refine xx (.e [0,2,3] 4) _ u.length (i*m+j) 3 (Sts.cell a7 Xg Xt (k:=(i*m+j)) (i:=0) M0 rfl).1 ?_
     have f3:=Za (es.own2 (Zp (Za k9 az.below) x9 l2 Do) a6 Do) (Zb z5)
     have o2:=bln (es.below (u7.trans er) l6) (Zb z5)
     refine xlt (.e [5] 6) (.t W6.heap.size [9,191]) (fun V f3=>(Sts.cell (a7.below (Vm o2 f3 (A6 _))) Xg Xt (k:=(i*m+j)) (i:=1) M0 rfl).2) ?_
     refine xm2 0 1 7 ?_ ?_
     ·have u3:=kl.below (Zb z5)
      refine xb 0 3 u3 ?_
      refine xbs (.o [] 7) 1 [.string ⟨((u.getD (i*m+j) Xt).2.1).toArray⟩] 9 fun rz qh al=>?_
      have gv:=Zg f3 al
      have j3:=Za f3 al.below
      have t7:=bln o2 al.below
      refine ybi (.o [] 8) (.t W6.heap.size [9,191]) fun _ _ _ _ zJ zQ zo zx zy zK=>Zr (m:=1) (news:=[.string ⟨((u.getD (i*m+j) Xt).2.1).toArray⟩]) (.string ⟨#[]⟩) 1 16 (j+1) (((Ym (Zn u m i)).take (j+1)).map sv) zo Tryz.underlying109 K0 rfl Do zx j3 zy (al.blk.sl 1 1 Do Do) rfl (by simp[Value.oneCell']) (by unfold maxLen;omega) M0 t7.size (by rfl) (by rw[Ki M0,m1 M0]) fun ku mn ry mw x1 cj=>?_
      refine zK _ _ (Zt cj x1 j3 Do) ?_
      have j4:=(u3.below al.below).grown x1 j3 Do
      refine ys (.o [9] 10) j4 [V0 t,.bool a1,.slice iu (j+1) gp,.slice ku (j+1) mn] (.t W6.heap.size [9,191]) fun pb fz mz=>⟨(Xb fz j4 l6 Do),?_⟩
      refine xwm 5 ((↑(i*m+j):Int)+1) (↑((i*m+j)+1):Int) ?_
      have bg:=fz.below (t7.trans cj) l6
      have cb:=fz.own2 (Zp (Za (Za (es.own2 kr a6 Do) (Zb z5)) al.below) x1 j3 Do) j4 Do
      have dw:=fz.own2 mw j4 Do
      exact ze 2 (r3 _ _ _ ⟨j+1,_,_,_,_,rfl,rfl,bg,mz,cb,dw,by omega⟩ M0)
     refine xbs 0 1 [.string ⟨((u.getD (i*m+j) Xt).2.1).toArray⟩] 9 fun px sn y9=>?_
     have jc:=Zg f3 y9
     have t8:=(kl.below (Zb z5)).below y9.below
     refine xb (.o [] 1) 3 t8 ?_
     have k6:=Za f3 y9.below
     have v4:=bln o2 y9.below
     refine ybi (.o [] 8) (.t W6.heap.size [9,191]) fun _ _ _ _ zJ zQ zo zx zy zK=>Zr (m:=1) (news:=[.string ⟨((u.getD (i*m+j) Xt).2.1).toArray⟩]) (.string ⟨#[]⟩) 1 16 (j+1) (((Ym (Zn u m i)).take (j+1)).map sv) zo Tryz.underlying109 K0 rfl Do zx k6 zy (y9.blk.sl 1 1 Do Do) rfl (by simp[Value.oneCell']) (by unfold maxLen;omega) M0 v4.size (by rfl) (by rw[Ki M0,m1 M0]) fun ks nj oo nh x5 bk=>?_
     refine zK _ _ (Zt bk x5 k6 Do) ?_
     have j5:=t8.grown x5 k6 Do
     refine ys (.o [9] 10) j5 [V0 t,.bool a1,.slice iu (j+1) gp,.slice ks (j+1) nj] (.t W6.heap.size [9,191]) fun op gm mv=>⟨(Xb gm j5 l6 Do),?_⟩
     refine xwm 5 ((↑(i*m+j):Int)+1) (↑((i*m+j)+1):Int) ?_
     have dg:=gm.below (v4.trans bk) l6
     have cd:=gm.own2 (Zp (Za (Za (es.own2 kr a6 Do) (Zb z5)) y9.below) x5 k6 Do) j5 Do
     have cp:=gm.own2 nh j5 Do
     exact ze 2 (r3 _ _ _ ⟨j+1,_,_,_,_,rfl,rfl,dg,mv,cd,cp,by omega⟩ M0)
    refine xbs 0 1 [V0 ((u.getD (i*m+j) Xt).1)] 3 fun qp pl z6=>?_
    have t4:=Za hK (Zb v6)
    have ig:=Zg t4 z6
    have f0:=(b6.below (Zb v6)).below z6.below
    refine xb (.o [] 1) 2 f0 ?_
    have k4:=Za t4 z6.below
    have t2:=bln m8 z6.below
    refine ybi (.o [] 8) (.t W6.heap.size [3,191]) fun _ _ _ _ zJ zQ zo zx zy zK=>Zr (m:=1) (news:=[V0 ((u.getD (i*m+j) Xt).1)]) (V0 0) 1 8 (j+1) (((Xu (Zn u m i)).take (j+1)).map V0) zo Tryz.underlying27 K0 rfl Do zx k4 zy (z6.blk.sl 1 1 Do Do) rfl (by simp[Value.oneCell']) (by unfold maxLen;omega) M0 t2.size (by rfl) (by rw[Uo M0,m1 M0]) fun jk ik qv kg y0 cu=>?_
    refine zK _ _ (Zt cu y0 k4 Do) ?_
    have a8:=f0.grown y0 k4 Do
    refine ys (.o [9] 10) a8 [V0 t,.bool a1,.slice jk (j+1) ik,.slice vp j vc] (.t W6.heap.size [3,191]) fun av de ke=>⟨(Xb de a8 l6 Do),?_⟩
    refine xd 2 (.t W6.heap.size [9,191]) ?_
    refine xx (.e [0,2,3] 4) _ u.length (i*m+j) 3 (Sts.cell a7 Xg Xt (k:=(i*m+j)) (i:=0) M0 rfl).1 ?_
    have e7:=Za (de.own2 (Zp (Za k9 z6.below) y0 k4 Do) a8 Do) (Zb av)
    have p2:=bln (de.below (t2.trans cu) l6) (Zb av)
    refine xlt (.e [5] 6) (.t W6.heap.size [9,191]) (fun V e7=>(Sts.cell (a7.below (Vm p2 e7 (A6 _))) Xg Xt (k:=(i*m+j)) (i:=1) M0 rfl).2) ?_
    refine xm2 0 1 7 ?_ ?_
    ·have v3:=ke.below (Zb av)
     refine xb 0 3 v3 ?_
     refine xbs (.o [] 7) 1 [.string ⟨((u.getD (i*m+j) Xt).2.1).toArray⟩] 9 fun pm sj z3=>?_
     have gq:=Zg e7 z3
     have j8:=Za e7 z3.below
     have u2:=bln p2 z3.below
     refine ybi (.o [] 8) (.t W6.heap.size [9,191]) fun _ _ _ _ zJ zQ zo zx zy zK=>Zr (m:=1) (news:=[.string ⟨((u.getD (i*m+j) Xt).2.1).toArray⟩]) (.string ⟨#[]⟩) 1 16 (j+1) (((Ym (Zn u m i)).take (j+1)).map sv) zo Tryz.underlying109 K0 rfl Do zx j8 zy (z3.blk.sl 1 1 Do Do) rfl (by simp[Value.oneCell']) (by unfold maxLen;omega) M0 u2.size (by rfl) (by rw[Ki M0,m1 M0]) fun ng nb rx mj w4 da=>?_
     refine zK _ _ (Zt da w4 j8 Do) ?_
     have k5:=(v3.below z3.below).grown w4 j8 Do
     refine ys (.o [9] 10) k5 [V0 t,.bool a1,.slice jk (j+1) ik,.slice ng (j+1) nb] (.t W6.heap.size [9,191]) fun rh gn nl=>⟨(Xb gn k5 l6 Do),?_⟩
     refine xwm 5 ((↑(i*m+j):Int)+1) (↑((i*m+j)+1):Int) ?_
     have cq:=gn.below (u2.trans da) l6
     have fd:=gn.own2 (Zp (Za (Za (de.own2 kg a8 Do) (Zb av)) z3.below) w4 j8 Do) k5 Do
     have fq:=gn.own2 mj k5 Do
     exact ze 2 (r3 _ _ _ ⟨j+1,_,_,_,_,rfl,rfl,cq,nl,fd,fq,by omega⟩ M0)
    refine xbs 0 1 [.string ⟨((u.getD (i*m+j) Xt).2.1).toArray⟩] 9 fun ot pw aq=>?_
    have jz:=Zg e7 aq
    have v7:=(ke.below (Zb av)).below aq.below
    refine xb (.o [] 1) 3 v7 ?_
    have l1:=Za e7 aq.below
    have t3:=bln p2 aq.below
    refine ybi (.o [] 8) (.t W6.heap.size [9,191]) fun _ _ _ _ zJ zQ zo zx zy zK=>Zr (m:=1) (news:=[.string ⟨((u.getD (i*m+j) Xt).2.1).toArray⟩]) (.string ⟨#[]⟩) 1 16 (j+1) (((Ym (Zn u m i)).take (j+1)).map sv) zo Tryz.underlying109 K0 rfl Do zx l1 zy (aq.blk.sl 1 1 Do Do) rfl (by simp[Value.oneCell']) (by unfold maxLen;omega) M0 t3.size (by rfl) (by rw[Ki M0,m1 M0]) fun mu ls rd lx y1 du=>?_
    refine zK _ _ (Zt du y1 l1 Do) ?_
    have j6:=v7.grown y1 l1 Do
    refine ys (.o [9] 10) j6 [V0 t,.bool a1,.slice jk (j+1) ik,.slice mu (j+1) ls] (.t W6.heap.size [9,191]) fun qw gi np=>⟨(Xb gi j6 l6 Do),?_⟩
    refine xwm 5 ((↑(i*m+j):Int)+1) (↑((i*m+j)+1):Int) ?_
    have cn:=gi.below (t3.trans du) l6
    have ca:=gi.own2 (Zp (Za (Za (de.own2 kg a8 Do) (Zb av)) aq.below) y1 l1 Do) j6 Do
    have cx:=gi.own2 lx j6 Do
    exact ze 2 (r3 _ _ _ ⟨j+1,_,_,_,_,rfl,rfl,cn,np,ca,cx,by omega⟩ M0)
   refine xlv 7 b6.rp ?_
   have i6:B3 W6 v6:=n8
   have dq:W4.heap.size≤W6.heap.size:=i4.size
   have n3:=Zf hK dq
   have s8:=Zf hV dq
   have i9:Vv u.length m i=j:=by omega
   have f9:(Zn u m i).length=j:=by rw[Vi,i9]
   have x7:(Xu (Zn u m i)).take j=Xu (Zn u m i):=A1 (by rw[Yh];omega)
   have x4:(Ym (Zn u m i)).take j=Ym (Zn u m i):=A1 (by rw[Gh];omega)
   rw[x7] at n3
   rw[x4] at s8
   have hN:=Mj hE ah ac hm hv (fun h=>by have:=dc h;omega) (show i<(ovN u.length m) by omega)
   have d9:=Mi hN
   rw[f9] at hN
   have y7:Jz m v (Qi t a1 j m v) (Xu (Zn u m i)) (Ym (Zn u m i)) j=Zhe t a1 m v (Zn u m i):=by rw[←f9];rfl
   refine xc 0 (args:=#[.agg #[V0 t,.bool a1,.slice kp j kc,.slice vp j vc]]) (Nu t a1 j m v (Xu (Zn u m i)) (Ym (Zn u m i)) kp vp kc vc _ hN (Ze n3) (Ze s8)) ?_
   rintro _ po ⟨_,rfl,g5,p6,c6,rfl,h6⟩
   have hb:=(blB i4 a0 i6).size
   have ep:=Zf h6 hb
   rw[y7] at ep
   have ec:=(hR.below i6).below g5
   have jj:=(hJ.below i6).below g5
   have hO:=(i7.trans (Zd.of_below i6)).trans (Zd.of_below g5)
   have hB:=blB (blB i4 a0 i6) a0 g5
   refine xc 11 (args:=#[P0 bc,V0 2,.slice p6 244 c6]) (Cp B bc bm pg N cg fa mf fc f (k+i) p K cI (Zal t a1 m v u (f+k) b2 i) p6 c6 244 (Zhe t a1 m v (Zn u m i)) (f+k+i) _ (D4 _ _ _).symm d9 Do M0 hf ec jj (fun W _ hO=>Ya (Ze (Zi ep hO Do)) d9) (N0 a0 hB.size)) ?_
   rintro _ pj ⟨a9,c9,ie,gu,gw,rfl,n5,m4,hR,hJ⟩
   refine xa 3 [S0,V0 0] 44 fun ob qn d3=>?_
   have f8:=((c8.below i6).below g5).only m4 Do
   have n0:=d3.ne f8
   refine xsv 1 d3.blk [.slice a9 0 c9,V0 0] fun ok i2 kw=>?_
   have ap:=d3.ge0 (hB.trans n5)
   refine xb 6 1 kw ?_
   refine xc 9 (args:=#[V0 (↑(f+k+i):Int),V0 4]) (Xf ((f+k+i:Nat):Int) 4 4 _ M0 M0 rfl Do) ?_
   rintro _ qy ⟨_,rfl,c1,pk,ck,rfl,y4⟩
   have jd:=(i2.below (blB (hB.trans n5) a0 d3.below) (N0 a0 ap)).size
   have cl:=Zf y4 jd
   refine Zj5 0 (fun _ _ _ zo zx=>Yt zo zx (Ya (Ze cl) (Zj _ _)) (Zj _ _) Tryz.underlying50 Tryz.underlying5 Tryz.underlying9) ?_
   refine xa 2 [V0 0,.string ⟨#[]⟩,V0 0] 124 fun od rg d1=>?_
   have i5:=Za (i2.own2 (Za (Zi (Za (Za x0 i6) g5) m4 Do) d3.below) d3.blk Do) c1
   have f7:=Zg i5 d1
   refine xsv 0 d1.blk [V0 0,.string ⟨(leB (↑(f+k+i):Int) 4).toArray⟩,V0 (↑(f+k+i):Int)] fun rq j7 aa=>?_
   have z2:=d1.ge0 (blB (i2.below (blB (hB.trans n5) a0 d3.below) (N0 a0 ap)) a0 c1)
   have f1:=j7.blkT (((i2.blkT (((b6.below g5).only m4 Do).below d3.below) d3.blk Do).below c1).below d1.below) d1.blk Do
   refine xb 6 2 f1 ?_
   refine xid 4 ((j:Int)>(0:Int)) (fun ji=>?_) (fun ji=>?_)
   ·have e6:((Xu (Zn u m i))).getD 0 0=((Zn u m i).getD 0 Xt).1:=Un i9 M0
    refine xb 2 2 f1 ?_
    have v8:=j7.own2 (Za (Za (i2.own2 (Za (Zi (Za n3 g5) m4 Do) d3.below) d3.blk Do) c1) d1.below) d1.blk Do
    refine xx 0 _ j 0 1 (IntsN.elem (Ze v8) (by rw[Yh,f9]) (k:=0) M0).1 ?_
    refine xl 0 ((IntsN.elem (Ze v8) (by rw[Yh,f9]) (k:=0) M0).2) ?_
    refine xs 1 aa [V0 ((Xu (Zn u m i)).getD 0 0),.string ⟨(leB (↑(f+k+i):Int) 4).toArray⟩,V0 (↑(f+k+i):Int)] fun rb ab ko=>?_
    refine xlv 5 ko.rp ?_
    refine xbs 0 1 [V0 ((Xu (Zn u m i)).getD 0 0),.string ⟨(leB (↑(f+k+i):Int) 4).toArray⟩,V0 (↑(f+k+i):Int)] 124 fun qa sa r8=>?_
    have gd:=r8.ne ko
    have bu:=ab.below (j7.below (blB (blB (i2.below (blB (hB.trans n5) a0 d3.below) (N0 a0 ap)) a0 c1) a0 d1.below) (N0 a0 z2)) (N0 a0 z2)
    have o6:=ab.own3 (j7.own3 (Za i5 d1.below) f7) f7
    have fy:=Zg o6 r8
    have e5:=Za o6 r8.below
    have w2:=blB bu a0 r8.below
    refine xbi 0 fun _ _ _ _ zJ zQ zo zx zy zK=>Zr (m:=1) (news:=[V0 ((Xu (Zn u m i)).getD 0 0),.string ⟨(leB (↑(f+k+i):Int) 4).toArray⟩,V0 (↑(f+k+i):Int)]) (.agg #[V0 0,.string ⟨#[]⟩,V0 0]) 3 32 (i+1) ((upE u m (f+k) (i+1)).flatMap Yo) zo Tryz.underlying99 K0 rfl Do zx e5 zy (r8.blk.sl 1 1 Do Do) rfl (by simp[Value.oneCell']) (by unfold maxLen;omega) M0 w2.size (by rfl) (Pi (by first|exact e6|exact b0)) fun oq oj oc ln r5 iy=>?_
    refine zK _ _ ?_
    refine xwm 6 ((↑(i*m):Int)+(m:Int)) (↑((i*m)+m):Int) ?_
    refine xv1 3 10 (show(V0 (↑((i*m)+m):Int):Value)=V0 (↑((i+1)*m):Int) from by rw[D6,E0]) ?_
    have ct:=(((((((hR.below d3.below).only (Zd.of_upd (T:=[44]) i2 d3.blk Do) Do).below c1).below d1.below).only (Zd.of_upd (T:=[124]) j7 d1.blk Do) Do).only (Zd.of_upd (T:=[124]) ab aa Do) Do).below r8.below).only (Zd.of_grown (T:=[124]) r5 e5 Do) Do
    have cv:=(((((((hJ.below d3.below).only (Zd.of_upd (T:=[44]) i2 d3.blk Do) Do).below c1).below d1.below).only (Zd.of_upd (T:=[124]) j7 d1.blk Do) Do).only (Zd.of_upd (T:=[124]) ab aa Do) Do).below r8.below).only (Zd.of_grown (T:=[124]) r5 e5 Do) Do
    have dd:=w2.trans (iy.mono a0)
    have jn:=(Zd.grown_new ((Zd.upd_new (Zd.upd_new (((Zd.upd_new ((hO.trans m4).trans (Zd.of_below d3.below)) i2 ap).trans (Zd.of_below c1)).trans (Zd.of_below d1.below)) j7 z2) ab z2).trans (Zd.of_below r8.below)) r5 e5)
    have q2:=((ab.blkT (j7.blkT (((i2.blk (f8.below d3.below) n0).below c1).below d1.below) d1.blk Do) aa Do).below r8.below).grown r5 e5 Do
    exact ze 0 (u4 _ _ _ ⟨i+1,_,_,_,_,_,rfl,rfl,dd,jn,q2,ln,ct,cv,by omega⟩ M0)
   have b0:(0:Int)=((Zn u m i).getD 0 Xt).1:=Jj i9 M0
   refine xlv 5 aa.rp ?_
   refine xbs 0 1 [V0 0,.string ⟨(leB (↑(f+k+i):Int) 4).toArray⟩,V0 (↑(f+k+i):Int)] 124 fun rc nt q5=>?_
   have gh:=q5.ne aa
   have el:=j7.below (blB (blB (i2.below (blB (hB.trans n5) a0 d3.below) (N0 a0 ap)) a0 c1) a0 d1.below) (N0 a0 z2)
   have o8:=j7.own3 (Za i5 d1.below) f7
   have ft:=Zg o8 q5
   have e0:=Za o8 q5.below
   have w1:=blB el a0 q5.below
   refine xbi 0 fun _ _ _ _ zJ zQ zo zx zy zK=>Zr (m:=1) (news:=[V0 0,.string ⟨(leB (↑(f+k+i):Int) 4).toArray⟩,V0 (↑(f+k+i):Int)]) (.agg #[V0 0,.string ⟨#[]⟩,V0 0]) 3 32 (i+1) ((upE u m (f+k) (i+1)).flatMap Yo) zo Tryz.underlying99 K0 rfl Do zx e0 zy (q5.blk.sl 1 1 Do Do) rfl (by simp[Value.oneCell']) (by unfold maxLen;omega) M0 w1.size (by rfl) (Pi (by first|exact e6|exact b0)) fun oh pz qm lv r7 ii=>?_
   refine zK _ _ ?_
   refine xwm 6 ((↑(i*m):Int)+(m:Int)) (↑((i*m)+m):Int) ?_
   refine xv1 3 10 (show(V0 (↑((i*m)+m):Int):Value)=V0 (↑((i+1)*m):Int) from by rw[D6,E0]) ?_
   have fj:=((((((hR.below d3.below).only (Zd.of_upd (T:=[44]) i2 d3.blk Do) Do).below c1).below d1.below).only (Zd.of_upd (T:=[124]) j7 d1.blk Do) Do).below q5.below).only (Zd.of_grown (T:=[124]) r7 e0 Do) Do
   have bl:=((((((hJ.below d3.below).only (Zd.of_upd (T:=[44]) i2 d3.blk Do) Do).below c1).below d1.below).only (Zd.of_upd (T:=[124]) j7 d1.blk Do) Do).below q5.below).only (Zd.of_grown (T:=[124]) r7 e0 Do) Do
   have db:=w1.trans (ii.mono a0)
   have ju:=(Zd.grown_new ((Zd.upd_new (((Zd.upd_new ((hO.trans m4).trans (Zd.of_below d3.below)) i2 ap).trans (Zd.of_below c1)).trans (Zd.of_below d1.below)) j7 z2).trans (Zd.of_below q5.below)) r7 e0)
   have r0:=((j7.blkT (((i2.blk (f8.below d3.below) n0).below c1).below d1.below) d1.blk Do).below q5.below).grown r7 e0 Do
   exact ze 0 (u4 _ _ _ ⟨i+1,_,_,_,_,_,rfl,rfl,db,ju,r0,lv,fj,bl,by omega⟩ M0)
  have o9:=of_decide_eq_false o9
  refine xlv 16 b6.rp ?_
  have j0:B3 W6 v6:=n8
  have ds:W4.heap.size≤W6.heap.size:=i4.size
  have n4:=Zf hK ds
  have u5:=Zf hV ds
  have i9:Vv u.length m i=j:=by omega
  have f9:(Zn u m i).length=j:=by rw[Vi,i9]
  have x7:(Xu (Zn u m i)).take j=Xu (Zn u m i):=A1 (by rw[Yh];omega)
  have x4:(Ym (Zn u m i)).take j=Ym (Zn u m i):=A1 (by rw[Gh];omega)
  rw[x7] at n4
  rw[x4] at u5
  have hN:=Mj hE ah ac hm hv (fun h=>by have:=dc h;omega) (show i<(ovN u.length m) by omega)
  have d9:=Mi hN
  rw[f9] at hN
  have y7:Jz m v (Qi t a1 j m v) (Xu (Zn u m i)) (Ym (Zn u m i)) j=Zhe t a1 m v (Zn u m i):=by rw[←f9];rfl
  refine xc 0 (args:=#[.agg #[V0 t,.bool a1,.slice kp j kc,.slice vp j vc]]) (Nu t a1 j m v (Xu (Zn u m i)) (Ym (Zn u m i)) kp vp kc vc _ hN (Ze n4) (Ze u5)) ?_
  rintro _ lp ⟨_,rfl,c7,p6,c6,rfl,h6⟩
  have en:=(blB i4 a0 j0).size
  have fe:=Zf h6 en
  rw[y7] at fe
  have dz:=(hR.below j0).below c7
  have bb:=(hJ.below j0).below c7
  have hO:=(i7.trans (Zd.of_below j0)).trans (Zd.of_below c7)
  have hB:=blB (blB i4 a0 j0) a0 c7
  refine xc 11 (args:=#[P0 bc,V0 2,.slice p6 244 c6]) (Cp B bc bm pg N cg fa mf fc f (k+i) p K cI (Zal t a1 m v u (f+k) b2 i) p6 c6 244 (Zhe t a1 m v (Zn u m i)) (f+k+i) _ (D4 _ _ _).symm d9 Do M0 hf dz bb (fun W _ hO=>Ya (Ze (Zi fe hO Do)) d9) (N0 a0 hB.size)) ?_
  rintro _ lu ⟨a9,c9,ie,gu,gw,rfl,g8,e9,hR,hJ⟩
  refine xa 3 [S0,V0 0] 44 fun lq lo a4=>?_
  have e3:=((c8.below j0).below c7).only e9 Do
  have l4:=a4.ne e3
  refine xsv 1 a4.blk [.slice a9 0 c9,V0 0] fun ma b7 ja=>?_
  have l7:=a4.ge0 (hB.trans g8)
  refine xb 6 1 ja ?_
  refine xc 9 (args:=#[V0 (↑(f+k+i):Int),V0 4]) (Xf ((f+k+i:Nat):Int) 4 4 _ M0 M0 rfl Do) ?_
  rintro _ mq ⟨_,rfl,a5,pk,ck,rfl,y4⟩
  have ef:=(b7.below (blB (hB.trans g8) a0 a4.below) (N0 a0 l7)).size
  have bx:=Zf y4 ef
  refine Zj5 0 (fun _ _ _ zo zx=>Yt zo zx (Ya (Ze bx) (Zj _ _)) (Zj _ _) Tryz.underlying50 Tryz.underlying5 Tryz.underlying9) ?_
  refine xa 2 [V0 0,.string ⟨#[]⟩,V0 0] 124 fun mc la a3=>?_
  have i1:=Za (b7.own2 (Za (Zi (Za (Za x0 j0) c7) e9 Do) a4.below) a4.blk Do) a5
  have d7:=Zg i1 a3
  refine xsv 0 a3.blk [V0 0,.string ⟨(leB (↑(f+k+i):Int) 4).toArray⟩,V0 (↑(f+k+i):Int)] fun nn c3 l8=>?_
  have m0:=a3.ge0 (blB (b7.below (blB (hB.trans g8) a0 a4.below) (N0 a0 l7)) a0 a5)
  have f2:=c3.blkT (((b7.blkT (((b6.below c7).only e9 Do).below a4.below) a4.blk Do).below a5).below a3.below) a3.blk Do
  refine xb 6 2 f2 ?_
  refine xid 4 ((j:Int)>(0:Int)) (fun dk=>?_) (fun dk=>?_)
  ·have e6:((Xu (Zn u m i))).getD 0 0=((Zn u m i).getD 0 Xt).1:=Un i9 M0
   refine xb 2 2 f2 ?_
   have t0:=c3.own2 (Za (Za (b7.own2 (Za (Zi (Za n4 c7) e9 Do) a4.below) a4.blk Do) a5) a3.below) a3.blk Do
   refine xx 0 _ j 0 1 (IntsN.elem (Ze t0) (by rw[Yh,f9]) (k:=0) M0).1 ?_
   refine xl 0 ((IntsN.elem (Ze t0) (by rw[Yh,f9]) (k:=0) M0).2) ?_
   refine xs 1 l8 [V0 ((Xu (Zn u m i)).getD 0 0),.string ⟨(leB (↑(f+k+i):Int) 4).toArray⟩,V0 (↑(f+k+i):Int)] fun lk l9 dr=>?_
   refine xlv 5 dr.rp ?_
   refine xbs 0 1 [V0 ((Xu (Zn u m i)).getD 0 0),.string ⟨(leB (↑(f+k+i):Int) 4).toArray⟩,V0 (↑(f+k+i):Int)] 124 fun nd lw f4=>?_
   have z8:=f4.ne dr
   have cr:=l9.below (c3.below (blB (blB (b7.below (blB (hB.trans g8) a0 a4.below) (N0 a0 l7)) a0 a5) a0 a3.below) (N0 a0 m0)) (N0 a0 m0)
   have p0:=l9.own3 (c3.own3 (Za i1 a3.below) d7) d7
   have bf:=Zg p0 f4
   have e4:=Za p0 f4.below
   have t9:=blB cr a0 f4.below
   refine xbi 0 fun _ _ _ _ zJ zQ zo zx zy zK=>Zr (m:=1) (news:=[V0 ((Xu (Zn u m i)).getD 0 0),.string ⟨(leB (↑(f+k+i):Int) 4).toArray⟩,V0 (↑(f+k+i):Int)]) (.agg #[V0 0,.string ⟨#[]⟩,V0 0]) 3 32 (i+1) ((upE u m (f+k) (i+1)).flatMap Yo) zo Tryz.underlying99 K0 rfl Do zx e4 zy (f4.blk.sl 1 1 Do Do) rfl (by simp[Value.oneCell']) (by unfold maxLen;omega) M0 t9.size (by rfl) (Pi (by first|exact e6|exact b0)) fun lj mp kz hl l0 ee=>?_
   refine zK _ _ ?_
   refine xwm 6 ((↑(i*m):Int)+(m:Int)) (↑((i*m)+m):Int) ?_
   refine xv1 3 10 (show(V0 (↑((i*m)+m):Int):Value)=V0 (↑((i+1)*m):Int) from by rw[D6,E0]) ?_
   have dh:=(((((((hR.below a4.below).only (Zd.of_upd (T:=[44]) b7 a4.blk Do) Do).below a5).below a3.below).only (Zd.of_upd (T:=[124]) c3 a3.blk Do) Do).only (Zd.of_upd (T:=[124]) l9 l8 Do) Do).below f4.below).only (Zd.of_grown (T:=[124]) l0 e4 Do) Do
   have fb:=(((((((hJ.below a4.below).only (Zd.of_upd (T:=[44]) b7 a4.blk Do) Do).below a5).below a3.below).only (Zd.of_upd (T:=[124]) c3 a3.blk Do) Do).only (Zd.of_upd (T:=[124]) l9 l8 Do) Do).below f4.below).only (Zd.of_grown (T:=[124]) l0 e4 Do) Do
   have fh:=t9.trans (ee.mono a0)
   have jb:=(Zd.grown_new ((Zd.upd_new (Zd.upd_new (((Zd.upd_new ((hO.trans e9).trans (Zd.of_below a4.below)) b7 l7).trans (Zd.of_below a5)).trans (Zd.of_below a3.below)) c3 m0) l9 m0).trans (Zd.of_below f4.below)) l0 e4)
   have n6:=((l9.blkT (c3.blkT (((b7.blk (e3.below a4.below) l4).below a5).below a3.below) a3.blk Do) l8 Do).below f4.below).grown l0 e4 Do
   exact ze 0 (u4 _ _ _ ⟨i+1,_,_,_,_,_,rfl,rfl,fh,jb,n6,hl,dh,fb,by omega⟩ M0)
  have b0:(0:Int)=((Zn u m i).getD 0 Xt).1:=Jj i9 M0
  refine xlv 5 l8.rp ?_
  refine xbs 0 1 [V0 0,.string ⟨(leB (↑(f+k+i):Int) 4).toArray⟩,V0 (↑(f+k+i):Int)] 124 fun ml nk g3=>?_
  have ad:=g3.ne l8
  have ev:=c3.below (blB (blB (b7.below (blB (hB.trans g8) a0 a4.below) (N0 a0 l7)) a0 a5) a0 a3.below) (N0 a0 m0)
  have p1:=c3.own3 (Za i1 a3.below) d7
  have ed:=Zg p1 g3
  have d6:=Za p1 g3.below
  have v5:=blB ev a0 g3.below
  refine xbi 0 fun _ _ _ _ zJ zQ zo zx zy zK=>Zr (m:=1) (news:=[V0 0,.string ⟨(leB (↑(f+k+i):Int) 4).toArray⟩,V0 (↑(f+k+i):Int)]) (.agg #[V0 0,.string ⟨#[]⟩,V0 0]) 3 32 (i+1) ((upE u m (f+k) (i+1)).flatMap Yo) zo Tryz.underlying99 K0 rfl Do zx d6 zy (g3.blk.sl 1 1 Do Do) rfl (by simp[Value.oneCell']) (by unfold maxLen;omega) M0 v5.size (by rfl) (Pi (by first|exact e6|exact b0)) fun kt mg lf hq j9 bh=>?_
  refine zK _ _ ?_
  refine xwm 6 ((↑(i*m):Int)+(m:Int)) (↑((i*m)+m):Int) ?_
  refine xv1 3 10 (show(V0 (↑((i*m)+m):Int):Value)=V0 (↑((i+1)*m):Int) from by rw[D6,E0]) ?_
  have ea:=((((((hR.below a4.below).only (Zd.of_upd (T:=[44]) b7 a4.blk Do) Do).below a5).below a3.below).only (Zd.of_upd (T:=[124]) c3 a3.blk Do) Do).below g3.below).only (Zd.of_grown (T:=[124]) j9 d6 Do) Do
  have bt:=((((((hJ.below a4.below).only (Zd.of_upd (T:=[44]) b7 a4.blk Do) Do).below a5).below a3.below).only (Zd.of_upd (T:=[124]) c3 a3.blk Do) Do).below g3.below).only (Zd.of_grown (T:=[124]) j9 d6 Do) Do
  have ex:=v5.trans (bh.mono a0)
  have ht:=(Zd.grown_new ((Zd.upd_new (((Zd.upd_new ((hO.trans e9).trans (Zd.of_below a4.below)) b7 l7).trans (Zd.of_below a5)).trans (Zd.of_below a3.below)) c3 m0).trans (Zd.of_below g3.below)) j9 d6)
  have m7:=((c3.blkT (((b7.blk (e3.below a4.below) l4).below a5).below a3.below) a3.blk Do).below g3.below).grown j9 d6 Do
  exact ze 0 (u4 _ _ _ ⟨i+1,_,_,_,_,_,rfl,rfl,ex,ht,m7,hq,ea,bt,by omega⟩ M0)
 refine xie 13 (i:Int) (1:Int) (fun dm=>?_) (fun dm=>?_)
 ·refine xx 3 _ i 0 3 (up_at (Ze x0) M0).1 ?_
  refine xl 1 ((up_at (Ze x0) M0).2) ?_
  refine xsv 2 c8 [S0,V0 0] fun lm s3 jh=>?_
  have g1:=n1.ge0 (Below.refl B _)
  have hB:=s3.below (w6.trans s2) (N0 hBw g1)
  have hO:=(Zd.upd_new (eu.trans s7) s3 g1)
  have eh:=hR.only (Zd.of_upd (T:=[44]) s3 c8 Do) Do
  have bn:=hJ.only (Zd.of_upd (T:=[44]) s3 c8 Do) Do
  refine xec 7 jh (.tuple #[V0 ((upX u m (f+k) 0).2.2),.agg #[S0,V0 0]]) ?_
  have ak:i=(ovN u.length m):=Zcy ag.1 hi M0 M0
  have eo:(ovN u.length m)≤1:=by omega
  have e1:treeL t a1 m v u (f+k) b2=((upX u m (f+k) 0).2.2,(Zal t a1 m v u (f+k) b2 i)):=by
   unfold treeL;rw[Mq (by rw[Xl];exact eo),Hr M0,ak]
  have e2:(Fz (ovN u.length m)).sum=(ovN u.length m):=by rw[Kq eo];simp
  rw[ki] at e1
  unfold Ziw
  rw[e1,show k0+Zw t l.length=k+i by omega]
  exact⟨_,_,_,rfl,hB,hO,eh,bn⟩
 refine xv1 12 2 (show(.slice p4 i c4:Value)=.slice p4 ((upE u m (f+k) i).length) c4 from by rw[Xl]) ?_
 have ak:i=(ovN u.length m):=Zcy ag.1 hi M0 M0
 have eo:¬ (ovN u.length m)≤1:=by omega
 have qb:(Fz (ovN u.length m)).sum=(ovN u.length m)+(Fz (ovN (ovN u.length m) 18)).sum:=by rw[Ke eo];rfl
 have hB:=w6.trans s2
 have hO:=eu.trans s7
 refine ze 0 (mb _ _ _ ⟨(upE u m (f+k) i),(k+i),18,4,_,(Zal t a1 m v u (f+k) b2 i),_,_,rfl,rfl,hB,hO,c8,⟨_,_,_,hR⟩,hJ,fun W _ h2=>by rw[Xl];unfold Sts;rw[Xl];exact Ze (Zi x0 h2 Do),rfl,rfl,(by rw[ak];exact up_ok hE ag.1),(by rw[Xl,ak];omega),fun _=>by rw[Xl];omega,(by rw[Xl];omega),(by rw[←ki,ak];show _=Uu _ _ _ _;rw[Pm (by rw[Xl];exact eo),D4];rfl)⟩ ?_)
 rw[if_neg Do,Xl]
 by_cases hlf:a1=true
 ·rw[if_pos hlf];omega
 ·rw[if_neg hlf]
  have kh:a1=false:=by simpa using hlf
  have li:=dc kh
  have ij:m=18:=by rw[←hm,kh];rfl
  have pt:=ov18 li
  rw[ij] at ak;omega
def RLaidK(kind:Int)(B bc bm:Nat)(pg:O0)(N cg f k:Nat)(p:O0)(K c:Nat)(l:Bl)(li:Bl)(q:Nat)(w:World)(e:Ending)(w':World):Prop :=
 ∃ a c2 fa m fc,e=.returned (.tuple #[V0 (q:Int),.agg #[.slice a 0 c2,V0 0]])∧Below B w w'∧Zd [189,9] w w'∧RAl B bc bm pg N cg fa m fc (k+1) (Qn f N) w'∧RefI B bm p K c (Km l (q*256) (Ja kind (q:Int) li)) w'
theorem Zdv(kind:Int)(hk1:1≤kind)(hk4:kind≤4)(B bc bm:Nat)(pg:O0)(N cg:Nat)(fa:O0)(m fc f k:Nat)(p:O0)(K c:Nat)(l:Bl)(a:O0)(ci n':Nat)(li:Bl)(q:Nat)(w:World)(hq:f+k=q)(hn':li.length=n')(hl:n'≤244)(hkN:k<N)(hf:f+N≤K)(hA:RAl B bc bm pg N cg fa m fc k (Qn f N) w)(hI:RefI B bm p K c l w)(hin:∀ W,Below B w W→Zd [189,9] w W→Bys W (.slice a n' ci) li)(hBw:B≤w.heap.size) :
 C0 107 #[P0 bc,V0 kind,.slice a n' ci] w (RLaidK kind B bc bm pg N cg f k p K c l li q w):=by
 subst hq hn'
 have hK:=hI.hk
 have hL:(Qn f N).getD k 0=((f+k:Nat):Int):=Gq hkN
 have hs:Vy kind ((f+k:Nat):Int) li=0:=by
  unfold Vy
  rw[if_pos (show Ku kind ((f+k:Nat):Int)=true from decide_eq_true M0),if_pos hl]
 have hw:wrE kind ((Qn f N).getD k 0) K li=0:=by
  rw[hL];unfold wrE;rw[if_pos hs,if_pos M0]
 refine(Zjy B bc bm pg N cg fa m fc k (Qn f N) p K c l kind a ci li w hA hI hin hBw).mono ?_
 rintro e W ⟨a2,c2,a3,m2,a4,rfl,hb,hO,a1,a0,h5⟩
 have e1:lyV k N K (Qn f N) kind li=((f+k:Nat):Int):=by rw[lyV,if_pos ⟨hkN,hw⟩,hL]
 have e2:lyE k N K (Qn f N) kind li=0:=by rw[lyE,if_pos hkN,hw]
 have e3:lyB k N K (Qn f N) kind li=[]:=by rw[lyB,if_pos hkN,hw];rfl
 have e4:lyK k N K (Qn f N) kind li=k+1:=by rw[lyK,if_pos ⟨hkN,hw⟩]
 have e5:lyL k N K (Qn f N) kind li l=Km l ((f+k)*256) (Ja kind ((f+k:Nat):Int) li):=by rw[lyL,if_pos hkN,wrL,if_pos hw,hL];rfl
 rw[e4] at a1
 rw[e5] at a0
 exact⟨a2,c2,a3,m2,a4,by rw[e1,e2,e3];rfl,hb,hO,a1,a0⟩
def rsV (L:List (List Int))(q i:Nat):List Value:=[V0 ((q+i:Nat):Int),V0 (Ye (L.getD i []):Int),V0 (Xe (L.getD i []):Int)]
def rsL (L:List (List Int))(q n:Nat):List Value:=(List.range n).flatMap (rsV L q)
theorem Zco(L:List (List Int))(q n:Nat):rsL L q (n+1)=rsL L q n++rsV L q n:=by simp[rsL,C1]
def RLayP(B bc bm:Nat)(pg:O0)(N cg f k0:Nat)(p:O0)(K c:Nat)(bs:Bl)(L:List (List Int))(w:World)(e:Ending)(w':World):Prop :=
 ∃ a c2 fa m fc,e=.returned (.slice a L.length c2)∧Below B w w'∧Zd [189,9] w w'∧RAl B bc bm pg N cg fa m fc (k0+L.length) (Qn f N) w'∧RefI B bm p K c (Kn L (f+k0) bs L.length) w'∧w'.ownsRow w.heap.size 126 3 (.slice a L.length c2) L.length (rsL L (f+k0) L.length)
theorem Ziv(B bc bm:Nat)(pg:O0)(N cg:Nat)(fa0:O0)(mf0 fc0 f k0:Nat)(p:O0)(K cI:Nat)(bs:Bl)(B2:Nat)(pl:O0)(cl:Nat)(gs:List (Nat×Nat))(L:List (List Int))(w:World)(hR:RAl B bc bm pg N cg fa0 mf0 fc0 k0 (Qn f N) w)(hJ:RefI B bm p K cI bs w)(hL:Lists w B2 (.slice pl L.length cl) gs L)(hS:∀ i,i<L.length→Hp (L.getD i [])∧(L.getD i []).length≤960)(hf:f+N≤K)(hk:k0+L.length≤N)(hLn:L.length≤1000000)(hBw:B≤w.heap.size) :
 C0 178 #[P0 bc,.slice pl L.length cl] w (RLayP B bc bm pg N cg f k0 p K cI bs L w):=by
 refine zin 49 Tryz.func178 ?_
 have hB:=Below.refl B w
 refine zl 17 49 (fun zm d0 V=>∃ (i:Nat) (fa:O0) (mf fc:Nat) (p5:O0) (c5:Nat),d0=[(0,P0 bc),(1,.slice pl L.length cl),(4,S0),(5,.slice p5 i c5),(6,V0 (i:Int))]∧zm=L.length-((i:Int)).toNat∧Below B w V∧Zd [189,9] w V∧RAl B bc bm pg N cg fa mf fc (k0+i) (Qn f N) V∧RefI B bm p K cI (Kn L (f+k0) bs i) V∧Lists V B2 (.slice pl L.length cl) gs L∧V.ownsRow w.heap.size 126 3 (.slice p5 i c5) i (rsL L (f+k0) i)∧i≤L.length) ⟨0,fa0,mf0,fc0,none,0,rfl,rfl,hB,(Zd.refl _ _),hR,hJ,hL,A4 _ _ _ _,A3 _⟩ ?_
 rintro _ _ W1 ⟨i,fa,mf,fc,p5,c5,rfl,rfl,a4,a8,hR,hJ,hL,c8,hi⟩ J1 d2 r1
 refine xid 9 ((i:Int)<(L.length:Int)) (fun d4=>?_) (fun d4=>?_)
 ·refine xx 8 _ L.length i 1 (Lists.elem hL rfl (k:=i) M0).1 ?_
  refine xl 0 ((Lists.elem hL rfl (k:=i) M0).2) ?_
  refine xc 0 (args:=#[.slice (some ⟨(gs.getD i (0,0)).1,0,none⟩) ((L.getD i []).length) ((gs.getD i (0,0)).2)]) (Zhg (some ⟨(gs.getD i (0,0)).1,0,none⟩) (gs.getD i (0,0)).2 (L.getD i []) _ (hS i M0).1 (hS i M0).2 (Ze (hL.each i M0))) ?_
  rintro _ W3 ⟨_,rfl,a5,p6,c6,rfl,h6⟩
  have b9:=hR.below a5
  have b6:=hJ.below a5
  have a3:=a8.trans (Zd.of_below a5)
  have b4:=Zf h6 a4.size
  have b0:=blB a4 hBw a5
  refine xc 11 (args:=#[P0 bc,V0 3,.slice p6 244 c6]) (Zdv 3 Do Do B bc bm pg N cg fa mf fc f (k0+i) p K cI (Kn L (f+k0) bs i) p6 c6 244 (Zfl (L.getD i [])) (f+k0+i) _ (D4 _ _ _).symm (Jr _ _) Do M0 hf b9 b6 (fun W _ a3=>Ya (Ze (Zi b4 a3 Do)) (Jr _ _)) (N0 hBw b0.size)) ?_
  rintro _ W4 ⟨a9,c9,d5,d6,d9,rfl,d3,c3,hR,hJ⟩
  refine xa 3 [S0,V0 0] 44 fun b5 W5 n5=>?_
  have b2:=b0.trans d3
  have g5:=n5.ge0 b2
  refine xsv 1 n5.blk [.slice a9 0 c9,V0 0] fun W6 u6 k6=>?_
  have a1:=(((hL.below a5).only c3 Do).below n5.below).only (Zd.of_upd (T:=[44]) u6 n5.blk Do) Do
  refine xx 6 _ L.length i 1 (Lists.elem a1 rfl (k:=i) M0).1 ?_
  refine xl 0 ((Lists.elem a1 rfl (k:=i) M0).2) ?_
  refine xr 0 (args:=#[.slice (some ⟨(gs.getD i (0,0)).1,0,none⟩) ((L.getD i []).length) ((gs.getD i (0,0)).2)]) (Zgg (some ⟨(gs.getD i (0,0)).1,0,none⟩) (gs.getD i (0,0)).2 (L.getD i []) _ (hS i M0).2 (Ze (a1.each i M0))) fun W7 a6=>?_
  refine xbs 13 1 [V0 (↑(f+k0+i):Int),V0 (↑(Ye (L.getD i [])):Int),V0 (↑(Xe (L.getD i [])):Int)] 126 fun b8 W8 n8=>?_
  have b1:=blB (u6.below (blB b2 hBw n5.below) (N0 hBw g5)) hBw a6
  have g8:=n8.ge0 b1
  have a2:=Za (u6.own2 (Za (Zi (Za c8 a5) c3 Do) n5.below) n5.blk Do) a6
  have c4:=Zg a2 n8
  have a0:=Za a2 n8.below
  have a7:=blB b1 hBw n8.below
  refine xbi 0 fun _ _ _ _ zJ zQ zo zx zy zK=>Zr (m:=1) (news:=[V0 (↑(f+k0+i):Int),V0 (↑(Ye (L.getD i [])):Int),V0 (↑(Xe (L.getD i [])):Int)]) (.agg #[V0 0,V0 0,V0 0]) 3 24 (i+1) ((rsL L (f+k0) (i+1))) zo Tryz.underlying132 K0 rfl Do zx a0 zy (n8.blk.sl 1 1 Do Do) rfl (by simp[Value.oneCell']) (by unfold maxLen;omega) M0 a7.size (by rfl) (by rw[Zco];rfl) fun d7 d8 W9 o9 b3 d1=>?_
  refine zK _ _ ?_
  refine xwm 6 ((i:Int)+1) (↑(i+1):Int) ?_
  have b7:=a7.trans (d1.mono hBw)
  have c2:=(Zd.grown_new (((Zd.upd_new ((a3.trans c3).trans (Zd.of_below n5.below)) u6 g5).trans (Zd.of_below a6)).trans (Zd.of_below n8.below)) b3 a0)
  have c0:=((((hR.below n5.below).only (Zd.of_upd (T:=[44]) u6 n5.blk Do) Do).below a6).below n8.below).only (Zd.of_grown (T:=[126]) b3 a0 Do) Do
  have c7:=((((hJ.below n5.below).only (Zd.of_upd (T:=[44]) u6 n5.blk Do) Do).below a6).below n8.below).only (Zd.of_grown (T:=[126]) b3 a0 Do) Do
  have c1:=((a1.below a6).below n8.below).only (Zd.of_grown (T:=[126]) b3 a0 Do) Do
  exact ze 2 (d2 _ _ _ ⟨i+1,_,_,_,_,_,rfl,rfl,b7,c2,c0,c7,c1,o9,by omega⟩ M0)
 refine xe 12 (.slice p5 i c5) ?_
 obtain rfl:i=L.length:=by omega
 exact⟨_,_,_,_,_,rfl,a4,a8,hR,hJ,c8⟩
end Go.Proofs.YtekomodnkfhihaaGreatDoor
namespace Go.Proofs.YtekomodnkfhihaaGreatDoor
set_option maxHeartbeats 8000000
set_option maxRecDepth 100000
open Go.RowKit
set_option linter.unusedVariables false
theorem rows_in{n:Nat}{P:Program}{row:String}{args:Array Value}{w:World}{R:Value→World→Prop}(h:Rows P row args w R):RowsIn Fence.wide n P row args w R :=
 fun c cs _=>let ⟨v,w',r,q⟩:=h c cs;⟨v,w',r,stepsIn_wide.2 q⟩
theorem Zkx{P:Program}{l n:Nat}{o:Oper}{a:Act}{w:World}{K:Act→World→Prop}{Q:Exit→Act→World→Prop}(hd:∀ c,o.op≠.defer c)(h:o.wp P a w K Q):o.wpIn (Fence.wide.inRound l) n P a w K Q:=by
 unfold Oper.wpIn
 refine⟨fun f _=>trivial,?_⟩
 rw[Oper.semAt_plain _ _ _ hd]
 unfold Oper.wp at h
 generalize (execOp a.eval o).run P w=r at *
 cases r with
 | ok nx w' =>
  cases nx with
  | value v=>exact h
  | skip=>exact h
  | defer d=>exact h
  | enter f args=>exact⟨(fun q=>by cases q),callsIn_wide.2 h⟩
  | row r args=>exact⟨(fun q=>by cases q),rows_in h⟩
  | _=>exact h.elim
 | halt hh w' =>
  cases hh with
  | panic v=>exact h
  | _=>exact h.elim
theorem op_in{P:Program}{l n i:Nat}{ops:Array Oper}{a:Act}{w:World}{K K':Act→World→Prop}{Q:Exit→Act→World→Prop}(hQ:¬ LetsOut Q)(hd:∀ o∈ops.toList,∀ c,o.op≠.defer c)(hK:∀ a w,K a w→K' a w)(h:wpOp P ops Q i K a w):wpOpIn (Fence.wide.inRound l) n P ops Q i K' a w:=by
 unfold wpOp at h
 unfold wpOpIn
 cases ho:ops[i]? with
 | none=>rw[ho] at h;exact hK _ _ h
 | some o =>
  rw[ho] at h
  dsimp only at h ⊢
  split at h
  ·rename_i hw
   rw[if_pos hw]
   have a0:o∈ops.toList:=by
    obtain⟨hi,e⟩:=Array.getElem?_eq_some_iff.1 ho
    rw[←e];exact Array.mem_toList_iff.2 (Array.getElem_mem hi)
   exact Oper.wpIn_mono hK (Zkx (hd o a0) (h.resolve_right fun q=>hQ q.2))
  ·rename_i hw
   rw[if_neg hw]
   exact⟨fun f _=>trivial,hK _ _ h⟩
theorem any_in{P:Program}{l n:Nat}{md:Region.Mode}{ops:Array Oper}{Q:Exit→Act→World→Prop}(hQ:¬ LetsOut Q)(hd:∀ o∈ops.toList,∀ c,o.op≠.defer c):∀ (fuel:Nat) (L:Array Bool) (a:Act) (w:World),wpAny P md ops Q fuel L a w→wpAnyIn (Fence.wide.inRound l) n P md ops Q fuel L a w
 | 0,_,_,_,h=>h
 | fuel+1,L,a,w,h=>⟨h.1,fun i hi=>op_in hQ hd (fun a w=>any_in hQ hd fuel _ a w) (h.2 i hi)⟩
theorem h_regIn{P:Program}{l0 n0 id:Nat}{l:List Oper}{Q:Exit→Act→World→Prop}{a:Act}{w:World}(S:World→Prop)(n:Nat)(hn:l.toArray.size=n)(L:Array Bool)(hL:Array.replicate n false=L)(hm:P.follows .mixedOrders=true)(hQ:¬ LetsOut Q)(hd:∀ o∈l,∀ c,o.op≠.defer c)(hS:S w.drew)(h:S w.drew→wpAnyH P .any l.toArray Q S n L a w.drew):(Code.region id l.toArray true).wpIn (Fence.wide.inRound l0) n0 P Q a w :=
 wpIn_region_any hm (any_in hQ (by simpa using hd) _ _ _ _ (wpAny_of_held _ _ _ _ (by rw[hn,hL];exact h hS)))
def By(l:List Int):Prop:=∀ k,k<l.length→1≤k→l[k-1]?.getD 0<l[k]?.getD 0
instance (l:List Int):Decidable (By l):=by unfold By;infer_instance
theorem By.lt{l:List Int}(h:By l):∀ (j i:Nat),i<j→j<l.length→l[i]?.getD 0<l[j]?.getD 0:=by
 intro j
 induction j with
 | zero=>intro i h1;omega
 | succ j ih =>
  intro i h1 h2
  have h3:=h (j+1) h2 M0
  simp only[Nat.add_sub_cancel] at h3
  by_cases hij:i=j
  ·subst hij;exact h3
  ·exact Int.lt_trans (ih i M0 M0) h3
theorem By.one(l:List Int):By (l.take 1):=by
 intro k h1 h2;simp at h1;omega
theorem By.succ{l:List Int}{k:Nat}{x y:Int}(h:By (l.take k))(hx:l[k-1]? = some x)(hy:l[k]? = some y)(hxy:x<y):By (l.take (k+1)):=by
 intro j h1 h2
 have a0:j<k+1:=by simp at h1;omega
 rw[E8,E8,if_pos M0,if_pos a0]
 by_cases hj:j=k
 ·subst hj;rw[hx,hy];exact hxy
 ·have:=h j (by simp at h1 ⊢;omega) h2
  rw[E8,E8,if_pos M0,if_pos M0] at this
  exact this
theorem By.all{l:List Int}{k:Nat}(h:By (l.take k))(hk:l.length≤k):By l:=by rwa [A1 hk] at h
end Go.Proofs.YtekomodnkfhihaaGreatDoor
namespace Go.Proofs.YtekomodnkfhihaaGreatDoor
set_option maxHeartbeats 8000000
set_option maxRecDepth 100000
open Go.RowKit
set_option linter.unusedVariables false
attribute [local go_sem] Oper.semAt_some
theorem Ng{n k:Nat}(h:k<n):(List.finRange n).take (k+1)=(List.finRange n).take k++[⟨k,h⟩]:=by
 rw[A8 (by simpa using h)];simp
theorem Oi(n:Nat):(List.finRange n).take n=List.finRange n:=A1 (by simp)
theorem Fb{n k:Nat}(h:k≤n):((List.finRange n).take k).length=k:=by simp[h]
def encK(b off n:Nat)(j:Fin (bmN n)):Array Value:=#[.slice (some ⟨b,off+j.val*960,none⟩) (min 960 (n-j.val*960)) (min 960 (n-j.val*960))]
theorem Zhr(l B1 B2:Nat)(p:Nat→Prop)(b off n cap:Nat)(hlen:n≤1000000)(hcap:n≤cap)(hB1:p B1)(hB2:p B2)(J Jx:List (Fin (bmN n))→World→Prop)
  (hY:∀ pre x W,J pre W→pre.length<bmN n→YieldAt Fence.wide 2 Tryz.prog l (encK b off n x) W fun e W' =>
   (e=.returned (.bool true)∧J (pre++[x]) W'∧Keeps p W W')∨(e=.returned (.bool false)∧Jx (pre++[x]) W'))
  (W:World) (hck:W.cell? ⟨B1,0,none⟩=some (.slice (some ⟨b,off,none⟩) n cap)) (hcn:W.cell? ⟨B2,0,none⟩=some (V0 960)) (hJa:AbidesFrom W.heap.size J) (h0:J [] W) :
  CallsIn Fence.wide 3 Tryz.prog 261 #[.func (.yield l) #[] #[],P0 B1,P0 B2] W fun e W'=>(∃ v,e=.returned v) ∧
   ((∃ ys,ys=List.finRange (bmN n)∧J ys W')∨(∃ pre,(∃ k,k≤bmN n∧pre=(List.finRange (bmN n)).take k)∧Jx pre W')):=by
 refine callsIn_of_wp Tryz.func261 rfl trivial ?_ rfl
 simp only[Tryz.ntmps261,G8,E4,K4,Nat.reduceAdd,Nat.reduceSub,L2,L3,L9,L6,G9,H1]
 gi_wp2
 gi_loopw [4] (fun i wr=>∃ k:Nat,k≤bmN n∧i=V0 ((k*960:Nat):Int)∧J ((List.finRange (bmN n)).take k) wr∧Keeps p W wr)
  (fun i _=>(n-(intOf i)).toNat)
 case atStart=>exact⟨0,A3 _,by simp,h0,Keeps.refl _ _⟩
 case round =>
  obtain⟨k,hk,rfl,a0,a2⟩:=hrel
  have a8:=(a2.cell (a:=⟨B1,0,none⟩) hB1).trans hck
  have a1:=(a2.cell (a:=⟨B2,0,none⟩) hB2).trans hcn
  by_cases hlt:k<bmN n
  ·have b4:=bmN_lt hlt
   gi_wp2
   gi_big_quiet_th (fail)
   obtain⟨fn,a6,a3,b0,hy,hR⟩:=hY _ ⟨k,hlt⟩ (wr.drewN nq) (hJa _ wr _ none a0 ⟨rfl,rfl,rfl,A6 _,fun _ _ _=>rfl⟩ (fun _ e=>by cases e)) (by rw[Fb hk];exact hlt)
   have hE:encK b off n ⟨k,hlt⟩=#[.slice (some ⟨b,off+k*960,none⟩) (min 960 (n-k*960)) (min 960 (n-k*960))]:=rfl
   rw[hE] at hy
   have HE:=Lib.hid hE;clear hE
   first|rw[show(if((n-k*960:Nat):Int)<960 then((n-k*960:Nat):Int) else 960)=((min 960 (n-k*960):Nat):Int) from by split<;>omega]|rw[show(min 960 ((n-k*960:Nat):Int):Int)=((min 960 (n-k*960):Nat):Int) from by omega]
   obtain⟨m,hm⟩:∃ m,min 960 (n-k*960)=m:=⟨_,rfl⟩
   rw[hm] at hy ⊢
   have b3:k*960+m≤n:=by omega
   have b2:k*960+m≤cap:=by omega
   have b1:k*960+m-k*960=m:=by omega
   gi_wp2
   refine hR.mono ?_
   rintro e W3 (⟨rfl,a7,a5⟩|⟨rfl,a4⟩)
   ·have a9:W3.cell? ⟨B2,0,none⟩=some (V0 960):=(a5.cell (a:=⟨B2,0,none⟩) hB2).trans a1
    gi_wp2
    go_roundw
    case rel =>
     refine⟨k+1,by omega,?_,by rw[Ng hlt];exact a7,(a2.trans (show Keeps p wr (wr.drewN nq) from⟨A6 _,fun _ _=>rfl⟩)).trans a5⟩
     exact congrArg V0 M0
    case measure=>simp only[intOf];omega
   ·gi_wp2
    refine bodyPost_ret (results_none rfl _ _ _) rfl ?_
    exact⟨⟨_,rfl⟩,.inr ⟨_,⟨k+1,by omega,by rw[Ng hlt]⟩,a4⟩⟩
  ·obtain rfl:k=bmN n:=by omega
   have b6:=bmN_done (n:=n) rfl
   have b5:¬ (((bmN n*960:Nat):Int)<(n:Int)):=by omega
   rw[Oi] at a0
   have HJ:=Lib.hid a0;clear a0
   gi_wp2
   go_end0
   exact⟨⟨_,rfl⟩,.inl HJ.out⟩
theorem Ah{α:Type}(l B1 B2:Nat)(J:List α→World→Prop)(W:World){a0:O0}{c0:Nat}(hck:W.cell? ⟨B1,0,none⟩=some (.slice a0 0 c0))(h0:J [] W) :
 CallsIn Fence.wide 3 Tryz.prog 261 #[.func (.yield l) #[] #[],P0 B1,P0 B2] W fun e W'=>(∃ v,e=.returned v)∧J [] W':=by
 refine callsIn_of_wp Tryz.func261 rfl trivial ?_ rfl
 simp only[Tryz.ntmps261,G8,E4,K4,Nat.reduceAdd,Nat.reduceSub,L2,L3,L9,L6,G9,H1]
 gi_wp2
 gi_loopw [4] (fun i wr=>i=V0 0∧J [] wr∧wr.cell? ⟨B1,0,none⟩=some (.slice a0 0 c0)) (fun _ _=>0)
 case atStart=>exact⟨rfl,h0,hck⟩
 case round =>
  obtain⟨rfl,a1,a2⟩:=hrel
  have HJ:=Lib.hid a1;clear a1
  gi_wp2
  go_end0
  exact⟨⟨_,rfl⟩,HJ.out⟩
theorem Zbs(B1 B2:Nat)(p:Nat→Prop)(b off n cap:Nat)(v:Value)(w:World)(hp:∀ b,p b→b<w.heap.size)(h1:p B1)(h2:p B2)(hlen:n≤1000000)(hv:(n=0∧∃ a c,v=.slice a 0 c)∨v=.slice (some ⟨b,off,none⟩) n cap∧n≤cap)(hck:w.cell? ⟨B1,0,none⟩=some v)(hcn:w.cell? ⟨B2,0,none⟩=some (V0 960)) :
  SeqStopsK Fence.wide 3 Tryz.prog 261 #[P0 B1,P0 B2] (encK b off n) (Keeps p)
   (fun ys=>ys=List.finRange (bmN n)) (fun pre=>∃ k,k≤bmN n∧pre=(List.finRange (bmN n)).take k) (bmN n) w:=fun l J Jx W hW a3 _ hY h0=>by
 have a0:=Zhb hW hck
 have a1:=Zhb hW hcn
 rcases hv with ⟨rfl,a,c,rfl⟩|⟨rfl,a2⟩
 ·exact(Ah l B1 B2 J W a0 h0).mono fun e W' ⟨he,hj⟩=>⟨he,.inl ⟨_,rfl,hj⟩⟩
 ·exact Zhr l B1 B2 p b off n cap hlen a2 h1 h2 J Jx hY W a0 a1 a3 h0
end Go.Proofs.YtekomodnkfhihaaGreatDoor
namespace Go.Proofs.YtekomodnkfhihaaGreatDoor
set_option maxHeartbeats 8000000
set_option maxRecDepth 100000
open Go.RowKit Go.Extern.Stop Go.Stop Go.Extern
set_option linter.unusedVariables false
attribute [local irreducible] wpList wpAnyH Code.wp Oper.wp Go
theorem Ic(p:O0)(n c:Nat)(w:World) :
 C0 217 #[.slice p n c,V0 960] w (fun e w'=>∃ b1 b2,e=.returned (.func (.func 261) #[] #[P0 b1,P0 b2])∧B3 w w'∧w.heap.size≤b1∧w.heap.size≤b2∧b1≠b2∧Blk w' b1 [.slice p n c] 27∧Blk w' b2 [V0 960] 3):=by
 refine zin 9 Tryz.func217 ?_
 refine xa 2 [.slice p n c] 27 fun b1 W1 n1=>?_
 refine xa 0 [V0 960] 3 fun b2 W2 n2=>?_
 refine xb 6 0 n2.blk ?_
 have k1:=n1.blk.below n2.below
 have hB:=bln n1.below n2.below
 have g1:=n1.ge (B4 w)
 have g2:=n2.ge n1.below
 exact xe 13 (.func (.func 261) #[] #[P0 b1,P0 b2]) ⟨_,_,rfl,hB,g1,g2,(Blk.tne k1 n2.blk Do),k1,n2.blk⟩
end Go.Proofs.YtekomodnkfhihaaGreatDoor
namespace Go.Proofs.YtekomodnkfhihaaGreatDoor
set_option maxHeartbeats 8000000
set_option maxRecDepth 100000
open Go.RowKit Go.Extern.Stop Go.Stop Go.Extern
set_option linter.unusedVariables false
attribute [local irreducible] wpList wpAnyH Code.wp Oper.wp Go
attribute [local go_sem] Oper.semAt_some
theorem Upd.of_put(w:World)(D:Nat)(o:Obj):Upd w D (w.putObj D o):=⟨rfl,rfl,rfl,by simp[World.putObj],fun k hk=>G7 hk⟩
def Dfr (D:Nat)(w:World):Prop:=w.heap[D]? = some (.deferred (some []))
theorem Dfr.below{D:Nat}{w W:World}(h:Dfr D w)(hb:B3 w W):Dfr D W:=(hb.block D (Array.getElem?_eq_some_iff.1 h).1).trans h
theorem Dfr.ne{D b:Nat}{w:World}{cs:List Value}{t:TypeId}(h:Dfr D w)(k:Blk w b cs t):b≠D:=by
 rintro rfl
 have h':w.heap[b]? = _:=h
 rw[show w.heap[b]? = _ from k] at h'
 cases h'
theorem Dfr.upd{D b:Nat}{w W:World}{cs:List Value}{t:TypeId}(h:Dfr D w)(u:Upd w b W)(k:Blk w b cs t):Dfr D W:=(u.block D fun e=>h.ne k e.symm).trans h
theorem Dfr.row{D:Nat}{w:World}{base e size n:Nat}{v:Value}{xs:List Value}(h:Dfr D w)(k:w.ownsRow base e size v n xs):∀ g,v.ownBlock=some g→g≠D:=by
 rintro g hg rfl
 rcases k.2 with ⟨rfl,_⟩|⟨g',a0,a1,rfl,_,hh,_⟩
 ·cases hg
 ·simp only[Value.ownBlock,A0] at hg
  subst hg
  rw[show w.heap[g']? = _ from h] at hh
  cases hh
theorem Dfr.grown{D:Nat}{w W:World}{base e size n:Nat}{v:Value}{xs:List Value}(h:Dfr D w)(hg:w.grownBy W v.ownBlock)(k:w.ownsRow base e size v n xs):Dfr D W :=
 (hg.block D (Array.getElem?_eq_some_iff.1 h).1 fun q=>h.row k D q.symm rfl).trans h
theorem g_endM{P:Program}{fn:Func}{R:Ending→World→Prop}{a:Act}{w:World}{D:Nat}(hK:Dfr D w)(v:Value)(hd:a.defers=[{ target:=.collected D,args:=#[] }])(hr:(results fn a.tmps).run P (w.putObj D (.deferred none))=.ok v (w.putObj D (.deferred none)))(h:R (.returned v) (w.putObj D (.deferred none))):bodyPostM Fence.wide 4 P fn R .normal a w :=
 by
 show LeavesInM _ _ _ _ a.tmps R a.defers .returning w
 rw[hd]
 exact⟨by simp,.inl ⟨_,_,rfl,run_takeDeferred hK,_,hr,h⟩⟩
def noPan(Q:Exit→Act→World→Prop):Exit→Act→World→Prop
 | .normal,a,w=>Q .normal a w
 | .ret,a,w=>Q .ret a w
 | _,_,_=>False
theorem Zk8{P:Program}{c:Code}{Q:Exit→Act→World→Prop}{a:Act}{w:World}(h:c.wp P (noPan Q) a w):c.wp P Q a w:=wp_mono h fun e a w q=>by cases e<;>first|exact q|exact q.elim
theorem Eu{w:World}{base size n b:Nat}{e t:TypeId}{v:Value}{xs cs:List Value}(k:w.ownsRow base e size v n xs)(q:Blk w b cs t)(hne:e≠t):∀ g,v.ownBlock=some g→g≠b:=by
 rintro g hg rfl
 rcases k.2 with ⟨rfl,_⟩|⟨g',a0,a1,rfl,_,hh,_⟩
 ·cases hg
 ·simp only[Value.ownBlock,A0] at hg
  subst hg
  rw[show w.heap[g']? = _ from q] at hh
  simp only[A0,Obj.cells.injEq] at hh
  exact hne hh.2.1.symm
theorem Oh{w W:World}(h:B3 w W):KeepsOthers w W:=⟨h.size,fun b o hb _=>(h.block b (Array.getElem?_eq_some_iff.1 hb).1).trans hb⟩
theorem Zd6{w W:World}{b:Nat}{cs:List Value}{t:TypeId}(u:Upd w b W)(k:Blk w b cs t):KeepsOthers w W:=⟨K5 u.size.symm,fun d o hd ho=>(u.block d (by rintro rfl;rw[show w.heap[d]? = _ from k] at hd;cases hd;cases ho)).trans hd⟩
theorem BelowBut.own3{w W:World}{b base size n:Nat}{e:TypeId}{v:Value}{xs:List Value}(h:BelowBut w b W)(k:w.ownsRow base e size v n xs)(hs:∀ j,v.ownBlock=some j→j≠b):W.ownsRow base e size v n xs:=by
 obtain⟨h1,h2⟩:=k
 refine⟨h1,?_⟩
 rcases h2 with h2|⟨g,a0,a1,rfl,hg,hh,r⟩
 ·exact Or.inl h2
 ·exact Or.inr ⟨g,a0,a1,rfl,hg,by rw[h.block g (Array.getElem?_eq_some_iff.1 hh).1 (hs g rfl)];exact hh,r⟩
theorem Zbz{β:Type}{w:World}{b B:Nat}(hB:w.heap.size≤B):OwnFrom B (fun(_:β) W=>BelowBut w b W):=fun _ W W' a1 hs hg hr =>
 ⟨hg.os.trans hs.os,hg.tape.trans hs.tape,hg.output.trans hs.output,N0 hs.size hg.size,fun k hk a0=>(hg.block k (D0 hk hs.size) (fun e=>by have:=(hr k e.symm).1;omega)).trans (hs.block k hk a0)⟩
theorem Gl.turn{A B:World}{row:Option Nat}{l:List (Option Int)}{c:Option Int}{v:Value}(h:Gl A l c v)(hg:A.grownBy B row)(hr:∀ r,row=some r→∃ o:Obj,A.heap[r]? = some o∧o.isCells=false):Gl B l c v:=h.kept fun _ _ k=>k.turn hg hr
theorem Gl.one{w:World}{l:List (Option Int)}{c:Option Int}{v:Value}(h:Gl w l c v):v.oneCell'=true:=by
 rcases h.nil_or with ⟨_,rfl⟩|⟨_,t,x,rfl⟩<;>rfl
theorem Gl.iface{w:World}{l:List (Option Int)}{c:Int}{v:Value}(h:Gl w l (some c) v):∃ t x,v=.iface t x:=by
 rcases h.nil_or with ⟨q,_⟩|⟨_,q⟩
 ·simp[Br] at q
 ·exact q
end Go.Proofs.YtekomodnkfhihaaGreatDoor
namespace Go.Proofs.YtekomodnkfhihaaGreatDoor
set_option maxHeartbeats 8000000
set_option maxRecDepth 100000
open Go.RowKit
set_option linter.unusedVariables false
theorem Zdi{A B:World}{row:Option Nat}{base size n:Nat}{e:TypeId}{v:Value}{xs:List Value}(k:A.ownsRow base e size v n xs)(hg:A.grownBy B row)(hr:∀ r,row=some r→∃ o:Obj,A.heap[r]? = some o∧o.isCells=false):B.ownsRow base e size v n xs:=by
 obtain⟨h1,h2⟩:=k
 refine⟨h1,?_⟩
 rcases h2 with h2|⟨g,a0,a1,hv,hb,hh,r⟩
 ·exact Or.inl h2
 ·refine Or.inr ⟨g,a0,a1,hv,hb,?_,r⟩
  rw[hg.block g (Array.getElem?_eq_some_iff.1 hh).1 (fun q=>by
   obtain⟨o,ho,hc⟩:=hr g q.symm
   rw[hh] at ho
   cases ho
   cases hc)]
  exact hh
theorem Lists.turn{A B:World}{row:Option Nat}{base:Nat}{v:Value}{gs:List (Nat×Nat)}{L:List (List Int)}(h:Lists A base v gs L)(hg:A.grownBy B row)(hr:∀ r,row=some r→∃ o:Obj,A.heap[r]? = some o∧o.isCells=false):Lists B base v gs L:=⟨Zdi h.row hg hr,fun i hi=>Zdi (h.each i hi) hg hr⟩
structure RdZ(w0:World)(b:Nat)(W V:World):Prop where
 bb:BelowBut w0 b V
 ko:KeepsOthers W V
 fr:∀ k,k<w0.heap.size→k≠b→V.heap[k]? = W.heap[k]?
 le:W.heap.size≤V.heap.size
theorem RdZ.refl{w0 W:World}{b:Nat}(h:BelowBut w0 b W):RdZ w0 b W W:=⟨h,⟨A6 _,fun _ _ h _=>h⟩,fun _ _ _=>rfl,A6 _⟩
theorem RdZ.below{w0 W V U:World}{b:Nat}(h:RdZ w0 b W V)(hb:Below V.heap.size V U):RdZ w0 b W U :=
 ⟨h.bb.next hb,h.ko.trans (Oh hb),fun k hk hn=>(hb.block k (D0 hk h.bb.size)).trans (h.fr k hk hn),N0 h.le hb.size⟩
theorem RdZ.upd{w0 W V U:World}{b:Nat}{cs:List Value}{t:TypeId}(h:RdZ w0 b W V)(u:Upd V b U)(k:Blk V b cs t):RdZ w0 b W U :=
 ⟨h.bb.upd u,h.ko.trans (Zd6 u k),fun k hk hn=>(u.block k hn).trans (h.fr k hk hn),N0 h.le (K5 u.size.symm)⟩
theorem RdZ.grown{w0 W V U:World}{b size n:Nat}{e:TypeId}{v:Value}{xs:List Value}(h:RdZ w0 b W V)(hg:V.grownBy U v.ownBlock)(k:V.ownsRow w0.heap.size e size v n xs):RdZ w0 b W U :=
 ⟨⟨hg.os.trans h.bb.os,hg.tape.trans h.bb.tape,hg.output.trans h.bb.output,N0 h.bb.size hg.size,fun i hi hn=>(hg.block i (D0 hi h.bb.size) (fun e=>by have:=(k.lt i e.symm).1;omega)).trans (h.bb.block i hi hn)⟩,
  ⟨N0 h.ko.size hg.size,fun i o hi ho=>by
   have h1:=h.ko.same i o hi ho
   rw[hg.block i (Array.getElem?_eq_some_iff.1 h1).1 (fun q=>by
    rcases k.2 with ⟨rfl,_⟩|⟨g,a0,a1,rfl,_,hh,_⟩
    ·cases q
    ·simp only[Value.ownBlock,A0] at q
     subst q
     rw[hh] at h1
     cases h1
     cases ho)]
   exact h1⟩,
  fun i hi hn=>(hg.block i (D0 hi h.bb.size) (fun e=>by have:=(k.lt i e.symm).1;omega)).trans (h.fr i hi hn),N0 h.le hg.size⟩
theorem row_or{w:World}{base e n c:Nat}{p:O0}{xs:List Value}(k:w.ownsRow base e 1 (.slice p n c) n xs):∃ g,(n=0∧∃ a c',Value.slice p n c=.slice a 0 c')∨Value.slice p n c=.slice (S1 g) n c∧n≤c:=by
 rcases k.2 with ⟨h,_⟩|⟨g,a0,a1,hv,_,_,hc,_⟩
 ·simp only[B6] at h
  exact⟨0,.inl ⟨h.2.1,none,0,by rw[h.1,h.2.1,h.2.2]⟩⟩
 ·simp only[B6] at hv
  obtain⟨rfl,_,rfl⟩:=hv
  exact⟨g,.inr ⟨rfl,hc⟩⟩
def Each(w:World)(base:Nat)(gs:List (Nat×Nat))(L:List (List Int)):Prop:=∀ i,i<L.length→w.ownsRow base 3 1 (Bq gs L i) (L.getD i []).length ((L.getD i []).map V0)
theorem Each.below{w W:World}{base:Nat}{gs:List (Nat×Nat)}{L:List (List Int)}(h:Each w base gs L)(hb:B3 w W):Each W base gs L:=fun i hi=>Za (h i hi) hb
theorem Each.only{T:List TypeId}{w W:World}{base:Nat}{gs:List (Nat×Nat)}{L:List (List Int)}(h:Each w base gs L)(hO:Zd T w W)(hT:T.contains 3=false):Each W base gs L:=fun i hi=>Zi (h i hi) hO hT
theorem Zc1{gs:List (Nat×Nat)}{L:List (List Int)}{g c i:Nat}{ch:List Int}(hg:gs.length=L.length)(hi:i<L.length):Bq (gs++[(g,c)]) (L++[ch]) i=Bq gs L i:=by
 unfold Bq
 simp[List.getD,I2,hi,hg]
theorem Zd2{gs:List (Nat×Nat)}{L:List (List Int)}{g c:Nat}{ch:List Int}(hg:gs.length=L.length):Bq (gs++[(g,c)]) (L++[ch]) L.length=.slice (S1 g) ch.length c:=by
 unfold Bq
 rw[show(gs++[(g,c)]).getD L.length (0,0)=(g,c) from by rw[←hg];simp[List.getD],show(L++[ch]).getD L.length []=ch from by simp[List.getD]]
theorem Lists.snoc{w:World}{base g c n:Nat}{v:Value}{gs:List (Nat×Nat)}{L:List (List Int)}{ch:List Int}(hn:n=L.length+1)(hrow:w.ownsRow base 27 1 v n ((List.range L.length).map (Bq gs L)++[.slice (S1 g) ch.length c]))(he:Each w base gs L)(hnew:w.ownsRow base 3 1 (.slice (S1 g) ch.length c) ch.length (ch.map V0))(hg:gs.length=L.length):Lists w base v (gs++[(g,c)]) (L++[ch]):=by
 subst hn
 refine⟨?_,fun i hi=>?_⟩
 ·rw[show(L++[ch]).length=L.length+1 from by simp,C1,A9]
  rw[show(List.range L.length).map (Bq (gs++[(g,c)]) (L++[ch]))=(List.range L.length).map (Bq gs L) from H9 fun i hi=>Zc1 hg (D9.1 hi),List.map_singleton,Zd2 hg]
  exact hrow
 ·by_cases h:i<L.length
  ·rw[Zc1 hg h,show(L++[ch]).getD i []=L.getD i [] from by simp[List.getD,I2,h]]
   exact he i h
  ·obtain rfl:i=L.length:=by simp at hi;omega
   rw[Zd2 hg,show(L++[ch]).getD L.length []=ch from by simp[List.getD]]
   exact hnew
theorem Sl.midI{w:World}{g n c:Nat}{xs:List Value}(h:Sl w (.slice (S1 g) n c) n xs)(hl:xs.length=n)(k m:Nat)(hm:0<m)(hk:k+m≤n):Sl w (.slice (some ⟨g,0+k,none⟩) m m) m ((xs.drop k).take m):=by
 rcases h with ⟨a',c',h1,h2,h3⟩|⟨g',a0,a2,h1,h2,h3,h4⟩
 ·omega
 ·simp only[B6,A0,Addr.mk.injEq] at h1
  obtain⟨⟨rfl,rfl,_⟩,_,rfl⟩:=h1
  refine .inr ⟨g,0+k,m,rfl,A6 _,by omega,fun j x hj=>?_⟩
  have a1:j<m:=by
   rcases C3 j m with q|q
   ·exact q
   ·rw[C5 (by simp;omega)] at hj;cases hj
  rw[F5 a1,Eq] at hj
  have:=h4 (k+j) x hj
  rw[show 0+k+j=0+(k+j) from by omega]
  exact this
end Go.Proofs.YtekomodnkfhihaaGreatDoor
namespace Go.Proofs.YtekomodnkfhihaaGreatDoor
set_option maxHeartbeats 8000000
set_option maxRecDepth 100000
open Go.RowKit Go.Extern.Stop Go.Stop Go.Extern
set_option linter.unusedVariables false
def Yf(u v:Value):Prop:=∀ j,u.ownBlock=some j→v.ownBlock≠some j
theorem Yf.symm{u v:Value}(h:Yf u v):Yf v u:=fun j h1 h2=>h j h2 h1
theorem Yf.grow{w:World}{u v u':Value}{base e size n:Nat}{xs:List Value}(h:Yf u v)(k:w.ownsRow base e size v n xs)(hl:u'.ownBlock=u.ownBlock∨u'.ownBlock=some w.heap.size):Yf u' v:=by
 rintro j h1 h2
 rcases hl with hl|hl
 ·exact h j (hl▸h1) h2
 ·rw[hl,A0] at h1
  subst h1
  have:=(k.lt _ h2).2
  omega
theorem Yf.row{w W:World}{u v:Value}{base e size n:Nat}{xs:List Value}(h:Yf u v)(k:w.ownsRow base e size v n xs)(hg:w.grownBy W u.ownBlock):W.ownsRow base e size v n xs:=by
 obtain⟨h1,h2⟩:=k
 refine⟨h1,?_⟩
 rcases h2 with h2|⟨g,a0,a1,rfl,hb,hh,r⟩
 ·exact Or.inl h2
 ·exact Or.inr ⟨g,a0,a1,rfl,hb,(hg.block g (Array.getElem?_eq_some_iff.1 hh).1 (fun q=>h g q.symm rfl)).trans hh,r⟩
theorem Yf.of_lt{w W:World}{u v:Value}{base base2 e e2 size size2 n n2:Nat}{xs ys:List Value}(k:w.ownsRow base e size u n xs)(q:W.ownsRow base2 e2 size2 v n2 ys)(h:w.heap.size≤base2):Yf u v:=fun j h1 h2=>by
 have:=(k.lt j h1).2
 have:=(q.lt j h2).1
 omega
theorem Yf.nil(v:Value):Yf (S0) v:=fun j h=>by cases h
theorem Xi{P:Program}{a:Act}{w:World}{K:Act→World→Prop}{Q:Exit→Act→World→Prop}{o:Oper}{s x:Operand}{t e te:TypeId}{base:Nat}{v:Value}{n:Nat}{xs:List Value}{b m c:Nat}{news:List Value}(z:Value)(size bytes n':Nat)(xs':List Value)
 (ho:o.op=.call { callee:=.builtin .append,args:=#[s,x],argTypes:=#[t,t] }) (ht:P.underlying t=some (.slice e)) (hi:(P.info? e).map (fun i=>(i.zero,i.size,i.bytes))=some (some z,size,bytes)) (hzs:z.cells.size=size) (hsz:0<size) (hs:a.eval s=v)
 (hown:w.ownsRow base e size v n xs) (hx:a.eval x=.slice (S1 b) m c) (hnew:Blk w b news te) (hl:news.length=m*size) (h1:∀ u∈news,u.oneCell'=true) (h63:n+m≤maxLen) (hbytes:(n+m)*bytes≤140737488355328) (hbase:base≤w.heap.size) (hn:n+m=n') (hxs:xs++news=xs')
 (h:∀ p c W,W.ownsRow base e size (.slice p n' c) n' xs'→w.grownBy W v.ownBlock→Below base w W→((Value.slice p n' c).ownBlock=v.ownBlock∨(Value.slice p n' c).ownBlock=some w.heap.size)→K (a.put o.dst (.slice p n' c)) W):o.wp P a w K Q:=by
 cases hq:P.info? e with
 | none=>simp[hq] at hi
 | some i =>
  simp only[hq,C7,A0,C8] at hi
  have hc:∀ j u,news[j]? = some u→w.cell? ((⟨b,0,none⟩:Addr).add j)=some u:=fun j u hj=>by
   have hc:=hnew.cell hj
   by_cases h0:j=0
   ·subst h0;simpa [Addr.add] using hc
   ·simpa [Addr.add,h0] using hc
  obtain⟨v',W,hr,h2,h3,_,h5⟩:=run_append_own_at (P:=P) w base t o.type e i z size bytes ht hq hi.1 hi.2.1 hi.2.2 hzs hsz v n xs hown ⟨b,0,none⟩ m c news hl hc h1 h63 hbytes hbase
  subst hn hxs
  obtain⟨p,c2,rfl⟩:=(Ze h2).slice
  unfold Oper.wp execOp
  simp only[ho,resolve,invoke,builtin,B8,Ge,C9,Id,F4,I8,hs,hx,hr]
  exact h p c2 W h2 h3 (Vx h3 hown (A6 _) hbase) h5
end Go.Proofs.YtekomodnkfhihaaGreatDoor
namespace Go.Proofs.YtekomodnkfhihaaGreatDoor
set_option maxHeartbeats 8000000
set_option maxRecDepth 100000
open Go.RowKit Go.Extern.Stop Go.Stop Go.Extern
set_option linter.unusedVariables false
attribute [local irreducible] wpList wpAnyH Code.wp Oper.wp Go
structure EachS(B:Nat)(W:World)(u:Value)(gs:List (Nat×Nat))(L:List (List Int)):Prop where
 len:gs.length=L.length
 each:Each W B gs L
 ap:∀ i,i<L.length→Yf u (Bq gs L i)
theorem EachS.below{B:Nat}{w W:World}{u:Value}{gs:List (Nat×Nat)}{L:List (List Int)}(h:EachS B w u gs L)(hb:B3 w W):EachS B W u gs L:=⟨h.len,h.each.below hb,h.ap⟩
theorem EachS.only{T:List TypeId}{B:Nat}{w W:World}{u:Value}{gs:List (Nat×Nat)}{L:List (List Int)}(h:EachS B w u gs L)(hO:Zd T w W)(hT:T.contains 3=false):EachS B W u gs L:=⟨h.len,h.each.only hO hT,h.ap⟩
theorem EachS.grow{B:Nat}{w W:World}{u u':Value}{gs:List (Nat×Nat)}{L:List (List Int)}(h:EachS B w u gs L)(hg:w.grownBy W u.ownBlock)(hl:u'.ownBlock=u.ownBlock∨u'.ownBlock=some w.heap.size):EachS B W u' gs L :=
 ⟨h.len,fun i hi=>(h.ap i hi).row (h.each i hi) hg,fun i hi=>(h.ap i hi).grow (h.each i hi) hl⟩
theorem EachS.nil(B:Nat)(w:World):EachS B w (S0) [] []:=⟨rfl,fun i hi=>absurd hi (Nat.not_lt_zero _),fun i hi=>absurd hi (Nat.not_lt_zero _)⟩
theorem Vr{w:World}{p:O0}{n c q:Nat}{A:List Value}{x:Value}(h:Sl w (.slice p n c) n (A++[x]))(hA:A.length=q):p.isSome=true∧w.cell? (Xa p (q*1))=some x:=by
 rw[D5];exact Sl.elem h (by subst hA;simp)
theorem Aa{q:Nat}{A:List Value}{x y:Value}(hA:A.length=q):(A++[x]).set q y=A++[y]:=by subst hA;simp
theorem Zi0{w:World}{B t n m:Nat}{v x:Value}{A:List Value}(hm:m≠0)(h:w.ownsRow B t 1 v n (A++(if m=0 then [] else [x]))):w.ownsRow B t 1 v n (A++[x]):=by rwa [if_neg hm] at h
theorem Ta{l:List Int}{i q m:Nat}(hq:i=q*960+m)(hi:i<l.length){v:Int}(hv:mn3 (l.getD i 0)=v):((((Zh l).drop (q*960)).take m).map V0)++[V0 v]=((((Zh l).drop (q*960)).take (m+1)).map V0):=by
 have h1:q*960+m<(Zh l).length:=by rw[Jg];omega
 have h2:((Zh l).drop (q*960)).take (m+1)=((Zh l).drop (q*960)).take m++[v]:=by
  rw[A8 (by simp;omega),List.getElem_drop]
  congr 2
  rw[←hv,hq]
  simp[Zh,List.getD]
  rw[B5 (by rw[Jg] at h1;exact h1)]
  rfl
 rw[h2,A9];rfl
theorem Zdk{B q m c n:Nat}{W:World}{l:List Int}{p:O0}{v:Value}{gs:List (Nat×Nat)}(hm:0<m)(hch:(((Zh l).drop (q*960)).take m)=Vk (Zh l) q)(hcl:(Vk (Zh l) q).length=m)(hn:n=q+1)(hE:EachS B W (.slice p m c) gs (Zo (Zh l) q))
 (hl:W.ownsRow B 3 1 (.slice p m c) m ((((Zh l).drop (q*960)).take m).map V0)) (ho:W.ownsRow B 27 1 v n (((List.range q).map (Bq gs (Zo (Zh l) q)))++[.slice p m c])):∃ gs2,gs2.length=q+1∧Lists W B v gs2 (Zo (Zh l) (q+1)):=by
 obtain⟨g,rfl,hc⟩:=Qf hl hm
 subst hn
 have hL:=Lists.snoc (w:=W) (base:=B) (g:=g) (c:=c) (n:=q+1) (v:=v) (gs:=gs) (L:=Zo (Zh l) q) (ch:=Vk (Zh l) q) (by rw[Xq]) (by rw[Xq,hcl];exact ho) hE.each (by rw[hcl,←hch];exact hl) (by rw[hE.len])
 exact⟨gs++[(g,c)],by rw[A5,hE.len,Xq];rfl,by rw[Oy];exact hL⟩
theorem Cj{B i q m c n:Nat}{W:World}{l:List Int}{p:O0}{pb:O0}{cb:Nat}{gs:List (Nat×Nat)}(hq:i=q*960+m)(hm:m<960)(hi:i<l.length)(hn:n=q+1)(hE:EachS B W (.slice p (m+1) c) gs (Zo (Zh l) q))
 (hl:W.ownsRow B 3 1 (.slice p (m+1) c) (m+1) ((((Zh l).drop (q*960)).take (m+1)).map V0)) (ho:W.ownsRow B 27 1 (.slice pb n cb) n (((List.range q).map (Bq gs (Zo (Zh l) q)))++[.slice p (m+1) c])) :
 ∃ q2 m2 pl2 cl2 gs2,i+1=q2*960+m2∧m2<960∧((m2=0→n=q2∧pl2=none∧cl2=0)∧(m2≠0→n=q2+1))∧EachS B W (.slice pl2 m2 cl2) gs2 (Zo (Zh l) q2)∧W.ownsRow B 3 1 (.slice pl2 m2 cl2) m2 ((((Zh l).drop (q2*960)).take m2).map V0)∧W.ownsRow B 27 1 (.slice pb n cb) n (((List.range q2).map (Bq gs2 (Zo (Zh l) q2)))++(if m2=0 then [] else [.slice pl2 m2 cl2])):=by
 by_cases h9:m+1=960
 ·have a0:(Vk (Zh l) q).length=m+1:=by rw[Hu,Jg];omega
  obtain⟨gs2,h1,h2⟩:=Zdk M0 (by unfold Vk;rw[h9]) a0 hn hE hl ho
  refine⟨q+1,0,none,0,gs2,by omega,by decide,⟨fun _=>⟨by omega,rfl,rfl⟩,fun q=>absurd rfl q⟩,⟨by rw[h1,Xq],h2.each,fun _ _=>Yf.nil _⟩,A4 _ _ _ _,?_⟩
  have:=h2.row
  rw[Xq] at this
  subst hn
  simpa using this
 ·exact⟨q,m+1,p,c,gs,by omega,by omega,⟨fun h=>absurd h M0,fun _=>by omega⟩,hE,hl,by rw[if_neg M0];exact ho⟩
def RSplitP(l:List Int)(w:World)(e:Ending)(w':World):Prop :=
 (Qd l≠0∧e=.returned (.tuple #[S0,S0,V0 2])∧B3 w w') ∨
 (Qd l=0∧∃ pb cb gs po co,e=.returned (.tuple #[.slice pb (bmN l.length) cb,.slice po (Zl l l.length).length co,V0 0])∧B3 w w'∧Lists w' w.heap.size (.slice pb (bmN l.length) cb) gs (Zo (Zh l) (bmN l.length))∧w'.ownsRow w.heap.size 124 3 (.slice po (Zl l l.length).length co) (Zl l l.length).length ((Zl l l.length).flatMap Yo))
theorem Ry{l:List Int}{i:Nat}(hl:l.length≤65536)(hi:i<l.length)(h:¬ Kr (l.getD i 0)):Qd l≠0:=fun q=>h ((Gj q).2 i hi)
theorem spl_done{B q m c n:Nat}{W:World}{l:List Int}{p:O0}{pb:O0}{cb:Nat}{gs:List (Nat×Nat)}(hq:l.length=q*960+m)(hm:m<960)(hn:(m=0→n=q∧p=none∧c=0)∧(m≠0→n=q+1))(hE:EachS B W (.slice p m c) gs (Zo (Zh l) q))
 (hl:W.ownsRow B 3 1 (.slice p m c) m ((((Zh l).drop (q*960)).take m).map V0)) (ho:W.ownsRow B 27 1 (.slice pb n cb) n (((List.range q).map (Bq gs (Zo (Zh l) q)))++(if m=0 then [] else [.slice p m c]))):n=bmN l.length∧∃ gs2,Lists W B (.slice pb n cb) gs2 (Zo (Zh l) (bmN l.length)):=by
 by_cases h0:m=0
 ·obtain⟨h1,_,_⟩:=hn.1 h0
  have hb:bmN l.length=q:=by unfold bmN;omega
  rw[hb]
  refine⟨h1,gs,?_,hE.each⟩
  rw[Xq]
  rw[if_pos h0,F6] at ho
  subst h1;exact ho
 ·have h1:=hn.2 h0
  have hb:bmN l.length=q+1:=by unfold bmN;omega
  rw[if_neg h0] at ho
  have a0:(Vk (Zh l) q).length=m:=by rw[Hu,Jg];omega
  have a1:(((Zh l).drop (q*960)).take m)=Vk (Zh l) q:=by
   unfold Vk
   rw[A1 (i:=m) (by simp[Jg];omega),A1 (i:=960) (by simp[Jg];omega)]
  obtain⟨gs2,_,h2⟩:=Zdk M0 a1 a0 h1 hE hl ho
  rw[hb]
  exact⟨h1,gs2,h2⟩
theorem Zay(a:O0)(c:Nat)(l:List Int)(w:World)(h:Sl w (.slice a l.length c) l.length (l.map V0))(hl:l.length≤65536) :
 C0 176 #[.slice a l.length c] w (RSplitP l w):=by
 refine zin 57 Tryz.func176 ?_
 refine xk 15 (show(decide ((l.length:Int)>(65536:Int)):Bool)=false from decide_eq_false M0) ?_
 have hB:=Below.refl w.heap.size w
 refine zl 19 57 (fun zm m7 V=>∃ (i q m nb:Nat) (pb:O0) (cb:Nat) (pl:O0) (cl:Nat) (gs:List (Nat×Nat)) (ko:Nat) (po:O0) (co:Nat),m7=[(0,.slice a l.length c),(5,.slice pb nb cb),(6,.slice po ko co),(7,V0 (i:Int))]∧zm=l.length-((i:Int)).toNat∧B3 w V∧V.ownsRow w.heap.size 27 1 (.slice pb nb cb) nb (((List.range q).map (Bq gs (Zo (Zh l) q)))++(if m=0 then [] else [.slice pl m cl]))∧V.ownsRow w.heap.size 124 3 (.slice po ko co) ko ((Zl l i).flatMap Yo)∧V.ownsRow w.heap.size 3 1 (.slice pl m cl) m ((((Zh l).drop (q*960)).take m).map V0)∧EachS w.heap.size V (.slice pl m cl) gs (Zo (Zh l) q)∧i≤l.length∧i=q*960+m∧m<960∧((m=0→nb=q∧pl=none∧cl=0)∧(m≠0→nb=q+1))∧((∀ k,k<i→Kr (l.getD k 0)))∧ko=(Zl l i).length) ⟨0,0,0,0,none,0,none,0,[],0,none,0,rfl,rfl,hB,A4 _ _ _ _,A4 _ _ _ _,A4 _ _ _ _,EachS.nil _ _,A3 _,rfl,by decide,⟨fun _=>⟨rfl,rfl,rfl⟩,fun q=>absurd rfl q⟩,?_,rfl⟩ ?_
 ·exact fun k hk=>absurd hk M0
 rintro _ _ W1 ⟨i,q,m,nb,pb,cb,pl,cl,gs,ko,po,co,rfl,rfl,a3,f9,g8,f0,i0,hi,hq,hm,k7,g0,j5⟩ J1 i2 r1
 have p7:=Ji l i
 refine xid 9 ((i:Int)<(l.length:Int)) (fun n5=>?_) (fun n5=>?_)
 ·refine xx 8 _ l.length i 1 (Ints.elem h (k:=i) M0).1 ?_
  refine xl 0 ((Ints.elem (h.below a3) (k:=i) M0).2) ?_
  refine xg 9 [23,24] (decide ((l.getD i 0)<(0:Int))) (fun h4=>?_) (fun h4=>?_)
  ·have h4:=of_decide_eq_true h4
   exact xe 20 (.tuple #[S0,S0,V0 2]) (.inl ⟨Ry hl (i:=i) M0 (fun q=>by unfold Kr at q;omega),rfl,a3⟩)
  have h4:=of_decide_eq_false h4
  refine xid 5 ((l.getD i 0)>(2147483647:Int)) (fun o0=>?_) (fun o0=>?_)
  ·exact xe 14 (.tuple #[S0,S0,V0 2]) (.inl ⟨Ry hl (i:=i) M0 (fun q=>by unfold Kr at q;omega),rfl,a3⟩)
  refine xq 6 (congrArg V0 (show(Int.tmod (i:Int) 960:Int)=(m:Int) from(Nv i 960).trans (by rw[show i%960=m by omega]))) ?_
  refine xie 3 (m:Int) (0:Int) (fun n3=>?_) (fun n3=>?_)
  ·have d7:m=0:=by omega
   have l8:=k7.1 d7
   have f2:nb+1=q+1:=by omega
   refine xbs 2 1 [S0] 27 fun b6 W6 n6=>?_
   have g6:=n6.ge a3
   have l0:=Zg f9 n6
   have a0:=Za f9 n6.below
   have e5:=bln a3 n6.below
   refine xbi 0 fun _ _ _ _ zJ zQ zo zx zy zK=>Zr (m:=1) (news:=[S0]) (S0) 1 24 (nb+1) ((((List.range q).map (Bq gs (Zo (Zh l) q)))++[.slice pl m cl])) zo Tryz.underlying225 K0 rfl Do zx a0 zy (n6.blk.sl 1 1 Do Do) rfl (by simp[Value.oneCell']) (by unfold maxLen;omega) M0 e5.size (by rfl) (by rw[if_pos d7,F6,l8.2.1,l8.2.2,d7]) fun p0 q3 W7 o7 f1 m1=>?_
   refine zK _ _ ?_
   refine xid 10 ((l.getD i 0)≥(3:Int)) (fun o2=>?_) (fun o2=>?_)
   ·refine xr 5 (args:=#[V0 (l.getD i 0)]) (Be (l.getD i 0) _ M0) fun W9 h0=>?_
    refine xbs 1 1 [V0 (i:Int),.string ⟨(leB (l.getD i 0) 4).toArray⟩,V0 0] 124 fun q9 p1 b8=>?_
    have g2:=bln (e5.trans m1) h0
    have p5:=b8.ge g2
    have c7:=Za (Zp (Za g8 n6.below) f1 a0 Do) h0
    have i3:=Zg c7 b8
    have a4:=Za c7 b8.below
    have h9:=bln g2 b8.below
    refine xbi 0 fun _ _ _ _ zJ zQ zo zx zy zK=>Zr (m:=1) (news:=[V0 (i:Int),.string ⟨(leB (l.getD i 0) 4).toArray⟩,V0 0]) (.agg #[V0 0,.string ⟨#[]⟩,V0 0]) 3 32 (ko+1) (((Zl l (i+1)).flatMap Yo)) zo Tryz.underlying99 K0 rfl Do zx a4 zy (b8.blk.sl 1 1 Do Do) rfl (by simp[Value.oneCell']) (by unfold maxLen;omega) M0 h9.size (by rfl) (by rw[Vj M0,E1];rfl) fun o6 m4 r2 n7 d3 k8=>?_
    refine zK _ _ ?_
    have b5:=Zp (Za (Za o7 h0) b8.below) d3 a4 Do
    obtain⟨gb,rfl,j2⟩:=Qf b5 M0
    refine xq 10 (congrArg V0 (show(IntKind.i64.wrap (Int.tdiv (i:Int) 960):Int)=(q:Int) from(Va i 960 M0 Do).trans (by rw[show i/960=q by omega]))) ?_
    refine xq 2 (congrArg V0 (show(IntKind.i64.wrap (Int.tdiv (i:Int) 960):Int)=(q:Int) from(Va i 960 M0 Do).trans (by rw[show i/960=q by omega]))) ?_
    refine xx 0 _ (nb+1) q 1 (Vr (Ze b5) (q:=q) (by simp)).1 ?_
    refine xl 0 ((Vr (Ze b5) (q:=q) (by simp)).2) ?_
    refine xbs 1 1 [V0 3] 3 fun m6 q7 c4=>?_
    have f7:=h9.trans k8
    have r6:=c4.ge f7
    have c6:=Zp (Za (Za (Zp (Za f0 n6.below) f1 a0 Do) h0) b8.below) d3 a4 Do
    have i7:=Zg c6 c4
    have b3:=Za c6 c4.below
    have h2:=bln f7 c4.below
    refine xbi 0 fun _ _ _ _ zJ zQ zo zx zy zK=>Xi (b:=m6) (c:=1) (m:=1) (news:=[V0 3]) (V0 0) 1 8 (m+1) (((((Zh l).drop (q*960)).take (m+1)).map V0)) zo Tryz.underlying27 K0 rfl Do zx b3 zy c4.blk rfl (by simp[Value.oneCell']) (by unfold maxLen;omega) M0 h2.size (by rfl) (Ta hq M0 (by unfold mn3;rw[if_neg M0])) fun k9 k6 p9 o5 d6 k5 k0=>?_
    refine zK _ _ ?_
    have a8:=Zp (Za b5 c4.below) d6 b3 Do
    refine xx 0 _ (nb+1) q 1 (Vr (Ze a8) (q:=q) (by simp)).1 ?_
    refine xst 0 fun _ _ _ _ zJ zQ zo zx zy zK=>Xk (t:=27) (k:=q) (v:=.slice k9 (m+1) k6) zo zx zy K0 rfl a8 M0 fun p2 i8 l7=>?_
    rw[Aa (by simp)] at l7
    refine zK _ _ ?_
    refine xwm 5 ((i:Int)+1) (↑(i+1):Int) ?_
    have g5:=(((((((i0.below n6.below).only (Zd.of_grown (T:=[27]) f1 a0 Do) Do).below h0).below b8.below).only (Zd.of_grown (T:=[124]) d3 a4 Do) Do).below c4.below).grow d6 k0).only (Zd.of_updRow (T:=[27]) i8 a8 Do) Do
    have g9:=i8.ownRow o5 a8 Do
    obtain⟨q2,m2,e1,d5,e0,e7,e4,e8,d4,d8,e9⟩:=Cj (l:=l) hq hm M0 f2 g5 g9 l7
    have k1:=i8.below (h2.trans k5) (Qa a8)
    have h5:=i8.ownRow (Zp (Za n7 c4.below) d6 b3 Do) a8 Do
    exact ze 2 (i2 _ _ _ ⟨i+1,q2,m2,nb+1,_,_,e1,d5,e0,ko+1,_,_,rfl,rfl,k1,e9,h5,d8,d4,by omega,e7,e4,e8,fun k hk=>(C3 k i).elim (g0 k) (fun q=>by obtain rfl:k=i:=M0;unfold Kr;omega),by rw[Vj M0,A5];simp;omega⟩ M0)
   obtain⟨gb,rfl,j2⟩:=Qf o7 M0
   refine xq 5 (congrArg V0 (show(IntKind.i64.wrap (Int.tdiv (i:Int) 960):Int)=(q:Int) from(Va i 960 M0 Do).trans (by rw[show i/960=q by omega]))) ?_
   refine xq 2 (congrArg V0 (show(IntKind.i64.wrap (Int.tdiv (i:Int) 960):Int)=(q:Int) from(Va i 960 M0 Do).trans (by rw[show i/960=q by omega]))) ?_
   refine xx 0 _ (nb+1) q 1 (Vr (Ze o7) (q:=q) (by simp)).1 ?_
   refine xl 0 ((Vr (Ze o7) (q:=q) (by simp)).2) ?_
   refine xbs 1 1 [V0 (l.getD i 0)] 3 fun n2 p6 d0=>?_
   have g1:=e5.trans m1
   have r0:=d0.ge g1
   have b9:=Zp (Za f0 n6.below) f1 a0 Do
   have i6:=Zg b9 d0
   have b1:=Za b9 d0.below
   have f6:=bln g1 d0.below
   refine xbi 0 fun _ _ _ _ zJ zQ zo zx zy zK=>Xi (b:=n2) (c:=1) (m:=1) (news:=[V0 (l.getD i 0)]) (V0 0) 1 8 (m+1) (((((Zh l).drop (q*960)).take (m+1)).map V0)) zo Tryz.underlying27 K0 rfl Do zx b1 zy d0.blk rfl (by simp[Value.oneCell']) (by unfold maxLen;omega) M0 f6.size (by rfl) (Ta hq M0 (by unfold mn3;rw[if_pos M0])) fun j7 l5 p8 m9 d9 l1 j4=>?_
   refine zK _ _ ?_
   have a9:=Zp (Za o7 d0.below) d9 b1 Do
   refine xx 0 _ (nb+1) q 1 (Vr (Ze a9) (q:=q) (by simp)).1 ?_
   refine xst 0 fun _ _ _ _ zJ zQ zo zx zy zK=>Xk (t:=27) (k:=q) (v:=.slice j7 (m+1) l5) zo zx zy K0 rfl a9 M0 fun o8 j1 m3=>?_
   rw[Aa (by simp)] at m3
   refine zK _ _ ?_
   refine xwm 5 ((i:Int)+1) (↑(i+1):Int) ?_
   have f8:=((((i0.below n6.below).only (Zd.of_grown (T:=[27]) f1 a0 Do) Do).below d0.below).grow d9 j4).only (Zd.of_updRow (T:=[27]) j1 a9 Do) Do
   have h8:=j1.ownRow m9 a9 Do
   have h7:=j1.ownRow (Zp (Za (Zp (Za g8 n6.below) f1 a0 Do) d0.below) d9 b1 Do) a9 Do
   obtain⟨q2,m2,e1,d5,e0,e7,e4,e8,d4,d8,e9⟩:=Cj (l:=l) hq hm M0 f2 f8 h8 m3
   have k2:=j1.below (f6.trans l1) (Qa a9)
   exact ze 2 (i2 _ _ _ ⟨i+1,q2,m2,nb+1,_,_,e1,d5,e0,ko,_,_,rfl,rfl,k2,e9,(by rw[Qw M0];exact h7),d8,d4,by omega,e7,e4,e8,fun k hk=>(C3 k i).elim (g0 k) (fun q=>by obtain rfl:k=i:=M0;unfold Kr;omega),by rw[Qw M0];exact j5⟩ M0)
  have d7:m≠0:=by omega
  have f2:nb=q+1:=k7.2 d7
  refine xid 9 ((l.getD i 0)≥(3:Int)) (fun j9=>?_) (fun j9=>?_)
  ·refine xr 5 (args:=#[V0 (l.getD i 0)]) (Be (l.getD i 0) _ M0) fun r3 b2=>?_
   refine xbs 1 1 [V0 (i:Int),.string ⟨(leB (l.getD i 0) 4).toArray⟩,V0 0] 124 fun o9 r4 b7=>?_
   have c2:=bln a3 b2
   have r7:=b7.ge c2
   have d1:=Za g8 b2
   have i4:=Zg d1 b7
   have a6:=Za d1 b7.below
   have c0:=bln c2 b7.below
   refine xbi 0 fun _ _ _ _ zJ zQ zo zx zy zK=>Zr (m:=1) (news:=[V0 (i:Int),.string ⟨(leB (l.getD i 0) 4).toArray⟩,V0 0]) (.agg #[V0 0,.string ⟨#[]⟩,V0 0]) 3 32 (ko+1) (((Zl l (i+1)).flatMap Yo)) zo Tryz.underlying99 K0 rfl Do zx a6 zy (b7.blk.sl 1 1 Do Do) rfl (by simp[Value.oneCell']) (by unfold maxLen;omega) M0 c0.size (by rfl) (by rw[Vj M0,E1];rfl) fun o4 n0 r5 o1 e3 k4=>?_
   refine zK _ _ ?_
   have a7:=Zp (Za (Za (Zi0 d7 f9) b2) b7.below) e3 a6 Do
   obtain⟨gb,rfl,j2⟩:=Qf a7 M0
   refine xq 10 (congrArg V0 (show(IntKind.i64.wrap (Int.tdiv (i:Int) 960):Int)=(q:Int) from(Va i 960 M0 Do).trans (by rw[show i/960=q by omega]))) ?_
   refine xq 2 (congrArg V0 (show(IntKind.i64.wrap (Int.tdiv (i:Int) 960):Int)=(q:Int) from(Va i 960 M0 Do).trans (by rw[show i/960=q by omega]))) ?_
   refine xx 0 _ nb q 1 (Vr (Ze a7) (q:=q) (by simp)).1 ?_
   refine xl 0 ((Vr (Ze a7) (q:=q) (by simp)).2) ?_
   refine xbs 1 1 [V0 3] 3 fun o3 q4 d2=>?_
   have c9:=c0.trans k4
   have q1:=d2.ge c9
   have c3:=Zp (Za (Za f0 b2) b7.below) e3 a6 Do
   have i1:=Zg c3 d2
   have b4:=Za c3 d2.below
   have c1:=bln c9 d2.below
   refine xbi 0 fun _ _ _ _ zJ zQ zo zx zy zK=>Xi (b:=o3) (c:=1) (m:=1) (news:=[V0 3]) (V0 0) 1 8 (m+1) (((((Zh l).drop (q*960)).take (m+1)).map V0)) zo Tryz.underlying27 K0 rfl Do zx b4 zy d2.blk rfl (by simp[Value.oneCell']) (by unfold maxLen;omega) M0 c1.size (by rfl) (Ta hq M0 (by unfold mn3;rw[if_neg M0])) fun j3 l3 p4 m8 e6 l2 k3=>?_
   refine zK _ _ ?_
   have a1:=Zp (Za a7 d2.below) e6 b4 Do
   refine xx 0 _ nb q 1 (Vr (Ze a1) (q:=q) (by simp)).1 ?_
   refine xst 0 fun _ _ _ _ zJ zQ zo zx zy zK=>Xk (t:=27) (k:=q) (v:=.slice j3 (m+1) l3) zo zx zy K0 rfl a1 M0 fun q0 i5 m0=>?_
   rw[Aa (by simp)] at m0
   refine zK _ _ ?_
   refine xwm 5 ((i:Int)+1) (↑(i+1):Int) ?_
   have f5:=(((((i0.below b2).below b7.below).only (Zd.of_grown (T:=[124]) e3 a6 Do) Do).below d2.below).grow e6 k3).only (Zd.of_updRow (T:=[27]) i5 a1 Do) Do
   have h3:=i5.ownRow m8 a1 Do
   obtain⟨q2,m2,e1,d5,e0,e7,e4,e8,d4,d8,e9⟩:=Cj (l:=l) hq hm M0 f2 f5 h3 m0
   have f3:=i5.below (c1.trans l2) (Qa a1)
   have g7:=i5.ownRow (Zp (Za o1 d2.below) e6 b4 Do) a1 Do
   exact ze 2 (i2 _ _ _ ⟨i+1,q2,m2,nb,_,_,e1,d5,e0,ko+1,_,_,rfl,rfl,f3,e9,g7,d8,d4,by omega,e7,e4,e8,fun k hk=>(C3 k i).elim (g0 k) (fun q=>by obtain rfl:k=i:=M0;unfold Kr;omega),by rw[Vj M0,A5];simp;omega⟩ M0)
  have a5:=Zi0 d7 f9
  obtain⟨gb,rfl,j2⟩:=Qf a5 M0
  refine xq 5 (congrArg V0 (show(IntKind.i64.wrap (Int.tdiv (i:Int) 960):Int)=(q:Int) from(Va i 960 M0 Do).trans (by rw[show i/960=q by omega]))) ?_
  refine xq 2 (congrArg V0 (show(IntKind.i64.wrap (Int.tdiv (i:Int) 960):Int)=(q:Int) from(Va i 960 M0 Do).trans (by rw[show i/960=q by omega]))) ?_
  refine xx 0 _ nb q 1 (Vr (Ze a5) (q:=q) (by simp)).1 ?_
  refine xl 0 ((Vr (Ze a5) (q:=q) (by simp)).2) ?_
  refine xbs 1 1 [V0 (l.getD i 0)] 3 fun n1 q8 c5=>?_
  have q6:=c5.ge a3
  have j0:=Zg f0 c5
  have b0:=Za f0 c5.below
  have c8:=bln a3 c5.below
  refine xbi 0 fun _ _ _ _ zJ zQ zo zx zy zK=>Xi (b:=n1) (c:=1) (m:=1) (news:=[V0 (l.getD i 0)]) (V0 0) 1 8 (m+1) (((((Zh l).drop (q*960)).take (m+1)).map V0)) zo Tryz.underlying27 K0 rfl Do zx b0 zy c5.blk rfl (by simp[Value.oneCell']) (by unfold maxLen;omega) M0 c8.size (by rfl) (Ta hq M0 (by unfold mn3;rw[if_pos M0])) fun j6 j8 q5 m5 e2 l6 l4=>?_
  refine zK _ _ ?_
  have a2:=Zp (Za a5 c5.below) e2 b0 Do
  refine xx 0 _ nb q 1 (Vr (Ze a2) (q:=q) (by simp)).1 ?_
  refine xst 0 fun _ _ _ _ zJ zQ zo zx zy zK=>Xk (t:=27) (k:=q) (v:=.slice j6 (m+1) j8) zo zx zy K0 rfl a2 M0 fun p3 i9 l9=>?_
  rw[Aa (by simp)] at l9
  refine zK _ _ ?_
  refine xwm 5 ((i:Int)+1) (↑(i+1):Int) ?_
  have h1:=((i0.below c5.below).grow e2 l4).only (Zd.of_updRow (T:=[27]) i9 a2 Do) Do
  have g3:=i9.ownRow m5 a2 Do
  have f4:=i9.ownRow (Zp (Za g8 c5.below) e2 b0 Do) a2 Do
  obtain⟨q2,m2,e1,d5,e0,e7,e4,e8,d4,d8,e9⟩:=Cj (l:=l) hq hm M0 f2 h1 g3 l9
  have h6:=i9.below (c8.trans l6) (Qa a2)
  exact ze 2 (i2 _ _ _ ⟨i+1,q2,m2,nb,_,_,e1,d5,e0,ko,_,_,rfl,rfl,h6,e9,(by rw[Qw M0];exact f4),d8,d4,by omega,e7,e4,e8,fun k hk=>(C3 k i).elim (g0 k) (fun q=>by obtain rfl:k=i:=M0;unfold Kr;omega),by rw[Qw M0];exact j5⟩ M0)
 refine xe 15 (.tuple #[.slice pb nb cb,.slice po ko co,V0 0]) ?_
 obtain rfl:i=l.length:=by omega
 obtain⟨n4,n8,n9⟩:=spl_done (l:=l) hq hm k7 i0 f0 f9
 subst n4
 subst j5
 exact .inr ⟨by unfold Qd;rw[if_neg M0,if_pos g0],_,_,n8,_,_,rfl,a3,n9,g8⟩
theorem Pg(a:O0)(c:Nat)(l:List Int)(w:World)(h:Sl w (.slice a l.length c) l.length (l.map V0))(hl:l.length≤65536)(hs:Qd l=0):C0 176 #[.slice a l.length c] w (fun e w'=>∃ pb cb gs po co,e=.returned (.tuple #[.slice pb (bmN l.length) cb,.slice po (Zl l l.length).length co,V0 0])∧B3 w w'∧Lists w' w.heap.size (.slice pb (bmN l.length) cb) gs (Zo (Zh l) (bmN l.length))∧w'.ownsRow w.heap.size 124 3 (.slice po (Zl l l.length).length co) (Zl l l.length).length ((Zl l l.length).flatMap Yo)) :=
 (Zay a c l w h hl).mono fun e w' q=>(q.resolve_left fun z=>z.1 hs).2
theorem Sb(n:Nat)(B bc bm:Nat)(pg:O0)(N cg:Nat)(fa0:O0)(mf0 fc0 f k0:Nat)(p:O0)(K cI:Nat)(bs:Bl)(B2:Nat)(pl:O0)(cl:Nat)(gs:List (Nat×Nat))(L:List (List Int))(w:World)(hn:L.length=n)(hR:RAl B bc bm pg N cg fa0 mf0 fc0 k0 (Qn f N) w)(hJ:RefI B bm p K cI bs w)(hL:Lists w B2 (.slice pl n cl) gs L)(hS:∀ i,i<L.length→Hp (L.getD i [])∧(L.getD i []).length≤960)(hf:f+N≤K)(hk:k0+n≤N)(hLn:n≤1000000)(hBw:B≤w.heap.size) :
 C0 178 #[P0 bc,.slice pl n cl] w (fun e w'=>∃ a c2 fa m fc,e=.returned (.slice a n c2)∧Below B w w'∧Zd [189,9] w w'∧RAl B bc bm pg N cg fa m fc (k0+n) (Qn f N) w'∧RefI B bm p K cI (Kn L (f+k0) bs n) w'∧w'.ownsRow w.heap.size 126 3 (.slice a n c2) n (rsL L (f+k0) n)):=by
 subst hn;exact Ziv B bc bm pg N cg fa0 mf0 fc0 f k0 p K cI bs B2 pl cl gs L w hR hJ hL hS hf hk hLn hBw
theorem Gy{l:List Int}(h:∀ k,k<l.length→Kr (l.getD k 0))(n:Nat):∀ i,i<(Zo (Zh l) n).length→Hp ((Zo (Zh l) n).getD i [])∧((Zo (Zh l) n).getD i []).length≤960:=fun i hi=>by
 rw[Xq] at hi
 rw[Es hi]
 exact⟨Fg (Zcw h) i,by rw[Hu];omega⟩
def rsC (x:Nat×Nat×Nat):List Value:=[V0 (x.1:Int),V0 (x.2.1:Int),V0 (x.2.2:Int)]
theorem Us(x:Nat×Nat×Nat):(rsC x).length=3:=rfl
def rsD:Nat×Nat×Nat:=(0,0,0)
def Rs (L:List (List Int))(q n:Nat):List (Nat×Nat×Nat):=(List.range n).map fun i=>(q+i,Ye (L.getD i []),Xe (L.getD i []))
theorem Pc(L:List (List Int))(q n:Nat):(Rs L q n).length=n:=by simp[Rs]
theorem Zjj{L:List (List Int)}{q n i:Nat}(h:i<n):(Rs L q n).getD i rsD=(q+i,Ye (L.getD i []),Xe (L.getD i [])):=by simp[Rs,List.getD,B7 h]
theorem rsL_Rs(L:List (List Int))(q n:Nat):rsL L q n=(Rs L q n).flatMap rsC:=by simp[rsL,Rs,List.flatMap_map];rfl
theorem Zeg{v:Nat}{l:List Ent}(E:EntsOk v l):Po v l=true:=Rk fun i hi=>⟨E.last hi,(E.hk i hi).2,E.hw i hi⟩
theorem Zdj{L:List (List Int)}{q n c:Nat}{p:O0}{w:World}(h:Sl w (.slice p n c) n (rsL L q n)):Sts rsC w (.slice p (Rs L q n).length c) (Rs L q n):=by unfold Sts;rw[Pc,←rsL_Rs];exact h
theorem slot_row{L:List (List Int)}{q n i:Nat}(h:i<n):(Xy L q i).flatMap Yo++[V0 (i:Int),.string ⟨(leB ((((Rs L q n).getD i rsD).1:Nat):Int) 8++leB ((((Rs L q n).getD i rsD).2.1:Nat):Int) 4++leB ((((Rs L q n).getD i rsD).2.2:Nat):Int) 4).toArray⟩,V0 0]=(Xy L q (i+1)).flatMap Yo:=by
 rw[Dp,E1,Zjj h];rfl
theorem Zbx(w:World) :
 C0 249 #[] w (Qo (fun w' r=>∃ b,r=.slice (S1 b) 1 1∧w.heap.size≤b∧Blk w' b [V0 4,V0 3,V0 2147483647] 298) w):=by
 refine zin 3 Tryz.func249 ?_
 refine xbs 8 1 [V0 4,V0 3,V0 2147483647] 298 fun b1 W1 n1=>?_
 have g1:=n1.ge (B4 w)
 exact xe 4 (.slice (S1 b1) 1 1) ⟨_,rfl,n1.below,_,rfl,g1,n1.blk⟩
theorem Fe(gl gn:Nat)(n:Int)(h1:3≤n)(h2:n≤2147483647)(w:World)(hl:Blk w gl [V0 4,V0 3,V0 2147483647] 298)(hn:Blk w gn [V0 n] 3) :
 C0 146 #[.slice (S1 gl) 1 1,.slice (S1 gn) 1 1] w (Ret (.string ⟨(leB n 4).toArray⟩) w):=by
 refine zin 51 Tryz.func146 ?_
 refine xu 19 2 ?_
 refine xlv 15 hl.rp ?_
 refine xa 0 [V0 0,V0 0,V0 0] 298 fun b1 W1 n1=>?_
 have a8:=n1.ne hl
 refine xsv 1 n1.blk [V0 4,V0 3,V0 2147483647] fun W2 u2 k2=>?_
 have g1:=n1.ge (B4 w)
 refine xd 4 .z ?_
 have a2:=(u2.blkT (hn.below n1.below) n1.blk Do).below (Zb W2)
 refine xb (.e [0,1,2] 3) 0 a2 ?_
 have a1:=k2.below (Zb W2)
 refine xb (.e [4] 5) 1 a1 ?_
 refine xgk (.b [6,7]) [23,24] (show(decide (n<(3:Int)):Bool)=false from decide_eq_false M0) ?_
 refine xb (.e [8,9,10] 11) 0 a2 ?_
 refine xb (.e [12] 13) 2 a1 ?_
 refine xk (.r [14,15] 2) (show(decide (n>(2147483647:Int)):Bool)=false from decide_eq_false M0) ?_
 refine xd 3 .z ?_
 have a6:=a1.below (Zb W2.drew)
 refine xb (.e [0] 1) 0 a6 ?_
 have a5:=a2.below (Zb W2.drew)
 refine xb (.e [2,3,4] 5) 0 a5 ?_
 refine xbs (.o [6] 7) 1 [V0 4,V0 n] 178 fun b4 W4 n4=>?_
 refine yc (.o [] 8) (args:=#[.slice (S1 b4) 1 1]) .z (Ef b4 n M0 M0 _ n4.blk) ?_
 rintro _ W5 ⟨_,rfl,a7,b0,b3,rfl,a3⟩
 have b2:=(bln (bln (bln (u2.below n1.below g1) (Zb W2)) (Zb W2.drew)) n4.below).size
 refine⟨a7,?_⟩
 have o6:=A4 W5 w.heap.size 5 1
 have a0:=Zf a3 b2
 have hB:=bln (bln (bln (bln (u2.below n1.below g1) (Zb W2)) (Zb W2.drew)) n4.below) a7
 refine xbi (.r [9,10,11,12,13] 5) fun _ _ _ _ zJ zQ zo zx zy zK=>Zr (m:=4) (news:=(leB n 4).map bv) (.int .u8 0) 1 1 (4) ((leB n 4).map bv) zo Tryz.underlying50 K0 rfl Do zx o6 zy (Ze a0) (by simp[Zj]) (Xw _) (by unfold maxLen;omega) M0 hB.size (by rfl) (by simp) fun b7 b5 W7 o7 b6 a9=>?_
 refine zK _ _ ?_
 refine Zj5 24 (fun _ _ _ zo zx=>Yt zo zx (Ya (Ze o7) (by simp[Zj])) (by simp[Zj]) Tryz.underlying50 Tryz.underlying5 Tryz.underlying9) ?_
 have a4:=hB.trans a9
 exact xe 4 (.string ⟨(leB n 4).toArray⟩) ⟨rfl,a4⟩
theorem Zck(n:Int)(h1:3≤n)(h2:n≤2147483647)(w:World) :
 C0 216 #[V0 n] w (Ret (.string ⟨(leB n 4).toArray⟩) w):=by
 refine zin 7 Tryz.func216 ?_
 refine xc 7 (args:=#[]) (Zbx _) ?_
 rintro _ W1 ⟨_,rfl,a1,gl,rfl,gg,kl⟩
 refine xbs 1 1 [V0 n] 3 fun b2 W2 n2=>?_
 have a0:=kl.below n2.below
 refine xr 0 (args:=#[.slice (S1 gl) 1 1,.slice (S1 b2) 1 1]) (Fe gl b2 n h1 h2 _ a0 n2.blk) fun W3 a2=>?_
 have hB:=bln (bln a1 n2.below) a2
 exact xe 4 (.string ⟨(leB n 4).toArray⟩) ⟨rfl,hB⟩
theorem Ro(w:World) :
 C0 128 #[] w (Qo (fun w' r=>∃ b,r=.slice (S1 b) 3 3∧w.heap.size≤b∧Blk w' b [V0 8,V0 1,V0 14399,V0 4,V0 0,V0 960,V0 4,V0 0,V0 960] 298) w):=by
 refine zin 5 Tryz.func128 ?_
 refine xbs 10 3 [V0 8,V0 1,V0 14399,V0 4,V0 0,V0 960,V0 4,V0 0,V0 960] 298 fun b1 W1 n1=>?_
 have g1:=n1.ge (B4 w)
 exact xe 4 (.slice (S1 b1) 3 3) ⟨_,rfl,n1.below,_,rfl,g1,n1.blk⟩
theorem Pe(gl gn:Nat)(n f g:Int)(h1:1≤n)(h2:n≤14399)(h3:0≤f)(h4:f≤960)(h5:0≤g)(h6:g≤960)(w:World)(hl:Blk w gl [V0 8,V0 1,V0 14399,V0 4,V0 0,V0 960,V0 4,V0 0,V0 960] 298)(hn:Blk w gn [V0 n,V0 f,V0 g] 3) :
 C0 146 #[.slice (S1 gl) 3 3,.slice (S1 gn) 3 3] w (Ret (.string ⟨(leB n 8++leB f 4++leB g 4).toArray⟩) w):=by
 refine zin 51 Tryz.func146 ?_
 refine xu 19 4 ?_
 refine xlv 15 (hl.rpp 0 3) ?_
 refine xa 0 [V0 0,V0 0,V0 0] 298 fun b1 W1 n1=>?_
 have c5:=n1.ne hl
 refine xsv 1 n1.blk [V0 8,V0 1,V0 14399] fun W2 u2 k2=>?_
 have g1:=n1.ge (B4 w)
 refine xd 4 .z ?_
 have b3:=(u2.blkT (hn.below n1.below) n1.blk Do).below (Zb W2)
 refine xb (.e [0,1,2] 3) 0 b3 ?_
 have a8:=k2.below (Zb W2)
 refine xb (.e [4] 5) 1 a8 ?_
 refine xgk (.b [6,7]) [23,24] (show(decide (n<(1:Int)):Bool)=false from decide_eq_false M0) ?_
 refine xb (.e [8,9,10] 11) 0 b3 ?_
 refine xb (.e [12] 13) 2 a8 ?_
 refine xk (.r [14,15] 2) (show(decide (n>(14399:Int)):Bool)=false from decide_eq_false M0) ?_
 refine xd 3 .z ?_
 have d0:=a8.below (Zb W2.drew)
 refine xb (.e [0] 1) 0 d0 ?_
 have e0:=b3.below (Zb W2.drew)
 refine xb (.e [2,3,4] 5) 0 e0 ?_
 refine xbs (.o [6] 7) 1 [V0 8,V0 n] 178 fun b4 W4 n4=>?_
 refine yc (.o [] 8) (args:=#[.slice (S1 b4) 1 1]) .z (Zkf b4 n M0 _ n4.blk) ?_
 rintro _ W5 ⟨_,rfl,c3,i3,h7,rfl,f4⟩
 have g9:=(bln (bln (bln (u2.below n1.below g1) (Zb W2)) (Zb W2.drew)) n4.below).size
 refine⟨c3,?_⟩
 have o6:=A4 W5 w.heap.size 5 1
 have c1:=Zf f4 g9
 have hB:=bln (bln (bln (bln (u2.below n1.below g1) (Zb W2)) (Zb W2.drew)) n4.below) c3
 refine xbi (.r [9,10,11,12,13] 5) fun _ _ _ _ zJ zQ zo zx zy zK=>Zr (m:=8) (news:=(leB n 8).map bv) (.int .u8 0) 1 1 (8) ((leB n 8).map bv) zo Tryz.underlying50 K0 rfl Do zx o6 zy (Ze c1) (by simp[Zj]) (Xw _) (by unfold maxLen;omega) M0 hB.size (by rfl) (by simp) fun j0 j4 W7 o7 e3 i7=>?_
 refine zK _ _ ?_
 have b6:=(((((u2.blk (hl.below n1.below) c5).below (Zb W2)).below (Zb W2.drew)).below n4.below).below c3).grown e3 o6 Do
 refine xlv 24 (b6.rpp 3 3) ?_
 refine xa 0 [V0 0,V0 0,V0 0] 298 fun b8 W8 n8=>?_
 have c9:=n8.ne b6
 have d3:=((d0.below n4.below).below c3).grown e3 o6 Do
 have d5:=n8.ne d3
 have d6:=hB.trans i7
 have g8:=n8.ge d6
 refine xsv 1 n8.blk [V0 4,V0 0,V0 960] fun W9 u9 k9=>?_
 refine xd 4 .z ?_
 have a7:=(u9.blkT ((((e0.below n4.below).below c3).grown e3 o6 Do).below n8.below) n8.blk Do).below (Zb W9)
 refine xb (.e [0,1,2] 3) 1 a7 ?_
 have b0:=k9.below (Zb W9)
 refine xb (.e [4] 5) 1 b0 ?_
 refine xgk (.b [6,7]) [23,24] (show(decide (f<(0:Int)):Bool)=false from decide_eq_false M0) ?_
 refine xb (.e [8,9,10] 11) 1 a7 ?_
 refine xb (.e [12] 13) 2 b0 ?_
 refine xk (.r [14,15] 2) (show(decide (f>(960:Int)):Bool)=false from decide_eq_false M0) ?_
 refine xd 3 .z ?_
 have d9:=b0.below (Zb W9.drew)
 refine xb (.e [0] 1) 0 d9 ?_
 have c6:=a7.below (Zb W9.drew)
 refine xb (.e [2,3,4] 5) 1 c6 ?_
 refine xbs (.o [6] 7) 1 [V0 4,V0 f] 178 fun g2 j7 a5=>?_
 have d4:=((u9.blkT (((n4.blk.below c3).grown e3 o6 Do).below n8.below) n8.blk Do).below (Zb W9)).below (Zb W9.drew)
 have f8:=a5.ne d4
 have b7:=bln (bln (u9.below (bln d6 n8.below) g8) (Zb W9)) (Zb W9.drew)
 have k0:=a5.ge b7
 refine yc (.o [] 8) (args:=#[.slice (S1 g2) 1 1]) .z (Ef g2 f M0 M0 _ a5.blk) ?_
 rintro _ j5 ⟨_,rfl,a0,h8,i6,rfl,f5⟩
 have f7:=(bln b7 a5.below).size
 refine⟨a0,?_⟩
 have a1:=Za (Za (Za (Za (u9.own2 (Za o7 n8.below) n8.blk Do) (Zb W9)) (Zb W9.drew)) a5.below) a0
 have a9:=Zf f5 f7
 have e1:=bln (bln b7 a5.below) a0
 refine xbi (.r [9,10,11,12,13] 5) fun _ _ _ _ zJ zQ zo zx zy zK=>Zr (m:=4) (news:=(leB f 4).map bv) (.int .u8 0) 1 1 (12) ((leB n 8++leB f 4).map bv) zo Tryz.underlying50 K0 rfl Do zx a1 zy (Ze a9) (by simp[Zj]) (Xw _) (by unfold maxLen;omega) M0 e1.size (by rfl) (by simp) fun i0 h0 j3 i4 a3 f1=>?_
 refine zK _ _ ?_
 have d7:=(((((u9.blk (b6.below n8.below) c9).below (Zb W9)).below (Zb W9.drew)).below a5.below).below a0).grown a3 a1 Do
 refine xlv 24 (d7.rpp 6 3) ?_
 refine xa 0 [V0 0,V0 0,V0 0] 298 fun j6 j2 a2=>?_
 have e5:=a2.ne d7
 have e7:=(((((u9.blk (d3.below n8.below) d5).below (Zb W9)).below (Zb W9.drew)).below a5.below).below a0).grown a3 a1 Do
 have f9:=a2.ne e7
 have f2:=((d9.below a5.below).below a0).grown a3 a1 Do
 have e8:=a2.ne f2
 have c8:=e1.trans f1
 have g6:=a2.ge c8
 refine xsv 1 a2.blk [V0 4,V0 0,V0 960] fun a4 d2 g7=>?_
 refine xd 4 .z ?_
 have b2:=(d2.blkT ((((c6.below a5.below).below a0).grown a3 a1 Do).below a2.below) a2.blk Do).below (Zb a4)
 refine xb (.e [0,1,2] 3) 2 b2 ?_
 have a6:=g7.below (Zb a4)
 refine xb (.e [4] 5) 1 a6 ?_
 refine xgk (.b [6,7]) [23,24] (show(decide (g<(0:Int)):Bool)=false from decide_eq_false M0) ?_
 refine xb (.e [8,9,10] 11) 2 b2 ?_
 refine xb (.e [12] 13) 2 a6 ?_
 refine xk (.r [14,15] 2) (show(decide (g>(960:Int)):Bool)=false from decide_eq_false M0) ?_
 refine xd 3 .z ?_
 have d1:=a6.below (Zb a4.drew)
 refine xb (.e [0] 1) 0 d1 ?_
 have g0:=b2.below (Zb a4.drew)
 refine xb (.e [2,3,4] 5) 2 g0 ?_
 refine xbs (.o [6] 7) 1 [V0 4,V0 g] 178 fun g3 i9 b5=>?_
 have f3:=((d2.blkT ((((d4.below a5.below).below a0).grown a3 a1 Do).below a2.below) a2.blk Do).below (Zb a4)).below (Zb a4.drew)
 have e6:=b5.ne f3
 have c4:=((d2.blkT (((a5.blk.below a0).grown a3 a1 Do).below a2.below) a2.blk Do).below (Zb a4)).below (Zb a4.drew)
 have e2:=b5.ne c4
 have c2:=bln (bln (d2.below (bln c8 a2.below) g6) (Zb a4)) (Zb a4.drew)
 have j1:=b5.ge c2
 refine yc (.o [] 8) (args:=#[.slice (S1 g3) 1 1]) .z (Ef g3 g M0 M0 _ b5.blk) ?_
 rintro _ j9 ⟨_,rfl,b9,i2,h9,rfl,f6⟩
 have e4:=(bln c2 b5.below).size
 refine⟨b9,?_⟩
 have d8:=Za (Za (Za (Za (d2.own2 (Za i4 a2.below) a2.blk Do) (Zb a4)) (Zb a4.drew)) b5.below) b9
 have c0:=Zf f6 e4
 have c7:=bln (bln c2 b5.below) b9
 refine xbi (.r [9,10,11,12,13] 5) fun _ _ _ _ zJ zQ zo zx zy zK=>Zr (m:=4) (news:=(leB g 4).map bv) (.int .u8 0) 1 1 (16) ((leB n 8++leB f 4++leB g 4).map bv) zo Tryz.underlying50 K0 rfl Do zx d8 zy (Ze c0) (by simp[Zj]) (Xw _) (by unfold maxLen;omega) M0 c7.size (by rfl) (by simp) fun i5 i8 j8 g5 i1 e9=>?_
 refine zK _ _ ?_
 refine Zj5 24 (fun _ _ _ zo zx=>Yt zo zx (Ya (Ze g5) (by simp[Zj])) (by simp[Zj]) Tryz.underlying50 Tryz.underlying5 Tryz.underlying9) ?_
 have f0:=c7.trans e9
 exact xe 4 (.string ⟨(leB n 8++leB f 4++leB g 4).toArray⟩) ⟨rfl,f0⟩
theorem Jf(n f g:Int)(h1:1≤n)(h2:n≤14399)(h3:0≤f)(h4:f≤960)(h5:0≤g)(h6:g≤960)(w:World) :
 C0 156 #[.agg #[V0 n,V0 f,V0 g]] w (Ret (.string ⟨(leB n 8++leB f 4++leB g 4).toArray⟩) w):=by
 refine zin 12 Tryz.func156 ?_
 refine xa 2 [V0 n,V0 f,V0 g] 126 fun b1 W1 n1=>?_
 refine xd 4 .z ?_
 have k1:=n1.blk.below (Zb W1)
 refine xb (.e [1] 2) 0 k1 ?_
 refine xb (.e [3] 4) 1 k1 ?_
 refine xb (.e [5] 6) 2 k1 ?_
 refine xm2 0 0 7 ?_ ?_
 ·refine yc 0 (args:=#[]) .z (Ro _) ?_
  rintro _ W2 ⟨_,rfl,a2,gl,rfl,gg,kl⟩
  refine⟨a2,?_⟩
  refine xbs (.o [] 7) 3 [V0 n,V0 f,V0 g] 3 fun b3 W3 n3=>?_
  have a1:=kl.below n3.below
  refine xr (.o [] 8) (args:=#[.slice (S1 gl) 3 3,.slice (S1 b3) 3 3]) (Pe gl b3 n f g h1 h2 h3 h4 h5 h6 _ a1 n3.blk) fun W4 a4=>?_
  have hB:=bln (bln (bln (bln n1.below (Zb W1)) a2) n3.below) a4
  exact xe (.r [9] 3) (.string ⟨(leB n 8++leB f 4++leB g 4).toArray⟩) ⟨rfl,hB⟩
 refine xbs 0 3 [V0 n,V0 f,V0 g] 3 fun b5 W5 n5=>?_
 refine yc (.o [] 0) (args:=#[]) .z (Ro _) ?_
 rintro _ W6 ⟨_,rfl,a0,gl,rfl,gg,kl⟩
 refine⟨a0,?_⟩
 have k5:=n5.blk.below a0
 refine xr (.o [] 8) (args:=#[.slice (S1 gl) 3 3,.slice (S1 b5) 3 3]) (Pe gl b5 n f g h1 h2 h3 h4 h5 h6 _ kl k5) fun W7 a3=>?_
 have hB:=bln (bln (bln (bln n1.below (Zb W1)) n5.below) a0) a3
 exact xe (.r [9] 3) (.string ⟨(leB n 8++leB f 4++leB g 4).toArray⟩) ⟨rfl,hB⟩
def slB (x:Nat×Nat×Nat):Bl:=leB (x.1:Int) 8++leB (x.2.1:Int) 4++leB (x.2.2:Int) 4
theorem slB_len(x:Nat×Nat×Nat):(slB x).length=16:=by simp[slB,Zj]
def Nq(S:List (Nat×Nat×Nat))(i:Nat):Bl:=leB (S.length:Int) 4++(List.range i).flatMap fun j=>slB (S.getD j rsD)
theorem Eg(S:List (Nat×Nat×Nat))(i:Nat):Nq S (i+1)=Nq S i++slB (S.getD i rsD):=by simp[Nq,C1]
theorem Cc(S:List (Nat×Nat×Nat)):∀ i,(Nq S i).length=4+i*16
 | 0=>by simp[Nq,Zj]
 | i+1=>by rw[Eg,A5,Cc S i,slB_len];omega
def Ak(S:List (Nat×Nat×Nat)):Bl:=Nq S S.length++List.replicate (244-(4+S.length*16)) 0
theorem Sn{S:List (Nat×Nat×Nat)}(h:S.length≤15):(Ak S).length=244:=by unfold Ak;rw[A5,Cc,A7];omega
def El(S:List (Nat×Nat×Nat)):Prop:=S.length≤14∧∀ i,i<S.length→1≤(S.getD i rsD).1∧(S.getD i rsD).1≤14399∧(S.getD i rsD).2.1≤960∧(S.getD i rsD).2.2≤960
theorem slB_ne(x:Nat×Nat×Nat):((⟨(leB (x.1:Int) 8++leB (x.2.1:Int) 4++leB (x.2.2:Int) 4).toArray⟩:ByteArray).toList==(⟨#[]⟩:ByteArray).toList)=false:=by
 rw[show(⟨#[]⟩:ByteArray)=⟨([]:Bl).toArray⟩ from rfl,str_beq]
 apply beq_false_of_ne
 intro q
 have h1:=congrArg List.length q
 simp[Zj] at h1
theorem Zi2(a:O0)(c:Nat)(S:List (Nat×Nat×Nat))(w:World)(hS:El S)(h:Sts rsC w (.slice a S.length c) S) :
 C0 160 #[.slice a S.length c] w (Qo (fun w' r=>∃ p c,r=.tuple #[.slice p 244 c,V0 0]∧w'.ownsRow w.heap.size 5 1 (.slice p 244 c) 244 ((Ak S).map bv)) w):=by
 have c3:=hS.1
 refine zin 39 Tryz.func160 ?_
 refine xk 14 (show(decide ((S.length:Int)>(15:Int)):Bool)=false from decide_eq_false M0) ?_
 refine xbs 7 1 [V0 4,V0 (S.length:Int)] 178 fun b1 W1 n1=>?_
 refine xc 0 (args:=#[.slice (S1 b1) 1 1]) (Ef b1 (S.length:Int) M0 M0 _ n1.blk) ?_
 rintro _ W2 ⟨_,rfl,b0,p2,c2,rfl,h2⟩
 have a5:=Zf h2 n1.below.size
 have hB:=bln n1.below b0
 have a6:=n1.blk.below b0
 refine zl 16 39 (fun zm b3 V=>∃ (i:Nat) (p4:O0) (c4:Nat),b3=[(4,.slice p4 (4+i*16) c4),(20,.slice a S.length c),(21,V0 (S.length:Int)),(22,V0 (i:Int))]∧zm=S.length-((i:Int)).toNat∧B3 w V∧Blk V b1 ([V0 4,V0 (S.length:Int)]) 178∧V.ownsRow w.heap.size 5 1 (.slice p4 (4+i*16) c4) (4+i*16) ((Nq S i).map bv)∧i≤S.length) ⟨0,p2,c2,rfl,rfl,hB,a6,(by simpa [Nq] using a5),A3 _⟩ ?_
 rintro _ _ W3 ⟨i,p4,c4,rfl,rfl,a0,a4,ho,hi⟩ J3 b9 r3
 refine xid 6 ((i:Int)<(S.length:Int)) (fun b7=>?_) (fun b7=>?_)
 ·refine xx 6 _ S.length i 3 (Sts.cell h Us rsD (k:=i) (i:=0) M0 rfl).1 ?_
  refine xlv 0 (Sts.rp (k:=i) (h.below a0) Us rsD M0 Do) ?_
  refine xa 0 [V0 0,V0 0,V0 0] 126 fun b5 W5 n5=>?_
  have g5:=n5.ge a0
  refine xsv 0 n5.blk [V0 (↑(S.getD i rsD).1:Int),V0 (↑(S.getD i rsD).2.1:Int),V0 (↑(S.getD i rsD).2.2:Int)] fun W6 u6 k6=>?_
  refine xlv 4 k6.rp ?_
  refine xr 0 (args:=#[.agg #[V0 (↑(S.getD i rsD).1:Int),V0 (↑(S.getD i rsD).2.1:Int),V0 (↑(S.getD i rsD).2.2:Int)]]) (Jf (↑(S.getD i rsD).1:Int) (↑(S.getD i rsD).2.1:Int) (↑(S.getD i rsD).2.2:Int) (by have:=hS.2 i M0;omega) (by have:=hS.2 i M0;omega) M0 (by have:=hS.2 i M0;omega) M0 (by have:=hS.2 i M0;omega) _) fun W7 a8=>?_
  refine xk 10 (show(((⟨(leB (↑(S.getD i rsD).1:Int) 8++leB (↑(S.getD i rsD).2.1:Int) 4++leB (↑(S.getD i rsD).2.2:Int) 4).toArray⟩:ByteArray).toList==(⟨#[]⟩:ByteArray).toList):Bool)=false from slB_ne _) ?_
  have a2:=Za (u6.own2 (Za ho n5.below) n5.blk Do) a8
  have a3:=bln (u6.below (bln a0 n5.below) g5) a8
  refine xbi 5 (t2:=9) fun _ _ _ _ zJ zQ zo zx zy zK=>Eo (leB (↑(S.getD i rsD).1:Int) 8++leB (↑(S.getD i rsD).2.1:Int) 4++leB (↑(S.getD i rsD).2.2:Int) 4) ((4+(i+1)*16)) ((Nq S (i+1)).map bv) zo Tryz.underlying50 Tryz.underlying9 K0 zx a2 zy (by simp[Zj];omega) a3.size (by simp[Zj];omega) (by simp[Eg,slB]) fun c5 c1 W8 o8 b2 b4=>?_
  refine zK _ _ ?_
  refine xwm 5 ((i:Int)+1) (↑(i+1):Int) ?_
  have a9:=a3.trans b4
  have a1:=((u6.blkT (a4.below n5.below) n5.blk Do).below a8).grown b2 a2 Do
  exact ze 2 (b9 _ _ _ ⟨i+1,_,_,rfl,rfl,a9,a1,o8,by omega⟩ M0)
 refine xwm 10 (244-(↑(4+i*16):Int)) (↑(244-(4+i*16)):Int) ?_
 refine xbi 0 (t2:=3) fun _ _ _ _ zJ zQ zo zx zy zK=>Tt (kq:=.i64) (244-(4+i*16)) (244) ((Ak S).map bv) zo Tryz.underlying50 Tryz.underlying3 K0 zx ho zy M0 M0 a0.size M0 (by rw[show i=S.length by omega];unfold Ak;rw[A9,K6];rfl) fun b8 c0 W9 o9 c6 b6=>?_
 refine zK _ _ ?_
 have a7:=a0.trans b6
 exact xe 5 (.tuple #[.slice b8 244 c0,V0 0]) ⟨_,rfl,a7,_,_,rfl,o9⟩
def RDataP(B bc bm:Nat)(pg:O0)(N cg f k0:Nat)(p:O0)(K c:Nat)(bs:Bl)(l:List Int)(w:World)(e:Ending)(w':World):Prop :=
 ∃ fa m fc,e=.returned (.tuple #[V0 (Zce l (f+k0) bs).1,V0 (Zce l (f+k0) bs).2.1,.agg #[S0,V0 0]])∧Below B w w'∧Zd [189,9] w w'∧RAl B bc bm pg N cg fa m fc (k0+Hl l) (Qn f N) w'∧RefI B bm p K c (Zce l (f+k0) bs).2.2 w'
theorem Gn(B bc bm:Nat)(pg:O0)(N cg:Nat)(fa:O0)(mf fc f k0:Nat)(p:O0)(K cI:Nat)(bs:Bl)(t:Int)(a:O0)(c n:Nat)(l:List Ent)(w:World)(hln:l.length=n)(hR:RAl B bc bm pg N cg fa mf fc k0 (Qn f N) w)(hn:l.length≤32768)(h1:1≤t)(h2:t≤5)(hE:EntsOk (Nb t true) l)(hs:k0+Zw t l.length≤N)(hf:f+N≤K)(hJ:RefI B bm p K cI bs w)(hin:∀ W,Below B w W→Zd [189,9] w W→Sl W (.slice a l.length c) l.length (l.flatMap Yo))(hBw:B≤w.heap.size) :
 C0 51 #[P0 bc,V0 t,.slice a n c] w (Ziw B bc bm pg N cg f k0 p K cI bs t l w):=by
 subst hln
 exact Zaf B bc bm pg N cg fa mf fc f k0 p K cI bs t a c l w hR hn ⟨h1,h2,Zeg hE⟩ hs hf hJ hin hBw
def KeptB(W:World)(v:Value)(l:Bl):Prop:=∀ T W',Zd T W W'→T.contains 5=false→Bys W' v l
theorem Zez{P:Program}{a:Act}{w:World}{K:Act→World→Prop}{Q:Exit→Act→World→Prop}{o:Oper}{src dst:TypeId}{x:Operand}(l:Bl)(ho:o.op=.convert src dst x)(hx:a.eval x=.string ⟨l.toArray⟩)
 (hs:P.underlying src=some .string) (hd:P.underlying dst=some (.slice 5)) (he:P.underlying 5=some (.int .u8)) (hl:l.length≤1000000)
 (k:∀ b c W,B3 w W→KeptB W (.slice (S1 b) l.length c) l→K (a.put o.dst (.slice (S1 b) l.length c)) W):o.wp P a w K Q:=by
 have hr:=run_bytes_of_string (P:=P) w src dst 5 ⟨l.toArray⟩ hs hd he
 have a3:(⟨l.toArray⟩:ByteArray).size=l.length:=by simp[ByteArray.size]
 rw[a3] at hr
 obtain⟨W1,a1⟩:∃ W1,W1=w.drew.alloc (.cells (bytesRow ⟨l.toArray⟩ (grownCap w l.length 0 5)) 5 ((bytesRow ⟨l.toArray⟩ (grownCap w l.length 0 5)).size,(bytesRow ⟨l.toArray⟩ (grownCap w l.length 0 5)).size+1)):=⟨_,rfl⟩
 rw[←a1] at hr
 have h2:(execOp a.eval o).run P w=.ok (.value (.slice (some ⟨w.heap.size,0,none⟩) l.length (grownCap w l.length 0 5))) W1:=by
  simp only[execOp,ho,hx,B8,hr];rfl
 refine Hb h2 (k _ _ _ (by rw[a1];exact(Zb w).trans (show Below w.drew.heap.size w.drew _ from blx w.drew _)) (fun T W' hO hT=>.inr ⟨w.heap.size,0,_,rfl,grownCap_ge w l.length 0 _,grownCap_le_maxLen w l.length 0 _ (by unfold maxLen;omega),fun j y hj=>?_⟩))
 have a0:j<l.length:=by have:=(List.getElem?_eq_some_iff.1 hj).1;simpa using this
 have hb:=bytesRow_at ⟨l.toArray⟩ (grownCap w l.length 0 5) j (by simpa using a0)
 have hy:y=.int .u8 ((l.toArray[j]'(by simpa using a0)).toNat:Int):=by
  rw[B9,B5 a0] at hj
  simp only[C7,A0] at hj
  rw[←hj];rfl
 have hh:W1.heap[w.heap.size]? = some (.cells (bytesRow ⟨l.toArray⟩ (grownCap w l.length 0 5)) 5 ((bytesRow ⟨l.toArray⟩ (grownCap w l.length 0 5)).size,(bytesRow ⟨l.toArray⟩ (grownCap w l.length 0 5)).size+1)):=by rw[a1];exact heap_alloc_new w.drew _
 have a2:=hO _ _ _ _ hh hT
 rw[hy]
 simp[World.cell?,a2,hb]
theorem Zjo(a:O0)(c:Nat)(S:List (Nat×Nat×Nat))(w:World)(hS:El S)(h:Sts rsC w (.slice a S.length c) S) :
 C0 181 #[.slice a S.length c] w (Qo (fun w' r=>∃ b c,r=.tuple #[.slice (S1 b) (Ak S).length c,V0 0]∧KeptB w' (.slice (S1 b) (Ak S).length c) (Ak S)) w):=by
 have b4:=hS.1
 refine zin 40 Tryz.func181 ?_
 refine xk 14 (show(decide ((S.length:Int)>(15:Int)):Bool)=false from decide_eq_false M0) ?_
 refine xc 6 (args:=#[V0 (S.length:Int),V0 4]) (Xf (S.length:Int) 4 4 _ M0 M0 rfl Do) ?_
 rintro _ W1 ⟨_,rfl,a8,p2,c2,rfl,h2⟩
 have a9:=A6 w.heap.size
 have a2:=Zf h2 a9
 refine Zj5 0 (fun _ _ _ zo zx=>Yt zo zx (Ya (Ze a2) (Zj _ _)) (Zj _ _) Tryz.underlying50 Tryz.underlying5 Tryz.underlying9) ?_
 refine xv1 10 4 (show(.string ⟨(leB (S.length:Int) 4).toArray⟩:Value)=.string ⟨(Nq S 0).toArray⟩ from by simp[Nq]) ?_
 refine zl 0 40 (fun zm b1 V=>∃ (i:Nat),b1=[(0,.slice a S.length c),(4,.string ⟨(Nq S i).toArray⟩),(5,V0 (i:Int))]∧zm=S.length-((i:Int)).toNat∧B3 w V∧i≤S.length) ⟨0,rfl,rfl,a8,A3 _⟩ ?_
 rintro _ _ W2 ⟨i,rfl,rfl,a0,hi⟩ J2 b3 r2
 have b5:=Cc S i
 refine xid 9 ((i:Int)<(S.length:Int)) (fun b0=>?_) (fun b0=>?_)
 ·refine xx 9 _ S.length i 3 (Sts.cell h Us rsD (k:=i) (i:=0) M0 rfl).1 ?_
  refine xlv 0 (Sts.rp (k:=i) (h.below a0) Us rsD M0 Do) ?_
  refine xr 0 (args:=#[.agg #[V0 (↑(S.getD i rsD).1:Int),V0 (↑(S.getD i rsD).2.1:Int),V0 (↑(S.getD i rsD).2.2:Int)]]) (Pn (↑(S.getD i rsD).1:Int) (↑(S.getD i rsD).2.1:Int) (↑(S.getD i rsD).2.2:Int) _ (by have:=hS.2 i M0;omega) (by have:=hS.2 i M0;omega) (by have:=hS.2 i M0;omega)) fun W4 b2=>?_
  refine xk 3 (show(((⟨(leB (↑(S.getD i rsD).1:Int) 8++leB (↑(S.getD i rsD).2.1:Int) 4++leB (↑(S.getD i rsD).2.2:Int) 4).toArray⟩:ByteArray).toList==(⟨#[]⟩:ByteArray).toList):Bool)=false from slB_ne _) ?_
  refine xx 6 _ S.length i 3 (Sts.cell h Us rsD (k:=i) (i:=0) M0 rfl).1 ?_
  have a1:=bln a0 b2
  refine xlv 0 (Sts.rp (k:=i) (h.below a1) Us rsD M0 Do) ?_
  refine xr 0 (args:=#[.agg #[V0 (↑(S.getD i rsD).1:Int),V0 (↑(S.getD i rsD).2.1:Int),V0 (↑(S.getD i rsD).2.2:Int)]]) (Pn (↑(S.getD i rsD).1:Int) (↑(S.getD i rsD).2.1:Int) (↑(S.getD i rsD).2.2:Int) _ (by have:=hS.2 i M0;omega) (by have:=hS.2 i M0;omega) (by have:=hS.2 i M0;omega)) fun W5 a6=>?_
  refine xbo 0 (t:=9) (t2:=9) (fun _ _ _ _ zo zx zy V hV=>Zbd (l:=Nq S i) (m:=(leB (↑(S.getD i rsD).1:Int) 8++leB (↑(S.getD i rsD).2.1:Int) 4++leB (↑(S.getD i rsD).2.2:Int) 4)) zo zx zy (by simp[Zj];omega) V) ?_
  refine xwm 6 ((i:Int)+1) (↑(i+1):Int) ?_
  refine xv1 2 4 (show(.string ⟨(Nq S i++(leB (↑(S.getD i rsD).1:Int) 8++leB (↑(S.getD i rsD).2.1:Int) 4++leB (↑(S.getD i rsD).2.2:Int) 4)).toArray⟩:Value)=.string ⟨(Nq S (i+1)).toArray⟩ from by rw[Eg];rfl) ?_
  have a3:=bln a1 a6
  exact ze 0 (b3 _ _ _ ⟨i+1,rfl,rfl,a3,by omega⟩ M0)
 refine xwm 10 (244-(↑(Nq S i).length:Int)) (↑(244-((Nq S i).length)):Int) ?_
 refine xmk 0 fun _ _ _ _ zJ zQ zo zx zy zK=>Kf (244-((Nq S i).length)) (.int .u8 0) 1 1 ((List.replicate (244-(Nq S i).length) (0:UInt8)).map bv) zo zx zy Tryz.underlying50 K0 rfl M0 M0 (Ea (244-(Nq S i).length)) fun b6 W6 n6=>?_
 have g6:=n6.ge a0
 refine zK _ _ ?_
 have o6:=Zz (size:=1) (n:=(244-((Nq S i).length))) n6.blk g6 (by rw[At,A7,D5]) (by unfold maxLen;omega)
 refine Zj5 0 (fun _ _ _ zo zx=>Yt zo zx (Ya (Ze o6) A7) A7 Tryz.underlying50 Tryz.underlying5 Tryz.underlying9) ?_
 refine xbo 0 (t:=9) (t2:=9) (fun _ _ _ _ zo zx zy V hV=>Zbd (l:=Nq S i) (m:=List.replicate (244-(Nq S i).length) (0:UInt8)) zo zx zy (by rw[A7];omega) V) ?_
 refine xcf 0 fun _ _ _ zJ zQ zo zx zK=>Zez (Nq S i++List.replicate (244-(Nq S i).length) (0:UInt8)) zo zx Tryz.underlying9 Tryz.underlying50 Tryz.underlying5 (by rw[A5,A7];omega) ?_
 intro bz cz W7 a7 a5
 refine zK _ _ ?_
 have a4:=bln (bln a0 n6.below) a7
 refine xe 5 (.tuple #[.slice (S1 bz) ((Nq S i++List.replicate (244-(Nq S i).length) (0:UInt8)).length) cz,V0 0]) ?_
 have e:(Nq S i++List.replicate (244-(Nq S i).length) (0:UInt8))=Ak S:=by rw[show i=S.length by omega];unfold Ak;rw[Cc]
 rw[e] at a5 ⊢
 exact⟨_,rfl,a4,_,_,rfl,a5⟩
def Yz(l:List Int)(f n:Nat):List Int:=(List.range l.length).map fun i=>l.getD i 0+(if f≤i∧i<f+n then 1 else 0)
theorem Qr(l:List Int)(f n:Nat):(Yz l f n).length=l.length:=by simp[Yz]
theorem Zab{l:List Int}{f n i:Nat}(h:i<l.length):(Yz l f n).getD i 0=l.getD i 0+(if f≤i∧i<f+n then 1 else 0):=by simp[Yz,List.getD,B7 h]
theorem Rf(l:List Int)(f:Nat):Yz l f 0=l:=by
 apply G5 (by simp[Yz])
 intro i h1 h2
 simp[Yz,List.getD,h2]
 omega
theorem Of{l:List Int}{f j:Nat}(h:f+j<l.length):((Yz l f j).map V0).set (f+j) (V0 (l.getD (f+j) 0+1))=(Yz l f (j+1)).map V0:=by
 apply G0
 intro i
 by_cases hi:i<l.length
 ·by_cases e:f+j=i
  ·subst e
   rw[K8 (by simp[Qr];exact h)]
   simp[Yz,B7 h]
  ·rw[L0 e]
   have hc:(f≤i∧i<f+j)↔(f≤i∧i<f+(j+1)):=by omega
   simp only[Yz,B9,B7 hi,C7]
   by_cases q:f≤i∧i<f+j
   ·rw[if_pos q,if_pos (hc.1 q)]
   ·rw[if_neg q,if_neg (fun z=>q (hc.2 z))]
 ·rw[C5 (by simp[Qr];omega),C5 (by simp[Qr];omega)]
def Zda(l:List Int)(f:Int):Prop:=∀ i,i<l.length→(f≤(i:Int)→l.getD i 0=0)∧l.getD i 0≤1073741824
theorem Ci{l:List Int}{f n:Nat}(h:Zda l (f:Int))(hc:∀ k,k<l.length→Kr (l.getD k 0)):∀ k,k<(Yz l f n).length→Kr ((Yz l f n).getD k 0):=by
 intro k hk
 rw[Qr] at hk
 rw[Zab hk]
 have h1:=(h k hk).2
 have h2:=hc k hk
 unfold Kr at h2 ⊢
 split<;>omega
def Xx(l:List Int):Nat:=Zw 5 (Zl l l.length).length+bmN l.length+1
theorem Wx{w:World}{b:O0}{n c f N k i:Nat}(h:Sl w (.slice b n c) n ((((Qn f N).drop k).take n).map V0))(hn:k+n≤N)(hi:i<n):b.isSome=true∧w.cell? (Xa b (i*1))=some (V0 ((f+k+i:Nat):Int)):=by
 have a0:(((Qn f N).drop k).take n).length=n:=by simp[Qn];omega
 have h1:=IntsN.elem h a0 hi
 have e:(((Qn f N).drop k).take n).getD i 0=((f+k+i:Nat):Int):=by
  have h2:=Gq (f:=f) (N:=N) (k:=k+i) M0
  rw[←D4] at h2
  rw[←h2]
  simp only[List.getD,E8,Eq,if_pos hi]
 rwa [e] at h1
def Ek(l:List Int)(f k0:Nat)(bs:Bl):Int×Int×Bl:=(((f+k0+(Zw 5 (Zl l l.length).length)+(bmN (Yz l (f+k0) (Xx l)).length)):Nat),(Vl 5 (Zl l l.length) (f+k0) bs).1,Km (Kn (Zo (Zh (Yz l (f+k0) (Xx l))) (bmN (Yz l (f+k0) (Xx l)).length)) (f+k0+(Zw 5 (Zl l l.length).length)) (Vl 5 (Zl l l.length) (f+k0) bs).2 (bmN (Yz l (f+k0) (Xx l)).length)) ((f+k0+(Zw 5 (Zl l l.length).length)+(bmN (Yz l (f+k0) (Xx l)).length))*256) (Ja 4 (((f+k0+(Zw 5 (Zl l l.length).length)+(bmN (Yz l (f+k0) (Xx l)).length)):Nat):Int) (Ak (Rs (Zo (Zh (Yz l (f+k0) (Xx l))) (bmN (Yz l (f+k0) (Xx l)).length)) (f+k0+(Zw 5 (Zl l l.length).length)) (bmN (Yz l (f+k0) (Xx l)).length)))))
theorem Cf(l:List Int)(q n:Nat):bmN (Yz l q n).length=bmN l.length:=by rw[Qr]
theorem Sx(n:Nat)(w:World)(hn:n≤65536) :
 C0 59 #[V0 (n:Int)] w (Ret (V0 (↑(bmN n):Int)) w):=by
 refine zin 9 Tryz.func59 ?_
 refine xid 12 ((n:Int)<(1:Int)) (fun a0=>?_) (fun a0=>?_)
 ·exact xe 7 (V0 0) ⟨by rw[show bmN n=0 from by unfold bmN;omega];rfl,(B4 w)⟩
 refine xwm 5 ((n:Int)+960) (↑(n+960):Int) ?_
 refine xwm 0 ((↑(n+960):Int)-1) (↑((n+960)-1):Int) ?_
 refine xq 0 (congrArg V0 (show(IntKind.i64.wrap (Int.tdiv (↑((n+960)-1):Int) 960):Int)=(↑((n+960-1)/960):Int) from Va (n+960-1) 960 M0 Do)) ?_
 exact xe 4 (V0 (↑((n+960-1)/960):Int)) ⟨by rw[show bmN n=(n+960-1)/960 from rfl],(B4 w)⟩
theorem Ze3(j:Nat)(B bc bm:Nat)(pg:O0)(N cg:Nat)(fa:O0)(m fc k:Nat)(L:List Int)(w:World)(hA:RAl B bc bm pg N cg fa m fc k L w)(hj:j≤1000000)(hjn:j≤N-k) :
 C0 180 #[P0 bc,V0 (j:Int)] w (Qo (fun w' r=>∃ q c2,r=.slice q j c2∧w'.ownsRow w.heap.size 3 1 (.slice q j c2) j (((L.drop k).take j).map V0)) w):=by
 have h:=Zip B bc bm pg N cg fa m fc k j L w hA hj
 rwa [F7 hjn] at h
theorem Hw{w:World}{b:O0}{n c q i:Nat}{l:List Int}(h:Sl w (.slice b n c) n ((Yz l q i).map V0))(hn:l.length=n)(hi:q+i<n):b.isSome=true∧w.cell? (Xa b ((q+i)*1))=some (V0 (l.getD (q+i) 0)):=by
 have h1:=IntsN.elem h (by rw[Qr];exact hn) hi
 rw[Zab M0,if_neg M0,Int.add_zero] at h1
 exact h1
theorem Lw(n:Nat)(a:O0)(c:Nat)(l:List Int)(w:World)(hn:l.length=n)(h:Sl w (.slice a n c) n (l.map V0))(hl:n≤65536)(hs:Qd l=0):C0 176 #[.slice a n c] w (fun e w'=>∃ pb cb gs po co,e=.returned (.tuple #[.slice pb (bmN n) cb,.slice po (Zl l n).length co,V0 0])∧B3 w w'∧Lists w' w.heap.size (.slice pb (bmN n) cb) gs (Zo (Zh l) (bmN n))∧w'.ownsRow w.heap.size 124 3 (.slice po (Zl l n).length co) (Zl l n).length ((Zl l n).flatMap Yo)):=by
 subst hn;exact Pg a c l w h hl hs
end Go.Proofs.YtekomodnkfhihaaGreatDoor
namespace Go.Proofs.YtekomodnkfhihaaGreatDoor
set_option maxHeartbeats 8000000
set_option maxRecDepth 100000
open Go.RowKit Go.Extern.Stop Go.Stop Go.Extern
set_option linter.unusedVariables false
attribute [local irreducible] wpList wpAnyH Code.wp Oper.wp Go
section
variable {P:Program} {a:Act}
theorem shl_bd{n:Int}(h:0≤n∧n≤3){s:Nat}(hs:s≤6):0≤n*2 ^ s∧n*2 ^ s≤192:=by
 obtain rfl|rfl|rfl|rfl:n=0∨n=1∨n=2∨n=3:=by omega
 all_goals obtain rfl|rfl|rfl|rfl|rfl|rfl|rfl:s=0∨s=1∨s=2∨s=3∨s=4∨s=5∨s=6:=by omega
 all_goals decide
theorem run_shlS{o:Oper}{t t2:TypeId}{x y:Operand}{n:Int}{s:Nat}{j:Int}{kj:IntKind}(ho:o.op=.binOp .shl t x y t2)(hx:a.eval x=V0 n)(hy:a.eval y=.int kj j)(hj:j=(s:Int))(hn:0≤n∧n≤3)(hs:s≤6)(w:World):(execOp a.eval o).run P w=.ok (.value (V0 (n*2 ^ s))) w:=by
 subst hj
 have e:=shift_shl .i64 kj n (s:Int) (F2 s) (by show(s:Int)≤64;omega)
 rw[show((s:Int)).toNat=s from by omega] at e
 have hb:=shl_bd hn hs
 rw[IntWalk.i64_in _ M0] at e
 simp only[execOp,ho,hx,hy,eqGuard_shl,binOp_shl,e]
 simp
end
section
variable {P:Program} {fn:Func} {R:Ending→World→Prop} {w:World} {s:Zs}
theorem xbot(q:Zq){b:BinOp}{t t2:TypeId}{u1 u2 v:Value}(hv:∀ (a:Act) (o:Oper) (x y:Operand),o.op=.binOp b t x y t2→a.eval x=u1→a.eval y=u2→∀ V,True→(execOp a.eval o).run P V=.ok (.value v) V)(g:Go P fn R (znx (zq P q s) v) w)(h:zk (zq P q s)=some (.bn b t t2 u1 u2):=by kernel_rfl):Go P fn R s w:=by
 refine Zx q s ?_
 obtain⟨o,ho,h⟩:=Qk h
 exact Zas ho (fun V _=>by
  obtain⟨x,y,h1,h2,h3⟩:=Wz h
  exact hv _ o x y h1 h2 h3 V trivial) g
end
theorem u8_shl{n:Int}(h:0≤n∧n≤3){s:Nat}(hs:s≤6):IntKind.u8.wrap (n*2 ^ s)=n*2 ^ s:=by
 have hb:=shl_bd h hs
 generalize n*2 ^ s=m at *
 simp[IntKind.wrap,IntKind.bits,IntKind.signed];omega
theorem bitsT_at(l:List Int)(i:Nat){k:Nat}(hk:k<240):(Nz l i).getD (4+k) 0=g4B l i k:=by
 unfold Nz
 rw[List.getD,List.getElem?_append_right (by rw[Zj];omega),Zj,Nat.add_sub_cancel_left]
 simp[hk]
theorem bits_or{l:List Int}(h:Hp l){i:Nat}(hi:i<960):IntKind.u8.wrap (↑(BitVec.ofInt 8 (↑((Nz l i).getD (4+(i/4)) 0).toNat:Int) ||| BitVec.ofInt 8 (l.getD i 0*2 ^ ((i%4)*2))).toNat:Int)=((g4B l (i+1) (i/4)).toNat:Int):=by
 rw[bitsT_at l i M0]
 obtain⟨h1,h2⟩:=g4B_at h (i:=i)
 rw[h1]
 obtain⟨n,hn⟩:∃ n:Nat,l.getD i 0=n:=⟨(l.getD i 0).toNat,by have:=(Gz h i).1;omega⟩
 have hb:=Gz h i
 rw[hn] at hb ⊢
 generalize (g4B l i (i/4)).toNat=o at *
 have hr:i%4<4:=by omega
 generalize i%4=r at *
 have ho:o<64:=D0 h2 (by
  obtain rfl|rfl|rfl|rfl:r=0∨r=1∨r=2∨r=3:=by omega
  all_goals decide)
 have hs:=or_step ⟨r,hr⟩ ⟨n,by omega⟩ ⟨o,ho⟩ h2
 simp only at hs
 have e4:(4:Nat) ^ r=2 ^ (r*2):=by rw[Nat.mul_comm,Nat.pow_mul]
 have e:((n:Int)*2 ^ (r*2))=((n*4 ^ r:Nat):Int):=by rw[e4];simp
 have e':((n:Int)*4 ^ r)=((n*4 ^ r:Nat):Int):=by simp
 have hm:n*4 ^ r≤192:=by
   have h3:4 ^ r≤64:=by
    obtain rfl|rfl|rfl|rfl:r=0∨r=1∨r=2∨r=3:=by omega
    all_goals decide
   calc n*4 ^ r≤3*64:=Nat.mul_le_mul M0 h3
     _=192:=rfl
 rw[e,e',E6,E6,BitVec.toNat_or,F3,F3,F0 M0,F0 M0,hs]
 generalize n*4 ^ r=m at *
 simp[IntKind.wrap,IntKind.bits,IntKind.signed];omega
theorem bits_set{l:List Int}{i:Nat}(hi:i<960):((Nz l i).map bv).set (4+(i/4)) (.int .u8 ((g4B l (i+1) (i/4)).toNat:Int))=(Nz l (i+1)).map bv:=by
 rw[show Value.int .u8 ((g4B l (i+1) (i/4)).toNat:Int)=bv (g4B l (i+1) (i/4)) from rfl,←List.map_set]
 congr 1
 unfold Nz
 rw[List.set_append_right _ _ (by rw[Zj];omega),Zj,Nat.add_sub_cancel_left]
 congr 1
 apply G5
 ·simp
 ·intro k h1 h2
  rw[List.getElem_set]
  split
  ·rename_i e;subst e;simp
  ·rename_i e;simp only[List.getElem_map,List.getElem_range];unfold g4B;rw[g4_ne M0]
theorem bits0(l:List Int):((List.replicate 244 (0:UInt8)).map bv).take 0++(leB (l.length:Int) 4).map bv++((List.replicate 244 (0:UInt8)).map bv).drop (0+4)=(Nz l 0).map bv:=by
 unfold Nz
 rw[A9,List.take_zero,G9]
 congr 1
theorem BysN.elem{w:World}{b:O0}{n c:Nat}{l:Bl}(h:Sl w (.slice b n c) n (l.map bv))(hl:l.length=n){k:Nat}(hk:k<n):b.isSome=true∧w.cell? (Xa b (k*1))=some (.int .u8 ((l.getD k 0).toNat:Int)):=by
 subst hl;exact Bys.elem (Ya h rfl) hk
theorem Zij(n:Int)(w:World)(h0:0≤n)(h3:n≤3) :
 C0 262 #[V0 n] w (Ret (.bool false) w):=by
 refine zin 9 Tryz.func262 ?_
 refine xgk 10 [4,5] (show(decide (n<(0:Int)):Bool)=false from decide_eq_false M0) ?_
 refine xe 7 (.bool (decide (n>(3:Int)))) ?_
 rw[show decide (n>(3:Int))=false from decide_eq_false M0];exact⟨rfl,(B4 w)⟩
theorem Zfs(a:O0)(c:Nat)(l:List Int)(w:World)(hS:Hp l)(hl:l.length≤960)(h:Sl w (.slice a l.length c) l.length (l.map V0)) :
 C0 144 #[.slice a l.length c,.func (.func 262) #[] #[]] w (Ret (V0 (-1)) w):=by
 refine zin 19 Tryz.func144 ?_
 have hB:=Below.refl w.heap.size w
 refine zl 14 19 (fun zm a2 V=>∃ (i:Nat),a2=[(0,.slice a l.length c),(1,.func (.func 262) #[] #[]),(7,V0 (l.length:Int)),(8,V0 (i:Int))]∧zm=l.length-((i:Int)).toNat∧B3 w V∧i≤l.length) ⟨0,rfl,rfl,hB,A3 _⟩ ?_
 rintro _ _ W1 ⟨i,rfl,rfl,a0,hi⟩ J1 a5 r1
 refine xid 6 ((i:Int)<(l.length:Int)) (fun a3=>?_) (fun a3=>?_)
 ·refine xx 15 _ l.length i 1 (Ints.elem h (k:=i) M0).1 ?_
  refine xl 0 ((Ints.elem (h.below a0) (k:=i) M0).2) ?_
  refine xr 0 (args:=#[V0 (l.getD i 0)]) (Zij (l.getD i 0) _ (Gz hS i).1 (Gz hS i).2) fun W3 a4=>?_
  refine xwm 7 ((i:Int)+1) (↑(i+1):Int) ?_
  have a1:=bln a0 a4
  exact ze 2 (a5 _ _ _ ⟨i+1,rfl,rfl,a1,by omega⟩ M0)
 exact xe 11 (V0 (-1)) ⟨rfl,a0⟩
theorem Ad(a:O0)(c:Nat)(l:List Int)(w:World)(hS:Hp l)(hl:l.length≤960)(h:Sl w (.slice a l.length c) l.length (l.map V0)) :
 C0 83 #[.slice a l.length c,.func (.func 262) #[] #[]] w (Ret (.bool false) w):=by
 refine zin 9 Tryz.func83 ?_
 refine xr 9 (args:=#[.slice a l.length c,.func (.func 262) #[] #[]]) (Zfs a c l _ hS hl (h.below (B4 w))) fun W1 a0=>?_
 exact xe 5 (.bool false) ⟨rfl,a0⟩
theorem Iv(a:O0)(c:Nat)(l:List Int)(w:World)(hl:l.length≤960)(h:Sl w (.slice a l.length c) l.length (l.map V0)) :
 C0 200 #[.slice a l.length c] w (Ret (.tuple #[V0 (↑(Ye l):Int),V0 (↑(Xe l):Int)]) w):=by
 refine zin 27 Tryz.func200 ?_
 have hB:=Below.refl w.heap.size w
 refine zl 23 27 (fun zm a5 V=>∃ (i f g:Nat),a5=[(2,V0 0),(3,V0 0),(4,V0 (f:Int)),(5,V0 (g:Int)),(10,.slice a l.length c),(11,V0 (l.length:Int)),(12,V0 (i:Int))]∧zm=l.length-((i:Int)).toNat∧B3 w V∧i≤l.length∧f=Zat l i∧((f=0∧g=l.length∧∀ j,j<i→l.getD j 0≠0)∨(0<f∧g=Xe l))) ⟨0,0,l.length,rfl,rfl,hB,A3 _,rfl,?_⟩ ?_
 ·exact .inl ⟨rfl,rfl,fun j hj=>absurd hj M0⟩
 rintro _ _ W1 ⟨i,f,g,rfl,rfl,a0,hi,hf,hg⟩ J1 a3 r1
 have a2:=fun(q:i<l.length)=>Rg q
 have a8:=Wl l i
 refine xid 6 ((i:Int)<(l.length:Int)) (fun a6=>?_) (fun a6=>?_)
 ·refine xx 7 _ l.length i 1 (Ints.elem h (k:=i) M0).1 ?_
  refine xl 0 ((Ints.elem (h.below a0) (k:=i) M0).2) ?_
  refine xin 11 (l.getD i 0) (0:Int) (fun a4=>?_) (fun a4=>?_)
  ·refine xwm 5 ((i:Int)+1) (↑(i+1):Int) ?_
   exact ze 2 (a3 _ _ _ ⟨i+1,f,g,rfl,rfl,a0,by omega,by rw[a2 M0,if_neg (by assumption)];exact hf,hg.elim (fun⟨h1,h2,h3⟩=>.inl ⟨h1,h2,fun j hj=>(C3 j i).elim (fun q=>h3 j q) (fun q=>by obtain rfl:j=i:=M0;assumption)⟩) .inr⟩ M0)
  refine xie 9 (f:Int) (0:Int) (fun a7=>?_) (fun a7=>?_)
  ·refine xwm 7 ((f:Int)+1) (↑(f+1):Int) ?_
   refine xwm 5 ((i:Int)+1) (↑(i+1):Int) ?_
   exact ze 2 (a3 _ _ _ ⟨i+1,f+1,i,rfl,rfl,a0,by omega,by rw[a2 M0,if_pos (by assumption),hf],.inr ⟨by omega,hg.elim (fun⟨_,_,h3⟩=>(Cz M0 (by assumption) h3).symm) (fun q=>absurd q.1 M0)⟩⟩ M0)
  refine xwm 4 ((f:Int)+1) (↑(f+1):Int) ?_
  refine xwm 5 ((i:Int)+1) (↑(i+1):Int) ?_
  exact ze 2 (a3 _ _ _ ⟨i+1,f+1,g,rfl,rfl,a0,by omega,by rw[a2 M0,if_pos (by assumption),hf],.inr ⟨by omega,hg.elim (fun⟨h1,_,_⟩=>absurd h1 M0) (fun q=>q.2)⟩⟩ M0)
 refine xe 14 (.tuple #[V0 (f:Int),V0 (g:Int)]) ?_
 obtain rfl:i=l.length:=by omega
 have a1:f=Ye l:=hf
 rcases hg with ⟨h1,h2,h3⟩|⟨h1,h2⟩
 ·exact⟨by rw[a1,h2,Pt h3],a0⟩
 ·exact⟨by rw[a1,h2],a0⟩
theorem Zcq(a:O0)(c:Nat)(l:List Int)(w:World)(hS:Hp l)(hl:l.length≤960)(h:Sl w (.slice a l.length c) l.length (l.map V0)) :
 C0 219 #[.slice a l.length c] w (Qo (fun w' r=>∃ g,r=.tuple #[.slice (S1 g) 244 244,V0 0]∧w'.ownsRow w.heap.size 5 1 (.slice (S1 g) 244 244) 244 ((Zfl l).map bv)) w):=by
 refine zin 51 Tryz.func219 ?_
 refine xgk 13 [11,12] (show(decide ((l.length:Int)>(960:Int)):Bool)=false from decide_eq_false M0) ?_
 refine xr 1 (args:=#[.slice a l.length c,.func (.func 262) #[] #[]]) (Ad a c l _ hS hl (h.below (B4 w))) fun W2 a9=>?_
 refine xbs 11 1 [V0 4,V0 (l.length:Int)] 178 fun b3 W3 n3=>?_
 refine xc 0 (args:=#[.slice (S1 b3) 1 1]) (Ef b3 (l.length:Int) M0 M0 _ n3.blk) ?_
 rintro _ W4 ⟨_,rfl,b0,p2,c2,rfl,h2⟩
 have b8:=(bln a9 n3.below).size
 refine xmk 9 fun _ _ _ _ zJ zQ zo zx zy zK=>Kf 244 (.int .u8 0) 1 1 ((List.replicate 244 (0:UInt8)).map bv) zo zx zy Tryz.underlying50 K0 rfl M0 M0 (Ea 244) fun b5 W5 n5=>?_
 have a4:=Zf h2 b8
 have b2:=Zg a4 n5
 refine zK _ _ ?_
 have o5:=Zz (size:=1) (n:=244) n5.blk (n5.ge (bln (bln a9 n3.below) b0)) (by rw[At,A7]) (by unfold maxLen;omega)
 have a6:=Za a4 n5.below
 have hB:=bln (bln (bln a9 n3.below) b0) n5.below
 refine xbi 7 (t2:=50) fun _ _ _ _ zJ zQ zo zx zy zK=>We (dLen:=244) (dCap:=244) (off:=0) 4 ((leB (l.length:Int) 4).map bv) ((Nz l 0).map bv) zo Tryz.underlying50 K0 zx zy (Ze a6) o5 (by simp[Zj]) M0 M0 (Xw _) hB.size (bits0 l) fun W6 o6 b7 b9=>?_
 refine zK _ _ ?_
 have a8:=hB.trans b9
 have a7:=((n3.blk.below b0).below n5.below).grown b7 o5 Do
 refine zl 11 51 (fun zm b4 V=>∃ (i:Nat),b4=[(2,S0),(3,V0 0),(6,.slice (S1 b5) 244 244),(28,.slice a l.length c),(29,V0 (l.length:Int)),(30,V0 (i:Int))]∧zm=l.length-((i:Int)).toNat∧B3 w V∧Blk V b3 ([V0 4,V0 (l.length:Int)]) 178∧V.ownsRow w.heap.size 5 1 (.slice (S1 b5) 244 244) 244 ((Nz l i).map bv)∧i≤l.length) ⟨0,rfl,rfl,a8,a7,o6,A3 _⟩ ?_
 rintro _ _ W7 ⟨i,rfl,rfl,a3,a5,ho,hi⟩ J7 c0 r7
 refine xid 6 ((i:Int)<(l.length:Int)) (fun b6=>?_) (fun b6=>?_)
 ·refine xx 7 _ l.length i 1 (Ints.elem h (k:=i) M0).1 ?_
  refine xl 0 ((Ints.elem (h.below a3) (k:=i) M0).2) ?_
  refine xd 4 (.t w.heap.size [5]) ?_
  refine xq (.e [0,1] 2) (congrArg V0 (show(IntKind.i64.wrap (Int.tdiv (i:Int) 4):Int)=(↑(i/4):Int) from Va i 4 M0 Do)) ?_
  refine xwm (.e [] 3) (4+(↑(i/4):Int)) (↑(4+(i/4)):Int) ?_
  refine xx (.e [] 4) _ 244 (4+(i/4)) 1 (show(some (⟨b5,0,none⟩:Addr)).isSome=true from rfl) ?_
  refine xq (.e [6,7] 8) (congrArg V0 (show(Int.tmod (i:Int) 4:Int)=(↑(i%4):Int) from Nv i 4)) ?_
  refine xwm (.e [] 9) ((↑(i%4):Int)*2) (↑((i%4)*2):Int) ?_
  refine xbot (.e [] 10) (t:=3) (t2:=3) (fun _ _ _ _ zo zx zy V hV=>run_shlS (n:=(l.getD i 0)) (s:=((i%4)*2)) (kj:=.i64) (j:=(↑((i%4)*2):Int)) zo zx zy rfl (Gz hS i) M0 V) ?_
  refine xq (.e [] 11) (congrArg (Value.int .u8) (show(IntKind.u8.wrap (l.getD i 0*2 ^ ((i%4)*2)):Int)=l.getD i 0*2 ^ ((i%4)*2) from u8_shl (Gz hS i) M0)) ?_
  have a1:=Za ho (Zb W7)
  refine xl (.o [] 5) ((BysN.elem (Ze a1) (Jr l i) (k:=(4+(i/4))) M0).2) ?_
  refine xq (.e [] 12) (congrArg (Value.int .u8) (show(IntKind.u8.wrap (↑(BitVec.ofInt 8 (↑((Nz l i).getD (4+(i/4)) 0).toNat:Int) ||| BitVec.ofInt 8 (l.getD i 0*2 ^ ((i%4)*2))).toNat:Int):Int)=(↑(g4B l (i+1) (i/4)).toNat:Int) from bits_or hS M0)) ?_
  refine xx (.e [] 13) _ 244 (4+(i/4)) 1 (show(some (⟨b5,0,none⟩:Addr)).isSome=true from rfl) ?_
  refine yst (.o [] 14) (.t w.heap.size [5]) fun _ _ _ _ zJ zQ zo zx zy zK=>Xk (t:=5) (k:=(4+(i/4))) (v:=.int .u8 (↑(g4B l (i+1) (i/4)).toNat:Int)) zo zx zy K0 rfl a1 M0 fun W9 u9 o9=>?_
  rw[bits_set (l:=l) (i:=i) M0] at o9
  have a0:=a5.below (Zb W7)
  refine zK _ _ (Hd (T:=[5]) (u9.below (Below.refl _ _) (Qa a1)) (Zd.of_updRow u9 a1 Do)) ?_
  refine xwm 4 ((i:Int)+1) (↑(i+1):Int) ?_
  have b1:=u9.below (bln a3 (Zb W7)) (Qa a1)
  have a2:=u9.blk a0 (Xd a0 a1 Do)
  exact ze 2 (c0 _ _ _ ⟨i+1,rfl,rfl,b1,a2,o9,by omega⟩ M0)
 refine xe 13 (.tuple #[.slice (S1 b5) 244 244,V0 0]) ?_
 obtain rfl:i=l.length:=by omega
 exact⟨_,rfl,a3,_,rfl,ho⟩
theorem Ml(p:Addr)(N c:Nat)(xs:List Value)(w:World)(h:Sl w (.slice (some p) N c) N xs)(hl:xs.length=N)(h1:∀ u∈xs,u.oneCell'=true)(hn:N≤1000000) :
 C0 135 #[.slice (some p) N c] w (Qo (fun w' r=>∃ q c2,r=.slice q N c2∧w'.ownsRow w.heap.size 3 1 (.slice q N c2) N xs) w):=by
 refine zin 8 Tryz.func135 ?_
 refine xb0 17 3 fun b1 W1 n1=>?_
 have o1:=Zz (size:=1) (n:=0) n1.blk (n1.ge (B4 w)) rfl Do
 refine xbi 1 fun _ _ _ _ zJ zQ zo zx zy zK=>Zr (m:=N) (news:=xs) (V0 0) 1 8 (N) (xs) zo Tryz.underlying27 K0 rfl Do zx o1 zy (h.below n1.below) (by rw[hl,D5]) h1 (by unfold maxLen;omega) M0 n1.below.size M0 (by rfl) fun a1 a3 W2 o2 a4 a2=>?_
 refine zK _ _ ?_
 have a0:=n1.below.trans a2
 exact xe 4 (.slice a1 N a3) ⟨_,rfl,a0,_,_,rfl,o2⟩
end Go.Proofs.YtekomodnkfhihaaGreatDoor
namespace Go.Proofs.YtekomodnkfhihaaGreatDoor
set_option maxHeartbeats 8000000
set_option maxRecDepth 100000
open Go.RowKit Go.Extern.Stop Go.Stop Go.Extern
set_option linter.unusedVariables false
attribute [local irreducible] wpList wpAnyH Code.wp Oper.wp Go
def ClosP(B Bx bl:Nat)(L:List (List Int))(q i:Nat)(w:World)(e:Ending)(w':World):Prop :=
 ∃ u p c,e=.returned u∧Below B w w'∧Zd [99,124] w w'∧Blk w' bl [.slice p (i+1) c] 99∧w'.ownsRow Bx 124 3 (.slice p (i+1) c) (i+1) ((Xy L q (i+1)).flatMap Yo)∧FrB Bx [bl] w w'
theorem Kx(L:List (List Int))(q i:Nat):(Xy L q i).flatMap Yo++[V0 (i:Int),.string ⟨(leB ((q+i:Nat):Int) 8++leB (Ye (L.getD i []):Int) 4++leB (Xe (L.getD i []):Int) 4).toArray⟩,V0 0]=(Xy L q (i+1)).flatMap Yo:=by
 rw[Dp];simp[Yo,Zf9,slotB]
structure FrZ(Bx:Nat)(S:List Nat)(a w:World):Prop where
 fr:FrB Bx S a w
 le:Bx≤a.heap.size
theorem FrZ.refl{Bx:Nat}{S:List Nat}{w:World}(h:Bx≤w.heap.size):FrZ Bx S w w:=⟨⟨A6 _,fun _ _ _=>rfl⟩,h⟩
theorem FrZ.below{Bx:Nat}{S:List Nat}{a w W:World}(h:FrZ Bx S a w)(hb:B3 w W):FrZ Bx S a W:=⟨⟨N0 h.fr.1 hb.size,fun k hk hn=>(hb.block k (by have:=h.fr.1;have:=h.le;omega)).trans (h.fr.2 k hk hn)⟩,h.le⟩
theorem FrZ.upd{Bx b:Nat}{S:List Nat}{a w W:World}(h:FrZ Bx S a w)(u:Upd w b W)(hb:b∈S):FrZ Bx S a W:=⟨⟨N0 h.fr.1 (K5 u.size.symm),fun k hk hn=>(u.block k fun e=>hn (e▸hb)).trans (h.fr.2 k hk hn)⟩,h.le⟩
theorem FrZ.grown{Bx:Nat}{S:List Nat}{a w W:World}{size n:Nat}{e:TypeId}{v:Value}{xs:List Value}(h:FrZ Bx S a w)(hg:w.grownBy W v.ownBlock)(hown:w.ownsRow Bx e size v n xs):FrZ Bx S a W:=⟨⟨N0 h.fr.1 hg.size,fun k hk hn=>(hg.block k (by have:=h.fr.1;have:=h.le;omega) (fun e=>by have:=(hown.lt k e.symm).1;omega)).trans (h.fr.2 k hk hn)⟩,h.le⟩
theorem Zd8(B Bx bl:Nat)(p:O0)(c:Nat)(L:List (List Int))(q i:Nat)(w:World)(hBm:B≤Bx)(hBx:Bx≤w.heap.size)(hBw:B≤w.heap.size)(hBl:B≤bl)(kl:Blk w bl [.slice p i c] 99)(hup:w.ownsRow Bx 124 3 (.slice p i c) i ((Xy L q i).flatMap Yo))(hq:1≤q+i)(hq2:q+i≤14399)(hi:i≤100000)(hf:Ye (L.getD i [])≤960)(hg:Xe (L.getD i [])≤960) :
 C0 155 #[.agg #[V0 (↑(q+i):Int),V0 (↑(Ye (L.getD i [])):Int),V0 (↑(Xe (L.getD i [])):Int)],P0 bl] w (ClosP B Bx bl L q i w):=by
 have hZ:FrZ Bx [bl] w w:=FrZ.refl hBx
 refine zin 11 Tryz.func155 ?_
 refine xa 2 [V0 (↑(q+i):Int),V0 (↑(Ye (L.getD i [])):Int),V0 (↑(Xe (L.getD i [])):Int)] 126 fun b1 W1 n1=>?_
 refine xd 2 (.t B [99,124]) ?_
 have k1:=n1.blk.below (Zb W1)
 refine xlvt (.e [] 3) (.t B [99,124]) (fun V hV=>(k1.only hV.2 Do).rp) ?_
 refine xm3 0 0 1 4 ?_ ?_ ?_
 ·have c7:=(kl.below n1.below).below (Zb W1)
  refine xb 0 0 c7 ?_
  refine xm2 0 1 4 ?_ ?_
  ·refine xb 0 0 c7 ?_
   refine xr (.o [2] 4) (args:=#[.agg #[V0 (↑(q+i):Int),V0 (↑(Ye (L.getD i [])):Int),V0 (↑(Xe (L.getD i [])):Int)]]) (Jf (↑(q+i):Int) (↑(Ye (L.getD i [])):Int) (↑(Xe (L.getD i [])):Int) M0 M0 M0 M0 M0 M0 _) fun W2 g0=>?_
   refine xbs (.o [5] 6) 1 [V0 (i:Int),.string ⟨(leB (↑(q+i):Int) 8++leB (↑(Ye (L.getD i [])):Int) 4++leB (↑(Xe (L.getD i [])):Int) 4).toArray⟩,V0 0] 124 fun b3 W3 n3=>?_
   have e0:=Za (Za (Za hup n1.below) (Zb W1)) g0
   have j0:=Zg e0 n3
   have a8:=Za e0 n3.below
   have hB:=blB (blB (blB (blB (Below.refl B w) hBw n1.below) hBw (Zb W1)) hBw g0) hBw n3.below
   refine ybi (.o [] 7) (.t B [99,124]) fun _ _ _ _ zJ zQ zo zx zy zK=>Zr (m:=1) (news:=[V0 (i:Int),.string ⟨(leB (↑(q+i):Int) 8++leB (↑(Ye (L.getD i [])):Int) 4++leB (↑(Xe (L.getD i [])):Int) 4).toArray⟩,V0 0]) (.agg #[V0 0,.string ⟨#[]⟩,V0 0]) 3 32 (i+1) ((Xy L q (i+1)).flatMap Yo) zo Tryz.underlying99 K0 rfl Do zx a8 zy (n3.blk.sl 1 1 Do Do) rfl (by simp[Value.oneCell']) (by unfold maxLen;omega) M0 (N0 hBx hB.size) (by rfl) (Kx L q i) fun m1 l9 W4 o4 h4 l4=>?_
   refine zK _ _ (Zt (l4.mono hBm) h4 a8 Do) ?_
   have c4:=((c7.below g0).below n3.below).grown h4 a8 Do
   refine ys (.o [] 8) c4 [.slice m1 (i+1) l9] (.t B [99,124]) fun W5 u5 k5=>⟨(Xb u5 c4 hBl Do),?_⟩
   have j8:=u5.below (hB.trans (l4.mono hBm)) hBl
   have hO:=(((((show Zd [99,124] w _ from(Zd.of_below n1.below)).trans (Zd.of_below (Zb W1))).trans (Zd.of_below g0)).trans (Zd.of_below n3.below)).trans (Zd.of_grown h4 a8 Do)).trans (Zd.of_upd u5 c4 Do)
   have k2:=u5.own2 o4 c4 Do
   have l3:=(((((hZ.below n1.below).below (Zb W1)).below g0).below n3.below).grown h4 a8).upd u5 (by simp)
   exact xe 1 (.tuple #[]) ⟨_,_,_,rfl,j8,hO,k5,k2,l3.fr⟩
  refine xr 0 (args:=#[.agg #[V0 (↑(q+i):Int),V0 (↑(Ye (L.getD i [])):Int),V0 (↑(Xe (L.getD i [])):Int)]]) (Jf (↑(q+i):Int) (↑(Ye (L.getD i [])):Int) (↑(Xe (L.getD i [])):Int) M0 M0 M0 M0 M0 M0 _) fun W6 f8=>?_
  have g1:=c7.below f8
  refine xb (.o [] 1) 0 g1 ?_
  refine xbs (.o [2,5] 6) 1 [V0 (i:Int),.string ⟨(leB (↑(q+i):Int) 8++leB (↑(Ye (L.getD i [])):Int) 4++leB (↑(Xe (L.getD i [])):Int) 4).toArray⟩,V0 0] 124 fun b7 W7 n7=>?_
  have d6:=Za (Za (Za hup n1.below) (Zb W1)) f8
  have i9:=Zg d6 n7
  have a7:=Za d6 n7.below
  have hB:=blB (blB (blB (blB (Below.refl B w) hBw n1.below) hBw (Zb W1)) hBw f8) hBw n7.below
  refine ybi (.o [] 7) (.t B [99,124]) fun _ _ _ _ zJ zQ zo zx zy zK=>Zr (m:=1) (news:=[V0 (i:Int),.string ⟨(leB (↑(q+i):Int) 8++leB (↑(Ye (L.getD i [])):Int) 4++leB (↑(Xe (L.getD i [])):Int) 4).toArray⟩,V0 0]) (.agg #[V0 0,.string ⟨#[]⟩,V0 0]) 3 32 (i+1) ((Xy L q (i+1)).flatMap Yo) zo Tryz.underlying99 K0 rfl Do zx a7 zy (n7.blk.sl 1 1 Do Do) rfl (by simp[Value.oneCell']) (by unfold maxLen;omega) M0 (N0 hBx hB.size) (by rfl) (Kx L q i) fun m8 m2 W8 o8 h6 l5=>?_
  refine zK _ _ (Zt (l5.mono hBm) h6 a7 Do) ?_
  have c5:=(g1.below n7.below).grown h6 a7 Do
  refine ys (.o [] 8) c5 [.slice m8 (i+1) m2] (.t B [99,124]) fun W9 u9 k9=>⟨(Xb u9 c5 hBl Do),?_⟩
  have j5:=u9.below (hB.trans (l5.mono hBm)) hBl
  have hO:=(((((show Zd [99,124] w _ from(Zd.of_below n1.below)).trans (Zd.of_below (Zb W1))).trans (Zd.of_below f8)).trans (Zd.of_below n7.below)).trans (Zd.of_grown h6 a7 Do)).trans (Zd.of_upd u9 c5 Do)
  have j9:=u9.own2 o8 c5 Do
  have i5:=(((((hZ.below n1.below).below (Zb W1)).below f8).below n7.below).grown h6 a7).upd u9 (by simp)
  exact xe 1 (.tuple #[]) ⟨_,_,_,rfl,j5,hO,k9,j9,i5.fr⟩
 ·have c2:=(kl.below n1.below).below (Zb W1)
  refine xb 0 0 c2 ?_
  refine xm2 (.b [2]) 0 4 ?_ ?_
  ·refine xb 0 0 c2 ?_
   refine xr (.o [] 4) (args:=#[.agg #[V0 (↑(q+i):Int),V0 (↑(Ye (L.getD i [])):Int),V0 (↑(Xe (L.getD i [])):Int)]]) (Jf (↑(q+i):Int) (↑(Ye (L.getD i [])):Int) (↑(Xe (L.getD i [])):Int) M0 M0 M0 M0 M0 M0 _) fun n5 c0=>?_
   refine xbs (.o [5] 6) 1 [V0 (i:Int),.string ⟨(leB (↑(q+i):Int) 8++leB (↑(Ye (L.getD i [])):Int) 4++leB (↑(Xe (L.getD i [])):Int) 4).toArray⟩,V0 0] 124 fun o5 p7 e1=>?_
   have d5:=Za (Za (Za hup n1.below) (Zb W1)) c0
   have h5:=Zg d5 e1
   have a6:=Za d5 e1.below
   have hB:=blB (blB (blB (blB (Below.refl B w) hBw n1.below) hBw (Zb W1)) hBw c0) hBw e1.below
   refine ybi (.o [] 7) (.t B [99,124]) fun _ _ _ _ zJ zQ zo zx zy zK=>Zr (m:=1) (news:=[V0 (i:Int),.string ⟨(leB (↑(q+i):Int) 8++leB (↑(Ye (L.getD i [])):Int) 4++leB (↑(Xe (L.getD i [])):Int) 4).toArray⟩,V0 0]) (.agg #[V0 0,.string ⟨#[]⟩,V0 0]) 3 32 (i+1) ((Xy L q (i+1)).flatMap Yo) zo Tryz.underlying99 K0 rfl Do zx a6 zy (e1.blk.sl 1 1 Do Do) rfl (by simp[Value.oneCell']) (by unfold maxLen;omega) M0 (N0 hBx hB.size) (by rfl) (Kx L q i) fun i3 j2 p5 m6 c8 f7=>?_
   refine zK _ _ (Zt (f7.mono hBm) c8 a6 Do) ?_
   have d1:=((c2.below c0).below e1.below).grown c8 a6 Do
   refine ys (.o [] 8) d1 [.slice i3 (i+1) j2] (.t B [99,124]) fun o2 g8 n2=>⟨(Xb g8 d1 hBl Do),?_⟩
   have k8:=g8.below (hB.trans (f7.mono hBm)) hBl
   have hO:=(((((show Zd [99,124] w _ from(Zd.of_below n1.below)).trans (Zd.of_below (Zb W1))).trans (Zd.of_below c0)).trans (Zd.of_below e1.below)).trans (Zd.of_grown c8 a6 Do)).trans (Zd.of_upd g8 d1 Do)
   have f3:=g8.own2 m6 d1 Do
   have j7:=(((((hZ.below n1.below).below (Zb W1)).below c0).below e1.below).grown c8 a6).upd g8 (by simp)
   exact xe 1 (.tuple #[]) ⟨_,_,_,rfl,k8,hO,n2,f3,j7.fr⟩
  refine xr 0 (args:=#[.agg #[V0 (↑(q+i):Int),V0 (↑(Ye (L.getD i [])):Int),V0 (↑(Xe (L.getD i [])):Int)]]) (Jf (↑(q+i):Int) (↑(Ye (L.getD i [])):Int) (↑(Xe (L.getD i [])):Int) M0 M0 M0 M0 M0 M0 _) fun n6 a5=>?_
  refine xm2 (.b [5]) 0 6 ?_ ?_
  ·have e7:=c2.below a5
   refine xb 0 0 e7 ?_
   refine xbs (.o [] 6) 1 [V0 (i:Int),.string ⟨(leB (↑(q+i):Int) 8++leB (↑(Ye (L.getD i [])):Int) 4++leB (↑(Xe (L.getD i [])):Int) 4).toArray⟩,V0 0] 124 fun p1 o0 e4=>?_
   have d7:=Za (Za (Za hup n1.below) (Zb W1)) a5
   have h3:=Zg d7 e4
   have a9:=Za d7 e4.below
   have hB:=blB (blB (blB (blB (Below.refl B w) hBw n1.below) hBw (Zb W1)) hBw a5) hBw e4.below
   refine ybi (.o [] 7) (.t B [99,124]) fun _ _ _ _ zJ zQ zo zx zy zK=>Zr (m:=1) (news:=[V0 (i:Int),.string ⟨(leB (↑(q+i):Int) 8++leB (↑(Ye (L.getD i [])):Int) 4++leB (↑(Xe (L.getD i [])):Int) 4).toArray⟩,V0 0]) (.agg #[V0 0,.string ⟨#[]⟩,V0 0]) 3 32 (i+1) ((Xy L q (i+1)).flatMap Yo) zo Tryz.underlying99 K0 rfl Do zx a9 zy (e4.blk.sl 1 1 Do Do) rfl (by simp[Value.oneCell']) (by unfold maxLen;omega) M0 (N0 hBx hB.size) (by rfl) (Kx L q i) fun i2 l0 o1 m5 c9 g5=>?_
   refine zK _ _ (Zt (g5.mono hBm) c9 a9 Do) ?_
   have c6:=(e7.below e4.below).grown c9 a9 Do
   refine ys (.o [] 8) c6 [.slice i2 (i+1) l0] (.t B [99,124]) fun n4 g3 n0=>⟨(Xb g3 c6 hBl Do),?_⟩
   have j1:=g3.below (hB.trans (g5.mono hBm)) hBl
   have hO:=(((((show Zd [99,124] w _ from(Zd.of_below n1.below)).trans (Zd.of_below (Zb W1))).trans (Zd.of_below a5)).trans (Zd.of_below e4.below)).trans (Zd.of_grown c9 a9 Do)).trans (Zd.of_upd g3 c6 Do)
   have g9:=g3.own2 m5 c6 Do
   have l2:=(((((hZ.below n1.below).below (Zb W1)).below a5).below e4.below).grown c9 a9).upd g3 (by simp)
   exact xe 1 (.tuple #[]) ⟨_,_,_,rfl,j1,hO,n0,g9,l2.fr⟩
  refine xbs 0 1 [V0 (i:Int),.string ⟨(leB (↑(q+i):Int) 8++leB (↑(Ye (L.getD i [])):Int) 4++leB (↑(Xe (L.getD i [])):Int) 4).toArray⟩,V0 0] 124 fun o7 q2 e2=>?_
  have d9:=Za (Za (Za hup n1.below) (Zb W1)) a5
  have h2:=Zg d9 e2
  have e9:=(c2.below a5).below e2.below
  refine xb (.o [] 0) 0 e9 ?_
  have a3:=Za d9 e2.below
  have hB:=blB (blB (blB (blB (Below.refl B w) hBw n1.below) hBw (Zb W1)) hBw a5) hBw e2.below
  refine ybi (.o [] 7) (.t B [99,124]) fun _ _ _ _ zJ zQ zo zx zy zK=>Zr (m:=1) (news:=[V0 (i:Int),.string ⟨(leB (↑(q+i):Int) 8++leB (↑(Ye (L.getD i [])):Int) 4++leB (↑(Xe (L.getD i [])):Int) 4).toArray⟩,V0 0]) (.agg #[V0 0,.string ⟨#[]⟩,V0 0]) 3 32 (i+1) ((Xy L q (i+1)).flatMap Yo) zo Tryz.underlying99 K0 rfl Do zx a3 zy (e2.blk.sl 1 1 Do Do) rfl (by simp[Value.oneCell']) (by unfold maxLen;omega) M0 (N0 hBx hB.size) (by rfl) (Kx L q i) fun k6 l1 p8 l7 d4 f0=>?_
  refine zK _ _ (Zt (f0.mono hBm) d4 a3 Do) ?_
  have b0:=e9.grown d4 a3 Do
  refine ys (.o [] 8) b0 [.slice k6 (i+1) l1] (.t B [99,124]) fun p9 f2 m9=>⟨(Xb f2 b0 hBl Do),?_⟩
  have k4:=f2.below (hB.trans (f0.mono hBm)) hBl
  have hO:=(((((show Zd [99,124] w _ from(Zd.of_below n1.below)).trans (Zd.of_below (Zb W1))).trans (Zd.of_below a5)).trans (Zd.of_below e2.below)).trans (Zd.of_grown d4 a3 Do)).trans (Zd.of_upd f2 b0 Do)
  have g2:=f2.own2 l7 b0 Do
  have i6:=(((((hZ.below n1.below).below (Zb W1)).below a5).below e2.below).grown d4 a3).upd f2 (by simp)
  exact xe 1 (.tuple #[]) ⟨_,_,_,rfl,k4,hO,m9,g2,i6.fr⟩
 refine xr 0 (args:=#[.agg #[V0 (↑(q+i):Int),V0 (↑(Ye (L.getD i [])):Int),V0 (↑(Xe (L.getD i [])):Int)]]) (Jf (↑(q+i):Int) (↑(Ye (L.getD i [])):Int) (↑(Xe (L.getD i [])):Int) M0 M0 M0 M0 M0 M0 _) fun q3 a0=>?_
 refine xm2 0 0 1 ?_ ?_
 ·have c3:=((kl.below n1.below).below (Zb W1)).below a0
  refine xb 0 0 c3 ?_
  refine xb (.o [] 1) 0 c3 ?_
  refine xbs (.o [2,5] 6) 1 [V0 (i:Int),.string ⟨(leB (↑(q+i):Int) 8++leB (↑(Ye (L.getD i [])):Int) 4++leB (↑(Xe (L.getD i [])):Int) 4).toArray⟩,V0 0] 124 fun q0 o9 e6=>?_
  have c1:=Za (Za (Za hup n1.below) (Zb W1)) a0
  have h7:=Zg c1 e6
  have a4:=Za c1 e6.below
  have hB:=blB (blB (blB (blB (Below.refl B w) hBw n1.below) hBw (Zb W1)) hBw a0) hBw e6.below
  refine ybi (.o [] 7) (.t B [99,124]) fun _ _ _ _ zJ zQ zo zx zy zK=>Zr (m:=1) (news:=[V0 (i:Int),.string ⟨(leB (↑(q+i):Int) 8++leB (↑(Ye (L.getD i [])):Int) 4++leB (↑(Xe (L.getD i [])):Int) 4).toArray⟩,V0 0]) (.agg #[V0 0,.string ⟨#[]⟩,V0 0]) 3 32 (i+1) ((Xy L q (i+1)).flatMap Yo) zo Tryz.underlying99 K0 rfl Do zx a4 zy (e6.blk.sl 1 1 Do Do) rfl (by simp[Value.oneCell']) (by unfold maxLen;omega) M0 (N0 hBx hB.size) (by rfl) (Kx L q i) fun h9 k7 n9 m3 d3 g7=>?_
  refine zK _ _ (Zt (g7.mono hBm) d3 a4 Do) ?_
  have b5:=(c3.below e6.below).grown d3 a4 Do
  refine ys (.o [] 8) b5 [.slice h9 (i+1) k7] (.t B [99,124]) fun o6 f1 l6=>⟨(Xb f1 b5 hBl Do),?_⟩
  have i8:=f1.below (hB.trans (g7.mono hBm)) hBl
  have hO:=(((((show Zd [99,124] w _ from(Zd.of_below n1.below)).trans (Zd.of_below (Zb W1))).trans (Zd.of_below a0)).trans (Zd.of_below e6.below)).trans (Zd.of_grown d3 a4 Do)).trans (Zd.of_upd f1 b5 Do)
  have g6:=f1.own2 m3 b5 Do
  have j3:=(((((hZ.below n1.below).below (Zb W1)).below a0).below e6.below).grown d3 a4).upd f1 (by simp)
  exact xe 1 (.tuple #[]) ⟨_,_,_,rfl,i8,hO,l6,g6,j3.fr⟩
 have b4:=((kl.below n1.below).below (Zb W1)).below a0
 refine xb 0 0 b4 ?_
 refine xm2 (.b [2,5]) 0 6 ?_ ?_
 ·refine xb 0 0 b4 ?_
  refine xbs (.o [] 6) 1 [V0 (i:Int),.string ⟨(leB (↑(q+i):Int) 8++leB (↑(Ye (L.getD i [])):Int) 4++leB (↑(Xe (L.getD i [])):Int) 4).toArray⟩,V0 0] 124 fun p0 p6 e3=>?_
  have b9:=Za (Za (Za hup n1.below) (Zb W1)) a0
  have h8:=Zg b9 e3
  have a1:=Za b9 e3.below
  have hB:=blB (blB (blB (blB (Below.refl B w) hBw n1.below) hBw (Zb W1)) hBw a0) hBw e3.below
  refine ybi (.o [] 7) (.t B [99,124]) fun _ _ _ _ zJ zQ zo zx zy zK=>Zr (m:=1) (news:=[V0 (i:Int),.string ⟨(leB (↑(q+i):Int) 8++leB (↑(Ye (L.getD i [])):Int) 4++leB (↑(Xe (L.getD i [])):Int) 4).toArray⟩,V0 0]) (.agg #[V0 0,.string ⟨#[]⟩,V0 0]) 3 32 (i+1) ((Xy L q (i+1)).flatMap Yo) zo Tryz.underlying99 K0 rfl Do zx a1 zy (e3.blk.sl 1 1 Do Do) rfl (by simp[Value.oneCell']) (by unfold maxLen;omega) M0 (N0 hBx hB.size) (by rfl) (Kx L q i) fun i1 i4 p3 l8 d0 h0=>?_
  refine zK _ _ (Zt (h0.mono hBm) d0 a1 Do) ?_
  have b2:=(b4.below e3.below).grown d0 a1 Do
  refine ys (.o [] 8) b2 [.slice i1 (i+1) i4] (.t B [99,124]) fun n8 f9 m0=>⟨(Xb f9 b2 hBl Do),?_⟩
  have j4:=f9.below (hB.trans (h0.mono hBm)) hBl
  have hO:=(((((show Zd [99,124] w _ from(Zd.of_below n1.below)).trans (Zd.of_below (Zb W1))).trans (Zd.of_below a0)).trans (Zd.of_below e3.below)).trans (Zd.of_grown d0 a1 Do)).trans (Zd.of_upd f9 b2 Do)
  have f5:=f9.own2 l8 b2 Do
  have k3:=(((((hZ.below n1.below).below (Zb W1)).below a0).below e3.below).grown d0 a1).upd f9 (by simp)
  exact xe 1 (.tuple #[]) ⟨_,_,_,rfl,j4,hO,m0,f5,k3.fr⟩
 refine xbs 0 1 [V0 (i:Int),.string ⟨(leB (↑(q+i):Int) 8++leB (↑(Ye (L.getD i [])):Int) 4++leB (↑(Xe (L.getD i [])):Int) 4).toArray⟩,V0 0] 124 fun q1 o3 e5=>?_
 have b8:=Za (Za (Za hup n1.below) (Zb W1)) a0
 have h1:=Zg b8 e5
 have d8:=b4.below e5.below
 refine xb (.o [] 0) 0 d8 ?_
 have a2:=Za b8 e5.below
 have hB:=blB (blB (blB (blB (Below.refl B w) hBw n1.below) hBw (Zb W1)) hBw a0) hBw e5.below
 refine ybi (.o [] 7) (.t B [99,124]) fun _ _ _ _ zJ zQ zo zx zy zK=>Zr (m:=1) (news:=[V0 (i:Int),.string ⟨(leB (↑(q+i):Int) 8++leB (↑(Ye (L.getD i [])):Int) 4++leB (↑(Xe (L.getD i [])):Int) 4).toArray⟩,V0 0]) (.agg #[V0 0,.string ⟨#[]⟩,V0 0]) 3 32 (i+1) ((Xy L q (i+1)).flatMap Yo) zo Tryz.underlying99 K0 rfl Do zx a2 zy (e5.blk.sl 1 1 Do Do) rfl (by simp[Value.oneCell']) (by unfold maxLen;omega) M0 (N0 hBx hB.size) (by rfl) (Kx L q i) fun k0 j6 p4 m4 d2 f4=>?_
 refine zK _ _ (Zt (f4.mono hBm) d2 a2 Do) ?_
 have b6:=d8.grown d2 a2 Do
 refine ys (.o [] 8) b6 [.slice k0 (i+1) j6] (.t B [99,124]) fun p2 f6 m7=>⟨(Xb f6 b6 hBl Do),?_⟩
 have i7:=f6.below (hB.trans (f4.mono hBm)) hBl
 have hO:=(((((show Zd [99,124] w _ from(Zd.of_below n1.below)).trans (Zd.of_below (Zb W1))).trans (Zd.of_below a0)).trans (Zd.of_below e5.below)).trans (Zd.of_grown d2 a2 Do)).trans (Zd.of_upd f6 b6 Do)
 have e8:=f6.own2 m4 b6 Do
 have i0:=(((((hZ.below n1.below).below (Zb W1)).below a0).below e5.below).grown d2 a2).upd f6 (by simp)
 exact xe 1 (.tuple #[]) ⟨_,_,_,rfl,i7,hO,m7,e8,i0.fr⟩
def ClosM(B Bx bl:Nat)(L:List (List Int))(q i:Nat)(w:World)(e:Ending)(w':World):Prop :=
 ∃ u p c,e=.returned u∧Below B w w'∧Zd [132,126] w w'∧Blk w' bl [.slice p (i+1) c] 132∧w'.ownsRow Bx 126 3 (.slice p (i+1) c) (i+1) (rsL L q (i+1))∧FrB Bx [bl] w w'
theorem Zg2(B Bx bl:Nat)(p:O0)(c:Nat)(L:List (List Int))(q i:Nat)(w:World)(hBm:B≤Bx)(hBx:Bx≤w.heap.size)(hBw:B≤w.heap.size)(hBl:B≤bl)(kl:Blk w bl [.slice p i c] 132)(hup:w.ownsRow Bx 126 3 (.slice p i c) i (rsL L q i))(hi:i≤100000) :
 C0 159 #[.agg #[V0 (↑(q+i):Int),V0 (↑(Ye (L.getD i [])):Int),V0 (↑(Xe (L.getD i [])):Int)],P0 bl] w (ClosM B Bx bl L q i w):=by
 have hZ:FrZ Bx [bl] w w:=FrZ.refl hBx
 refine zin 7 Tryz.func159 ?_
 refine xa 2 [V0 (↑(q+i):Int),V0 (↑(Ye (L.getD i [])):Int),V0 (↑(Xe (L.getD i [])):Int)] 126 fun b1 W1 n1=>?_
 have a7:=Zg hup n1
 have a3:=kl.below n1.below
 refine xb 3 0 a3 ?_
 refine xlv 0 n1.blk.rp ?_
 refine xbs 0 1 [V0 (↑(q+i):Int),V0 (↑(Ye (L.getD i [])):Int),V0 (↑(Xe (L.getD i [])):Int)] 126 fun b2 W2 n2=>?_
 have b0:=n2.ne n1.blk
 have a1:=Za hup n1.below
 have a9:=Zg a1 n2
 have a0:=Za a1 n2.below
 have hB:=blB (blB (Below.refl B w) hBw n1.below) hBw n2.below
 refine xbi 0 fun _ _ _ _ zJ zQ zo zx zy zK=>Zr (m:=1) (news:=[V0 (↑(q+i):Int),V0 (↑(Ye (L.getD i [])):Int),V0 (↑(Xe (L.getD i [])):Int)]) (.agg #[V0 0,V0 0,V0 0]) 3 24 (i+1) ((rsL L q (i+1))) zo Tryz.underlying132 K0 rfl Do zx a0 zy (n2.blk.sl 1 1 Do Do) rfl (by simp[Value.oneCell']) (by unfold maxLen;omega) M0 (N0 hBx hB.size) (by rfl) (by rw[Zco];rfl) fun b5 b4 W3 o3 a4 b3=>?_
 refine zK _ _ ?_
 have a2:=(a3.below n2.below).grown a4 a0 Do
 refine xs 0 a2 [.slice b5 (i+1) b4] fun W4 u4 k4=>?_
 have a8:=u4.below (hB.trans (b3.mono hBm)) hBl
 have hO:=(((show Zd [132,126] w _ from(Zd.of_below n1.below)).trans (Zd.of_below n2.below)).trans (Zd.of_grown a4 a0 Do)).trans (Zd.of_upd u4 a2 Do)
 have a6:=u4.own2 o3 a2 Do
 have a5:=(((hZ.below n1.below).below n2.below).grown a4 a0).upd u4 (by simp)
 exact xe 1 (.tuple #[]) ⟨_,_,_,rfl,a8,hO,k4,a6,a5.fr⟩
def LayPostM(B ba b g nn cc:Nat)(pa:O0)(ca f N k0:Nat)(bs:Bl)(bl:Nat)(L:List (List Int))(w:World)(e:Ending)(w':World):Prop :=
 ∃ p c,e=.returned .nilIface∧Below B w w'∧Zd [169,5,132,126] w w'∧Fr [ba,g,bl] w w'∧Al B ba b g nn cc pa ca f N (k0+L.length) (Kn L (f+k0) bs L.length) w'∧Blk w' bl [.slice p L.length c] 132∧w'.ownsRow w.heap.size 126 3 (.slice p L.length c) L.length (rsL L (f+k0) L.length)
theorem Zjt(B ba b g nn cc:Nat)(pa:O0)(ca f N k0:Nat)(bs:Bl)(bl B2:Nat)(pl:O0)(cl:Nat)(gs:List (Nat×Nat))(L:List (List Int))(w:World)(hC:AlC B ba nn cc ca f N)(hA:Al B ba b g nn cc pa ca f N k0 bs w)(hL:Lists w B2 (.slice pl L.length cl) gs L)(hS:∀ i,i<L.length→Hp (L.getD i [])∧(L.getD i []).length≤960)(hf1:1≤f)(hk:k0+L.length≤N)(kl:Blk w bl [S0] 132)(hBl:B≤bl)(hBw:B≤w.heap.size) :
 C0 154 #[P0 ba,.slice pl L.length cl,.func (.func 159) #[] #[P0 bl]] w (LayPostM B ba b g nn cc pa ca f N k0 bs bl L w):=by
 have d2:=hC.hf
 have d3:=hC.hn
 refine zin 51 Tryz.func154 ?_
 have hB:=Below.refl B w
 refine zl 14 51 (fun zm c2 V=>∃ (i:Nat) (p:O0) (c:Nat),c2=[(0,P0 ba),(2,.func (.func 159) #[] #[P0 bl]),(15,.slice pl L.length cl),(16,V0 (L.length:Int)),(17,V0 (i:Int))]∧zm=L.length-((i:Int)).toNat∧Below B w V∧Fr [ba,g,bl] w V∧Zd [169,5,132,126] w V∧Blk V bl ([.slice p i c]) 132∧Al B ba b g nn cc pa ca f N (k0+i) (Kn L (f+k0) bs i) V∧Lists V B2 (.slice pl L.length cl) gs L∧V.ownsRow w.heap.size 126 3 (.slice p i c) i (rsL L (f+k0) i)∧i≤L.length) ⟨0,none,0,rfl,rfl,hB,(Fr.refl _ _),(Zd.refl _ _),kl,hA,hL,A4 _ _ _ _,A3 _⟩ ?_
 rintro _ _ W1 ⟨i,p,c,rfl,rfl,a5,a8,a9,a1,hA,hL,b2,hi⟩ J1 c5 r1
 refine xid 6 ((i:Int)<(L.length:Int)) (fun c7=>?_) (fun c7=>?_)
 ·refine xx 6 _ L.length i 1 (Lists.elem hL rfl (k:=i) M0).1 ?_
  refine xl 0 ((Lists.elem hL rfl (k:=i) M0).2) ?_
  refine xc 6 (args:=#[.slice (some ⟨(gs.getD i (0,0)).1,0,none⟩) ((L.getD i []).length) ((gs.getD i (0,0)).2)]) (Zcq _ _ (L.getD i []) _ (hS i M0).1 (hS i M0).2 (Ze (hL.each i M0))) ?_
  rintro _ W3 ⟨_,rfl,a3,g6,rfl,h6⟩
  have b6:=hA.below a3
  have a4:=a9.trans (Zd.of_below a3)
  have b4:=Zf h6 a5.size
  have b0:=blB a5 hBw a3
  refine xc 21 (args:=#[P0 ba,V0 3,.slice (S1 g6) 244 244]) (Wp B ba b g nn cc pa ca f N (k0+i) (Kn L (f+k0) bs i) 3 (S1 g6) 244 (Zfl (L.getD i [])) (f+k0+i) 244 _ (D4 _ _ _).symm (Jr _ _) hC b6 M0 Do Do (fun W _ a4=>Ya (Ze (Zi b4 a4 Do)) (Jr _ _)) Do (N0 hBw b0.size)) ?_
  rintro _ W4 ⟨rfl,d0,b3,c3,hA⟩
  have a7:=(hL.below a3).only b3 Do
  refine xr 20 (args:=#[.slice (some ⟨(gs.getD i (0,0)).1,0,none⟩) ((L.getD i []).length) ((gs.getD i (0,0)).2)]) (Iv _ _ (L.getD i []) _ (hS i M0).2 (Ze (a7.each i M0))) fun W5 a2=>?_
  have d1:Ye (L.getD i [])≤960:=N0 (Wl _ _) (hS i M0).2
  have d4:Xe (L.getD i [])≤960:=N0 (Ma _) (hS i M0).2
  have a6:=blB (b0.trans d0) hBw a2
  have a0:=((a1.below a3).only b3 Do).below a2
  have b1:=Za (Zi (Za b2 a3) b3 Do) a2
  refine xc 13 (args:=#[.agg #[V0 (↑(f+k0+i):Int),V0 (↑(Ye (L.getD i [])):Int),V0 (↑(Xe (L.getD i [])):Int)],P0 bl]) (Zg2 B w.heap.size bl p c L (f+k0) i _ hBw a6.size (N0 hBw a6.size) hBl a0 b1 M0) ?_
  rintro _ W6 ⟨_,p9,c9,rfl,c6,c0,c4,b2,c8⟩
  refine xwm 4 ((i:Int)+1) (↑(i+1):Int) ?_
  have c1:=(hA.below a2).only c0 Do
  have b7:=(a7.below a2).only c0 Do
  have b8:=a6.trans c6
  have b5:=(Fr.trans_B (((a8.trans (Fr.of_below a3)).trans (c3.mono (by simp))).trans (Fr.of_below a2)) c8 (by simp))
  have b9:=((a4.trans (b3.wide)).trans (Zd.of_below a2)).trans (c0.wide)
  exact ze 2 (c5 _ _ _ ⟨i+1,_,_,rfl,rfl,b8,b5,b9,c4,c1,b7,b2,by omega⟩ M0)
 refine xe 11 .nilIface ?_
 obtain rfl:i=L.length:=by omega
 exact⟨_,_,rfl,a5,a9,a8,hA,a1,b2⟩
end Go.Proofs.YtekomodnkfhihaaGreatDoor
