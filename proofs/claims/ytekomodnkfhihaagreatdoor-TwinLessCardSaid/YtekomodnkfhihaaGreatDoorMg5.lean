/- The statement TwinLess, walked. -/
import Derived.Lib.SmallJoins
import Derived.SizedLaws
import Derived.Test.YtekomodnkfhihaaGreatDoorMg4
namespace Go.Proofs.YtekomodnkfhihaaGreatDoor
set_option maxHeartbeats 8000000
set_option maxRecDepth 100000
open Go.RowKit Go.Extern.Stop Go.Stop Go.Extern
set_option linter.unusedVariables false
attribute [local irreducible] wpList wpAnyH Code.wp Oper.wp Go
theorem Sw(p:O0)(c n:Nat)(t u v x:Int)(Z:List Zv)(w:World)(hZ:Z.length=n)(hP:DevsR w p c Z)(hk:Ye t u v x (Z.map Prod.fst)≠0) :
 C0 11 #[.agg #[V0 t,V0 u,V0 v,V0 x,.slice p n c]] w (Ret (V0 0) w):=by
 refine zin 17 Tryz.func11 ?_
 refine xa 2 [V0 t,V0 u,V0 v,V0 x,.slice p n c] 24 fun b1 W1 n1=>?_
 refine xlv 5 n1.blk.rp ?_
 refine xr 0 (args:=#[.agg #[V0 t,V0 u,V0 v,V0 x,.slice p n c]]) (Mh p c n t u v x Z _ hZ (hP.below n1.below) hk) fun W2 a1=>?_
 have a0:=bln n1.below a1
 exact xe 18 (V0 0) ⟨rfl,a0⟩
def szA (t u v x:Int)(L:List Dv):Nat:=if Ye t u v x L=0 then Ts x.toNat L else 0
theorem Ta(p:O0)(c n:Nat)(t u v x:Int)(Z:List Zv)(w:World)(hZ:Z.length=n)(hP:DevsR w p c Z):C0 11 #[.agg #[V0 t,V0 u,V0 v,V0 x,.slice p n c]] w (Ret (V0 (↑(szA t u v x (Z.map Prod.fst)):Int)) w):=by
 by_cases h1:Ye t u v x (Z.map Prod.fst)=0
 ·have hk:=Kf.1 h1
  obtain⟨X,rfl⟩:∃ X:Nat,x=(X:Int):=⟨x.toNat,by have:=hk.hdata;omega⟩
  unfold szA
  rw[if_pos h1,G7]
  exact Zbt p c n X t u v Z w hZ hP hk
 ·unfold szA
  rw[if_neg h1]
  exact Sw p c n t u v x Z w hZ hP h1
theorem nd_le(t u v x:Int)(L:List Dv):ndA t u v x L≤szA t u v x L∧(Ye t u v x L=0→1≤ndA t u v x L)∧(Ye t u v x L≠0→ndA t u v x L=0):=by
 unfold ndA szA
 have h:=needT_le x.toNat L
 by_cases h1:Ye t u v x L=0
 ·rw[if_pos h1,if_pos h1];exact⟨h.2,fun _=>h.1,fun q=>absurd h1 q⟩
 ·rw[if_neg h1,if_neg h1];exact⟨A3 _,fun q=>absurd q h1,fun _=>rfl⟩
theorem sz_bd{t u v x:Int}{L:List Dv}:szA t u v x L≤200000:=by
 unfold szA
 by_cases h1:Ye t u v x L=0
 ·rw[if_pos h1]
  have hk:=Kf.1 h1
  have hd:=hk.hdata
  have e:((x.toNat:Nat):Int)=x:=Int.toNat_of_nonneg M0
  have h:=Wk (data:=x.toNat) (L:=L) M0 (by rw[e];exact hk.devs)
  unfold Ts Li
  omega
 ·rw[if_neg h1];omega
theorem Da(b1 b2:Nat)(a b:O0)(ca cb:Nat)(M K:List Mp)(w:World)(hMK:K=M)(k1:Blk w b1 [V0 0,V0 0,V0 0,V0 0,.slice a M.length ca] 32)(k2:Blk w b2 [V0 0,V0 0,V0 0,V0 0,.slice b K.length cb] 32)(ha:Sts We w (.slice a M.length ca) M)(hb:Sts We w (.slice b K.length cb) K) :
 C0 9 #[.agg #[V0 0,V0 0,V0 0,V0 0,.slice (S1 b1) 1 1],.agg #[V0 0,V0 0,V0 0,V0 0,.slice (S1 b2) 1 1]] w (Ret (.bool true) w):=by
 subst hMK
 refine Zbd (S1 b1) (S1 b2) 1 1 1 0 0 0 0 [(((0,0,0,0),K),a,ca)] [(((0,0,0,0),K),b,cb)] w rfl rfl (fun i hi=>?_) ⟨k1.sl 1 1 Do Do,fun i hi=>?_⟩ ⟨k2.sl 1 1 Do Do,fun i hi=>?_⟩
 ·obtain rfl:i=0:=by omega
  rfl
 ·have hi:i<1:=hi
  obtain rfl:i=0:=by omega
  exact ha
 ·have hi:i<1:=hi
  obtain rfl:i=0:=by omega
  exact hb
theorem Cv(p:O0)(c n:Nat)(t u v x:Int)(Z:List Zv)(w:World)(hI:ItT w)(hZ:Z.length=n)(hP:DevsR w p c Z)(hS:∀ i,i<n→(∀ m∈(Z.getD i zvD).1.2,MpR m)∧(Z.getD i zvD).1.2.length≤6000000000000) :
 C0 3 #[.agg #[V0 t,V0 u,V0 v,V0 x,.slice p n c]] w (Ret (.bool true) w):=by
 have a7:(Z.map Prod.fst).length=n:=by rw[A0];exact hZ
 have i8:=Sl.len (hP.rowN hZ)
 have f3:=nd_le t u v x (Z.map Prod.fst)
 have h6:=f3.1
 have j3:=sz_bd (t:=t) (u:=u) (v:=v) (x:=x) (L:=(Z.map Prod.fst))
 have j6:=Yp 5 n
 refine zin 104 Tryz.func3 ?_
 refine xa 2 [V0 t,V0 u,V0 v,V0 x,.slice p n c] 24 fun b1 W1 n1=>?_
 refine xlv 6 n1.blk.rp ?_
 refine xc 0 (args:=#[.agg #[V0 t,V0 u,V0 v,V0 x,.slice p n c]]) (Ak p c n t u v x Z _ hZ (hP.below n1.below) (fun i hi=>(hS i hi).2)) ?_
 rintro e W2 i0
 rcases i0 with ⟨rfl,d3⟩|⟨rfl,d3,i5,f5⟩
 ·have e5:=bln n1.below d3
  refine xr 6 (args:=#[]) (Ev _ (hI.below e5)) fun W3 i3=>?_
  have g2:=bln e5 i3
  exact xe 5 (.bool true) ⟨rfl,g2⟩
 have e2:=n1.blk.below d3
 refine xlv 8 e2.rp ?_
 have hR:∀ i,i<n→(∀ m∈(Z.getD i zvD).1.2,MpR m)∧(Z.getD i zvD).1.2.length≤100000:=few_R hZ f5 hS
 have c8:=bln n1.below d3
 refine xc 0 (args:=#[.agg #[V0 t,V0 u,V0 v,V0 x,.slice p n c]]) (Kh p c n t u v x Z _ (hI.below c8) hZ (hP.below c8) hR M0) ?_
 rintro _ W4 ⟨_,rfl,h3,qo,eo,rfl,ho⟩
 have i1:=(bln n1.below d3).size
 have e0:=e2.below h3
 refine xb 9 4 e0 ?_
 refine xk 4 (show(((n:Int) != (n:Int)):Bool)=false from(by simp)) ?_
 have f7:=Zf ho i1
 have g0:=bln c8 h3
 refine zl 9 104 (fun zm h7 V=>∃ (i:Nat),h7=[(1,P0 b1),(3,.slice qo n eo),(4,V0 (i:Int))]∧zm=n-((i:Int)).toNat∧Bl w V∧Blk V b1 ([V0 t,V0 u,V0 v,V0 x,.slice p n c]) 24∧V.ownsRow w.heap.size 3 1 (.slice qo n eo) n ((owL (Z.map Prod.fst)).map nv)∧i≤n) ⟨0,rfl,rfl,g0,e0,f7,A6 _⟩ ?_
 rintro _ _ W5 ⟨i,rfl,rfl,b5,b8,ho,hi⟩ J5 g8 r5
 refine xid 9 ((i:Int)<(n:Int)) (fun h9=>?_) (fun h9=>?_)
 ·have g6:i<(Z.map Prod.fst).length:=by omega
  have g9:=Kq g6
  have i2:=g9.1
  have h8:=Gv g6
  have h4:(Z.getD (Zw (Z.map Prod.fst) i) zvD).1.2=(Z.getD i zvD).1.2:=by rw[←Zdo (show(Zw (Z.map Prod.fst) i)<Z.length by omega) dvD,←Zdo (show i<Z.length by omega) dvD];exact g9.2
  refine xd 5 .z ?_
  have a0:=Za ho (Zb W5)
  refine xx (.e [0,1] 2) _ n i 1 (Xv (Ze a0) a7 (i:=i) M0).1 ?_
  refine xl (.e [] 3) ((Xv (Ze a0) a7 (i:=i) M0).2) ?_
  refine xg (.b [4,5]) [29,30] (decide ((↑(Zw (Z.map Prod.fst) i):Int)<(0:Int))) (fun e3=>?_) (fun e3=>?_)
  ·have e3:=of_decide_eq_true e3
   have f6:=bln b5 (Zb W5)
   exact xe (.r [6,7,8,9,10,11,12,13,14,15,16,17,18,19,20,21,22,23,24,25,26,27,28,29,30,31,32,33,34,35,36,37,38,39,40,41,42,43,44,45,46,47,48,49,50,51] 14) (.bool false) ⟨(by exfalso;omega),f6⟩
  have e3:=of_decide_eq_false e3
  refine xx (.e [6,7] 8) _ n i 1 (Xv (Ze a0) a7 (i:=i) M0).1 ?_
  refine xl (.e [] 9) ((Xv (Ze a0) a7 (i:=i) M0).2) ?_
  refine xg (.b [10,11,12,13]) [36,37,38] (decide ((↑(Zw (Z.map Prod.fst) i):Int)>(i:Int))) (fun d4=>?_) (fun d4=>?_)
  ·have d4:=of_decide_eq_true d4
   have g3:=bln b5 (Zb W5)
   exact xe (.r [14,15,16,17,18,19,20,21,22,23,24,25,26,27,28,29,30,31,32,33,34,35,36,37,38,39,40,41,42,43,44,45,46,47,48,49,50,51] 14) (.bool false) ⟨(by exfalso;omega),g3⟩
  have d4:=of_decide_eq_false d4
  refine xx (.e [14,15,16] 17) _ n i 1 (Xv (Ze a0) a7 (i:=i) M0).1 ?_
  refine xl (.e [] 18) ((Xv (Ze a0) a7 (i:=i) M0).2) ?_
  refine xx (.e [] 19) _ n (Zw (Z.map Prod.fst) i) 1 (Xv (Ze a0) a7 (i:=(Zw (Z.map Prod.fst) i)) M0).1 ?_
  refine xl (.e [] 20) ((Xv (Ze a0) a7 (i:=(Zw (Z.map Prod.fst) i)) M0).2) ?_
  refine xx (.e [21,22] 23) _ n i 1 (Xv (Ze a0) a7 (i:=i) M0).1 ?_
  refine xl (.e [] 24) ((Xv (Ze a0) a7 (i:=i) M0).2) ?_
  refine xgk (.b [25,26,27]) [50,51,52] (show(((↑(Zw (Z.map Prod.fst) (Zw (Z.map Prod.fst) i)):Int) != (↑(Zw (Z.map Prod.fst) i):Int)):Bool)=false from(by rw[h8];simp)) ?_
  have a1:=b8.below (Zb W5)
  refine xb (.e [28] 29) 4 a1 ?_
  refine xx (.e [30] 31) _ n i 5 (hP.someN hZ (i:=i) M0) ?_
  have a5:=bln b5 (Zb W5)
  refine xl (.e [32] 33) ((Sts.cell (hP.below a5).row Xu zvD (k:=i) (i:=4) M0 rfl).2) ?_
  refine xb (.e [34,37] 38) 4 a1 ?_
  refine xx (.e [39,40] 41) _ n i 1 (Xv (Ze a0) a7 (i:=i) M0).1 ?_
  refine xl (.e [] 42) ((Xv (Ze a0) a7 (i:=i) M0).2) ?_
  refine xx (.e [] 43) _ n (Zw (Z.map Prod.fst) i) 5 (hP.someN hZ (i:=(Zw (Z.map Prod.fst) i)) M0) ?_
  refine xl (.e [44] 45) ((Sts.cell (hP.below a5).row Xu zvD (k:=(Zw (Z.map Prod.fst) i)) (i:=4) M0 rfl).2) ?_
  refine xm2 (.b [46]) 35 47 ?_ ?_
  ·refine xbs 0 1 [V0 0,V0 0,V0 0,V0 0,.slice ((Z.getD i zvD).2.1) ((Z.getD i zvD).1.2.length) ((Z.getD i zvD).2.2)] 32 fun h1 k1 d0=>?_
   have j0:=d0.ge a5
   refine xbs (.o [36] 47) 1 [V0 0,V0 0,V0 0,V0 0,.slice ((Z.getD (Zw (Z.map Prod.fst) i) zvD).2.1) ((Z.getD (Zw (Z.map Prod.fst) i) zvD).1.2.length) ((Z.getD (Zw (Z.map Prod.fst) i) zvD).2.2)] 32 fun h2 i6 c4=>?_
   have f1:=c4.ne d0.blk
   have d2:=bln a5 d0.below
   have j2:=c4.ge d2
   have d9:=d0.blk.below c4.below
   have c6:=bln d2 c4.below
   refine xr (.o [48] 49) (args:=#[.agg #[V0 0,V0 0,V0 0,V0 0,.slice (S1 h1) 1 1],.agg #[V0 0,V0 0,V0 0,V0 0,.slice (S1 h2) 1 1]]) (Da h1 h2 (Z.getD i zvD).2.1 (Z.getD (Zw (Z.map Prod.fst) i) zvD).2.1 (Z.getD i zvD).2.2 (Z.getD (Zw (Z.map Prod.fst) i) zvD).2.2 (Z.getD i zvD).1.2 (Z.getD (Zw (Z.map Prod.fst) i) zvD).1.2 _ h4 d9 c4.blk ((hP.each i M0).below c6) ((hP.each (Zw (Z.map Prod.fst) i) M0).below c6)) fun j8 c5=>?_
   refine xwm (.r [50,51] 8) ((i:Int)+1) (↑(i+1):Int) ?_
   have e1:=bln c6 c5
   have b4:=((a1.below d0.below).below c4.below).below c5
   have f9:=Za (Za (Za a0 d0.below) c4.below) c5
   exact ze 2 (g8 _ _ _ ⟨i+1,rfl,rfl,e1,b4,f9,by omega⟩ M0)
  refine xbs 0 1 [V0 0,V0 0,V0 0,V0 0,.slice ((Z.getD (Zw (Z.map Prod.fst) i) zvD).2.1) ((Z.getD (Zw (Z.map Prod.fst) i) zvD).1.2.length) ((Z.getD (Zw (Z.map Prod.fst) i) zvD).2.2)] 32 fun g7 j5 c9=>?_
  have i9:=c9.ge a5
  refine xbs (.o [48] 35) 1 [V0 0,V0 0,V0 0,V0 0,.slice ((Z.getD i zvD).2.1) ((Z.getD i zvD).1.2.length) ((Z.getD i zvD).2.2)] 32 fun h0 i7 c7=>?_
  have f0:=c7.ne c9.blk
  have c1:=bln a5 c9.below
  have k2:=c7.ge c1
  have d6:=c9.blk.below c7.below
  have b2:=bln c1 c7.below
  refine xr (.o [36] 49) (args:=#[.agg #[V0 0,V0 0,V0 0,V0 0,.slice (S1 h0) 1 1],.agg #[V0 0,V0 0,V0 0,V0 0,.slice (S1 g7) 1 1]]) (Da h0 g7 (Z.getD i zvD).2.1 (Z.getD (Zw (Z.map Prod.fst) i) zvD).2.1 (Z.getD i zvD).2.2 (Z.getD (Zw (Z.map Prod.fst) i) zvD).2.2 (Z.getD i zvD).1.2 (Z.getD (Zw (Z.map Prod.fst) i) zvD).1.2 _ h4 c7.blk d6 ((hP.each i M0).below b2) ((hP.each (Zw (Z.map Prod.fst) i) M0).below b2)) fun j1 c3=>?_
  refine xwm (.r [50,51] 8) ((i:Int)+1) (↑(i+1):Int) ?_
  have e8:=bln b2 c3
  have b7:=((a1.below c9.below).below c7.below).below c3
  have g1:=Za (Za (Za a0 c9.below) c7.below) c3
  exact ze 2 (g8 _ _ _ ⟨i+1,rfl,rfl,e8,b7,g1,by omega⟩ M0)
 refine xd 6 .z ?_
 have a3:=b8.below (Zb W5)
 refine xlv (.e [] 0) a3.rp ?_
 refine xlv (.e [] 2) a3.rp ?_
 have a9:=bln b5 (Zb W5)
 refine xr (.o [] 1) (args:=#[.agg #[V0 t,V0 u,V0 v,V0 x,.slice p n c]]) (Ao p c n t u v x Z _ (hI.below a9) hZ (hP.below a9)) fun k0 d1=>?_
 have b9:=bln a9 d1
 refine xr (.o [] 3) (args:=#[.agg #[V0 t,V0 u,V0 v,V0 x,.slice p n c]]) (Ta p c n t u v x Z _ hZ (hP.below b9)) fun j4 d8=>?_
 have a4:=(a3.below d1).below d8
 refine xlv (.r [4,5] 5) a4.rp ?_
 have a2:=bln b9 d8
 refine xr 0 (args:=#[.agg #[V0 t,V0 u,V0 v,V0 x,.slice p n c]]) (Vm p c n t u v x Z _ hZ (hP.below a2)) fun k3 a6=>?_
 refine xin 3 (Ye t u v x (Z.map Prod.fst)) (0:Int) (fun f4=>?_) (fun f4=>?_)
 ·have g5:Ye t u v x (Z.map Prod.fst)≠0:=by omega
  have h5:=f3.2.2 g5
  refine xg 5 [85,86] ((↑(ndA t u v x (Z.map Prod.fst)):Int)==(0:Int)) (fun a8=>?_) (fun a8=>?_)
  ·have a8:=eq_of_beq a8
   have c0:=bln a2 a6
   refine xr 0 (args:=#[]) (Ev _ (hI.below c0)) fun i4 f8=>?_
   have d5:=bln c0 f8
   exact xe 6 (.bool true) ⟨rfl,d5⟩
  have a8:=Kz a8
  have e6:=bln a2 a6
  exact xe 7 (.bool false) ⟨(by exfalso;omega),e6⟩
 have g5:Ye t u v x (Z.map Prod.fst)=0:=by omega
 have h5:=f3.2.1 g5
 refine xg 7 [90,91] (decide ((↑(ndA t u v x (Z.map Prod.fst)):Int)>(0:Int))) (fun b3=>?_) (fun b3=>?_)
 ·have b3:=of_decide_eq_true b3
  have b6:=a4.below a6
  refine xb 3 4 b6 ?_
  refine xr 1 (args:=#[V0 5,V0 (n:Int)]) (Xi 5 n _ Do Do M0) fun j7 e7=>?_
  refine xwm 0 ((↑(szA t u v x (Z.map Prod.fst)):Int)+(↑(Zy 5 n):Int)) (↑((szA t u v x (Z.map Prod.fst))+(Zy 5 n)):Int) ?_
  refine xg 3 [99,100,101] (decide ((↑(ndA t u v x (Z.map Prod.fst)):Int)≤(↑((szA t u v x (Z.map Prod.fst))+(Zy 5 n)):Int))) (fun b0=>?_) (fun b0=>?_)
  ·have b0:=of_decide_eq_true b0
   have c2:=bln (bln a2 a6) e7
   refine xr 0 (args:=#[]) (Ev _ (hI.below c2)) fun j9 f2=>?_
   have e9:=bln c2 f2
   exact xe 5 (.bool true) ⟨rfl,e9⟩
  have b0:=of_decide_eq_false b0
  have e4:=bln (bln a2 a6) e7
  exact xe 6 (.bool false) ⟨(by exfalso;omega),e4⟩
 have b3:=of_decide_eq_false b3
 have d7:=bln a2 a6
 exact xe 16 (.bool false) ⟨(by exfalso;omega),d7⟩
end Go.Proofs.YtekomodnkfhihaaGreatDoor
namespace Go.Proofs.YtekomodnkfhihaaGreatDoor
set_option maxHeartbeats 8000000
set_option maxRecDepth 100000
open Go.ChangeShapes Go.WideShapes Go.ChangeAt Go.RowKit Go.Joins Go.Deep
set_option linter.unusedVariables false
attribute [local irreducible] wpList wpAnyH Code.wp Oper.wp Go
theorem flatm{α:Type}{f:α→List Value}{m:Nat}(hf:∀ x,(f x).length=m):∀ (T:List α) (j:Nat) (x:Value),(T.flatMap f)[j]? = some x→∃ i,∃ h:i<T.length,∃ r,r<m∧j=i*m+r∧(f T[i])[r]? = some x
 | [],j,x,h=>by simp at h
 | y::T,j,x,h=>by
  rw[H8,List.getElem?_append] at h
  by_cases hj:j<m
  ·rw[if_pos (by rw[hf];exact hj)] at h
   exact⟨0,by simp,j,hj,by omega,by simpa using h⟩
  ·rw[if_neg (by rw[hf];exact hj),hf] at h
   obtain⟨i,hi,r,hr,e,hx⟩:=flatm hf T (j-m) x h
   exact⟨i+1,by simpa using hi,r,hr,by rw[H7];omega,by simpa using hx⟩
theorem Za9{H:Type}{P:Program}{e:TypeId}:∀ (ds:List (DataW H)),(∀ n∈DataW.weightsAll P e ds,n≤reachBytes)→∀ d∈ds,∀ n∈d.weights P e,n≤reachBytes
 | [],_,d,hd,_,_=>by cases hd
 | x::r,h,d,hd,n,hn=>by
  rw[DataW.weightsAll] at h
  rcases D4.1 hd with rfl|hd
  ·exact h n (List.mem_append_left _ hn)
  ·exact Za9 r (fun k hk=>h k (List.mem_append_right _ hk)) d hd n hn
theorem Zal{H:Type}{P:Program}{t e:TypeId}{elems spare:List (DataW H)}(hu:P.underlying t=some (.slice e))(h:∀ n∈(DataW.slice elems spare).weights P t,n≤reachBytes) :
 elems.length*P.bytesOf e≤reachBytes∧∀ d∈elems,∀ n∈d.weights P e,n≤reachBytes:=by
 simp only[DataW.weights,hu] at h
 refine⟨N0 (Is _ (I7 _ _)) (h _ B9),Za9 _ fun n hn=>h n (C7 _ (List.mem_append_left _ hn))⟩
theorem Zcy{H:Type}{P:Program}{t:TypeId}{fs:Array Field}{parts:List (DataW H)}(hu:P.underlying t=some (.struct fs))(h:∀ n∈(DataW.agg parts).weights P t,n≤reachBytes){i:Nat}{f:Field}{d:DataW H}(hf:fs[i]? = some f)(hd:parts[i]? = some d):∀ n∈d.weights P f.type,n≤reachBytes:=by
 simp only[DataW.weights,hu] at h
 intro n hn
 refine h n (DataW.weights_mem_each (j:=i) (t:=f.type) ?_ hd n hn)
 rw[B7,Array.getElem?_toList,hf];rfl
theorem Mf{α H:Type}{enc:TypeId×Value→H}{P:Program}{W:World}{t e:TypeId}{v:Value}{y:DataW H×List MemPlace}{fuel m:Nat}{f:α→List Value}{G:α→Prop}(hf:∀ x,(f x).length=m)(hm:0<m)(ht:P.underlying t=some (.slice e))(hC:P.cellsOf e=m)
 (each:∀ n cs z,cs.length=m→DataW.trod enc P W 0 (fun _=>true) true n e cs=some z→(∀ k∈z.1.weights P e,k≤reachBytes)→∃ q,cs=f q∧G q) (h:DataW.trod enc P W 0 (fun _=>true) true fuel t [v]=some y) (hw:∀ n∈y.1.weights P t,n≤reachBytes) :
 ∃ (L:List α) (a:O0) (c:Nat),v=.slice a L.length c∧Sl W (.slice a L.length c) L.length (L.flatMap f)∧(∀ q∈L,G q)∧L.length*P.bytesOf e≤reachBytes:=by
 rcases open_slice ht h with ⟨a3,_⟩|⟨x,l,c,k,n,D,Pl,a3,_,hl,b2,b0,hy,hi⟩
 ·simp at a3
  subst a3
  exact⟨[],none,0,rfl,.inl ⟨none,0,rfl,rfl,rfl⟩,fun q hq=>(by cases hq),by simp⟩
 ·simp at a3
  subst a3
  rw[hy] at hw
  obtain⟨a4,b3⟩:=Zal ht hw
  rw[A0,List.length_range] at a4
  obtain⟨b,a7,a5⟩:=x
  have b4:l≤k:=by rw[b0];simp;omega
  by_cases hlen:l=0
  ·subst hlen
   exact⟨[],_,_,rfl,.inl ⟨_,_,rfl,rfl,rfl⟩,fun q hq=>(by cases hq),a4⟩
  have a2:a5=none:=by
   obtain⟨cs,hc,a8⟩:=hi 0 M0
   rw[hC] at hc
   obtain⟨_,a9,a6⟩:=World.cells?_some hc
   have a0:=a6 0 M0
   rw[B4 M0] at a0
   simpa [Addr.add] using World.cell?_spot a0
  subst a2
  have eA:∀ o n,(⟨b,o,none⟩:Addr).add n=⟨b,o+n,none⟩:=by intro o n;unfold Addr.add;split<;>simp_all
  have a1:∀ i:Fin l,∃ q:α,(∀ r x,(f q)[r]? = some x→W.cell? ⟨b,a7+(i.val*m+r),none⟩=some x)∧G q:=by
   intro i
   obtain⟨cs,hc,a8⟩:=hi i.val (by have:=i.2;omega)
   rw[hC] at hc
   obtain⟨_,a9,a6⟩:=World.cells?_some hc
   obtain⟨q,hq,hG⟩:=each n cs _ a9 a8 (b3 (D i.val) (List.mem_map.2 ⟨i.val,E2.2 i.2,rfl⟩))
   refine⟨q,fun r x hr=>?_,hG⟩
   rw[←hq] at hr
   have b1:r<m:=by have:=(List.getElem?_eq_some_iff.1 hr).1;omega
   have a0:=a6 r b1
   rw[hr,eA,eA] at a0
   rw[←D7];exact a0
  refine⟨List.ofFn fun i=>Classical.choose (a1 i),some ⟨b,a7,none⟩,c,by rw[List.length_ofFn],?_,fun q hq=>?_,by rw[List.length_ofFn];exact a4⟩
  ·rw[List.length_ofFn]
   refine .inr ⟨b,a7,c,rfl,hl,b2,fun j x hj=>?_⟩
   obtain⟨i,hi,r,hr,e,hx⟩:=flatm hf _ j x hj
   rw[List.getElem_ofFn] at hx
   rw[e]
   exact(Classical.choose_spec (a1 ⟨i,by simpa using hi⟩)).1 r x hx
  ·obtain⟨i,rfl⟩:=List.mem_ofFn.1 hq
   exact(Classical.choose_spec (a1 i)).2
theorem Zbi{n:Int}(h:(Lit.int .i64 n).wf=true):InI n:=by
 have h1:decide (IntKind.i64.min≤n)=true∧decide (n≤IntKind.i64.max)=true:=by simpa [Lit.wf] using h
 have h2:=of_decide_eq_true h1.1
 have h3:=of_decide_eq_true h1.2
 have e1:IntKind.i64.min = -9223372036854775808:=by decide
 have e2:IntKind.i64.max=9223372036854775807:=by decide
 unfold InI
 omega
theorem Zau{H:Type}{enc:TypeId×Value→H}{P:Program}{W:World}{e:TypeId}{f0 f1 f2:Field}(he:P.underlying e=some (.struct #[f0,f1,f2]))(hone:oneCellFields P #[f0,f1,f2]=true)(h0:P.underlying f0.type=some (.int .i64))(h1:P.underlying f1.type=some (.int .i64))(h2:P.underlying f2.type=some (.int .i64)) :
 ∀ n cs z,cs.length=3→DataW.trod enc P W 0 (fun _=>true) true n e cs=some z→(∀ k∈z.1.weights P e,k≤reachBytes)→∃ q:Mp,cs=We q∧MpR q:=by
 intro n cs z a4 a3 _
 obtain⟨y0,y1,y2,n',_,_,t0,t1,t2⟩:=trod_struct3 he a3
 obtain⟨o0,k0⟩:=hone_of hone 0 f0 rfl
 obtain⟨o1,k1⟩:=hone_of hone 1 f1 rfl
 obtain⟨o2,k2⟩:=hone_of hone 2 f2 rfl
 match cs,a4 with
 | [c0,c1,c2],_ =>
  rw[o0,k0] at t0
  rw[o1,k1] at t1
  rw[o2,k2] at t2
  obtain⟨z0,a1,_,r0⟩:=DataW.trod_int (cs:=[c0]) h0 (by simpa using t0)
  obtain⟨z1,a2,_,r1⟩:=DataW.trod_int (cs:=[c1]) h1 (by simpa using t1)
  obtain⟨z2,a0,_,r2⟩:=DataW.trod_int (cs:=[c2]) h2 (by simpa using t2)
  simp only[G4,and_true] at a1 a2 a0
  subst a1 a2 a0
  exact⟨(z0,z1,z2),rfl,Zbi r0,Zbi r1,Zbi r2⟩
def DvSz(B:Nat)(q:Zv):Prop:=(∀ m∈q.1.2,MpR m)∧q.1.2.length*B≤reachBytes
theorem Zca{Z:List Zv}(h:∀ z∈Z,DvSz 24 z):∀ i,i<Z.length→(∀ m∈(Z.getD i zvD).1.2,MpR m)∧(Z.getD i zvD).1.2.length≤6000000000000:=fun i hi=>by
 have e:Z.getD i zvD=Z[i]:=by simp[List.getD,hi]
 obtain⟨h1,h2⟩:=h (Z.getD i zvD) (by rw[e];exact D6 hi)
 have h3:=reachBytes_lt
 exact⟨h1,by omega⟩
theorem Zbq{H:Type}{enc:TypeId×Value→H}{P:Program}{W:World}{e em:TypeId}{f0 f1 f2 f3 f4 m0 m1 m2:Field}(he:P.underlying e=some (.struct #[f0,f1,f2,f3,f4]))(hone:oneCellFields P #[f0,f1,f2,f3,f4]=true)(h0:P.underlying f0.type=some (.int .i64))(h1:P.underlying f1.type=some (.int .i64))(h2:P.underlying f2.type=some (.int .i64))(h3:P.underlying f3.type=some (.int .i64))(h4:P.underlying f4.type=some (.slice em))
 (hme:P.underlying em=some (.struct #[m0,m1,m2])) (hmone:oneCellFields P #[m0,m1,m2]=true) (hmC:P.cellsOf em=3) (hm0:P.underlying m0.type=some (.int .i64)) (hm1:P.underlying m1.type=some (.int .i64)) (hm2:P.underlying m2.type=some (.int .i64)) :
 ∀ n cs z,cs.length=5→DataW.trod enc P W 0 (fun _=>true) true n e cs=some z→(∀ k∈z.1.weights P e,k≤reachBytes)→∃ q:Zv,cs=devZ q∧(Sts We W (.slice q.2.1 q.1.2.length q.2.2) q.1.2∧DvSz (P.bytesOf em) q):=by
 intro n cs z a6 a5 hw
 obtain⟨xs,n',_,rfl,hl,a0,hf⟩:=DataW.trod_struct he a5
 obtain⟨o0,k0⟩:=hone_of hone 0 f0 rfl
 obtain⟨o1,k1⟩:=hone_of hone 1 f1 rfl
 obtain⟨o2,k2⟩:=hone_of hone 2 f2 rfl
 obtain⟨o3,k3⟩:=hone_of hone 3 f3 rfl
 obtain⟨o4,k4⟩:=hone_of hone 4 f4 rfl
 match xs,a0 with
 | [y0,y1,y2,y3,y4],_ =>
  have t0:=hf 0 f0 rfl
  have t1:=hf 1 f1 rfl
  have t2:=hf 2 f2 rfl
  have t3:=hf 3 f3 rfl
  have t4:=hf 4 f4 rfl
  have w4:=Zcy he hw (i:=4) (f:=f4) (d:=y4.1) rfl rfl
  match cs,a6 with
  | [c0,c1,c2,c3,c4],_ =>
   rw[o0,k0] at t0
   rw[o1,k1] at t1
   rw[o2,k2] at t2
   rw[o3,k3] at t3
   rw[o4,k4] at t4
   obtain⟨z0,a3,_,_⟩:=DataW.trod_int (cs:=[c0]) h0 (by simpa using t0)
   obtain⟨z1,a4,_,_⟩:=DataW.trod_int (cs:=[c1]) h1 (by simpa using t1)
   obtain⟨z2,a1,_,_⟩:=DataW.trod_int (cs:=[c2]) h2 (by simpa using t2)
   obtain⟨z3,a2,_,_⟩:=DataW.trod_int (cs:=[c3]) h3 (by simpa using t3)
   obtain⟨M,a,c,rfl,hM,hG,hB⟩:=Mf (v:=c4) (y:=y4) (G:=MpR) Yf Do h4 hmC (Zau hme hmone hm0 hm1 hm2) (by simpa using t4) w4
   simp only[G4,and_true] at a3 a4 a1 a2
   subst a3 a4 a1 a2
   exact⟨(((z0,z1,z2,z3),M),a,c),rfl,hM,hG,hB⟩
theorem Tr{H:Type}{enc:TypeId×Value→H}{P:Program}{W:World}{r:Reach}{b0:Nat}{t ed em:TypeId}{p0 p1 p2 p3 p4 f0 f1 f2 f3 f4 m0 m1 m2:Field}{v:Value}{d:DataW H}{p:List MemPlace}(hs:P.underlying t=some (.struct #[p0,p1,p2,p3,p4]))(hsone:oneCellFields P #[p0,p1,p2,p3,p4]=true)(hsC:P.cellsOf t=5)
  (g0:P.underlying p0.type=some (.int .i64)) (g1:P.underlying p1.type=some (.int .i64)) (g2:P.underlying p2.type=some (.int .i64)) (g3:P.underlying p3.type=some (.int .i64)) (g4:P.underlying p4.type=some (.slice ed))
  (he:P.underlying ed=some (.struct #[f0,f1,f2,f3,f4])) (hone:oneCellFields P #[f0,f1,f2,f3,f4]=true) (hC:P.cellsOf ed=5) (h0:P.underlying f0.type=some (.int .i64)) (h1:P.underlying f1.type=some (.int .i64)) (h2:P.underlying f2.type=some (.int .i64)) (h3:P.underlying f3.type=some (.int .i64)) (h4:P.underlying f4.type=some (.slice em))
  (hme:P.underlying em=some (.struct #[m0,m1,m2])) (hmone:oneCellFields P #[m0,m1,m2]=true) (hmC:P.cellsOf em=3) (hm0:P.underlying m0.type=some (.int .i64)) (hm1:P.underlying m1.type=some (.int .i64)) (hm2:P.underlying m2.type=some (.int .i64))
  (hv:Value.okWide P W r b0 t v) (h:DataW.Trod enc P W 0 (fun _=>true) true t v d p) (hw:∀ n∈d.weights P t,n≤reachBytes) :
  ∃ (tx time unit data:Int) (q:O0) (c:Nat) (Z:List Zv),v=.agg #[V0 tx,V0 time,V0 unit,V0 data,.slice q Z.length c]∧DevsR W q c Z∧∀ z∈Z,DvSz (P.bytesOf em) z:=by
 obtain⟨cs,rfl,a9⟩:=okWide_struct hs hv
 obtain⟨a6,hx⟩:=h
 obtain⟨xs,n,_,hd,hl,a1,a0⟩:=DataW.trod_struct hs hx
 have a7:d=.agg (xs.map (·.1)):=congrArg Prod.fst hd
 subst a7
 have a8:cs.toList.length=5:=by rw[hsC] at hl;exact hl
 obtain⟨L⟩:=cs
 match L,a8,xs,a1 with
 | [c0,c1,c2,c3,c4],_,[y0,y1,y2,y3,y4],_ =>
  obtain⟨o0,k0⟩:=hone_of hsone 0 p0 rfl
  obtain⟨o1,k1⟩:=hone_of hsone 1 p1 rfl
  obtain⟨o2,k2⟩:=hone_of hsone 2 p2 rfl
  obtain⟨o3,k3⟩:=hone_of hsone 3 p3 rfl
  obtain⟨o4,k4⟩:=hone_of hsone 4 p4 rfl
  have a0:∀ (i:Nat) (f:Field),(#[p0,p1,p2,p3,p4]:Array Field)[i]? = some f→DataW.trod enc P W 0 (fun _=>true) true n f.type (([c0,c1,c2,c3,c4].drop f.offset).take (P.cellsOf f.type))=[y0,y1,y2,y3,y4][i]? := a0
  have t0:=a0 0 p0 rfl
  have t1:=a0 1 p1 rfl
  have t2:=a0 2 p2 rfl
  have t3:=a0 3 p3 rfl
  have t4:=a0 4 p4 rfl
  rw[o0,k0] at t0
  rw[o1,k1] at t1
  rw[o2,k2] at t2
  rw[o3,k3] at t3
  rw[o4,k4] at t4
  obtain⟨z0,a4,_,_⟩:=DataW.trod_int (cs:=[c0]) g0 (by simpa using t0)
  obtain⟨z1,a5,_,_⟩:=DataW.trod_int (cs:=[c1]) g1 (by simpa using t1)
  obtain⟨z2,a2,_,_⟩:=DataW.trod_int (cs:=[c2]) g2 (by simpa using t2)
  obtain⟨z3,a3,_,_⟩:=DataW.trod_int (cs:=[c3]) g3 (by simpa using t3)
  have w4:=Zcy hs hw (i:=4) (f:=p4) (d:=y4.1) rfl rfl
  obtain⟨Z,q,c,rfl,hR,hG,_⟩:=Mf (v:=c4) (y:=y4) Xu Do g4 hC (Zbq he hone h0 h1 h2 h3 h4 hme hmone hmC hm0 hm1 hm2) (by simpa using t4) w4
  simp only[G4,and_true] at a4 a5 a2 a3
  subst a4 a5 a2 a3
  refine⟨z0,z1,z2,z3,q,c,Z,rfl,⟨hR,fun i hi=>?_⟩,fun z hz=>(hG z hz).2⟩
  have e:Z.getD i zvD=Z[i]:=by simp[List.getD,hi]
  rw[e]
  exact(hG _ (D6 hi)).1
end Go.Proofs.YtekomodnkfhihaaGreatDoor
