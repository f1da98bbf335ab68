/- Reference 20: Bitmaps, Base, Need. -/
import Derived.Laws.StructEq
import Derived.Lib.SmallJoins
import Derived.SizedLaws
import Derived.Test.YtekomodnkfhihaaGreatDoorMg6
namespace Go.Proofs.YtekomodnkfhihaaGreatDoor
set_option maxHeartbeats 8000000
set_option maxRecDepth 100000
open Go.RowKit Go.Extern.Stop Go.Stop Go.Extern
set_option linter.unusedVariables false
attribute [local irreducible] wpList wpAnyH Code.wp Oper.wp Go
theorem dev_fewR{data:Int}{Z:List Zv}(hk:DevsOk data (Z.map Prod.fst)){i:Nat}(h:i<Z.length):(Z.getD i zvD).1.2.length≤16384:=by
 have a:=hk.sum
 have b:=He (L:=Z.map Prod.fst) (i:=i) (by rw[At];exact h)
 rw[Rn h] at b
 omega
theorem Zch{Z:List Zv}{i:Nat}(h:i<Z.length):Qj ((Z.map Prod.fst).take (i+1))=Qj ((Z.map Prod.fst).take i)+Zw 2 (Z.getD i zvD).1.2.length:=by
 rw[Sh (by rw[At];exact h),Rn h]
theorem Mf(L:List Dv)(i:Nat):Qj (L.take i)≤Qj L:=by
 have e:L=L.take i++L.drop i:=(G3 i L).symm
 conv=>rhs;rw[e]
 unfold Qj
 rw[A9,F8];omega
theorem base_sum{x n o:Nat}{L:List Dv}(h:L.length=n)(ho:Zag x L=o):1+Zw 3 n+Zw 1 n+Qj L+Zw 4 (bmN x)+Zw 5 o+bmN x=Ho x L:=by
 subst h ho;unfold Ho;omega
theorem r20_quo(n:Nat)(h:n≤1000000):IntKind.i64.wrap (Int.tdiv (↑(n+960-1):Int) 960)=(↑((n+959)/960):Int):=by
 rw[show n+960-1=n+959 by omega,show(960:Int)=((960:Nat):Int) from rfl,←Int.ofNat_tdiv]
 exact IntWalk.i64_in _ M0
theorem Hk(n:Nat)(w:World)(hn:n≤1000000) :
 C0 59 #[V0 (n:Int)] w (Ret (V0 (↑(bmN n):Int)) w):=by
 refine zin 9 Tryz.func59 ?_
 refine xid 12 ((n:Int)<(1:Int)) (fun a0=>?_) (fun a0=>?_)
 ·exact xe 7 (V0 0) ⟨by unfold bmN;exact congrArg (fun z:Int=>Ending.returned (Value.int .i64 z)) M0,(B4 w)⟩
 refine xwm 5 ((n:Int)+960) (↑(n+960):Int) ?_
 refine xwm 0 ((↑(n+960):Int)-1) (↑((n+960)-1):Int) ?_
 refine xq 0 (congrArg V0 (show(IntKind.i64.wrap (Int.tdiv (↑((n+960)-1):Int) 960):Int)=(↑((n+959)/960):Int) from r20_quo n hn)) ?_
 exact xe 4 (V0 (↑((n+959)/960):Int)) ⟨by unfold bmN;exact congrArg (fun z:Int=>Ending.returned (Value.int .i64 z)) M0,(B4 w)⟩
theorem Zge(p:O0)(c n x:Nat)(t u v:Int)(Z:List Zv)(w:World)(hZ:Z.length=n)(hP:DevsR w p c Z)(hk:PoolOk t u v (x:Int) (Z.map Prod.fst)) :
 C0 57 #[.agg #[V0 t,V0 u,V0 v,V0 (x:Int),.slice p n c]] w (Ret (V0 (↑(Ho x (Z.map Prod.fst)):Int)) w):=by
 have hx:x≤65536:=by have:=hk.hdata;omega
 have b6:(Z.map Prod.fst).length=n:=by rw[At];exact hZ
 have d6:=hk.devs.few
 have e1:=hk.devs.sum
 rw[b6] at d6
 have d4:=Wr hk.devs
 have d7:=Sk (L:=(Z.map Prod.fst))
 rw[b6] at d7
 have d8:=Yp 3 n
 have e5:=Yp 1 n
 have e7:bmN x≤69:=by unfold bmN;omega
 have e4:=Yp 4 (bmN x)
 have e8:=Sl.len (hP.rowN hZ)
 refine zin 66 Tryz.func57 ?_
 refine xa 2 [V0 t,V0 u,V0 v,V0 (x:Int),.slice p n c] 24 fun b1 W1 n1=>?_
 refine xlv 6 n1.blk.rp ?_
 refine xr 0 (args:=#[.agg #[V0 t,V0 u,V0 v,V0 (x:Int),.slice p n c]]) (Qq p c n t u v (x:Int) Z _ hZ (hP.below n1.below)) fun W2 c7=>?_
 refine xk 3 (show(((Yg t u v (x:Int) (Z.map Prod.fst)) != (0:Int)):Bool)=false from(by rw[Qx.2 hk];rfl)) ?_
 refine xd 3 .z ?_
 have a6:=(n1.blk.below c7).below (Zb W2)
 refine xb (.e [0] 1) 4 a6 ?_
 refine xb (.e [2,5] 6) 4 a6 ?_
 refine xr (.o [7] 3) (args:=#[V0 3,V0 (n:Int)]) (Yj 3 n _ Do Do M0) fun W3 c5=>?_
 refine xwm (.e [] 4) (1+(↑(Zw 3 n):Int)) (↑(1+(Zw 3 n)):Int) ?_
 refine xr (.o [] 8) (args:=#[V0 1,V0 (n:Int)]) (Yj 1 n _ Do Do M0) fun W4 c8=>?_
 refine xwm (.e [] 9) ((↑(1+(Zw 3 n)):Int)+(↑(Zw 1 n):Int)) (↑((1+(Zw 3 n))+(Zw 1 n)):Int) ?_
 have b7:=bln (bln (bln (bln n1.below c7) (Zb W2)) c5) c8
 have c3:=(a6.below c5).below c8
 refine zl (.r [10] 9) 66 (fun zm b2 V=>∃ (i:Nat),b2=[(1,P0 b1),(2,V0 0),(3,V0 (↑(1+Zw 3 n+Zw 1 n+Qj ((Z.map Prod.fst).take i)):Int)),(4,V0 (i:Int))]∧zm=n-((i:Int)).toNat∧B3 w V∧Blk V b1 ([V0 t,V0 u,V0 v,V0 (x:Int),.slice p n c]) 24∧i≤n) ⟨0,rfl,rfl,b7,c3,A3 _⟩ ?_
 rintro _ _ W5 ⟨i,rfl,rfl,a2,a0,hi⟩ J5 d3 r5
 refine xb 5 4 a0 ?_
 refine xid 4 ((i:Int)<(n:Int)) (fun d5=>?_) (fun d5=>?_)
 ·have e2:=dev_fewR hk.devs (i:=i) M0
  have e9:=Zch (Z:=Z) (i:=i) M0
  have f2:=Yp 2 (Z.getD i zvD).1.2.length
  have d2:=Mf (Z.map Prod.fst) i
  refine xb 7 4 a0 ?_
  refine xx 1 _ n i 5 (hP.someN hZ (i:=i) M0) ?_
  refine xl 1 ((Sts.cell (hP.below a2).row Xs zvD (k:=i) (i:=4) M0 rfl).2) ?_
  refine xr 1 (args:=#[V0 2,V0 (↑((Z.getD i zvD).1.2.length):Int)]) (Yj 2 ((Z.getD i zvD).1.2.length) _ Do Do M0) fun W7 c6=>?_
  refine xwm 0 ((↑(1+Zw 3 n+Zw 1 n+Qj ((Z.map Prod.fst).take i)):Int)+(↑(Zw 2 ((Z.getD i zvD).1.2.length)):Int)) (↑((1+Zw 3 n+Zw 1 n+Qj ((Z.map Prod.fst).take i))+(Zw 2 ((Z.getD i zvD).1.2.length))):Int) ?_
  refine xwm 6 ((i:Int)+1) (↑(i+1):Int) ?_
  refine xv1 2 3 (show(V0 (↑((1+Zw 3 n+Zw 1 n+Qj ((Z.map Prod.fst).take i))+(Zw 2 ((Z.getD i zvD).1.2.length))):Int):Value)=V0 (↑(1+Zw 3 n+Zw 1 n+Qj ((Z.map Prod.fst).take (i+1))):Int) from congrArg V0 M0) ?_
  have b9:=bln a2 c6
  have a5:=a0.below c6
  exact ze 0 (d3 _ _ _ ⟨i+1,rfl,rfl,b9,a5,by omega⟩ M0)
 refine xlv 7 a0.rp ?_
 refine xc 0 (args:=#[.agg #[V0 t,V0 u,V0 v,V0 (x:Int),.slice p n c]]) (Lb p c n x t u v Z _ hZ (hP.below a2) hk) ?_
 rintro _ W8 ⟨_,rfl,c4,q9,d9,rfl,a8⟩
 have a9:=Zf a8 a2.size
 have b8:=bln a2 c4
 have a4:=a0.below c4
 refine zl 15 66 (fun zm b2 V=>∃ (j:Nat),b2=[(1,P0 b1),(2,V0 0),(3,V0 (↑(1+Zw 3 n+Zw 1 n+Qj ((Z.map Prod.fst).take i)):Int)),(5,.slice q9 x d9),(6,V0 (↑(Yc (Yn x (Z.map Prod.fst)) j):Int)),(7,V0 (j:Int))]∧zm=x-((j:Int)).toNat∧B3 w V∧Blk V b1 ([V0 t,V0 u,V0 v,V0 (x:Int),.slice p n c]) 24∧V.ownsRow w.heap.size 3 1 (.slice q9 x d9) x ((Yn x (Z.map Prod.fst)).map nv)∧j≤x) ⟨0,rfl,rfl,b8,a4,a9,A3 _⟩ ?_
 rintro _ _ W9 ⟨j,rfl,rfl,a7,a3,a8,hj⟩ J9 c9 r9
 have f0:i=n:=by omega
 have d2:=Mf (Z.map Prod.fst) i
 refine xid 9 ((j:Int)<(x:Int)) (fun b0=>?_) (fun b0=>?_)
 ·have d0:Yc (Yn x (Z.map Prod.fst)) j≤j:=by unfold Yc;exact N0 (H4 _ _) (by rw[D1];exact H5 _ _)
  refine xx 8 _ x j 1 (Yb (Ze a8) (Yk _ _) (k:=j) M0).1 ?_
  refine xl 0 ((Yb (Ze a8) (Yk _ _) (k:=j) M0).2) ?_
  refine xid 3 ((↑((Yn x (Z.map Prod.fst)).getD j 0):Int)≥(3:Int)) (fun b3=>?_) (fun b3=>?_)
  ·refine xwm 2 ((↑(Yc (Yn x (Z.map Prod.fst)) j):Int)+1) (↑((Yc (Yn x (Z.map Prod.fst)) j)+1):Int) ?_
   refine xwm 6 ((j:Int)+1) (↑(j+1):Int) ?_
   refine xv1 2 6 (show(V0 (↑((Yc (Yn x (Z.map Prod.fst)) j)+1):Int):Value)=V0 (↑(Yc (Yn x (Z.map Prod.fst)) (j+1)):Int) from by rw[Kj (k:=j) (by rw[Yk];omega),if_pos M0]) ?_
   exact ze 0 (c9 _ _ _ ⟨j+1,rfl,rfl,a7,a3,a8,by omega⟩ M0)
  refine xwm 5 ((j:Int)+1) (↑(j+1):Int) ?_
  refine xv1 2 6 (show(V0 (↑(Yc (Yn x (Z.map Prod.fst)) j):Int):Value)=V0 (↑(Yc (Yn x (Z.map Prod.fst)) (j+1)):Int) from by rw[Kj (k:=j) (by rw[Yk];omega),if_neg M0,I0]) ?_
  exact ze 0 (c9 _ _ _ ⟨j+1,rfl,rfl,a7,a3,a8,by omega⟩ M0)
 have e6:Yc (Yn x (Z.map Prod.fst)) j=Zag x (Z.map Prod.fst):=by rw[show j=x by omega];rfl
 have f3:=Yp 5 (Yc (Yn x (Z.map Prod.fst)) j)
 have d0:Yc (Yn x (Z.map Prod.fst)) j≤j:=by unfold Yc;exact N0 (H4 _ _) (by rw[D1];exact H5 _ _)
 refine xd 6 .z ?_
 have a1:=a3.below (Zb W9)
 refine xb (.e [0,1] 2) 3 a1 ?_
 refine xb (.e [6,9] 10) 3 a1 ?_
 refine xr (.o [] 3) (args:=#[V0 (x:Int)]) (Hk x _ M0) fun e0 b5=>?_
 refine xr (.o [] 4) (args:=#[V0 4,V0 (↑(bmN x):Int)]) (Yj 4 (bmN x) _ Do Do M0) fun f4 c1=>?_
 refine xwm (.e [] 5) ((↑(1+Zw 3 n+Zw 1 n+Qj ((Z.map Prod.fst).take i)):Int)+(↑(Zw 4 (bmN x)):Int)) (↑((1+Zw 3 n+Zw 1 n+Qj ((Z.map Prod.fst).take i))+(Zw 4 (bmN x))):Int) ?_
 refine xr (.o [] 7) (args:=#[V0 5,V0 (↑(Yc (Yn x (Z.map Prod.fst)) j):Int)]) (Yj 5 (Yc (Yn x (Z.map Prod.fst)) j) _ Do Do M0) fun e3 c0=>?_
 refine xwm (.e [] 8) ((↑((1+Zw 3 n+Zw 1 n+Qj ((Z.map Prod.fst).take i))+(Zw 4 (bmN x))):Int)+(↑(Zw 5 (Yc (Yn x (Z.map Prod.fst)) j)):Int)) (↑(((1+Zw 3 n+Zw 1 n+Qj ((Z.map Prod.fst).take i))+(Zw 4 (bmN x)))+(Zw 5 (Yc (Yn x (Z.map Prod.fst)) j))):Int) ?_
 refine xr (.o [] 11) (args:=#[V0 (x:Int)]) (Hk x _ M0) fun f1 c2=>?_
 refine xwm (.e [] 12) ((↑(((1+Zw 3 n+Zw 1 n+Qj ((Z.map Prod.fst).take i))+(Zw 4 (bmN x)))+(Zw 5 (Yc (Yn x (Z.map Prod.fst)) j))):Int)+(↑(bmN x):Int)) (↑((((1+Zw 3 n+Zw 1 n+Qj ((Z.map Prod.fst).take i))+(Zw 4 (bmN x)))+(Zw 5 (Yc (Yn x (Z.map Prod.fst)) j)))+(bmN x)):Int) ?_
 have b4:=bln (bln (bln (bln (bln a7 (Zb W9)) b5) c1) c0) c2
 exact xe (.r [13] 3) (V0 (↑((((1+Zw 3 n+Zw 1 n+Qj ((Z.map Prod.fst).take i))+(Zw 4 (bmN x)))+(Zw 5 (Yc (Yn x (Z.map Prod.fst)) j)))+(bmN x)):Int)) (by obtain rfl:j=x:=M0;have d1:=base_sum (x:=j) (n:=n) (L:=(Z.map Prod.fst)) b6 rfl;rw[A1 (show(Z.map Prod.fst).length≤i by omega)];exact⟨congrArg (fun z:Int=>Ending.returned (Value.int .i64 z)) (by rw[←d1];unfold Zag;omega),b4⟩)
theorem Zf8{a:Act}{o:Oper}{p q:Operand}(x y:Mp)(ho:o.op=.binOp .neq 63 p q 63)(hx:a.eval p=.agg (Rp x).toArray)(hy:a.eval q=.agg (Rp y).toArray)(V:World) :
 (execOp a.eval o).run Tryz.prog V=.ok (.value (.bool (decide (x≠y)))) V:=by
 have h1:=Tryz.underlying63
 have h2:=Tryz.underlying3
 have h4:Tryz.prog.stoodInHeld 63=false:=by kernel_rfl
 have hb:(binOp .neq 63 (.agg (Rp x).toArray) (.agg (Rp y).toArray)).run Tryz.prog V=.ok (.bool (decide (x≠y))) V:=by
  obtain⟨x0,x1,x2⟩:=x
  obtain⟨y0,y1,y2⟩:=y
  by_cases e0:x0=y0<;>by_cases e1:x1=y1<;>by_cases e2:x2=y2<;>simp[go_sem,Program.fieldsOf,h1,h2,h4,Op.eqFields,Rp,e0,e1,e2]
 have hg:=run_eqGuard_agg (P:=Tryz.prog) (w:=V) .neq 63 p q (Rp x).toArray (Rp y).toArray K0
 simp only[execOp,ho,hx,hy,B8,hg,C9,hb]
 rfl
theorem Fa(a b:O0)(ca cb:Nat)(L K:List Mp)(w:World)(ha:Sts Rp w (.slice a L.length ca) L)(hb:Sts Rp w (.slice b K.length cb) K) :
 C0 56 #[.slice a L.length ca,.slice b K.length cb] w (Ret (.bool (decide (L=K))) w):=by
 have a9:=Sl.len ha
 have a8:=Sl.len hb
 refine zin 26 Tryz.func56 ?_
 refine xin 15 (L.length:Int) (K.length:Int) (fun a6=>?_) (fun a6=>?_)
 ·exact xe 7 (.bool false) ⟨by rw[decide_eq_false (by rintro rfl;first|exact hd rfl|omega)],(B4 w)⟩
 have hB:=Below.refl w.heap.size w
 refine zl 9 26 (fun zm a5 V=>∃ (i:Nat),a5=[(0,.slice a L.length ca),(1,.slice b K.length cb),(5,V0 (i:Int))]∧zm=L.length-((i:Int)).toNat∧B3 w V∧i≤L.length∧(∀ j,j<i→L.getD j mpD=K.getD j mpD)) ⟨0,rfl,rfl,hB,A3 _,?_⟩ ?_
 ·exact fun j hj=>absurd hj (Nat.not_lt_zero j)
 rintro _ _ W2 ⟨i,rfl,rfl,a1,hi,a3⟩ J2 a7 r2
 refine xid 9 ((i:Int)<(L.length:Int)) (fun a4=>?_) (fun a4=>?_)
 ·refine xd 5 .z ?_
  refine xx (.e [0,1] 2) _ L.length i 3 (Sts.cell ha Xj mpD (k:=i) (i:=0) M0 rfl).1 ?_
  have a0:=bln a1 (Zb W2)
  refine xlv (.e [] 3) (Sts.rp (k:=i) (ha.below a0) Xj mpD M0 Do) ?_
  refine xx (.e [4,5] 6) _ K.length i 3 (Sts.cell hb Xj mpD (k:=i) (i:=0) M0 rfl).1 ?_
  refine xlv (.e [] 7) (Sts.rp (k:=i) (hb.below a0) Xj mpD M0 Do) ?_
  refine xbo (.e [] 8) (t:=63) (t2:=63) (fun _ _ _ _ zo zx zy V hV=>Zf8 (L.getD i mpD) (K.getD i mpD) zo zx zy V) ?_
  refine xi 2 (decide ((L.getD i mpD)≠(K.getD i mpD))) (fun a2=>?_) (fun a2=>?_)
  ·have hd:(L.getD i mpD)≠(K.getD i mpD):=of_decide_eq_true a2
   exact xe 11 (.bool false) ⟨by rw[decide_eq_false (by rintro rfl;first|exact hd rfl|omega)],a0⟩
  have hd:(L.getD i mpD)=(K.getD i mpD):=Decidable.of_not_not (of_decide_eq_false a2)
  refine xwm 5 ((i:Int)+1) (↑(i+1):Int) ?_
  exact ze 2 (a7 _ _ _ ⟨i+1,rfl,rfl,a0,by omega,(fun j hj=>by rcases C3 j i with q|q;exact a3 j q;obtain rfl:j=i:=M0;exact hd)⟩ M0)
 exact xe 11 (.bool true) ⟨by rw[decide_eq_true (Zb8 mpD M0 fun j hj=>a3 j M0)],a1⟩
theorem Ka(p:O0)(c n:Nat)(t u v x:Int)(Z:List Zv)(w:World)(hZ:Z.length=n)(hP:DevsR w p c Z)(hn:n≤100000) :
 C0 19 #[.agg #[V0 t,V0 u,V0 v,V0 x,.slice p n c]] w (Qo (fun w' r=>∃ q d,r=.slice q n d∧w'.ownsRow w.heap.size 3 1 (.slice q n d) n ((owL (Z.map Prod.fst)).map nv)) w):=by
 have d7:=Sl.len (hP.rowN hZ)
 refine zin 34 Tryz.func19 ?_
 refine xa 2 [V0 t,V0 u,V0 v,V0 x,.slice p n c] 24 fun b1 W1 n1=>?_
 refine zl 15 34 (fun zm b6 V=>∃ (i:Nat) (rp:O0) (rc:Nat),b6=[(1,P0 b1),(2,S0),(3,.slice rp i rc),(4,V0 (i:Int))]∧zm=n-((i:Int)).toNat∧B3 w V∧Blk V b1 ([V0 t,V0 u,V0 v,V0 x,.slice p n c]) 24∧V.ownsRow w.heap.size 3 1 (.slice rp i rc) i (((List.range i).map (Xo (Z.map Prod.fst))).map nv)∧i≤n) ⟨0,none,0,rfl,rfl,n1.below,n1.blk,A4 _ _ _ _,A3 _⟩ ?_
 rintro _ _ W2 ⟨i,rp,rc,rfl,rfl,b2,a7,c5,hi⟩ J2 d0 r2
 refine xb 5 4 a7 ?_
 refine xid 4 ((i:Int)<(n:Int)) (fun c9=>?_) (fun c9=>?_)
 ·have c8:i<(Z.map Prod.fst).length:=by rw[At];omega
  have c4:=Rn (Z:=Z) (i:=i) M0 dvD
  have d4:=Gp c8
  refine zl 11 34 (fun zm b6 V=>∃ (k:Nat),b6=[(1,P0 b1),(2,S0),(3,.slice rp i rc),(4,V0 (i:Int)),(5,V0 (k:Int))]∧zm=n-((k:Int)).toNat∧B3 w V∧Blk V b1 ([V0 t,V0 u,V0 v,V0 x,.slice p n c]) 24∧V.ownsRow w.heap.size 3 1 (.slice rp i rc) i (((List.range i).map (Xo (Z.map Prod.fst))).map nv)∧k≤Xo (Z.map Prod.fst) i) ⟨0,rfl,rfl,b2,a7,c5,A3 _⟩ ?_
  rintro _ _ W4 ⟨k,rfl,rfl,c1,b4,a4,hk⟩ J4 d1 r4
  refine xd 2 .z ?_
  have a0:=b4.below (Zb W4)
  refine xb (.e [0] 1) 4 a0 ?_
  refine xx (.e [2] 3) _ n k 5 (hP.someN hZ (i:=k) M0) ?_
  have a1:=bln c1 (Zb W4)
  refine xl (.e [4] 5) ((Sts.cell (hP.below a1).row Xs zvD (k:=k) (i:=4) M0 rfl).2) ?_
  refine xb (.e [6] 7) 4 a0 ?_
  refine xx (.e [8] 9) _ n i 5 (hP.someN hZ (i:=i) M0) ?_
  refine xl (.e [10] 11) ((Sts.cell (hP.below a1).row Xs zvD (k:=i) (i:=4) M0 rfl).2) ?_
  refine xr (.o [] 12) (args:=#[.slice ((Z.getD k zvD).2.1) ((Z.getD k zvD).1.2.length) ((Z.getD k zvD).2.2),.slice ((Z.getD i zvD).2.1) ((Z.getD i zvD).1.2.length) ((Z.getD i zvD).2.2)]) (Fa (Z.getD k zvD).2.1 (Z.getD i zvD).2.1 (Z.getD k zvD).2.2 (Z.getD i zvD).2.2 (Z.getD k zvD).1.2 (Z.getD i zvD).1.2 _ ((hP.each k M0).below a1) ((hP.each i M0).below a1)) fun W5 a8=>?_
  refine xi (.r [13] 2) (!(decide ((Z.getD k zvD).1.2=(Z.getD i zvD).1.2))) (fun c0=>?_) (fun c0=>?_)
  ·have b8:=Rn (Z:=Z) (i:=k) M0 dvD
   have b5:¬ (Z.getD k zvD).1.2=(Z.getD i zvD).1.2:=by simpa using c0
   have d6:k≠Xo (Z.map Prod.fst) i:=fun q=>b5 (by rw[←b8,←c4,q];exact d4.2)
   refine xwm 5 ((k:Int)+1) (↑(k+1):Int) ?_
   have c3:=bln a1 a8
   have a2:=a0.below a8
   have a9:=Za (Za a4 (Zb W4)) a8
   exact ze 3 (d1 _ _ _ ⟨k+1,rfl,rfl,c3,a2,a9,by omega⟩ M0)
  have b8:=Rn (Z:=Z) (i:=k) M0 dvD
  have b5:(Z.getD k zvD).1.2=(Z.getD i zvD).1.2:=by simpa using c0
  have d3:k=Xo (Z.map Prod.fst) i:=by rcases C3 k (Xo (Z.map Prod.fst) i) with q|q;exact absurd (by rw[b8,c4];exact b5) (Dc q);omega
  refine xbs 8 1 [V0 (k:Int)] 3 fun b7 W7 n7=>?_
  have b3:=bln a1 a8
  have g7:=n7.ge b3
  have a5:=Za (Za a4 (Zb W4)) a8
  have c2:=Zg a5 n7
  have a6:=Za a5 n7.below
  have b0:=bln b3 n7.below
  refine xbi 0 fun _ _ _ _ zJ zQ zo zx zy zK=>Zr (m:=1) (news:=[V0 (k:Int)]) (V0 0) 1 8 (i+1) ((((List.range (i+1)).map (Xo (Z.map Prod.fst))).map nv)) zo Tryz.underlying27 K0 rfl Do zx a6 zy (n7.blk.sl 1 1 Do Do) rfl (by simp[Value.oneCell']) (by unfold maxLen;omega) M0 b0.size (by rfl) ((by rw[d3];exact Za5)) fun d8 d5 W8 o8 c6 c7=>?_
  refine zK _ _ ?_
  refine xwm 6 ((i:Int)+1) (↑(i+1):Int) ?_
  have b9:=b0.trans c7
  have a3:=((a0.below a8).below n7.below).grown c6 a6 Do
  exact ze 2 (d0 _ _ _ ⟨i+1,_,_,rfl,rfl,b9,a3,o8,by omega⟩ M0)
 have d2:i=n:=by omega
 exact xe 12 (.slice rp i rc) (by subst d2;have q:=c5;exact⟨_,rfl,b2,_,_,rfl,by unfold owL;rw[At,hZ];exact q⟩)
theorem Zgy{O:List Nat}{k j:Nat}(h:j<O.length):(O.take (j+1)).count k=(O.take j).count k+if O.getD j 0=k then 1 else 0:=by
 rw[A8 h,List.count_append,show O.getD j 0=O[j] from by simp[List.getD,h]]
 simp[List.count_cons]
theorem Uq(a:O0)(n c k:Nat)(O:List Nat)(w:World)(hn:O.length=n)(h:Sl w (.slice a n c) n (O.map nv))(hl:n≤100000) :
 C0 53 #[.slice a n c,V0 (k:Int)] w (Ret (V0 (↑(O.count k):Int)) w):=by
 refine zin 22 Tryz.func53 ?_
 have hB:=Below.refl w.heap.size w
 refine zl 17 22 (fun zm a5 V=>∃ (j:Nat),a5=[(0,.slice a n c),(1,V0 (k:Int)),(4,V0 0),(5,V0 (↑((O.take j).count k):Int)),(6,V0 (j:Int))]∧zm=n-((j:Int)).toNat∧B3 w V∧j≤n) ⟨0,rfl,rfl,hB,A3 _⟩ ?_
 rintro _ _ W1 ⟨j,rfl,rfl,a0,hj⟩ J1 a2 r1
 refine xid 9 ((j:Int)<(n:Int)) (fun a3=>?_) (fun a3=>?_)
 ·have a1:=Zgy (O:=O) (k:=k) (j:=j) M0
  have a6:(O.take j).count k≤j:=by have a:=List.count_le_length (a:=k) (l:=O.take j);rw[D1] at a;omega
  refine xx 8 _ n j 1 (Yb h hn (k:=j) M0).1 ?_
  refine xl 0 ((Yb (h.below a0) hn (k:=j) M0).2) ?_
  refine xie 4 (↑(O.getD j 0):Int) (k:Int) (fun a4=>?_) (fun a4=>?_)
  ·refine xwm 2 ((↑((O.take j).count k):Int)+1) (↑(((O.take j).count k)+1):Int) ?_
   refine xwm 6 ((j:Int)+1) (↑(j+1):Int) ?_
   refine xv1 2 5 (show(V0 (↑(((O.take j).count k)+1):Int):Value)=V0 (↑((O.take (j+1)).count k):Int) from congrArg V0 (by split at a1<;>omega)) ?_
   exact ze 0 (a2 _ _ _ ⟨j+1,rfl,rfl,a0,by omega⟩ M0)
  refine xwm 5 ((j:Int)+1) (↑(j+1):Int) ?_
  refine xv1 2 5 (show(V0 (↑((O.take j).count k):Int):Value)=V0 (↑((O.take (j+1)).count k):Int) from congrArg V0 (by split at a1<;>omega)) ?_
  exact ze 0 (a2 _ _ _ ⟨j+1,rfl,rfl,a0,by omega⟩ M0)
 exact xe 12 (V0 (↑((O.take j).count k):Int)) ⟨by rw[A1 M0],a0⟩
theorem Ok{w:World}{p:O0}{n c:Nat}{L:List Dv}(h:Sl w (.slice p n c) n ((owL L).map nv))(hn:L.length=n){i:Nat}(hi:i<n):p.isSome=true∧w.cell? (Xa p (i*1))=some (V0 (↑(Xo L i):Int)):=by
 have q:=Yb h (by rw[Jc];exact hn) hi
 rw[Zik M0] at q;exact q
theorem Mw(p:O0)(c n x:Nat)(t u v:Int)(Z:List Zv)(w:World)(hZ:Z.length=n)(hP:DevsR w p c Z)(hk:PoolOk t u v (x:Int) (Z.map Prod.fst)) :
 C0 20 #[.agg #[V0 t,V0 u,V0 v,V0 (x:Int),.slice p n c]] w (Ret (V0 (↑(Kw x (Z.map Prod.fst)):Int)) w):=by
 have hx:x≤65536:=by have:=hk.hdata;omega
 have b7:(Z.map Prod.fst).length=n:=by rw[At];exact hZ
 have h3:=Sl.len (hP.rowN hZ)
 have h1:=hk.devs.few
 have f2:=Sm hx hk.devs
 have f7:Qj (Z.map Prod.fst)+1≤Ho x (Z.map Prod.fst):=by unfold Ho;omega
 have e9:Zeo x (Z.map Prod.fst)=Ho x (Z.map Prod.fst)-Vb (Z.map Prod.fst) (Z.map Prod.fst).length+1+Zw 5 (Ar (Z.map Prod.fst)):=rfl
 obtain⟨bs,d7⟩:∃ y,Ho x (Z.map Prod.fst)=y:=⟨_,rfl⟩
 rw[d7] at f2 f7 e9
 refine zin 57 Tryz.func20 ?_
 refine xa 2 [V0 t,V0 u,V0 v,V0 (x:Int),.slice p n c] 24 fun b1 W1 n1=>?_
 refine xlv 5 n1.blk.rp ?_
 refine xr 0 (args:=#[.agg #[V0 t,V0 u,V0 v,V0 (x:Int),.slice p n c]]) (by have q:=Zge p c n x t u v Z _ hZ (hP.below n1.below) hk;rw[d7] at q;exact q) fun W2 e2=>?_
 refine xk 10 (show(((bs:Int)==(0:Int)):Bool)=false from beq_false_of_ne M0) ?_
 have c3:=n1.blk.below e2
 refine xlv 4 c3.rp ?_
 have c2:=bln n1.below e2
 refine xc 0 (args:=#[.agg #[V0 t,V0 u,V0 v,V0 (x:Int),.slice p n c]]) (Ka p c n t u v (x:Int) Z _ hZ (hP.below c2) M0) ?_
 rintro _ W3 ⟨_,rfl,e7,q8,d8,rfl,b2⟩
 have f3:=(bln n1.below e2).size
 refine xv1 15 3 (show(V0 (bs:Int):Value)=V0 (↑(bs-Vb (Z.map Prod.fst) 0):Int) from congrArg V0 (by first|rfl|simp[Vb,Yc])) ?_
 refine xv1 0 5 (show(V0 0:Value)=V0 (↑(Yc (shN (Z.map Prod.fst)) 0):Int) from congrArg V0 (by first|rfl|simp[Vb,Yc])) ?_
 have c0:=Zf b2 f3
 have e4:=bln c2 e7
 have e5:=c3.below e7
 refine zl 0 57 (fun zm d0 V=>∃ (i:Nat),d0=[(1,P0 b1),(2,V0 0),(3,V0 (↑(bs-Vb (Z.map Prod.fst) i):Int)),(4,.slice q8 n d8),(5,V0 (↑(Yc (shN (Z.map Prod.fst)) i):Int)),(6,V0 (i:Int))]∧zm=n-((i:Int)).toNat∧B3 w V∧Blk V b1 ([V0 t,V0 u,V0 v,V0 (x:Int),.slice p n c]) 24∧V.ownsRow w.heap.size 3 1 (.slice q8 n d8) n ((owL (Z.map Prod.fst)).map nv)∧i≤n) ⟨0,rfl,rfl,e4,e5,c0,A3 _⟩ ?_
 rintro _ _ W4 ⟨i,rfl,rfl,a2,a0,b2,hi⟩ J4 c7 r4
 refine xid 9 ((i:Int)<(n:Int)) (fun f9=>?_) (fun f9=>?_)
 ·have e6:i<(Z.map Prod.fst).length:=by omega
  have g6:=Kj (cs:=shN (Z.map Prod.fst)) (k:=i) (by rw[Uk];exact e6)
  have b3:Vb (Z.map Prod.fst) (i+1)=Vb (Z.map Prod.fst) i+if Xo (Z.map Prod.fst) i=i then 0 else Zw 2 ((Z.map Prod.fst).getD i dvD).2.length:=rfl
  rw[Rn M0] at b3
  have f4:=Zkk (Z.map Prod.fst) (i:=i+1) e6
  have g8:=Aj hk.devs (i:=i) M0
  have g3:Yc (shN (Z.map Prod.fst)) i≤i:=by unfold Yc;exact N0 (H4 _ _) (by rw[D1];exact H5 _ _)
  refine xx 9 _ n i 1 (Ok (Ze b2) b7 (i:=i) M0).1 ?_
  refine xl 0 ((Ok (Ze b2) b7 (i:=i) M0).2) ?_
  refine xin 4 (↑(Xo (Z.map Prod.fst) i):Int) (i:Int) (fun f5=>?_) (fun f5=>?_)
  ·have d9:Xo (Z.map Prod.fst) i≠i:=by omega
   rw[if_neg d9] at b3
   refine xb 3 4 a0 ?_
   refine xx 1 _ n i 5 (hP.someN hZ (i:=i) M0) ?_
   refine xl 1 ((Sts.cell (hP.below a2).row Xs zvD (k:=i) (i:=4) M0 rfl).2) ?_
   refine xr 1 (args:=#[V0 2,V0 (↑((Z.getD i zvD).1.2.length):Int)]) (Yj 2 ((Z.getD i zvD).1.2.length) _ Do Do M0) fun W7 c5=>?_
   refine xw 0 ((↑(bs-Vb (Z.map Prod.fst) i):Int)-(↑(Zw 2 ((Z.getD i zvD).1.2.length)):Int)) ?_
   have a4:=Za b2 c5
   refine xr 7 (args:=#[.slice q8 n d8,V0 (i:Int)]) (by have q:=Uq q8 n d8 i (owL (Z.map Prod.fst)) _ (by rw[Jc];exact b7) (Ze a4) M0;rw[←Db] at q;exact q) fun W8 b6=>?_
   refine xid 3 ((↑((shN (Z.map Prod.fst)).getD i 0):Int)≥(3:Int)) (fun f1=>?_) (fun f1=>?_)
   ·refine xwm 2 ((↑(Yc (shN (Z.map Prod.fst)) i):Int)+1) (↑((Yc (shN (Z.map Prod.fst)) i)+1):Int) ?_
    refine xwm 6 ((i:Int)+1) (↑(i+1):Int) ?_
    refine xv1 2 3 (show(V0 ((↑(bs-Vb (Z.map Prod.fst) i):Int)-(↑(Zw 2 ((Z.getD i zvD).1.2.length)):Int)):Value)=V0 (↑(bs-Vb (Z.map Prod.fst) (i+1)):Int) from congrArg V0 (by first|(have:(if 3≤(shN (Z.map Prod.fst)).getD i 0 then 1 else 0)=1:=by split<;>omega)<;>omega|omega)) ?_
    refine xv1 0 5 (show(V0 (↑((Yc (shN (Z.map Prod.fst)) i)+1):Int):Value)=V0 (↑(Yc (shN (Z.map Prod.fst)) (i+1)):Int) from congrArg V0 (by first|(have:(if 3≤(shN (Z.map Prod.fst)).getD i 0 then 1 else 0)=1:=by split<;>omega)<;>omega|omega)) ?_
    have e0:=bln (bln a2 c5) b6
    have a9:=(a0.below c5).below b6
    have b8:=Za a4 b6
    exact ze 0 (c7 _ _ _ ⟨i+1,rfl,rfl,e0,a9,b8,by omega⟩ M0)
   refine xwm 5 ((i:Int)+1) (↑(i+1):Int) ?_
   refine xv1 2 3 (show(V0 ((↑(bs-Vb (Z.map Prod.fst) i):Int)-(↑(Zw 2 ((Z.getD i zvD).1.2.length)):Int)):Value)=V0 (↑(bs-Vb (Z.map Prod.fst) (i+1)):Int) from congrArg V0 (by first|(have:(if 3≤(shN (Z.map Prod.fst)).getD i 0 then 1 else 0)=0:=by split<;>omega)<;>omega|omega)) ?_
   refine xv1 0 5 (show(V0 (↑(Yc (shN (Z.map Prod.fst)) i):Int):Value)=V0 (↑(Yc (shN (Z.map Prod.fst)) (i+1)):Int) from congrArg V0 (by first|(have:(if 3≤(shN (Z.map Prod.fst)).getD i 0 then 1 else 0)=0:=by split<;>omega)<;>omega|omega)) ?_
   have d2:=bln (bln a2 c5) b6
   have a6:=(a0.below c5).below b6
   have c1:=Za a4 b6
   exact ze 0 (c7 _ _ _ ⟨i+1,rfl,rfl,d2,a6,c1,by omega⟩ M0)
  have d9:Xo (Z.map Prod.fst) i=i:=by omega
  rw[if_pos d9] at b3
  refine xr 6 (args:=#[.slice q8 n d8,V0 (i:Int)]) (by have q:=Uq q8 n d8 i (owL (Z.map Prod.fst)) _ (by rw[Jc];exact b7) (Ze b2) M0;rw[←Db] at q;exact q) fun g5 a1=>?_
  refine xid 3 ((↑((shN (Z.map Prod.fst)).getD i 0):Int)≥(3:Int)) (fun d1=>?_) (fun d1=>?_)
  ·refine xwm 2 ((↑(Yc (shN (Z.map Prod.fst)) i):Int)+1) (↑((Yc (shN (Z.map Prod.fst)) i)+1):Int) ?_
   refine xwm 6 ((i:Int)+1) (↑(i+1):Int) ?_
   refine xv1 2 3 (show(V0 (↑(bs-Vb (Z.map Prod.fst) i):Int):Value)=V0 (↑(bs-Vb (Z.map Prod.fst) (i+1)):Int) from congrArg V0 (by first|(have:(if 3≤(shN (Z.map Prod.fst)).getD i 0 then 1 else 0)=1:=by split<;>omega)<;>omega|omega)) ?_
   refine xv1 0 5 (show(V0 (↑((Yc (shN (Z.map Prod.fst)) i)+1):Int):Value)=V0 (↑(Yc (shN (Z.map Prod.fst)) (i+1)):Int) from congrArg V0 (by first|(have:(if 3≤(shN (Z.map Prod.fst)).getD i 0 then 1 else 0)=1:=by split<;>omega)<;>omega|omega)) ?_
   have d5:=bln a2 a1
   have a7:=a0.below a1
   have c4:=Za b2 a1
   exact ze 0 (c7 _ _ _ ⟨i+1,rfl,rfl,d5,a7,c4,by omega⟩ M0)
  refine xwm 5 ((i:Int)+1) (↑(i+1):Int) ?_
  refine xv1 2 3 (show(V0 (↑(bs-Vb (Z.map Prod.fst) i):Int):Value)=V0 (↑(bs-Vb (Z.map Prod.fst) (i+1)):Int) from congrArg V0 (by first|(have:(if 3≤(shN (Z.map Prod.fst)).getD i 0 then 1 else 0)=0:=by split<;>omega)<;>omega|omega)) ?_
  refine xv1 0 5 (show(V0 (↑(Yc (shN (Z.map Prod.fst)) i):Int):Value)=V0 (↑(Yc (shN (Z.map Prod.fst)) (i+1)):Int) from congrArg V0 (by first|(have:(if 3≤(shN (Z.map Prod.fst)).getD i 0 then 1 else 0)=0:=by split<;>omega)<;>omega|omega)) ?_
  have c9:=bln a2 a1
  have a5:=a0.below a1
  have c6:=Za b2 a1
  exact ze 0 (c7 _ _ _ ⟨i+1,rfl,rfl,c9,a5,c6,by omega⟩ M0)
 have e8:i=n:=by omega
 have g7:=To (Z.map Prod.fst)
 have g0:Yc (shN (Z.map Prod.fst)) i=Ar (Z.map Prod.fst):=by rw[e8];unfold Ar;rw[b7]
 have d6:Vb (Z.map Prod.fst) i=Vb (Z.map Prod.fst) (Z.map Prod.fst).length:=by rw[e8,b7]
 have f6:=Yp 5 (Yc (shN (Z.map Prod.fst)) i)
 have f0:=Tk x (Z.map Prod.fst)
 rw[d7] at f0
 refine xw 8 ((↑(bs-Vb (Z.map Prod.fst) i):Int)+1) ?_
 refine xr 1 (args:=#[V0 5,V0 (↑(Yc (shN (Z.map Prod.fst)) i):Int)]) (Yj 5 (Yc (shN (Z.map Prod.fst)) i) _ Do Do M0) fun g1 b9=>?_
 refine xw 0 ((↑(bs-Vb (Z.map Prod.fst) i):Int)+1+(↑(Zw 5 (Yc (shN (Z.map Prod.fst)) i)):Int)) ?_
 refine xv1 11 3 (show(V0 ((↑(bs-Vb (Z.map Prod.fst) i):Int)+1+(↑(Zw 5 (Yc (shN (Z.map Prod.fst)) i)):Int)):Value)=V0 (↑(bs-Vb (Z.map Prod.fst) i+1+Zw 5 (Yc (shN (Z.map Prod.fst)) i)):Int) from congrArg V0 M0) ?_
 refine xv1 0 7 (show(V0 ((↑(bs-Vb (Z.map Prod.fst) i):Int)+1+(↑(Zw 5 (Yc (shN (Z.map Prod.fst)) i)):Int)):Value)=V0 (↑(bs-Vb (Z.map Prod.fst) i+1+Zw 5 (Yc (shN (Z.map Prod.fst)) i)):Int) from congrArg V0 M0) ?_
 have e1:=bln a2 b9
 have a8:=a0.below b9
 refine zl 0 57 (fun zm d0 V=>∃ (j:Nat),d0=[(2,V0 0),(3,V0 (↑(bs-Vb (Z.map Prod.fst) i+1+Zw 5 (Yc (shN (Z.map Prod.fst)) i)):Int)),(7,V0 (j:Int))]∧zm=300000-((j:Int)).toNat∧B3 w V∧Blk V b1 ([V0 t,V0 u,V0 v,V0 (x:Int),.slice p n c]) 24∧(bs-Vb (Z.map Prod.fst) i+1+Zw 5 (Yc (shN (Z.map Prod.fst)) i))≤j∧j≤Nh (bs-Vb (Z.map Prod.fst) i+1+Zw 5 (Yc (shN (Z.map Prod.fst)) i))) ⟨(bs-Vb (Z.map Prod.fst) i+1+Zw 5 (Yc (shN (Z.map Prod.fst)) i)),rfl,rfl,e1,a8,⟨A6 _,by unfold Nh;omega⟩⟩ ?_
 rintro _ _ h5 ⟨j,rfl,rfl,b0,b4,hj⟩ h0 e3 h4
 have g2:Nh (bs-Vb (Z.map Prod.fst) i+1+Zw 5 (Yc (shN (Z.map Prod.fst)) i))≤300000:=by unfold Nh;omega
 have h2:bmN j≤1000:=by unfold bmN;omega
 refine xr 5 (args:=#[V0 (j:Int)]) (Hk j _ M0) fun g9 b5=>?_
 refine xw 0 ((↑(bs-Vb (Z.map Prod.fst) i+1+Zw 5 (Yc (shN (Z.map Prod.fst)) i)):Int)+(↑(bmN j):Int)) ?_
 refine xid 4 ((↑(bs-Vb (Z.map Prod.fst) i+1+Zw 5 (Yc (shN (Z.map Prod.fst)) i)):Int)+(↑(bmN j):Int)>(j:Int)) (fun d4=>?_) (fun d4=>?_)
 ·refine xwm 5 ((j:Int)+1) (↑(j+1):Int) ?_
  have c8:=bln b0 b5
  have a3:=b4.below b5
  exact ze 3 (e3 _ _ _ ⟨j+1,rfl,rfl,c8,a3,(by refine⟨by omega,?_⟩;rcases C3 j (Nh (bs-Vb (Z.map Prod.fst) i+1+Zw 5 (Yc (shN (Z.map Prod.fst)) i))) with q|q;exact q;have:=Ik q;omega)⟩ M0)
 have d3:=bln b0 b5
 exact xe 12 (V0 (j:Int)) (by have f8:j=Nh (bs-Vb (Z.map Prod.fst) i+1+Zw 5 (Yc (shN (Z.map Prod.fst)) i)):=(by rcases C3 j (Nh (bs-Vb (Z.map Prod.fst) i+1+Zw 5 (Yc (shN (Z.map Prod.fst)) i))) with q|q;(have:=Zig (show 1≤(bs-Vb (Z.map Prod.fst) i+1+Zw 5 (Yc (shN (Z.map Prod.fst)) i)) by omega) hj.1 q;omega);omega);exact⟨by unfold Kw;rw[e9,←g0,←d6,←f8],d3⟩)
theorem Zgs(p:O0)(c n:Nat)(t u v x:Int)(Z:List Zv)(w:World)(hZ:Z.length=n)(hP:DevsR w p c Z)(hk:Yg t u v x (Z.map Prod.fst)≠0) :
 C0 33 #[.agg #[V0 t,V0 u,V0 v,V0 x,.slice p n c]] w (Ret (V0 0) w):=by
 refine zin 46 Tryz.func33 ?_
 refine xa 2 [V0 t,V0 u,V0 v,V0 x,.slice p n c] 24 fun b1 W1 n1=>?_
 refine xlv 6 n1.blk.rp ?_
 refine xr 0 (args:=#[.agg #[V0 t,V0 u,V0 v,V0 x,.slice p n c]]) (Ko p c n t u v x Z _ hZ (hP.below n1.below)) fun W2 a1=>?_
 refine xk 3 (show(((Yg t u v x (Z.map Prod.fst)) != (0:Int)):Bool)=true from(by simpa using hk)) ?_
 have a0:=bln n1.below a1
 exact xe 7 (V0 0) ⟨rfl,a0⟩
theorem Zem(p:O0)(c n:Nat)(t u v x:Int)(Z:List Zv)(w:World)(hZ:Z.length=n)(hP:DevsR w p c Z)(hk:Yg t u v x (Z.map Prod.fst)≠0) :
 C0 10 #[.agg #[V0 t,V0 u,V0 v,V0 x,.slice p n c]] w (Ret (V0 0) w):=by
 refine zin 50 Tryz.func10 ?_
 refine xa 2 [V0 t,V0 u,V0 v,V0 x,.slice p n c] 24 fun b1 W1 n1=>?_
 refine xlv 5 n1.blk.rp ?_
 refine xr 0 (args:=#[.agg #[V0 t,V0 u,V0 v,V0 x,.slice p n c]]) (Zgs p c n t u v x Z _ hZ (hP.below n1.below) hk) fun W2 a1=>?_
 have a0:=bln n1.below a1
 exact xe 18 (V0 0) ⟨rfl,a0⟩
theorem Zbr(p:O0)(c n:Nat)(t u v x:Int)(Z:List Zv)(w:World)(hZ:Z.length=n)(hP:DevsR w p c Z)(hk:Yg t u v x (Z.map Prod.fst)≠0) :
 C0 57 #[.agg #[V0 t,V0 u,V0 v,V0 x,.slice p n c]] w (Ret (V0 0) w):=by
 refine zin 66 Tryz.func57 ?_
 refine xa 2 [V0 t,V0 u,V0 v,V0 x,.slice p n c] 24 fun b1 W1 n1=>?_
 refine xlv 6 n1.blk.rp ?_
 refine xr 0 (args:=#[.agg #[V0 t,V0 u,V0 v,V0 x,.slice p n c]]) (Qq p c n t u v x Z _ hZ (hP.below n1.below)) fun W2 a1=>?_
 refine xk 3 (show(((Yg t u v x (Z.map Prod.fst)) != (0:Int)):Bool)=true from(by simpa using hk)) ?_
 have a0:=bln n1.below a1
 exact xe 7 (V0 0) ⟨rfl,a0⟩
theorem Zbo(p:O0)(c n:Nat)(t u v x:Int)(Z:List Zv)(w:World)(hZ:Z.length=n)(hP:DevsR w p c Z)(hk:Yg t u v x (Z.map Prod.fst)≠0) :
 C0 20 #[.agg #[V0 t,V0 u,V0 v,V0 x,.slice p n c]] w (Ret (V0 0) w):=by
 refine zin 57 Tryz.func20 ?_
 refine xa 2 [V0 t,V0 u,V0 v,V0 x,.slice p n c] 24 fun b1 W1 n1=>?_
 refine xlv 5 n1.blk.rp ?_
 refine xr 0 (args:=#[.agg #[V0 t,V0 u,V0 v,V0 x,.slice p n c]]) (Zbr p c n t u v x Z _ hZ (hP.below n1.below) hk) fun W2 a1=>?_
 have a0:=bln n1.below a1
 exact xe 18 (V0 0) ⟨rfl,a0⟩
theorem Ie{L:List Dv}{m k:Nat}(h:m<k)(h0:rcF L m=0):((Ue L m k).map V0).set m (V0 1)=(Ue L (m+1) k).map V0:=by
 rw[←Zdt h,h0];rfl
theorem Fk(t u v:Int)(x k:Nat)(L:List Dv)(w:World)(hr:Xp (twS t u v x L k)=true):C0 115 #[.agg #[V0 t,V0 u,V0 v,V0 (x:Int),V0 (k:Int),V0 (↑(Xm (G1 L)):Int),V0 (↑(Xm (G2 L)):Int),V0 (twD x L k).1,V0 (twD x L k).2.1,V0 (twM x L k).1,V0 (twM x L k).2.1]] w (Qo (fun w' r=>∃ p c,r=.tuple #[.slice p 244 c,V0 0]∧w'.ownsRow w.heap.size 5 1 (.slice p 244 c) 244 ((Zcm (twS t u v x L k)).map bv)) w):=by
 refine Zgv (twS t u v x L k) w hr ⟨by show(0:Int)≤(k:Int);omega,?_⟩
 unfold Xp twS at hr
 simp only[D3,decide_eq_true_eq,true_and] at hr
 show(k:Int)<_
 omega
theorem Za1(B bc bm:Nat)(pg:O0)(N cg:Nat)(p:O0)(k cI g:Nat)(pd:O0)(cd n x:Nat)(t u v:Int)(Z:List Zv)(rp:O0)(rc:Nat)(w:World)(hZ:Z.length=n)(hk:PoolOk t u v (x:Int) (Z.map Prod.fst))(hP:∀ W,Below B w W→DevsR W pd cd Z)(hN:N=k-1)(hR:La B bc bm pg N cg (Xm (twT (Z.map Prod.fst) (Z.map Prod.fst).length)) w)(hJ:RefI B bm p k cI (Fo (twT (Z.map Prod.fst) (Z.map Prod.fst).length) 1 (List.replicate (k*256) (0:UInt8))) w)(hro:w.ownsRow B 3 1 (.slice rp n rc) n (((List.range n).map (twR (Z.map Prod.fst))).map nv))(hc:w.ownsRow B 3 1 (.slice (S1 g) k k) k ((Ip (Z.map Prod.fst) k (Z.map Prod.fst).length).map V0))(hpg:∀ j,(Value.slice pg N cg).ownBlock=some j→j≠g)(hr:Kw x (Z.map Prod.fst)≤k)(hk3:k≤3000)(hBw:B≤w.heap.size) :
 C0 54 #[P0 bm,P0 bc,.agg #[V0 t,V0 u,V0 v,V0 (x:Int),.slice pd n cd],.slice rp n rc,.slice (S1 g) k k] w ((fun e w'=>e=.returned (.tuple #[])∧Below B w w'∧Zd [189,9,3,124] w w'∧RefI B bm p k cI (twI t u v x (Z.map Prod.fst) k) w')):=by
 have v0:∀ W,Below B w W→Zd [189,9,3,124] w W→DevsR W pd cd Z:=fun W h _=>hP W h
 have da:(Z.map Prod.fst).length=n:=by rw[At];exact hZ
 have dy:=Zd5 (Z.map Prod.fst)
 have cv:=hk.devs.few
 have hx:x≤65536:=by have:=hk.hdata;omega
 have bg:=Ev hr
 have ey:twK x (Z.map Prod.fst)=Xm (G2 (Z.map Prod.fst))+Hl (Yl x (Z.map Prod.fst)):=rfl
 have bf:=Zdp hk hr M0
 have bh:=cntM_0 (Z.map Prod.fst) k
 have eh:=Sl.len ((hP w (Below.refl _ _)).rowN hZ)
 refine zin 119 Tryz.func54 ?_
 refine xa 2 [V0 t,V0 u,V0 v,V0 (x:Int),.slice pd n cd] 24 fun b1 W1 n1=>?_
 refine xd 3 (.t B [189,9,3,124,54]) ?_
 have k1:=n1.blk.below (Zb W1)
 refine xbt (.e [0] 1) 0 B [189,9,3,124,54] k1 ?_
 refine xbt (.e [2] 3) 1 B [189,9,3,124,54] k1 ?_
 refine xbt (.e [4] 5) 2 B [189,9,3,124,54] k1 ?_
 refine xbt (.e [6] 7) 3 B [189,9,3,124,54] k1 ?_
 have m2:=(hJ.below n1.below).below (Zb W1)
 refine xm2 (.b [8,9,10]) 11 14 ?_ ?_
 ·refine xl 0 (m2.blk.cell (i:=0) rfl) ?_
  refine xa (.o [12,13] 14) [V0 0,V0 0,V0 0,V0 0,V0 0,V0 0,V0 0,V0 0,V0 0,V0 0,V0 0] 54 fun b2 W2 n2=>?_
  have g2:=n2.ge0 (blB (blB (Below.refl B w) hBw n1.below) hBw (Zb W1))
  refine ysv (.o [] 15) n2.blk [V0 t,V0 u,V0 v,V0 (x:Int),V0 (k:Int),V0 0,V0 0,V0 0,V0 0,V0 0,V0 0] (.t B [189,9,3,124,54]) fun W3 u3 k3=>⟨(Xb u3 n2.blk (N0 hBw g2) Do),?_⟩
  have y9:=u3.own2 (Za (Za (Za hc n1.below) (Zb W1)) n2.below) n2.blk Do
  have p3:=u3.own2 (Za (Za (Za hro n1.below) (Zb W1)) n2.below) n2.blk Do
  have aw:=(((hR.below n1.below).below (Zb W1)).below n2.below).only (Zd.of_upd (T:=[54]) u3 n2.blk Do) Do
  have x0:=(m2.below n2.below).only (Zd.of_upd (T:=[54]) u3 n2.blk Do) Do
  have hB:=u3.below (blB (blB (blB (Below.refl B w) hBw n1.below) hBw (Zb W1)) hBw n2.below) (N0 hBw g2)
  have hO:=(Zd.upd_new (((show Zd [189,9,3,124] w _ from(Zd.of_below n1.below)).trans (Zd.of_below (Zb W1))).trans (Zd.of_below n2.below)) u3 g2)
  have v4:=u3.blkT (k1.below n2.below) n2.blk Do
  refine zl 15 119 (fun zm l8 V=>∃ (i:Nat) (p7:O0) (c7:Nat) (p8:O0) (c8:Nat),l8=[(0,P0 bm),(1,P0 bc),(3,.slice rp n rc),(4,.slice (S1 g) k k),(7,P0 b1),(10,P0 b2),(11,.slice p7 i c7),(12,.slice p8 i c8),(13,V0 (i:Int))]∧zm=n-((i:Int)).toNat∧Below B w V∧Zd [189,9,3,124] w V∧Blk V b1 ([V0 t,V0 u,V0 v,V0 (x:Int),.slice pd n cd]) 24∧Blk V b2 ([V0 t,V0 u,V0 v,V0 (x:Int),V0 (k:Int),V0 0,V0 0,V0 0,V0 0,V0 0,V0 0]) 54∧V.ownsRow w.heap.size 124 3 (.slice p7 i c7) i (((Gc (Z.map Prod.fst) (twR (Z.map Prod.fst))).take i).flatMap Yo)∧V.ownsRow w.heap.size 124 3 (.slice p8 i c8) i (((Hy (Z.map Prod.fst) (Kc (Z.map Prod.fst))).take i).flatMap Yo)∧V.ownsRow B 3 1 (.slice rp n rc) n (((List.range n).map (twR (Z.map Prod.fst))).map nv)∧V.ownsRow B 3 1 (.slice (S1 g) k k) k ((Ue (Z.map Prod.fst) 0 k).map V0)∧La B bc bm pg N cg (Xm (twT (Z.map Prod.fst) (Z.map Prod.fst).length)) V∧RefI B bm p k cI (Fo (twT (Z.map Prod.fst) (Z.map Prod.fst).length) 1 (List.replicate (k*256) (0:UInt8))) V∧i≤n∧Yf (.slice p7 i c7) (.slice p8 i c8)) ⟨0,none,0,none,0,rfl,rfl,hB,hO,v4,k3,A4 _ _ _ _,A4 _ _ _ _,p3,(by rw[←bh];exact y9),aw,x0,A3 _,Yf.nil _⟩ ?_
  rintro _ _ W4 ⟨i,p7,c7,p8,c8,rfl,rfl,l4,t1,h1,k8,e0,d1,hro,hc,hR,hJ,hi,d3⟩ J4 ch r4
  refine xb 5 4 h1 ?_
  refine xid 4 ((i:Int)<(n:Int)) (fun ck=>?_) (fun ck=>?_)
  ·have i8:=Rn (Z:=Z) (i:=i) M0 dvD
   have y7:=He (L:=(Z.map Prod.fst)) (i:=i) M0
   rw[i8] at y7
   have w0:=hk.devs.sum
   have h5:=hk.devs.each ((Z.map Prod.fst).getD i dvD) (Md _ M0)
   rw[i8] at h5
   have bw:=Ec (L:=(Z.map Prod.fst)) (i:=i) M0
   have bn:=Vn (Z.map Prod.fst) (show i+1≤(Z.map Prod.fst).length by omega)
   refine xd 5 (.t B [189,9,3,124]) ?_
   have e2:=h1.below (Zb W4)
   refine xbt (.e [0,1] 2) 4 B [189,9,3,124] e2 ?_
   refine xx (.e [3] 4) _ n i 5 ((hP _ (Below.refl _ _)).someN hZ (i:=i) M0) ?_
   have q1:=blB l4 hBw (Zb W4)
   have o5:=t1.trans (Zd.of_below (Zb W4))
   refine xlt (.e [5] 6) (.t B [189,9,3,124]) (fun V hV=>(Sts.cell (v0 _ (Vm q1 hV hBw) (o5.trans hV.2)).row Xs zvD (k:=i) (i:=0) M0 rfl).2) ?_
   have h0:=Za hro (Zb W4)
   refine xx (.e [7,8] 9) _ n i 1 (Xh (Ze h0) (i:=i) M0).1 ?_
   refine xl (.o [] 10) ((Xh (Ze h0) (i:=i) M0).2) ?_
   refine xr (.o [] 11) (args:=#[V0 (↑(twR (Z.map Prod.fst) i):Int)]) (Ct (↑(twR (Z.map Prod.fst) i):Int) _ ⟨by omega,by omega⟩) fun W6 h9=>?_
   refine xbs (.o [12] 13) 1 [V0 ((Z.getD i zvD).1.1.1),.string ⟨(leB (↑(twR (Z.map Prod.fst) i):Int) 4).toArray⟩,V0 0] 124 fun b7 W7 n7=>?_
   have t4:=blB q1 hBw h9
   have g7:=n7.ge0 t4
   have g5:=Za (Za e0 (Zb W4)) h9
   have u2:=Zg g5 n7
   have g6:=Za (Za d1 (Zb W4)) h9
   have u8:=Zg g6 n7
   have a1:=Za g5 n7.below
   have s5:=blB t4 hBw n7.below
   refine ybi (.o [] 14) (.t B [189,9,3,124]) fun _ _ _ _ zJ zQ zo zx zy zK=>Xi (b:=b7) (c:=1) (m:=1) (news:=[V0 ((Z.getD i zvD).1.1.1),.string ⟨(leB (↑(twR (Z.map Prod.fst) i):Int) 4).toArray⟩,V0 0]) (.agg #[V0 0,.string ⟨#[]⟩,V0 0]) 3 32 (i+1) ((((Gc (Z.map Prod.fst) (twR (Z.map Prod.fst))).take (i+1)).flatMap Yo)) zo Tryz.underlying99 K0 rfl Do zx a1 zy n7.blk rfl (by simp[Value.oneCell']) (by unfold maxLen;omega) M0 s5.size (by rfl) (by have e:=Jo (L:=(Z.map Prod.fst)) (R:=twR (Z.map Prod.fst)) (i:=i) M0;rw[i8] at e;exact Ug (by rw[Ys];omega) e) fun ev es W8 o8 i7 ba bj=>?_
   have g1:=Za g6 n7.below
   have i6:=d3.row g1 i7
   replace d3:=(d3.grow g1 bj)
   have l5:=i6
   refine zK _ _ (Zt (ba.mono hBw) i7 a1 Do) ?_
   have e5:=((e2.below h9).below n7.below).grown i7 a1 Do
   refine xb (.r [15] 5) 4 e5 ?_
   refine xx 1 _ n i 5 ((hP _ (Below.refl _ _)).someN hZ (i:=i) M0) ?_
   have t0:=s5.trans (ba.mono hBw)
   have t6:=(Zd.grown_new ((o5.trans (Zd.of_below h9)).trans (Zd.of_below n7.below)) i7 a1)
   refine xlv 0 (Sts.rp (k:=i) (v0 _ t0 t6).row Xs zvD M0 Do) ?_
   refine xr 0 (args:=#[.agg #[V0 ((Z.getD i zvD).1.1.1),V0 ((Z.getD i zvD).1.1.2.1),V0 ((Z.getD i zvD).1.1.2.2.1),V0 ((Z.getD i zvD).1.1.2.2.2),.slice ((Z.getD i zvD).2.1) ((Z.getD i zvD).1.2.length) ((Z.getD i zvD).2.2)]]) (Ls (Z.getD i zvD) (x:Int) _ h5 M0) fun W9 h8=>?_
   refine xbs 0 1 [V0 ((Z.getD i zvD).1.1.1),.string ⟨(Kt (↑(Z.getD i zvD).1.2.length:Int) (Z.getD i zvD).1).toArray⟩,V0 0] 124 fun bz cy e7=>?_
   have s3:=blB t0 hBw h8
   have dn:=e7.ge0 s3
   have h7:=Za l5 h8
   have q3:=Zg h7 e7
   have t7:=Za o8 h8
   have ay:=Zg t7 e7
   have a3:=Za h7 e7.below
   have p2:=blB s3 hBw e7.below
   refine xbi 0 fun _ _ _ _ zJ zQ zo zx zy zK=>Xi (b:=bz) (c:=1) (m:=1) (news:=[V0 ((Z.getD i zvD).1.1.1),.string ⟨(Kt (↑(Z.getD i zvD).1.2.length:Int) (Z.getD i zvD).1).toArray⟩,V0 0]) (.agg #[V0 0,.string ⟨#[]⟩,V0 0]) 3 32 (i+1) ((((Hy (Z.map Prod.fst) (Kc (Z.map Prod.fst))).take (i+1)).flatMap Yo)) zo Tryz.underlying99 K0 rfl Do zx a3 zy e7.blk rfl (by simp[Value.oneCell']) (by unfold maxLen;omega) M0 p2.size (by rfl) (by have e:=Jm (L:=(Z.map Prod.fst)) (C:=Kc (Z.map Prod.fst)) (i:=i) M0;unfold Kc at e;rw[i8] at e;exact Ug (by rw[Yv];omega) e) fun bp ce dg bl b9 al aq=>?_
   have r3:=Za t7 e7.below
   have l7:=d3.symm.row r3 b9
   replace d3:=(d3.symm.grow r3 aq).symm
   have q8:=l7
   refine zK _ _ ?_
   refine xwm 6 ((i:Int)+1) (↑(i+1):Int) ?_
   have u1:=Zp (Za (Za (Zp (Za (Za h0 h9) n7.below) i7 a1 Do) h8) e7.below) b9 a3 Do
   have au:=Zp (Za (Za (Zp (Za (Za (Za hc (Zb W4)) h9) n7.below) i7 a1 Do) h8) e7.below) b9 a3 Do
   have z6:=((((((hR.below (Zb W4)).below h9).below n7.below).only (Zd.of_grown (T:=[124]) i7 a1 Do) Do).below h8).below e7.below).only (Zd.of_grown (T:=[124]) b9 a3 Do) Do
   have v9:=((((((hJ.below (Zb W4)).below h9).below n7.below).only (Zd.of_grown (T:=[124]) i7 a1 Do) Do).below h8).below e7.below).only (Zd.of_grown (T:=[124]) b9 a3 Do) Do
   have z7:=p2.trans (al.mono hBw)
   have aj:=(Zd.grown_new ((t6.trans (Zd.of_below h8)).trans (Zd.of_below e7.below)) b9 a3)
   have i5:=((e5.below h8).below e7.below).grown b9 a3 Do
   have i3:=((((((k8.below (Zb W4)).below h9).below n7.below).grown i7 a1 Do).below h8).below e7.below).grown b9 a3 Do
   exact ze 2 (ch _ _ _ ⟨i+1,_,_,_,_,rfl,rfl,z7,aj,i5,i3,q8,bl,u1,au,z6,v9,by omega,d3⟩ M0)
  have ci:i=n:=by omega
  rw[A1 (by rw[Ys];omega)] at e0
  rw[A1 (by rw[Yv];omega)] at d1
  refine xc 9 (args:=#[P0 bc,V0 1,.slice p7 i c7]) (De B bc bm pg N cg p k cI (List.replicate (k*256) (0:UInt8)) (twT (Z.map Prod.fst) (Z.map Prod.fst).length) 1 p7 c7 i (Gc (Z.map Prod.fst) (twR (Z.map Prod.fst))) _ (by rw[Ys];omega) hR hJ (Zjb hk.devs) (show Xm (G1 (Z.map Prod.fst))≤N by omega) M0 (fun W _ h2=>Ze (Zi e0 h2 Do)) (N0 hBw l4.size)) ?_
  rintro _ de ⟨rfl,ao,f9,hR,hJ⟩
  have a5:=k8.only f9 Do
  refine xs 4 a5 [V0 t,V0 u,V0 v,V0 (x:Int),V0 (k:Int),V0 (↑(Xm (G1 (Z.map Prod.fst))):Int),V0 0,V0 0,V0 0,V0 0,V0 0] fun dp m5 br=>?_
  have m1:=m5.own2 (Zi d1 f9 Do) a5 Do
  have x5:=hR.only (Zd.of_upd (T:=[54]) m5 a5 Do) Do
  have ah:=hJ.only (Zd.of_upd (T:=[54]) m5 a5 Do) Do
  have m0:=m5.below (l4.trans ao) (N0 hBw g2)
  refine xc 6 (args:=#[P0 bc,V0 3,.slice p8 i c8]) (De B bc bm pg N cg p k cI (List.replicate (k*256) (0:UInt8)) (G1 (Z.map Prod.fst)) 3 p8 c8 i (Hy (Z.map Prod.fst) (Kc (Z.map Prod.fst))) _ (by rw[Yv];omega) x5 ah (Zj1 hk.devs) (show Xm (G2 (Z.map Prod.fst))≤N by omega) M0 (fun W _ h2=>Ze (Zi m1 h2 Do)) (N0 hBw m0.size)) ?_
  rintro _ em ⟨rfl,r6,j0,hR,hJ⟩
  have c6:=br.only j0 Do
  refine xs 4 c6 [V0 t,V0 u,V0 v,V0 (x:Int),V0 (k:Int),V0 (↑(Xm (G1 (Z.map Prod.fst))):Int),V0 (↑(Xm (G2 (Z.map Prod.fst))):Int),V0 0,V0 0,V0 0,V0 0] fun eg m4 bk=>?_
  have e3:=m4.blkT ((m5.blkT (h1.only f9 Do) a5 Do).only j0 Do) c6 Do
  refine xlv 5 e3.rp ?_
  have r2:=m4.below (m0.trans r6) (N0 hBw g2)
  refine xc 0 (args:=#[.agg #[V0 t,V0 u,V0 v,V0 (x:Int),.slice pd n cd]]) (Lb pd cd n x t u v Z _ hZ (hP _ r2) hk) ?_
  rintro _ ep ⟨_,rfl,d8,q9,d9,rfl,ae⟩
  have x7:=(m4.below (m0.trans r6) (N0 hBw g2)).size
  have o7:=Zf ae x7
  have ab:=(hR.only (Zd.of_upd (T:=[54]) m4 c6 Do) Do).below d8
  have ac:=(hJ.only (Zd.of_upd (T:=[54]) m4 c6 Do) Do).below d8
  obtain⟨y4,w5,w2,v8⟩:=ab
  have k6:=blB r2 hBw d8
  refine xc 0 (args:=#[P0 bc,.slice q9 x d9]) (by have q:=Fi B bc bm pg N cg y4 w5 w2 1 (Xm (G2 (Z.map Prod.fst))) p k cI (twB1 (Z.map Prod.fst) k) q9 d9 (Yl x (Z.map Prod.fst)) _ v8 (by rw[Yy];have q:=Ze o7;rw[←Zbl] at q;exact q) (by rw[Yy];omega) (by rw[Wd];have:=Wr hk.devs;omega) (Pk M0 hk.devs) M0 M0 Do M0 ac (N0 hBw k6.size);rw[Yy] at q;exact q) ?_
  rintro _ cx ⟨co,bq,cn,rfl,w1,j3,w3,hJ⟩
  have hR:La B bc bm pg N cg (twK x (Z.map Prod.fst)) _:=⟨_,_,_,w3⟩
  have c3:=(bk.below d8).only j3 Do
  refine xs 5 c3 [V0 t,V0 u,V0 v,V0 (x:Int),V0 (k:Int),V0 (↑(Xm (G1 (Z.map Prod.fst))):Int),V0 (↑(Xm (G2 (Z.map Prod.fst))):Int),V0 ((twD x (Z.map Prod.fst) k).1),V0 0,V0 0,V0 0] fun ea m8 n9=>?_
  refine xs 1 n9 [V0 t,V0 u,V0 v,V0 (x:Int),V0 (k:Int),V0 (↑(Xm (G1 (Z.map Prod.fst))):Int),V0 (↑(Xm (G2 (Z.map Prod.fst))):Int),V0 ((twD x (Z.map Prod.fst) k).1),V0 ((twD x (Z.map Prod.fst) k).2.1),V0 0,V0 0] fun dh n3 cw=>?_
  have ax:=n3.own2 (m8.own2 (Zi (Za (m4.own2 (Zi (m5.own2 (Zi hc f9 Do) a5 Do) j0 Do) c6 Do) d8) j3 Do) c3 Do) n9 Do
  have x6:=(hR.only (Zd.of_upd (T:=[54]) m8 c3 Do) Do).only (Zd.of_upd (T:=[54]) n3 n9 Do) Do
  have y2:=(hJ.only (Zd.of_upd (T:=[54]) m8 c3 Do) Do).only (Zd.of_upd (T:=[54]) n3 n9 Do) Do
  have s9:=n3.below (m8.below (k6.trans w1) (N0 hBw g2)) (N0 hBw g2)
  have z2:=(Zd.upd_new (Zd.upd_new (((Zd.upd_new ((Zd.upd_new (t1.trans (f9.wide Do)) m5 g2).trans (j0.wide Do)) m4 g2).trans (Zd.of_below d8)).trans (j3.wide Do)) m8 g2) n3 g2)
  have i4:=n3.blkT (m8.blkT ((e3.below d8).only j3 Do) c3 Do) n9 Do
  refine zl 9 119 (fun zm l8 V=>∃ (i2:Nat),l8=[(0,P0 bm),(1,P0 bc),(4,.slice (S1 g) k k),(10,P0 b2),(14,V0 (i2:Int))]∧zm=twK x (Z.map Prod.fst)+1-((i2:Int)).toNat∧Below B w V∧Zd [189,9,3,124] w V∧Blk V b1 ([V0 t,V0 u,V0 v,V0 (x:Int),.slice pd n cd]) 24∧Blk V b2 ([V0 t,V0 u,V0 v,V0 (x:Int),V0 (k:Int),V0 (↑(Xm (G1 (Z.map Prod.fst))):Int),V0 (↑(Xm (G2 (Z.map Prod.fst))):Int),V0 ((twD x (Z.map Prod.fst) k).1),V0 ((twD x (Z.map Prod.fst) k).2.1),V0 0,V0 0]) 54∧V.ownsRow B 3 1 (.slice (S1 g) k k) k ((Ue (Z.map Prod.fst) i2 k).map V0)∧La B bc bm pg N cg (twK x (Z.map Prod.fst)) V∧RefI B bm p k cI (twD x (Z.map Prod.fst) k).2.2 V∧i2≤twK x (Z.map Prod.fst)+1) ⟨0,rfl,rfl,s9,z2,i4,cw,ax,x6,y2,A3 _⟩ ?_
  rintro _ _ di ⟨i2,rfl,rfl,b6,h3,d2,b0,hc,hR,hJ,cf⟩ cz p1 fb
  refine xl 7 hR.used ?_
  refine xid 3 ((i2:Int)≤(↑(twK x (Z.map Prod.fst)):Int)) (fun z1=>?_) (fun z1=>?_)
  ·refine xx 8 _ k i2 1 (show(some (⟨g,0,none⟩:Addr)).isSome=true from rfl) ?_
   refine xl 0 (Dx (Ze hc) (m:=i2) M0) ?_
   refine xie 3 (↑(rcF (Z.map Prod.fst) i2):Int) (0:Int) (fun z9=>?_) (fun z9=>?_)
   ·refine xx 3 _ k i2 1 (show(some (⟨g,0,none⟩:Addr)).isSome=true from rfl) ?_
    refine xst 0 fun _ _ _ _ zJ zQ zo zx zy zK=>Xk (t:=3) (k:=i2) (v:=V0 1) zo zx zy K0 rfl hc M0 fun ef m9 bb=>?_
    rw[(Ie (L:=(Z.map Prod.fst)) (m:=i2) (k:=k) M0 M0)] at bb
    refine zK _ _ ?_
    refine xwm 5 ((i2:Int)+1) (↑(i2+1):Int) ?_
    have z5:=hR.upd hpg m9 hc
    have ai:=hJ.only (Zd.of_updRow (T:=[3]) m9 hc Do) Do
    have q2:=m9.below b6 (Qa hc)
    have w6:=h3.trans (Zd.of_updRow m9 hc Do)
    have f7:=m9.blk d2 (Xd d2 hc Do)
    have g8:=m9.blk b0 (Xd b0 hc Do)
    exact ze 2 (p1 _ _ _ ⟨i2+1,rfl,rfl,q2,w6,f7,g8,bb,z5,ai,by omega⟩ M0)
   refine xwm 5 ((i2:Int)+1) (↑(i2+1):Int) ?_
   exact ze 2 (p1 _ _ _ ⟨i2+1,rfl,rfl,b6,h3,d2,b0,(by rw[Oq M0];exact hc),hR,hJ,by omega⟩ M0)
  have ad:i2=twK x (Z.map Prod.fst)+1:=by omega
  have p4:=hc
  rw[ad] at p4
  obtain⟨y3,v2,v6,v3⟩:=hR
  refine xc 9 (args:=#[P0 bc,.slice (S1 g) k k]) (by have q:=Fc B bc bm pg N cg y3 v2 v6 1 (twK x (Z.map Prod.fst)) p k cI (twD x (Z.map Prod.fst) k).2.2 (S1 g) k (twC x (Z.map Prod.fst) k) _ v3 (by rw[Vu];exact Ze p4) (by rw[Vu];omega) (Lk M0 M0) (Vu _ _ _) (by rw[Ai M0];omega) M0 Do (by rw[M3 1];exact Ez M0 (Zaq _ _)) hJ (N0 hBw b6.size);rw[Vu] at q;exact q) ?_
  rintro _ dr ⟨ca,bx,bs,rfl,s7,o1,_,hJ⟩
  have c2:=b0.only o1 Do
  refine xs 5 c2 [V0 t,V0 u,V0 v,V0 (x:Int),V0 (k:Int),V0 (↑(Xm (G1 (Z.map Prod.fst))):Int),V0 (↑(Xm (G2 (Z.map Prod.fst))):Int),V0 ((twD x (Z.map Prod.fst) k).1),V0 ((twD x (Z.map Prod.fst) k).2.1),V0 ((twM x (Z.map Prod.fst) k).1),V0 0] fun dw u4 az=>?_
  refine xs 1 az [V0 t,V0 u,V0 v,V0 (x:Int),V0 (k:Int),V0 (↑(Xm (G1 (Z.map Prod.fst))):Int),V0 (↑(Xm (G2 (Z.map Prod.fst))):Int),V0 ((twD x (Z.map Prod.fst) k).1),V0 ((twD x (Z.map Prod.fst) k).2.1),V0 ((twM x (Z.map Prod.fst) k).1),V0 ((twM x (Z.map Prod.fst) k).2.1)] fun eu u9 cc=>?_
  refine xlv 4 cc.rp ?_
  refine xc 0 (args:=#[.agg #[V0 t,V0 u,V0 v,V0 (x:Int),V0 (k:Int),V0 (↑(Xm (G1 (Z.map Prod.fst))):Int),V0 (↑(Xm (G2 (Z.map Prod.fst))):Int),V0 ((twD x (Z.map Prod.fst) k).1),V0 ((twD x (Z.map Prod.fst) k).2.1),V0 ((twM x (Z.map Prod.fst) k).1),V0 ((twM x (Z.map Prod.fst) k).2.1)]]) (Fk t u v x k (Z.map Prod.fst) _ bf) ?_
  rintro _ db ⟨_,rfl,m6,q7,d7,rfl,ap⟩
  have z0:=(u9.below (u4.below (b6.trans s7) (N0 hBw g2)) (N0 hBw g2)).size
  have r8:=Zf ap z0
  have z3:=((hJ.only (Zd.of_upd (T:=[54]) u4 c2 Do) Do).only (Zd.of_upd (T:=[54]) u9 az Do) Do).below m6
  have j9:=blB (u9.below (u4.below (b6.trans s7) (N0 hBw g2)) (N0 hBw g2)) hBw m6
  refine xc 10 (args:=#[P0 bm,V0 0,V0 1,.slice q7 244 d7]) (Uy B bm p k cI (twM x (Z.map Prod.fst) k).2.2 q7 d7 (Zcm (twS t u v x (Z.map Prod.fst) k)) _ z3 (Ze r8) (Co _) M0 (N0 hBw j9.size)) ?_
  rintro _ dd ⟨vw,rfl,x2,ar,y1⟩
  have n6:=j9.trans x2
  have af:=((Zd.upd_new (Zd.upd_new (h3.trans (o1.wide Do)) u4 g2) u9 g2).trans (Zd.of_below m6)).trans (ar.wide Do)
  exact xe 1 (.tuple #[]) ⟨rfl,n6,af,y1⟩
 refine xa 0 [V0 0,V0 0,V0 0,V0 0,V0 0,V0 0,V0 0,V0 0,V0 0,V0 0,V0 0] 54 fun u7 ej d5=>?_
 have s6:=m2.below d5.below
 refine xl (.o [] 11) (s6.blk.cell (i:=0) rfl) ?_
 have b4:=d5.ge0 (blB (blB (Below.refl B w) hBw n1.below) hBw (Zb W1))
 refine ysv (.o [12,13] 15) d5.blk [V0 t,V0 u,V0 v,V0 (x:Int),V0 (k:Int),V0 0,V0 0,V0 0,V0 0,V0 0,V0 0] (.t B [189,9,3,124,54]) fun dt l0 cl=>⟨(Xb l0 d5.blk (N0 hBw b4) Do),?_⟩
 have x9:=l0.own2 (Za (Za (Za hc n1.below) (Zb W1)) d5.below) d5.blk Do
 have o0:=l0.own2 (Za (Za (Za hro n1.below) (Zb W1)) d5.below) d5.blk Do
 have w8:=(((hR.below n1.below).below (Zb W1)).below d5.below).only (Zd.of_upd (T:=[54]) l0 d5.blk Do) Do
 have p6:=s6.only (Zd.of_upd (T:=[54]) l0 d5.blk Do) Do
 have hB:=l0.below (blB (blB (blB (Below.refl B w) hBw n1.below) hBw (Zb W1)) hBw d5.below) (N0 hBw b4)
 have hO:=(Zd.upd_new (((show Zd [189,9,3,124] w _ from(Zd.of_below n1.below)).trans (Zd.of_below (Zb W1))).trans (Zd.of_below d5.below)) l0 b4)
 have v7:=l0.blkT (k1.below d5.below) d5.blk Do
 refine zl 15 119 (fun zm l8 V=>∃ (i:Nat) (p7:O0) (c7:Nat) (p8:O0) (c8:Nat),l8=[(0,P0 bm),(1,P0 bc),(3,.slice rp n rc),(4,.slice (S1 g) k k),(7,P0 b1),(10,P0 u7),(11,.slice p7 i c7),(12,.slice p8 i c8),(13,V0 (i:Int))]∧zm=n-((i:Int)).toNat∧Below B w V∧Zd [189,9,3,124] w V∧Blk V b1 ([V0 t,V0 u,V0 v,V0 (x:Int),.slice pd n cd]) 24∧Blk V u7 ([V0 t,V0 u,V0 v,V0 (x:Int),V0 (k:Int),V0 0,V0 0,V0 0,V0 0,V0 0,V0 0]) 54∧V.ownsRow w.heap.size 124 3 (.slice p7 i c7) i (((Gc (Z.map Prod.fst) (twR (Z.map Prod.fst))).take i).flatMap Yo)∧V.ownsRow w.heap.size 124 3 (.slice p8 i c8) i (((Hy (Z.map Prod.fst) (Kc (Z.map Prod.fst))).take i).flatMap Yo)∧V.ownsRow B 3 1 (.slice rp n rc) n (((List.range n).map (twR (Z.map Prod.fst))).map nv)∧V.ownsRow B 3 1 (.slice (S1 g) k k) k ((Ue (Z.map Prod.fst) 0 k).map V0)∧La B bc bm pg N cg (Xm (twT (Z.map Prod.fst) (Z.map Prod.fst).length)) V∧RefI B bm p k cI (Fo (twT (Z.map Prod.fst) (Z.map Prod.fst).length) 1 (List.replicate (k*256) (0:UInt8))) V∧i≤n∧Yf (.slice p7 i c7) (.slice p8 i c8)) ⟨0,none,0,none,0,rfl,rfl,hB,hO,v7,cl,A4 _ _ _ _,A4 _ _ _ _,o0,(by rw[←bh];exact x9),w8,p6,A3 _,Yf.nil _⟩ ?_
 rintro _ _ i0 ⟨i,p7,c7,p8,c8,rfl,rfl,f2,j7,d6,e6,e0,d1,hro,hc,hR,hJ,hi,d3⟩ dj z4 dz
 refine xb 5 4 d6 ?_
 refine xid 4 ((i:Int)<(n:Int)) (fun w9=>?_) (fun w9=>?_)
 ·have i8:=Rn (Z:=Z) (i:=i) M0 dvD
  have y7:=He (L:=(Z.map Prod.fst)) (i:=i) M0
  rw[i8] at y7
  have w0:=hk.devs.sum
  have h5:=hk.devs.each ((Z.map Prod.fst).getD i dvD) (Md _ M0)
  rw[i8] at h5
  have bw:=Ec (L:=(Z.map Prod.fst)) (i:=i) M0
  have bn:=Vn (Z.map Prod.fst) (show i+1≤(Z.map Prod.fst).length by omega)
  refine xd 5 (.t B [189,9,3,124]) ?_
  have c9:=d6.below (Zb i0)
  refine xbt (.e [0,1] 2) 4 B [189,9,3,124] c9 ?_
  refine xx (.e [3] 4) _ n i 5 ((hP _ (Below.refl _ _)).someN hZ (i:=i) M0) ?_
  have k0:=blB f2 hBw (Zb i0)
  have t5:=j7.trans (Zd.of_below (Zb i0))
  refine xlt (.e [5] 6) (.t B [189,9,3,124]) (fun V hV=>(Sts.cell (v0 _ (Vm k0 hV hBw) (t5.trans hV.2)).row Xs zvD (k:=i) (i:=0) M0 rfl).2) ?_
  have g0:=Za hro (Zb i0)
  refine xx (.e [7,8] 9) _ n i 1 (Xh (Ze g0) (i:=i) M0).1 ?_
  refine xl (.o [] 10) ((Xh (Ze g0) (i:=i) M0).2) ?_
  refine xr (.o [] 11) (args:=#[V0 (↑(twR (Z.map Prod.fst) i):Int)]) (Ct (↑(twR (Z.map Prod.fst) i):Int) _ ⟨by omega,by omega⟩) fun en a8=>?_
  refine xbs (.o [12] 13) 1 [V0 ((Z.getD i zvD).1.1.1),.string ⟨(leB (↑(twR (Z.map Prod.fst) i):Int) 4).toArray⟩,V0 0] 124 fun cs ex e1=>?_
  have l2:=blB k0 hBw a8
  have eo:=e1.ge0 l2
  have f8:=Za (Za e0 (Zb i0)) a8
  have r1:=Zg f8 e1
  have f3:=Za (Za d1 (Zb i0)) a8
  have n8:=Zg f3 e1
  have a2:=Za f8 e1.below
  have k9:=blB l2 hBw e1.below
  refine ybi (.o [] 14) (.t B [189,9,3,124]) fun _ _ _ _ zJ zQ zo zx zy zK=>Xi (b:=cs) (c:=1) (m:=1) (news:=[V0 ((Z.getD i zvD).1.1.1),.string ⟨(leB (↑(twR (Z.map Prod.fst) i):Int) 4).toArray⟩,V0 0]) (.agg #[V0 0,.string ⟨#[]⟩,V0 0]) 3 32 (i+1) ((((Gc (Z.map Prod.fst) (twR (Z.map Prod.fst))).take (i+1)).flatMap Yo)) zo Tryz.underlying99 K0 rfl Do zx a2 zy e1.blk rfl (by simp[Value.oneCell']) (by unfold maxLen;omega) M0 k9.size (by rfl) (by have e:=Jo (L:=(Z.map Prod.fst)) (R:=twR (Z.map Prod.fst)) (i:=i) M0;rw[i8] at e;exact Ug (by rw[Ys];omega) e) fun bt cm ew cj b3 s2 z8=>?_
  have f6:=Za f3 e1.below
  have g3:=d3.row f6 b3
  replace d3:=(d3.grow f6 z8)
  have j1:=g3
  refine zK _ _ (Zt (s2.mono hBw) b3 a2 Do) ?_
  have c4:=((c9.below a8).below e1.below).grown b3 a2 Do
  refine xb (.r [15] 5) 4 c4 ?_
  refine xx 1 _ n i 5 ((hP _ (Below.refl _ _)).someN hZ (i:=i) M0) ?_
  have l1:=k9.trans (s2.mono hBw)
  have r9:=(Zd.grown_new ((t5.trans (Zd.of_below a8)).trans (Zd.of_below e1.below)) b3 a2)
  refine xlv 0 (Sts.rp (k:=i) (v0 _ l1 r9).row Xs zvD M0 Do) ?_
  refine xr 0 (args:=#[.agg #[V0 ((Z.getD i zvD).1.1.1),V0 ((Z.getD i zvD).1.1.2.1),V0 ((Z.getD i zvD).1.1.2.2.1),V0 ((Z.getD i zvD).1.1.2.2.2),.slice ((Z.getD i zvD).2.1) ((Z.getD i zvD).1.2.length) ((Z.getD i zvD).2.2)]]) (Ls (Z.getD i zvD) (x:Int) _ h5 M0) fun ee a7=>?_
  refine xbs 0 1 [V0 ((Z.getD i zvD).1.1.1),.string ⟨(Kt (↑(Z.getD i zvD).1.2.length:Int) (Z.getD i zvD).1).toArray⟩,V0 0] 124 fun bo fa e4=>?_
  have k5:=blB l1 hBw a7
  have dq:=e4.ge0 k5
  have h4:=Za j1 a7
  have q4:=Zg h4 e4
  have k7:=Za cj a7
  have u6:=Zg k7 e4
  have a4:=Za h4 e4.below
  have j8:=blB k5 hBw e4.below
  refine xbi 0 fun _ _ _ _ zJ zQ zo zx zy zK=>Xi (b:=bo) (c:=1) (m:=1) (news:=[V0 ((Z.getD i zvD).1.1.1),.string ⟨(Kt (↑(Z.getD i zvD).1.2.length:Int) (Z.getD i zvD).1).toArray⟩,V0 0]) (.agg #[V0 0,.string ⟨#[]⟩,V0 0]) 3 32 (i+1) ((((Hy (Z.map Prod.fst) (Kc (Z.map Prod.fst))).take (i+1)).flatMap Yo)) zo Tryz.underlying99 K0 rfl Do zx a4 zy e4.blk rfl (by simp[Value.oneCell']) (by unfold maxLen;omega) M0 j8.size (by rfl) (by have e:=Jm (L:=(Z.map Prod.fst)) (C:=Kc (Z.map Prod.fst)) (i:=i) M0;unfold Kc at e;rw[i8] at e;exact Ug (by rw[Yv];omega) e) fun cb ct dv cr c1 x8 y0=>?_
  have k2:=Za k7 e4.below
  have i9:=d3.symm.row k2 c1
  replace d3:=(d3.symm.grow k2 y0).symm
  have l3:=i9
  refine zK _ _ ?_
  refine xwm 6 ((i:Int)+1) (↑(i+1):Int) ?_
  have o3:=Zp (Za (Za (Zp (Za (Za g0 a8) e1.below) b3 a2 Do) a7) e4.below) c1 a4 Do
  have y6:=Zp (Za (Za (Zp (Za (Za (Za hc (Zb i0)) a8) e1.below) b3 a2 Do) a7) e4.below) c1 a4 Do
  have x3:=((((((hR.below (Zb i0)).below a8).below e1.below).only (Zd.of_grown (T:=[124]) b3 a2 Do) Do).below a7).below e4.below).only (Zd.of_grown (T:=[124]) c1 a4 Do) Do
  have o2:=((((((hJ.below (Zb i0)).below a8).below e1.below).only (Zd.of_grown (T:=[124]) b3 a2 Do) Do).below a7).below e4.below).only (Zd.of_grown (T:=[124]) c1 a4 Do) Do
  have q6:=j8.trans (x8.mono hBw)
  have x4:=(Zd.grown_new ((r9.trans (Zd.of_below a7)).trans (Zd.of_below e4.below)) c1 a4)
  have g9:=((c4.below a7).below e4.below).grown c1 a4 Do
  have e8:=((((((e6.below (Zb i0)).below a8).below e1.below).grown b3 a2 Do).below a7).below e4.below).grown c1 a4 Do
  exact ze 2 (z4 _ _ _ ⟨i+1,_,_,_,_,rfl,rfl,q6,x4,g9,e8,l3,cr,o3,y6,x3,o2,by omega,d3⟩ M0)
 have ci:i=n:=by omega
 rw[A1 (by rw[Ys];omega)] at e0
 rw[A1 (by rw[Yv];omega)] at d1
 refine xc 9 (args:=#[P0 bc,V0 1,.slice p7 i c7]) (De B bc bm pg N cg p k cI (List.replicate (k*256) (0:UInt8)) (twT (Z.map Prod.fst) (Z.map Prod.fst).length) 1 p7 c7 i (Gc (Z.map Prod.fst) (twR (Z.map Prod.fst))) _ (by rw[Ys];omega) hR hJ (Zjb hk.devs) (show Xm (G1 (Z.map Prod.fst))≤N by omega) M0 (fun W _ h2=>Ze (Zi e0 h2 Do)) (N0 hBw f2.size)) ?_
 rintro _ el ⟨rfl,av,f4,hR,hJ⟩
 have a0:=e6.only f4 Do
 refine xs 4 a0 [V0 t,V0 u,V0 v,V0 (x:Int),V0 (k:Int),V0 (↑(Xm (G1 (Z.map Prod.fst))):Int),V0 0,V0 0,V0 0,V0 0,V0 0] fun df l9 cu=>?_
 have j2:=l9.own2 (Zi d1 f4 Do) a0 Do
 have ag:=hR.only (Zd.of_upd (T:=[54]) l9 a0 Do) Do
 have n5:=hJ.only (Zd.of_upd (T:=[54]) l9 a0 Do) Do
 have f1:=l9.below (f2.trans av) (N0 hBw b4)
 refine xc 6 (args:=#[P0 bc,V0 3,.slice p8 i c8]) (De B bc bm pg N cg p k cI (List.replicate (k*256) (0:UInt8)) (G1 (Z.map Prod.fst)) 3 p8 c8 i (Hy (Z.map Prod.fst) (Kc (Z.map Prod.fst))) _ (by rw[Yv];omega) ag n5 (Zj1 hk.devs) (show Xm (G2 (Z.map Prod.fst))≤N by omega) M0 (fun W _ h2=>Ze (Zi j2 h2 Do)) (N0 hBw f1.size)) ?_
 rintro _ ed ⟨rfl,p9,j4,hR,hJ⟩
 have b8:=cu.only j4 Do
 refine xs 4 b8 [V0 t,V0 u,V0 v,V0 (x:Int),V0 (k:Int),V0 (↑(Xm (G1 (Z.map Prod.fst))):Int),V0 (↑(Xm (G2 (Z.map Prod.fst))):Int),V0 0,V0 0,V0 0,V0 0] fun dm m3 cp=>?_
 have b5:=m3.blkT ((l9.blkT (d6.only f4 Do) a0 Do).only j4 Do) b8 Do
 refine xlv 5 b5.rp ?_
 have j6:=m3.below (f1.trans p9) (N0 hBw b4)
 refine xc 0 (args:=#[.agg #[V0 t,V0 u,V0 v,V0 (x:Int),.slice pd n cd]]) (Lb pd cd n x t u v Z _ hZ (hP _ j6) hk) ?_
 rintro _ dc ⟨_,rfl,d4,q9,d9,rfl,ae⟩
 have x1:=(m3.below (f1.trans p9) (N0 hBw b4)).size
 have s1:=Zf ae x1
 have r7:=(hR.only (Zd.of_upd (T:=[54]) m3 b8 Do) Do).below d4
 have t3:=(hJ.only (Zd.of_upd (T:=[54]) m3 b8 Do) Do).below d4
 obtain⟨y4,w5,w2,v8⟩:=r7
 have k4:=blB j6 hBw d4
 refine xc 0 (args:=#[P0 bc,.slice q9 x d9]) (by have q:=Fi B bc bm pg N cg y4 w5 w2 1 (Xm (G2 (Z.map Prod.fst))) p k cI (twB1 (Z.map Prod.fst) k) q9 d9 (Yl x (Z.map Prod.fst)) _ v8 (by rw[Yy];have q:=Ze s1;rw[←Zbl] at q;exact q) (by rw[Yy];omega) (by rw[Wd];have:=Wr hk.devs;omega) (Pk M0 hk.devs) M0 M0 Do M0 t3 (N0 hBw k4.size);rw[Yy] at q;exact q) ?_
 rintro _ dk ⟨co,bq,cn,rfl,w7,i1,w3,hJ⟩
 have hR:La B bc bm pg N cg (twK x (Z.map Prod.fst)) _:=⟨_,_,_,w3⟩
 have c0:=(cp.below d4).only i1 Do
 refine xs 5 c0 [V0 t,V0 u,V0 v,V0 (x:Int),V0 (k:Int),V0 (↑(Xm (G1 (Z.map Prod.fst))):Int),V0 (↑(Xm (G2 (Z.map Prod.fst))):Int),V0 ((twD x (Z.map Prod.fst) k).1),V0 0,V0 0,V0 0] fun er n0 q5=>?_
 refine xs 1 q5 [V0 t,V0 u,V0 v,V0 (x:Int),V0 (k:Int),V0 (↑(Xm (G1 (Z.map Prod.fst))):Int),V0 (↑(Xm (G2 (Z.map Prod.fst))):Int),V0 ((twD x (Z.map Prod.fst) k).1),V0 ((twD x (Z.map Prod.fst) k).2.1),V0 0,V0 0] fun ei n4 bu=>?_
 have aa:=n4.own2 (n0.own2 (Zi (Za (m3.own2 (Zi (l9.own2 (Zi hc f4 Do) a0 Do) j4 Do) b8 Do) d4) i1 Do) c0 Do) q5 Do
 have p5:=(hR.only (Zd.of_upd (T:=[54]) n0 c0 Do) Do).only (Zd.of_upd (T:=[54]) n4 q5 Do) Do
 have o6:=(hJ.only (Zd.of_upd (T:=[54]) n0 c0 Do) Do).only (Zd.of_upd (T:=[54]) n4 q5 Do) Do
 have q0:=n4.below (n0.below (k4.trans w7) (N0 hBw b4)) (N0 hBw b4)
 have o9:=(Zd.upd_new (Zd.upd_new (((Zd.upd_new ((Zd.upd_new (j7.trans (f4.wide Do)) l9 b4).trans (j4.wide Do)) m3 b4).trans (Zd.of_below d4)).trans (i1.wide Do)) n0 b4) n4 b4)
 have h6:=n4.blkT (n0.blkT ((b5.below d4).only i1 Do) c0 Do) q5 Do
 refine zl 9 119 (fun zm l8 V=>∃ (i2:Nat),l8=[(0,P0 bm),(1,P0 bc),(4,.slice (S1 g) k k),(10,P0 u7),(14,V0 (i2:Int))]∧zm=twK x (Z.map Prod.fst)+1-((i2:Int)).toNat∧Below B w V∧Zd [189,9,3,124] w V∧Blk V b1 ([V0 t,V0 u,V0 v,V0 (x:Int),.slice pd n cd]) 24∧Blk V u7 ([V0 t,V0 u,V0 v,V0 (x:Int),V0 (k:Int),V0 (↑(Xm (G1 (Z.map Prod.fst))):Int),V0 (↑(Xm (G2 (Z.map Prod.fst))):Int),V0 ((twD x (Z.map Prod.fst) k).1),V0 ((twD x (Z.map Prod.fst) k).2.1),V0 0,V0 0]) 54∧V.ownsRow B 3 1 (.slice (S1 g) k k) k ((Ue (Z.map Prod.fst) i2 k).map V0)∧La B bc bm pg N cg (twK x (Z.map Prod.fst)) V∧RefI B bm p k cI (twD x (Z.map Prod.fst) k).2.2 V∧i2≤twK x (Z.map Prod.fst)+1) ⟨0,rfl,rfl,q0,o9,h6,bu,aa,p5,o6,A3 _⟩ ?_
 rintro _ _ ec ⟨i2,rfl,rfl,c5,f0,d0,a6,hc,hR,hJ,cf⟩ et s4 eb
 refine xl 7 hR.used ?_
 refine xid 3 ((i2:Int)≤(↑(twK x (Z.map Prod.fst)):Int)) (fun y8=>?_) (fun y8=>?_)
 ·refine xx 8 _ k i2 1 (show(some (⟨g,0,none⟩:Addr)).isSome=true from rfl) ?_
  refine xl 0 (Dx (Ze hc) (m:=i2) M0) ?_
  refine xie 3 (↑(rcF (Z.map Prod.fst) i2):Int) (0:Int) (fun v5=>?_) (fun v5=>?_)
  ·refine xx 3 _ k i2 1 (show(some (⟨g,0,none⟩:Addr)).isSome=true from rfl) ?_
   refine xst 0 fun _ _ _ _ zJ zQ zo zx zy zK=>Xk (t:=3) (k:=i2) (v:=V0 1) zo zx zy K0 rfl hc M0 fun ds m7 bi=>?_
   rw[(Ie (L:=(Z.map Prod.fst)) (m:=i2) (k:=k) M0 M0)] at bi
   refine zK _ _ ?_
   refine xwm 5 ((i2:Int)+1) (↑(i2+1):Int) ?_
   have t8:=hR.upd hpg m7 hc
   have o4:=hJ.only (Zd.of_updRow (T:=[3]) m7 hc Do) Do
   have t2:=m7.below c5 (Qa hc)
   have t9:=f0.trans (Zd.of_updRow m7 hc Do)
   have f5:=m7.blk d0 (Xd d0 hc Do)
   have e9:=m7.blk a6 (Xd a6 hc Do)
   exact ze 2 (s4 _ _ _ ⟨i2+1,rfl,rfl,t2,t9,f5,e9,bi,t8,o4,by omega⟩ M0)
  refine xwm 5 ((i2:Int)+1) (↑(i2+1):Int) ?_
  exact ze 2 (s4 _ _ _ ⟨i2+1,rfl,rfl,c5,f0,d0,a6,(by rw[Oq M0];exact hc),hR,hJ,by omega⟩ M0)
 have ad:i2=twK x (Z.map Prod.fst)+1:=by omega
 have p4:=hc
 rw[ad] at p4
 obtain⟨y3,v2,v6,v3⟩:=hR
 refine xc 9 (args:=#[P0 bc,.slice (S1 g) k k]) (by have q:=Fc B bc bm pg N cg y3 v2 v6 1 (twK x (Z.map Prod.fst)) p k cI (twD x (Z.map Prod.fst) k).2.2 (S1 g) k (twC x (Z.map Prod.fst) k) _ v3 (by rw[Vu];exact Ze p4) (by rw[Vu];omega) (Lk M0 M0) (Vu _ _ _) (by rw[Ai M0];omega) M0 Do (by rw[M3 1];exact Ez M0 (Zaq _ _)) hJ (N0 hBw c5.size);rw[Vu] at q;exact q) ?_
 rintro _ eq ⟨ca,bx,bs,rfl,p0,u0,_,hJ⟩
 have a9:=a6.only u0 Do
 refine xs 5 a9 [V0 t,V0 u,V0 v,V0 (x:Int),V0 (k:Int),V0 (↑(Xm (G1 (Z.map Prod.fst))):Int),V0 (↑(Xm (G2 (Z.map Prod.fst))):Int),V0 ((twD x (Z.map Prod.fst) k).1),V0 ((twD x (Z.map Prod.fst) k).2.1),V0 ((twM x (Z.map Prod.fst) k).1),V0 0] fun ek u5 bd=>?_
 refine xs 1 bd [V0 t,V0 u,V0 v,V0 (x:Int),V0 (k:Int),V0 (↑(Xm (G1 (Z.map Prod.fst))):Int),V0 (↑(Xm (G2 (Z.map Prod.fst))):Int),V0 ((twD x (Z.map Prod.fst) k).1),V0 ((twD x (Z.map Prod.fst) k).2.1),V0 ((twM x (Z.map Prod.fst) k).1),V0 ((twM x (Z.map Prod.fst) k).2.1)] fun dl v1 cq=>?_
 refine xlv 4 cq.rp ?_
 refine xc 0 (args:=#[.agg #[V0 t,V0 u,V0 v,V0 (x:Int),V0 (k:Int),V0 (↑(Xm (G1 (Z.map Prod.fst))):Int),V0 (↑(Xm (G2 (Z.map Prod.fst))):Int),V0 ((twD x (Z.map Prod.fst) k).1),V0 ((twD x (Z.map Prod.fst) k).2.1),V0 ((twM x (Z.map Prod.fst) k).1),V0 ((twM x (Z.map Prod.fst) k).2.1)]]) (Fk t u v x k (Z.map Prod.fst) _ bf) ?_
 rintro _ du ⟨_,rfl,l6,q7,d7,rfl,ap⟩
 have w4:=(v1.below (u5.below (c5.trans p0) (N0 hBw b4)) (N0 hBw b4)).size
 have s8:=Zf ap w4
 have s0:=((hJ.only (Zd.of_upd (T:=[54]) u5 a9 Do) Do).only (Zd.of_upd (T:=[54]) v1 bd Do) Do).below l6
 have j5:=blB (v1.below (u5.below (c5.trans p0) (N0 hBw b4)) (N0 hBw b4)) hBw l6
 refine xc 10 (args:=#[P0 bm,V0 0,V0 1,.slice q7 244 d7]) (Uy B bm p k cI (twM x (Z.map Prod.fst) k).2.2 q7 d7 (Zcm (twS t u v x (Z.map Prod.fst) k)) _ s0 (Ze s8) (Co _) M0 (N0 hBw j5.size)) ?_
 rintro _ ez ⟨vw,rfl,ak,y5,y1⟩
 have r0:=j5.trans ak
 have r5:=((Zd.upd_new (Zd.upd_new (f0.trans (u0.wide Do)) u5 b4) v1 b4).trans (Zd.of_below l6)).trans (y5.wide Do)
 exact xe 1 (.tuple #[]) ⟨rfl,r0,r5,y1⟩
theorem blk_zero{k i:Nat}(h:i<k):Sv (List.replicate (k*256) (0:UInt8)) i=List.replicate 256 0:=by
 unfold Sv
 rw[List.drop_replicate,List.take_replicate]
 congr 1
 omega
theorem Zff(k:Nat)(w:World)(hk:k≤14400) :
 C0 49 #[V0 (k:Int)] w (Qo (fun w' r=>∃ bm p c,r=.tuple #[P0 bm,V0 0]∧w.heap.size≤bm∧RefI w.heap.size bm p k c (List.replicate (k*256) (0:UInt8)) w') w):=by
 refine zin 33 Tryz.func49 ?_
 refine xgk 12 [8,9] (show(decide ((k:Int)<(0:Int)):Bool)=false from decide_eq_false M0) ?_
 refine xk 5 (show(decide ((k:Int)>(14400:Int)):Bool)=false from decide_eq_false M0) ?_
 refine xa 5 [S0] 111 fun b2 W2 n2=>?_
 refine xmk 5 fun _ _ _ _ zJ zQ zo zx zy zK=>Kf 256 (.int .u8 0) 1 1 ((List.replicate 256 (0:UInt8)).map bv) zo zx zy Tryz.underlying50 K0 rfl M0 M0 ((Ea 256)) fun b3 W3 n3=>?_
 refine zK _ _ ?_
 have o3:=Zz (size:=1) (n:=256) n3.blk (n3.ge n2.below) (by rw[At,A7]) (by unfold maxLen;omega)
 refine Zj5 0 (fun _ _ _ zo zx=>Yt zo zx (Ya (Ze o3) A7) A7 Tryz.underlying50 Tryz.underlying5 Tryz.underlying9) ?_
 have hB:=bln n2.below n3.below
 have k2:=n2.blk.below n3.below
 refine zl 10 33 (fun zm b5 V=>∃ (i:Nat) (p:O0) (cp:Nat),b5=[(0,V0 (k:Int)),(2,.pointer none),(3,V0 0),(4,P0 b2),(5,.string ⟨(List.replicate 256 (0:UInt8)).toArray⟩),(6,V0 (i:Int))]∧zm=k-((i:Int)).toNat∧B3 w V∧Blk V b2 ([.slice p i cp]) 111∧V.ownsRow w.heap.size 9 1 (.slice p i cp) i ((Ur (List.replicate (k*256) (0:UInt8)) i).map sv)∧i≤k) ⟨0,none,0,rfl,rfl,hB,k2,A4 _ _ _ _,A3 _⟩ ?_
 rintro _ _ W4 ⟨i,p,cp,rfl,rfl,a2,a1,ho,hi⟩ J4 b0 r4
 refine xid 8 ((i:Int)<(k:Int)) (fun a9=>?_) (fun a9=>?_)
 ·refine xb 9 0 a1 ?_
  refine xbs 1 1 [.string ⟨(List.replicate 256 (0:UInt8)).toArray⟩] 9 fun b6 W6 n6=>?_
  have g6:=n6.ge a2
  have a7:=Zg ho n6
  have a3:=Za ho n6.below
  have a4:=bln a2 n6.below
  refine xbi 0 fun _ _ _ _ zJ zQ zo zx zy zK=>Zr (m:=1) (news:=[.string ⟨(List.replicate 256 (0:UInt8)).toArray⟩]) (.string ⟨#[]⟩) 1 16 (i+1) ((Ur (List.replicate (k*256) (0:UInt8)) (i+1)).map sv) zo Tryz.underlying109 K0 rfl Do zx a3 zy (n6.blk.sl 1 1 Do Do) rfl (by simp[Value.oneCell']) (by unfold maxLen;omega) M0 a4.size (by rfl) (by rw[Ze1,A9,blk_zero M0];rfl) fun b7 b1 W7 o7 b4 a8=>?_
  refine zK _ _ ?_
  have a0:=(a1.below n6.below).grown b4 a3 Do
  refine xs 2 a0 [.slice b7 (i+1) b1] fun W8 u8 k8=>?_
  have g2:=n2.ge (B4 w)
  refine xwm 5 ((i:Int)+1) (↑(i+1):Int) ?_
  have a6:=u8.below (a4.trans a8) g2
  have a5:=u8.own2 o7 a0 Do
  exact ze 2 (b0 _ _ _ ⟨i+1,_,_,rfl,rfl,a6,k8,a5,by omega⟩ M0)
 have g2:=n2.ge (B4 w)
 exact xe 13 (.tuple #[P0 b2,V0 0]) (by obtain rfl:i=k:=M0;exact⟨_,rfl,a2,_,_,_,rfl,g2,a1,ho,hk,A7⟩)
def RFromP(bm K:Nat)(L:List Int)(w:World)(e:Ending)(w':World):Prop :=
 (Bu K L≠0∧e=.returned (.tuple #[.pointer none,.agg #[S0,V0 (Bu K L)]])∧B3 w w') ∨
 (Bu K L=0∧∃ bc pg cg,e=.returned (.tuple #[P0 bc,.agg #[S0,V0 0]])∧B3 w w'∧RAl w.heap.size bc bm pg L.length cg pg L.length cg 0 L w')
theorem ref_From(bm:Nat)(p:O0)(K c:Nat)(aL:O0)(cL:Nat)(L:List Int)(w:World)(hk:Blk w bm [.slice p K c] 111)(hK:K≤14400)(h:Sl w (.slice aL L.length cL) L.length (L.map V0))(hLn:L.length≤1000000) :
 C0 103 #[P0 bm,.slice aL L.length cL] w (RFromP bm K L w):=by
 refine zin 56 Tryz.func103 ?_
 refine xa 3 [S0,V0 0] 44 fun b1 W1 n1=>?_
 have c8:=hk.below n1.below
 refine zl 9 56 (fun zm c5 V=>∃ (i:Nat),c5=[(0,P0 bm),(1,.slice aL L.length cL),(5,P0 b1),(6,V0 (i:Int))]∧zm=L.length-((i:Int)).toNat∧B3 w V∧Blk V bm ([.slice p K c]) 111∧Blk V b1 ([S0,V0 0]) 44∧i≤L.length∧(∀ x,x<i→1≤L.getD x 0∧L.getD x 0<(K:Int))) ⟨0,rfl,rfl,n1.below,c8,n1.blk,A3 _,?_⟩ ?_
 ·exact fun x hx=>absurd hx M0
 rintro _ _ W2 ⟨i,rfl,rfl,b9,b5,a2,hi,hz⟩ J2 e7 r2
 refine xid 9 ((i:Int)<(L.length:Int)) (fun e2=>?_) (fun e2=>?_)
 ·refine xd 5 .z ?_
  refine xx (.e [0,1] 2) _ L.length i 1 (Ints.elem h (k:=i) M0).1 ?_
  have a4:=bln b9 (Zb W2)
  refine xl (.e [] 3) ((Ints.elem (h.below a4) (k:=i) M0).2) ?_
  refine xg (.b [4,5]) [18,19] (decide ((L.getD i 0)<(1:Int))) (fun c0=>?_) (fun c0=>?_)
  ·have c0:=of_decide_eq_true c0
   have a7:=a2.below (Zb W2)
   refine xsv (.r [6,7,8,9,10,11,12,13,14,15,16] 7) a7 [S0,V0 1] fun W5 u5 k5=>?_
   have g1:=n1.ge (B4 w)
   have d2:=u5.below a4 g1
   refine xec 8 k5 (.tuple #[.pointer none,.agg #[S0,V0 1]]) ?_
   have he:Bu K L=1:=by unfold Bu;rw[Ff (j:=i) M0 M0];rfl
   exact .inl ⟨by rw[he];decide,by rw[he],d2⟩
  have c0:=of_decide_eq_false c0
  refine xx (.e [6,7] 8) _ L.length i 1 (Ints.elem h (k:=i) M0).1 ?_
  refine xl (.e [] 9) ((Ints.elem (h.below a4) (k:=i) M0).2) ?_
  have a1:=b5.below (Zb W2)
  refine xb (.e [10,11,12] 13) 0 a1 ?_
  refine xid (.r [14,15,16] 2) ((L.getD i 0)≥(K:Int)) (fun d9=>?_) (fun d9=>?_)
  ·have a5:=a2.below (Zb W2)
   refine xsv 4 a5 [S0,V0 1] fun W7 u7 k7=>?_
   have g1:=n1.ge (B4 w)
   have d0:=u7.below a4 g1
   refine xec 8 k7 (.tuple #[.pointer none,.agg #[S0,V0 1]]) ?_
   have he:Bu K L=1:=by unfold Bu;rw[Ff (j:=i) M0 M0];rfl
   exact .inl ⟨by rw[he];decide,by rw[he],d0⟩
  refine xwm 5 ((i:Int)+1) (↑(i+1):Int) ?_
  have b0:=a2.below (Zb W2)
  exact ze 2 (e7 _ _ _ ⟨i+1,rfl,rfl,a4,a1,b0,by omega,fun x hx=>(C3 x i).elim (hz x) (fun q=>by obtain rfl:x=i:=M0;omega)⟩ M0)
 refine zl 12 56 (fun zm c5 V=>∃ (j:Nat),c5=[(0,P0 bm),(1,.slice aL L.length cL),(5,P0 b1),(7,V0 (j:Int))]∧zm=L.length-((j:Int)).toNat∧B3 w V∧Blk V bm ([.slice p K c]) 111∧Blk V b1 ([S0,V0 0]) 44∧1≤j∧j≤max 1 L.length∧(∀ x,x+1<j→L.getD x 0<L.getD (x+1) 0)) ⟨1,rfl,rfl,b9,b5,a2,A6 _,by omega,?_⟩ ?_
 ·exact fun x hx=>absurd hx M0
 rintro _ _ W8 ⟨j,rfl,rfl,b6,b7,a3,f2,hj,d3⟩ J8 e5 r8
 refine xid 9 ((j:Int)<(L.length:Int)) (fun d5=>?_) (fun d5=>?_)
 ·refine xd 5 .z ?_
  refine xx (.e [0,1] 2) _ L.length j 1 (Ints.elem h (k:=j) M0).1 ?_
  have a8:=bln b6 (Zb W8)
  refine xl (.e [] 3) ((Ints.elem (h.below a8) (k:=j) M0).2) ?_
  refine xwm (.e [4,5] 6) ((j:Int)-1) (↑(j-1):Int) ?_
  refine xx (.e [] 7) _ L.length (j-1) 1 (Ints.elem h (k:=(j-1)) M0).1 ?_
  refine xl (.e [] 8) ((Ints.elem (h.below a8) (k:=(j-1)) M0).2) ?_
  refine xid (.r [9] 2) ((L.getD j 0)≤(L.getD (j-1) 0)) (fun c3=>?_) (fun c3=>?_)
  ·have a9:=a3.below (Zb W8)
   refine xsv 4 a9 [S0,V0 8] fun f3 e0 e8=>?_
   have g1:=n1.ge (B4 w)
   have c7:=e0.below a8 g1
   refine xec 8 e8 (.tuple #[.pointer none,.agg #[S0,V0 8]]) ?_
   have c9:Fv K L=true:=Lf fun x hx=>hz x M0
   have he:Bu K L=8:=by unfold Bu;rw[if_pos c9,Za4 (j:=j-1) M0 (by rw[show j-1+1=j by omega];omega)];rfl
   exact .inl ⟨by rw[he];decide,by rw[he],c7⟩
  refine xwm 5 ((j:Int)+1) (↑(j+1):Int) ?_
  have b3:=b7.below (Zb W8)
  have b2:=a3.below (Zb W8)
  exact ze 2 (e5 _ _ _ ⟨j+1,rfl,rfl,a8,b3,b2,by omega,by omega,fun x hx=>(C3 (x+1) j).elim (d3 x) (fun q=>by obtain rfl:j=x+1:=M0;rw[Nat.add_sub_cancel] at *;omega)⟩ M0)
 refine xb0 8 3 fun f1 e9 c2=>?_
 have d4:=Zz (size:=1) (n:=0) c2.blk (c2.ge b6) rfl Do
 have a6:=bln b6 c2.below
 refine xbi 1 fun _ _ _ _ zJ zQ zo zx zy zK=>Zr (m:=L.length) (news:=L.map V0) (V0 0) 1 8 (L.length) (L.map V0) zo Tryz.underlying27 K0 rfl Do zx d4 zy (h.below a6) (by simp) (Cq L) (by unfold maxLen;omega) M0 a6.size M0 (by rfl) fun e6 e3 f5 e4 c4 c1=>?_
 refine zK _ _ ?_
 refine xa 1 [P0 bm,.slice e6 L.length e3,V0 0] 189 fun d6 f0 b8=>?_
 have a0:=((a3.below c2.below).grown c4 d4 Do).below b8.below
 refine xsv 2 a0 [S0,V0 0] fun f4 c6 d8=>?_
 have g1:=n1.ge (B4 w)
 have d1:=c6.below (bln (a6.trans c1) b8.below) g1
 have d7:=c6.blkT b8.blk a0 Do
 have b4:=c6.own2 (Za e4 b8.below) a0 Do
 have e1:=b8.ge (a6.trans c1)
 refine xec 3 d8 (.tuple #[P0 d6,.agg #[S0,V0 0]]) ?_
 have c9:Fv K L=true:=Lf fun x hx=>hz x M0
 exact .inr ⟨by unfold Bu;rw[if_pos c9,if_pos (Sj fun x hx=>d3 x M0)],_,_,_,rfl,d1,d7,b4,fun hp=>by obtain⟨g,rfl,_⟩:=Qf b4 hp;exact⟨(Zi1 g _).symm,rfl⟩,rfl,rfl,e1,hLn⟩
theorem rng_good{f K:Nat}(h1:1≤f)(h2:f≤K):Fv K (Qn f (K-f))=true:=Lf fun j hj=>by rw[Me] at hj;rw[Gq hj];omega
theorem rng_rise(f N:Nat):Zec (Qn f N)=true:=Sj fun j hj=>by rw[Me] at hj;rw[Gq M0,Gq hj];omega
theorem rng_from{f K:Nat}(h1:1≤f)(h2:f≤K):Bu K (Qn f (K-f))=0:=by unfold Bu;rw[if_pos (rng_good h1 h2),if_pos (rng_rise f _)]
def RNewP(bm f K:Nat)(w:World)(e:Ending)(w':World):Prop :=
 ∃ bc pg cg,e=.returned (.tuple #[P0 bc,.agg #[S0,V0 0]])∧B3 w w'∧RAl w.heap.size bc bm pg (K-f) cg pg (K-f) cg 0 (Qn f (K-f)) w'
theorem Aw(bm:Nat)(p:O0)(f K c N:Nat)(aL:O0)(cL:Nat)(w:World)(hk:Blk w bm [.slice p K c] 111)(hK:K≤14400)(h1:1≤f)(h2:f≤K)(hN:K-f=N)(h:Sl w (.slice aL N cL) N ((Qn f N).map V0)) :
 C0 103 #[P0 bm,.slice aL N cL] w (RNewP bm f K w):=by
 subst hN
 have e:=Me f (K-f)
 have h':Sl w (.slice aL (Qn f (K-f)).length cL) (Qn f (K-f)).length ((Qn f (K-f)).map V0):=by rw[e];exact h
 have hc:=ref_From bm p K c aL cL (Qn f (K-f)) w hk hK h' (by rw[e];omega)
 rw[e] at hc
 refine hc.mono ?_
 rintro q W (⟨h0,_⟩|⟨_,bc,pg,cg,rfl,hb,hA⟩)
 ·exact absurd (rng_from h1 h2) h0
 ·rw[e] at hA
  exact⟨bc,pg,cg,rfl,hb,hA⟩
theorem ref_New(bm:Nat)(p:O0)(f K c:Nat)(w:World)(hk:Blk w bm [.slice p K c] 111)(hK:K≤14400)(h1:1≤f)(h2:f≤K) :
 C0 50 #[P0 bm,V0 (f:Int)] w (RNewP bm f K w):=by
 refine zin 39 Tryz.func50 ?_
 refine xa 3 [S0,V0 0] 44 fun b1 W1 n1=>?_
 refine xgk 8 [9,10] (show(decide ((f:Int)<(1:Int)):Bool)=false from decide_eq_false M0) ?_
 have a7:=hk.below n1.below
 refine xb 4 0 a7 ?_
 refine xk 5 (show(decide ((f:Int)>(K:Int)):Bool)=false from decide_eq_false M0) ?_
 refine zl 15 39 (fun zm b8 V=>∃ (j:Nat) (pl:O0) (cl:Nat),b8=[(0,P0 bm),(4,.pointer none),(5,P0 b1),(6,.slice pl j cl),(7,V0 (↑(f+j):Int))]∧zm=K-((↑(f+j):Int)).toNat∧B3 w V∧Blk V bm ([.slice p K c]) 111∧Blk V b1 ([S0,V0 0]) 44∧V.ownsRow w.heap.size 3 1 (.slice pl j cl) j ((Qn f j).map V0)∧f+j≤K) ⟨0,_,_,rfl,rfl,n1.below,a7,n1.blk,A4 _ _ _ _,by omega⟩ ?_
 rintro _ _ W3 ⟨j,pl,cl,rfl,rfl,a5,a1,a4,ho,hj⟩ J3 c2 r3
 refine xb 7 0 a1 ?_
 refine xid 4 ((↑(f+j):Int)<(K:Int)) (fun c1=>?_) (fun c1=>?_)
 ·refine xbs 7 1 [V0 (↑(f+j):Int)] 3 fun b5 W5 n5=>?_
  have b4:=Zg ho n5
  have a6:=Za ho n5.below
  have a8:=bln a5 n5.below
  refine xbi 0 fun _ _ _ _ zJ zQ zo zx zy zK=>Zr (m:=1) (news:=[V0 (↑(f+j):Int)]) (V0 0) 1 8 (j+1) ((Qn f (j+1)).map V0) zo Tryz.underlying27 K0 rfl Do zx a6 zy (n5.blk.sl 1 1 Do Do) rfl (by simp[Value.oneCell']) (by unfold maxLen;omega) M0 a8.size (by rfl) (by rw[As];simp) fun p6 c6 W6 o6 b3 b9=>?_
  refine zK _ _ ?_
  refine xwm 6 ((↑(f+j):Int)+1) (↑((f+j)+1):Int) ?_
  have b2:=a8.trans b9
  have a2:=(a1.below n5.below).grown b3 a6 Do
  have a3:=(a4.below n5.below).grown b3 a6 Do
  exact ze 2 (c2 _ _ _ ⟨j+1,_,_,rfl,rfl,b2,a2,a3,o6,by omega⟩ M0)
 have c0:K-f=j:=by omega
 have b7:w.heap.size≤(W3).heap.size:=a5.size
 refine xc 9 (args:=#[P0 bm,.slice pl j cl]) (Aw bm p f K c j pl cl _ a1 hK h1 h2 c0 (Ze ho)) ?_
 rintro _ W7 ⟨bc,pg,cg,rfl,b6,hA⟩
 replace hA:=hA.mono b7
 have a0:=a4.below b6
 refine xsv 3 a0 [S0,V0 0] fun W8 u8 k8=>?_
 have g1:=n1.ge (B4 w)
 have b0:=u8.below (bln a5 b6) g1
 have a9:=hA.only (Zd.of_upd (T:=[44]) u8 a0 Do) Do
 exact xec 3 k8 (.tuple #[P0 bc,.agg #[S0,V0 0]]) ⟨_,_,_,rfl,b0,a9⟩
theorem Nf(w:World):Ints w (S0) []:=.inl ⟨none,0,rfl,rfl,rfl⟩
theorem ref_NewN(bm:Nat)(p:O0)(K c:Nat)(l:Bl)(B:Nat)(f:Int)(w:World)(hJ:RefI B bm p K c l w)(hf:1≤f∧f≤(K:Int)) :
 C0 50 #[P0 bm,V0 f] w (RNewP bm f.toNat K w):=by
 have h:=ref_New bm p f.toNat K c w hJ.blk hJ.hk M0 M0
 rwa [show((f.toNat:Nat):Int)=f by omega] at h
theorem Zc2(er:Int)(v:Value)(w:World)(hg:Zhd w)(hv:Gl w [] (erT er) v):C0 17 #[v] w (Qo (fun w' r=>FltV w' r [] er) w):=by
 have:=Zgq (erT er) [] v w Do hg hv
 rwa [show Bb [] (erT er)=er from(by unfold erT;split<;>simp_all [Bb,Br]),show Vq ([]:List (Option Int))=[] from rfl] at this
theorem La.nums{B bc bm:Nat}{pg:O0}{N cg k:Nat}{w:World}(h:La B bc bm pg N cg k w):w.ownsRow B 3 1 (.slice pg N cg) N ((Qn 1 N).map V0):=by obtain⟨a,b,c,h⟩:=h;exact h.nums
theorem La.grown{B bc bm:Nat}{pg:O0}{N cg k B2 n:Nat}{v:Value}{xs:List Value}{w V:World}(h:La B bc bm pg N cg k w)(hAp:Yf v (.slice pg N cg))(hg:w.grownBy V v.ownBlock)(ho:w.ownsRow B2 3 1 v n xs):La B bc bm pg N cg k V:=by
 obtain⟨a,b,c,h⟩:=h
 exact⟨a,b,c,h.blk.grown hg ho Do,hAp.row h.nums hg,h.hfree,h.hm,h.hL,h.hB,h.hN⟩
theorem Zje{w:World}{B e size n g c:Nat}{p:O0}{xs:List Value}(h:w.ownsRow B e size (.slice p n c) n xs)(hg:w.heap.size≤g):∀ j,(Value.slice p n c).ownBlock=some j→j≠g:=fun j hj q=>by
 have:=(h.lt j hj).2;omega
theorem Zg1(p:O0)(c n:Nat)(t u v x m:Int)(Z:List Zv)(w:World)(hZ:Z.length=n)(hP:DevsR w p c Z)(hk:Yg t u v x (Z.map Prod.fst)≠0) :
 C0 15 #[.agg #[V0 t,V0 u,V0 v,V0 x,.slice p n c],V0 m] w (Ret (.tuple #[.pointer none,.agg #[S0,V0 (Yg t u v x (Z.map Prod.fst))]]) w):=by
 refine zin 100 Tryz.func15 ?_
 refine xa 2 [V0 t,V0 u,V0 v,V0 x,.slice p n c] 24 fun b1 W1 n1=>?_
 refine xa 1 [S0,V0 0] 44 fun b2 W2 n2=>?_
 have k1:=n1.blk.below n2.below
 refine xlv 5 k1.rp ?_
 have hB:=bln n1.below n2.below
 refine xr 0 (args:=#[.agg #[V0 t,V0 u,V0 v,V0 x,.slice p n c]]) (Qq p c n t u v x Z _ hZ (hP.below hB)) fun W3 a3=>?_
 refine xk 3 (show(((Yg t u v x (Z.map Prod.fst)) != (0:Int)):Bool)=true from(by simpa using hk)) ?_
 have a1:=k1.below a3
 refine xlv 2 a1.rp ?_
 have a0:=bln hB a3
 refine xr 0 (args:=#[.agg #[V0 t,V0 u,V0 v,V0 x,.slice p n c]]) (Qq p c n t u v x Z _ hZ (hP.below a0)) fun W4 a4=>?_
 have k2:=(n2.blk.below a3).below a4
 refine xsv 2 k2 [S0,V0 (Yg t u v x (Z.map Prod.fst))] fun W5 u5 k5=>?_
 have g2:=n2.ge n1.below
 have a2:=u5.below (bln a0 a4) g2
 exact xec 4 k5 (.tuple #[.pointer none,.agg #[S0,V0 (Yg t u v x (Z.map Prod.fst))]]) ⟨rfl,a2⟩
theorem Zgf(p:O0)(c n:Nat)(t u v x m:Int)(Z:List Zv)(w:World)(hZ:Z.length=n)(hP:DevsR w p c Z)(hk:Yg t u v x (Z.map Prod.fst)=0)(hm:m<0∨14400<m) :
 C0 15 #[.agg #[V0 t,V0 u,V0 v,V0 x,.slice p n c],V0 m] w (Ret (.tuple #[.pointer none,.agg #[S0,V0 2]]) w):=by
 refine zin 100 Tryz.func15 ?_
 refine xa 2 [V0 t,V0 u,V0 v,V0 x,.slice p n c] 24 fun b1 W1 n1=>?_
 refine xa 1 [S0,V0 0] 44 fun b2 W2 n2=>?_
 have k1:=n1.blk.below n2.below
 refine xlv 5 k1.rp ?_
 have hB:=bln n1.below n2.below
 refine xr 0 (args:=#[.agg #[V0 t,V0 u,V0 v,V0 x,.slice p n c]]) (Qq p c n t u v x Z _ hZ (hP.below hB)) fun W3 a1=>?_
 refine xk 3 (show(((Yg t u v x (Z.map Prod.fst)) != (0:Int)):Bool)=false from(by rw[hk];rfl)) ?_
 refine xg 8 [23,24] (decide (m<(0:Int))) (fun a0=>?_) (fun a0=>?_)
 ·have a0:=of_decide_eq_true a0
  have k2:=n2.blk.below a1
  refine xsv 10 k2 [S0,V0 2] fun W5 u5 k5=>?_
  have g2:=n2.ge n1.below
  have a3:=u5.below (bln hB a1) g2
  exact xec 4 k5 (.tuple #[.pointer none,.agg #[S0,V0 2]]) ⟨rfl,a3⟩
 have a0:=of_decide_eq_false a0
 refine xk 5 (show(decide (m>(14400:Int)):Bool)=true from decide_eq_true M0) ?_
 have k2:=n2.blk.below a1
 refine xsv 4 k2 [S0,V0 2] fun W6 u6 k6=>?_
 have g2:=n2.ge n1.below
 have a2:=u6.below (bln hB a1) g2
 exact xec 4 k6 (.tuple #[.pointer none,.agg #[S0,V0 2]]) ⟨rfl,a2⟩
theorem Zfq(p:O0)(c n x k:Nat)(t u v:Int)(Z:List Zv)(w:World)(hZ:Z.length=n)(hP:DevsR w p c Z)(hk:PoolOk t u v (x:Int) (Z.map Prod.fst))(hk2:k≤14400)(hr:k<Kw x (Z.map Prod.fst)) :
 C0 15 #[.agg #[V0 t,V0 u,V0 v,V0 (x:Int),.slice p n c],V0 (k:Int)] w (Ret (.tuple #[.pointer none,.agg #[S0,V0 14]]) w):=by
 obtain⟨nm,a5⟩:∃ y,Kw x (Z.map Prod.fst)=y:=⟨_,rfl⟩
 have a6:=hr
 rw[a5] at a6
 refine zin 100 Tryz.func15 ?_
 refine xa 2 [V0 t,V0 u,V0 v,V0 (x:Int),.slice p n c] 24 fun b1 W1 n1=>?_
 refine xa 1 [S0,V0 0] 44 fun b2 W2 n2=>?_
 have k1:=n1.blk.below n2.below
 refine xlv 5 k1.rp ?_
 have hB:=bln n1.below n2.below
 refine xr 0 (args:=#[.agg #[V0 t,V0 u,V0 v,V0 (x:Int),.slice p n c]]) (Qq p c n t u v (x:Int) Z _ hZ (hP.below hB)) fun W3 a3=>?_
 refine xk 3 (show(((Yg t u v (x:Int) (Z.map Prod.fst)) != (0:Int)):Bool)=false from(by rw[Qx.2 hk];rfl)) ?_
 refine xgk 8 [23,24] (show(decide ((k:Int)<(0:Int)):Bool)=false from decide_eq_false M0) ?_
 refine xk 5 (show(decide ((k:Int)>(14400:Int)):Bool)=false from decide_eq_false M0) ?_
 have a1:=k1.below a3
 refine xlv 6 a1.rp ?_
 have a0:=bln hB a3
 refine xr 0 (args:=#[.agg #[V0 t,V0 u,V0 v,V0 (x:Int),.slice p n c]]) (by have q:=Mw p c n x t u v Z _ hZ (hP.below a0) hk;rw[a5] at q;exact q) fun W5 a4=>?_
 refine xk 3 (show(decide ((k:Int)<(nm:Int)):Bool)=true from decide_eq_true M0) ?_
 have k2:=(n2.blk.below a3).below a4
 refine xsv 4 k2 [S0,V0 14] fun W6 u6 k6=>?_
 have g2:=n2.ge n1.below
 have a2:=u6.below (bln a0 a4) g2
 exact xec 4 k6 (.tuple #[.pointer none,.agg #[S0,V0 14]]) ⟨rfl,a2⟩
theorem Zd7(p:O0)(c n x k:Nat)(t u v:Int)(Z:List Zv)(w:World)(hZ:Z.length=n)(hP:DevsR w p c Z)(hk:PoolOk t u v (x:Int) (Z.map Prod.fst))(hk3:k≤3000)(hr:Kw x (Z.map Prod.fst)≤k) :
 C0 15 #[.agg #[V0 t,V0 u,V0 v,V0 (x:Int),.slice p n c],V0 (k:Int)] w ((fun e w'=>∃ bm p c,e=.returned (.tuple #[P0 bm,.agg #[S0,V0 0]])∧B3 w w'∧RefI w.heap.size bm p k c (twI t u v x (Z.map Prod.fst) k) w')):=by
 have r7:k≤14400:=by omega
 have q0:=Ev hr
 have u1:=Zd5 (Z.map Prod.fst)
 have u3:twK x (Z.map Prod.fst)=Xm (G2 (Z.map Prod.fst))+Hl (Yl x (Z.map Prod.fst)):=rfl
 have h5:(Z.map Prod.fst).length=n:=by rw[At];exact hZ
 have s0:=hk.devs.few
 have hx:x≤65536:=by have:=hk.hdata;omega
 have t7:=Sl.len (hP.rowN hZ)
 obtain⟨nm,p5⟩:∃ y,Kw x (Z.map Prod.fst)=y:=⟨_,rfl⟩
 have q3:=hr
 rw[p5] at q3
 refine zin 100 Tryz.func15 ?_
 refine xa 2 [V0 t,V0 u,V0 v,V0 (x:Int),.slice p n c] 24 fun b1 W1 n1=>?_
 refine xa 1 [S0,V0 0] 44 fun b2 W2 n2=>?_
 have k1:=n1.blk.below n2.below
 refine xlv 5 k1.rp ?_
 have hB:=bln n1.below n2.below
 refine xr 0 (args:=#[.agg #[V0 t,V0 u,V0 v,V0 (x:Int),.slice p n c]]) (Qq p c n t u v (x:Int) Z _ hZ (hP.below hB)) fun W3 k7=>?_
 refine xk 3 (show(((Yg t u v (x:Int) (Z.map Prod.fst)) != (0:Int)):Bool)=false from(by rw[Qx.2 hk];rfl)) ?_
 refine xgk 8 [23,24] (show(decide ((k:Int)<(0:Int)):Bool)=false from decide_eq_false M0) ?_
 refine xk 5 (show(decide ((k:Int)>(14400:Int)):Bool)=false from decide_eq_false M0) ?_
 have i2:=k1.below k7
 refine xlv 6 i2.rp ?_
 have i9:=bln hB k7
 refine xr 0 (args:=#[.agg #[V0 t,V0 u,V0 v,V0 (x:Int),.slice p n c]]) (by have q:=Mw p c n x t u v Z _ hZ (hP.below i9) hk;rw[p5] at q;exact q) fun W5 l4=>?_
 refine xk 3 (show(decide ((k:Int)<(nm:Int)):Bool)=false from decide_eq_false M0) ?_
 have i3:=bln i9 l4
 have q1:=i3.size
 refine xc 5 (args:=#[V0 (k:Int)]) (Zff k _ r7) ?_
 rintro _ W6 ⟨_,rfl,l1,bm,pI,cI,rfl,gI,hJ⟩
 replace hJ:=hJ.mono q1
 have j8:=bln i3 l1
 have r9:=j8.size
 refine xc 10 (args:=#[P0 bm,V0 1]) (ref_NewN bm pI k cI (List.replicate (k*256) (0:UInt8)) w.heap.size (1:Int) _ hJ ⟨by decide,by omega⟩) ?_
 rintro _ W7 ⟨bc,pg,cg,rfl,j9,q7⟩
 have hR:La w.heap.size bc bm pg (k-1) cg (Xm (twT (Z.map Prod.fst) 0)) _:=⟨_,_,_,q7.mono r9⟩
 have i6:=hR.nums
 refine xa 3 [S0,V0 0] 44 fun b8 W8 n8=>?_
 have k2:=(((n2.blk.below k7).below l4).below l1).below j9
 have j4:=n8.ne k2
 have f4:=bln j8 j9
 have g8:=n8.ge f4
 refine xsv 1 n8.blk [S0,V0 0] fun W9 u9 k9=>?_
 have i4:=u9.blkT ((((i2.below l4).below l1).below j9).below n8.below) n8.blk Do
 refine xlv 4 i4.rp ?_
 have j6:=u9.below (bln f4 n8.below) g8
 refine xc 0 (args:=#[.agg #[V0 t,V0 u,V0 v,V0 (x:Int),.slice p n c]]) (Ka p c n t u v (x:Int) Z _ hZ (hP.below j6) M0) ?_
 rintro _ s8 ⟨_,rfl,b7,qo,eo,rfl,ho⟩
 have o7:=(u9.below (bln f4 n8.below) g8).size
 have c9:=Za (u9.own2 (Za i6 n8.below) n8.blk Do) b7
 have g6:=Zf ho o7
 refine xmk 11 fun _ _ _ _ zJ zQ zo zx zy zK=>Kf k (V0 0) 1 8 ((Fy 0 k).map V0) zo zx zy Tryz.underlying27 K0 rfl M0 M0 ((Iw k)) fun d9 u4 c6=>?_
 have h7:=bln j6 b7
 have s4:=c6.ge h7
 have l0:=Zg c9 c6
 have n0:=Zg g6 c6
 refine zK _ _ ?_
 have p1:∀ {b e size n c:Nat} {p:O0} {xs:List Value} {W:World},W.ownsRow b e size (.slice p n c) n xs→W.heap.size≤d9→Yf (.slice (S1 d9) k k) (.slice p n c):=fun h q=>(Yf.of_gt h q).symm
 have r0:=p1 g6 (by have:=c6.at_;omega)
 have o6:=p1 c9 (by have:=c6.at_;omega)
 have h3:=Zje (g:=d9) c9 (by have:=c6.at_;omega)
 have l6:=Za g6 c6.below
 have h8:=Za c9 c6.below
 have q9:=Zz (size:=1) (n:=k) c6.blk s4 (by rw[At,Oe,D5]) (by unfold maxLen;omega)
 have o5:=(((hR.below n8.below).only (Zd.of_upd (T:=[44]) u9 n8.blk Do) Do).below b7).below c6.below
 have o3:=((((hJ.below j9).below n8.below).only (Zd.of_upd (T:=[44]) u9 n8.blk Do) Do).below b7).below c6.below
 have m8:=bln h7 c6.below
 have hO:=((Zd.upd_new (((((((show Zd [189,9,3,124] w _ from(Zd.of_below n1.below)).trans (Zd.of_below n2.below)).trans (Zd.of_below k7)).trans (Zd.of_below l4)).trans (Zd.of_below l1)).trans (Zd.of_below j9)).trans (Zd.of_below n8.below)) u9 g8).trans (Zd.of_below b7)).trans (Zd.of_below c6.below)
 have m1:=(i4.below b7).below c6.below
 have l7:=((u9.blk (k2.below n8.below) j4).below b7).below c6.below
 have l9:=(k9.below b7).below c6.below
 refine zl 10 100 (fun zm q4 V=>∃ (i:Nat) (rp:O0) (rc:Nat),q4=[(2,P0 b1),(4,.pointer none),(5,P0 b2),(6,P0 bm),(8,P0 bc),(10,.slice qo n eo),(11,.slice rp i rc),(12,.slice (S1 d9) k k),(13,V0 (i:Int))]∧zm=n-((i:Int)).toNat∧B3 w V∧Zd [189,9,3,124] w V∧Blk V b1 ([V0 t,V0 u,V0 v,V0 (x:Int),.slice p n c]) 24∧Blk V b2 ([S0,V0 0]) 44∧Blk V b8 ([S0,V0 0]) 44∧V.ownsRow w.heap.size 3 1 (.slice qo n eo) n ((owL (Z.map Prod.fst)).map nv)∧V.ownsRow w.heap.size 3 1 (.slice rp i rc) i (((List.range i).map (twR (Z.map Prod.fst))).map nv)∧V.ownsRow w.heap.size 3 1 (.slice pg (k-1) cg) (k-1) ((Qn 1 (k-1)).map V0)∧V.ownsRow w.heap.size 3 1 (.slice (S1 d9) k k) k ((Ip (Z.map Prod.fst) k i).map V0)∧La w.heap.size bc bm pg (k-1) cg (Xm (twT (Z.map Prod.fst) i)) V∧RefI w.heap.size bm pI k cI (Fo (twT (Z.map Prod.fst) i) 1 (List.replicate (k*256) (0:UInt8))) V∧i≤n∧Yf (.slice rp i rc) (.slice qo n eo)∧Yf (.slice (S1 d9) k k) (.slice rp i rc)∧Yf (.slice rp i rc) (.slice pg (k-1) cg)) ⟨0,none,0,rfl,rfl,m8,hO,m1,l7,l9,l6,A4 _ _ _ _,h8,(by rw[cntT_0];exact q9),o5,o3,A3 _,Yf.nil _,(Yf.nil _).symm,Yf.nil _⟩ ?_
 rintro _ _ t9 ⟨i,rp,rc,rfl,rfl,a0,e4,b0,c8,d6,ho,g9,i6,hc,hR,hJ,hi,b5,a8,a7⟩ s7 j2 u8
 refine xid 9 ((i:Int)<(n:Int)) (fun m4=>?_) (fun m4=>?_)
 ·have g1:i<(Z.map Prod.fst).length:=by omega
  have hM:=hP.each i M0
  have l3:=Rn (Z:=Z) (i:=i) M0 dvD
  have t1:=(Gp g1).1
  have s1:=He (L:=(Z.map Prod.fst)) (i:=i) g1
  rw[l3] at s1
  have r1:=hk.devs.sum
  have i0:=(hk.devs.each ((Z.map Prod.fst).getD i dvD) (Md _ g1)).maps
  rw[l3] at i0
  have u7:=Vn (Z.map Prod.fst) (show i+1≤(Z.map Prod.fst).length from g1)
  have s3:Nx (2,Jy (Z.getD i zvD).1.2):=by rw[←l3];exact Rr hk.devs g1
  refine xx 9 _ n i 1 (Qg (Ze ho) h5 (i:=i) M0).1 ?_
  refine xl 0 ((Qg (Ze ho) h5 (i:=i) M0).2) ?_
  refine xin 4 (↑(Xo (Z.map Prod.fst) i):Int) (i:Int) (fun m0=>?_) (fun m0=>?_)
  ·have c7:Xo (Z.map Prod.fst) i≠i:=by omega
   refine xx 6 _ n i 1 (Qg (Ze ho) h5 (i:=i) M0).1 ?_
   refine xl 0 ((Qg (Ze ho) h5 (i:=i) M0).2) ?_
   refine xx 0 _ i (Xo (Z.map Prod.fst) i) 1 (Xh (Ze g9) (i:=(Xo (Z.map Prod.fst) i)) M0).1 ?_
   refine xl 0 ((Xh (Ze g9) (i:=(Xo (Z.map Prod.fst) i)) M0).2) ?_
   refine xbs 0 1 [V0 (↑(twR (Z.map Prod.fst) (Xo (Z.map Prod.fst) i)):Int)] 3 fun q6 t0 c3=>?_
   have u2:=c3.ge a0
   have k8:=Zg i6 c3
   have o0:=Zg ho c3
   have k5:=Zg g9 c3
   have l8:=Zg hc c3
   have f7:=a7
   have a3:=Za g9 c3.below
   have h6:=bln a0 c3.below
   refine xbi 0 fun _ _ _ _ zJ zQ zo zx zy zK=>Xi (b:=q6) (c:=1) (m:=1) (news:=[V0 (↑(twR (Z.map Prod.fst) (Xo (Z.map Prod.fst) i)):Int)]) (V0 0) 1 8 (i+1) ((((List.range (i+1)).map (twR (Z.map Prod.fst))).map nv)) zo Tryz.underlying27 K0 rfl Do zx a3 zy c3.blk rfl (by simp[Value.oneCell']) (by unfold maxLen;omega) M0 h6.size (by rfl) (Qp g1) fun q2 s2 t2 q5 a9 o4 f2=>?_
   have i1:=Za ho c3.below
   have g0:=b5.row i1 a9
   replace b5:=(b5.grow i1 f2)
   have k3:=Za hc c3.below
   have g5:=a8.symm.row k3 a9
   replace a8:=(a8.symm.grow k3 f2).symm
   have e2:=Za i6 c3.below
   have e1:=a7.row e2 a9
   replace a7:=(a7.grow e2 f2)
   have i5:=g0
   have h9:=g5
   have f6:=e1
   refine zK _ _ ?_
   refine xwm 9 ((i:Int)+1) (↑(i+1):Int) ?_
   have m6:=(hR.below c3.below).grown f7 a9 a3
   have o8:=(hJ.below c3.below).only (Zd.of_grown (T:=[3]) a9 a3 Do) Do
   have m3:=h6.trans o4
   have n5:=(Zd.grown_new (e4.trans (Zd.of_below c3.below)) a9 a3)
   have d2:=(b0.below c3.below).grown a9 a3 Do
   have d4:=(c8.below c3.below).grown a9 a3 Do
   have d0:=(d6.below c3.below).grown a9 a3 Do
   exact ze 2 (j2 _ _ _ ⟨i+1,_,_,rfl,rfl,m3,n5,d2,d4,d0,i5,q5,f6,(by rw[Jh c7];exact h9),(by rw[Gg c7];exact m6),(by rw[Gg c7];exact o8),by omega,b5,a8,a7⟩ M0)
  have c7:Xo (Z.map Prod.fst) i=i:=by omega
  have p6:twT (Z.map Prod.fst) i++[(2,Jy (Z.getD i zvD).1.2)]=twT (Z.map Prod.fst) (i+1):=by rw[Zci c7,l3]
  have t4:Xm (twT (Z.map Prod.fst) (i+1))=twN (Z.map Prod.fst) (i+1):=rfl
  refine xb 6 4 b0 ?_
  refine xx 1 _ n i 5 (hP.someN hZ (i:=i) M0) ?_
  refine xl 1 ((Sts.cell (hP.below a0).row Xs zvD (k:=i) (i:=4) M0 rfl).2) ?_
  refine xc 0 (args:=#[.slice ((Z.getD i zvD).2.1) ((Z.getD i zvD).1.2.length) ((Z.getD i zvD).2.2)]) (Te (Z.getD i zvD).2.1 (Z.getD i zvD).2.2 (x:Int) (Z.getD i zvD).1.2 _ (hM.below a0) i0 M0 M0) ?_
  rintro _ s6 ⟨_,rfl,a4,ql,dl,rfl,r4⟩
  have j0:=Zf r4 a0.size
  have m9:=hR.below a4
  have n4:=hJ.below a4
  have e7:=bln a0 a4
  refine xc 0 (args:=#[P0 bc,V0 2,.slice ql ((Z.getD i zvD).1.2.length) dl]) (by have q:=De w.heap.size bc bm pg (k-1) cg pI k cI (List.replicate (k*256) (0:UInt8)) (twT (Z.map Prod.fst) i) 2 ql dl (Z.getD i zvD).1.2.length (Jy (Z.getD i zvD).1.2) _ (by rw[Qu]) m9 n4 s3 (by rw[p6];omega) M0 (fun W _ h2=>Ze (Zi j0 h2 Do)) e7.size;rw[p6] at q;exact q) ?_
  rintro _ v0 ⟨rfl,n3,b6,hR,hJ⟩
  refine xa 3 [S0,V0 0] 44 fun t3 u5 a5=>?_
  have c4:=(c8.below a4).only b6 Do
  have g7:=a5.ne c4
  have b9:=(d6.below a4).only b6 Do
  have f5:=a5.ne b9
  have e3:=e7.trans n3
  have o9:=a5.ge e3
  refine xsv 1 a5.blk [S0,V0 0] fun u6 d3 r2=>?_
  refine xbs 6 1 [V0 (↑(twN (Z.map Prod.fst) (i+1)):Int)] 3 fun r3 v1 b3=>?_
  have f0:=d3.below (bln e3 a5.below) o9
  have v2:=b3.ge f0
  have f1:=d3.own2 (Za (Zi (Za i6 a4) b6 Do) a5.below) a5.blk Do
  have l2:=Zg f1 b3
  have i8:=d3.own2 (Za (Zi (Za ho a4) b6 Do) a5.below) a5.blk Do
  have m2:=Zg i8 b3
  have e5:=d3.own2 (Za (Zi (Za g9 a4) b6 Do) a5.below) a5.blk Do
  have k6:=Zg e5 b3
  have j5:=d3.own2 (Za (Zi (Za hc a4) b6 Do) a5.below) a5.blk Do
  have n7:=Zg j5 b3
  have f7:=a7
  have a1:=Za e5 b3.below
  have e6:=bln f0 b3.below
  refine xbi 0 fun _ _ _ _ zJ zQ zo zx zy zK=>Xi (b:=r3) (c:=1) (m:=1) (news:=[V0 (↑(twN (Z.map Prod.fst) (i+1)):Int)]) (V0 0) 1 8 (i+1) ((((List.range (i+1)).map (twR (Z.map Prod.fst))).map nv)) zo Tryz.underlying27 K0 rfl Do zx a1 zy b3.blk rfl (by simp[Value.oneCell']) (by unfold maxLen;omega) M0 e6.size (by rfl) (Ow c7) fun q8 r6 t6 s5 a6 l5 g3=>?_
  have j7:=Za i8 b3.below
  have f8:=b5.row j7 a6
  replace b5:=(b5.grow j7 g3)
  have k0:=Za j5 b3.below
  have f9:=a8.symm.row k0 a6
  replace a8:=(a8.symm.grow k0 g3).symm
  have e9:=Za f1 b3.below
  have e0:=a7.row e9 a6
  replace a7:=(a7.grow e9 g3)
  have e8:=f8
  have j1:=f9
  have f3:=e0
  refine zK _ _ ?_
  refine xr 8 (args:=#[.slice qo n eo,V0 (i:Int)]) (by have q:=Uq qo n eo i (owL (Z.map Prod.fst)) _ (by rw[Jc];exact h5) (Ze e8) M0;rw[←Db] at q;exact q) fun s9 a2=>?_
  refine xx 0 _ k (twN (Z.map Prod.fst) (i+1)) 1 (show(some (⟨d9,0,none⟩:Addr)).isSome=true from rfl) ?_
  have c2:=Za j1 a2
  refine xst 0 fun _ _ _ _ zJ zQ zo zx zy zK=>Xk (t:=3) (k:=(twN (Z.map Prod.fst) (i+1))) (v:=V0 (↑((shN (Z.map Prod.fst)).getD i 0):Int)) zo zx zy K0 rfl c2 M0 fun t5 d8 p9=>?_
  rw[(Ae g1 c7 M0)] at p9
  have c5:=(((d3.blkT (((b0.below a4).only b6 Do).below a5.below) a5.blk Do).below b3.below).grown a6 a1 Do).below a2
  have c1:=(((d3.blk (c4.below a5.below) g7).below b3.below).grown a6 a1 Do).below a2
  have c0:=(((d3.blk (b9.below a5.below) f5).below b3.below).grown a6 a1 Do).below a2
  have p8:=((r2.below b3.below).grown a6 a1 Do).below a2
  refine zK _ _ ?_
  refine xwm 5 ((i:Int)+1) (↑(i+1):Int) ?_
  have n6:=d8.own3 (Za e8 a2) (fun j hj e=>r0 _ rfl (e▸hj))
  have j3:=d8.own3 (Za s5 a2) (fun j hj e=>a8 _ rfl (e▸hj))
  have h1:=d8.own3 (Za f3 a2) (fun j hj e=>o6 _ rfl (e▸hj))
  have o1:=(((((hR.below a5.below).only (Zd.of_upd (T:=[44]) d3 a5.blk Do) Do).below b3.below).grown f7 a6 a1).below a2).upd h3 d8 c2
  have m7:=(((((hJ.below a5.below).only (Zd.of_upd (T:=[44]) d3 a5.blk Do) Do).below b3.below).only (Zd.of_grown (T:=[3]) a6 a1 Do) Do).below a2).only (Zd.of_updRow (T:=[3]) d8 c2 Do) Do
  have h4:=d8.below (bln (e6.trans l5) a2) (Qa c2)
  have n9:=((Zd.grown_new ((Zd.upd_new (((e4.trans (Zd.of_below a4)).trans (b6.wide Do)).trans (Zd.of_below a5.below)) d3 o9).trans (Zd.of_below b3.below)) a6 a1).trans (Zd.of_below a2)).trans (Zd.of_updRow d8 c2 Do)
  have d1:=d8.blk c5 (Xd c5 c2 Do)
  have d7:=d8.blk c1 (Xd c1 c2 Do)
  have d5:=d8.blk c0 (Xd c0 c2 Do)
  exact ze 2 (j2 _ _ _ ⟨i+1,_,_,rfl,rfl,h4,n9,d1,d7,d5,n6,j3,h1,p9,o1,m7,by omega,b5,a8,a7⟩ M0)
 have p2:i=n:=by omega
 refine xv1 6 11 (show(.slice rp i rc:Value)=.slice rp n rc from by rw[p2]) ?_
 refine xlv 3 b0.rp ?_
 have p0:=hR
 have p7:=hJ
 have h0:=g9
 have p3:=hc
 rw[show i=(Z.map Prod.fst).length by omega] at p0 p7 p3
 rw[p2] at h0
 refine xc 2 (args:=#[P0 bm,P0 bc,.agg #[V0 t,V0 u,V0 v,V0 (x:Int),.slice p n c],.slice rp n rc,.slice (S1 d9) k k]) (Za1 w.heap.size bc bm pg (k-1) cg pI k cI d9 p c n x t u v Z rp rc _ hZ hk (fun W h=>hP.below (a0.trans h)) rfl p0 p7 h0 p3 h3 hr hk3 a0.size) ?_
 rintro _ u0 ⟨rfl,o2,m5,r5⟩
 have b4:=c8.only m5 Do
 refine xsv 7 b4 [S0,V0 0] fun t8 p4 r8=>?_
 have g2:=n2.ge n1.below
 have k4:=r5.only (Zd.of_upd (T:=[44]) p4 b4 Do) Do
 have i7:=p4.below (a0.trans o2) g2
 exact xec 3 r8 (.tuple #[P0 bm,.agg #[S0,V0 0]]) ⟨_,_,_,rfl,i7,k4⟩
def tlC (t u v x m:Int)(L:List Dv):Int:=if Yg t u v x L≠0 then Yg t u v x L else if m<0∨14400<m then 2 else if m.toNat<Kw x.toNat L then 14 else 0
theorem Zdb(p:O0)(c n:Nat)(t u v x m:Int)(Z:List Zv)(w:World)(hI:ItT w)(hZ:Z.length=n)(hP:DevsR w p c Z)(hm:m≤3000∨14400<m):C0 14 #[.agg #[V0 t,V0 u,V0 v,V0 x,.slice p n c],V0 m] w (fun e w'=>(tlC t u v x m (Z.map Prod.fst)≠0∧LayE (tlC t u v x m (Z.map Prod.fst)) w e w')∨(tlC t u v x m (Z.map Prod.fst)=0∧LayO (twI t u v x.toNat (Z.map Prod.fst) m.toNat) m.toNat w e w')):=by
 by_cases h1:Yg t u v x (Z.map Prod.fst)=0
 ·have hk:=Qx.1 h1
  obtain⟨X,rfl⟩:∃ X:Nat,x=(X:Int):=⟨x.toNat,by have:=hk.hdata;omega⟩
  by_cases h2:m<0∨14400<m
  ·have e:tlC t u v (X:Int) m (Z.map Prod.fst)=2:=by unfold tlC;rw[if_neg (fun q=>q h1),if_pos h2]
   rw[e]
   exact(Zj3 p c n t u v (X:Int) m Z w hZ hP h1 h2).mono fun _ _ q=>.inl ⟨by decide,q⟩
  ·obtain⟨k,rfl⟩:∃ k:Nat,m=(k:Int):=⟨m.toNat,by omega⟩
   by_cases h3:k<Kw X (Z.map Prod.fst)
   ·have e:tlC t u v (X:Int) (k:Int) (Z.map Prod.fst)=14:=by unfold tlC;rw[if_neg (fun q=>q h1),if_neg h2,C4,C4,if_pos h3]
    rw[e]
    exact(Zhk p c n X k t u v Z w hI hZ hP hk M0 h3).mono fun _ _ q=>.inl ⟨by decide,q⟩
   ·have e:tlC t u v (X:Int) (k:Int) (Z.map Prod.fst)=0:=by unfold tlC;rw[if_neg (fun q=>q h1),if_neg h2,C4,C4,if_neg h3]
    rw[e,C4,C4]
    refine(Zar p c n X k t u v Z w hI hZ hP hk M0 M0).mono ?_
    exact fun _ _ q=>.inr ⟨rfl,q⟩
 ·have e:tlC t u v x m (Z.map Prod.fst)=Yg t u v x (Z.map Prod.fst):=by unfold tlC;rw[if_pos h1]
  rw[e]
  exact(Zkr p c n t u v x m Z w hZ hP h1).mono fun _ _ q=>.inl ⟨h1,q⟩
theorem Zao(p:O0)(c n:Nat)(t u v x m:Int)(Z:List Zv)(w:World)(hI:ItT w)(hZ:Z.length=n)(hP:DevsR w p c Z)(hm:m≤3000∨14400<m):C0 15 #[.agg #[V0 t,V0 u,V0 v,V0 x,.slice p n c],V0 m] w (fun e w'=>(tlC t u v x m (Z.map Prod.fst)≠0∧Ret (.tuple #[.pointer none,.agg #[S0,V0 (tlC t u v x m (Z.map Prod.fst))]]) w e w')∨(tlC t u v x m (Z.map Prod.fst)=0∧∃ bm q d,e=.returned (.tuple #[P0 bm,.agg #[S0,V0 0]])∧B3 w w'∧RefI w.heap.size bm q m.toNat d (twI t u v x.toNat (Z.map Prod.fst) m.toNat) w')):=by
 by_cases h1:Yg t u v x (Z.map Prod.fst)=0
 ·have hk:=Qx.1 h1
  obtain⟨X,rfl⟩:∃ X:Nat,x=(X:Int):=⟨x.toNat,by have:=hk.hdata;omega⟩
  by_cases h2:m<0∨14400<m
  ·have e:tlC t u v (X:Int) m (Z.map Prod.fst)=2:=by unfold tlC;rw[if_neg (fun q=>q h1),if_pos h2]
   rw[e]
   exact(Zgf p c n t u v (X:Int) m Z w hZ hP h1 h2).mono fun _ _ q=>.inl ⟨by decide,q⟩
  ·obtain⟨k,rfl⟩:∃ k:Nat,m=(k:Int):=⟨m.toNat,by omega⟩
   by_cases h3:k<Kw X (Z.map Prod.fst)
   ·have e:tlC t u v (X:Int) (k:Int) (Z.map Prod.fst)=14:=by unfold tlC;rw[if_neg (fun q=>q h1),if_neg h2,C4,C4,if_pos h3]
    rw[e]
    exact(Zfq p c n X k t u v Z w hZ hP hk M0 h3).mono fun _ _ q=>.inl ⟨by decide,q⟩
   ·have e:tlC t u v (X:Int) (k:Int) (Z.map Prod.fst)=0:=by unfold tlC;rw[if_neg (fun q=>q h1),if_neg h2,C4,C4,if_neg h3]
    rw[e,C4,C4]
    refine(Zd7 p c n X k t u v Z w hZ hP hk M0 M0).mono ?_
    rintro e' W ⟨bm,q,d,rfl,hb,hI⟩
    exact .inr ⟨rfl,bm,q,d,rfl,hb,hI⟩
 ·have e:tlC t u v x m (Z.map Prod.fst)=Yg t u v x (Z.map Prod.fst):=by unfold tlC;rw[if_pos h1]
  rw[e]
  exact(Zg1 p c n t u v x m Z w hZ hP h1).mono fun _ _ q=>.inl ⟨h1,q⟩
theorem Rq(p:O0)(c n:Nat)(t u v x m:Int)(Z:List Zv)(w:World)(hI:ItT w)(hZ:Z.length=n)(hP:DevsR w p c Z)(hm:m≤3000∨14400<m)(he:tlC t u v x m (Z.map Prod.fst)≠0):C0 15 #[.agg #[V0 t,V0 u,V0 v,V0 x,.slice p n c],V0 m] w (Ret (.tuple #[.pointer none,.agg #[S0,V0 (tlC t u v x m (Z.map Prod.fst))]]) w):=(Zao p c n t u v x m Z w hI hZ hP hm).mono fun e W q=>by
 rcases q with ⟨_,q⟩|⟨q,_⟩
 ·exact q
 ·exact absurd q he
theorem Sc(p:O0)(c n:Nat)(t u v x m:Int)(Z:List Zv)(w:World)(hI:ItT w)(hZ:Z.length=n)(hP:DevsR w p c Z)(hm:m≤3000∨14400<m)(he:tlC t u v x m (Z.map Prod.fst)=0):C0 15 #[.agg #[V0 t,V0 u,V0 v,V0 x,.slice p n c],V0 m] w (fun e w'=>∃ bm q d,e=.returned (.tuple #[P0 bm,.agg #[S0,V0 0]])∧B3 w w'∧RefI w.heap.size bm q m.toNat d (twI t u v x.toNat (Z.map Prod.fst) m.toNat) w'):=(Zao p c n t u v x m Z w hI hZ hP hm).mono fun e W q=>by
 rcases q with ⟨q,_⟩|⟨_,q⟩
 ·exact absurd he q
 ·exact q
def ndA (t u v x:Int)(L:List Dv):Nat:=if Yg t u v x L=0 then Kw x.toNat L else 0
theorem Wh(p:O0)(c n:Nat)(t u v x:Int)(Z:List Zv)(w:World)(hI:ItT w)(hZ:Z.length=n)(hP:DevsR w p c Z):C0 10 #[.agg #[V0 t,V0 u,V0 v,V0 x,.slice p n c]] w (Ret (V0 (↑(ndA t u v x (Z.map Prod.fst)):Int)) w):=by
 by_cases h1:Yg t u v x (Z.map Prod.fst)=0
 ·have hk:=Qx.1 h1
  obtain⟨X,rfl⟩:∃ X:Nat,x=(X:Int):=⟨x.toNat,by have:=hk.hdata;omega⟩
  unfold ndA
  rw[if_pos h1,C4]
  exact Np p c n X t u v Z w hI hZ hP hk
 ·unfold ndA
  rw[if_neg h1]
  exact Zem p c n t u v x Z w hZ hP h1
theorem Uc(p:O0)(c n:Nat)(t u v x:Int)(Z:List Zv)(w:World)(hZ:Z.length=n)(hP:DevsR w p c Z):C0 20 #[.agg #[V0 t,V0 u,V0 v,V0 x,.slice p n c]] w (Ret (V0 (↑(ndA t u v x (Z.map Prod.fst)):Int)) w):=by
 by_cases h1:Yg t u v x (Z.map Prod.fst)=0
 ·have hk:=Qx.1 h1
  obtain⟨X,rfl⟩:∃ X:Nat,x=(X:Int):=⟨x.toNat,by have:=hk.hdata;omega⟩
  unfold ndA
  rw[if_pos h1,C4]
  exact Mw p c n X t u v Z w hZ hP hk
 ·unfold ndA
  rw[if_neg h1]
  exact Zbo p c n t u v x Z w hZ hP h1
theorem Ju(a b:O0)(n ca cb:Nat)(O:List Nat)(w:World)(hn:O.length=n)(ha:Sl w (.slice a n ca) n (O.map nv))(hb:Sl w (.slice b n cb) n (O.map nv))(hl:n≤100000):C0 18 #[.slice a n ca,.slice b n cb] w (Ret (.bool true) w):=by
 have e:O.map nv=(O.map fun x:Nat=>(x:Int)).map V0:=by simp[nv]
 rw[e] at ha hb
 have hL:(O.map fun x:Nat=>(x:Int)).length=n:=by rw[At];exact hn
 subst hL
 exact Zb6 a b ca cb _ w ha hb M0
theorem Zfw(p:O0)(c n:Nat)(t u v x:Int)(Z:List Zv)(w:World)(hZ:Z.length=n)(hP:DevsR w p c Z)(hS:∀ i,i<n→(Z.getD i zvD).1.2.length≤6000000000000) :
 C0 6 #[.agg #[V0 t,V0 u,V0 v,V0 x,.slice p n c]] w ((fun e w'=>(e=.returned (V0 0)∧B3 w w')∨(e=.returned (V0 1)∧B3 w w'∧n≤200∧Vo (Z.map Prod.fst)≤2000))):=by
 have b3:=Sl.len (hP.rowN hZ)
 refine zin 33 Tryz.func6 ?_
 refine xa 2 [V0 t,V0 u,V0 v,V0 x,.slice p n c] 24 fun b1 W1 n1=>?_
 refine zl 15 33 (fun zm a5 V=>∃ (i:Nat),a5=[(1,P0 b1),(2,V0 0),(3,V0 (↑(Vo ((Z.map Prod.fst).take i)):Int)),(4,V0 (i:Int))]∧zm=n-((i:Int)).toNat∧B3 w V∧Blk V b1 ([V0 t,V0 u,V0 v,V0 x,.slice p n c]) 24∧i≤n∧i≤201∧Vo ((Z.map Prod.fst).take i)≤i*6000000000000) ⟨0,rfl,rfl,n1.below,n1.blk,⟨A3 _,A3 _,by simp[Vo]⟩⟩ ?_
 rintro _ _ W2 ⟨i,rfl,rfl,a1,a0,hi⟩ J2 a9 r2
 refine xb 5 4 a0 ?_
 refine xg 3 [9,10] (decide ((i:Int)<(n:Int))) (fun a4=>?_) (fun a4=>?_)
 ·have a4:=of_decide_eq_true a4
  refine xid 5 ((i:Int)<(201:Int)) (fun a8=>?_) (fun a8=>?_)
  ·have a7:=Ga (Z:=Z) (i:=i) M0
   have b2:=hS i M0
   refine xb 7 4 a0 ?_
   refine xx 1 _ n i 5 (hP.someN hZ (i:=i) M0) ?_
   refine xl 1 ((Sts.cell (hP.below a1).row Xs zvD (k:=i) (i:=4) M0 rfl).2) ?_
   refine xwm 1 ((↑(Vo ((Z.map Prod.fst).take i)):Int)+(↑((Z.getD i zvD).1.2.length):Int)) (↑((Vo ((Z.map Prod.fst).take i))+((Z.getD i zvD).1.2.length)):Int) ?_
   refine xwm 6 ((i:Int)+1) (↑(i+1):Int) ?_
   refine xv1 2 3 (show(V0 (↑((Vo ((Z.map Prod.fst).take i))+((Z.getD i zvD).1.2.length)):Int):Value)=V0 (↑(Vo ((Z.map Prod.fst).take (i+1))):Int) from congrArg V0 M0) ?_
   exact ze 0 (a9 _ _ _ ⟨i+1,rfl,rfl,a1,a0,⟨by omega,by omega,by rw[a7];omega⟩⟩ M0)
  refine xb 9 4 a0 ?_
  refine xg 3 [28,29] (decide ((n:Int)≤(200:Int))) (fun a2=>?_) (fun a2=>?_)
  ·have a2:=of_decide_eq_true a2
   refine xid 5 ((↑(Vo ((Z.map Prod.fst).take i)):Int)≤(2000:Int)) (fun b0=>?_) (fun b0=>?_)
   ·exact xe 7 (V0 1) (.inr ⟨rfl,a1,by omega,by rw[←A1 (l:=(Z.map Prod.fst)) (i:=i) (by rw[At];omega)];omega⟩)
   exact xe 8 (V0 0) (.inl ⟨rfl,a1⟩)
  have a2:=of_decide_eq_false a2
  exact xe 14 (V0 0) (.inl ⟨rfl,a1⟩)
 have a4:=of_decide_eq_false a4
 refine xb 15 4 a0 ?_
 refine xg 3 [28,29] (decide ((n:Int)≤(200:Int))) (fun a3=>?_) (fun a3=>?_)
 ·have a3:=of_decide_eq_true a3
  refine xid 5 ((↑(Vo ((Z.map Prod.fst).take i)):Int)≤(2000:Int)) (fun a6=>?_) (fun a6=>?_)
  ·exact xe 7 (V0 1) (.inr ⟨rfl,a1,by omega,by rw[←A1 (l:=(Z.map Prod.fst)) (i:=i) (by rw[At];omega)];omega⟩)
  exact xe 8 (V0 0) (.inl ⟨rfl,a1⟩)
 have a3:=of_decide_eq_false a3
 exact xe 14 (V0 0) (.inl ⟨rfl,a1⟩)
def L27:List Dv:=[((1,0,0,0),[(1,0,0)]),((2,0,0,0),[(1,0,0)])]
def Z27 (b:Nat):List Zv:=[(((1,0,0,0),[(1,0,0)]),some ⟨b,0,none⟩,1),(((2,0,0,0),[(1,0,0)]),some ⟨b,0,none⟩,1)]
theorem Zif{W:World}{bl bd:Nat}(kl:Blk W bl [V0 1,V0 0,V0 0] 63)(kd:Blk W bd [V0 1,V0 0,V0 0,V0 0,.slice (S1 bl) 1 1,V0 2,V0 0,V0 0,V0 0,.slice (S1 bl) 1 1] 32):DevsR W (S1 bd) 2 (Z27 bl):=by
 refine⟨kd.sl 2 2 Do Do,fun i hi=>?_⟩
 have a0:i<2:=hi
 obtain rfl|rfl:i=0∨i=1:=by omega
 ·exact kl.sl 1 1 Do Do
 ·exact kl.sl 1 1 Do Do
theorem ok27:PoolOk 0 0 1 ((1:Nat):Int) L27:=Qx.1 Do
theorem oft27:Zag 1 L27=0:=by
 have a:=Cg (Yn 1 L27) 1 (by rw[Yk];exact A6 _)
 rw[A1 (by rw[Yk];exact A6 _),Cw ok27.devs] at a
 have e:Vo L27=2:=by decide
 unfold Zag
 omega
theorem need27:8<Kw 1 L27∧Kw 1 L27≤20:=by
 have h1:=Dm 1 L27
 have h2:=G2_len L27
 have hl:L27.length=2:=rfl
 have hT:Ar L27=0:=by have:=To L27;omega
 have hp:Hl (Yl 1 L27)=1+Zw 4 1+Zw 5 0:=by
  have ho:Zag 1 L27=0:=oft27
  unfold Hl
  rw[Wd,Yy,ho];rfl
 have hw:twN L27 2=Zw 2 1:=by
  have a:twN L27 1=twN L27 0+Zw 2 (L27.getD 0 dvD).2.length:=Pp (i:=0) Do
  have b:twN L27 (1+1)=twN L27 1:=Il Do
  have c:twN L27 0=0:=rfl
  have d:(L27.getD 0 dvD).2.length=1:=rfl
  rw[d,c] at a
  have e:twN L27 2=twN L27 1:=b
  rw[e];omega
 have k1:=Yx 2 1
 have k2:=Yx 1 2
 have k3:=Yx 3 2
 have k4:=Yx 4 1
 have l1:=Nr 2 (k:=1) Do
 have l2:=Nr 1 (k:=2) Do
 have l3:=Nr 3 (k:=2) Do
 have l4:=Nr 4 (k:=1) Do
 have h5:=nodN5_0
 have e:twK 1 L27=Xm (G2 L27)+Hl (Yl 1 L27):=rfl
 unfold Kw Nh
 rw[hT] at h1
 rw[hl] at h2
 omega
theorem lay27(bl bd:Nat)(w:World)(hI:ItT w)(hP:DevsR w (S1 bd) 2 (Z27 bl)):C0 14 #[.agg #[V0 0,V0 0,V0 1,V0 1,.slice (S1 bd) 2 2],V0 20] w (LayO (twI 0 0 1 1 L27 20) 20 w) :=
 Zar (S1 bd) 2 2 1 20 0 0 1 (Z27 bl) w hI rfl hP ok27 Do need27.2
theorem own27(bl bd:Nat)(w:World)(hI:ItT w)(hP:DevsR w (S1 bd) 2 (Z27 bl)):C0 8 #[.agg #[V0 0,V0 0,V0 1,V0 1,.slice (S1 bd) 2 2]] w (Qo (fun w' r=>∃ q d,r=.slice q 2 d∧w'.ownsRow w.heap.size 3 1 (.slice q 2 d) 2 [V0 0,V0 0]) w):=by
 have q:=Vw (S1 bd) 2 2 0 0 1 1 (Z27 bl) w hI rfl hP (okR (data:=1) rfl ok27.devs Do) Do
 have e:(owL ((Z27 bl).map Prod.fst)).map nv=[V0 0,V0 0]:=by
  have e2:owL L27=[0,0]:=by decide
  show(owL L27).map nv=_
  rw[e2];rfl
 rw[e] at q;exact q
theorem nd27(bl bd:Nat)(w:World)(hI:ItT w)(hP:DevsR w (S1 bd) 2 (Z27 bl)):C0 10 #[.agg #[V0 0,V0 0,V0 1,V0 1,.slice (S1 bd) 2 2]] w (Ret (V0 (↑(Kw 1 L27):Int)) w) :=
 Np (S1 bd) 2 2 1 0 0 1 (Z27 bl) w hI rfl hP ok27
theorem same27(a b:O0)(ca cb:Nat)(w:World)(ha:Sl w (.slice a 2 ca) 2 [V0 0,V0 0])(hb:Sl w (.slice b 2 cb) 2 [V0 0,V0 0]):C0 18 #[.slice a 2 ca,.slice b 2 cb] w (Ret (.bool true) w) :=
 Ju a b 2 ca cb [0,0] w rfl ha hb Do
theorem Ld(w:World)(hI:ItT w) :
 C0 7 #[] w (Ret (.bool true) w):=by
 have c2:=need27
 refine zin 35 Tryz.func7 ?_
 refine xbs 8 1 [V0 1,V0 0,V0 0] 63 fun b1 W1 n1=>?_
 refine xbs 9 2 [V0 1,V0 0,V0 0,V0 0,.slice (S1 b1) 1 1,V0 2,V0 0,V0 0,V0 0,.slice (S1 b1) 1 1] 32 fun b2 W2 n2=>?_
 refine xa 1 [V0 0,V0 0,V0 0,V0 0,S0] 24 fun b3 W3 n3=>?_
 refine xsv 0 n3.blk [V0 0,V0 0,V0 1,V0 1,.slice (S1 b2) 2 2] fun W4 u4 k4=>?_
 have g3:=n3.ge (bln n1.below n2.below)
 refine xlv 4 k4.rp ?_
 have k1:=u4.blkT ((n1.blk.below n2.below).below n3.below) n3.blk Do
 have k2:=u4.blkT (n2.blk.below n3.below) n3.blk Do
 have hB:=u4.below (bln (bln n1.below n2.below) n3.below) g3
 refine xc 0 (args:=#[.agg #[V0 0,V0 0,V0 1,V0 1,.slice (S1 b2) 2 2],V0 20]) (lay27 b1 b2 _ (hI.below hB) (Zif k1 k2)) ?_
 rintro _ W5 ⟨bi,g,ci,rfl,a0,c3⟩
 have a3:=k4.below a0
 refine xlv 16 a3.rp ?_
 have a5:=k1.below a0
 have a2:=k2.below a0
 have a4:=bln hB a0
 refine xc 0 (args:=#[.agg #[V0 0,V0 0,V0 1,V0 1,.slice (S1 b2) 2 2]]) (own27 b1 b2 _ (hI.below a4) (Zif a5 a2)) ?_
 rintro _ W6 ⟨_,rfl,a9,qo,eo,rfl,ho⟩
 have c1:=(bln hB a0).size
 refine xbs 0 2 [V0 0,V0 0] 3 fun b7 W7 n7=>?_
 have a7:=bln a4 a9
 have g7:=n7.ge a7
 have a1:=Zf ho c1
 have b9:=Zg a1 n7
 have b5:=Za a1 n7.below
 refine xr 0 (args:=#[.slice qo 2 eo,.slice (S1 b7) 2 2]) (same27 _ _ _ _ _ (Ze b5) (n7.blk.sl 2 2 Do Do)) fun W8 a8=>?_
 have b4:=((a3.below a9).below n7.below).below a8
 refine xlv 2 b4.rp ?_
 have b8:=((a5.below a9).below n7.below).below a8
 have b6:=((a2.below a9).below n7.below).below a8
 have a6:=bln (bln a7 n7.below) a8
 refine xr 0 (args:=#[.agg #[V0 0,V0 0,V0 1,V0 1,.slice (S1 b2) 2 2]]) (nd27 b1 b2 _ (hI.below a6) (Zif b8 b6)) fun W9 c0=>?_
 have b0:=bln a6 c0
 exact xe 6 (.bool (decide ((↑(Kw 1 L27):Int)>(8:Int)))) ⟨by rw[decide_eq_true (show(↑(Kw 1 L27):Int)>8 by omega)],b0⟩
theorem few_R{Z:List Zv}{n:Nat}(hZ:Z.length=n)(h:Vo (Z.map Prod.fst)≤2000)(hS:∀ i,i<n→(∀ m∈(Z.getD i zvD).1.2,MpR m)∧(Z.getD i zvD).1.2.length≤6000000000000):∀ i,i<n→(∀ m∈(Z.getD i zvD).1.2,MpR m)∧(Z.getD i zvD).1.2.length≤100000:=fun i hi=>by
 have b:=He (L:=Z.map Prod.fst) (i:=i) (by rw[At];omega)
 rw[Rn M0] at b
 exact⟨(hS i hi).1,by omega⟩
theorem Tw(p:O0)(c n:Nat)(t u v x m:Int)(Z:List Zv)(w:World)(hg:Zhd w)(hI:ItT w)(hZ:Z.length=n)(hP:DevsR w p c Z)(hS:∀ i,i<n→(∀ m∈(Z.getD i zvD).1.2,MpR m)∧(Z.getD i zvD).1.2.length≤6000000000000) :
 C0 4 #[.agg #[V0 t,V0 u,V0 v,V0 x,.slice p n c],V0 m] w (Ret (.bool true) w):=by
 refine zin 73 Tryz.func4 ?_
 refine xa 2 [V0 t,V0 u,V0 v,V0 x,.slice p n c] 24 fun b1 W1 n1=>?_
 refine xlv 6 n1.blk.rp ?_
 refine xc 0 (args:=#[.agg #[V0 t,V0 u,V0 v,V0 x,.slice p n c]]) (Zfw p c n t u v x Z _ hZ (hP.below n1.below) (fun i hi=>(hS i hi).2)) ?_
 rintro e W2 s1
 rcases s1 with ⟨rfl,i1⟩|⟨rfl,i1,w2,m1⟩
 ·have l5:=bln n1.below i1
  refine xr 14 (args:=#[]) (Ld _ (hI.below l5)) fun W3 r3=>?_
  have o2:=bln l5 r3
  exact xe 5 (.bool true) ⟨rfl,o2⟩
 refine xg 5 [14,15] (decide (m>(400:Int))) (fun l7=>?_) (fun l7=>?_)
 ·have l7:=of_decide_eq_true l7
  refine xid 6 (m≤(14400:Int)) (fun r5=>?_) (fun r5=>?_)
  ·have m3:=bln n1.below i1
   refine xr 2 (args:=#[]) (Ld _ (hI.below m3)) fun W6 r9=>?_
   have n6:=bln m3 r9
   exact xe 5 (.bool true) ⟨rfl,n6⟩
  have h7:=n1.blk.below i1
  refine xlv 4 h7.rp ?_
  have d4:=bln n1.below i1
  have r6:=d4.size
  have g8:m≤3000∨14400<m:=by omega
  have hR:∀ i,i<n→(∀ m∈(Z.getD i zvD).1.2,MpR m)∧(Z.getD i zvD).1.2.length≤100000:=few_R hZ m1 hS
  refine xc 1 (args:=#[.agg #[V0 t,V0 u,V0 v,V0 x,.slice p n c],V0 m]) (Zdb p c n t u v x m Z _ (hI.below d4) hZ (hP.below d4) g8) ?_
  rintro e W7 r8
  rcases r8 with ⟨he,rfl,m4⟩|⟨he,bi,g,ci,rfl,m4,p1⟩
  ·have k5:=h7.below m4
   refine xlv 9 k5.rp ?_
   have h3:=bln d4 m4
   refine xr 1 (args:=#[.agg #[V0 t,V0 u,V0 v,V0 x,.slice p n c],V0 m]) (Rq p c n t u v x m Z _ (hI.below h3) hZ (hP.below h3) g8 he) fun W8 q3=>?_
   refine xa 3 [S0,V0 0] 44 fun b9 W9 n9=>?_
   have k2:=bln h3 q3
   have g9:=n9.ge k2
   refine xsv 1 n9.blk [S0,V0 (tlC t u v x m (Z.map Prod.fst))] fun n0 q4 r4=>?_
   refine xd 4 .z ?_
   have j0:=r4.below (Zb n0)
   refine xlv (.e [0] 2) j0.rp ?_
   have h1:=bln (q4.below (bln k2 n9.below) g9) (Zb n0)
   refine yc (.o [] 1) (args:=#[.iface 33 (V0 (tlC t u v x m (Z.map Prod.fst)))]) .z (Zc2 (tlC t u v x m (Z.map Prod.fst)) _ _ (hg.below h1) (by rw[erT,if_neg he];exact rfl)) ?_
   rintro _ v5 ⟨j3,rfl,e6,hq⟩
   refine⟨e6,?_⟩
   refine xr (.o [] 3) (args:=#[j3,.agg #[S0,V0 (tlC t u v x m (Z.map Prod.fst))]]) (Wi [] (tlC t u v x m (Z.map Prod.fst)) j3 _ _ hq ⟨_,rfl,Nf _⟩) fun u6 h9=>?_
   have h2:=(((q4.blkT ((k5.below q3).below n9.below) n9.blk Do).below (Zb n0)).below e6).below h9
   refine xlv (.e [4,5,6,7,8,9,10,11,12] 13) h2.rp ?_
   refine xlv (.e [] 15) h2.rp ?_
   have d9:=bln (bln h1 e6) h9
   refine yc (.o [] 14) (args:=#[.agg #[V0 t,V0 u,V0 v,V0 x,.slice p n c]]) .z (Vw p c n t u v x Z _ (hI.below d9) hZ (hP.below d9) hR M0) ?_
   rintro _ t5 ⟨_,rfl,e2,qo,eo,rfl,h4⟩
   have n2:=(bln (bln h1 e6) h9).size
   refine⟨e2,?_⟩
   have f6:=bln d9 e2
   refine yc (.o [] 16) (args:=#[.agg #[V0 t,V0 u,V0 v,V0 x,.slice p n c]]) .z (Ka p c n t u v x Z _ hZ (hP.below f6) M0) ?_
   rintro _ s7 ⟨_,rfl,e1,qp,ep,rfl,i3⟩
   have o4:=(bln d9 e2).size
   refine⟨e1,?_⟩
   have k9:=Za (Zf h4 n2) e1
   have l9:=Zf i3 o4
   refine xr (.o [] 17) (args:=#[.slice qo n eo,.slice qp n ep]) (Ju _ _ n _ _ (owL (Z.map Prod.fst)) _ (by rw[Jc,At];exact hZ) (Ze k9) (Ze l9) M0) fun t3 m7=>?_
   have j9:=((h2.below e2).below e1).below m7
   refine xlv (.e [18,19,20] 21) j9.rp ?_
   refine xlv (.e [] 23) j9.rp ?_
   have c3:=bln (bln f6 e1) m7
   refine xr (.o [] 22) (args:=#[.agg #[V0 t,V0 u,V0 v,V0 x,.slice p n c]]) (Wh p c n t u v x Z _ (hI.below c3) hZ (hP.below c3)) fun t4 p8=>?_
   have g3:=bln c3 p8
   refine xr (.o [] 24) (args:=#[.agg #[V0 t,V0 u,V0 v,V0 x,.slice p n c]]) (Uc p c n t u v x Z _ hZ (hP.below g3)) fun s3 o5=>?_
   refine xk (.r [25,26] 2) (show(((↑(ndA t u v x (Z.map Prod.fst)):Int) != (↑(ndA t u v x (Z.map Prod.fst)):Int)):Bool)=false from(by simp)) ?_
   have f5:=bln g3 o5
   refine xr 12 (args:=#[]) (Ld _ (hI.below f5)) fun w4 o3=>?_
   have j2:=bln f5 o3
   exact xe 5 (.bool true) ⟨rfl,j2⟩
  have i6:=h7.below m4
  refine xlv 9 i6.rp ?_
  have d1:=bln d4 m4
  refine xc 1 (args:=#[.agg #[V0 t,V0 u,V0 v,V0 x,.slice p n c],V0 m]) (Sc p c n t u v x m Z _ (hI.below d1) hZ (hP.below d1) g8 he) ?_
  rintro _ v6 ⟨bm,q5,d5,rfl,h6,hJ⟩
  refine xa 3 [S0,V0 0] 44 fun s4 w0 d8=>?_
  have g5:=bln d1 h6
  have s2:=d8.ge g5
  refine xsv 1 d8.blk [S0,V0 0] fun m2 m9 q6=>?_
  refine xd 4 .z ?_
  have i5:=q6.below (Zb m2)
  refine xlv (.e [0] 2) i5.rp ?_
  have c7:=bln (m9.below (bln g5 d8.below) s2) (Zb m2)
  refine yc (.o [] 1) (args:=#[.nilIface]) .z (Zc2 0 .nilIface _ (hg.below c7) rfl) ?_
  rintro _ t9 ⟨j4,rfl,b2,hq⟩
  refine⟨b2,?_⟩
  refine xr (.o [] 3) (args:=#[j4,.agg #[S0,V0 0]]) (Wi [] 0 j4 _ _ hq ⟨_,rfl,Nf _⟩) fun t1 d6=>?_
  have i2:=(((m9.blkT ((i6.below h6).below d8.below) d8.blk Do).below (Zb m2)).below b2).below d6
  refine xlv (.e [4,5,6,7,8,9,10,11,12] 13) i2.rp ?_
  refine xlv (.e [] 15) i2.rp ?_
  have a9:=bln (bln c7 b2) d6
  refine yc (.o [] 14) (args:=#[.agg #[V0 t,V0 u,V0 v,V0 x,.slice p n c]]) .z (Vw p c n t u v x Z _ (hI.below a9) hZ (hP.below a9) hR M0) ?_
  rintro _ t8 ⟨_,rfl,b3,qo,eo,rfl,h4⟩
  have p3:=(bln (bln c7 b2) d6).size
  refine⟨b3,?_⟩
  have f4:=bln a9 b3
  refine yc (.o [] 16) (args:=#[.agg #[V0 t,V0 u,V0 v,V0 x,.slice p n c]]) .z (Ka p c n t u v x Z _ hZ (hP.below f4) M0) ?_
  rintro _ v2 ⟨_,rfl,b6,qp,ep,rfl,i3⟩
  have p9:=(bln a9 b3).size
  refine⟨b6,?_⟩
  have k6:=Za (Zf h4 p3) b6
  have l1:=Zf i3 p9
  refine xr (.o [] 17) (args:=#[.slice qo n eo,.slice qp n ep]) (Ju _ _ n _ _ (owL (Z.map Prod.fst)) _ (by rw[Jc,At];exact hZ) (Ze k6) (Ze l1) M0) fun u4 f0=>?_
  have m6:=((i2.below b3).below b6).below f0
  refine xlv (.e [18,19,20] 21) m6.rp ?_
  refine xlv (.e [] 23) m6.rp ?_
  have c6:=bln (bln f4 b6) f0
  refine xr (.o [] 22) (args:=#[.agg #[V0 t,V0 u,V0 v,V0 x,.slice p n c]]) (Wh p c n t u v x Z _ (hI.below c6) hZ (hP.below c6)) fun s8 i4=>?_
  have a3:=bln c6 i4
  refine xr (.o [] 24) (args:=#[.agg #[V0 t,V0 u,V0 v,V0 x,.slice p n c]]) (Uc p c n t u v x Z _ hZ (hP.below a3)) fun j7 c2=>?_
  refine xk (.r [25,26] 2) (show(((↑(ndA t u v x (Z.map Prod.fst)):Int) != (↑(ndA t u v x (Z.map Prod.fst)):Int)):Bool)=false from(by simp)) ?_
  refine xd 13 .z ?_
  have a5:=(((((((((((p1.below h6).below d8.below).only (Zd.of_upd (T:=[44]) m9 d8.blk Do) Do).below (Zb m2)).below b2).below d6).below b3).below b6).below f0).below i4).below c2).below (Zb j7)
  have a1:(twI t u v x.toNat (Z.map Prod.fst) m.toNat).length=m.toNat*256:=a5.len
  refine yc (.o [0,3] 1) (args:=#[P0 bi]) .z (Eb bi _ (m.toNat*256) ci (twI t u v x.toNat (Z.map Prod.fst) m.toNat) _ a5.blk (Ya (Ze a5.row) a1) a1 (by have:=a5.hn;omega)) ?_
  rintro _ u5 ⟨_,rfl,e4,o0⟩
  have p5:=(bln (bln a3 c2) (Zb j7)).size
  refine⟨e4,?_⟩
  have b0:=Zf o0 p5
  unfold Pj at b0
  rw[a1] at b0
  obtain⟨r7,q9,rfl⟩:=(Ze b0).slice
  refine xcv (.e [] 2) (fun _ _ _ zo zx V hV=>Yt zo zx (Ya (Ze (Za b0 hV)) a1) a1 Tryz.underlying50 Tryz.underlying5 Tryz.underlying9) ?_
  have p6:=(((((((((((hJ.below d8.below).only (Zd.of_upd (T:=[44]) m9 d8.blk Do) Do).below (Zb m2)).below b2).below d6).below b3).below b6).below f0).below i4).below c2).below (Zb j7)).below e4
  refine yc (.o [] 4) (args:=#[P0 bm]) .z (Lx _ bm q5 m.toNat d5 (twI t u v x.toNat (Z.map Prod.fst) m.toNat) _ p6) ?_
  rintro _ u2 ⟨_,rfl,i7,r1,q8,rfl,n4⟩
  have o8:=(bln (bln (bln a3 c2) (Zb j7)) e4).size
  refine⟨i7,?_⟩
  have k8:=Zf n4 o8
  refine xcv (.e [] 5) (fun _ _ _ zo zx V hV=>Yt zo zx (Ya (Ze (Za k8 hV)) a1) a1 Tryz.underlying50 Tryz.underlying5 Tryz.underlying9) ?_
  refine xgk (.b [6,7]) [69,70] (show(((⟨(twI t u v x.toNat (Z.map Prod.fst) m.toNat).toArray⟩:ByteArray).toList==(⟨(twI t u v x.toNat (Z.map Prod.fst) m.toNat).toArray⟩:ByteArray).toList):Bool)=true from by simp) ?_
  have f2:=bln (bln (bln (bln a3 c2) (Zb j7)) e4) i7
  refine xr (.o [] 8) (args:=#[]) (Ld _ (hI.below f2)) fun u0 p0=>?_
  have k0:=bln f2 p0
  exact xe (.r [9,10] 3) (.bool true) ⟨rfl,k0⟩
 have l7:=of_decide_eq_false l7
 have h0:=n1.blk.below i1
 refine xlv 11 h0.rp ?_
 have a0:=bln n1.below i1
 have r6:=a0.size
 have g8:m≤3000∨14400<m:=by omega
 have hR:∀ i,i<n→(∀ m∈(Z.getD i zvD).1.2,MpR m)∧(Z.getD i zvD).1.2.length≤100000:=few_R hZ m1 hS
 refine xc 1 (args:=#[.agg #[V0 t,V0 u,V0 v,V0 x,.slice p n c],V0 m]) (Zdb p c n t u v x m Z _ (hI.below a0) hZ (hP.below a0) g8) ?_
 rintro e s9 n5
 rcases n5 with ⟨he,rfl,c0⟩|⟨he,bi,g,ci,rfl,c0,p1⟩
 ·have j5:=h0.below c0
  refine xlv 9 j5.rp ?_
  have d2:=bln a0 c0
  refine xr 1 (args:=#[.agg #[V0 t,V0 u,V0 v,V0 x,.slice p n c],V0 m]) (Rq p c n t u v x m Z _ (hI.below d2) hZ (hP.below d2) g8 he) fun v1 j8=>?_
  refine xa 3 [S0,V0 0] 44 fun t0 v0 l6=>?_
  have f9:=bln d2 j8
  have r2:=l6.ge f9
  refine xsv 1 l6.blk [S0,V0 (tlC t u v x m (Z.map Prod.fst))] fun n3 q2 s0=>?_
  refine xd 4 .z ?_
  have l0:=s0.below (Zb n3)
  refine xlv (.e [0] 2) l0.rp ?_
  have c1:=bln (q2.below (bln f9 l6.below) r2) (Zb n3)
  refine yc (.o [] 1) (args:=#[.iface 33 (V0 (tlC t u v x m (Z.map Prod.fst)))]) .z (Zc2 (tlC t u v x m (Z.map Prod.fst)) _ _ (hg.below c1) (by rw[erT,if_neg he];exact rfl)) ?_
  rintro _ v8 ⟨l3,rfl,e7,hq⟩
  refine⟨e7,?_⟩
  refine xr (.o [] 3) (args:=#[l3,.agg #[S0,V0 (tlC t u v x m (Z.map Prod.fst))]]) (Wi [] (tlC t u v x m (Z.map Prod.fst)) l3 _ _ hq ⟨_,rfl,Nf _⟩) fun u9 h8=>?_
  have d0:=(((q2.blkT ((j5.below j8).below l6.below) l6.blk Do).below (Zb n3)).below e7).below h8
  refine xlv (.e [4,5,6,7,8,9,10,11,12] 13) d0.rp ?_
  refine xlv (.e [] 15) d0.rp ?_
  have a4:=bln (bln c1 e7) h8
  refine yc (.o [] 14) (args:=#[.agg #[V0 t,V0 u,V0 v,V0 x,.slice p n c]]) .z (Vw p c n t u v x Z _ (hI.below a4) hZ (hP.below a4) hR M0) ?_
  rintro _ u8 ⟨_,rfl,e8,qo,eo,rfl,h4⟩
  have p4:=(bln (bln c1 e7) h8).size
  refine⟨e8,?_⟩
  have f8:=bln a4 e8
  refine yc (.o [] 16) (args:=#[.agg #[V0 t,V0 u,V0 v,V0 x,.slice p n c]]) .z (Ka p c n t u v x Z _ hZ (hP.below f8) M0) ?_
  rintro _ v3 ⟨_,rfl,e9,qp,ep,rfl,i3⟩
  have o7:=(bln a4 e8).size
  refine⟨e9,?_⟩
  have i9:=Za (Zf h4 p4) e9
  have j1:=Zf i3 o7
  refine xr (.o [] 17) (args:=#[.slice qo n eo,.slice qp n ep]) (Ju _ _ n _ _ (owL (Z.map Prod.fst)) _ (by rw[Jc,At];exact hZ) (Ze i9) (Ze j1) M0) fun s6 l4=>?_
  have g6:=((d0.below e8).below e9).below l4
  refine xlv (.e [18,19,20] 21) g6.rp ?_
  refine xlv (.e [] 23) g6.rp ?_
  have c4:=bln (bln f8 e9) l4
  refine xr (.o [] 22) (args:=#[.agg #[V0 t,V0 u,V0 v,V0 x,.slice p n c]]) (Wh p c n t u v x Z _ (hI.below c4) hZ (hP.below c4)) fun s5 n8=>?_
  have f3:=bln c4 n8
  refine xr (.o [] 24) (args:=#[.agg #[V0 t,V0 u,V0 v,V0 x,.slice p n c]]) (Uc p c n t u v x Z _ hZ (hP.below f3)) fun t2 p7=>?_
  refine xk (.r [25,26] 2) (show(((↑(ndA t u v x (Z.map Prod.fst)):Int) != (↑(ndA t u v x (Z.map Prod.fst)):Int)):Bool)=false from(by simp)) ?_
  have g2:=bln f3 p7
  refine xr 12 (args:=#[]) (Ld _ (hI.below g2)) fun w3 p2=>?_
  have m5:=bln g2 p2
  exact xe 5 (.bool true) ⟨rfl,m5⟩
 have f1:=h0.below c0
 refine xlv 9 f1.rp ?_
 have c9:=bln a0 c0
 refine xc 1 (args:=#[.agg #[V0 t,V0 u,V0 v,V0 x,.slice p n c],V0 m]) (Sc p c n t u v x m Z _ (hI.below c9) hZ (hP.below c9) g8 he) ?_
 rintro _ t7 ⟨bm,q5,d5,rfl,i0,hJ⟩
 refine xa 3 [S0,V0 0] 44 fun w5 u3 e0=>?_
 have g7:=bln c9 i0
 have r0:=e0.ge g7
 refine xsv 1 e0.blk [S0,V0 0] fun i8 m8 q7=>?_
 refine xd 4 .z ?_
 have l8:=q7.below (Zb i8)
 refine xlv (.e [0] 2) l8.rp ?_
 have d3:=bln (m8.below (bln g7 e0.below) r0) (Zb i8)
 refine yc (.o [] 1) (args:=#[.nilIface]) .z (Zc2 0 .nilIface _ (hg.below d3) rfl) ?_
 rintro _ v9 ⟨l2,rfl,b5,hq⟩
 refine⟨b5,?_⟩
 refine xr (.o [] 3) (args:=#[l2,.agg #[S0,V0 0]]) (Wi [] 0 l2 _ _ hq ⟨_,rfl,Nf _⟩) fun u7 c8=>?_
 have d7:=(((m8.blkT ((f1.below i0).below e0.below) e0.blk Do).below (Zb i8)).below b5).below c8
 refine xlv (.e [4,5,6,7,8,9,10,11,12] 13) d7.rp ?_
 refine xlv (.e [] 15) d7.rp ?_
 have a6:=bln (bln d3 b5) c8
 refine yc (.o [] 14) (args:=#[.agg #[V0 t,V0 u,V0 v,V0 x,.slice p n c]]) .z (Vw p c n t u v x Z _ (hI.below a6) hZ (hP.below a6) hR M0) ?_
 rintro _ u1 ⟨_,rfl,b4,qo,eo,rfl,h4⟩
 have o6:=(bln (bln d3 b5) c8).size
 refine⟨b4,?_⟩
 have g1:=bln a6 b4
 refine yc (.o [] 16) (args:=#[.agg #[V0 t,V0 u,V0 v,V0 x,.slice p n c]]) .z (Ka p c n t u v x Z _ hZ (hP.below g1) M0) ?_
 rintro _ t6 ⟨_,rfl,b7,qp,ep,rfl,i3⟩
 have o1:=(bln a6 b4).size
 refine⟨b7,?_⟩
 have k1:=Za (Zf h4 o6) b7
 have k4:=Zf i3 o1
 refine xr (.o [] 17) (args:=#[.slice qo n eo,.slice qp n ep]) (Ju _ _ n _ _ (owL (Z.map Prod.fst)) _ (by rw[Jc,At];exact hZ) (Ze k1) (Ze k4) M0) fun w6 e3=>?_
 have f7:=((d7.below b4).below b7).below e3
 refine xlv (.e [18,19,20] 21) f7.rp ?_
 refine xlv (.e [] 23) f7.rp ?_
 have c5:=bln (bln g1 b7) e3
 refine xr (.o [] 22) (args:=#[.agg #[V0 t,V0 u,V0 v,V0 x,.slice p n c]]) (Wh p c n t u v x Z _ (hI.below c5) hZ (hP.below c5)) fun w7 h5=>?_
 have a7:=bln c5 h5
 refine xr (.o [] 24) (args:=#[.agg #[V0 t,V0 u,V0 v,V0 x,.slice p n c]]) (Uc p c n t u v x Z _ hZ (hP.below a7)) fun k7 b8=>?_
 refine xk (.r [25,26] 2) (show(((↑(ndA t u v x (Z.map Prod.fst)):Int) != (↑(ndA t u v x (Z.map Prod.fst)):Int)):Bool)=false from(by simp)) ?_
 refine xd 13 .z ?_
 have a2:=(((((((((((p1.below i0).below e0.below).only (Zd.of_upd (T:=[44]) m8 e0.blk Do) Do).below (Zb i8)).below b5).below c8).below b4).below b7).below e3).below h5).below b8).below (Zb k7)
 have a1:(twI t u v x.toNat (Z.map Prod.fst) m.toNat).length=m.toNat*256:=a2.len
 refine yc (.o [0,3] 1) (args:=#[P0 bi]) .z (Eb bi _ (m.toNat*256) ci (twI t u v x.toNat (Z.map Prod.fst) m.toNat) _ a2.blk (Ya (Ze a2.row) a1) a1 (by have:=a2.hn;omega)) ?_
 rintro _ v7 ⟨_,rfl,e5,o0⟩
 have o9:=(bln (bln a7 b8) (Zb k7)).size
 refine⟨e5,?_⟩
 have a8:=Zf o0 o9
 unfold Pj at a8
 rw[a1] at a8
 obtain⟨r7,q9,rfl⟩:=(Ze a8).slice
 refine xcv (.e [] 2) (fun _ _ _ zo zx V hV=>Yt zo zx (Ya (Ze (Za a8 hV)) a1) a1 Tryz.underlying50 Tryz.underlying5 Tryz.underlying9) ?_
 have q1:=(((((((((((hJ.below e0.below).only (Zd.of_upd (T:=[44]) m8 e0.blk Do) Do).below (Zb i8)).below b5).below c8).below b4).below b7).below e3).below h5).below b8).below (Zb k7)).below e5
 refine yc (.o [] 4) (args:=#[P0 bm]) .z (Lx _ bm q5 m.toNat d5 (twI t u v x.toNat (Z.map Prod.fst) m.toNat) _ q1) ?_
 rintro _ v4 ⟨_,rfl,k3,r1,q8,rfl,n4⟩
 have n7:=(bln (bln (bln a7 b8) (Zb k7)) e5).size
 refine⟨k3,?_⟩
 have j6:=Zf n4 n7
 refine xcv (.e [] 5) (fun _ _ _ zo zx V hV=>Yt zo zx (Ya (Ze (Za j6 hV)) a1) a1 Tryz.underlying50 Tryz.underlying5 Tryz.underlying9) ?_
 refine xgk (.b [6,7]) [69,70] (show(((⟨(twI t u v x.toNat (Z.map Prod.fst) m.toNat).toArray⟩:ByteArray).toList==(⟨(twI t u v x.toNat (Z.map Prod.fst) m.toNat).toArray⟩:ByteArray).toList):Bool)=true from by simp) ?_
 have g0:=bln (bln (bln (bln a7 b8) (Zb k7)) e5) k3
 refine xr (.o [] 8) (args:=#[]) (Ld _ (hI.below g0)) fun w1 q0=>?_
 have m0:=bln g0 q0
 exact xe (.r [9,10] 3) (.bool true) ⟨rfl,m0⟩
end Go.Proofs.YtekomodnkfhihaaGreatDoor
namespace Go.Proofs.YtekomodnkfhihaaGreatDoor
set_option maxHeartbeats 8000000
set_option maxRecDepth 100000
open Go.ChangeShapes Go.WideShapes Go.ChangeAt Go.RowKit Go.Joins Go.Deep
set_option linter.unusedVariables false
attribute [local irreducible] wpList wpAnyH Code.wp Oper.wp Go
theorem flatm{α:Type}{f:α→List Value}{m:Nat}(hf:∀ x,(f x).length=m):∀ (T:List α) (j:Nat) (x:Value),(T.flatMap f)[j]? = some x→∃ i,∃ h:i<T.length,∃ r,r<m∧j=i*m+r∧(f T[i])[r]? = some x
 | [],j,x,h=>by simp at h
 | y::T,j,x,h=>by
  rw[I7,G6] at h
  by_cases hj:j<m
  ·rw[if_pos (by rw[hf];exact hj)] at h
   exact⟨0,by simp,j,hj,by omega,by simpa using h⟩
  ·rw[if_neg (by rw[hf];exact hj),hf] at h
   obtain⟨i,hi,r,hr,e,hx⟩:=flatm hf T (j-m) x h
   exact⟨i+1,by simpa using hi,r,hr,by rw[D6];omega,by simpa using hx⟩
theorem Zht{H:Type}{P:Program}{e:TypeId}:∀ (ds:List (DataW H)),(∀ n∈DataW.weightsAll P e ds,n≤reachBytes)→∀ d∈ds,∀ n∈d.weights P e,n≤reachBytes
 | [],_,d,hd,_,_=>by cases hd
 | x::r,h,d,hd,n,hn=>by
  rw[DataW.weightsAll] at h
  rcases E9.1 hd with rfl|hd
  ·exact h n (List.mem_append_left _ hn)
  ·exact Zht r (fun k hk=>h k (List.mem_append_right _ hk)) d hd n hn
theorem Zjr{H:Type}{P:Program}{t e:TypeId}{elems spare:List (DataW H)}(hu:P.underlying t=some (.slice e))(h:∀ n∈(DataW.slice elems spare).weights P t,n≤reachBytes) :
 elems.length*P.bytesOf e≤reachBytes∧∀ d∈elems,∀ n∈d.weights P e,n≤reachBytes:=by
 simp only[DataW.weights,hu] at h
 refine⟨N0 (E7 _ (Le _ _)) (h _ C2),Zht _ fun n hn=>h n (D8 _ (List.mem_append_left _ hn))⟩
theorem Zko{H:Type}{P:Program}{t:TypeId}{fs:Array Field}{parts:List (DataW H)}(hu:P.underlying t=some (.struct fs))(h:∀ n∈(DataW.agg parts).weights P t,n≤reachBytes){i:Nat}{f:Field}{d:DataW H}(hf:fs[i]? = some f)(hd:parts[i]? = some d):∀ n∈d.weights P f.type,n≤reachBytes:=by
 simp only[DataW.weights,hu] at h
 intro n hn
 refine h n (DataW.weights_mem_each (j:=i) (t:=f.type) ?_ hd n hn)
 rw[B9,Array.getElem?_toList,hf];rfl
theorem Rv{α H:Type}{enc:TypeId×Value→H}{P:Program}{W:World}{t e:TypeId}{v:Value}{y:DataW H×List MemPlace}{fuel m:Nat}{f:α→List Value}{G:α→Prop}(hf:∀ x,(f x).length=m)(hm:0<m)(ht:P.underlying t=some (.slice e))(hC:P.cellsOf e=m)
 (each:∀ n cs z,cs.length=m→DataW.trod enc P W 0 (fun _=>true) true n e cs=some z→(∀ k∈z.1.weights P e,k≤reachBytes)→∃ q,cs=f q∧G q) (h:DataW.trod enc P W 0 (fun _=>true) true fuel t [v]=some y) (hw:∀ n∈y.1.weights P t,n≤reachBytes) :
 ∃ (L:List α) (a:O0) (c:Nat),v=.slice a L.length c∧Sl W (.slice a L.length c) L.length (L.flatMap f)∧(∀ q∈L,G q)∧L.length*P.bytesOf e≤reachBytes:=by
 rcases open_slice ht h with ⟨a2,_⟩|⟨x,l,c,k,n,D,Pl,a2,_,hl,b1,b2,hy,hi⟩
 ·simp at a2
  subst a2
  exact⟨[],none,0,rfl,.inl ⟨none,0,rfl,rfl,rfl⟩,fun q hq=>(by cases hq),by simp⟩
 ·simp at a2
  subst a2
  rw[hy] at hw
  obtain⟨a7,b0⟩:=Zjr ht hw
  rw[At,List.length_range] at a7
  obtain⟨b,a4,a5⟩:=x
  have b4:l≤k:=by rw[b2];simp;omega
  by_cases hlen:l=0
  ·subst hlen
   exact⟨[],_,_,rfl,.inl ⟨_,_,rfl,rfl,rfl⟩,fun q hq=>(by cases hq),a7⟩
  have a3:a5=none:=by
   obtain⟨cs,hc,a8⟩:=hi 0 M0
   rw[hC] at hc
   obtain⟨_,a9,a6⟩:=World.cells?_some hc
   have a0:=a6 0 M0
   rw[B5 M0] at a0
   simpa [Addr.add] using World.cell?_spot a0
  subst a3
  have eA:∀ o n,(⟨b,o,none⟩:Addr).add n=⟨b,o+n,none⟩:=by intro o n;unfold Addr.add;split<;>simp_all
  have a1:∀ i:Fin l,∃ q:α,(∀ r x,(f q)[r]? = some x→W.cell? ⟨b,a4+(i.val*m+r),none⟩=some x)∧G q:=by
   intro i
   obtain⟨cs,hc,a8⟩:=hi i.val (by have:=i.2;omega)
   rw[hC] at hc
   obtain⟨_,a9,a6⟩:=World.cells?_some hc
   obtain⟨q,hq,hG⟩:=each n cs _ a9 a8 (b0 (D i.val) (List.mem_map.2 ⟨i.val,D9.2 i.2,rfl⟩))
   refine⟨q,fun r x hr=>?_,hG⟩
   rw[←hq] at hr
   have b3:r<m:=by have:=(List.getElem?_eq_some_iff.1 hr).1;omega
   have a0:=a6 r b3
   rw[hr,eA,eA] at a0
   rw[←D4];exact a0
  refine⟨List.ofFn fun i=>Classical.choose (a1 i),some ⟨b,a4,none⟩,c,by rw[List.length_ofFn],?_,fun q hq=>?_,by rw[List.length_ofFn];exact a7⟩
  ·rw[List.length_ofFn]
   refine .inr ⟨b,a4,c,rfl,hl,b1,fun j x hj=>?_⟩
   obtain⟨i,hi,r,hr,e,hx⟩:=flatm hf _ j x hj
   rw[List.getElem_ofFn] at hx
   rw[e]
   exact(Classical.choose_spec (a1 ⟨i,by simpa using hi⟩)).1 r x hx
  ·obtain⟨i,rfl⟩:=List.mem_ofFn.1 hq
   exact(Classical.choose_spec (a1 i)).2
theorem Zk4{n:Int}(h:(Lit.int .i64 n).wf=true):InI n:=by
 have h1:decide (IntKind.i64.min≤n)=true∧decide (n≤IntKind.i64.max)=true:=by simpa [Lit.wf] using h
 have h2:=of_decide_eq_true h1.1
 have h3:=of_decide_eq_true h1.2
 have e1:IntKind.i64.min = -9223372036854775808:=by decide
 have e2:IntKind.i64.max=9223372036854775807:=by decide
 unfold InI
 omega
theorem Zhn{H:Type}{enc:TypeId×Value→H}{P:Program}{W:World}{e:TypeId}{f0 f1 f2:Field}(he:P.underlying e=some (.struct #[f0,f1,f2]))(hone:oneCellFields P #[f0,f1,f2]=true)(h0:P.underlying f0.type=some (.int .i64))(h1:P.underlying f1.type=some (.int .i64))(h2:P.underlying f2.type=some (.int .i64)) :
 ∀ n cs z,cs.length=3→DataW.trod enc P W 0 (fun _=>true) true n e cs=some z→(∀ k∈z.1.weights P e,k≤reachBytes)→∃ q:Mp,cs=Rp q∧MpR q:=by
 intro n cs z a3 a4 _
 obtain⟨y0,y1,y2,n',_,_,t0,t1,t2⟩:=trod_struct3 he a4
 obtain⟨o0,k0⟩:=hone_of hone 0 f0 rfl
 obtain⟨o1,k1⟩:=hone_of hone 1 f1 rfl
 obtain⟨o2,k2⟩:=hone_of hone 2 f2 rfl
 match cs,a3 with
 | [c0,c1,c2],_ =>
  rw[o0,k0] at t0
  rw[o1,k1] at t1
  rw[o2,k2] at t2
  obtain⟨z0,a1,_,r0⟩:=DataW.trod_int (cs:=[c0]) h0 (by simpa using t0)
  obtain⟨z1,a2,_,r1⟩:=DataW.trod_int (cs:=[c1]) h1 (by simpa using t1)
  obtain⟨z2,a0,_,r2⟩:=DataW.trod_int (cs:=[c2]) h2 (by simpa using t2)
  simp only[I1,and_true] at a1 a2 a0
  subst a1 a2 a0
  exact⟨(z0,z1,z2),rfl,Zk4 r0,Zk4 r1,Zk4 r2⟩
def DvSz(B:Nat)(q:Zv):Prop:=(∀ m∈q.1.2,MpR m)∧q.1.2.length*B≤reachBytes
theorem Zhp{Z:List Zv}(h:∀ z∈Z,DvSz 24 z):∀ i,i<Z.length→(∀ m∈(Z.getD i zvD).1.2,MpR m)∧(Z.getD i zvD).1.2.length≤6000000000000:=fun i hi=>by
 have e:Z.getD i zvD=Z[i]:=by simp[List.getD,hi]
 obtain⟨h1,h2⟩:=h (Z.getD i zvD) (by rw[e];exact E5 hi)
 have h3:=reachBytes_lt
 exact⟨h1,by omega⟩
theorem Zjv{H:Type}{enc:TypeId×Value→H}{P:Program}{W:World}{e em:TypeId}{f0 f1 f2 f3 f4 m0 m1 m2:Field}(he:P.underlying e=some (.struct #[f0,f1,f2,f3,f4]))(hone:oneCellFields P #[f0,f1,f2,f3,f4]=true)(h0:P.underlying f0.type=some (.int .i64))(h1:P.underlying f1.type=some (.int .i64))(h2:P.underlying f2.type=some (.int .i64))(h3:P.underlying f3.type=some (.int .i64))(h4:P.underlying f4.type=some (.slice em))
 (hme:P.underlying em=some (.struct #[m0,m1,m2])) (hmone:oneCellFields P #[m0,m1,m2]=true) (hmC:P.cellsOf em=3) (hm0:P.underlying m0.type=some (.int .i64)) (hm1:P.underlying m1.type=some (.int .i64)) (hm2:P.underlying m2.type=some (.int .i64)) :
 ∀ n cs z,cs.length=5→DataW.trod enc P W 0 (fun _=>true) true n e cs=some z→(∀ k∈z.1.weights P e,k≤reachBytes)→∃ q:Zv,cs=devZ q∧(Sts Rp W (.slice q.2.1 q.1.2.length q.2.2) q.1.2∧DvSz (P.bytesOf em) q):=by
 intro n cs z a6 a5 hw
 obtain⟨xs,n',_,rfl,hl,a0,hf⟩:=DataW.trod_struct he a5
 obtain⟨o0,k0⟩:=hone_of hone 0 f0 rfl
 obtain⟨o1,k1⟩:=hone_of hone 1 f1 rfl
 obtain⟨o2,k2⟩:=hone_of hone 2 f2 rfl
 obtain⟨o3,k3⟩:=hone_of hone 3 f3 rfl
 obtain⟨o4,k4⟩:=hone_of hone 4 f4 rfl
 match xs,a0 with
 | [y0,y1,y2,y3,y4],_ =>
  have t0:=hf 0 f0 rfl
  have t1:=hf 1 f1 rfl
  have t2:=hf 2 f2 rfl
  have t3:=hf 3 f3 rfl
  have t4:=hf 4 f4 rfl
  have w4:=Zko he hw (i:=4) (f:=f4) (d:=y4.1) rfl rfl
  match cs,a6 with
  | [c0,c1,c2,c3,c4],_ =>
   rw[o0,k0] at t0
   rw[o1,k1] at t1
   rw[o2,k2] at t2
   rw[o3,k3] at t3
   rw[o4,k4] at t4
   obtain⟨z0,a2,_,_⟩:=DataW.trod_int (cs:=[c0]) h0 (by simpa using t0)
   obtain⟨z1,a3,_,_⟩:=DataW.trod_int (cs:=[c1]) h1 (by simpa using t1)
   obtain⟨z2,a1,_,_⟩:=DataW.trod_int (cs:=[c2]) h2 (by simpa using t2)
   obtain⟨z3,a4,_,_⟩:=DataW.trod_int (cs:=[c3]) h3 (by simpa using t3)
   obtain⟨M,a,c,rfl,hM,hG,hB⟩:=Rv (v:=c4) (y:=y4) (G:=MpR) Xj Do h4 hmC (Zhn hme hmone hm0 hm1 hm2) (by simpa using t4) w4
   simp only[I1,and_true] at a2 a3 a1 a4
   subst a2 a3 a1 a4
   exact⟨(((z0,z1,z2,z3),M),a,c),rfl,hM,hG,hB⟩
theorem Zf0{H:Type}{enc:TypeId×Value→H}{P:Program}{W:World}{r:Reach}{b0:Nat}{t ed em:TypeId}{p0 p1 p2 p3 p4 f0 f1 f2 f3 f4 m0 m1 m2:Field}{v:Value}{d:DataW H}{p:List MemPlace}(hs:P.underlying t=some (.struct #[p0,p1,p2,p3,p4]))(hsone:oneCellFields P #[p0,p1,p2,p3,p4]=true)(hsC:P.cellsOf t=5)
  (g0:P.underlying p0.type=some (.int .i64)) (g1:P.underlying p1.type=some (.int .i64)) (g2:P.underlying p2.type=some (.int .i64)) (g3:P.underlying p3.type=some (.int .i64)) (g4:P.underlying p4.type=some (.slice ed))
  (he:P.underlying ed=some (.struct #[f0,f1,f2,f3,f4])) (hone:oneCellFields P #[f0,f1,f2,f3,f4]=true) (hC:P.cellsOf ed=5) (h0:P.underlying f0.type=some (.int .i64)) (h1:P.underlying f1.type=some (.int .i64)) (h2:P.underlying f2.type=some (.int .i64)) (h3:P.underlying f3.type=some (.int .i64)) (h4:P.underlying f4.type=some (.slice em))
  (hme:P.underlying em=some (.struct #[m0,m1,m2])) (hmone:oneCellFields P #[m0,m1,m2]=true) (hmC:P.cellsOf em=3) (hm0:P.underlying m0.type=some (.int .i64)) (hm1:P.underlying m1.type=some (.int .i64)) (hm2:P.underlying m2.type=some (.int .i64))
  (hv:Value.okWide P W r b0 t v) (h:DataW.Trod enc P W 0 (fun _=>true) true t v d p) (hw:∀ n∈d.weights P t,n≤reachBytes) :
  ∃ (tx time unit data:Int) (q:O0) (c:Nat) (Z:List Zv),v=.agg #[V0 tx,V0 time,V0 unit,V0 data,.slice q Z.length c]∧DevsR W q c Z∧∀ z∈Z,DvSz (P.bytesOf em) z:=by
 obtain⟨cs,rfl,a9⟩:=okWide_struct hs hv
 obtain⟨a7,hx⟩:=h
 obtain⟨xs,n,_,hd,hl,a1,a0⟩:=DataW.trod_struct hs hx
 have a8:d=.agg (xs.map (·.1)):=congrArg Prod.fst hd
 subst a8
 have a6:cs.toList.length=5:=by rw[hsC] at hl;exact hl
 obtain⟨L⟩:=cs
 match L,a6,xs,a1 with
 | [c0,c1,c2,c3,c4],_,[y0,y1,y2,y3,y4],_ =>
  obtain⟨o0,k0⟩:=hone_of hsone 0 p0 rfl
  obtain⟨o1,k1⟩:=hone_of hsone 1 p1 rfl
  obtain⟨o2,k2⟩:=hone_of hsone 2 p2 rfl
  obtain⟨o3,k3⟩:=hone_of hsone 3 p3 rfl
  obtain⟨o4,k4⟩:=hone_of hsone 4 p4 rfl
  have a0:∀ (i:Nat) (f:Field),(#[p0,p1,p2,p3,p4]:Array Field)[i]? = some f→DataW.trod enc P W 0 (fun _=>true) true n f.type (([c0,c1,c2,c3,c4].drop f.offset).take (P.cellsOf f.type))=[y0,y1,y2,y3,y4][i]? := a0
  have t0:=a0 0 p0 rfl
  have t1:=a0 1 p1 rfl
  have t2:=a0 2 p2 rfl
  have t3:=a0 3 p3 rfl
  have t4:=a0 4 p4 rfl
  rw[o0,k0] at t0
  rw[o1,k1] at t1
  rw[o2,k2] at t2
  rw[o3,k3] at t3
  rw[o4,k4] at t4
  obtain⟨z0,a2,_,_⟩:=DataW.trod_int (cs:=[c0]) g0 (by simpa using t0)
  obtain⟨z1,a3,_,_⟩:=DataW.trod_int (cs:=[c1]) g1 (by simpa using t1)
  obtain⟨z2,a4,_,_⟩:=DataW.trod_int (cs:=[c2]) g2 (by simpa using t2)
  obtain⟨z3,a5,_,_⟩:=DataW.trod_int (cs:=[c3]) g3 (by simpa using t3)
  have w4:=Zko hs hw (i:=4) (f:=p4) (d:=y4.1) rfl rfl
  obtain⟨Z,q,c,rfl,hR,hG,_⟩:=Rv (v:=c4) (y:=y4) Xs Do g4 hC (Zjv he hone h0 h1 h2 h3 h4 hme hmone hmC hm0 hm1 hm2) (by simpa using t4) w4
  simp only[I1,and_true] at a2 a3 a4 a5
  subst a2 a3 a4 a5
  refine⟨z0,z1,z2,z3,q,c,Z,rfl,⟨hR,fun i hi=>?_⟩,fun z hz=>(hG z hz).2⟩
  have e:Z.getD i zvD=Z[i]:=by simp[List.getD,hi]
  rw[e]
  exact(hG _ (E5 hi)).1
end Go.Proofs.YtekomodnkfhihaaGreatDoor
