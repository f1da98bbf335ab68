/- Package lay: all that is laid. -/
import Derived.Defers
import Derived.Recover
import Derived.Test.YtceeiinepijokaaGreatMg5
namespace Go.Proofs.YtceeiinepijokaaGreat
set_option maxHeartbeats 8000000
set_option maxRecDepth 100000
open Go.RowKit Go.Extern.Stop Go.Stop Go.Extern
set_option linter.unusedVariables false
attribute [local irreducible] wpList wpAnyH Code.wp Oper.wp Go
theorem dvs_getZ{Z:List Zv}{L:List Dv}(hL:Z.map Prod.fst=L){i:Nat}(h:i<Z.length):L.getD i dvD=(Z.getD i zvD).1:=by rw[←hL];exact zfst h _
theorem F1_le(L:List Dv):Xm (Mk L)+1≤Xm (F1 L)∧Xm (F1 L)+1≤Xm (F2 L):=by
 have e1:Xm (F1 L)=Xm (Mk L)+Mc (1,Bd L (Zb0 L)):=Kt _ _
 have e2:Xm (F2 L)=Xm (F1 L)+Mc (3,Bz L (Lb L)):=Kt _ _
 have:=Mz (1,Bd L (Zb0 L))
 have:=Mz (3,Bz L (Lb L))
 omega
theorem Mj(B ba b g nn cc:Nat)(pa:O0)(ca N:Nat)(bs:Bl)(p:O0)(c n:Nat)(data:Int)(Z:List Zv)(L:List Dv)(w:World)(hZ:Z.length=n)(hL:Z.map Prod.fst=L)(hD:DevsOk data L)(hd:data≤65536)(hP:∀ W,Below B w W→DevsR W p c Z)(hC:AlC B ba nn cc ca 1 N)(hA:AlF B ba b g nn cc pa ca N bs [] w)(hr:Xm (F2 L)≤N)(hBw:B≤w.heap.size) :
 C0 66 #[.agg #[P0 ba],.slice p n c] w ((fun e w'=>e=.returned (.tuple #[V0 (↑(Xm (F1 L)):Int),V0 (↑(Xm (F2 L)):Int)])∧Below B w w'∧Zd [152,5,32,122] w w'∧AlF B ba b g nn cc pa ca N bs (F2 L) w')):=by
 have i2:∀ W,Below B w W→Zd [152,5,32,122] w W→DevsR W p c Z:=fun W h _=>hP W h
 have k3:L.length=n:=by rw[←hL,List.length_map];exact hZ
 have l6:=F1_le L
 have i9:=hD.few
 have k4:N≤14400:=by have a:=hC.hf;have b:=hC.hn;omega
 have k9:=Sl.len ((hP w (Below.refl _ _)).rowN hZ)
 refine zin 58 Tryz.func66 ?_
 refine xa 2 [P0 ba] 99 fun b1 W1 n1=>?_
 have g8:=hA.below n1.below
 have hB:=blB (Below.refl B w) hBw n1.below
 have hO:=(show Zd [152,5,32,122] w _ from(Zd.of_below n1.below))
 refine zl 19 58 (fun zm j9 V=>∃ (i:Nat) (p7:O0) (c7:Nat) (p8:O0) (c8:Nat),j9=[(2,P0 b1),(4,V0 0),(5,V0 0),(6,.slice p7 i c7),(7,.slice p8 i c8),(13,.slice p n c),(14,V0 (n:Int)),(15,V0 (i:Int))]∧zm=n-((i:Int)).toNat∧Below B w V∧Zd [152,5,32,122] w V∧Blk V b1 ([P0 ba]) 99∧V.ownsRow w.heap.size 122 3 (.slice p7 i c7) i (((Bd L (Zb0 L)).take i).flatMap Kv)∧V.ownsRow w.heap.size 122 3 (.slice p8 i c8) i (((Bz L (Lb L)).take i).flatMap Kv)∧AlF B ba b g nn cc pa ca N bs (Mk (L.take i)) V∧i≤n∧Us (.slice p7 i c7) (.slice p8 i c8)) ⟨0,none,0,none,0,rfl,rfl,hB,hO,n1.blk,World.ownsRow_nil _ _ _ _,World.ownsRow_nil _ _ _ _,g8,Nat.zero_le _,Us.nil _⟩ ?_
 rintro _ _ W2 ⟨i,p7,c7,p8,c8,rfl,rfl,a5,d2,a7,d6,d4,hA,hi,d1⟩ J2 i7 r2
 refine xid 6 ((i:Int)<(n:Int)) (fun j8=>?_) (fun j8=>?_)
 ·have e0:=dvs_getZ hL (i:=i) (by omega)
  have i5:=Zfu (L:=L) (i:=i) (by omega)
  rw[e0] at i5
  have j4:=hD.sum
  have f9:=(hD.each (L.getD i dvD) (gd_mem _ (by omega))).maps
  have e1:=hD.each (L.getD i dvD) (gd_mem _ (by omega))
  rw[e0] at f9 e1
  have h9:Mk (L.take i)++[(2,Ma (Z.getD i zvD).1.2)]=Mk (L.take (i+1)):=by rw[Zam (by omega),e0]
  have j6:Lx (2,Ma (Z.getD i zvD).1.2):=by rw[←e0];exact Zgr hD (by omega)
  have l2:=rootR_pos (L:=L) (i:=i) (by omega)
  have l4:=Zbe (L:=L) (i+1)
  refine xx 6 _ n i 5 ((hP _ (Below.refl _ _)).someN hZ (i:=i) (by omega)) ?_
  refine xlv 0 (Sts.rp (k:=i) (i2 _ a5 d2).row Pt zvD (by omega) (by decide)) ?_
  refine xa 0 [V0 0,V0 0,V0 0,V0 0,S0] 42 fun b4 W4 n4=>?_
  have g4:=n4.ge0 a5
  refine xsv 0 n4.blk [V0 ((Z.getD i zvD).1.1.1),V0 ((Z.getD i zvD).1.1.2.1),V0 ((Z.getD i zvD).1.1.2.2.1),V0 ((Z.getD i zvD).1.1.2.2.2),.slice ((Z.getD i zvD).2.1) ((Z.getD i zvD).1.2.length) ((Z.getD i zvD).2.2)] fun W5 u5 k5=>?_
  refine xd 3 (.t B [152,5,32,122]) ?_
  have a3:=(u5.blkT (a7.below n4.below) n4.blk (by decide)).below (Za W5)
  refine xlvt (.e [] 0) (.t B [152,5,32,122]) (fun V hV=>(a3.only hV.2 (by decide)).rp) ?_
  have f6:=k5.below (Za W5)
  refine xbt (.e [1] 2) 4 B [152,5,32,122] f6 ?_
  have f5:=(Zd.upd_new (d2.trans (Zd.of_below n4.below)) u5 g4).trans (Zd.of_below (Za W5))
  have f4:=blB (u5.below (blB a5 hBw n4.below) (Nat.le_trans hBw g4)) hBw (Za W5)
  refine yc (.o [] 3) (args:=#[.slice ((Z.getD i zvD).2.1) ((Z.getD i zvD).1.2.length) ((Z.getD i zvD).2.2)]) (.t B [152,5,32,122]) (lay_maps (Z.getD i zvD).2.1 (Z.getD i zvD).2.2 data (Z.getD i zvD).1.2 _ ((i2 _ f4 f5).each i (by omega)) f9 hd (by omega)) ?_
  rintro _ W6 ⟨_,rfl,d0,ql,dl,rfl,j0⟩
  have j2:=(blB (u5.below (blB a5 hBw n4.below) (Nat.le_trans hBw g4)) hBw (Za W5)).size
  refine⟨(SF.of_below _ d0),?_⟩
  have c4:=Zf j0 j2
  have h1:=(((hA.below n4.below).only (Zd.of_upd (T:=[42]) u5 n4.blk (by decide)) (by decide)).below (Za W5)).below d0
  have e3:=blB f4 hBw d0
  refine yc (.o [] 4) (args:=#[.agg #[P0 ba],V0 2,.slice ql ((Z.getD i zvD).1.2.length) dl]) (.t B [152,5,32,122]) (by have q:=Og B ba b g nn cc pa ca N bs (Mk (L.take i)) 2 ql dl (Z.getD i zvD).1.2.length (Ma (Z.getD i zvD).1.2) _ (by rw[Kq]) hC h1 (j6) (by rw[h9];have:=Zbe (L:=L) (i+1);omega) (fun W _ h2=>Ze (Zi c4 h2 (by decide))) (Nat.le_trans hBw e3.size);rw[h9] at q;exact q) ?_
  rintro _ W7 ⟨rfl,i1,d3,hA⟩
  refine⟨(Hm i1 d3),?_⟩
  refine xd (.r [5] 3) (.t B [122]) ?_
  have e7:=((f6.below d0).only d3 (by decide)).below (Za W7)
  refine xbt (.e [0,1] 2) 0 B [122] e7 ?_
  refine xr (.o [3] 4) (args:=#[V0 (↑(Xm (Mk (L.take (i+1)))):Int)]) (Tv (↑(Xm (Mk (L.take (i+1)))):Int) (by omega) (by omega) _) fun W8 c9=>?_
  refine xbs (.o [5] 6) 1 [V0 ((Z.getD i zvD).1.1.1),.string ⟨(leB (↑(Xm (Mk (L.take (i+1)))):Int) 4).toArray⟩,V0 0] 122 fun b9 W9 n9=>?_
  have e4:=blB (blB (e3.trans i1) hBw (Za W7)) hBw c9
  have g9:=n9.ge0 e4
  have a9:=Zb (Zb (Zi (Zb (Zb (u5.own2 (Zb d6 n4.below) n4.blk (by decide)) (Za W5)) d0) d3 (by decide)) (Za W7)) c9
  have g0:=Zr a9 n9
  have b0:=Zb (Zb (Zi (Zb (Zb (u5.own2 (Zb d4 n4.below) n4.blk (by decide)) (Za W5)) d0) d3 (by decide)) (Za W7)) c9
  have g1:=Zr b0 n9
  have f3:=Zb (Zb (Zi c4 d3 (by decide)) (Za W7)) c9
  have g3:=Zr f3 n9
  have a0:=Zb a9 n9.below
  have f8:=blB e4 hBw n9.below
  refine ybi (.o [] 7) (.t B [122]) fun _ _ _ _ zJ zQ zo zx zy zK=>Vn (b:=b9) (c:=1) (m:=1) (news:=[V0 ((Z.getD i zvD).1.1.1),.string ⟨(leB (↑(Xm (Mk (L.take (i+1)))):Int) 4).toArray⟩,V0 0]) (.agg #[V0 0,.string ⟨#[]⟩,V0 0]) 3 32 (i+1) ((((Bd L (Zb0 L)).take (i+1)).flatMap Kv)) zo Tryz.underlying105 (by kernel_rfl) rfl (by decide) zx a0 zy n9.blk rfl (by simp[Value.oneCell']) (by unfold maxLen;omega) (by omega) f8.size (by rfl) (by have e:=Wv (L:=L) (R:=Zb0 L) (i:=i) (by omega);rw[e0] at e;exact Zco (by rw[Kl];omega) e) fun j7 j5 k0 i6 a4 f1 h3=>?_
  have b2:=Zb b0 n9.below
  have b5:=d1.row b2 a4
  replace d1:=(d1.grow b2 h3)
  have c0:=b5
  refine zK _ _ (Xa (f1.mono hBw) a4 a0 (by decide)) ?_
  have b3:=((e7.below c9).below n9.below).grown a4 a0 (by decide)
  refine xb (.r [8] 5) 4 b3 ?_
  refine xb 2 1 b3 ?_
  refine xb 1 2 b3 ?_
  refine xb 1 3 b3 ?_
  refine xa 1 [V0 0,V0 0,V0 0,V0 0] 176 fun k6 k1 a2=>?_
  have e5:=f8.trans (f1.mono hBw)
  have i0:=a2.ge0 e5
  refine xsv 0 a2.blk [V0 (↑((Z.getD i zvD).1.2.length):Int),V0 ((Z.getD i zvD).1.1.2.1),V0 ((Z.getD i zvD).1.1.2.2.1),V0 ((Z.getD i zvD).1.1.2.2.2)] fun c3 d5 i4=>?_
  refine xd 2 (.t B [122]) ?_
  have g5:=(d5.blkT (b3.below a2.below) a2.blk (by decide)).below (Za c3)
  refine xbt (.e [0,1] 2) 0 B [122] g5 ?_
  have e8:=i4.below (Za c3)
  refine xlvt (.e [] 3) (.t B [122]) (fun V hV=>(e8.only hV.2 (by decide)).rp) ?_
  refine xr (.o [] 4) (args:=#[.agg #[V0 (↑((Z.getD i zvD).1.2.length):Int),V0 ((Z.getD i zvD).1.1.2.1),V0 ((Z.getD i zvD).1.1.2.2.1),V0 ((Z.getD i zvD).1.1.2.2.2)]]) (Aa data (↑(Z.getD i zvD).1.2.length:Int) (Z.getD i zvD).1 _ e1 ⟨by omega,by omega⟩) fun l0 a6=>?_
  refine xbs (.o [5] 6) 1 [V0 ((Z.getD i zvD).1.1.1),.string ⟨(Lv (↑(Z.getD i zvD).1.2.length:Int) (Z.getD i zvD).1).toArray⟩,V0 0] 122 fun i8 l1 b7=>?_
  have e9:=blB (blB (d5.below (blB e5 hBw a2.below) (Nat.le_trans hBw i0)) hBw (Za c3)) hBw a6
  have l3:=b7.ge0 e9
  have a8:=Zb (Zb (d5.own2 (Zb c0 a2.below) a2.blk (by decide)) (Za c3)) a6
  have e2:=Zr a8 b7
  have c5:=Zb (Zb (d5.own2 (Zb i6 a2.below) a2.blk (by decide)) (Za c3)) a6
  have g2:=Zr c5 b7
  have a1:=Zb a8 b7.below
  have f7:=blB e9 hBw b7.below
  refine ybi (.o [] 7) (.t B [122]) fun _ _ _ _ zJ zQ zo zx zy zK=>Vn (b:=i8) (c:=1) (m:=1) (news:=[V0 ((Z.getD i zvD).1.1.1),.string ⟨(Lv (↑(Z.getD i zvD).1.2.length:Int) (Z.getD i zvD).1).toArray⟩,V0 0]) (.agg #[V0 0,.string ⟨#[]⟩,V0 0]) 3 32 (i+1) ((((Bz L (Lb L)).take (i+1)).flatMap Kv)) zo Tryz.underlying105 (by kernel_rfl) rfl (by decide) zx a1 zy b7.blk rfl (by simp[Value.oneCell']) (by unfold maxLen;omega) (by omega) f7.size (by rfl) (by have e:=Wf (L:=L) (C:=Lb L) (i:=i) (by omega);unfold Lb at e;rw[e0] at e;exact Zco (by rw[Kk];omega) e) fun i3 j1 l5 j3 b6 f2 g7=>?_
  have c6:=Zb c5 b7.below
  have c2:=d1.symm.row c6 b6
  replace d1:=(d1.symm.grow c6 g7).symm
  have d7:=c2
  refine zK _ _ (Xa (f2.mono hBw) b6 a1 (by decide)) ?_
  refine xwm (.r [8] 4) ((i:Int)+1) (↑(i+1):Int) ?_
  have h8:=f7.trans (f2.mono hBw)
  have h5:=(Zd.grown_new ((((Zd.upd_new ((Zd.grown_new (((((f5.trans (Zd.of_below d0)).trans (d3.wide (by decide))).trans (Zd.of_below (Za W7))).trans (Zd.of_below c9)).trans (Zd.of_below n9.below)) a4 a0).trans (Zd.of_below a2.below)) d5 i0).trans (Zd.of_below (Za c3))).trans (Zd.of_below a6)).trans (Zd.of_below b7.below)) b6 a1)
  have b8:=((((d5.blkT (((((((a3.below d0).only d3 (by decide)).below (Za W7)).below c9).below n9.below).grown a4 a0 (by decide)).below a2.below) a2.blk (by decide)).below (Za c3)).below a6).below b7.below).grown b6 a1 (by decide)
  have h0:=(((((((((hA.below (Za W7)).below c9).below n9.below).only (Zd.of_grown (T:=[122]) a4 a0 (by decide)) (by decide)).below a2.below).only (Zd.of_upd (T:=[176]) d5 a2.blk (by decide)) (by decide)).below (Za c3)).below a6).below b7.below).only (Zd.of_grown (T:=[122]) b6 a1 (by decide)) (by decide)
  exact ze 2 (i7 _ _ _ ⟨i+1,_,_,_,_,rfl,rfl,h8,h5,b8,d7,j3,h0,by omega,d1⟩ (by omega))
 have k7:i=n:=by omega
 rw[List.take_of_length_le (by rw[Kl];omega)] at d6
 rw[List.take_of_length_le (by rw[Kk];omega)] at d4
 rw[show L.take i=L from List.take_of_length_le (by omega)] at hA
 refine xlv 7 a7.rp ?_
 refine xc 1 (args:=#[.agg #[P0 ba],V0 1,.slice p7 i c7]) (by have q:=Og B ba b g nn cc pa ca N bs (Mk L) 1 p7 c7 i ((Bd L (Zb0 L))) _ (by rw[Kl];omega) hC hA (top_ok hD) (by show Xm (F1 L)≤N;omega) (fun W _ h2=>Ze (Zi d6 h2 (by decide))) (Nat.le_trans hBw a5.size);exact q) ?_
 rintro _ k2 ⟨rfl,h6,d9,hA⟩
 have c1:=a7.only d9 (by decide)
 refine xlv 6 c1.rp ?_
 have d8:=Zi d4 d9 (by decide)
 have f0:=a5.trans h6
 refine xc 1 (args:=#[.agg #[P0 ba],V0 3,.slice p8 i c8]) (by have q:=Og B ba b g nn cc pa ca N bs (F1 L) 3 p8 c8 i ((Bz L (Lb L))) _ (by rw[Kk];omega) hC hA (det_ok hD) (by show Xm (F2 L)≤N;omega) (fun W _ h2=>Ze (Zi d8 h2 (by decide))) (Nat.le_trans hBw f0.size);exact q) ?_
 rintro _ k8 ⟨rfl,h4,h7,hA⟩
 have e6:=f0.trans h4
 have g6:=(d2.trans (d9.wide (by decide))).trans (h7.wide (by decide))
 exact xe 5 (.tuple #[V0 (↑(Xm (F1 L)):Int),V0 (↑(Xm (F2 L)):Int)]) ⟨rfl,e6,g6,hA⟩
def Na(L:List Dv)(k:Nat):Bl:=Ao (F2 L) 1 (List.replicate (k*256) (0:UInt8))
def Wa(x:Nat)(L:List Dv):Nat:=Xm (F2 L)+Wd (Ye x L)
def Kh(x:Nat)(L:List Dv)(k:Nat):Int×Int×Bl:=Ig (Ye x L) (1+Xm (F2 L)) (Na L k)
def Wh(x:Nat)(L:List Dv)(k:Nat):Int×Int×Bl:=Ch (Yp (Wa x L+1) k) 1 (Wa x L) (Kh x L k).2.2
def Oi(t u v:Int)(x:Nat)(L:List Dv)(k:Nat):Sup:=⟨t,u,v,(x:Int),(k:Int),(Xm (F1 L):Int),(Xm (F2 L):Int),(Kh x L k).1,(Kh x L k).2.1,(Wh x L k).1,(Wh x L k).2.1⟩
def Bs(t u v:Int)(x:Nat)(L:List Dv)(k:Nat):Bl:=Qy (Wh x L k).2.2 (0*256) (Xk 1 (0:Nat) (Ub (Oi t u v x L k)))
theorem Zcc(L:List (List Int))(f:Nat):∀ n,(Xt L f n).length=n:=fun n=>Jl L f n
theorem layD_in(x:Nat)(L:List Dv)(k:Nat):1≤(Kh x L k).1∧(Kh x L k).1≤(Wa x L:Int)∧1≤(Kh x L k).2.1∧(Kh x L k).2.1≤(Wa x L:Int):=by
 have a:=Pb (t:=4) (l:=Xt (Xi (Zo (Ye x L)) (bmN (Ye x L).length)) (1+Xm (F2 L)) (bmN (Ye x L).length)) (q:=1+Xm (F2 L)+bmN (Ye x L).length) (bs:=Vz (Xi (Zo (Ye x L)) (bmN (Ye x L).length)) (1+Xm (F2 L)) (Na L k) (bmN (Ye x L).length)) (by omega)
 have b:=Pb (t:=5) (l:=Zu (Ye x L) (Ye x L).length) (q:=1+Xm (F2 L)+bmN (Ye x L).length+Xn 4 (bmN (Ye x L).length)) (bs:=(Xx 4 (Xt (Xi (Zo (Ye x L)) (bmN (Ye x L).length)) (1+Xm (F2 L)) (bmN (Ye x L).length)) (1+Xm (F2 L)+bmN (Ye x L).length) (Vz (Xi (Zo (Ye x L)) (bmN (Ye x L).length)) (1+Xm (F2 L)) (Na L k) (bmN (Ye x L).length))).2) (by omega)
 rw[Zcc] at a
 have e1:(Kh x L k).1=_:=a
 have e2:(Kh x L k).2.1=_:=b
 have h4:=Ua 4 (bmN (Ye x L).length)
 have h5:=Ua 5 (Zu (Ye x L) (Ye x L).length).length
 have e3:Wa x L=Xm (F2 L)+(bmN (Ye x L).length+Xn 4 (bmN (Ye x L).length)+Xn 5 (Zu (Ye x L) (Ye x L).length).length):=rfl
 rw[e1,e2,e3]
 omega
theorem layM_in(x:Nat)(L:List Dv)(k:Nat):1≤(Wh x L k).1∧(Wh x L k).1≤(Wa x L+2+bmN k:Nat)∧1≤(Wh x L k).2.1∧(Wh x L k).2.1≤(Wa x L+2+bmN k:Nat):=by
 have a:=Pb (t:=5) (l:=Zu (Yp (Wa x L+1) k) (Yp (Wa x L+1) k).length) (q:=1+Wa x L) (bs:=(Kh x L k).2.2) (by omega)
 have e2:(Wh x L k).2.1=_:=a
 have e1:(Wh x L k).1=((1+Wa x L+Xn 5 (Zu (Yp (Wa x L+1) k) (Yp (Wa x L+1) k).length).length+bmN (Qj (Yp (Wa x L+1) k) (1+Wa x L) (Yn (Yp (Wa x L+1) k))).length:Nat):Int):=rfl
 rw[Qh,Xl] at e1
 rw[Gh,List.length_nil,Oc] at e1 e2
 rw[e1,e2]
 omega
theorem Fl{t u v:Int}{x k:Nat}{L:List Dv}(hk:PoolOk t u v (x:Int) L)(hr:Pw x L≤k)(hk2:k≤14400):Xc (Oi t u v x L k)=true:=by
 have a:=layD_in x L k
 have b:=layM_in x L k
 have c:=Od hr
 have d:=F1_le L
 have e:Wa x L=Xm (F2 L)+Wd (Ye x L):=rfl
 have h1:=hk.htx
 have h2:=hk.htime
 have h3:=hk.hunit
 have h4:=hk.hdata
 unfold Xc Oi
 simp only[Bool.and_eq_true,decide_eq_true_eq,true_and]
 refine⟨⟨⟨⟨⟨⟨⟨⟨⟨⟨?_,?_⟩,?_⟩,?_⟩,?_⟩,?_⟩,?_⟩,?_⟩,?_⟩,?_⟩,?_⟩<;>omega
theorem Ik(t u v:Int)(x k:Nat)(L:List Dv)(w:World)(hr:Xc (Oi t u v x L k)=true):C0 71 #[.agg #[V0 t,V0 u,V0 v,V0 (x:Int),V0 (k:Int),V0 (↑(Xm (F1 L)):Int),V0 (↑(Xm (F2 L)):Int),V0 (Kh x L k).1,V0 (Kh x L k).2.1,V0 (Wh x L k).1,V0 (Wh x L k).2.1]] w (Yy (fun w' r=>∃ p c,r=.tuple #[.slice p 244 c,V0 0]∧w'.ownsRow w.heap.size 5 1 (.slice p 244 c) 244 ((Ub (Oi t u v x L k)).map bv)) w):=by
 refine(sup_PutP (Oi t u v x L k) w ⟨by show(0:Int)≤(k:Int);omega,?_⟩).mono ?_
 ·unfold Xc Oi at hr
  simp only[Bool.and_eq_true,decide_eq_true_eq,true_and] at hr
  show(k:Int)<_
  omega
 ·rintro e W q
  rcases q with ⟨h,_⟩|⟨_,p,c,rfl,hb,ho⟩
  ·rw[hr] at h;cases h
  ·exact⟨_,rfl,hb,p,c,rfl,ho⟩
theorem lay_all(B ba b g cc:Nat)(pa:O0)(ca N k:Nat)(p:O0)(c n x:Nat)(t u v:Int)(Z:List Zv)(L:List Dv)(w:World)(hZ:Z.length=n)(hL:Z.map Prod.fst=L)(hk:PoolOk t u v (x:Int) L)(hP:∀ W,Below B w W→DevsR W p c Z)(hN:N=k-1)(hC:AlC B ba (k*256) cc ca 1 N)(hA:AlF B ba b g (k*256) cc pa ca N (List.replicate (k*256) (0:UInt8)) [] w)(hr:Pw x L≤k)(hk3:k≤3000)(hBw:B≤w.heap.size) :
 C0 38 #[.agg #[P0 ba],.agg #[V0 t,V0 u,V0 v,V0 (x:Int),.slice p n c]] w ((fun e w'=>e=.returned (.tuple #[])∧Below B w w'∧ImgR B b (S1 g) (k*256) cc (Bs t u v x L k) w')):=by
 have hx:x≤65536:=by have:=hk.hdata;omega
 have t6:=Od hr
 have z5:Wa x L=Xm (F2 L)+Wd (Ye x L):=rfl
 have r4:=Fl hk hr (by omega)
 refine zin 72 Tryz.func38 ?_
 refine xa 2 [P0 ba] 99 fun b1 W1 n1=>?_
 refine xa 0 [V0 t,V0 u,V0 v,V0 (x:Int),.slice p n c] 28 fun b2 W2 n2=>?_
 refine xd 3 (.t B [152,5,32,105,122,231,217,30]) ?_
 have k2:=n2.blk.below (Za W2)
 refine xbt (.e [0] 1) 0 B [152,5,32,105,122,231,217,30] k2 ?_
 refine xbt (.e [2] 3) 1 B [152,5,32,105,122,231,217,30] k2 ?_
 refine xbt (.e [4] 5) 2 B [152,5,32,105,122,231,217,30] k2 ?_
 refine xbt (.e [6] 7) 3 B [152,5,32,105,122,231,217,30] k2 ?_
 have k1:=(n1.blk.below n2.below).below (Za W2)
 refine xbt (.e [8] 9) 0 B [152,5,32,105,122,231,217,30] k1 ?_
 refine xm2 0 10 13 ?_ ?_
 ·have f4:=((hA.below n1.below).below n2.below).below (Za W2)
  refine xr 0 (args:=#[P0 ba]) (Yw ba b _ _ _ f4.blkA) fun W3 d3=>?_
  refine xm2 0 11 13 ?_ ?_
  ·have l5:=f4.below d3
   refine xr 0 (args:=#[P0 b]) (by have q:=Yk b _ (k*256) _ _ l5.blkI (by omega);rw[show k*256/256=k by omega] at q;exact q) fun W4 q5=>?_
   refine xa (.o [12] 13) [V0 0,V0 0,V0 0,V0 0,V0 0,V0 0,V0 0,V0 0,V0 0,V0 0,V0 0] 30 fun b5 W5 n5=>?_
   have hB:=blB (blB (blB (blB (blB (Below.refl B w) hBw n1.below) hBw n2.below) hBw (Za W2)) hBw d3) hBw q5
   have g5:=n5.ge0 hB
   refine ysv (.o [] 14) n5.blk [V0 t,V0 u,V0 v,V0 (x:Int),V0 (k:Int),V0 0,V0 0,V0 0,V0 0,V0 0,V0 0] (.t B [152,5,32,105,122,231,217,30]) fun W6 u6 k6=>⟨(Zt u6 n5.blk (Nat.le_trans hBw g5) (by decide)),?_⟩
   have m2:=u6.blkT (((k1.below d3).below q5).below n5.below) n5.blk (by decide)
   refine xlv 9 m2.rp ?_
   have p0:=u6.blkT (((k2.below d3).below q5).below n5.below) n5.blk (by decide)
   refine xb 1 4 p0 ?_
   have s3:=((l5.below q5).below n5.below).only (Zd.of_upd (T:=[30]) u6 n5.blk (by decide)) (by decide)
   have d1:=u6.below (blB hB hBw n5.below) (Nat.le_trans hBw g5)
   refine xc 0 (args:=#[.agg #[P0 ba],.slice p n c]) (Mj B ba b g (k*256) cc pa ca N (List.replicate (k*256) (0:UInt8)) p c n (x:Int) Z L _ hZ hL hk.devs (by omega) (fun W h=>hP W (d1.trans h)) hC s3 (by omega) (Nat.le_trans hBw d1.size)) ?_
   rintro _ W7 ⟨rfl,t7,s4,hA⟩
   have d2:=k6.only s4 (by decide)
   refine xs 4 d2 [V0 t,V0 u,V0 v,V0 (x:Int),V0 (k:Int),V0 (↑(Xm (F1 L)):Int),V0 0,V0 0,V0 0,V0 0,V0 0] fun W8 u8 k8=>?_
   refine xs 1 k8 [V0 t,V0 u,V0 v,V0 (x:Int),V0 (k:Int),V0 (↑(Xm (F1 L)):Int),V0 (↑(Xm (F2 L)):Int),V0 0,V0 0,V0 0,V0 0] fun W9 u9 k9=>?_
   refine xd 3 (.t B [152,5,32,105,122,231,217,30]) ?_
   have k5:=(u9.blkT (u8.blkT (m2.only s4 (by decide)) d2 (by decide)) k8 (by decide)).below (Za W9)
   refine xbt (.e [0] 1) 0 B [152,5,32,105,122,231,217,30] k5 ?_
   have s6:=(u9.blkT (u8.blkT (p0.only s4 (by decide)) d2 (by decide)) k8 (by decide)).below (Za W9)
   refine xlvt (.e [] 2) (.t B [152,5,32,105,122,231,217,30]) (fun V hV=>(s6.only hV.2 (by decide)).rp) ?_
   have j6:=blB (u9.below (u8.below (d1.trans t7) (Nat.le_trans hBw g5)) (Nat.le_trans hBw g5)) hBw (Za W9)
   refine yc (.o [] 3) (args:=#[.agg #[V0 t,V0 u,V0 v,V0 (x:Int),.slice p n c]]) (.t B [152,5,32,105,122,231,217,30]) (by have q:=Lf p c n x t u v Z _ hZ (hP _ j6) (by rw[hL];exact hk);rw[hL] at q;exact q) ?_
   rintro _ w1 ⟨_,rfl,c2,q9,d9,rfl,i2⟩
   have r7:=(blB (u9.below (u8.below (d1.trans t7) (Nat.le_trans hBw g5)) (Nat.le_trans hBw g5)) hBw (Za W9)).size
   refine⟨(SF.of_below _ c2),?_⟩
   have l1:=Zf i2 r7
   have t0:=(((hA.only (Zd.of_upd (T:=[30]) u8 d2 (by decide)) (by decide)).only (Zd.of_upd (T:=[30]) u9 k8 (by decide)) (by decide)).below (Za W9)).below c2
   have f5:=blB j6 hBw c2
   refine yc (.o [] 4) (args:=#[P0 ba,.slice q9 x d9]) (.t B [152,5,32,105,122,231,217,30]) (by have q:=Bo B ba b g (k*256) cc pa ca 1 N (Xm (F2 L)) (Na L k) q9 d9 (Ye x L) _ hC t0 (by rw[Yq];have q:=Ze l1;rw[←Zcl] at q;exact q) (by rw[Yq];omega) (by rw[Mr];have:=Mm hk.devs;omega) (Np (by omega) hk.devs) (by decide) (by omega) (by omega) (Nat.le_trans hBw f5.size);rw[Yq] at q;exact q) ?_
   rintro _ w5 ⟨rfl,g8,g2,v3,hA⟩
   refine⟨(Hm g8 g2),?_⟩
   have d0:=((k9.below (Za W9)).below c2).only g2 (by decide)
   refine ys (.o [5,6,7,8,9] 10) d0 [V0 t,V0 u,V0 v,V0 (x:Int),V0 (k:Int),V0 (↑(Xm (F1 L)):Int),V0 (↑(Xm (F2 L)):Int),V0 ((Kh x L k).1),V0 0,V0 0,V0 0] (.t B [152,5,32,105,122,231,217,30]) fun w3 m3 p9=>⟨(Zt m3 d0 (Nat.le_trans hBw g5) (by decide)),?_⟩
   refine ys (.o [11] 12) p9 [V0 t,V0 u,V0 v,V0 (x:Int),V0 (k:Int),V0 (↑(Xm (F1 L)):Int),V0 (↑(Xm (F2 L)):Int),V0 ((Kh x L k).1),V0 ((Kh x L k).2.1),V0 0,V0 0] (.t B [152,5,32,105,122,231,217,30]) fun z2 m4 u7=>⟨(Zt m4 p9 (Nat.le_trans hBw g5) (by decide)),?_⟩
   refine xr (.r [13] 5) (args:=#[.nilIface]) (Vj _) fun o1 b4=>?_
   refine xd 3 (.t B [152,5,32,105,122,231,217,30]) ?_
   have f1:=((m4.blkT (m3.blkT ((k5.below c2).only g2 (by decide)) d0 (by decide)) p9 (by decide)).below b4).below (Za o1)
   refine xbt (.e [0] 1) 0 B [152,5,32,105,122,231,217,30] f1 ?_
   refine xlvt (.e [] 2) (.t B [152,5,32,105,122,231,217,30]) (fun V hV=>(f1.only hV.2 (by decide)).rp) ?_
   have j5:=(((hA.only (Zd.of_upd (T:=[30]) m3 d0 (by decide)) (by decide)).only (Zd.of_upd (T:=[30]) m4 p9 (by decide)) (by decide)).below b4).below (Za o1)
   refine yc (.o [] 3) (args:=#[.agg #[P0 ba]]) (.t B [152,5,32,105,122,231,217,30]) (Be B ba b g cc pa ca 1 N (Wa x L) k _ _ j5 (by omega) (by omega)) ?_
   rintro _ ac ⟨_,rfl,c3,q8,d8,rfl,p5⟩
   have r0:=(blB (blB (m4.below (m3.below (f5.trans g8) (Nat.le_trans hBw g5)) (Nat.le_trans hBw g5)) hBw b4) hBw (Za o1)).size
   refine⟨(SF.of_below _ c3),?_⟩
   have t4:=j5.below c3
   have n7:=Zf p5 r0
   have h7:=blB (blB (blB (m4.below (m3.below (f5.trans g8) (Nat.le_trans hBw g5)) (Nat.le_trans hBw g5)) hBw b4) hBw (Za o1)) hBw c3
   refine yc (.o [] 4) (args:=#[P0 ba,.slice (some q8) k d8]) (.t B [152,5,32,105,122,231,217,30]) (by have q:=Cj B ba b g (k*256) cc pa ca 1 N (Wa x L) (Kh x L k).2.2 q8 d8 (Yp (Wa x L+1) k) _ hC t4 (by rw[Xl];exact Ze n7) (by rw[Xl];omega) (by rw[Xl];omega) (Md (by omega)) (by omega) (by rw[Ci];omega) (by decide) (by rw[Nat.add_comm 1];exact Ck) (Nat.le_trans hBw h7.size);rw[Xl] at q;exact q) ?_
   rintro _ w6 ⟨rfl,g3,h4,u0,hA⟩
   refine⟨(Hm g3 h4),?_⟩
   have a6:=(((u7.below b4).below (Za o1)).below c3).only h4 (by decide)
   refine ys (.o [5,6,7,8,9] 10) a6 [V0 t,V0 u,V0 v,V0 (x:Int),V0 (k:Int),V0 (↑(Xm (F1 L)):Int),V0 (↑(Xm (F2 L)):Int),V0 ((Kh x L k).1),V0 ((Kh x L k).2.1),V0 ((Wh x L k).1),V0 0] (.t B [152,5,32,105,122,231,217,30]) fun x6 j9 p8=>⟨(Zt j9 a6 (Nat.le_trans hBw g5) (by decide)),?_⟩
   refine ys (.o [11] 12) p8 [V0 t,V0 u,V0 v,V0 (x:Int),V0 (k:Int),V0 (↑(Xm (F1 L)):Int),V0 (↑(Xm (F2 L)):Int),V0 ((Kh x L k).1),V0 ((Kh x L k).2.1),V0 ((Wh x L k).1),V0 ((Wh x L k).2.1)] (.t B [152,5,32,105,122,231,217,30]) fun z3 k4 u1=>⟨(Zt k4 p8 (Nat.le_trans hBw g5) (by decide)),?_⟩
   refine xr (.r [13] 5) (args:=#[.nilIface]) (Vj _) fun z6 b9=>?_
   have n9:=u1.below b9
   refine xlv 4 n9.rp ?_
   refine xc 0 (args:=#[.agg #[V0 t,V0 u,V0 v,V0 (x:Int),V0 (k:Int),V0 (↑(Xm (F1 L)):Int),V0 (↑(Xm (F2 L)):Int),V0 ((Kh x L k).1),V0 ((Kh x L k).2.1),V0 ((Wh x L k).1),V0 ((Wh x L k).2.1)]]) (Ik t u v x k L _ r4) ?_
   rintro _ y8 ⟨_,rfl,h5,q7,d7,rfl,j2⟩
   have r6:=(blB (k4.below (j9.below (h7.trans g3) (Nat.le_trans hBw g5)) (Nat.le_trans hBw g5)) hBw b9).size
   have t2:=((k4.blkT (j9.blkT ((f1.below c3).only h4 (by decide)) a6 (by decide)) p8 (by decide)).below b9).below h5
   refine xb 19 0 t2 ?_
   have n3:=(((hA.only (Zd.of_upd (T:=[30]) j9 a6 (by decide)) (by decide)).only (Zd.of_upd (T:=[30]) k4 p8 (by decide)) (by decide)).below b9).below h5
   refine xr 0 (args:=#[P0 ba]) (Yw ba b _ _ _ n3.blkA) fun y1 h0=>?_
   have o5:=Zb (Zf j2 r6) h0
   have p6:=n3.below h0
   have k7:=blB (blB (blB (k4.below (j9.below (h7.trans g3) (Nat.le_trans hBw g5)) (Nat.le_trans hBw g5)) hBw b9) hBw h5) hBw h0
   refine xc 1 (args:=#[P0 b,V0 0,V0 1,.slice q7 244 d7]) (Uy B b (S1 g) (k*256) cc 0 (0:Int) (Wh x L k).2.2 1 q7 d7 244 (Ub (Oi t u v x L k)) _ rfl (Kg _) ⟨p6.blkI,p6.data,hC.hn⟩ (by omega) (by decide) (by decide) (Yi (Ze o5) (Kg _)) (by decide) (Nat.le_trans hBw k7.size)) ?_
   rintro _ z0 ⟨rfl,t1,u3,hI⟩
   refine xr 0 (args:=#[.nilIface]) (Vj _) fun af o8=>?_
   have r8:=hI.below o8
   have s5:=blB (k7.trans t1) hBw o8
   exact xe 1 (.tuple #[]) ⟨rfl,s5,r8⟩
  refine xa 0 [V0 0,V0 0,V0 0,V0 0,V0 0,V0 0,V0 0,V0 0,V0 0,V0 0,V0 0] 30 fun z4 z9 h8=>?_
  have o2:=(f4.below d3).below h8.below
  refine xr (.o [] 11) (args:=#[P0 b]) (by have q:=Yk b _ (k*256) _ _ o2.blkI (by omega);rw[show k*256/256=k by omega] at q;exact q) fun y5 b7=>?_
  have i4:=h8.blk.below b7
  have a0:=h8.ge0 (blB (blB (blB (blB (Below.refl B w) hBw n1.below) hBw n2.below) hBw (Za W2)) hBw d3)
  refine ysv (.o [12] 14) i4 [V0 t,V0 u,V0 v,V0 (x:Int),V0 (k:Int),V0 0,V0 0,V0 0,V0 0,V0 0,V0 0] (.t B [152,5,32,105,122,231,217,30]) fun x3 j3 v7=>⟨(Zt j3 i4 (Nat.le_trans hBw a0) (by decide)),?_⟩
  have j1:=j3.blkT (((k1.below d3).below h8.below).below b7) i4 (by decide)
  refine xlv 9 j1.rp ?_
  have i5:=j3.blkT (((k2.below d3).below h8.below).below b7) i4 (by decide)
  refine xb 1 4 i5 ?_
  have m7:=(o2.below b7).only (Zd.of_upd (T:=[30]) j3 i4 (by decide)) (by decide)
  have hB:=j3.below (blB (blB (blB (blB (blB (blB (Below.refl B w) hBw n1.below) hBw n2.below) hBw (Za W2)) hBw d3) hBw h8.below) hBw b7) (Nat.le_trans hBw a0)
  refine xc 0 (args:=#[.agg #[P0 ba],.slice p n c]) (Mj B ba b g (k*256) cc pa ca N (List.replicate (k*256) (0:UInt8)) p c n (x:Int) Z L _ hZ hL hk.devs (by omega) (fun W h=>hP W (hB.trans h)) hC m7 (by omega) (Nat.le_trans hBw hB.size)) ?_
  rintro _ aj ⟨rfl,l4,g6,hA⟩
  have a4:=v7.only g6 (by decide)
  refine xs 4 a4 [V0 t,V0 u,V0 v,V0 (x:Int),V0 (k:Int),V0 (↑(Xm (F1 L)):Int),V0 0,V0 0,V0 0,V0 0,V0 0] fun ad p3 q0=>?_
  refine xs 1 q0 [V0 t,V0 u,V0 v,V0 (x:Int),V0 (k:Int),V0 (↑(Xm (F1 L)):Int),V0 (↑(Xm (F2 L)):Int),V0 0,V0 0,V0 0,V0 0] fun i0 l6 u2=>?_
  refine xd 3 (.t B [152,5,32,105,122,231,217,30]) ?_
  have n0:=(l6.blkT (p3.blkT (j1.only g6 (by decide)) a4 (by decide)) q0 (by decide)).below (Za i0)
  refine xbt (.e [0] 1) 0 B [152,5,32,105,122,231,217,30] n0 ?_
  have r5:=(l6.blkT (p3.blkT (i5.only g6 (by decide)) a4 (by decide)) q0 (by decide)).below (Za i0)
  refine xlvt (.e [] 2) (.t B [152,5,32,105,122,231,217,30]) (fun V hV=>(r5.only hV.2 (by decide)).rp) ?_
  have o9:=blB (l6.below (p3.below (hB.trans l4) (Nat.le_trans hBw a0)) (Nat.le_trans hBw a0)) hBw (Za i0)
  refine yc (.o [] 3) (args:=#[.agg #[V0 t,V0 u,V0 v,V0 (x:Int),.slice p n c]]) (.t B [152,5,32,105,122,231,217,30]) (by have q:=Lf p c n x t u v Z _ hZ (hP _ o9) (by rw[hL];exact hk);rw[hL] at q;exact q) ?_
  rintro _ w0 ⟨_,rfl,b0,q9,d9,rfl,i2⟩
  have s1:=(blB (l6.below (p3.below (hB.trans l4) (Nat.le_trans hBw a0)) (Nat.le_trans hBw a0)) hBw (Za i0)).size
  refine⟨(SF.of_below _ b0),?_⟩
  have p1:=Zf i2 s1
  have l7:=(((hA.only (Zd.of_upd (T:=[30]) p3 a4 (by decide)) (by decide)).only (Zd.of_upd (T:=[30]) l6 q0 (by decide)) (by decide)).below (Za i0)).below b0
  have g7:=blB o9 hBw b0
  refine yc (.o [] 4) (args:=#[P0 ba,.slice q9 x d9]) (.t B [152,5,32,105,122,231,217,30]) (by have q:=Bo B ba b g (k*256) cc pa ca 1 N (Xm (F2 L)) (Na L k) q9 d9 (Ye x L) _ hC l7 (by rw[Yq];have q:=Ze p1;rw[←Zcl] at q;exact q) (by rw[Yq];omega) (by rw[Mr];have:=Mm hk.devs;omega) (Np (by omega) hk.devs) (by decide) (by omega) (by omega) (Nat.le_trans hBw g7.size);rw[Yq] at q;exact q) ?_
  rintro _ al ⟨rfl,h3,g1,v9,hA⟩
  refine⟨(Hm h3 g1),?_⟩
  have a2:=((u2.below (Za i0)).below b0).only g1 (by decide)
  refine ys (.o [5,6,7,8,9] 10) a2 [V0 t,V0 u,V0 v,V0 (x:Int),V0 (k:Int),V0 (↑(Xm (F1 L)):Int),V0 (↑(Xm (F2 L)):Int),V0 ((Kh x L k).1),V0 0,V0 0,V0 0] (.t B [152,5,32,105,122,231,217,30]) fun aa k0 q4=>⟨(Zt k0 a2 (Nat.le_trans hBw a0) (by decide)),?_⟩
  refine ys (.o [11] 12) q4 [V0 t,V0 u,V0 v,V0 (x:Int),V0 (k:Int),V0 (↑(Xm (F1 L)):Int),V0 (↑(Xm (F2 L)):Int),V0 ((Kh x L k).1),V0 ((Kh x L k).2.1),V0 0,V0 0] (.t B [152,5,32,105,122,231,217,30]) fun x4 o7 v2=>⟨(Zt o7 q4 (Nat.le_trans hBw a0) (by decide)),?_⟩
  refine xr (.r [13] 5) (args:=#[.nilIface]) (Vj _) fun n8 a9=>?_
  refine xd 3 (.t B [152,5,32,105,122,231,217,30]) ?_
  have e9:=((o7.blkT (k0.blkT ((n0.below b0).only g1 (by decide)) a2 (by decide)) q4 (by decide)).below a9).below (Za n8)
  refine xbt (.e [0] 1) 0 B [152,5,32,105,122,231,217,30] e9 ?_
  refine xlvt (.e [] 2) (.t B [152,5,32,105,122,231,217,30]) (fun V hV=>(e9.only hV.2 (by decide)).rp) ?_
  have e7:=(((hA.only (Zd.of_upd (T:=[30]) k0 a2 (by decide)) (by decide)).only (Zd.of_upd (T:=[30]) o7 q4 (by decide)) (by decide)).below a9).below (Za n8)
  refine yc (.o [] 3) (args:=#[.agg #[P0 ba]]) (.t B [152,5,32,105,122,231,217,30]) (Be B ba b g cc pa ca 1 N (Wa x L) k _ _ e7 (by omega) (by omega)) ?_
  rintro _ z1 ⟨_,rfl,c6,q8,d8,rfl,p5⟩
  have r2:=(blB (blB (o7.below (k0.below (g7.trans h3) (Nat.le_trans hBw a0)) (Nat.le_trans hBw a0)) hBw a9) hBw (Za n8)).size
  refine⟨(SF.of_below _ c6),?_⟩
  have l8:=e7.below c6
  have l9:=Zf p5 r2
  have f9:=blB (blB (blB (o7.below (k0.below (g7.trans h3) (Nat.le_trans hBw a0)) (Nat.le_trans hBw a0)) hBw a9) hBw (Za n8)) hBw c6
  refine yc (.o [] 4) (args:=#[P0 ba,.slice (some q8) k d8]) (.t B [152,5,32,105,122,231,217,30]) (by have q:=Cj B ba b g (k*256) cc pa ca 1 N (Wa x L) (Kh x L k).2.2 q8 d8 (Yp (Wa x L+1) k) _ hC l8 (by rw[Xl];exact Ze l9) (by rw[Xl];omega) (by rw[Xl];omega) (Md (by omega)) (by omega) (by rw[Ci];omega) (by decide) (by rw[Nat.add_comm 1];exact Ck) (Nat.le_trans hBw f9.size);rw[Xl] at q;exact q) ?_
  rintro _ x8 ⟨rfl,h6,f0,v4,hA⟩
  refine⟨(Hm h6 f0),?_⟩
  have a8:=(((v2.below a9).below (Za n8)).below c6).only f0 (by decide)
  refine ys (.o [5,6,7,8,9] 10) a8 [V0 t,V0 u,V0 v,V0 (x:Int),V0 (k:Int),V0 (↑(Xm (F1 L)):Int),V0 (↑(Xm (F2 L)):Int),V0 ((Kh x L k).1),V0 ((Kh x L k).2.1),V0 ((Wh x L k).1),V0 0] (.t B [152,5,32,105,122,231,217,30]) fun x9 i3 q3=>⟨(Zt i3 a8 (Nat.le_trans hBw a0) (by decide)),?_⟩
  refine ys (.o [11] 12) q3 [V0 t,V0 u,V0 v,V0 (x:Int),V0 (k:Int),V0 (↑(Xm (F1 L)):Int),V0 (↑(Xm (F2 L)):Int),V0 ((Kh x L k).1),V0 ((Kh x L k).2.1),V0 ((Wh x L k).1),V0 ((Wh x L k).2.1)] (.t B [152,5,32,105,122,231,217,30]) fun w4 m9 v5=>⟨(Zt m9 q3 (Nat.le_trans hBw a0) (by decide)),?_⟩
  refine xr (.r [13] 5) (args:=#[.nilIface]) (Vj _) fun w8 c0=>?_
  have o3:=v5.below c0
  refine xlv 4 o3.rp ?_
  refine xc 0 (args:=#[.agg #[V0 t,V0 u,V0 v,V0 (x:Int),V0 (k:Int),V0 (↑(Xm (F1 L)):Int),V0 (↑(Xm (F2 L)):Int),V0 ((Kh x L k).1),V0 ((Kh x L k).2.1),V0 ((Wh x L k).1),V0 ((Wh x L k).2.1)]]) (Ik t u v x k L _ r4) ?_
  rintro _ w7 ⟨_,rfl,g0,q7,d7,rfl,j2⟩
  have t5:=(blB (m9.below (i3.below (f9.trans h6) (Nat.le_trans hBw a0)) (Nat.le_trans hBw a0)) hBw c0).size
  have r9:=((m9.blkT (i3.blkT ((e9.below c6).only f0 (by decide)) a8 (by decide)) q3 (by decide)).below c0).below g0
  refine xb 19 0 r9 ?_
  have d4:=(((hA.only (Zd.of_upd (T:=[30]) i3 a8 (by decide)) (by decide)).only (Zd.of_upd (T:=[30]) m9 q3 (by decide)) (by decide)).below c0).below g0
  refine xr 0 (args:=#[P0 ba]) (Yw ba b _ _ _ d4.blkA) fun x2 f8=>?_
  have l3:=Zb (Zf j2 t5) f8
  have d5:=d4.below f8
  have e2:=blB (blB (blB (m9.below (i3.below (f9.trans h6) (Nat.le_trans hBw a0)) (Nat.le_trans hBw a0)) hBw c0) hBw g0) hBw f8
  refine xc 1 (args:=#[P0 b,V0 0,V0 1,.slice q7 244 d7]) (Uy B b (S1 g) (k*256) cc 0 (0:Int) (Wh x L k).2.2 1 q7 d7 244 (Ub (Oi t u v x L k)) _ rfl (Kg _) ⟨d5.blkI,d5.data,hC.hn⟩ (by omega) (by decide) (by decide) (Yi (Ze l3) (Kg _)) (by decide) (Nat.le_trans hBw e2.size)) ?_
  rintro _ z8 ⟨rfl,s9,v1,hI⟩
  refine xr 0 (args:=#[.nilIface]) (Vj _) fun w9 n6=>?_
  have t3:=hI.below n6
  have m1:=blB (e2.trans s9) hBw n6
  exact xe 1 (.tuple #[]) ⟨rfl,m1,t3⟩
 refine xa 0 [V0 0,V0 0,V0 0,V0 0,V0 0,V0 0,V0 0,V0 0,V0 0,V0 0,V0 0] 30 fun x7 y7 h9=>?_
 have e6:=(((hA.below n1.below).below n2.below).below (Za W2)).below h9.below
 refine xr (.o [] 10) (args:=#[P0 ba]) (Yw ba b _ _ _ e6.blkA) fun y9 c4=>?_
 have e3:=e6.below c4
 refine xr (.o [] 11) (args:=#[P0 b]) (by have q:=Yk b _ (k*256) _ _ e3.blkI (by omega);rw[show k*256/256=k by omega] at q;exact q) fun z7 c9=>?_
 have o0:=(h9.blk.below c4).below c9
 have a1:=h9.ge0 (blB (blB (blB (Below.refl B w) hBw n1.below) hBw n2.below) hBw (Za W2))
 refine ysv (.o [12] 14) o0 [V0 t,V0 u,V0 v,V0 (x:Int),V0 (k:Int),V0 0,V0 0,V0 0,V0 0,V0 0,V0 0] (.t B [152,5,32,105,122,231,217,30]) fun x0 p7 v6=>⟨(Zt p7 o0 (Nat.le_trans hBw a1) (by decide)),?_⟩
 have o6:=p7.blkT (((k1.below h9.below).below c4).below c9) o0 (by decide)
 refine xlv 9 o6.rp ?_
 have m0:=p7.blkT (((k2.below h9.below).below c4).below c9) o0 (by decide)
 refine xb 1 4 m0 ?_
 have k3:=(e3.below c9).only (Zd.of_upd (T:=[30]) p7 o0 (by decide)) (by decide)
 have hB:=p7.below (blB (blB (blB (blB (blB (blB (Below.refl B w) hBw n1.below) hBw n2.below) hBw (Za W2)) hBw h9.below) hBw c4) hBw c9) (Nat.le_trans hBw a1)
 refine xc 0 (args:=#[.agg #[P0 ba],.slice p n c]) (Mj B ba b g (k*256) cc pa ca N (List.replicate (k*256) (0:UInt8)) p c n (x:Int) Z L _ hZ hL hk.devs (by omega) (fun W h=>hP W (hB.trans h)) hC k3 (by omega) (Nat.le_trans hBw hB.size)) ?_
 rintro _ y6 ⟨rfl,j0,f2,hA⟩
 have a5:=v6.only f2 (by decide)
 refine xs 4 a5 [V0 t,V0 u,V0 v,V0 (x:Int),V0 (k:Int),V0 (↑(Xm (F1 L)):Int),V0 0,V0 0,V0 0,V0 0,V0 0] fun ab i6 q1=>?_
 refine xs 1 q1 [V0 t,V0 u,V0 v,V0 (x:Int),V0 (k:Int),V0 (↑(Xm (F1 L)):Int),V0 (↑(Xm (F2 L)):Int),V0 0,V0 0,V0 0,V0 0] fun i1 i9 u4=>?_
 refine xd 3 (.t B [152,5,32,105,122,231,217,30]) ?_
 have e4:=(i9.blkT (i6.blkT (o6.only f2 (by decide)) a5 (by decide)) q1 (by decide)).below (Za i1)
 refine xbt (.e [0] 1) 0 B [152,5,32,105,122,231,217,30] e4 ?_
 have r1:=(i9.blkT (i6.blkT (m0.only f2 (by decide)) a5 (by decide)) q1 (by decide)).below (Za i1)
 refine xlvt (.e [] 2) (.t B [152,5,32,105,122,231,217,30]) (fun V hV=>(r1.only hV.2 (by decide)).rp) ?_
 have e1:=blB (i9.below (i6.below (hB.trans j0) (Nat.le_trans hBw a1)) (Nat.le_trans hBw a1)) hBw (Za i1)
 refine yc (.o [] 3) (args:=#[.agg #[V0 t,V0 u,V0 v,V0 (x:Int),.slice p n c]]) (.t B [152,5,32,105,122,231,217,30]) (by have q:=Lf p c n x t u v Z _ hZ (hP _ e1) (by rw[hL];exact hk);rw[hL] at q;exact q) ?_
 rintro _ ak ⟨_,rfl,b8,q9,d9,rfl,i2⟩
 have s2:=(blB (i9.below (i6.below (hB.trans j0) (Nat.le_trans hBw a1)) (Nat.le_trans hBw a1)) hBw (Za i1)).size
 refine⟨(SF.of_below _ b8),?_⟩
 have j7:=Zf i2 s2
 have i8:=(((hA.only (Zd.of_upd (T:=[30]) i6 a5 (by decide)) (by decide)).only (Zd.of_upd (T:=[30]) i9 q1 (by decide)) (by decide)).below (Za i1)).below b8
 have b3:=blB e1 hBw b8
 refine yc (.o [] 4) (args:=#[P0 ba,.slice q9 x d9]) (.t B [152,5,32,105,122,231,217,30]) (by have q:=Bo B ba b g (k*256) cc pa ca 1 N (Xm (F2 L)) (Na L k) q9 d9 (Ye x L) _ hC i8 (by rw[Yq];have q:=Ze j7;rw[←Zcl] at q;exact q) (by rw[Yq];omega) (by rw[Mr];have:=Mm hk.devs;omega) (Np (by omega) hk.devs) (by decide) (by omega) (by omega) (Nat.le_trans hBw b3.size);rw[Yq] at q;exact q) ?_
 rintro _ ag ⟨rfl,h2,f6,v0,hA⟩
 refine⟨(Hm h2 f6),?_⟩
 have a7:=((u4.below (Za i1)).below b8).only f6 (by decide)
 refine ys (.o [5,6,7,8,9] 10) a7 [V0 t,V0 u,V0 v,V0 (x:Int),V0 (k:Int),V0 (↑(Xm (F1 L)):Int),V0 (↑(Xm (F2 L)):Int),V0 ((Kh x L k).1),V0 0,V0 0,V0 0] (.t B [152,5,32,105,122,231,217,30]) fun ai l0 q6=>⟨(Zt l0 a7 (Nat.le_trans hBw a1) (by decide)),?_⟩
 refine ys (.o [11] 12) q6 [V0 t,V0 u,V0 v,V0 (x:Int),V0 (k:Int),V0 (↑(Xm (F1 L)):Int),V0 (↑(Xm (F2 L)):Int),V0 ((Kh x L k).1),V0 ((Kh x L k).2.1),V0 0,V0 0] (.t B [152,5,32,105,122,231,217,30]) fun x1 j8 t9=>⟨(Zt j8 q6 (Nat.le_trans hBw a1) (by decide)),?_⟩
 refine xr (.r [13] 5) (args:=#[.nilIface]) (Vj _) fun m5 c1=>?_
 refine xd 3 (.t B [152,5,32,105,122,231,217,30]) ?_
 have c7:=((j8.blkT (l0.blkT ((e4.below b8).only f6 (by decide)) a7 (by decide)) q6 (by decide)).below c1).below (Za m5)
 refine xbt (.e [0] 1) 0 B [152,5,32,105,122,231,217,30] c7 ?_
 refine xlvt (.e [] 2) (.t B [152,5,32,105,122,231,217,30]) (fun V hV=>(c7.only hV.2 (by decide)).rp) ?_
 have e8:=(((hA.only (Zd.of_upd (T:=[30]) l0 a7 (by decide)) (by decide)).only (Zd.of_upd (T:=[30]) j8 q6 (by decide)) (by decide)).below c1).below (Za m5)
 refine yc (.o [] 3) (args:=#[.agg #[P0 ba]]) (.t B [152,5,32,105,122,231,217,30]) (Be B ba b g cc pa ca 1 N (Wa x L) k _ _ e8 (by omega) (by omega)) ?_
 rintro _ ae ⟨_,rfl,c8,q8,d8,rfl,p5⟩
 have s0:=(blB (blB (j8.below (l0.below (b3.trans h2) (Nat.le_trans hBw a1)) (Nat.le_trans hBw a1)) hBw c1) hBw (Za m5)).size
 refine⟨(SF.of_below _ c8),?_⟩
 have m6:=e8.below c8
 have o4:=Zf p5 s0
 have b6:=blB (blB (blB (j8.below (l0.below (b3.trans h2) (Nat.le_trans hBw a1)) (Nat.le_trans hBw a1)) hBw c1) hBw (Za m5)) hBw c8
 refine yc (.o [] 4) (args:=#[P0 ba,.slice (some q8) k d8]) (.t B [152,5,32,105,122,231,217,30]) (by have q:=Cj B ba b g (k*256) cc pa ca 1 N (Wa x L) (Kh x L k).2.2 q8 d8 (Yp (Wa x L+1) k) _ hC m6 (by rw[Xl];exact Ze o4) (by rw[Xl];omega) (by rw[Xl];omega) (Md (by omega)) (by omega) (by rw[Ci];omega) (by decide) (by rw[Nat.add_comm 1];exact Ck) (Nat.le_trans hBw b6.size);rw[Xl] at q;exact q) ?_
 rintro _ y0 ⟨rfl,f7,g9,u5,hA⟩
 refine⟨(Hm f7 g9),?_⟩
 have a3:=(((t9.below c1).below (Za m5)).below c8).only g9 (by decide)
 refine ys (.o [5,6,7,8,9] 10) a3 [V0 t,V0 u,V0 v,V0 (x:Int),V0 (k:Int),V0 (↑(Xm (F1 L)):Int),V0 (↑(Xm (F2 L)):Int),V0 ((Kh x L k).1),V0 ((Kh x L k).2.1),V0 ((Wh x L k).1),V0 0] (.t B [152,5,32,105,122,231,217,30]) fun x5 p2 q2=>⟨(Zt p2 a3 (Nat.le_trans hBw a1) (by decide)),?_⟩
 refine ys (.o [11] 12) q2 [V0 t,V0 u,V0 v,V0 (x:Int),V0 (k:Int),V0 (↑(Xm (F1 L)):Int),V0 (↑(Xm (F2 L)):Int),V0 ((Kh x L k).1),V0 ((Kh x L k).2.1),V0 ((Wh x L k).1),V0 ((Wh x L k).2.1)] (.t B [152,5,32,105,122,231,217,30]) fun y4 i7 v8=>⟨(Zt i7 q2 (Nat.le_trans hBw a1) (by decide)),?_⟩
 refine xr (.r [13] 5) (args:=#[.nilIface]) (Vj _) fun y2 c5=>?_
 have n4:=v8.below c5
 refine xlv 4 n4.rp ?_
 refine xc 0 (args:=#[.agg #[V0 t,V0 u,V0 v,V0 (x:Int),V0 (k:Int),V0 (↑(Xm (F1 L)):Int),V0 (↑(Xm (F2 L)):Int),V0 ((Kh x L k).1),V0 ((Kh x L k).2.1),V0 ((Wh x L k).1),V0 ((Wh x L k).2.1)]]) (Ik t u v x k L _ r4) ?_
 rintro _ y3 ⟨_,rfl,f3,q7,d7,rfl,j2⟩
 have r3:=(blB (i7.below (p2.below (b6.trans f7) (Nat.le_trans hBw a1)) (Nat.le_trans hBw a1)) hBw c5).size
 have j4:=((i7.blkT (p2.blkT ((c7.below c8).only g9 (by decide)) a3 (by decide)) q2 (by decide)).below c5).below f3
 refine xb 19 0 j4 ?_
 have e5:=(((hA.only (Zd.of_upd (T:=[30]) p2 a3 (by decide)) (by decide)).only (Zd.of_upd (T:=[30]) i7 q2 (by decide)) (by decide)).below c5).below f3
 refine xr 0 (args:=#[P0 ba]) (Yw ba b _ _ _ e5.blkA) fun ao h1=>?_
 have l2:=Zb (Zf j2 r3) h1
 have e0:=e5.below h1
 have d6:=blB (blB (blB (i7.below (p2.below (b6.trans f7) (Nat.le_trans hBw a1)) (Nat.le_trans hBw a1)) hBw c5) hBw f3) hBw h1
 refine xc 1 (args:=#[P0 b,V0 0,V0 1,.slice q7 244 d7]) (Uy B b (S1 g) (k*256) cc 0 (0:Int) (Wh x L k).2.2 1 q7 d7 244 (Ub (Oi t u v x L k)) _ rfl (Kg _) ⟨e0.blkI,e0.data,hC.hn⟩ (by omega) (by decide) (by decide) (Yi (Ze l2) (Kg _)) (by decide) (Nat.le_trans hBw d6.size)) ?_
 rintro _ w2 ⟨rfl,s8,t8,hI⟩
 refine xr 0 (args:=#[.nilIface]) (Vj _) fun ah m8=>?_
 have s7:=hI.below m8
 have p4:=blB (d6.trans s8) hBw m8
 exact xe 1 (.tuple #[]) ⟨rfl,p4,s7⟩
theorem levB_succ{t:Int}{leaf:Bool}{m v:Nat}{l:List Ent}{q:Nat}{bs:Bl}(j:Nat):Ot t leaf m v l q bs (j+1)=Qy (Ot t leaf m v l q bs j) ((q+j)*256) (Xk 2 ((q+j:Nat):Int) (nodB t leaf m v (Xh l m j))):=rfl
theorem Zbf{t:Int}{leaf:Bool}{m v:Nat}{l:List Ent}{q:Nat}{bs:Bl}(E:EntsOk v l)(h1:1≤t)(h2:t≤5)(hm:Yz t leaf=m)(hv:Ut t leaf=v)(hl:leaf=false→1≤l.length)(j:Nat) :
 j≤ovN l.length m→(q+j)*256≤bs.length→(Ot t leaf m v l q bs j).length=bs.length∧(∀ i,i<j→Yj (Ot t leaf m v l q bs j) (q+i)=Xk 2 ((q+i:Nat):Int) (nodB t leaf m v (Xh l m i)))∧(∀ x,x<q→Yj (Ot t leaf m v l q bs j) x=Yj bs x):=by
 induction j with
 | zero=>exact fun _ _=>⟨rfl,fun i hi=>absurd hi (Nat.not_lt_zero i),fun x _=>rfl⟩
 | succ j ih =>
  intro hj hq
  obtain⟨a1,a2,a3⟩:=ih (by omega) (by omega)
  have a4:=Of (Dr E h1 h2 hm hv hl (show j<ovN l.length m by omega))
  have a0:(Xk 2 ((q+j:Nat):Int) (nodB t leaf m v (Xh l m j))).length=256:=Vb (by rw[a4];decide)
  rw[levB_succ]
  generalize Ot t leaf m v l q bs j=y at a1 a2 a3 ⊢
  generalize hx:Xk 2 ((q+j:Nat):Int) (nodB t leaf m v (Xh l m j))=x at a0 ⊢
  have hk:q+j<y.length/256:=by rw[a1];omega
  refine⟨?_,fun i hi=>?_,fun z hz=>?_⟩
  ·rw[Yx (by rw[a0,a1];omega),a1]
  ·by_cases e:i=j
   ·subst e;rw[hx];exact Ih a0 hk
   ·rw[Qb a0 hk (by omega) (by omega)];exact a2 i (by omega)
  ·rw[Qb a0 hk (by omega) (by omega)];exact a3 z hz
theorem Zcv{t:Int}(h1:1≤t)(h2:t≤5)(n:Nat):∀ (u:List Ent) (q:Nat) (bs:Bl),u.length=n→1≤n→EntsOk 4 u→(q+((Iy n).sum-n))*256≤bs.length→(Wu t u q bs).2.length=bs.length∧∀ x,x<q→Yj (Wu t u q bs).2 x=Yj bs x:=by
 induction n using Nat.strongRecOn with
 | _ n ih =>
  intro u q bs hn a4 E hq
  subst hn
  by_cases h:u.length≤1
  ·rw[Wz h];exact⟨rfl,fun _ _=>rfl⟩
  ·have a5:=ov18 (x:=u.length) (by omega)
   have hp:=Vd u.length 18
   have a0:(Iy u.length).sum=u.length+(Iy (ovN u.length 18)).sum:=by rw[Ju h];rfl
   have hg:=Mf (ovN u.length 18)
   rw[Nz h]
   obtain⟨a1,a2,a3⟩:=Zbf (t:=t) (leaf:=false) (m:=18) (v:=4) (l:=u) (q:=q) (bs:=bs) E h1 h2 rfl rfl (fun _=>by omega) (ovN u.length 18) (Nat.le_refl _) (by omega)
   obtain⟨b1,b2⟩:=ih (ovN u.length 18) (by omega) (upE u 18 q (ovN u.length 18)) (q+ovN u.length 18) (Ot t false 18 4 u q bs (ovN u.length 18)) (Xp _ _ _ _) hp (up_ok E (by decide)) (by rw[a1];omega)
   exact⟨by rw[b1,a1],fun x hx=>by rw[b2 x (by omega),a3 x hx]⟩
theorem Pp{t:Int}{l:List Ent}{q:Nat}{bs:Bl}(h1:1≤t)(h2:t≤5)(E:EntsOk (Ut t true) l)(hq:(q+Xn t l.length)*256≤bs.length):(Xx t l q bs).2.length=bs.length∧∀ x,x<q→Yj (Xx t l q bs).2 x=Yj bs x:=by
 obtain⟨m,hm⟩:∃ m,Yz t true=m:=⟨_,rfl⟩
 have a0:=Yv t true
 have a4:=Vd l.length m
 have hg:=Mf (ovN l.length m)
 have hN:Xn t l.length=(Iy (ovN l.length m)).sum:=by unfold Xn Gv;rw[hm]
 rw[hm] at a0
 rw[hN] at hq
 unfold Xx
 rw[hm]
 obtain⟨a1,a2,a3⟩:=Zbf (t:=t) (leaf:=true) (m:=m) (v:=Ut t true) (l:=l) (q:=q) (bs:=bs) E h1 h2 hm rfl (fun h=>by cases h) (ovN l.length m) (Nat.le_refl _) (by omega)
 obtain⟨b1,b2⟩:=Zcv (t:=t) h1 h2 (ovN l.length m) (upE l m q (ovN l.length m)) (q+ovN l.length m) (Ot t true m (Ut t true) l q bs (ovN l.length m)) (Xp _ _ _ _) a4 (up_ok E a0.1) (by rw[a1];omega)
 exact⟨by rw[b1,a1],fun x hx=>by rw[b2 x (by omega),a3 x hx]⟩
theorem Wx{L:List (List Int)}{q:Nat}{bs:Bl}:∀ n,(q+n)*256≤bs.length→(Vz L q bs n).length=bs.length
 | 0,_=>rfl
 | n+1,h=>by
  have ih:=Wx (L:=L) (q:=q) (bs:=bs) n (by omega)
  have hx:(Xk 3 ((q+n:Nat):Int) (Jz (L.getD n []))).length=256:=Vb (by unfold Jz;rw[Va];decide)
  show(Qy (Vz L q bs n) ((q+n)*256) (Xk 3 ((q+n:Nat):Int) (Jz (L.getD n [])))).length=_
  rw[Yx (by rw[hx,ih];omega),ih]
theorem bitsB_I{l:List Int}(h:Hq l)(hl:l.length≤960):bitI (Jz l) l.length=l:=by
 apply List.ext_getElem (by rw[Ze4])
 intro i h1 h2
 have e:=Zec h (i:=i) (by omega)
 rw[show l.getD i 0=l[i] from by simp[List.getD,h2]] at e
 simp[bitI,Em,e]
theorem data_bits{F:Bl}{k:Nat}{c:List Int}(hk:k<F.length/256)(h4:k<14400)(hb:Yj F k=Xk 3 (k:Int) (Jz c))(hs:Hq c)(hl:c.length≤960):Ys F (k:Int)=0∧bitR F (k:Int)=c:=by
 have h:=Zdr (kind:=3) (by decide) (by decide) hk h4 (by unfold Jz;rw[Va]) hb
 have he:Ys F (k:Int)=0:=by unfold Ys;rw[if_pos h.1,h.2,if_pos (bitsB_ok hs hl)]
 refine⟨he,?_⟩
 unfold bitR
 rw[if_pos he,h.2,Ej hl,bitsB_I hs hl]
theorem forB_len(r:List Hv):∀ (q:Nat) (bs:Bl),(∀ x∈r,Lx x)→(q+Xm r)*256≤bs.length→(Ao r q bs).length=bs.length:=by
 induction r with
 | nil=>intro q bs _ _;rfl
 | cons x r ih =>
  intro q bs h hb
  have hx:=h x (by simp)
  rw[show Xm (x::r)=Mc x+Xm r from rfl] at hb
  have hk:=Pp (q:=q) (bs:=bs) hx.1 hx.2.1 hx.2.2.1 (by change (q+Mc x)*256≤_;omega)
  rw[show Ao (x::r) q bs=Ao r (q+Mc x) (Xx x.1 x.2 q bs).2 from rfl,ih _ _ (fun y hy=>h y (by simp[hy])) (by rw[hk.1];omega),hk.1]
theorem supN_bdL{s:Sup}(h:Xc s=true):s.blocks≤14400∧∀ x∈So s,0≤x∧x.toNat<256 ^ 4:=by
 unfold Xc at h
 simp only[Bool.and_eq_true,decide_eq_true_eq,true_and] at h
 refine⟨by omega,fun x hx=>?_⟩
 simp only[So,List.mem_cons,List.not_mem_nil,or_false] at hx
 rcases hx with rfl|rfl|rfl|rfl|rfl|rfl|rfl|rfl|rfl|rfl|rfl<;>omega
theorem nums_read(N:List Int)(Q:Bl)(h:∀ x∈N,0≤x∧x.toNat<256 ^ 4)(P:Bl)(i:Nat)(hi:i<N.length):(Zh (P++(Jy N++Q)) (P.length+i*4) 4:Int)=N.getD i 0:=by
 induction N generalizing P i with
 | nil=>simp at hi
 | cons n N ih =>
  have e:Jy (n::N)=leB n 4++Jy N:=rfl
  cases i with
  | zero =>
   have:=h n (by simp)
   rw[e,List.append_assoc]
   simpa using Hl (P:=P) (Q:=Jy N++Q) (k:=P.length) (w:=4) (x:=n) rfl this.1 this.2
  | succ i =>
   have a0:i<N.length:=by simpa using hi
   have:=ih (fun x hx=>h x (by simp[hx])) (P++leB n 4) i a0
   rw[e,List.append_assoc,←List.append_assoc P]
   rw[List.length_append,Zg] at this
   rw[show P.length+(i+1)*4=P.length+4+i*4 by omega,this]
   simp[List.getD]
theorem Bf{s:Sup}(h:Xc s=true):Xe (Ub s)=s∧Zh (Ub s) 8 4=1:=by
 have hb:=(supN_bdL h).2
 have g:=nums_read (1::So s) (List.replicate 188 0) (fun x hx=>by
  rcases List.mem_cons.1 hx with rfl|q
  ·decide
  ·exact hb x q) Ho
 have g:∀ i,i<12→(Zh (Ub s) (8+i*4) 4:Int)=(1::So s).getD i 0:=fun i hi=>by
  have:=g i (by show i<12;exact hi)
  rw[show Ho.length=8 from rfl] at this
  unfold Ub
  rw[List.append_assoc]
  exact this
 constructor
 ·unfold Xe
  rw[show(Zh (Ub s) 12 4:Int)=s.tx from g 1 (by decide),show(Zh (Ub s) 16 4:Int)=s.time from g 2 (by decide),show(Zh (Ub s) 20 4:Int)=s.unit from g 3 (by decide),show(Zh (Ub s) 24 4:Int)=s.data from g 4 (by decide),show(Zh (Ub s) 28 4:Int)=s.blocks from g 5 (by decide),show(Zh (Ub s) 32 4:Int)=s.top from g 6 (by decide),show(Zh (Ub s) 36 4:Int)=s.details from g 7 (by decide),show(Zh (Ub s) 40 4:Int)=s.dslots from g 8 (by decide),show(Zh (Ub s) 44 4:Int)=s.dover from g 9 (by decide),show(Zh (Ub s) 48 4:Int)=s.mindex from g 10 (by decide),show(Zh (Ub s) 52 4:Int)=s.mover from g 11 (by decide)]
 ·have:(Zh (Ub s) 8 4:Int)=1:=g 0 (by decide)
  omega
theorem supOk_supB{s:Sup}(h:Xc s=true):Sb (Ub s)=true:=by
 rw[supOk_eq (Kg s),(Bf h).1,h];simp
theorem sup_back{F:Bl}{s:Sup}{k:Nat}(hl:F.length=k*256)(hk:1≤k)(hb:Yj F 0=Xk 1 ((0:Nat):Int) (Ub s))(hr:Xc s=true)(hs:s.blocks≤(k:Int)):Qo F=0∧Xe (inB F 0)=s:=by
 obtain⟨h1,h2⟩:=Zdr (l:=F) (kind:=1) (k:=0) (li:=Ub s) (by decide) (by decide) (by omega) (by decide) (Kg s) hb
 have h1:inE F 1 0=0:=h1
 have h2:inB F 0=Ub s:=h2
 refine⟨?_,by rw[h2];exact(Bf hr).1⟩
 unfold Qo
 rw[if_pos h1,h2]
 unfold supTE
 rw[if_pos (supOk_supB hr),(Bf hr).1,if_neg (by rw[hl];omega)]
theorem Fv{L:List (List Int)}{q:Nat}{bs:Bl}:∀ n,(q+n)*256≤bs.length→∀ x,x<q→Yj (Vz L q bs n) x=Yj bs x
 | 0,_,_,_=>rfl
 | n+1,h,x,hx=>by
  have ih:=Fv (L:=L) (q:=q) (bs:=bs) n (by omega) x hx
  have hl:=Wx (L:=L) (q:=q) (bs:=bs) n (by omega)
  have a0:(Xk 3 ((q+n:Nat):Int) (Jz (L.getD n []))).length=256:=Vb (by unfold Jz;rw[Va];decide)
  show Yj (Qy (Vz L q bs n) ((q+n)*256) (Xk 3 ((q+n:Nat):Int) (Jz (L.getD n [])))) x=_
  rw[Qb a0 (by rw[hl];omega) (by omega) (by rw[hl];omega),ih]
theorem plot_keep{l:List Int}{q:Nat}{bs:Bl}(hl:l.length≤65536)(hb:(q+Wd l)*256≤bs.length):(Ig l q bs).2.2.length=bs.length∧∀ x,x<q→Yj (Ig l q bs).2.2 x=Yj bs x:=by
 obtain⟨N,hN⟩:∃ N,bmN l.length=N:=⟨_,rfl⟩
 obtain⟨L,hL⟩:∃ L,Xi (Zo l) N=L:=⟨_,rfl⟩
 obtain⟨O,hO⟩:∃ O,Zu l l.length=O:=⟨_,rfl⟩
 have a2:Wd l=N+Xn 4 N+Xn 5 O.length:=by unfold Wd;rw[hN,hO]
 have a3:N≤69:=by unfold bmN at hN;omega
 have ES:EntsOk (Ut 4 true) (Xt L q N):=Sv _ _ _ (by omega)
 have EO:EntsOk (Ut 5 true) O:=hO▸Ll _ _ (by omega)
 have a0:=Wx (L:=L) (q:=q) (bs:=bs) N (by omega)
 have a1:=Fv (L:=L) (q:=q) (bs:=bs) N (by omega)
 have k4:=Pp (t:=4) (l:=Xt L q N) (q:=q+N) (bs:=Vz L q bs N) (by decide) (by decide) ES (by rw[a0,Jl];omega)
 have k5:=Pp (t:=5) (l:=O) (q:=q+N+Xn 4 N) (bs:=(Xx 4 (Xt L q N) (q+N) (Vz L q bs N)).2) (by decide) (by decide) EO (by rw[k4.1,a0];omega)
 have hP:(Ig l q bs).2.2=(Xx 5 O (q+N+Xn 4 N) (Xx 4 (Xt L q N) (q+N) (Vz L q bs N)).2).2:=by
  unfold Ig;simp only[hN,hL,hO]
 rw[hP]
 exact⟨by rw[k5.1,k4.1,a0],fun x hx=>by rw[k5.2 x (by omega),k4.2 x (by omega),a1 x hx]⟩
theorem meta_keep{l:List Int}{u:Nat}{bs:Bl}(hl:l.length≤3000)(hb:(u+Yn l)*256≤bs.length):(Ch l u 0 bs).2.2.length=bs.length∧∀ x,x<u→Yj (Ch l u 0 bs).2.2 x=Yj bs x:=by
 obtain⟨N,hN⟩:∃ N,bmN l.length=N:=⟨_,rfl⟩
 obtain⟨O,hO⟩:∃ O,Zu l l.length=O:=⟨_,rfl⟩
 obtain⟨T,hT⟩:∃ T,Xn 5 O.length=T:=⟨_,rfl⟩
 have hm:Yn l=T+N+1:=by unfold Yn;rw[hN,hO,hT]
 obtain⟨B,hB⟩:∃ B,Qj l u (Yn l)=B:=⟨_,rfl⟩
 have a3:B.length=l.length:=by rw[←hB,Qh]
 obtain⟨C,hC⟩:∃ C,Xi (Zo B) N=C:=⟨_,rfl⟩
 obtain⟨R,hR⟩:∃ R,Rs C (u+T) N=R:=⟨_,rfl⟩
 obtain⟨X,hX⟩:∃ X,Xk 4 ((u+T+N:Nat):Int) (Cd R)=X:=⟨_,rfl⟩
 have a5:N≤4:=by unfold bmN at hN;omega
 have hP:(Ch l u 0 bs).2.2=Qy (Vz C (u+T) (Xx 5 O u bs).2 N) ((u+T+N)*256) X:=by
  unfold Ch
  simp only[Nat.add_zero,hB,a3,hN,hO,hT,hC,hR,hX]
 have EO:EntsOk (Ut 5 true) O:=hO▸Ll _ _ (by omega)
 have a6:R.length=N:=by rw[←hR,Fc]
 have a0:=Pp (t:=5) (l:=O) (q:=u) (bs:=bs) (by decide) (by decide) EO (by rw[hT];omega)
 have a1:=Wx (L:=C) (q:=u+T) (bs:=(Xx 5 O u bs).2) N (by rw[a0.1];omega)
 have a4:=Fv (L:=C) (q:=u+T) (bs:=(Xx 5 O u bs).2) N (by rw[a0.1];omega)
 rw[hP]
 by_cases hN15:N≤15
 ·have a7:(Cd R).length=244:=Lw (by omega)
  have a2:X.length=256:=by rw[←hX];exact Vb (by omega)
  exact⟨by rw[Yx (by rw[a2,a1,a0.1];omega),a1,a0.1],fun x hx=>by rw[Qb a2 (by rw[a1,a0.1];omega) (by omega) (by rw[a1,a0.1];omega),a4 x (by omega),a0.2 x hx]⟩
 ·exact absurd hN15 (by omega)
theorem lay_parts{t u v:Int}{x k:Nat}{L:List Dv}(hk:PoolOk t u v (x:Int) L)(hr:Pw x L≤k)(hk3:k≤3000) :
 (Bs t u v x L k).length=k*256∧Qo (Bs t u v x L k)=0∧Xe (inB (Bs t u v x L k) 0)=Oi t u v x L k∧∀ j,1≤j→j<1+Xm (F2 L)→Yj (Bs t u v x L k) j=Yj (Na L k) j:=by
 have a1:=Od hr
 have hx:x≤65536:=by have:=hk.hdata;omega
 have a4:=Fl hk hr (by omega)
 have a2:∀ y∈F2 L,Lx y:=fun y hy=>by
  unfold F2 F1 at hy
  rcases List.mem_append.1 hy with q|q
  ·rcases List.mem_append.1 q with q|q
   ·exact devT_ok hk.devs y q
   ·rw[List.mem_singleton.1 q];exact top_ok hk.devs
  ·rw[List.mem_singleton.1 q];exact det_ok hk.devs
 have l1:(Na L k).length=k*256:=by
  unfold Na
  rw[forB_len _ _ _ a2 (by rw[List.length_replicate];omega),List.length_replicate]
 have a7:Wa x L=Xm (F2 L)+Wd (Ye x L):=rfl
 have p2:=plot_keep (l:=Ye x L) (q:=1+Xm (F2 L)) (bs:=Na L k) (by rw[Yq];exact hx) (by rw[l1];omega)
 have e2:(Kh x L k)=Ig (Ye x L) (1+Xm (F2 L)) (Na L k):=rfl
 rw[←e2] at p2
 have hn:Yn (Yp (Wa x L+1) k)=2+bmN k:=by
  unfold Yn
  rw[Gh,Xl,List.length_nil,Oc];omega
 have p3:=meta_keep (l:=Yp (Wa x L+1) k) (u:=1+Wa x L) (bs:=(Kh x L k).2.2) (by rw[Xl];exact hk3) (by rw[hn,p2.1,l1];omega)
 have e3:(Wh x L k).2.2=(Ch (Yp (Wa x L+1) k) (1+Wa x L) 0 (Kh x L k).2.2).2.2:=by
  unfold Wh Ch
  simp only[Nat.add_zero]
 rw[←e3] at p3
 have l3:(Wh x L k).2.2.length=k*256:=by rw[p3.1,p2.1,l1]
 have a0:(Xk 1 (0:Nat) (Ub (Oi t u v x L k))).length=256:=Vb (by rw[Kg];decide)
 have lB:(Bs t u v x L k).length=k*256:=by
  unfold Bs
  rw[Yx (by rw[a0,l3];omega),l3]
 have a5:Yj (Bs t u v x L k) 0=Xk 1 ((0:Nat):Int) (Ub (Oi t u v x L k)):=by
  unfold Bs
  exact Ih a0 (by rw[l3];omega)
 obtain⟨s1,s2⟩:=sup_back lB (by omega) a5 a4 (Int.le_refl _)
 refine⟨lB,s1,s2,fun j a6 a3=>?_⟩
 unfold Bs
 rw[Qb a0 (by rw[l3];omega) (by omega) (by rw[l3];omega),p3.2 j (by omega),p2.2 j a3]
theorem ov_one{t:Int}{n:Nat}(h:n≤Yz t true):ovN n (Yz t true)=1:=by
 have hm:=(Yv t true).1
 have hp:=Vd n (Yz t true)
 have:(n+Yz t true-1)/Yz t true≤1:=by
  have:=Nat.div_lt_of_lt_mul (m:=n+Yz t true-1) (n:=Yz t true) (k:=2) (by omega)
  omega
 unfold ovN
 omega
theorem Dk{t:Int}{l:List Ent}{q:Nat}{bs:Bl}(h:l.length≤Yz t true):Xx t l q bs=((q:Int),Qy bs (q*256) (Xk 2 ((q:Nat):Int) (nodB t true (Yz t true) (Ut t true) l))):=by
 unfold Xx
 rw[ov_one h,Wz (by rw[Xp];exact Nat.le_refl _)]
 have e:Xh l (Yz t true) 0=l:=by unfold Xh;rw[Nat.zero_mul,List.drop_zero,List.take_of_length_le h]
 show(((q+0:Nat):Int),Qy bs ((q+0)*256) (Xk 2 ((q+0:Nat):Int) (nodB t true (Yz t true) (Ut t true) (Xh l (Yz t true) 0))))=_
 rw[e,Nat.add_zero]
theorem one_ok{t:Int}{l:List Ent}(E:EntsOk (Ut t true) l)(h1:1≤t)(h2:t≤5)(h:l.length≤Yz t true):NodeOk t true l.length (Yz t true) (Ut t true) (Vu l) (Jp l):=by
 have e:Xh l (Yz t true) 0=l:=by unfold Xh;rw[Nat.zero_mul,List.drop_zero,List.take_of_length_le h]
 have:=Dr (l:=l) E h1 h2 rfl rfl (fun h=>by cases h) (i:=0) (by rw[ov_one h];decide)
 rw[e] at this
 exact this
theorem one_read{F:Bl}{t:Int}{l:List Ent}{q:Nat}(E:EntsOk (Ut t true) l)(h1:1≤t)(h2:t≤5)(h:l.length≤Yz t true)(hq:q<F.length/256)(h4:q<14400)(hb:Yj F q=Xk 2 ((q:Nat):Int) (nodB t true (Yz t true) (Ut t true) l)) :
 Xv F (q:Int) t=0∧Qr (inB F (q:Int))=true∧Xq (inB F (q:Int))=l.length∧nodK F (q:Int)=Vu l∧Uq F (q:Int)=Jp l:=by
 have N:=one_ok E h1 h2 h
 obtain⟨he,a0⟩:=blk_back N rfl hq h4 hb t (.inr rfl)
 have B:=Zfw N
 refine⟨he,by rw[a0];exact B.l,by rw[a0];exact B.c,?_,?_⟩
 ·unfold nodK;rw[a0,B.c];exact B.k
 ·unfold Uq;rw[a0,B.c];exact B.v
theorem entsNil(w:Nat):EntsOk w []:=⟨fun i hi=>absurd hi (by simp),fun j hj=>absurd hj (by simp),fun i hi=>absurd hi (by simp)⟩
theorem ov0(t:Int):ovN 0 (Yz t true)=1:=by
 have hp:=Vd 0 (Yz t true)
 have hm:=(Yv t true).1
 have h1:ovN 0 (Yz t true)≤1:=by
  unfold ovN
  have:(0+Yz t true-1)/Yz t true=0:=Nat.div_eq_of_lt (by omega)
  omega
 omega
theorem Zbh(t:Int):Xn t 0=1:=by
 unfold Xn Gv
 rw[ov0,Hp (by decide)];rfl
theorem nod0_ok{t:Int}(h1:1≤t)(h2:t≤5):NodeOk t true (Xh [] (Yz t true) 0).length (Yz t true) (Ut t true) (Vu (Xh [] (Yz t true) 0)) (Jp (Xh [] (Yz t true) 0)) :=
 Dr (l:=[]) (entsNil _) h1 h2 rfl rfl (fun h=>by cases h) (i:=0) (by rw[show([]:List Ent).length=0 from rfl,ov0];decide)
abbrev Z26:Bl:=List.replicate (8*256) 0
theorem lay26_1:Na [] 8=(Xx 3 [] 2 (Xx 1 [] 1 Z26).2).2:=by
 show Ao [(1,[]),(3,[])] 1 Z26=_
 have e:Mc ((1:Int),([]:List Ent))=1:=Zbh 1
 rw[Ao,Ao,Ao,e]
theorem Iv:Xm (F2 [])=2:=by
 show Xn 1 0+(Xn 3 0+0)=2
 rw[Zbh,Zbh]
theorem lay26_D:(Kh 0 [] 8).2.2=(Xx 5 [] 4 (Xx 4 [] 3 (Na [] 8)).2).2:=by
 unfold Kh
 rw[Iv]
 show(Xx 5 [] (1+2+0+Xn 4 0) (Xx 4 [] (1+2+0) (Na [] 8)).2).2=_
 rw[Zbh]
theorem lay26_K:Wa 0 []=4:=by
 unfold Wa
 rw[Iv]
 show 2+(0+Xn 4 0+Xn 5 0)=4
 rw[Zbh,Zbh]
theorem Zei{l:Bl}{k:Nat}{kind:Int}{li:Bl}{n:Nat}(hl:l.length=n*256)(hk:k<n)(h3:li.length≤244) :
 (Qy l (k*256) (Xk kind (k:Int) li)).length=n*256∧Yj (Qy l (k*256) (Xk kind (k:Int) li)) k=Xk kind (k:Int) li∧∀ j,j<n→j≠k→Yj (Qy l (k*256) (Xk kind (k:Int) li)) j=Yj l j:=by
 have hs:(Xk kind (k:Int) li).length=256:=Vb h3
 exact⟨by rw[Yx (by rw[hs,hl];omega),hl],Ih hs (by omega),fun j hj e=>Qb hs (by omega) e (by omega)⟩
def Zc5(t:Int):Bl:=nodB t true (Yz t true) (Ut t true) []
theorem Mo{l:Bl}{k:Nat}{t:Int}{n:Nat}(hl:l.length=n*256)(hk:k<n)(h1:1≤t)(h2:t≤5) :
 (Xx t [] k l).1=(k:Int)∧(Xx t [] k l).2.length=n*256∧Yj (Xx t [] k l).2 k=Xk 2 (k:Int) (Zc5 t)∧∀ j,j<n→j≠k→Yj (Xx t [] k l).2 j=Yj l j:=by
 rw[Dk (Nat.zero_le _)]
 have e:Xh [] (Yz t true) 0=([]:List Ent):=by simp[Xh]
 have hn:=Of (nod0_ok h1 h2)
 rw[e] at hn
 exact⟨rfl,Zei hl hk (by rw[hn];decide)⟩
abbrev B47:Bl:=Bs 0 0 1 0 [] 8
theorem need47:Yn (Yp 5 8)=3:=by
 unfold Yn
 rw[Gh,Xl,List.length_nil,Oc];rfl
theorem bump47:Qj (Yp 5 8) 5 3=[1,1,1,1,1,1,1,1]:=by decide
theorem chunk47:Xi (Zo [1,1,1,1,1,1,1,1]) 1=[[1,1,1,1,1,1,1,1]]:=by decide
theorem rs47:Rs [[1,1,1,1,1,1,1,1]] 6 1=[(6,0,8)]:=by decide
theorem meta47:Wh 0 [] 8=(7,5,Qy (Qy (Xx 5 [] 5 (Kh 0 [] 8).2.2).2 (6*256) (Xk 3 ((6:Nat):Int) (Jz [1,1,1,1,1,1,1,1]))) (7*256) (Xk 4 ((7:Nat):Int) (Cd [(6,0,8)]))):=by
 have hb:bmN (Qj (Yp 5 8) 5 3).length=1:=by rw[Qh,Xl];rfl
 unfold Wh
 rw[lay26_K]
 unfold Ch
 rw[need47,bump47,Gh,List.length_nil,Zbh]
 show(((5+1+1:Nat):Int),(Xx 5 [] 5 (Kh 0 [] 8).2.2).1,Qy (Vz (Xi (Zo [1,1,1,1,1,1,1,1]) 1) 6 (Xx 5 [] 5 (Kh 0 [] 8).2.2).2 1) (7*256) (Xk 4 ((7:Nat):Int) (Cd (Rs (Xi (Zo [1,1,1,1,1,1,1,1]) 1) 6 1))))=_
 rw[chunk47,rs47,Dk (Nat.zero_le _)]
 rfl
theorem It:B47.length=8*256∧Yj B47 1=Xk 2 ((1:Nat):Int) (Zc5 1)∧Yj B47 2=Xk 2 ((2:Nat):Int) (Zc5 3)∧Yj B47 3=Xk 2 ((3:Nat):Int) (Zc5 4)∧Yj B47 4=Xk 2 ((4:Nat):Int) (Zc5 5)∧Yj B47 5=Xk 2 ((5:Nat):Int) (Zc5 5)∧Yj B47 6=Xk 3 ((6:Nat):Int) (Jz [1,1,1,1,1,1,1,1])∧Yj B47 7=Xk 4 ((7:Nat):Int) (Cd [(6,0,8)]):=by
 obtain⟨-,a1,b1,c1⟩:=Mo (l:=Z26) (k:=1) (n:=8) (t:=1) List.length_replicate (by decide) (by decide) (by decide)
 obtain⟨-,a2,b2,c2⟩:=Mo (k:=2) (n:=8) (t:=3) a1 (by decide) (by decide) (by decide)
 rw[←lay26_1] at a2 b2 c2
 obtain⟨-,a3,b3,c3⟩:=Mo (k:=3) (n:=8) (t:=4) a2 (by decide) (by decide) (by decide)
 obtain⟨-,a4,b4,c4⟩:=Mo (k:=4) (n:=8) (t:=5) a3 (by decide) (by decide) (by decide)
 rw[←lay26_D] at a4 b4 c4
 obtain⟨-,a5,b5,c5⟩:=Mo (k:=5) (n:=8) (t:=5) a4 (by decide) (by decide) (by decide)
 obtain⟨a6,b6,c6⟩:=Zei (k:=6) (n:=8) (kind:=3) (li:=Jz [1,1,1,1,1,1,1,1]) a5 (by decide) (by unfold Jz;rw[Va];decide)
 obtain⟨a7,b7,c7⟩:=Zei (k:=7) (n:=8) (kind:=4) (li:=Cd [(6,0,8)]) a6 (by decide) (by rw[Lw (by decide)];decide)
 have e7:(Wh 0 [] 8).2.2=Qy (Qy (Xx 5 [] 5 (Kh 0 [] 8).2.2).2 (6*256) (Xk 3 ((6:Nat):Int) (Jz [1,1,1,1,1,1,1,1]))) (7*256) (Xk 4 ((7:Nat):Int) (Cd [(6,0,8)])):=by rw[meta47]
 rw[←e7] at a7 b7 c7
 obtain⟨a0,b0,c0⟩:=Zei (k:=0) (n:=8) (kind:=1) (li:=Ub (Oi 0 0 1 0 [] 8)) a7 (by decide) (by rw[Kg];decide)
 refine⟨a0,?_,?_,?_,?_,?_,?_,?_⟩
 ·exact(c0 1 (by decide) (by decide)).trans ((c7 1 (by decide) (by decide)).trans ((c6 1 (by decide) (by decide)).trans ((c5 1 (by decide) (by decide)).trans ((c4 1 (by decide) (by decide)).trans ((c3 1 (by decide) (by decide)).trans ((c2 1 (by decide) (by decide)).trans b1))))))
 ·exact(c0 2 (by decide) (by decide)).trans ((c7 2 (by decide) (by decide)).trans ((c6 2 (by decide) (by decide)).trans ((c5 2 (by decide) (by decide)).trans ((c4 2 (by decide) (by decide)).trans ((c3 2 (by decide) (by decide)).trans b2)))))
 ·exact(c0 3 (by decide) (by decide)).trans ((c7 3 (by decide) (by decide)).trans ((c6 3 (by decide) (by decide)).trans ((c5 3 (by decide) (by decide)).trans ((c4 3 (by decide) (by decide)).trans b3))))
 ·exact(c0 4 (by decide) (by decide)).trans ((c7 4 (by decide) (by decide)).trans ((c6 4 (by decide) (by decide)).trans ((c5 4 (by decide) (by decide)).trans b4)))
 ·exact(c0 5 (by decide) (by decide)).trans ((c7 5 (by decide) (by decide)).trans ((c6 5 (by decide) (by decide)).trans b5))
 ·exact(c0 6 (by decide) (by decide)).trans ((c7 6 (by decide) (by decide)).trans b6)
 ·exact(c0 7 (by decide) (by decide)).trans b7
theorem Oy{q:Nat}{t:Int}(h1:1≤t)(h2:t≤5)(hq:q<8)(hb:Yj B47 q=Xk 2 ((q:Nat):Int) (Zc5 t)):Sd B47 (q:Int) t=0∧On B47 (q:Int) t=[]:=by
 obtain⟨e,_,_,_,hv⟩:=one_read (l:=[]) (entsNil _) h1 h2 (Nat.zero_le _) (by rw[It.1];omega) (by omega) hb
 constructor
 ·unfold Sd;rw[if_neg (by omega),if_neg (by omega)];exact e
 ·unfold On;rw[if_neg (by omega),if_neg (by omega)]
  unfold Zfc
  rw[hv]
  split<;>rfl
theorem idx47:Sd B47 7 6=0∧On B47 7 6=[(7,6,7,0)]:=by
 obtain⟨h1,h2⟩:=Zdr (l:=B47) (kind:=4) (k:=7) (li:=Cd [(6,0,8)]) (by decide) (by decide) (by rw[It.1];decide) (by decide) (Lw (by decide)) It.2.2.2.2.2.2.2
 have hS:Er [(6,0,8)]:=⟨by decide,fun i hi=>by
  obtain rfl:i=0:=by simpa using hi
  exact⟨by decide,by decide,by decide,by decide⟩⟩
 have a0:Qv B47 ((7:Nat):Int)=0:=by unfold Qv;rw[if_pos h1,h2];exact(Za4 hS).1
 have a1:Un B47 ((7:Nat):Int)=[(6,0,8)]:=by rw[(Fy a0).1,h2,Zfj (by decide)];exact(Za4 hS).2
 exact⟨a0,by show(Un B47 7).map (Ta 7)=_;rw[show Un B47 7=_ from a1];rfl⟩
theorem bit47:Sd B47 6 7=0∧On B47 6 7=[]:=by
 obtain⟨h1,_⟩:=data_bits (F:=B47) (k:=6) (c:=[1,1,1,1,1,1,1,1]) (by rw[It.1];decide) (by decide) It.2.2.2.2.2.2.1 (fun x hx=>by revert x hx;decide) (by decide)
 exact⟨h1,rfl⟩
theorem s47r:Xc (Oi 0 0 1 0 [] 8)=true:=by
 refine Fl (t:=0) (u:=0) (v:=1) (x:=0) (L:=[]) (k:=8) ⟨by decide,by decide,by decide,by decide,DevsOk.nil _⟩ ?_ (by decide)
 have e:Cc 0 []=1+Xn 3 0+Xn 1 0+0+0+Xn 4 0+Xn 5 0:=rfl
 unfold Pw
 rw[e,Zbh,Zbh,Zbh,Zbh]
 decide
theorem lay47_F1:Xm (F1 [])=1:=by
 show Xn 1 0+0=1
 rw[Zbh]
theorem s47_is:Oi 0 0 1 0 [] 8=⟨0,0,1,0,8,1,2,3,4,7,5⟩:=by
 have hD:(Kh 0 [] 8).1=3∧(Kh 0 [] 8).2.1=4:=by
  unfold Kh
  rw[Iv]
  show(Xx 4 [] (1+2+0) (Na [] 8)).1=3∧(Xx 5 [] (1+2+0+Xn 4 0) (Xx 4 [] (1+2+0) (Na [] 8)).2).1=4
  rw[Zbh,Dk (Nat.zero_le _),Dk (Nat.zero_le _)]
  exact⟨rfl,rfl⟩
 unfold Oi
 rw[lay47_F1,Iv,hD.1,hD.2,meta47]
 rfl
theorem Fo{out r J:List Lk}{x:Lk}(h:x.2.2.2=0)(h2:0≤x.2.1∧x.2.1<((8:Nat):Int))(h3:Ky out x.2.1=false)(h4:Sd B47 x.2.1 x.2.2.1=0)(h5:On B47 x.2.1 x.2.2.1=J):Zd2 B47 8 out (x::r)=Zd2 B47 8 (out++[x]) (J++r):=by
 rw[Zcx h h2 h3 h4,h5]
def lk47:List Lk:=[(0,1,1,0),(0,2,3,0),(0,3,4,0),(0,4,5,0),(0,7,6,0),(7,6,7,0),(0,5,5,0)]
theorem links47:Re B47 (Oi 0 0 1 0 [] 8)=(lk47,[],0):=by
 obtain⟨_,b1,b2,b3,b4,b5,b6,b7⟩:=It
 have e1:=Oy (q:=1) (t:=1) (by decide) (by decide) (by decide) b1
 have e2:=Oy (q:=2) (t:=3) (by decide) (by decide) (by decide) b2
 have e3:=Oy (q:=3) (t:=4) (by decide) (by decide) (by decide) b3
 have e4:=Oy (q:=4) (t:=5) (by decide) (by decide) (by decide) b4
 have e5:=Oy (q:=5) (t:=5) (by decide) (by decide) (by decide) b5
 unfold Re
 rw[if_neg (by rw[s47r];decide),s47_is]
 show Zd2 B47 8 [] [(0,1,1,0),(0,2,3,0),(0,3,4,0),(0,4,5,0),(0,7,6,0),(0,5,5,0)]=_
 rw[Fo (x:=(0,1,1,0)) rfl (by decide) (by decide) e1.1 e1.2]
 simp only[List.nil_append]
 rw[Fo (x:=(0,2,3,0)) rfl (by decide) (by decide) e2.1 e2.2]
 simp only[List.nil_append,List.cons_append]
 rw[Fo (x:=(0,3,4,0)) rfl (by decide) (by decide) e3.1 e3.2]
 simp only[List.nil_append,List.cons_append]
 rw[Fo (x:=(0,4,5,0)) rfl (by decide) (by decide) e4.1 e4.2]
 simp only[List.nil_append,List.cons_append]
 rw[Fo (x:=(0,7,6,0)) rfl (by decide) (by decide) idx47.1 idx47.2]
 simp only[List.nil_append,List.cons_append]
 rw[Fo (x:=(7,6,7,0)) rfl (by decide) (by decide) bit47.1 bit47.2]
 simp only[List.nil_append,List.cons_append]
 rw[Fo (x:=(0,5,5,0)) rfl (by decide) (by decide) e5.1 e5.2]
 simp only[List.nil_append,List.cons_append]
 rfl
end Go.Proofs.YtceeiinepijokaaGreat
namespace Go.Proofs.YtceeiinepijokaaGreat
set_option maxHeartbeats 8000000
set_option maxRecDepth 100000
open Go.RowKit Go.Extern.Stop Go.Stop Go.Extern
set_option linter.unusedVariables false
attribute [local irreducible] wpList wpAnyH Code.wp Oper.wp Go
section
attribute [local semireducible] Oper.wp
theorem op_deferV{P:Program}{Q:Exit→Act→World→Prop}{a:Act}{w:World}{K:Act→World→Prop}{o:Oper}{c:Operand}{f:FuncId}{cap:Array Value}(ho:o.op=.defer { callee:=.value c,args:=#[],argTypes:=#[] })(hc:a.eval c=.func (.func f) #[] cap)
 (k:K ({ a with defers:={ target:=.fn (.func f) cap,args:=#[] }::a.defers }.put o.dst undef) w):o.wp P a w K Q:=by
 have h2:(execOp a.eval o).run P w=.ok (.defer { target:=.fn (.func f) cap,args:=#[] }) w:=by
  simp[execOp,ho,resolve,hc,Deferred.ofValue]
 simp only[Oper.wp,h2,Oper.upon]
 exact k
end
theorem g_retD{P:Program}{fn:Func}{R:Ending→World→Prop}{a:Act}{w:World}(f:FuncId)(cap:Array Value)(v:Value)(hd:a.defers=[{ target:=.fn (.func f) cap,args:=#[] }])(hi:∀ w,(invoke (.fn (.func f) cap) #[]).run P w=.ok (.enter f cap) w)
 (hc:CallsD P f cap .returning w fun e u w'=>e=.returned (.tuple #[])∧u=.returning∧B3 w w') (h:∀ W,B3 w W→(results fn a.tmps).run P W=.ok v W∧R (.returned v) W):bodyPostD P fn R .ret a w:=by
 show Leaves P fn a.tmps R a.defers .returning w
 rw[hd]
 refine leaves_cons (by simp) (hi w) (hc.mono ?_)
 rintro e u w' ⟨rfl,rfl,hb⟩
 obtain⟨h1,h2⟩:=h w' hb
 exact⟨v,h1,h2⟩
theorem Cm{P:Program}{w:World}{b:Nat}{t:TypeId}{x:Value}(k:Blk w b [x] t)(hu:aggB P t=some false):(loadVar t ⟨b,0,none⟩).run P w=.ok x w:=by
 have hc:w.cell? ⟨b,0,none⟩=some x:=k.cell (i:=0) rfl
 simp[loadVar,Sem.run_bind,Zbq hu,load,Sem.run,hc]
theorem res_kk{P:Program}{fn:Func}{tmps:Array Value}{w:World}{k j:Nat}{t s:TypeId}{b c:Nat}{x y:Value}(hfn:fn.results=#[.cell k t,.cell j s])(e:tmps.getD k undef=P0 b)(e2:tmps.getD j undef=P0 c)
 (hx:Blk w b [x] t) (hy:Blk w c [y] s) (hu:aggB P t=some false) (hu2:aggB P s=some false):(results fn tmps).run P w=.ok (.tuple #[x,y]) w:=by
 have h:=Cm hx hu
 have h2:=Cm hy hu2
 have e':tmps[k]?.getD undef=P0 b:=by simpa using e
 have a0:tmps[j]?.getD undef=P0 c:=by simpa using e2
 simp[results,hfn,e',a0,asAddr,h,h2]
theorem lay_idle(b c:Nat)(w:World):CallsD Tryz.prog 32 #[P0 b,P0 c] .returning w fun e u w'=>e=.returned (.tuple #[])∧u=.returning∧B3 w w':=by
 refine callsD_of_wpS Tryz.func32 rfl fun c₀ cs hu=>?_
 have a0:∀ w,(Instr.typeAssert .nilIface 20 87 true).run Tryz.prog w=.ok (.tuple #[.agg #[.nilIface],.bool false]) w:=fun w=>by kernel_rfl
 apply wpS_seq
 apply wpS_region
 simp[wpOpsS,go_sem,recoverD,hu,Tryz.ntmps32,Exit.thenS,a0]
 apply wpS_seq
 apply wpS_region
 simp[wpOpsS,go_sem,Exit.thenS]
 refine wpS_cond (t:=false) (by simp[Act.eval,Array.replicate]) ?_
 simp only[Bool.false_eq_true,if_false]
 refine wpS_of_wp (wp_skip ?_)
 cases c₀
 have hb:=blx w (Obj.cells #[Value.nilIface] 87)
 simp_all [bodyPostS,results,Tryz.results32]
end Go.Proofs.YtceeiinepijokaaGreat
namespace Go.Proofs.YtceeiinepijokaaGreat
set_option maxHeartbeats 8000000
set_option maxRecDepth 100000
open Go.RowKit Go.Extern.Stop Go.Stop Go.Extern
set_option linter.unusedVariables false
attribute [local irreducible] wpList wpAnyH Code.wp Oper.wp Go
theorem Zgw(k:Nat)(w:World)(hk:k≤14400) :
 C0 34 #[V0 (k:Int)] w (Yy (fun w' r=>∃ b p c,r=.tuple #[P0 b,V0 0]∧w.heap.size≤b∧ImgR w.heap.size b p (k*256) c (List.replicate (k*256) (0:UInt8)) w') w):=by
 refine zin 15 Tryz.func34 ?_
 refine xgk 12 [5,6] (show(decide ((k:Int)<(0:Int)):Bool)=false from decide_eq_false (by omega)) ?_
 refine xk 5 (show(decide ((k:Int)>(14400:Int)):Bool)=false from decide_eq_false (by omega)) ?_
 refine xwm 5 ((k:Int)*256) (↑(k*256):Int) ?_
 refine xmk 0 fun _ _ _ _ zJ zQ zo zx zy zK=>Ke (k*256) (.int .u8 0) 1 1 ((List.replicate (k*256) (0:UInt8)).map bv) zo zx zy Tryz.underlying22 (by kernel_rfl) rfl (by omega) (by omega) (Zbi (k*256)) fun b2 W2 n2=>?_
 refine zK _ _ ?_
 refine xa 1 [.slice (S1 b2) (k*256) (k*256)] 59 fun b3 W3 n3=>?_
 have hB:=bln n2.below n3.below
 have g3:=n3.ge n2.below
 have o2:=Zb (Zz (size:=1) (n:=(k*256)) n2.blk (n2.ge (B4 w)) (by rw[List.length_map,List.length_replicate,Nat.mul_one]) (by unfold maxLen;omega)) n3.below
 exact xe 5 (.tuple #[P0 b3,V0 0]) ⟨_,rfl,hB,_,_,_,rfl,g3,⟨n3.blk,o2,by omega⟩⟩
def LayO(l:Bl)(k:Nat)(w:World)(e:Ending)(w':World):Prop:=∃ bi g ci,e=.returned (.tuple #[P0 bi,.nilIface])∧B3 w w'∧ImgR w.heap.size bi (S1 g) (k*256) ci l w'
theorem lay_LayY(p:O0)(c n x k:Nat)(t u v:Int)(Z:List Zv)(w:World)(hZ:Z.length=n)(hP:DevsR w p c Z)(hk:PoolOk t u v (x:Int) (Z.map Prod.fst))(hk3:k≤3000)(hr:Pw x (Z.map Prod.fst)≤k) :
 C0 17 #[.agg #[V0 t,V0 u,V0 v,V0 (x:Int),.slice p n c],V0 (k:Int)] w (LayO (Bs t u v x (Z.map Prod.fst) k) k w):=by
 have c3:k≤14400:=by omega
 refine calls_of_wp_defers Tryz.func17 rfl ?_
 refine g_fr ⟨#[.agg #[V0 t,V0 u,V0 v,V0 (x:Int),.slice p n c],V0 (k:Int),undef,undef,undef,undef,undef,undef,undef,undef,undef,undef,undef,undef,undef,undef,undef,undef,undef,undef,undef,undef,undef,undef,undef,undef,undef,undef,undef,undef,undef,undef,undef,undef,undef,undef,undef,undef,undef,undef,undef,undef],[]⟩ (by kernel_rfl) ?_
 refine wp_seq ?_
 refine wp_region_lit ?_
 refine Jd (by kernel_rfl) (op_box [V0 t,V0 u,V0 v,V0 (x:Int),.slice p n c] rfl (by kernel_rfl) ?_)
 intro b1 W1 n1
 have g1:=n1.ge (B4 w)
 have hB:=n1.below
 have k1:=n1.blk
 refine Jd (by kernel_rfl) (Pm [.pointer none] rfl (by kernel_rfl) ?_)
 intro b2 W2 n2
 have a6:=n2.ne k1
 have g2:=n2.ge hB
 replace hB:=bln hB n2.below
 replace k1:=k1.below n2.below
 have k2:=n2.blk
 refine Jd (by kernel_rfl) (Pm [.nilIface] rfl (by kernel_rfl) ?_)
 intro b3 W3 n3
 have a9:=n3.ne k1
 have a1:=n3.ne k2
 have g3:=n3.ge hB
 replace hB:=bln hB n3.below
 replace k1:=k1.below n3.below
 replace k2:=k2.below n3.below
 have k3:=n3.blk
 refine wpList_nil ?_
 refine wp_seq ?_
 refine wp_region_lit ?_
 refine Gk 1 [(9,.func (.func 32) #[] #[P0 b2,P0 b3])] (by kernel_rfl) ?_
 refine Jd (by kernel_rfl) (op_deferV (f:=32) (cap:=#[P0 b2,P0 b3]) rfl (by kernel_rfl) ?_)
 refine wpList_nil ?_
 refine wp_seq ?_
 refine wp_seq ?_
 refine wp_region_lit ?_
 refine Jd (by kernel_rfl) (Mn (b:=b1) (off:=0) [V0 t,V0 u,V0 v,V0 (x:Int),.slice p n c] _ rfl (by kernel_rfl) Tryz.underlying28 rfl (by kernel_rfl) k1.whole ?_)
 refine Jd (by kernel_rfl) (Qw (lb:=#[]) 33 #[.agg #[V0 t,V0 u,V0 v,V0 (x:Int),.slice p n c]] rfl (by kernel_rfl) (fun _ _=>by kernel_rfl) (by kernel_rfl) ((Bp p c n t u v (x:Int) Z _ hZ (hP.below hB)).mono ?_))
 rintro e W4 ⟨rfl,b4⟩
 refine⟨_,rfl,?_⟩
 replace hB:=bln hB b4
 replace k1:=k1.below b4
 replace k2:=k2.below b4
 replace k3:=k3.below b4
 refine Gk 1 [(6,V0 (Hu t u v (x:Int) (Z.map Prod.fst)))] (by kernel_rfl) ?_
 refine wpList_nil ?_
 refine wp_seq ?_
 refine wp_region_lit ?_
 refine Gk 2 [(12,V0 (Hu t u v (x:Int) (Z.map Prod.fst))),(13,.bool ((Hu t u v (x:Int) (Z.map Prod.fst)) != (0:Int)))] (by kernel_rfl) ?_
 refine wpList_nil ?_
 refine wp_cond_split (t:=((Hu t u v (x:Int) (Z.map Prod.fst)) != (0:Int))) (by kernel_rfl) (fun hh=>absurd (hh.symm.trans (show(((Hu t u v (x:Int) (Z.map Prod.fst)) != (0:Int)):Bool)=false from(by rw[Ty.2 hk];rfl))) (by decide)) (fun _=>?_)
 refine wp_skip ?_
 refine wp_seq ?_
 refine wp_region_lit ?_
 refine Gk 1 [(17,V0 (k:Int))] (by kernel_rfl) ?_
 have b7:w.heap.size≤W4.heap.size:=hB.size
 have c4:=k2.lt
 have c5:=k3.lt
 refine Jd (by kernel_rfl) (Qw (lb:=#[]) 34 #[V0 (k:Int)] rfl (by kernel_rfl) (fun _ _=>by kernel_rfl) (by kernel_rfl) ((Zgw k _ (by omega)).mono ?_))
 rintro e W6 ⟨_,rfl,b0,bi,pi,ci,rfl,gi,hI⟩
 refine⟨_,rfl,?_⟩
 replace hB:=bln hB b0
 replace k1:=k1.below b0
 replace k2:=k2.below b0
 replace k3:=k3.below b0
 refine Gk 3 [(16,.tuple #[P0 bi,V0 0]),(19,P0 bi),(20,V0 0)] (by kernel_rfl) ?_
 refine Jd (by kernel_rfl) (Kf (v:=P0 bi) (b:=b2) (off:=0) rfl (by kernel_rfl) (by kernel_rfl) (by kernel_rfl) rfl k2 (by first|decide|simp) ?_)
 intro W7 u7 k7
 change Blk _ _ [P0 bi] _ at k7
 replace hB:=u7.below hB g2
 replace k1:=u7.blk k1 (Ne.symm (Ne.symm a6))
 replace k3:=u7.blk k3 (Ne.symm a1)
 replace hI:=hI.only (Zd.of_upd (T:=[24]) u7 k2 (by decide)) (by decide)
 refine Gk 1 [(7,V0 0)] (by kernel_rfl) ?_
 refine wpList_nil ?_
 refine wp_seq ?_
 refine wp_seq ?_
 refine wp_region_lit ?_
 refine Gk 2 [(21,V0 0),(22,.bool false)] (by kernel_rfl) ?_
 refine wpList_nil ?_
 refine wp_cond_false (by kernel_rfl) ?_
 refine wp_skip ?_
 refine wp_seq ?_
 refine wp_seq ?_
 refine wp_region_lit ?_
 refine Jd (by kernel_rfl) (Mn (b:=b1) (off:=0) [V0 t,V0 u,V0 v,V0 (x:Int),.slice p n c] _ rfl (by kernel_rfl) Tryz.underlying28 rfl (by kernel_rfl) k1.whole ?_)
 refine Gk 1 [(26,V0 (k:Int))] (by kernel_rfl) ?_
 refine Jd (by kernel_rfl) (Qw (lb:=#[]) 35 #[.agg #[V0 t,V0 u,V0 v,V0 (x:Int),.slice p n c],V0 (k:Int)] rfl (by kernel_rfl) (fun _ _=>by kernel_rfl) (by kernel_rfl) ((Zhe p c n x k t u v Z _ hZ (hP.below hB) hk hr c3).mono ?_))
 rintro e W8 ⟨rfl,a7⟩
 refine⟨_,rfl,?_⟩
 replace hB:=bln hB a7
 replace k1:=k1.below a7
 replace k7:=k7.below a7
 replace k3:=k3.below a7
 replace hI:=hI.below a7
 refine Gk 1 [(28,.bool false)] (by kernel_rfl) ?_
 refine wpList_nil ?_
 refine wp_cond_false (by kernel_rfl) ?_
 refine wp_skip ?_
 refine wp_seq ?_
 refine wp_region_lit ?_
 refine Jd (by kernel_rfl) (Kw ⟨b2,0,none⟩ (P0 bi) rfl (by kernel_rfl) (by kernel_rfl) (k7.cell (i:=0) rfl) ?_)
 have c6:Pw x (Z.map Prod.fst)≥3:=by unfold Pw Zdq;omega
 have c0:W4.heap.size≤(W8).heap.size:=Nat.le_trans gi (Nat.le_of_lt hI.blk.lt)
 obtain⟨g,rfl,c2⟩:=hI.base (by omega)
 refine Jd (by kernel_rfl) (Qw (lb:=#[]) 36 #[P0 bi,V0 1] rfl (by kernel_rfl) (fun _ _=>by kernel_rfl) (by kernel_rfl) ((alloc_NewN bi (S1 g) (k*256) ci 1 (k-1) (1:Int) rfl (by omega) _ hI.blk (by omega) (by decide) (by omega)).mono ?_))
 rintro e W9 ⟨_,rfl,a3,ba,pa,ca,rfl,ga,ka,ho⟩
 refine⟨_,rfl,?_⟩
 replace hB:=bln hB a3
 replace k1:=k1.below a3
 replace k7:=k7.below a3
 replace k3:=k3.below a3
 replace hI:=hI.below a3
 have hA:AlF (W4.heap.size) ba bi g (k*256) ci pa ca (k-1) (List.replicate (k*256) (0:UInt8)) [] _:=⟨ka,hI.blk,hI.row,Zf ho c0⟩
 have hC:AlC (W4.heap.size) ba (k*256) ci ca 1 (k-1):=⟨by omega,c2,Zd0 ho (by omega),by omega,Nat.le_trans c0 ga⟩
 refine Gk 4 [(30,.tuple #[P0 ba,.nilIface]),(33,P0 ba),(34,.nilIface),(8,P0 ba)] (by kernel_rfl) ?_
 refine Jd (by kernel_rfl) (Kf (v:=.nilIface) (b:=b3) (off:=0) rfl (by kernel_rfl) (by kernel_rfl) (by kernel_rfl) rfl k3 (by first|decide|simp) ?_)
 intro c7 b5 a8
 change Blk _ _ [.nilIface] _ at a8
 replace hB:=b5.below hB g3
 replace k1:=b5.blk k1 (Ne.symm (Ne.symm a9))
 replace k7:=b5.blk k7 (Ne.symm (Ne.symm a1))
 replace hA:=hA.only (Zd.of_upd (T:=[32]) b5 k3 (by decide)) (by decide)
 refine wpList_nil ?_
 refine wp_seq ?_
 refine wp_region_lit ?_
 refine Jd (by kernel_rfl) (Kw ⟨b3,0,none⟩ .nilIface rfl (by kernel_rfl) (by kernel_rfl) (a8.cell (i:=0) rfl) ?_)
 refine Jd (by kernel_rfl) (Qw (lb:=#[]) 37 #[.nilIface] rfl (by kernel_rfl) (fun _ _=>by kernel_rfl) (by kernel_rfl) ((Vj _).mono ?_))
 rintro e d0 ⟨rfl,a4⟩
 refine⟨_,rfl,?_⟩
 replace hB:=bln hB a4
 replace k1:=k1.below a4
 replace k7:=k7.below a4
 replace a8:=a8.below a4
 replace hA:=hA.below a4
 refine wpList_nil ?_
 refine wp_seq ?_
 refine wp_region_lit ?_
 refine Gk 2 [(37,P0 ba),(38,.agg #[P0 ba])] (by kernel_rfl) ?_
 refine Jd (by kernel_rfl) (Mn (b:=b1) (off:=0) [V0 t,V0 u,V0 v,V0 (x:Int),.slice p n c] _ rfl (by kernel_rfl) Tryz.underlying28 rfl (by kernel_rfl) k1.whole ?_)
 refine Jd (by kernel_rfl) (Qw (lb:=#[]) 38 #[.agg #[P0 ba],.agg #[V0 t,V0 u,V0 v,V0 (x:Int),.slice p n c]] rfl (by kernel_rfl) (fun _ _=>by kernel_rfl) (by kernel_rfl) ((lay_all (W4.heap.size) ba bi g ci pa ca (k-1) k p c n x t u v Z (Z.map Prod.fst) _ hZ rfl hk (fun W h=>hP.below (hB.trans (h.mono b7))) rfl hC hA hr hk3 (Nat.le_trans gi (Nat.le_of_lt hA.blkI.lt))).mono ?_))
 rintro e c8 ⟨rfl,a5,hI⟩
 refine⟨_,rfl,?_⟩
 have a2:=k7.below' a5 c4
 have a0:=a8.below' a5 c5
 replace hB:=hB.trans (a5.mono b7)
 refine wpList_nil ?_
 refine wp_seq ?_
 refine wp_region_lit ?_
 refine Jd (by kernel_rfl) (Kw ⟨b2,0,none⟩ (P0 bi) rfl (by kernel_rfl) (by kernel_rfl) (a2.cell (i:=0) rfl) ?_)
 refine Jd (by kernel_rfl) (Kf (v:=P0 bi) (b:=b2) (off:=0) rfl (by kernel_rfl) (by kernel_rfl) (by kernel_rfl) rfl a2 (by first|decide|simp) ?_)
 intro d1 b9 b6
 change Blk _ _ [P0 bi] _ at b6
 replace hB:=b9.below hB g2
 replace a0:=b9.blk a0 (Ne.symm a1)
 replace hI:=hI.only (Zd.of_upd (T:=[24]) b9 a2 (by decide)) (by decide)
 refine Jd (by kernel_rfl) (Kf (v:=.nilIface) (b:=b3) (off:=0) rfl (by kernel_rfl) (by kernel_rfl) (by kernel_rfl) rfl a0 (by first|decide|simp) ?_)
 intro c9 b8 c1
 change Blk _ _ [.nilIface] _ at c1
 replace hB:=b8.below hB g3
 replace b6:=b8.blk b6 (Ne.symm (Ne.symm a1))
 replace hI:=hI.only (Zd.of_upd (T:=[32]) b8 a0 (by decide)) (by decide)
 refine wpList_nil ?_
 refine wp_ret ?_
 refine g_retD 32 #[P0 b2,P0 b3] (.tuple #[P0 bi,.nilIface]) rfl (fun _=>by kernel_rfl) (lay_idle b2 b3 _) fun W9 a3=>⟨res_kk rfl (by kernel_rfl) (by kernel_rfl) (b6.below a3) (c1.below a3) (by kernel_rfl) (by kernel_rfl),?_⟩
 exact⟨_,_,_,rfl,hB.trans (a3.mono hB.size),⟨hI.blk.below a3,Zf (Zb hI.row a3) b7,hI.hn⟩⟩
theorem Th:Pw 0 []=8:=by
 unfold Pw Zdq Cc Bq
 rw[show([]:List Dv).length=0 from rfl,Zbh,Zbh,show bmN 0=0 from rfl,Zbh,show oftL 0 []=0 from rfl,Zbh]
 rfl
theorem lay26_Lay(w:World):C0 17 #[.agg #[V0 0,V0 0,V0 1,V0 0,S0],V0 8] w (LayO (Bs 0 0 1 0 [] 8) 8 w) :=
 lay_LayY none 0 0 0 8 0 0 1 [] w rfl ⟨.inl ⟨none,0,rfl,rfl,rfl⟩,fun i hi=>absurd hi (Nat.not_lt_zero _)⟩ ⟨by decide,by decide,by decide,by decide,DevsOk.nil _⟩ (by decide) (by rw[show([]:List Zv).map Prod.fst=[] from rfl,Th];exact Nat.le_refl _)
theorem Zfs(l:Bl)(no:Int):Sd l no 6=Qv l no:=if_pos rfl
theorem Uk(l:Bl)(no:Int):Sd l no 7=Ys l no:=by unfold Sd;rw[if_neg (by decide),if_pos rfl]
theorem Zaz{l:Bl}{no t:Int}(h5:t≤5):Sd l no t=Xv l no t:=by unfold Sd;rw[if_neg (by omega),if_neg (by omega)]
theorem Oa(l:Bl)(no:Int):(Uq l no).length=Xq (inB l no):=by unfold Uq;exact Wc _ _
theorem nodT_is{l:Bl}{no t:Int}(h:Xv l no t=0)(h1:1≤t):Ql (inB l no)=t:=by
 have h2:=(Tk h).2
 have h3:=Ew h2
 unfold Qu at h2
 rw[if_pos h3] at h2
 split at h2
 ·rename_i h4;omega
 ·omega
theorem nodV_short(l:Bl)(no:Int)(i:Nat):((Uq l no).getD i []).length≤1000:=Zd1 _ _ _
end Go.Proofs.YtceeiinepijokaaGreat
namespace Go.Proofs.YtceeiinepijokaaGreat
set_option maxHeartbeats 8000000
set_option maxRecDepth 100000
open Go.RowKit Go.Extern.Stop Go.Stop Go.Extern
set_option linter.unusedVariables false
attribute [local irreducible] wpList wpAnyH Code.wp Oper.wp Go
def lkC (x:Lk):List Value:=[V0 x.1,V0 x.2.1,V0 x.2.2.1]
def Gn(rm:Nat)(out:List Lk)(w:World):Prop:=∃ kv,Gx V0 w rm kv∧∀ k,Ur kv k=if Ky out k=true then some (.bool true) else none
theorem Gn.below{rm:Nat}{out:List Lk}{w W:World}(h:Gn rm out w)(hb:B3 w W):Gn rm out W:=let ⟨kv,h1,h2⟩:=h;⟨kv,h1.below hb,h2⟩
theorem Gn.updBlk{rm b:Nat}{out:List Lk}{w W:World}{cs:List Value}{t:TypeId}(h:Gn rm out w)(u:Upd w b W)(k:Blk w b cs t):Gn rm out W:=let ⟨kv,h1,h2⟩:=h;⟨kv,h1.updBlk u k,h2⟩
theorem Gn.grown{rm:Nat}{out:List Lk}{w W:World}{base size n:Nat}{e:TypeId}{v:Value}{xs:List Value}(h:Gn rm out w)(hg:w.grownBy W v.ownBlock)(k:w.ownsRow base e size v n xs):Gn rm out W:=let ⟨kv,h1,h2⟩:=h;⟨kv,h1.grown hg k,h2⟩
theorem Gn.told{rm:Nat}{out:List Lk}{x:Lk}{w:World}(h:Gn rm out w)(ht:Ky out x.2.1=true):Gn rm (out++[x]) w:=by
 obtain⟨kv,h1,h2⟩:=h
 refine⟨kv,h1,fun k=>?_⟩
 rw[h2,Bb]
 by_cases e:x.2.1=k
 ·subst e;rw[ht];simp
 ·rw[decide_eq_false e,Bool.or_false]
theorem lookV_snoc{kv:List (Int×Value)}{k to:Int}{v:Value}:Ur (kv++[(to,v)]) k=(Ur kv k).or (if k=to then some v else none):=by
 induction kv with
 | nil=>simp[Ur]
 | cons p r ih =>
  rw[List.cons_append,Ur,Ur]
  by_cases e:k=p.1
  ·rw[if_pos e,if_pos e];rfl
  ·rw[if_neg e,if_neg e,ih]
theorem Yd{rm:Nat}{out:List Lk}{x:Lk}{W:World}{kv:List (Int×Value)}(h2:∀ k,Ur kv k=if Ky out k=true then some (.bool true) else none)(m:Gx V0 W rm (kv++[(x.2.1,.bool true)])):Gn rm (out++[x]) W:=by
 refine⟨_,m,fun k=>?_⟩
 rw[lookV_snoc,h2,Bb]
 by_cases e:x.2.1=k
 ·subst e;cases Ky out x.2.1<;>simp
 ·have e2:¬ k=x.2.1:=fun q=>e q.symm
  rw[decide_eq_false e,Bool.or_false,if_neg e2,Option.or_none]
structure LkM(B Bi b bx rm kb:Nat)(K:List Value)(pi:Option Addr)(ni ci:Nat)(l:List UInt8)(n:Nat)(po:Option Addr)(co:Nat)(out:List Lk)(w:World):Prop where
 hI:ImgR Bi b pi ni ci l w
 kx:Blk w bx [.pointer (some ⟨b,0,none⟩),.int .i64 (↑n:Int),.map (some rm),.slice po out.length co] 141
 ho:w.ownsRow B 81 3 (.slice po out.length co) out.length (out.flatMap lkC)
 hM:Gn rm out w
 hB:B≤w.heap.size
 hbx:B≤bx
 hrm:B≤rm
 hk:Blk w kb K 81
 hsp:∀ j,(Value.slice po out.length co).ownBlock=some j→j≠kb
theorem Yl{v v':Value}{kb:Nat}{w:World}(h:∀ j,v.ownBlock=some j→j≠kb)(ha:v'.ownBlock=v.ownBlock∨v'.ownBlock=some w.heap.size)(hk:kb<w.heap.size):∀ j,v'.ownBlock=some j→j≠kb:=fun j hj=>by
 rcases ha with ha|ha
 ·exact h j (ha.symm.trans hj)
 ·rw[ha,Option.some.injEq] at hj;omega
def Fa(B Bi b bx rm kb:Nat)(K:List Value)(pi:O0)(ni ci:Nat)(l:Bl)(n:Nat)(o:Kx)(w:World)(e:Ending)(w':World):Prop :=
 (o.2.2≠0∧∃ ty v,e=.returned (.iface ty v)∧Below B w w'∧Zd [141,81] w w'∧Hw w' (o.2.1.map some) (some o.2.2) (.iface ty v)) ∨
 (o.2.2=0∧∃ po co,e=.returned .nilIface∧Below B w w'∧Zd [141,81] w w'∧LkM B Bi b bx rm kb K pi ni ci l n po co o.1 w')
theorem Hb{B Bi b bx rm kb:Nat}{K:List Value}{pi:O0}{ni ci:Nat}{l:Bl}{n:Nat}{o:Kx}{c:List Lk}{bl:List Int}{er:Int}{w W:World}{ty:TypeId}{v:Value}(h:o=(c,bl,er))(her:er≠0)(hb:Below B w W)(hO:Zd [141,81] w W)(hv:Hw W (bl.map some) (some er) (.iface ty v)):Fa B Bi b bx rm kb K pi ni ci l n o w (.returned (.iface ty v)) W:=by
 subst h;exact .inl ⟨her,ty,v,rfl,hb,hO,hv⟩
theorem Um{B Bi b bx rm kb:Nat}{K:List Value}{pi:O0}{ni ci:Nat}{l:Bl}{n:Nat}{o:Kx}{c:List Lk}{m:Nat}{po:O0}{co:Nat}{w W:World}(h:o=(c,[],0))(hm:c.length=m)(hb:Below B w W)(hO:Zd [141,81] w W)(hI:ImgR Bi b pi ni ci l W)(kx:Blk W bx [P0 b,V0 (n:Int),.map (some rm),.slice po m co] 141)(ho:W.ownsRow B 81 3 (.slice po m co) m (c.flatMap lkC))(hM:Gn rm c W)(hB:B≤W.heap.size)(hbx:B≤bx)(hrm:B≤rm)(hk:Blk W kb K 81)(hsp:∀ j,(Value.slice po m co).ownBlock=some j→j≠kb):Fa B Bi b bx rm kb K pi ni ci l n o w (.returned .nilIface) W:=by
 subst h hm;exact .inr ⟨rfl,po,co,rfl,hb,hO,hI,kx,ho,hM,hB,hbx,hrm,hk,hsp⟩
def Za9(d:Nat)(B Bi b bx rm kb:Nat)(K:List Value)(pi:O0)(ni ci:Nat)(l:Bl)(n:Nat):Prop:=∀ (po:O0) (co:Nat) (out:List Lk) (fr to ak:Int) (w:World),LkM B Bi b bx rm kb K pi ni ci l n po co out w→0≤to→unt out n<d→Qg n out≤1000000000000→1≤ak→ak≤7 →
 C0 56 #[P0 bx,.agg #[V0 fr,V0 to,V0 ak]] w (Fa B Bi b bx rm kb K pi ni ci l n (Xu l n d out (fr,to,ak,0)) w)
variable {B Bi b bx rm kb:Nat} {K:List Value} {pi:Option Addr} {ni ci:Nat} {l:List UInt8} {n:Nat}
theorem linkX_err{d:Nat}{out:List Lk}{x:Lk}(hd:0<d)(h:x.2.2.2≠0):Xu l n d out x=(out,[x.1],x.2.2.2):=by
 obtain⟨d,rfl⟩:∃ e,d=e+1:=⟨d-1,by omega⟩
 exact if_pos h
theorem Zb2{d:Nat}{out:List Lk}{fr to ak:Int}(h:¬ (0≤to∧to<n)):Xu l n (d+1) out (fr,to,ak,0)=(out,[to],3):=by
 unfold Xu;rw[if_neg (fun q=>q rfl),if_pos h]
theorem Bg{d:Nat}{out:List Lk}{fr to ak:Int}(h:0≤to∧to<n)(ht:Ky out to=true):Xu l n (d+1) out (fr,to,ak,0)=(out++[(fr,to,ak,0)],[],0):=by
 unfold Xu;rw[if_neg (fun q=>q rfl),if_neg (fun q=>q h),if_pos ht]
def Nr(l:Bl)(n d:Nat)(out:List Lk)(no ak:Int):Kx:=if Sd l no ak≠0 then(out,[no],Sd l no ak) else Qd (Xu l n d) out (On l no ak)
theorem Ki{d:Nat}{out:List Lk}{no ak e:Int}(he:Sd l no ak=e)(h:e≠0):Nr l n d out no ak=(out,[no],e):=by subst he;exact if_pos h
theorem Qs{d:Nat}{out:List Lk}{no ak:Int}(h:Sd l no ak=0):Nr l n d out no ak=Qd (Xu l n d) out (On l no ak):=if_neg (fun q=>q h)
theorem Zx{d:Nat}{out:List Lk}{fr to ak:Int}(h:0≤to∧to<n)(ht:Ky out to=false):Xu l n (d+1) out (fr,to,ak,0)=Nr l n d (out++[(fr,to,ak,0)]) to ak:=by
 conv=>lhs;unfold Xu
 rw[if_neg (fun q=>q rfl),if_neg (fun q=>q h),if_neg (by rw[ht];decide)]
 rfl
theorem hasJ_6(l:Bl)(no:Int):On l no 6=(Un l no).map (Ta no):=if_pos rfl
theorem Tf(l:Bl)(no:Int):On l no 7=[]:=by unfold On;rw[if_neg (by decide),if_pos rfl]
theorem Zfx{no t:Int}(h5:t≤5):On l no t=Zfc l no:=by unfold On;rw[if_neg (by omega),if_neg (by omega)]
theorem valK_slot{no t:Int}{leaf:Bool}{v:Bl}(h:leaf=true)(h4:t=4):Px no t leaf v=(no,(((Qf Xs v).getD 0 0:Nat):Int),(7:Int),Qi Xs v):=if_pos ⟨h,h4⟩
theorem Zad{no t:Int}{leaf:Bool}{v:Bl}(h:¬ (leaf=true∧t=4)):Px no t leaf v=(no,(Mg v:Int),(if leaf then 2 else t),Nb v):=if_neg h
theorem valK_is(no t:Int)(leaf:Bool)(v:Bl):(Px no t leaf v).1=no∧0≤(Px no t leaf v).2.1∧(1≤t→t≤5→1≤(Px no t leaf v).2.2.1∧(Px no t leaf v).2.2.1≤7):=by
 unfold Px
 split
 ·exact⟨rfl,by show(0:Int)≤((_:Nat):Int);omega,fun _ _=>⟨by show(1:Int)≤7;decide,by show(7:Int)≤7;decide⟩⟩
 ·refine⟨rfl,by show(0:Int)≤((_:Nat):Int);omega,fun h1 h5=>?_⟩
  show 1≤(if leaf then(2:Int) else t)∧(if leaf then(2:Int) else t)≤7
  split<;>omega
theorem valK_eta{no t:Int}{leaf:Bool}{v:Bl}(h:(Px no t leaf v).2.2.2=0):(no,(Px no t leaf v).2.1,(Px no t leaf v).2.2.1,(0:Int))=Px no t leaf v:=by
 have h1:=(valK_is no t leaf v).1
 generalize Px no t leaf v=x at h h1 ⊢
 obtain⟨a,b,c,e⟩:=x
 have h:e=0:=h
 have h1:a=no:=h1
 subst h h1;rfl
theorem link_val(no t:Int)(leaf:Bool)(kp vp:O0)(kn kc vn vc:Nat)(v:Bl)(w:World)(hv:v.length≤1000) :
 C0 167 #[V0 no,.agg #[V0 t,.bool leaf,.slice kp kn kc,.slice vp vn vc],.string ⟨v.toArray⟩] w ((fun e w'=>(Zb4 t leaf∧e=.returned (.tuple #[.agg #[V0 0,V0 0,V0 0],V0 0,.bool false])∧B3 w w')∨(¬ Zb4 t leaf∧e=.returned (.tuple #[.agg #[V0 no,V0 ((Px no t leaf v).2.1),V0 ((Px no t leaf v).2.2.1)],V0 ((Px no t leaf v).2.2.2),.bool true])∧B3 w w'))):=by
 refine zin 53 Tryz.func167 ?_
 refine xa 2 [V0 t,.bool leaf,.slice kp kn kc,.slice vp vn vc] 183 fun b1 W1 n1=>?_
 refine xa 0 [V0 0,V0 0,V0 0] 81 fun b2 W2 n2=>?_
 have k1:=n1.blk.below n2.below
 refine xb 8 1 k1 ?_
 refine xg 1 [15,16] leaf (fun a3=>?_) (fun a3=>?_)
 ·refine xb 1 0 k1 ?_
  refine xie 4 t (4:Int) (fun a7=>?_) (fun a7=>?_)
  ·refine xr 3 (args:=#[.string ⟨v.toArray⟩]) (Nc v _ hv) fun W5 a6=>?_
   refine xa 3 [V0 0,V0 0,V0 0] 217 fun b6 W6 n6=>?_
   refine xsv 0 n6.blk [V0 (↑((Qf Xs v).getD 0 0):Int),V0 (↑((Qf Xs v).getD 1 0):Int),V0 (↑((Qf Xs v).getD 2 0):Int)] fun W7 u7 k7=>?_
   have g6:=n6.ge (bln (bln n1.below n2.below) a6)
   refine xb 7 0 k7 ?_
   have k2:=u7.blkT ((n2.blk.below a6).below n6.below) n6.blk (by decide)
   refine xsv 2 k2 [V0 no,V0 (↑((Qf Xs v).getD 0 0):Int),V0 7] fun W8 u8 k8=>?_
   have g2:=n2.ge n1.below
   have hB:=u8.below (u7.below (bln (bln (bln n1.below n2.below) a6) n6.below) g6) g2
   exact xec 6 k8 (.tuple #[.agg #[V0 no,V0 (↑((Qf Xs v).getD 0 0):Int),V0 7],V0 (Qi Xs v),.bool true]) (.inr ⟨fun q=>q.2.2 (by omega),by rw[valK_slot (by assumption) (by omega)],hB⟩)
  refine xb 6 1 k1 ?_
  refine xgk 1 [32,33] (show(leaf:Bool)=true from a3) ?_
  refine xb 1 0 k1 ?_
  refine xin 4 t (1:Int) (fun a5=>?_) (fun a5=>?_)
  ·refine xsv 3 n2.blk [V0 0,V0 0,V0 0] fun b8 a8 b0=>?_
   have g2:=n2.ge n1.below
   have hB:=a8.below (bln n1.below n2.below) g2
   exact xec 6 b0 (.tuple #[.agg #[V0 0,V0 0,V0 0],V0 0,.bool false]) (.inl ⟨⟨by assumption,by omega,by omega⟩,rfl,hB⟩)
  refine xr 5 (args:=#[.string ⟨v.toArray⟩]) (Nl v _ hv) fun b7 a1=>?_
  have a4:=k1.below a1
  refine xb 10 0 a4 ?_
  refine xb 7 1 a4 ?_
  refine xk 2 (show(leaf:Bool)=true from a3) ?_
  have k2:=n2.blk.below a1
  refine xsv 11 k2 [V0 no,V0 (↑(Mg v):Int),V0 2] fun c1 b4 b5=>?_
  have g2:=n2.ge n1.below
  have hB:=b4.below (bln (bln n1.below n2.below) a1) g2
  exact xec 5 b5 (.tuple #[.agg #[V0 no,V0 (↑(Mg v):Int),V0 2],V0 (Nb v),.bool true]) (.inr ⟨fun q=>by obtain⟨q1,q2,q3⟩:=q;first|omega|exact absurd (q1.symm.trans (show leaf=false by assumption)) (by decide),by rw[Zad (fun q=>by obtain⟨q1,q2⟩:=q;first|omega|exact absurd (q1.symm.trans (show leaf=false by assumption)) (by decide))];first|(rw[if_pos (by assumption)];done)|(rw[if_pos (by assumption)];rfl)|(rw[if_neg (fun q1=>absurd (q1.symm.trans (show leaf=false by assumption)) (by decide))];done)|(rw[if_neg (fun q1=>absurd (q1.symm.trans (show leaf=false by assumption)) (by decide))];rfl),hB⟩)
 refine xb 13 1 k1 ?_
 refine xgk 1 [32,33] (show(leaf:Bool)=false from a3) ?_
 refine xr 12 (args:=#[.string ⟨v.toArray⟩]) (Nl v _ hv) fun c0 a0=>?_
 have a2:=k1.below a0
 refine xb 10 0 a2 ?_
 refine xb 7 1 a2 ?_
 refine xk 2 (show(leaf:Bool)=false from a3) ?_
 have k2:=n2.blk.below a0
 refine xsv 9 k2 [V0 no,V0 (↑(Mg v):Int),V0 t] fun b9 b3 a9=>?_
 have g2:=n2.ge n1.below
 have hB:=b3.below (bln (bln n1.below n2.below) a0) g2
 exact xec 5 a9 (.tuple #[.agg #[V0 no,V0 (↑(Mg v):Int),V0 t],V0 (Nb v),.bool true]) (.inr ⟨fun q=>by obtain⟨q1,q2,q3⟩:=q;first|omega|exact absurd (q1.symm.trans (show leaf=false by assumption)) (by decide),by rw[Zad (fun q=>by obtain⟨q1,q2⟩:=q;first|omega|exact absurd (q1.symm.trans (show leaf=false by assumption)) (by decide))];first|(rw[if_pos (by assumption)];done)|(rw[if_pos (by assumption)];rfl)|(rw[if_neg (fun q1=>absurd (q1.symm.trans (show leaf=false by assumption)) (by decide))];done)|(rw[if_neg (fun q1=>absurd (q1.symm.trans (show leaf=false by assumption)) (by decide))];rfl),hB⟩)
def ifQ:Option (TypeId×Value)→Value
 | none=>.nilIface
 | some q=>.iface q.1 q.2
def IdxQ(B Bi b bx rm kb:Nat)(K:List Value)(pi:O0)(ni ci:Nat)(l:Bl)(n:Nat)(d:Nat)(out:List Lk)(no:Int)(i:Nat)(q:Option (TypeId×Value))(w:World):Prop :=
 match q with
 | none=>i≤(Un l no).length∧∃ c po co,Kj (Xu l n d) out (((Un l no).take i).map (Ta no)) c∧LkM B Bi b bx rm kb K pi ni ci l n po co c w
 | some q=>(Qd (Xu l n d) out ((Un l no).map (Ta no))).2.2≠0∧Hw w ((Qd (Xu l n d) out ((Un l no).map (Ta no))).2.1.map some) (some (Qd (Xu l n d) out ((Un l no).map (Ta no))).2.2) (.iface q.1 q.2)
theorem Pe{l:Bl}{n d:Nat}:∀ {L o:List Lk},(Qd (Xu l n d) o L).2.2=0→(Qd (Xu l n d) o L).2.1=[]
 | [],_,_=>rfl
 | y::L,o,h=>by
  rw[Qq] at h ⊢
  split
  ·rename_i q;rw[if_pos q] at h;exact absurd h q
  ·rename_i q;rw[if_neg q] at h;exact Pe h
theorem Ji(B Bi b bx rm kb:Nat)(K:List Value)(pi:O0)(ni ci:Nat)(l:Bl)(n:Nat)(d:Nat)(hA:Za9 d B Bi b bx rm kb K pi ni ci l n)(po:O0)(co:Nat)(out:List Lk)(no:Int)(w:World)(hL:LkM B Bi b bx rm kb K pi ni ci l n po co out w)(hz:unt out n<d)(hph:Qg n out≤999999999000) :
 C0 99 #[P0 bx,V0 no] w (Fa B Bi b bx rm kb K pi ni ci l n (Nr l n d out no 6) w):=by
 obtain⟨hI,kx,ho,hM,hBw,hbx,hrm,kk,hsp⟩:=hL
 refine zin 37 Tryz.func99 ?_
 refine xb 10 0 kx ?_
 refine xc 1 (args:=#[P0 b,V0 no]) (Zb1 Bi b pi ni ci l no _ hI) ?_
 rintro e W1 hq1
 rcases hq1 with ⟨hie,tyx,vx,rfl,hb1,hvx⟩|⟨hie,pl,cl,rfl,hb1,hs⟩
 ·refine xu 14 1 ?_
  have hB:=blB (Below.refl B w) hBw hb1
  have hO:=(show Zd [141,81] w _ from(Zd.of_below hb1))
  exact xe 26 (.iface tyx (vx)) (Hb (Ki (Zfs l no) hie) hie hB hO hvx)
 have hs1:=Nat.le_refl w.heap.size
 have hfew:=Zej l no
 have hI'1:=hI.below hb1
 have kx'1:=kx.below hb1
 have ho'1:=Zb ho hb1
 have hM'1:=hM.below hb1
 have hB:=blB (Below.refl B w) hBw hb1
 have kk'1:=kk.below hb1
 have hs'1:=Zf hs hs1
 have hO:=(show Zd [141,81] w _ from(Zd.of_below hb1))
 refine zl 14 37 (fun zm zkv V=>∃ (i:Nat) (q:Option (TypeId×Value)),zkv=[(0,P0 bx),(1,V0 no),(4,.nilIface),(5,.slice pl ((Un l no).length) cl),(6,(ifQ q)),(7,V0 (i:Int))]∧zm=(Un l no).length-((i:Int)).toNat∧Below B w V∧Zd [141,81] w V∧V.ownsRow w.heap.size 217 3 (.slice pl (Un l no).length cl) (Un l no).length ((Un l no).flatMap sltC)∧IdxQ B Bi b bx rm kb K pi ni ci l n d out no i q V∧ImgR Bi b pi ni ci l V) ⟨0,none,rfl,rfl,hB,hO,hs'1,⟨Nat.zero_le _,out,_,_,Kj.nil _ _,⟨hI'1,kx'1,ho'1,hM'1,(Nat.le_trans hBw hB.size),hbx,hrm,kk'1,hsp⟩⟩,hI'1⟩ ?_
 rintro _ _ W2 ⟨i,q,rfl,rfl,hB_2,hO_2,hs,hQ,hI⟩ J2 hJ2 r2
 rcases q with _|q
 ·obtain⟨hi,c,po,co,hf,_,kx,ho,hM,_,_,_,kk,hsp⟩:=hQ
  obtain⟨hw1,hw2⟩:=hf.well
  rw[List.length_map,List.length_take] at hw2
  have hw4:=Nat.min_le_left i (Un l no).length
  refine xg 8 [20,21] (decide ((i:Int)<(↑((Un l no).length):Int))) (fun hc3=>?_) (fun hc3=>?_)
  ·have hc3:=of_decide_eq_true hc3
   refine xx 15 _ ((Un l no).length) i 3 (Sts.cell (f:=sltC) (Ze hs) Zfl (0,0,0) (k:=i) (i:=0) (by omega) rfl).1 ?_
   refine xl 1 ((Sts.cell (Ze hs) Zfl (0,0,0) (k:=i) (i:=0) (by omega) rfl).2) ?_
   refine xc 1 (args:=#[P0 bx,.agg #[V0 no,V0 (↑((Un l no).getD i (0,0,0)).1:Int),V0 7]]) (hA _ _ c no (↑((Un l no).getD i (0,0,0)).1:Int) 7 _ ⟨hI,kx,ho,hM,(Nat.le_trans hBw hB_2.size),hbx,hrm,kk,hsp⟩ (by omega) (by omega) (by omega) (by decide) (by decide)) ?_
   rintro e W4 hq4
   rcases hq4 with ⟨hre,tyr,vr,rfl,hb4,hO4,hv9⟩|⟨hre,po2,co2,rfl,hb4,hO4,⟨_,kx2,ho,hM,_,_,_,kk2,hsp⟩⟩
   ·refine xwm 6 ((i:Int)+1) (↑(i+1):Int) ?_
    have hB'1:=hB_2.trans hb4
    have hO'1:=hO_2.trans hO4
    have hs'2:=Zi hs hO4 (by decide)
    have hI'2:=hI.only hO4 (by decide)
    exact ze 2 (hJ2 _ _ _ ⟨i+1,(some (tyr,vr)),rfl,rfl,hB'1,hO'1,hs'2,(by have e9:=hf.bad (x:=Ta no ((Un l no).getD i (0,0,0))) hre (((Un l no).drop (i+1)).map (Ta no));rw[←sltK_split (by omega)] at e9;exact⟨by rw[e9];exact hre,by rw[e9];exact hv9⟩),hI'2⟩ (by omega))
   refine xwm 6 ((i:Int)+1) (↑(i+1):Int) ?_
   have hI'3:=hI.only hO4 (by decide)
   have hB'2:=hB_2.trans hb4
   have hO'2:=hO_2.trans hO4
   have hs'3:=Zi hs hO4 (by decide)
   exact ze 2 (hJ2 _ _ _ ⟨i+1,none,rfl,rfl,hB'2,hO'2,hs'3,⟨by omega,_,_,_,(by have q9:=hf.next (x:=Ta no ((Un l no).getD i (0,0,0))) hre;rwa [←sltK_take (by omega)] at q9),⟨hI'3,kx2,ho,hM,(Nat.le_trans hBw hB'2.size),hbx,hrm,kk2,hsp⟩⟩,hI'3⟩ (by omega))
  have hc3:=of_decide_eq_false hc3
  refine xe 18 .nilIface ?_
  have e9:Nr l n d out no 6=Qd (Xu l n d) out ((Un l no).map (Ta no)):=by rw[Qs ((Zfs l no).trans hie),hasJ_6]
  obtain rfl:i=(Un l no).length:=by omega
  rw[List.take_length] at hf
  have e8:Nr l n d out no 6=(c,[],0):=by rw[e9];exact Prod.ext hf.2 (Prod.ext (Pe hf.1) hf.1)
  exact Um e8 rfl hB_2 hO_2 hI kx ho hM (Nat.le_trans hBw hB_2.size) hbx hrm kk hsp
 refine xg 8 [20,21] (decide ((i:Int)<(↑((Un l no).length):Int))) (fun hc5=>?_) (fun hc5=>?_)
 ·have hc5:=of_decide_eq_true hc5
  refine xe 18 (.iface q.1 (q.2)) ?_
  have e9:Nr l n d out no 6=Qd (Xu l n d) out ((Un l no).map (Ta no)):=by rw[Qs ((Zfs l no).trans hie),hasJ_6]
  obtain⟨hQ1,hQ2⟩:=hQ
  exact .inl ⟨by rw[e9];exact hQ1,_,_,rfl,hB_2,hO_2,by rw[e9];exact hQ2⟩
 have hc5:=of_decide_eq_false hc5
 refine xe 18 (.iface q.1 (q.2)) ?_
 have e9:Nr l n d out no 6=Qd (Xu l n d) out ((Un l no).map (Ta no)):=by rw[Qs ((Zfs l no).trans hie),hasJ_6]
 obtain⟨hQ1,hQ2⟩:=hQ
 exact .inl ⟨by rw[e9];exact hQ1,_,_,rfl,hB_2,hO_2,by rw[e9];exact hQ2⟩
theorem Gp(B Bi b bx rm kb:Nat)(K:List Value)(pi:O0)(ni ci:Nat)(l:Bl)(n:Nat)(d:Nat)(hA:Za9 d B Bi b bx rm kb K pi ni ci l n)(po:O0)(co:Nat)(out:List Lk)(no t:Int)(w:World)(hL:LkM B Bi b bx rm kb K pi ni ci l n po co out w)(hz:unt out n<d)(hph:Qg n out≤999999999000)(ht1:1≤t)(ht5:t≤5) :
 C0 101 #[P0 bx,V0 no,V0 t] w (Fa B Bi b bx rm kb K pi ni ci l n (Nr l n d out no t) w):=by
 obtain⟨hI,kx,ho,hM,hBw,hbx,hrm,kk,hsp⟩:=hL
 refine zin 58 Tryz.func101 ?_
 refine xb 10 0 kx ?_
 refine xc 2 (args:=#[P0 b,V0 no,V0 t]) (block_Node Bi b pi ni ci l no t _ hI) ?_
 rintro e W1 hq1
 rcases hq1 with ⟨hie,bf,rfl,hb1,hvx⟩|⟨hie,kp,kc,vp,vc,rfl,hb1,hks,hvs⟩
 ·refine xa 3 [V0 0,.bool false,S0,S0] 183 fun b2 W2 n2=>?_
  refine xsv 0 n2.blk [V0 0,.bool false,S0,S0] fun W3 u3 k3=>?_
  have g2:=n2.ge0 (blB (Below.refl B w) hBw hb1)
  have hvx'1:=(hvx.below n2.below).only (Zd.of_upd (T:=[183]) u3 n2.blk (by decide)) (by decide)
  have hB:=u3.below (blB (blB (Below.refl B w) hBw hb1) hBw n2.below) (Nat.le_trans hBw g2)
  have hO:=(Zd.upd_new ((show Zd [141,81] w _ from(Zd.of_below hb1)).trans (Zd.of_below n2.below)) u3 g2)
  exact xe 19 (.iface 256 (P0 bf)) (Hb (Ki (Zaz ht5) hie) hie hB hO hvx'1)
 have hs1:=Nat.le_refl w.heap.size
 have hTt:=nodT_is hie ht1
 have hC18:=maxC l no t hie
 have hVl:=Oa l no
 refine xa 3 [V0 0,.bool false,S0,S0] 183 fun b4 W4 n4=>?_
 refine xsv 0 n4.blk [V0 (Ql (inB l no)),.bool (Qr (inB l no)),.slice kp (Xq (inB l no)) kc,.slice vp (Xq (inB l no)) vc] fun W5 u5 k5=>?_
 have g4:=n4.ge0 (blB (Below.refl B w) hBw hb1)
 refine xb 17 3 k5 ?_
 have hvs'1:=u5.own2 (Zb (Zf hvs hs1) n4.below) n4.blk (by decide)
 have ho'1:=u5.own2 (Zb (Zb ho hb1) n4.below) n4.blk (by decide)
 have hM'1:=((hM.below hb1).below n4.below).updBlk u5 n4.blk
 have hI'1:=((hI.below hb1).below n4.below).only (Zd.of_upd (T:=[183]) u5 n4.blk (by decide)) (by decide)
 have hB:=u5.below (blB (blB (Below.refl B w) hBw hb1) hBw n4.below) (Nat.le_trans hBw g4)
 have hO:=(Zd.upd_new ((show Zd [141,81] w _ from(Zd.of_below hb1)).trans (Zd.of_below n4.below)) u5 g4)
 have kx'1:=u5.blkT ((kx.below hb1).below n4.below) n4.blk (by decide)
 have kk'1:=u5.blkT ((kk.below hb1).below n4.below) n4.blk (by decide)
 refine zl 5 58 (fun zm zkv V=>∃ (i:Nat) (c:List Lk) (po:O0) (co:Nat),zkv=[(0,P0 bx),(1,V0 no),(7,P0 b4),(29,.slice vp (Xq (inB l no)) vc),(30,V0 (↑(Xq (inB l no)):Int)),(31,V0 (i:Int))]∧zm=(Xq (inB l no))-((i:Int)).toNat∧Below B w V∧Zd [141,81] w V∧Blk V bx ([P0 b,V0 (n:Int),.map (some rm),.slice po c.length co]) 141∧Blk V kb K 81∧Blk V b4 ([V0 (Ql (inB l no)),.bool (Qr (inB l no)),.slice kp (Xq (inB l no)) kc,.slice vp (Xq (inB l no)) vc]) 183∧V.ownsRow w.heap.size 9 1 (.slice vp (Xq (inB l no)) vc) (Xq (inB l no)) ((Uq l no).map sv)∧V.ownsRow B 81 3 (.slice po c.length co) c.length (c.flatMap lkC)∧Gn rm c V∧ImgR Bi b pi ni ci l V∧i≤(Xq (inB l no))∧Kj (Xu l n d) out (Nq l no i) c∧((∀ j,(Value.slice po c.length co).ownBlock=some j→j≠kb))) ⟨0,out,po,co,rfl,rfl,hB,hO,kx'1,kk'1,k5,hvs'1,ho'1,hM'1,hI'1,Nat.zero_le _,(by rw[Zf7];exact Kj.nil _ _),?_⟩ ?_
 ·exact hsp
 rintro _ _ W6 ⟨i,c,po,co,rfl,rfl,hB_6,hO_6,k6_bx,k6_kb,k6_b4,hvs,ho,hM,hI,hi,hf,hsp⟩ J6 hJ6 r6
 obtain⟨hw1,hw2⟩:=hf.well
 have hw4:=takeJ_len l no i
 refine xid 6 ((i:Int)<(↑(Xq (inB l no)):Int)) (fun hc7=>?_) (fun hc7=>?_)
 ·refine xx 6 _ (Xq (inB l no)) i 1 (Strs.elem (Ze hvs) (Oa l no) (k:=i) (by omega)).1 ?_
  refine xl 0 ((Strs.elem (Ze hvs) (Oa l no) (k:=i) (by omega)).2) ?_
  refine xlv 6 k6_b4.rp ?_
  refine xc 1 (args:=#[V0 no,.agg #[V0 (Ql (inB l no)),.bool (Qr (inB l no)),.slice kp (Xq (inB l no)) kc,.slice vp (Xq (inB l no)) vc],.string ⟨((Uq l no).getD i []).toArray⟩]) (link_val no (Ql (inB l no)) (Qr (inB l no)) kp vp (Xq (inB l no)) kc (Xq (inB l no)) vc ((Uq l no).getD i []) _ (nodV_short l no i)) ?_
  rintro e W8 hq8
  rcases hq8 with ⟨hdd,rfl,hb8⟩|⟨hdd,rfl,hb8⟩
  ·refine xa 4 [V0 0,V0 0,V0 0] 81 fun b9 W9 n9=>?_
   have k6_kb'1:=k6_kb.below hb8
   have d9_kb:=n9.ne k6_kb'1
   have hB'1:=blB hB_6 hBw hb8
   have g9:=n9.ge0 hB'1
   have ho'2:=Zb ho hb8
   have r9_ho:=Zr ho'2 n9
   refine xsv 0 n9.blk [V0 0,V0 0,V0 0] fun W10 u10 k10=>?_
   have hI'2:=((hI.below hb8).below n9.below).only (Zd.of_upd (T:=[81]) u10 n9.blk (by decide)) (by decide)
   have k6_bx'1:=u10.blkT ((k6_bx.below hb8).below n9.below) n9.blk (by decide)
   have ho'3:=u10.own3 (Zb ho'2 n9.below) r9_ho
   have hM'2:=((hM.below hb8).below n9.below).updBlk u10 n9.blk
   have hB'2:=u10.below (blB hB'1 hBw n9.below) (Nat.le_trans hBw g9)
   have k6_kb'2:=u10.blk (k6_kb'1.below n9.below) (Ne.symm (Ne.symm d9_kb))
   have hO'1:=(Zd.upd_new ((hO_6.trans (Zd.of_below hb8)).trans (Zd.of_below n9.below)) u10 g9)
   refine xe 35 .nilIface ?_
   have e9:Nr l n d out no t=Qd (Xu l n d) out (Zfc l no):=by rw[Qs ((Zaz ht5).trans hie),Zfx ht5]
   have e6:Zfc l no=Nq l no i:=by unfold Zfc Nq;rw[if_pos hdd,if_pos hdd]
   have e8:Nr l n d out no t=(c,[],0):=by rw[e9,e6];exact Prod.ext hf.2 (Prod.ext (Pe hf.1) hf.1)
   exact Um e8 rfl hB'2 hO'1 hI'2 k6_bx'1 ho'3 hM'2 (Nat.le_trans hBw hB'2.size) hbx hrm k6_kb'2 hsp
  obtain⟨hk1,hk2,hk3⟩:=valK_is no (Ql (inB l no)) (Qr (inB l no)) ((Uq l no).getD i [])
  have hk4:=hk3 (by omega) (by omega)
  refine xa 4 [V0 0,V0 0,V0 0] 81 fun b11 W11 n11=>?_
  have k6_kb'3:=k6_kb.below hb8
  have d11_kb:=n11.ne k6_kb'3
  have hB'3:=blB hB_6 hBw hb8
  have g11:=n11.ge0 hB'3
  have ho'4:=Zb ho hb8
  have r11_ho:=Zr ho'4 n11
  refine xsv 0 n11.blk [V0 no,V0 ((Px no (Ql (inB l no)) (Qr (inB l no)) ((Uq l no).getD i [])).2.1),V0 ((Px no (Ql (inB l no)) (Qr (inB l no)) ((Uq l no).getD i [])).2.2.1)] fun W12 u12 k12=>?_
  refine xin 11 ((Px no (Ql (inB l no)) (Qr (inB l no)) ((Uq l no).getD i [])).2.2.2) (0:Int) (fun hc13=>?_) (fun hc13=>?_)
  ·refine xc 5 (args:=#[V0 no,.iface 89 (V0 ((Px no (Ql (inB l no)) (Qr (inB l no)) ((Uq l no).getD i [])).2.2.2))]) (Eu no (Px no (Ql (inB l no)) (Qr (inB l no)) ((Uq l no).getD i [])).2.2.2 [] _ _ rfl) ?_
   rintro _ W14 ⟨ty14,v14,rfl,hb14,hva⟩
   have hB'4:=blB (u12.below (blB hB'3 hBw n11.below) (Nat.le_trans hBw g11)) hBw hb14
   have hO'2:=(Zd.upd_new ((hO_6.trans (Zd.of_below hb8)).trans (Zd.of_below n11.below)) u12 g11).trans (Zd.of_below hb14)
   refine xe 10 (.iface ty14 (v14)) ?_
   have e9:Nr l n d out no t=Qd (Xu l n d) out (Zfc l no):=by rw[Qs ((Zaz ht5).trans hie),Zfx ht5]
   have hx1:(Px no (Ql (inB l no)) (Qr (inB l no)) ((Uq l no).getD i [])).2.2.2≠0:=by assumption
   have e7:=linkX_err (l:=l) (n:=n) (out:=c) (by omega:0<d) hx1
   have e8:=hf.bad (by rw[e7];exact hx1) (((Uq l no).drop (i+1)).map (Px no (Ql (inB l no)) (Qr (inB l no))))
   rw[←Fs (by omega) hdd,e7,hk1] at e8
   exact Hb (e9.trans e8) hx1 hB'4 hO'2 hva
  have hx0:(Px no (Ql (inB l no)) (Qr (inB l no)) ((Uq l no).getD i [])).2.2.2=0:=by omega
  have hxe:=valK_eta hx0
  refine xlv 15 k12.rp ?_
  have hI'3:=((hI.below hb8).below n11.below).only (Zd.of_upd (T:=[81]) u12 n11.blk (by decide)) (by decide)
  have k6_bx'2:=u12.blkT ((k6_bx.below hb8).below n11.below) n11.blk (by decide)
  have ho'5:=u12.own3 (Zb ho'4 n11.below) r11_ho
  have hM'3:=((hM.below hb8).below n11.below).updBlk u12 n11.blk
  have hB'5:=u12.below (blB hB'3 hBw n11.below) (Nat.le_trans hBw g11)
  have k6_kb'4:=u12.blk (k6_kb'3.below n11.below) (Ne.symm (Ne.symm d11_kb))
  refine xc 0 (args:=#[P0 bx,.agg #[V0 no,V0 ((Px no (Ql (inB l no)) (Qr (inB l no)) ((Uq l no).getD i [])).2.1),V0 ((Px no (Ql (inB l no)) (Qr (inB l no)) ((Uq l no).getD i [])).2.2.1)]]) (hA _ _ c no (Px no (Ql (inB l no)) (Qr (inB l no)) ((Uq l no).getD i [])).2.1 (Px no (Ql (inB l no)) (Qr (inB l no)) ((Uq l no).getD i [])).2.2.1 _ ⟨hI'3,k6_bx'2,ho'5,hM'3,(Nat.le_trans hBw hB'5.size),hbx,hrm,k6_kb'4,hsp⟩ hk2 (by omega) (by omega) hk4.1 hk4.2) ?_
  rintro e W15 hq15
  rcases hq15 with ⟨hre,tyr,vr,rfl,hb15,hO15,hv9⟩|⟨hre,po2,co2,rfl,hb15,hO15,⟨_,kx2,ho,hM,_,_,_,kk2,hsp⟩⟩
  ·have hB'6:=hB'5.trans hb15
   have hO'3:=(Zd.upd_new ((hO_6.trans (Zd.of_below hb8)).trans (Zd.of_below n11.below)) u12 g11).trans hO15
   refine xe 22 (.iface tyr (vr)) ?_
   have e9:Nr l n d out no t=Qd (Xu l n d) out (Zfc l no):=by rw[Qs ((Zaz ht5).trans hie),Zfx ht5]
   have e8:=hf.bad hre (((Uq l no).drop (i+1)).map (Px no (Ql (inB l no)) (Qr (inB l no))))
   rw[hxe,←Fs (by omega) hdd] at e8
   rw[hxe] at hre
   have hv8:=hv9
   rw[hxe] at hv8
   exact .inl ⟨by rw[e9,e8];exact hre,_,_,rfl,hB'6,hO'3,by rw[e9,e8];exact hv8⟩
  refine xwm 14 ((i:Int)+1) (↑(i+1):Int) ?_
  have hB'7:=hB'5.trans hb15
  have hO'4:=(Zd.upd_new ((hO_6.trans (Zd.of_below hb8)).trans (Zd.of_below n11.below)) u12 g11).trans hO15
  have k6_b4'1:=(u12.blkT ((k6_b4.below hb8).below n11.below) n11.blk (by decide)).only hO15 (by decide)
  have hvs'2:=Zi (u12.own2 (Zb (Zb hvs hb8) n11.below) n11.blk (by decide)) hO15 (by decide)
  have hI'4:=hI'3.only hO15 (by decide)
  exact ze 2 (hJ6 _ _ _ ⟨i+1,_,_,_,rfl,rfl,hB'7,hO'4,kx2,kk2,k6_b4'1,hvs'2,ho,hM,hI'4,by omega,(by have q9:=hf.next hre;rw[Zg6 (by omega) hdd];have e9:=congrArg (fun x=>Nq l no i++[x]) hxe;exact Eq.mp (congrArg (fun L=>Kj (Xu l n d) out L _) e9) q9),hsp⟩ (by omega))
 refine xe 11 .nilIface ?_
 have e9:Nr l n d out no t=Qd (Xu l n d) out (Zfc l no):=by rw[Qs ((Zaz ht5).trans hie),Zfx ht5]
 obtain rfl:i=(Uq l no).length:=by omega
 rw[takeJ_all] at hf
 have e8:Nr l n d out no t=(c,[],0):=by rw[e9];exact Prod.ext hf.2 (Prod.ext (Pe hf.1) hf.1)
 exact Um e8 rfl hB_6 hO_6 hI k6_bx ho hM (Nat.le_trans hBw hB_6.size) hbx hrm k6_kb hsp
theorem link_add1(B Bi b bx rm kb:Nat)(K:List Value)(pi:O0)(ni ci:Nat)(l:Bl)(n:Nat)(d:Nat)(hA:Za9 d B Bi b bx rm kb K pi ni ci l n)(po:O0)(co:Nat)(out:List Lk)(fr to ak:Int)(w:World)(hL:LkM B Bi b bx rm kb K pi ni ci l n po co out w)(hz:unt out n<d+1)(hph:Qg n out≤1000000000000)(hto:0≤to)(h1:1≤ak)(h7:ak≤7)(ht:Ky out to=true) :
 C0 56 #[P0 bx,.agg #[V0 fr,V0 to,V0 ak]] w (Fa B Bi b bx rm kb K pi ni ci l n (Xu l n (d+1) out (fr,to,ak,0)) w):=by
 obtain⟨hI,kx,ho,hM,a0,b3,e8,kk,c2⟩:=hL
 refine zin 68 Tryz.func56 ?_
 refine xa 2 [V0 fr,V0 to,V0 ak] 81 fun b1 W1 n1=>?_
 have h4:=n1.ne kk
 have b0:=Zr ho n1
 refine xd 5 .z ?_
 have k1:=n1.blk.below (Za W1)
 refine xb (.e [0] 1) 1 k1 ?_
 have b2:=(kx.below n1.below).below (Za W1)
 refine xb (.e [2,3,4] 5) 1 b2 ?_
 refine xid (.r [6] 2) (to≥(n:Int)) (fun i7=>?_) (fun i7=>?_)
 ·refine xb 3 1 k1 ?_
  refine xc 1 (args:=#[V0 to,.iface 89 (V0 3)]) (Eu to 3 [] _ _ rfl) ?_
  rintro _ W3 ⟨i9,v3,rfl,h5,i8⟩
  have hB:=blB (blB (blB (Below.refl B w) a0 n1.below) a0 (Za W1)) a0 h5
  have hO:=((show Zd [141,81] w _ from(Zd.of_below n1.below)).trans (Zd.of_below (Za W1))).trans (Zd.of_below h5)
  exact xe 5 (.iface i9 (v3)) (Hb (Zb2 (fun q=>by omega)) (by decide) hB hO i8)
 refine xd 3 (.t B [81,141]) ?_
 refine xm2 (.b [0,1,2,3]) 4 5 ?_ ?_
 ·have e1:=b2.below (Za W1.drew)
  refine xb 0 3 e1 ?_
  have c0:=k1.below (Za W1.drew)
  refine xlv (.o [] 5) c0.rp ?_
  refine xbs (.o [] 6) 1 [V0 fr,V0 to,V0 ak] 81 fun b4 W4 n4=>?_
  have c4:=((kk.below n1.below).below (Za W1)).below (Za W1.drew)
  have g8:=n4.ne c4
  have h0:=n4.ne c0
  have d5:=Zb (Zb (Zb ho n1.below) (Za W1)) (Za W1.drew)
  have g9:=Zr d5 n4
  have d9:=c4.below n4.below
  have c9:=(d9).lt
  have a5:=Zb d5 n4.below
  have hB:=blB (blB (blB (blB (Below.refl B w) a0 n1.below) a0 (Za W1)) a0 (Za W1.drew)) a0 n4.below
  refine ybi (.o [] 7) (.t B [81,141]) fun _ _ _ _ zJ zQ zo zx zy zK=>Vn (b:=b4) (c:=1) (m:=1) (news:=[V0 fr,V0 to,V0 ak]) (.agg #[V0 0,V0 0,V0 0]) 3 24 ((out++[(fr,to,ak,0)]).length) (((out++[(fr,to,ak,0)]).flatMap lkC)) zo Tryz.underlying48 (by kernel_rfl) rfl (by decide) zx a5 zy n4.blk rfl (by simp[Value.oneCell']) (by unfold maxLen;unfold Qg at hph;omega) (by unfold Qg at hph;omega) (Nat.le_trans a0 hB.size) (by simp) (by rw[List.flatMap_append];rfl) fun i0 i4 W5 o5 b9 h6 i2=>?_
  refine zK _ _ (Xa h6 b9 a5 (by decide)) ?_
  have a2:=(e1.below n4.below).grown b9 a5 (by decide)
  refine ys (.o [8,9] 10) a2 [P0 b,V0 (n:Int),.map (some rm),.slice i0 ((out++[(fr,to,ak,0)]).length) i4] (.t B [81,141]) fun W6 u6 k6=>⟨(Zt u6 a2 b3 (by decide)),?_⟩
  refine xd 4 .z ?_
  have e4:=k6.below (Za W6)
  refine xb (.e [0,1,2] 3) 2 e4 ?_
  have f2:=(u6.blkT ((c0.below n4.below).grown3 b9 b0) a2 (by decide)).below (Za W6)
  refine xb (.e [4] 5) 1 f2 ?_
  have c3:=((((((hM.below n1.below).below (Za W1)).below (Za W1.drew)).below n4.below).grown b9 a5).updBlk u6 a2).below (Za W6)
  obtain⟨kv,hm,d3⟩:=id (c3)
  refine xlkS (.o [] 6) to false Tryz.underlying139 (keyI Tryz.underlying3) hm (by rw[d3,ht];rfl) ?_
  have f1:=((((((hI.below n1.below).below (Za W1)).below (Za W1.drew)).below n4.below).only (Zd.of_grown (T:=[81]) b9 a5 (by decide)) (by decide)).only (Zd.of_upd (T:=[141]) u6 a2 (by decide)) (by decide)).below (Za W6)
  have f3:=Zb (u6.own2 o5 a2 (by decide)) (Za W6)
  have d8:=blB (u6.below (hB.trans h6) b3) a0 (Za W6)
  have g0:=(u6.blkT (d9.grown3 b9 c2) a2 (by decide)).below (Za W6)
  have hO:=((((((show Zd [141,81] w _ from(Zd.of_below n1.below)).trans (Zd.of_below (Za W1))).trans (Zd.of_below (Za W1.drew))).trans (Zd.of_below n4.below)).trans (Zd.of_grown b9 a5 (by decide))).trans (Zd.of_upd u6 a2 (by decide))).trans (Zd.of_below (Za W6))
  exact xe 10 .nilIface (Um (Bg (by omega) ht) rfl d8 hO f1 e4 f3 (Gn.told (x:=(fr,to,ak,0)) c3 ht) (Nat.le_trans a0 d8.size) b3 e8 g0 (Yl c2 i2 c9))
 have a9:=k1.below (Za W1.drew)
 refine xlv 0 a9.rp ?_
 refine xm2 0 4 6 ?_ ?_
 ·have e5:=b2.below (Za W1.drew)
  refine xb 0 3 e5 ?_
  refine xbs (.o [] 6) 1 [V0 fr,V0 to,V0 ak] 81 fun b7 W7 n7=>?_
  have d2:=((kk.below n1.below).below (Za W1)).below (Za W1.drew)
  have g7:=n7.ne d2
  have h3:=n7.ne a9
  have e3:=Zb (Zb (Zb ho n1.below) (Za W1)) (Za W1.drew)
  have g6:=Zr e3 n7
  have d1:=d2.below n7.below
  have c9:=(d1).lt
  have a7:=Zb e3 n7.below
  have hB:=blB (blB (blB (blB (Below.refl B w) a0 n1.below) a0 (Za W1)) a0 (Za W1.drew)) a0 n7.below
  refine ybi (.o [] 7) (.t B [81,141]) fun _ _ _ _ zJ zQ zo zx zy zK=>Vn (b:=b7) (c:=1) (m:=1) (news:=[V0 fr,V0 to,V0 ak]) (.agg #[V0 0,V0 0,V0 0]) 3 24 ((out++[(fr,to,ak,0)]).length) (((out++[(fr,to,ak,0)]).flatMap lkC)) zo Tryz.underlying48 (by kernel_rfl) rfl (by decide) zx a7 zy n7.blk rfl (by simp[Value.oneCell']) (by unfold maxLen;unfold Qg at hph;omega) (by unfold Qg at hph;omega) (Nat.le_trans a0 hB.size) (by simp) (by rw[List.flatMap_append];rfl) fun i1 i5 W8 o8 c1 h2 i6=>?_
  refine zK _ _ (Xa h2 c1 a7 (by decide)) ?_
  have a1:=(e5.below n7.below).grown c1 a7 (by decide)
  refine ys (.o [8,9] 10) a1 [P0 b,V0 (n:Int),.map (some rm),.slice i1 ((out++[(fr,to,ak,0)]).length) i5] (.t B [81,141]) fun W9 u9 k9=>⟨(Zt u9 a1 b3 (by decide)),?_⟩
  refine xd 4 .z ?_
  have d0:=k9.below (Za W9)
  refine xb (.e [0,1,2] 3) 2 d0 ?_
  have g2:=(u9.blkT ((a9.below n7.below).grown3 c1 b0) a1 (by decide)).below (Za W9)
  refine xb (.e [4] 5) 1 g2 ?_
  have d4:=((((((hM.below n1.below).below (Za W1)).below (Za W1.drew)).below n7.below).grown c1 a7).updBlk u9 a1).below (Za W9)
  obtain⟨kv,hm,d3⟩:=id (d4)
  refine xlkS (.o [] 6) to false Tryz.underlying139 (keyI Tryz.underlying3) hm (by rw[d3,ht];rfl) ?_
  have g5:=((((((hI.below n1.below).below (Za W1)).below (Za W1.drew)).below n7.below).only (Zd.of_grown (T:=[81]) c1 a7 (by decide)) (by decide)).only (Zd.of_upd (T:=[141]) u9 a1 (by decide)) (by decide)).below (Za W9)
  have e7:=Zb (u9.own2 o8 a1 (by decide)) (Za W9)
  have c6:=blB (u9.below (hB.trans h2) b3) a0 (Za W9)
  have f8:=(u9.blkT (d1.grown3 c1 c2) a1 (by decide)).below (Za W9)
  have hO:=((((((show Zd [141,81] w _ from(Zd.of_below n1.below)).trans (Zd.of_below (Za W1))).trans (Zd.of_below (Za W1.drew))).trans (Zd.of_below n7.below)).trans (Zd.of_grown c1 a7 (by decide))).trans (Zd.of_upd u9 a1 (by decide))).trans (Zd.of_below (Za W9))
  exact xe 10 .nilIface (Um (Bg (by omega) ht) rfl c6 hO g5 d0 e7 (Gn.told (x:=(fr,to,ak,0)) d4 ht) (Nat.le_trans a0 c6.size) b3 e8 f8 (Yl c2 i6 c9))
 refine xbs 0 1 [V0 fr,V0 to,V0 ak] 81 fun h8 j0 a8=>?_
 have d7:=((kk.below n1.below).below (Za W1)).below (Za W1.drew)
 have f7:=a8.ne d7
 have f9:=a8.ne a9
 have d6:=Zb (Zb (Zb ho n1.below) (Za W1)) (Za W1.drew)
 have f4:=Zr d6 a8
 have c5:=(b2.below (Za W1.drew)).below a8.below
 refine xb (.o [] 4) 3 c5 ?_
 have e2:=d7.below a8.below
 have c9:=(e2).lt
 have a6:=Zb d6 a8.below
 have hB:=blB (blB (blB (blB (Below.refl B w) a0 n1.below) a0 (Za W1)) a0 (Za W1.drew)) a0 a8.below
 refine ybi (.o [] 7) (.t B [81,141]) fun _ _ _ _ zJ zQ zo zx zy zK=>Vn (b:=h8) (c:=1) (m:=1) (news:=[V0 fr,V0 to,V0 ak]) (.agg #[V0 0,V0 0,V0 0]) 3 24 ((out++[(fr,to,ak,0)]).length) (((out++[(fr,to,ak,0)]).flatMap lkC)) zo Tryz.underlying48 (by kernel_rfl) rfl (by decide) zx a6 zy a8.blk rfl (by simp[Value.oneCell']) (by unfold maxLen;unfold Qg at hph;omega) (by unfold Qg at hph;omega) (Nat.le_trans a0 hB.size) (by simp) (by rw[List.flatMap_append];rfl) fun f5 g1 j1 i3 a4 e0 e9=>?_
 refine zK _ _ (Xa e0 a4 a6 (by decide)) ?_
 have a3:=c5.grown a4 a6 (by decide)
 refine ys (.o [8,9] 10) a3 [P0 b,V0 (n:Int),.map (some rm),.slice f5 ((out++[(fr,to,ak,0)]).length) g1] (.t B [81,141]) fun b5 b8 h9=>⟨(Zt b8 a3 b3 (by decide)),?_⟩
 refine xd 4 .z ?_
 have b6:=h9.below (Za b5)
 refine xb (.e [0,1,2] 3) 2 b6 ?_
 have f0:=(b8.blkT ((a9.below a8.below).grown3 a4 b0) a3 (by decide)).below (Za b5)
 refine xb (.e [4] 5) 1 f0 ?_
 have e6:=((((((hM.below n1.below).below (Za W1)).below (Za W1.drew)).below a8.below).grown a4 a6).updBlk b8 a3).below (Za b5)
 obtain⟨kv,hm,d3⟩:=id (e6)
 refine xlkS (.o [] 6) to false Tryz.underlying139 (keyI Tryz.underlying3) hm (by rw[d3,ht];rfl) ?_
 have f6:=((((((hI.below n1.below).below (Za W1)).below (Za W1.drew)).below a8.below).only (Zd.of_grown (T:=[81]) a4 a6 (by decide)) (by decide)).only (Zd.of_upd (T:=[141]) b8 a3 (by decide)) (by decide)).below (Za b5)
 have c8:=Zb (b8.own2 i3 a3 (by decide)) (Za b5)
 have c7:=blB (b8.below (hB.trans e0) b3) a0 (Za b5)
 have g3:=(b8.blkT (e2.grown3 a4 c2) a3 (by decide)).below (Za b5)
 have hO:=((((((show Zd [141,81] w _ from(Zd.of_below n1.below)).trans (Zd.of_below (Za W1))).trans (Zd.of_below (Za W1.drew))).trans (Zd.of_below a8.below)).trans (Zd.of_grown a4 a6 (by decide))).trans (Zd.of_upd b8 a3 (by decide))).trans (Zd.of_below (Za b5))
 exact xe 10 .nilIface (Um (Bg (by omega) ht) rfl c7 hO f6 b6 c8 (Gn.told (x:=(fr,to,ak,0)) e6 ht) (Nat.le_trans a0 c7.size) b3 e8 g3 (Yl c2 e9 c9))
theorem link_add2(B Bi b bx rm kb:Nat)(K:List Value)(pi:O0)(ni ci:Nat)(l:Bl)(n:Nat)(d:Nat)(hA:Za9 d B Bi b bx rm kb K pi ni ci l n)(po:O0)(co:Nat)(out:List Lk)(fr to ak:Int)(w:World)(hL:LkM B Bi b bx rm kb K pi ni ci l n po co out w)(hz:unt out n<d+1)(hph:Qg n out≤1000000000000)(hto:0≤to)(h1:1≤ak)(h7:ak≤7)(ht:Ky out to=false) :
 C0 56 #[P0 bx,.agg #[V0 fr,V0 to,V0 ak]] w (Fa B Bi b bx rm kb K pi ni ci l n (Xu l n (d+1) out (fr,to,ak,0)) w):=by
 obtain⟨hI,kx,ho,hM,a0,a9,a3,kk,a4⟩:=hL
 refine zin 68 Tryz.func56 ?_
 refine xa 2 [V0 fr,V0 to,V0 ak] 81 fun b1 W1 n1=>?_
 have eb:=n1.ne kk
 have j7:=Zr ho n1
 refine xd 5 .z ?_
 have k1:=n1.blk.below (Za W1)
 refine xb (.e [0] 1) 1 k1 ?_
 have l9:=(kx.below n1.below).below (Za W1)
 refine xb (.e [2,3,4] 5) 1 l9 ?_
 refine xid (.r [6] 2) (to≥(n:Int)) (fun ek=>?_) (fun ek=>?_)
 ·refine xb 3 1 k1 ?_
  refine xc 1 (args:=#[V0 to,.iface 89 (V0 3)]) (Eu to 3 [] _ _ rfl) ?_
  rintro _ W3 ⟨em,v3,rfl,ed,eh⟩
  have hB:=blB (blB (blB (Below.refl B w) a0 n1.below) a0 (Za W1)) a0 ed
  have hO:=((show Zd [141,81] w _ from(Zd.of_below n1.below)).trans (Zd.of_below (Za W1))).trans (Zd.of_below ed)
  exact xe 5 (.iface em (v3)) (Hb (Zb2 (fun q=>by omega)) (by decide) hB hO eh)
 refine xd 3 (.t B [81,141]) ?_
 refine xm2 (.b [0,1,2,3]) 4 5 ?_ ?_
 ·have z9:=l9.below (Za W1.drew)
  refine xb 0 3 z9 ?_
  have r8:=k1.below (Za W1.drew)
  refine xlv (.o [] 5) r8.rp ?_
  refine xbs (.o [] 6) 1 [V0 fr,V0 to,V0 ak] 81 fun b4 W4 n4=>?_
  have w4:=((kk.below n1.below).below (Za W1)).below (Za W1.drew)
  have ea:=n4.ne w4
  have ec:=n4.ne r8
  have z6:=Zb (Zb (Zb ho n1.below) (Za W1)) (Za W1.drew)
  have ee:=Zr z6 n4
  have f8:=w4.below n4.below
  have e8:=(f8).lt
  have b6:=Zb z6 n4.below
  have hB:=blB (blB (blB (blB (Below.refl B w) a0 n1.below) a0 (Za W1)) a0 (Za W1.drew)) a0 n4.below
  refine ybi (.o [] 7) (.t B [81,141]) fun _ _ _ _ zJ zQ zo zx zy zK=>Vn (b:=b4) (c:=1) (m:=1) (news:=[V0 fr,V0 to,V0 ak]) (.agg #[V0 0,V0 0,V0 0]) 3 24 ((out++[(fr,to,ak,0)]).length) (((out++[(fr,to,ak,0)]).flatMap lkC)) zo Tryz.underlying48 (by kernel_rfl) rfl (by decide) zx b6 zy n4.blk rfl (by simp[Value.oneCell']) (by unfold maxLen;unfold Qg at hph;omega) (by unfold Qg at hph;omega) (Nat.le_trans a0 hB.size) (by simp) (by rw[List.flatMap_append];rfl) fun ef eo W5 o5 d1 l1 u1=>?_
  refine zK _ _ (Xa l1 d1 b6 (by decide)) ?_
  have a8:=(z9.below n4.below).grown d1 b6 (by decide)
  refine ys (.o [8,9] 10) a8 [P0 b,V0 (n:Int),.map (some rm),.slice ef ((out++[(fr,to,ak,0)]).length) eo] (.t B [81,141]) fun W6 u6 k6=>⟨(Zt u6 a8 a9 (by decide)),?_⟩
  refine xd 4 .z ?_
  have s8:=k6.below (Za W6)
  refine xb (.e [0,1,2] 3) 2 s8 ?_
  have s4:=(u6.blkT ((r8.below n4.below).grown3 d1 j7) a8 (by decide)).below (Za W6)
  refine xb (.e [4] 5) 1 s4 ?_
  have s2:=((((((hM.below n1.below).below (Za W1)).below (Za W1.drew)).below n4.below).grown d1 b6).updBlk u6 a8).below (Za W6)
  obtain⟨kv,hm,v1⟩:=id (s2)
  refine xlkN (.o [] 6) (z:=.bool false) to false Tryz.underlying139 (keyI Tryz.underlying3) (fun V=>by kernel_rfl) hm (by rw[v1,ht];rfl) ?_
  refine xd 6 (.t B [141,81]) ?_
  refine xm2 (.b [0,1,2,4]) 3 5 ?_ ?_
  ·have l7:=s8.below (Za W6.drew)
   refine xb 0 2 l7 ?_
   have w5:=s4.below (Za W6.drew)
   refine xb (.o [] 5) 1 w5 ?_
   have bu:=s2.below (Za W6.drew)
   obtain⟨y0,f6,b2⟩:=id (bu)
   have f0:=Gx.obj f6
   refine ymuV (.o [] 6) to (.bool true) (.t B [141,81]) Tryz.underlying139 (keyI Tryz.underlying3) f6 (by rw[b2,ht];rfl) fun W7 u7 m7=>⟨Bk f0 u7 a3,?_⟩
   have i8:=Xf w5 f0 u7
   refine xb 6 2 i8 ?_
   refine xie 9 ak (6:Int) (fun eg=>?_) (fun eg=>?_)
   ·refine xb 4 1 i8 ?_
    have ao:=((((((((hI.below n1.below).below (Za W1)).below (Za W1.drew)).below n4.below).only (Zd.of_grown (T:=[81]) d1 b6 (by decide)) (by decide)).only (Zd.of_upd (T:=[141]) u6 a8 (by decide)) (by decide)).below (Za W6)).below (Za W6.drew)).only (Zl (T:=[]) f0 u7) (by decide)
    have ca:=Xf l7 f0 u7
    have bd:=Qe (Zb (Zb (u6.own2 o5 a8 (by decide)) (Za W6)) (Za W6.drew)) f0 u7
    have hM:=(Yd (x:=(fr,to,ak,0)) b2 m7)
    have t7:=u7.below (blB (blB (u6.below (hB.trans l1) a9) a0 (Za W6)) a0 (Za W6.drew)) a3
    have db:=Xf (((u6.blkT (f8.grown3 d1 a4) a8 (by decide)).below (Za W6)).below (Za W6.drew)) f0 u7
    have i0:=Vg (x:=(fr,to,ak,0)) (n:=n) (out:=out) ⟨hto,(show to<(n:Int) from by omega)⟩ ht
    have j3:Qg n (out++[(fr,to,ak,0)])≤999999999000:=by unfold Qg at hph ⊢;rw[List.length_append,List.length_singleton];omega
    refine xc 0 (args:=#[P0 bx,V0 to]) (Ji B Bi b bx rm kb K pi ni ci l n d hA _ _ (out++[(fr,to,ak,0)]) to _ ⟨ao,ca,bd,hM,(Nat.le_trans a0 t7.size),a9,a3,db,(Yl a4 u1 e8)⟩ (by omega) (by omega)) ?_
    rintro e W9 ei
    rcases ei with ⟨a6,e6,vr,rfl,dz,ax,c9⟩|⟨a6,i3,h8,rfl,dz,ax,⟨_,c6,c8,hM,_,_,_,c7,a4⟩⟩
    ·have w9:=t7.trans dz
     have hO:=(((((((((show Zd [141,81] w _ from(Zd.of_below n1.below)).trans (Zd.of_below (Za W1))).trans (Zd.of_below (Za W1.drew))).trans (Zd.of_below n4.below)).trans (Zd.of_grown d1 b6 (by decide))).trans (Zd.of_upd u6 a8 (by decide))).trans (Zd.of_below (Za W6))).trans (Zd.of_below (Za W6.drew))).trans (Zl f0 u7)).trans ax
     refine xe 6 (.iface e6 (vr)) ?_
     have e9:=Zx (l:=l) (n:=n) (d:=d) (fr:=fr) (ak:=ak) (to:=to) (out:=out) (by omega) ht
     first|(have a5:ak=6:=(by omega);subst a5;exact .inl ⟨by rw[e9];exact a6,_,_,rfl,w9,hO,by rw[e9];exact c9⟩)|exact .inl ⟨by rw[e9];exact a6,_,_,rfl,w9,hO,by rw[e9];exact c9⟩
    have ab:=ao.only ax (by decide)
    have l2:=t7.trans dz
    have hO:=(((((((((show Zd [141,81] w _ from(Zd.of_below n1.below)).trans (Zd.of_below (Za W1))).trans (Zd.of_below (Za W1.drew))).trans (Zd.of_below n4.below)).trans (Zd.of_grown d1 b6 (by decide))).trans (Zd.of_upd u6 a8 (by decide))).trans (Zd.of_below (Za W6))).trans (Zd.of_below (Za W6.drew))).trans (Zl f0 u7)).trans ax
    refine xe 6 .nilIface ?_
    have e9:=Zx (l:=l) (n:=n) (d:=d) (fr:=fr) (ak:=ak) (to:=to) (out:=out) (by omega) ht
    first|(have a5:ak=6:=(by omega);subst a5;exact .inr ⟨by rw[e9];exact a6,_,_,rfl,l2,hO,by rw[e9];exact⟨ab,c6,c8,hM,(Nat.le_trans a0 l2.size),a9,a3,c7,a4⟩⟩)|exact .inr ⟨by rw[e9];exact a6,_,_,rfl,l2,hO,by rw[e9];exact⟨ab,c6,c8,hM,(Nat.le_trans a0 l2.size),a9,a3,c7,a4⟩⟩
   refine xie 6 ak (7:Int) (fun bi=>?_) (fun bi=>?_)
   ·refine xd 1 .z ?_
    have u5:=(Xf l7 f0 u7).below (Za W7)
    refine xb (.e [0,1,2] 3) 0 u5 ?_
    have az:=i8.below (Za W7)
    refine xb (.e [4] 5) 1 az ?_
    have v2:=(((((((((hI.below n1.below).below (Za W1)).below (Za W1.drew)).below n4.below).only (Zd.of_grown (T:=[81]) d1 b6 (by decide)) (by decide)).only (Zd.of_upd (T:=[141]) u6 a8 (by decide)) (by decide)).below (Za W6)).below (Za W6.drew)).only (Zl (T:=[]) f0 u7) (by decide)).below (Za W7)
    refine yc (.o [] 6) (args:=#[P0 b,V0 to]) .z (Kb Bi b pi ni ci l to _ v2) ?_
    rintro e fd cd
    rcases cd with ⟨d0,j8,vx,rfl,d7,i7⟩|⟨d0,pl,cl,rfl,d7,hs⟩
    ·refine⟨d7,?_⟩
     have df:=blB (blB (u7.below (blB (blB (u6.below (hB.trans l1) a9) a0 (Za W6)) a0 (Za W6.drew)) a3) a0 (Za W7)) a0 d7
     have hO:=((((((((((show Zd [141,81] w _ from(Zd.of_below n1.below)).trans (Zd.of_below (Za W1))).trans (Zd.of_below (Za W1.drew))).trans (Zd.of_below n4.below)).trans (Zd.of_grown d1 b6 (by decide))).trans (Zd.of_upd u6 a8 (by decide))).trans (Zd.of_below (Za W6))).trans (Zd.of_below (Za W6.drew))).trans (Zl f0 u7)).trans (Zd.of_below (Za W7))).trans (Zd.of_below d7)
     refine xe (.r [7,8,9,10,11] 11) (.iface j8 (vx)) ?_
     have e9:=Zx (l:=l) (n:=n) (d:=d) (fr:=fr) (ak:=ak) (to:=to) (out:=out) (by omega) ht
     have a5:ak=7:=by omega
     subst a5
     rw[Ki (Uk l to) d0] at e9
     exact Hb e9 d0 df hO i7
    refine⟨d7,?_⟩
    have dy:=v2.below d7
    have dp:=u5.below d7
    have dg:=Zb (Zb (Qe (Zb (Zb (u6.own2 o5 a8 (by decide)) (Za W6)) (Za W6.drew)) f0 u7) (Za W7)) d7
    have hM:=((Yd (x:=(fr,to,ak,0)) b2 m7).below (Za W7)).below d7
    have x2:=blB (blB (u7.below (blB (blB (u6.below (hB.trans l1) a9) a0 (Za W6)) a0 (Za W6.drew)) a3) a0 (Za W7)) a0 d7
    have bp:=((Xf (((u6.blkT (f8.grown3 d1 a4) a8 (by decide)).below (Za W6)).below (Za W6.drew)) f0 u7).below (Za W7)).below d7
    have hO:=((((((((((show Zd [141,81] w _ from(Zd.of_below n1.below)).trans (Zd.of_below (Za W1))).trans (Zd.of_below (Za W1.drew))).trans (Zd.of_below n4.below)).trans (Zd.of_grown d1 b6 (by decide))).trans (Zd.of_upd u6 a8 (by decide))).trans (Zd.of_below (Za W6))).trans (Zd.of_below (Za W6.drew))).trans (Zl f0 u7)).trans (Zd.of_below (Za W7))).trans (Zd.of_below d7)
    refine xe (.r [7,8,9,10,11] 11) .nilIface ?_
    have e9:=Zx (l:=l) (n:=n) (d:=d) (fr:=fr) (ak:=ak) (to:=to) (out:=out) (by omega) ht
    have a5:ak=7:=by omega
    subst a5
    rw[Qs ((Uk l to).trans d0),Tf,Ga] at e9
    exact Um e9 rfl x2 hO dy dp dg hM (Nat.le_trans a0 x2.size) a9 a3 bp (Yl a4 u1 e8)
   refine xb 7 1 i8 ?_
   refine xb 1 2 i8 ?_
   have x3:=((((((((hI.below n1.below).below (Za W1)).below (Za W1.drew)).below n4.below).only (Zd.of_grown (T:=[81]) d1 b6 (by decide)) (by decide)).only (Zd.of_upd (T:=[141]) u6 a8 (by decide)) (by decide)).below (Za W6)).below (Za W6.drew)).only (Zl (T:=[]) f0 u7) (by decide)
   have bh:=Xf l7 f0 u7
   have cr:=Qe (Zb (Zb (u6.own2 o5 a8 (by decide)) (Za W6)) (Za W6.drew)) f0 u7
   have hM:=(Yd (x:=(fr,to,ak,0)) b2 m7)
   have t2:=u7.below (blB (blB (u6.below (hB.trans l1) a9) a0 (Za W6)) a0 (Za W6.drew)) a3
   have cx:=Xf (((u6.blkT (f8.grown3 d1 a4) a8 (by decide)).below (Za W6)).below (Za W6.drew)) f0 u7
   have i0:=Vg (x:=(fr,to,ak,0)) (n:=n) (out:=out) ⟨hto,(show to<(n:Int) from by omega)⟩ ht
   have j3:Qg n (out++[(fr,to,ak,0)])≤999999999000:=by unfold Qg at hph ⊢;rw[List.length_append,List.length_singleton];omega
   refine xc 0 (args:=#[P0 bx,V0 to,V0 ak]) (Gp B Bi b bx rm kb K pi ni ci l n d hA _ _ (out++[(fr,to,ak,0)]) to ak _ ⟨x3,bh,cr,hM,(Nat.le_trans a0 t2.size),a9,a3,cx,(Yl a4 u1 e8)⟩ (by omega) (by omega) h1 (by omega)) ?_
   rintro e eq ba
   rcases ba with ⟨a6,e6,vr,rfl,t5,l3,c9⟩|⟨a6,i3,h8,rfl,t5,l3,⟨_,c6,c8,hM,_,_,_,c7,a4⟩⟩
   ·have y3:=t2.trans t5
    have hO:=(((((((((show Zd [141,81] w _ from(Zd.of_below n1.below)).trans (Zd.of_below (Za W1))).trans (Zd.of_below (Za W1.drew))).trans (Zd.of_below n4.below)).trans (Zd.of_grown d1 b6 (by decide))).trans (Zd.of_upd u6 a8 (by decide))).trans (Zd.of_below (Za W6))).trans (Zd.of_below (Za W6.drew))).trans (Zl f0 u7)).trans l3
    refine xe 4 (.iface e6 (vr)) ?_
    have e9:=Zx (l:=l) (n:=n) (d:=d) (fr:=fr) (ak:=ak) (to:=to) (out:=out) (by omega) ht
    first|(have a5:ak=6:=(by omega);subst a5;exact .inl ⟨by rw[e9];exact a6,_,_,rfl,y3,hO,by rw[e9];exact c9⟩)|exact .inl ⟨by rw[e9];exact a6,_,_,rfl,y3,hO,by rw[e9];exact c9⟩
   have v9:=x3.only l3 (by decide)
   have l4:=t2.trans t5
   have hO:=(((((((((show Zd [141,81] w _ from(Zd.of_below n1.below)).trans (Zd.of_below (Za W1))).trans (Zd.of_below (Za W1.drew))).trans (Zd.of_below n4.below)).trans (Zd.of_grown d1 b6 (by decide))).trans (Zd.of_upd u6 a8 (by decide))).trans (Zd.of_below (Za W6))).trans (Zd.of_below (Za W6.drew))).trans (Zl f0 u7)).trans l3
   refine xe 4 .nilIface ?_
   have e9:=Zx (l:=l) (n:=n) (d:=d) (fr:=fr) (ak:=ak) (to:=to) (out:=out) (by omega) ht
   first|(have a5:ak=6:=(by omega);subst a5;exact .inr ⟨by rw[e9];exact a6,_,_,rfl,l4,hO,by rw[e9];exact⟨v9,c6,c8,hM,(Nat.le_trans a0 l4.size),a9,a3,c7,a4⟩⟩)|exact .inr ⟨by rw[e9];exact a6,_,_,rfl,l4,hO,by rw[e9];exact⟨v9,c6,c8,hM,(Nat.le_trans a0 l4.size),a9,a3,c7,a4⟩⟩
  have v5:=s4.below (Za W6.drew)
  refine xb 0 1 v5 ?_
  have m4:=s8.below (Za W6.drew)
  refine xb (.o [] 3) 2 m4 ?_
  have ck:=s2.below (Za W6.drew)
  obtain⟨y0,f6,b2⟩:=id (ck)
  have c5:=Gx.obj f6
  refine ymuV (.o [] 6) to (.bool true) (.t B [141,81]) Tryz.underlying139 (keyI Tryz.underlying3) f6 (by rw[b2,ht];rfl) fun k5 e3 dk=>⟨Bk c5 e3 a3,?_⟩
  have j0:=Xf v5 c5 e3
  refine xb 6 2 j0 ?_
  refine xie 9 ak (6:Int) (fun cg=>?_) (fun cg=>?_)
  ·refine xb 4 1 j0 ?_
   have v0:=((((((((hI.below n1.below).below (Za W1)).below (Za W1.drew)).below n4.below).only (Zd.of_grown (T:=[81]) d1 b6 (by decide)) (by decide)).only (Zd.of_upd (T:=[141]) u6 a8 (by decide)) (by decide)).below (Za W6)).below (Za W6.drew)).only (Zl (T:=[]) c5 e3) (by decide)
   have cw:=Xf m4 c5 e3
   have bs:=Qe (Zb (Zb (u6.own2 o5 a8 (by decide)) (Za W6)) (Za W6.drew)) c5 e3
   have hM:=(Yd (x:=(fr,to,ak,0)) b2 dk)
   have t3:=e3.below (blB (blB (u6.below (hB.trans l1) a9) a0 (Za W6)) a0 (Za W6.drew)) a3
   have cb:=Xf (((u6.blkT (f8.grown3 d1 a4) a8 (by decide)).below (Za W6)).below (Za W6.drew)) c5 e3
   have i0:=Vg (x:=(fr,to,ak,0)) (n:=n) (out:=out) ⟨hto,(show to<(n:Int) from by omega)⟩ ht
   have j3:Qg n (out++[(fr,to,ak,0)])≤999999999000:=by unfold Qg at hph ⊢;rw[List.length_append,List.length_singleton];omega
   refine xc 0 (args:=#[P0 bx,V0 to]) (Ji B Bi b bx rm kb K pi ni ci l n d hA _ _ (out++[(fr,to,ak,0)]) to _ ⟨v0,cw,bs,hM,(Nat.le_trans a0 t3.size),a9,a3,cb,(Yl a4 u1 e8)⟩ (by omega) (by omega)) ?_
   rintro e fb dq
   rcases dq with ⟨a6,e6,vr,rfl,t4,l5,c9⟩|⟨a6,i3,h8,rfl,t4,l5,⟨_,c6,c8,hM,_,_,_,c7,a4⟩⟩
   ·have o7:=t3.trans t4
    have hO:=(((((((((show Zd [141,81] w _ from(Zd.of_below n1.below)).trans (Zd.of_below (Za W1))).trans (Zd.of_below (Za W1.drew))).trans (Zd.of_below n4.below)).trans (Zd.of_grown d1 b6 (by decide))).trans (Zd.of_upd u6 a8 (by decide))).trans (Zd.of_below (Za W6))).trans (Zd.of_below (Za W6.drew))).trans (Zl c5 e3)).trans l5
    refine xe 6 (.iface e6 (vr)) ?_
    have e9:=Zx (l:=l) (n:=n) (d:=d) (fr:=fr) (ak:=ak) (to:=to) (out:=out) (by omega) ht
    first|(have a5:ak=6:=(by omega);subst a5;exact .inl ⟨by rw[e9];exact a6,_,_,rfl,o7,hO,by rw[e9];exact c9⟩)|exact .inl ⟨by rw[e9];exact a6,_,_,rfl,o7,hO,by rw[e9];exact c9⟩
   have y9:=v0.only l5 (by decide)
   have g2:=t3.trans t4
   have hO:=(((((((((show Zd [141,81] w _ from(Zd.of_below n1.below)).trans (Zd.of_below (Za W1))).trans (Zd.of_below (Za W1.drew))).trans (Zd.of_below n4.below)).trans (Zd.of_grown d1 b6 (by decide))).trans (Zd.of_upd u6 a8 (by decide))).trans (Zd.of_below (Za W6))).trans (Zd.of_below (Za W6.drew))).trans (Zl c5 e3)).trans l5
   refine xe 6 .nilIface ?_
   have e9:=Zx (l:=l) (n:=n) (d:=d) (fr:=fr) (ak:=ak) (to:=to) (out:=out) (by omega) ht
   first|(have a5:ak=6:=(by omega);subst a5;exact .inr ⟨by rw[e9];exact a6,_,_,rfl,g2,hO,by rw[e9];exact⟨y9,c6,c8,hM,(Nat.le_trans a0 g2.size),a9,a3,c7,a4⟩⟩)|exact .inr ⟨by rw[e9];exact a6,_,_,rfl,g2,hO,by rw[e9];exact⟨y9,c6,c8,hM,(Nat.le_trans a0 g2.size),a9,a3,c7,a4⟩⟩
  refine xie 6 ak (7:Int) (fun dv=>?_) (fun dv=>?_)
  ·refine xd 1 .z ?_
   have y5:=(Xf m4 c5 e3).below (Za k5)
   refine xb (.e [0,1,2] 3) 0 y5 ?_
   have dn:=j0.below (Za k5)
   refine xb (.e [4] 5) 1 dn ?_
   have y4:=(((((((((hI.below n1.below).below (Za W1)).below (Za W1.drew)).below n4.below).only (Zd.of_grown (T:=[81]) d1 b6 (by decide)) (by decide)).only (Zd.of_upd (T:=[141]) u6 a8 (by decide)) (by decide)).below (Za W6)).below (Za W6.drew)).only (Zl (T:=[]) c5 e3) (by decide)).below (Za k5)
   refine yc (.o [] 6) (args:=#[P0 b,V0 to]) .z (Kb Bi b pi ni ci l to _ y4) ?_
   rintro e fg dw
   rcases dw with ⟨d0,j8,vx,rfl,d6,i7⟩|⟨d0,pl,cl,rfl,d6,hs⟩
   ·refine⟨d6,?_⟩
    have y8:=blB (blB (e3.below (blB (blB (u6.below (hB.trans l1) a9) a0 (Za W6)) a0 (Za W6.drew)) a3) a0 (Za k5)) a0 d6
    have hO:=((((((((((show Zd [141,81] w _ from(Zd.of_below n1.below)).trans (Zd.of_below (Za W1))).trans (Zd.of_below (Za W1.drew))).trans (Zd.of_below n4.below)).trans (Zd.of_grown d1 b6 (by decide))).trans (Zd.of_upd u6 a8 (by decide))).trans (Zd.of_below (Za W6))).trans (Zd.of_below (Za W6.drew))).trans (Zl c5 e3)).trans (Zd.of_below (Za k5))).trans (Zd.of_below d6)
    refine xe (.r [7,8,9,10,11] 11) (.iface j8 (vx)) ?_
    have e9:=Zx (l:=l) (n:=n) (d:=d) (fr:=fr) (ak:=ak) (to:=to) (out:=out) (by omega) ht
    have a5:ak=7:=by omega
    subst a5
    rw[Ki (Uk l to) d0] at e9
    exact Hb e9 d0 y8 hO i7
   refine⟨d6,?_⟩
   have ad:=y4.below d6
   have z4:=y5.below d6
   have cj:=Zb (Zb (Qe (Zb (Zb (u6.own2 o5 a8 (by decide)) (Za W6)) (Za W6.drew)) c5 e3) (Za k5)) d6
   have hM:=((Yd (x:=(fr,to,ak,0)) b2 dk).below (Za k5)).below d6
   have n0:=blB (blB (e3.below (blB (blB (u6.below (hB.trans l1) a9) a0 (Za W6)) a0 (Za W6.drew)) a3) a0 (Za k5)) a0 d6
   have dt:=((Xf (((u6.blkT (f8.grown3 d1 a4) a8 (by decide)).below (Za W6)).below (Za W6.drew)) c5 e3).below (Za k5)).below d6
   have hO:=((((((((((show Zd [141,81] w _ from(Zd.of_below n1.below)).trans (Zd.of_below (Za W1))).trans (Zd.of_below (Za W1.drew))).trans (Zd.of_below n4.below)).trans (Zd.of_grown d1 b6 (by decide))).trans (Zd.of_upd u6 a8 (by decide))).trans (Zd.of_below (Za W6))).trans (Zd.of_below (Za W6.drew))).trans (Zl c5 e3)).trans (Zd.of_below (Za k5))).trans (Zd.of_below d6)
   refine xe (.r [7,8,9,10,11] 11) .nilIface ?_
   have e9:=Zx (l:=l) (n:=n) (d:=d) (fr:=fr) (ak:=ak) (to:=to) (out:=out) (by omega) ht
   have a5:ak=7:=by omega
   subst a5
   rw[Qs ((Uk l to).trans d0),Tf,Ga] at e9
   exact Um e9 rfl n0 hO ad z4 cj hM (Nat.le_trans a0 n0.size) a9 a3 dt (Yl a4 u1 e8)
  refine xb 7 1 j0 ?_
  refine xb 1 2 j0 ?_
  have r0:=((((((((hI.below n1.below).below (Za W1)).below (Za W1.drew)).below n4.below).only (Zd.of_grown (T:=[81]) d1 b6 (by decide)) (by decide)).only (Zd.of_upd (T:=[141]) u6 a8 (by decide)) (by decide)).below (Za W6)).below (Za W6.drew)).only (Zl (T:=[]) c5 e3) (by decide)
  have aq:=Xf m4 c5 e3
  have cz:=Qe (Zb (Zb (u6.own2 o5 a8 (by decide)) (Za W6)) (Za W6.drew)) c5 e3
  have hM:=(Yd (x:=(fr,to,ak,0)) b2 dk)
  have j5:=e3.below (blB (blB (u6.below (hB.trans l1) a9) a0 (Za W6)) a0 (Za W6.drew)) a3
  have de:=Xf (((u6.blkT (f8.grown3 d1 a4) a8 (by decide)).below (Za W6)).below (Za W6.drew)) c5 e3
  have i0:=Vg (x:=(fr,to,ak,0)) (n:=n) (out:=out) ⟨hto,(show to<(n:Int) from by omega)⟩ ht
  have j3:Qg n (out++[(fr,to,ak,0)])≤999999999000:=by unfold Qg at hph ⊢;rw[List.length_append,List.length_singleton];omega
  refine xc 0 (args:=#[P0 bx,V0 to,V0 ak]) (Gp B Bi b bx rm kb K pi ni ci l n d hA _ _ (out++[(fr,to,ak,0)]) to ak _ ⟨r0,aq,cz,hM,(Nat.le_trans a0 j5.size),a9,a3,de,(Yl a4 u1 e8)⟩ (by omega) (by omega) h1 (by omega)) ?_
  rintro e fj bg
  rcases bg with ⟨a6,e6,vr,rfl,t6,m2,c9⟩|⟨a6,i3,h8,rfl,t6,m2,⟨_,c6,c8,hM,_,_,_,c7,a4⟩⟩
  ·have o2:=j5.trans t6
   have hO:=(((((((((show Zd [141,81] w _ from(Zd.of_below n1.below)).trans (Zd.of_below (Za W1))).trans (Zd.of_below (Za W1.drew))).trans (Zd.of_below n4.below)).trans (Zd.of_grown d1 b6 (by decide))).trans (Zd.of_upd u6 a8 (by decide))).trans (Zd.of_below (Za W6))).trans (Zd.of_below (Za W6.drew))).trans (Zl c5 e3)).trans m2
   refine xe 4 (.iface e6 (vr)) ?_
   have e9:=Zx (l:=l) (n:=n) (d:=d) (fr:=fr) (ak:=ak) (to:=to) (out:=out) (by omega) ht
   first|(have a5:ak=6:=(by omega);subst a5;exact .inl ⟨by rw[e9];exact a6,_,_,rfl,o2,hO,by rw[e9];exact c9⟩)|exact .inl ⟨by rw[e9];exact a6,_,_,rfl,o2,hO,by rw[e9];exact c9⟩
  have r1:=r0.only m2 (by decide)
  have h4:=j5.trans t6
  have hO:=(((((((((show Zd [141,81] w _ from(Zd.of_below n1.below)).trans (Zd.of_below (Za W1))).trans (Zd.of_below (Za W1.drew))).trans (Zd.of_below n4.below)).trans (Zd.of_grown d1 b6 (by decide))).trans (Zd.of_upd u6 a8 (by decide))).trans (Zd.of_below (Za W6))).trans (Zd.of_below (Za W6.drew))).trans (Zl c5 e3)).trans m2
  refine xe 4 .nilIface ?_
  have e9:=Zx (l:=l) (n:=n) (d:=d) (fr:=fr) (ak:=ak) (to:=to) (out:=out) (by omega) ht
  first|(have a5:ak=6:=(by omega);subst a5;exact .inr ⟨by rw[e9];exact a6,_,_,rfl,h4,hO,by rw[e9];exact⟨r1,c6,c8,hM,(Nat.le_trans a0 h4.size),a9,a3,c7,a4⟩⟩)|exact .inr ⟨by rw[e9];exact a6,_,_,rfl,h4,hO,by rw[e9];exact⟨r1,c6,c8,hM,(Nat.le_trans a0 h4.size),a9,a3,c7,a4⟩⟩
 have j9:=k1.below (Za W1.drew)
 refine xlv 0 j9.rp ?_
 refine xm2 0 4 6 ?_ ?_
 ·have w1:=l9.below (Za W1.drew)
  refine xb 0 3 w1 ?_
  refine xbs (.o [] 6) 1 [V0 fr,V0 to,V0 ak] 81 fun en fa d2=>?_
  have av:=((kk.below n1.below).below (Za W1)).below (Za W1.drew)
  have ct:=d2.ne av
  have br:=d2.ne j9
  have ac:=Zb (Zb (Zb ho n1.below) (Za W1)) (Za W1.drew)
  have dh:=Zr ac d2
  have e7:=av.below d2.below
  have e8:=(e7).lt
  have b8:=Zb ac d2.below
  have hB:=blB (blB (blB (blB (Below.refl B w) a0 n1.below) a0 (Za W1)) a0 (Za W1.drew)) a0 d2.below
  refine ybi (.o [] 7) (.t B [81,141]) fun _ _ _ _ zJ zQ zo zx zy zK=>Vn (b:=en) (c:=1) (m:=1) (news:=[V0 fr,V0 to,V0 ak]) (.agg #[V0 0,V0 0,V0 0]) 3 24 ((out++[(fr,to,ak,0)]).length) (((out++[(fr,to,ak,0)]).flatMap lkC)) zo Tryz.underlying48 (by kernel_rfl) rfl (by decide) zx b8 zy d2.blk rfl (by simp[Value.oneCell']) (by unfold maxLen;unfold Qg at hph;omega) (by unfold Qg at hph;omega) (Nat.le_trans a0 hB.size) (by simp) (by rw[List.flatMap_append];rfl) fun dj cf ex t9 b5 f1 h5=>?_
  refine zK _ _ (Xa f1 b5 b8 (by decide)) ?_
  have b0:=(w1.below d2.below).grown b5 b8 (by decide)
  refine ys (.o [8,9] 10) b0 [P0 b,V0 (n:Int),.map (some rm),.slice dj ((out++[(fr,to,ak,0)]).length) cf] (.t B [81,141]) fun a2 c2 ep=>⟨(Zt c2 b0 a9 (by decide)),?_⟩
  refine xd 4 .z ?_
  have i2:=ep.below (Za a2)
  refine xb (.e [0,1,2] 3) 2 i2 ?_
  have j2:=(c2.blkT ((j9.below d2.below).grown3 b5 j7) b0 (by decide)).below (Za a2)
  refine xb (.e [4] 5) 1 j2 ?_
  have s9:=((((((hM.below n1.below).below (Za W1)).below (Za W1.drew)).below d2.below).grown b5 b8).updBlk c2 b0).below (Za a2)
  obtain⟨kv,hm,v1⟩:=id (s9)
  refine xlkN (.o [] 6) (z:=.bool false) to false Tryz.underlying139 (keyI Tryz.underlying3) (fun V=>by kernel_rfl) hm (by rw[v1,ht];rfl) ?_
  refine xd 6 (.t B [141,81]) ?_
  refine xm2 (.b [0,1,2,4]) 3 5 ?_ ?_
  ·have g0:=i2.below (Za a2.drew)
   refine xb 0 2 g0 ?_
   have r2:=j2.below (Za a2.drew)
   refine xb (.o [] 5) 1 r2 ?_
   have bo:=s9.below (Za a2.drew)
   obtain⟨y0,f6,b2⟩:=id (bo)
   have c4:=Gx.obj f6
   refine ymuV (.o [] 6) to (.bool true) (.t B [141,81]) Tryz.underlying139 (keyI Tryz.underlying3) f6 (by rw[b2,ht];rfl) fun k2 e0 cv=>⟨Bk c4 e0 a3,?_⟩
   have f4:=Xf r2 c4 e0
   refine xb 6 2 f4 ?_
   refine xie 9 ak (6:Int) (fun bb=>?_) (fun bb=>?_)
   ·refine xb 4 1 f4 ?_
    have m9:=((((((((hI.below n1.below).below (Za W1)).below (Za W1.drew)).below d2.below).only (Zd.of_grown (T:=[81]) b5 b8 (by decide)) (by decide)).only (Zd.of_upd (T:=[141]) c2 b0 (by decide)) (by decide)).below (Za a2)).below (Za a2.drew)).only (Zl (T:=[]) c4 e0) (by decide)
    have u3:=Xf g0 c4 e0
    have z5:=Qe (Zb (Zb (c2.own2 t9 b0 (by decide)) (Za a2)) (Za a2.drew)) c4 e0
    have hM:=(Yd (x:=(fr,to,ak,0)) b2 cv)
    have i6:=e0.below (blB (blB (c2.below (hB.trans f1) a9) a0 (Za a2)) a0 (Za a2.drew)) a3
    have w7:=Xf (((c2.blkT (e7.grown3 b5 a4) b0 (by decide)).below (Za a2)).below (Za a2.drew)) c4 e0
    have i0:=Vg (x:=(fr,to,ak,0)) (n:=n) (out:=out) ⟨hto,(show to<(n:Int) from by omega)⟩ ht
    have j3:Qg n (out++[(fr,to,ak,0)])≤999999999000:=by unfold Qg at hph ⊢;rw[List.length_append,List.length_singleton];omega
    refine xc 0 (args:=#[P0 bx,V0 to]) (Ji B Bi b bx rm kb K pi ni ci l n d hA _ _ (out++[(fr,to,ak,0)]) to _ ⟨m9,u3,z5,hM,(Nat.le_trans a0 i6.size),a9,a3,w7,(Yl a4 h5 e8)⟩ (by omega) (by omega)) ?_
    rintro e fk cq
    rcases cq with ⟨a6,e6,vr,rfl,s3,m1,c9⟩|⟨a6,i3,h8,rfl,s3,m1,⟨_,c6,c8,hM,_,_,_,c7,a4⟩⟩
    ·have m6:=i6.trans s3
     have hO:=(((((((((show Zd [141,81] w _ from(Zd.of_below n1.below)).trans (Zd.of_below (Za W1))).trans (Zd.of_below (Za W1.drew))).trans (Zd.of_below d2.below)).trans (Zd.of_grown b5 b8 (by decide))).trans (Zd.of_upd c2 b0 (by decide))).trans (Zd.of_below (Za a2))).trans (Zd.of_below (Za a2.drew))).trans (Zl c4 e0)).trans m1
     refine xe 6 (.iface e6 (vr)) ?_
     have e9:=Zx (l:=l) (n:=n) (d:=d) (fr:=fr) (ak:=ak) (to:=to) (out:=out) (by omega) ht
     first|(have a5:ak=6:=(by omega);subst a5;exact .inl ⟨by rw[e9];exact a6,_,_,rfl,m6,hO,by rw[e9];exact c9⟩)|exact .inl ⟨by rw[e9];exact a6,_,_,rfl,m6,hO,by rw[e9];exact c9⟩
    have p0:=m9.only m1 (by decide)
    have h0:=i6.trans s3
    have hO:=(((((((((show Zd [141,81] w _ from(Zd.of_below n1.below)).trans (Zd.of_below (Za W1))).trans (Zd.of_below (Za W1.drew))).trans (Zd.of_below d2.below)).trans (Zd.of_grown b5 b8 (by decide))).trans (Zd.of_upd c2 b0 (by decide))).trans (Zd.of_below (Za a2))).trans (Zd.of_below (Za a2.drew))).trans (Zl c4 e0)).trans m1
    refine xe 6 .nilIface ?_
    have e9:=Zx (l:=l) (n:=n) (d:=d) (fr:=fr) (ak:=ak) (to:=to) (out:=out) (by omega) ht
    first|(have a5:ak=6:=(by omega);subst a5;exact .inr ⟨by rw[e9];exact a6,_,_,rfl,h0,hO,by rw[e9];exact⟨p0,c6,c8,hM,(Nat.le_trans a0 h0.size),a9,a3,c7,a4⟩⟩)|exact .inr ⟨by rw[e9];exact a6,_,_,rfl,h0,hO,by rw[e9];exact⟨p0,c6,c8,hM,(Nat.le_trans a0 h0.size),a9,a3,c7,a4⟩⟩
   refine xie 6 ak (7:Int) (fun bf=>?_) (fun bf=>?_)
   ·refine xd 1 .z ?_
    have r3:=(Xf g0 c4 e0).below (Za k2)
    refine xb (.e [0,1,2] 3) 0 r3 ?_
    have z2:=f4.below (Za k2)
    refine xb (.e [4] 5) 1 z2 ?_
    have p6:=(((((((((hI.below n1.below).below (Za W1)).below (Za W1.drew)).below d2.below).only (Zd.of_grown (T:=[81]) b5 b8 (by decide)) (by decide)).only (Zd.of_upd (T:=[141]) c2 b0 (by decide)) (by decide)).below (Za a2)).below (Za a2.drew)).only (Zl (T:=[]) c4 e0) (by decide)).below (Za k2)
    refine yc (.o [] 6) (args:=#[P0 b,V0 to]) .z (Kb Bi b pi ni ci l to _ p6) ?_
    rintro e ff bq
    rcases bq with ⟨d0,j8,vx,rfl,d4,i7⟩|⟨d0,pl,cl,rfl,d4,hs⟩
    ·refine⟨d4,?_⟩
     have v8:=blB (blB (e0.below (blB (blB (c2.below (hB.trans f1) a9) a0 (Za a2)) a0 (Za a2.drew)) a3) a0 (Za k2)) a0 d4
     have hO:=((((((((((show Zd [141,81] w _ from(Zd.of_below n1.below)).trans (Zd.of_below (Za W1))).trans (Zd.of_below (Za W1.drew))).trans (Zd.of_below d2.below)).trans (Zd.of_grown b5 b8 (by decide))).trans (Zd.of_upd c2 b0 (by decide))).trans (Zd.of_below (Za a2))).trans (Zd.of_below (Za a2.drew))).trans (Zl c4 e0)).trans (Zd.of_below (Za k2))).trans (Zd.of_below d4)
     refine xe (.r [7,8,9,10,11] 11) (.iface j8 (vx)) ?_
     have e9:=Zx (l:=l) (n:=n) (d:=d) (fr:=fr) (ak:=ak) (to:=to) (out:=out) (by omega) ht
     have a5:ak=7:=by omega
     subst a5
     rw[Ki (Uk l to) d0] at e9
     exact Hb e9 d0 v8 hO i7
    refine⟨d4,?_⟩
    have aa:=p6.below d4
    have v4:=r3.below d4
    have aj:=Zb (Zb (Qe (Zb (Zb (c2.own2 t9 b0 (by decide)) (Za a2)) (Za a2.drew)) c4 e0) (Za k2)) d4
    have hM:=((Yd (x:=(fr,to,ak,0)) b2 cv).below (Za k2)).below d4
    have q0:=blB (blB (e0.below (blB (blB (c2.below (hB.trans f1) a9) a0 (Za a2)) a0 (Za a2.drew)) a3) a0 (Za k2)) a0 d4
    have w3:=((Xf (((c2.blkT (e7.grown3 b5 a4) b0 (by decide)).below (Za a2)).below (Za a2.drew)) c4 e0).below (Za k2)).below d4
    have hO:=((((((((((show Zd [141,81] w _ from(Zd.of_below n1.below)).trans (Zd.of_below (Za W1))).trans (Zd.of_below (Za W1.drew))).trans (Zd.of_below d2.below)).trans (Zd.of_grown b5 b8 (by decide))).trans (Zd.of_upd c2 b0 (by decide))).trans (Zd.of_below (Za a2))).trans (Zd.of_below (Za a2.drew))).trans (Zl c4 e0)).trans (Zd.of_below (Za k2))).trans (Zd.of_below d4)
    refine xe (.r [7,8,9,10,11] 11) .nilIface ?_
    have e9:=Zx (l:=l) (n:=n) (d:=d) (fr:=fr) (ak:=ak) (to:=to) (out:=out) (by omega) ht
    have a5:ak=7:=by omega
    subst a5
    rw[Qs ((Uk l to).trans d0),Tf,Ga] at e9
    exact Um e9 rfl q0 hO aa v4 aj hM (Nat.le_trans a0 q0.size) a9 a3 w3 (Yl a4 h5 e8)
   refine xb 7 1 f4 ?_
   refine xb 1 2 f4 ?_
   have n6:=((((((((hI.below n1.below).below (Za W1)).below (Za W1.drew)).below d2.below).only (Zd.of_grown (T:=[81]) b5 b8 (by decide)) (by decide)).only (Zd.of_upd (T:=[141]) c2 b0 (by decide)) (by decide)).below (Za a2)).below (Za a2.drew)).only (Zl (T:=[]) c4 e0) (by decide)
   have x8:=Xf g0 c4 e0
   have x4:=Qe (Zb (Zb (c2.own2 t9 b0 (by decide)) (Za a2)) (Za a2.drew)) c4 e0
   have hM:=(Yd (x:=(fr,to,ak,0)) b2 cv)
   have i1:=e0.below (blB (blB (c2.below (hB.trans f1) a9) a0 (Za a2)) a0 (Za a2.drew)) a3
   have x5:=Xf (((c2.blkT (e7.grown3 b5 a4) b0 (by decide)).below (Za a2)).below (Za a2.drew)) c4 e0
   have i0:=Vg (x:=(fr,to,ak,0)) (n:=n) (out:=out) ⟨hto,(show to<(n:Int) from by omega)⟩ ht
   have j3:Qg n (out++[(fr,to,ak,0)])≤999999999000:=by unfold Qg at hph ⊢;rw[List.length_append,List.length_singleton];omega
   refine xc 0 (args:=#[P0 bx,V0 to,V0 ak]) (Gp B Bi b bx rm kb K pi ni ci l n d hA _ _ (out++[(fr,to,ak,0)]) to ak _ ⟨n6,x8,x4,hM,(Nat.le_trans a0 i1.size),a9,a3,x5,(Yl a4 h5 e8)⟩ (by omega) (by omega) h1 (by omega)) ?_
   rintro e ev cp
   rcases cp with ⟨a6,e6,vr,rfl,r7,l6,c9⟩|⟨a6,i3,h8,rfl,r7,l6,⟨_,c6,c8,hM,_,_,_,c7,a4⟩⟩
   ·have p8:=i1.trans r7
    have hO:=(((((((((show Zd [141,81] w _ from(Zd.of_below n1.below)).trans (Zd.of_below (Za W1))).trans (Zd.of_below (Za W1.drew))).trans (Zd.of_below d2.below)).trans (Zd.of_grown b5 b8 (by decide))).trans (Zd.of_upd c2 b0 (by decide))).trans (Zd.of_below (Za a2))).trans (Zd.of_below (Za a2.drew))).trans (Zl c4 e0)).trans l6
    refine xe 4 (.iface e6 (vr)) ?_
    have e9:=Zx (l:=l) (n:=n) (d:=d) (fr:=fr) (ak:=ak) (to:=to) (out:=out) (by omega) ht
    first|(have a5:ak=6:=(by omega);subst a5;exact .inl ⟨by rw[e9];exact a6,_,_,rfl,p8,hO,by rw[e9];exact c9⟩)|exact .inl ⟨by rw[e9];exact a6,_,_,rfl,p8,hO,by rw[e9];exact c9⟩
   have p7:=n6.only l6 (by decide)
   have g8:=i1.trans r7
   have hO:=(((((((((show Zd [141,81] w _ from(Zd.of_below n1.below)).trans (Zd.of_below (Za W1))).trans (Zd.of_below (Za W1.drew))).trans (Zd.of_below d2.below)).trans (Zd.of_grown b5 b8 (by decide))).trans (Zd.of_upd c2 b0 (by decide))).trans (Zd.of_below (Za a2))).trans (Zd.of_below (Za a2.drew))).trans (Zl c4 e0)).trans l6
   refine xe 4 .nilIface ?_
   have e9:=Zx (l:=l) (n:=n) (d:=d) (fr:=fr) (ak:=ak) (to:=to) (out:=out) (by omega) ht
   first|(have a5:ak=6:=(by omega);subst a5;exact .inr ⟨by rw[e9];exact a6,_,_,rfl,g8,hO,by rw[e9];exact⟨p7,c6,c8,hM,(Nat.le_trans a0 g8.size),a9,a3,c7,a4⟩⟩)|exact .inr ⟨by rw[e9];exact a6,_,_,rfl,g8,hO,by rw[e9];exact⟨p7,c6,c8,hM,(Nat.le_trans a0 g8.size),a9,a3,c7,a4⟩⟩
  have r4:=j2.below (Za a2.drew)
  refine xb 0 1 r4 ?_
  have g6:=i2.below (Za a2.drew)
  refine xb (.o [] 3) 2 g6 ?_
  have cm:=s9.below (Za a2.drew)
  obtain⟨y0,f6,b2⟩:=id (cm)
  have b9:=Gx.obj f6
  refine ymuV (.o [] 6) to (.bool true) (.t B [141,81]) Tryz.underlying139 (keyI Tryz.underlying3) f6 (by rw[b2,ht];rfl) fun k7 e4 dd=>⟨Bk b9 e4 a3,?_⟩
  have f5:=Xf r4 b9 e4
  refine xb 6 2 f5 ?_
  refine xie 9 ak (6:Int) (fun bz=>?_) (fun bz=>?_)
  ·refine xb 4 1 f5 ?_
   have n5:=((((((((hI.below n1.below).below (Za W1)).below (Za W1.drew)).below d2.below).only (Zd.of_grown (T:=[81]) b5 b8 (by decide)) (by decide)).only (Zd.of_upd (T:=[141]) c2 b0 (by decide)) (by decide)).below (Za a2)).below (Za a2.drew)).only (Zl (T:=[]) b9 e4) (by decide)
   have z3:=Xf g6 b9 e4
   have ag:=Qe (Zb (Zb (c2.own2 t9 b0 (by decide)) (Za a2)) (Za a2.drew)) b9 e4
   have hM:=(Yd (x:=(fr,to,ak,0)) b2 dd)
   have j1:=e4.below (blB (blB (c2.below (hB.trans f1) a9) a0 (Za a2)) a0 (Za a2.drew)) a3
   have v7:=Xf (((c2.blkT (e7.grown3 b5 a4) b0 (by decide)).below (Za a2)).below (Za a2.drew)) b9 e4
   have i0:=Vg (x:=(fr,to,ak,0)) (n:=n) (out:=out) ⟨hto,(show to<(n:Int) from by omega)⟩ ht
   have j3:Qg n (out++[(fr,to,ak,0)])≤999999999000:=by unfold Qg at hph ⊢;rw[List.length_append,List.length_singleton];omega
   refine xc 0 (args:=#[P0 bx,V0 to]) (Ji B Bi b bx rm kb K pi ni ci l n d hA _ _ (out++[(fr,to,ak,0)]) to _ ⟨n5,z3,ag,hM,(Nat.le_trans a0 j1.size),a9,a3,v7,(Yl a4 h5 e8)⟩ (by omega) (by omega)) ?_
   rintro e fc ds
   rcases ds with ⟨a6,e6,vr,rfl,t0,l8,c9⟩|⟨a6,i3,h8,rfl,t0,l8,⟨_,c6,c8,hM,_,_,_,c7,a4⟩⟩
   ·have o0:=j1.trans t0
    have hO:=(((((((((show Zd [141,81] w _ from(Zd.of_below n1.below)).trans (Zd.of_below (Za W1))).trans (Zd.of_below (Za W1.drew))).trans (Zd.of_below d2.below)).trans (Zd.of_grown b5 b8 (by decide))).trans (Zd.of_upd c2 b0 (by decide))).trans (Zd.of_below (Za a2))).trans (Zd.of_below (Za a2.drew))).trans (Zl b9 e4)).trans l8
    refine xe 6 (.iface e6 (vr)) ?_
    have e9:=Zx (l:=l) (n:=n) (d:=d) (fr:=fr) (ak:=ak) (to:=to) (out:=out) (by omega) ht
    first|(have a5:ak=6:=(by omega);subst a5;exact .inl ⟨by rw[e9];exact a6,_,_,rfl,o0,hO,by rw[e9];exact c9⟩)|exact .inl ⟨by rw[e9];exact a6,_,_,rfl,o0,hO,by rw[e9];exact c9⟩
   have o1:=n5.only l8 (by decide)
   have g3:=j1.trans t0
   have hO:=(((((((((show Zd [141,81] w _ from(Zd.of_below n1.below)).trans (Zd.of_below (Za W1))).trans (Zd.of_below (Za W1.drew))).trans (Zd.of_below d2.below)).trans (Zd.of_grown b5 b8 (by decide))).trans (Zd.of_upd c2 b0 (by decide))).trans (Zd.of_below (Za a2))).trans (Zd.of_below (Za a2.drew))).trans (Zl b9 e4)).trans l8
   refine xe 6 .nilIface ?_
   have e9:=Zx (l:=l) (n:=n) (d:=d) (fr:=fr) (ak:=ak) (to:=to) (out:=out) (by omega) ht
   first|(have a5:ak=6:=(by omega);subst a5;exact .inr ⟨by rw[e9];exact a6,_,_,rfl,g3,hO,by rw[e9];exact⟨o1,c6,c8,hM,(Nat.le_trans a0 g3.size),a9,a3,c7,a4⟩⟩)|exact .inr ⟨by rw[e9];exact a6,_,_,rfl,g3,hO,by rw[e9];exact⟨o1,c6,c8,hM,(Nat.le_trans a0 g3.size),a9,a3,c7,a4⟩⟩
  refine xie 6 ak (7:Int) (fun bn=>?_) (fun bn=>?_)
  ·refine xd 1 .z ?_
   have q3:=(Xf g6 b9 e4).below (Za k7)
   refine xb (.e [0,1,2] 3) 0 q3 ?_
   have u2:=f5.below (Za k7)
   refine xb (.e [4] 5) 1 u2 ?_
   have p4:=(((((((((hI.below n1.below).below (Za W1)).below (Za W1.drew)).below d2.below).only (Zd.of_grown (T:=[81]) b5 b8 (by decide)) (by decide)).only (Zd.of_upd (T:=[141]) c2 b0 (by decide)) (by decide)).below (Za a2)).below (Za a2.drew)).only (Zl (T:=[]) b9 e4) (by decide)).below (Za k7)
   refine yc (.o [] 6) (args:=#[P0 b,V0 to]) .z (Kb Bi b pi ni ci l to _ p4) ?_
   rintro e eu di
   rcases di with ⟨d0,j8,vx,rfl,d8,i7⟩|⟨d0,pl,cl,rfl,d8,hs⟩
   ·refine⟨d8,?_⟩
    have w6:=blB (blB (e4.below (blB (blB (c2.below (hB.trans f1) a9) a0 (Za a2)) a0 (Za a2.drew)) a3) a0 (Za k7)) a0 d8
    have hO:=((((((((((show Zd [141,81] w _ from(Zd.of_below n1.below)).trans (Zd.of_below (Za W1))).trans (Zd.of_below (Za W1.drew))).trans (Zd.of_below d2.below)).trans (Zd.of_grown b5 b8 (by decide))).trans (Zd.of_upd c2 b0 (by decide))).trans (Zd.of_below (Za a2))).trans (Zd.of_below (Za a2.drew))).trans (Zl b9 e4)).trans (Zd.of_below (Za k7))).trans (Zd.of_below d8)
    refine xe (.r [7,8,9,10,11] 11) (.iface j8 (vx)) ?_
    have e9:=Zx (l:=l) (n:=n) (d:=d) (fr:=fr) (ak:=ak) (to:=to) (out:=out) (by omega) ht
    have a5:ak=7:=by omega
    subst a5
    rw[Ki (Uk l to) d0] at e9
    exact Hb e9 d0 w6 hO i7
   refine⟨d8,?_⟩
   have v6:=p4.below d8
   have r6:=q3.below d8
   have x7:=Zb (Zb (Qe (Zb (Zb (c2.own2 t9 b0 (by decide)) (Za a2)) (Za a2.drew)) b9 e4) (Za k7)) d8
   have hM:=((Yd (x:=(fr,to,ak,0)) b2 dd).below (Za k7)).below d8
   have p3:=blB (blB (e4.below (blB (blB (c2.below (hB.trans f1) a9) a0 (Za a2)) a0 (Za a2.drew)) a3) a0 (Za k7)) a0 d8
   have x6:=((Xf (((c2.blkT (e7.grown3 b5 a4) b0 (by decide)).below (Za a2)).below (Za a2.drew)) b9 e4).below (Za k7)).below d8
   have hO:=((((((((((show Zd [141,81] w _ from(Zd.of_below n1.below)).trans (Zd.of_below (Za W1))).trans (Zd.of_below (Za W1.drew))).trans (Zd.of_below d2.below)).trans (Zd.of_grown b5 b8 (by decide))).trans (Zd.of_upd c2 b0 (by decide))).trans (Zd.of_below (Za a2))).trans (Zd.of_below (Za a2.drew))).trans (Zl b9 e4)).trans (Zd.of_below (Za k7))).trans (Zd.of_below d8)
   refine xe (.r [7,8,9,10,11] 11) .nilIface ?_
   have e9:=Zx (l:=l) (n:=n) (d:=d) (fr:=fr) (ak:=ak) (to:=to) (out:=out) (by omega) ht
   have a5:ak=7:=by omega
   subst a5
   rw[Qs ((Uk l to).trans d0),Tf,Ga] at e9
   exact Um e9 rfl p3 hO v6 r6 x7 hM (Nat.le_trans a0 p3.size) a9 a3 x6 (Yl a4 h5 e8)
  refine xb 7 1 f5 ?_
  refine xb 1 2 f5 ?_
  have p2:=((((((((hI.below n1.below).below (Za W1)).below (Za W1.drew)).below d2.below).only (Zd.of_grown (T:=[81]) b5 b8 (by decide)) (by decide)).only (Zd.of_upd (T:=[141]) c2 b0 (by decide)) (by decide)).below (Za a2)).below (Za a2.drew)).only (Zl (T:=[]) b9 e4) (by decide)
  have s1:=Xf g6 b9 e4
  have w2:=Qe (Zb (Zb (c2.own2 t9 b0 (by decide)) (Za a2)) (Za a2.drew)) b9 e4
  have hM:=(Yd (x:=(fr,to,ak,0)) b2 dd)
  have i5:=e4.below (blB (blB (c2.below (hB.trans f1) a9) a0 (Za a2)) a0 (Za a2.drew)) a3
  have au:=Xf (((c2.blkT (e7.grown3 b5 a4) b0 (by decide)).below (Za a2)).below (Za a2.drew)) b9 e4
  have i0:=Vg (x:=(fr,to,ak,0)) (n:=n) (out:=out) ⟨hto,(show to<(n:Int) from by omega)⟩ ht
  have j3:Qg n (out++[(fr,to,ak,0)])≤999999999000:=by unfold Qg at hph ⊢;rw[List.length_append,List.length_singleton];omega
  refine xc 0 (args:=#[P0 bx,V0 to,V0 ak]) (Gp B Bi b bx rm kb K pi ni ci l n d hA _ _ (out++[(fr,to,ak,0)]) to ak _ ⟨p2,s1,w2,hM,(Nat.le_trans a0 i5.size),a9,a3,au,(Yl a4 h5 e8)⟩ (by omega) (by omega) h1 (by omega)) ?_
  rintro e ez bc
  rcases bc with ⟨a6,e6,vr,rfl,s0,k8,c9⟩|⟨a6,i3,h8,rfl,s0,k8,⟨_,c6,c8,hM,_,_,_,c7,a4⟩⟩
  ·have n8:=i5.trans s0
   have hO:=(((((((((show Zd [141,81] w _ from(Zd.of_below n1.below)).trans (Zd.of_below (Za W1))).trans (Zd.of_below (Za W1.drew))).trans (Zd.of_below d2.below)).trans (Zd.of_grown b5 b8 (by decide))).trans (Zd.of_upd c2 b0 (by decide))).trans (Zd.of_below (Za a2))).trans (Zd.of_below (Za a2.drew))).trans (Zl b9 e4)).trans k8
   refine xe 4 (.iface e6 (vr)) ?_
   have e9:=Zx (l:=l) (n:=n) (d:=d) (fr:=fr) (ak:=ak) (to:=to) (out:=out) (by omega) ht
   first|(have a5:ak=6:=(by omega);subst a5;exact .inl ⟨by rw[e9];exact a6,_,_,rfl,n8,hO,by rw[e9];exact c9⟩)|exact .inl ⟨by rw[e9];exact a6,_,_,rfl,n8,hO,by rw[e9];exact c9⟩
  have q2:=p2.only k8 (by decide)
  have g5:=i5.trans s0
  have hO:=(((((((((show Zd [141,81] w _ from(Zd.of_below n1.below)).trans (Zd.of_below (Za W1))).trans (Zd.of_below (Za W1.drew))).trans (Zd.of_below d2.below)).trans (Zd.of_grown b5 b8 (by decide))).trans (Zd.of_upd c2 b0 (by decide))).trans (Zd.of_below (Za a2))).trans (Zd.of_below (Za a2.drew))).trans (Zl b9 e4)).trans k8
  refine xe 4 .nilIface ?_
  have e9:=Zx (l:=l) (n:=n) (d:=d) (fr:=fr) (ak:=ak) (to:=to) (out:=out) (by omega) ht
  first|(have a5:ak=6:=(by omega);subst a5;exact .inr ⟨by rw[e9];exact a6,_,_,rfl,g5,hO,by rw[e9];exact⟨q2,c6,c8,hM,(Nat.le_trans a0 g5.size),a9,a3,c7,a4⟩⟩)|exact .inr ⟨by rw[e9];exact a6,_,_,rfl,g5,hO,by rw[e9];exact⟨q2,c6,c8,hM,(Nat.le_trans a0 g5.size),a9,a3,c7,a4⟩⟩
 refine xbs 0 1 [V0 fr,V0 to,V0 ak] 81 fun el es d3=>?_
 have o9:=((kk.below n1.below).below (Za W1)).below (Za W1.drew)
 have cs:=d3.ne o9
 have bl:=d3.ne j9
 have z7:=Zb (Zb (Zb ho n1.below) (Za W1)) (Za W1.drew)
 have ce:=Zr z7 d3
 have al:=(l9.below (Za W1.drew)).below d3.below
 refine xb (.o [] 4) 3 al ?_
 have e5:=o9.below d3.below
 have e8:=(e5).lt
 have b7:=Zb z7 d3.below
 have hB:=blB (blB (blB (blB (Below.refl B w) a0 n1.below) a0 (Za W1)) a0 (Za W1.drew)) a0 d3.below
 refine ybi (.o [] 7) (.t B [81,141]) fun _ _ _ _ zJ zQ zo zx zy zK=>Vn (b:=el) (c:=1) (m:=1) (news:=[V0 fr,V0 to,V0 ak]) (.agg #[V0 0,V0 0,V0 0]) 3 24 ((out++[(fr,to,ak,0)]).length) (((out++[(fr,to,ak,0)]).flatMap lkC)) zo Tryz.underlying48 (by kernel_rfl) rfl (by decide) zx b7 zy d3.blk rfl (by simp[Value.oneCell']) (by unfold maxLen;unfold Qg at hph;omega) (by unfold Qg at hph;omega) (Nat.le_trans a0 hB.size) (by simp) (by rw[List.flatMap_append];rfl) fun bm bt fi u0 b3 f2 h6=>?_
 refine zK _ _ (Xa f2 b3 b7 (by decide)) ?_
 have a7:=al.grown b3 b7 (by decide)
 refine ys (.o [8,9] 10) a7 [P0 b,V0 (n:Int),.map (some rm),.slice bm ((out++[(fr,to,ak,0)]).length) bt] (.t B [81,141]) fun a1 c0 ej=>⟨(Zt c0 a7 a9 (by decide)),?_⟩
 refine xd 4 .z ?_
 have j4:=ej.below (Za a1)
 refine xb (.e [0,1,2] 3) 2 j4 ?_
 have j6:=(c0.blkT ((j9.below d3.below).grown3 b3 j7) a7 (by decide)).below (Za a1)
 refine xb (.e [4] 5) 1 j6 ?_
 have t1:=((((((hM.below n1.below).below (Za W1)).below (Za W1.drew)).below d3.below).grown b3 b7).updBlk c0 a7).below (Za a1)
 obtain⟨kv,hm,v1⟩:=id (t1)
 refine xlkN (.o [] 6) (z:=.bool false) to false Tryz.underlying139 (keyI Tryz.underlying3) (fun V=>by kernel_rfl) hm (by rw[v1,ht];rfl) ?_
 refine xd 6 (.t B [141,81]) ?_
 refine xm2 (.b [0,1,2,4]) 3 5 ?_ ?_
 ·have g9:=j4.below (Za a1.drew)
  refine xb 0 2 g9 ?_
  have q9:=j6.below (Za a1.drew)
  refine xb (.o [] 5) 1 q9 ?_
  have cy:=t1.below (Za a1.drew)
  obtain⟨y0,f6,b2⟩:=id (cy)
  have c1:=Gx.obj f6
  refine ymuV (.o [] 6) to (.bool true) (.t B [141,81]) Tryz.underlying139 (keyI Tryz.underlying3) f6 (by rw[b2,ht];rfl) fun k4 e2 bk=>⟨Bk c1 e2 a3,?_⟩
  have f7:=Xf q9 c1 e2
  refine xb 6 2 f7 ?_
  refine xie 9 ak (6:Int) (fun cn=>?_) (fun cn=>?_)
  ·refine xb 4 1 f7 ?_
   have q5:=((((((((hI.below n1.below).below (Za W1)).below (Za W1.drew)).below d3.below).only (Zd.of_grown (T:=[81]) b3 b7 (by decide)) (by decide)).only (Zd.of_upd (T:=[141]) c0 a7 (by decide)) (by decide)).below (Za a1)).below (Za a1.drew)).only (Zl (T:=[]) c1 e2) (by decide)
   have ar:=Xf g9 c1 e2
   have ah:=Qe (Zb (Zb (c0.own2 u0 a7 (by decide)) (Za a1)) (Za a1.drew)) c1 e2
   have hM:=(Yd (x:=(fr,to,ak,0)) b2 bk)
   have i4:=e2.below (blB (blB (c0.below (hB.trans f2) a9) a0 (Za a1)) a0 (Za a1.drew)) a3
   have u9:=Xf (((c0.blkT (e5.grown3 b3 a4) a7 (by decide)).below (Za a1)).below (Za a1.drew)) c1 e2
   have i0:=Vg (x:=(fr,to,ak,0)) (n:=n) (out:=out) ⟨hto,(show to<(n:Int) from by omega)⟩ ht
   have j3:Qg n (out++[(fr,to,ak,0)])≤999999999000:=by unfold Qg at hph ⊢;rw[List.length_append,List.length_singleton];omega
   refine xc 0 (args:=#[P0 bx,V0 to]) (Ji B Bi b bx rm kb K pi ni ci l n d hA _ _ (out++[(fr,to,ak,0)]) to _ ⟨q5,ar,ah,hM,(Nat.le_trans a0 i4.size),a9,a3,u9,(Yl a4 h6 e8)⟩ (by omega) (by omega)) ?_
   rintro e fe cu
   rcases cu with ⟨a6,e6,vr,rfl,s5,m3,c9⟩|⟨a6,i3,h8,rfl,s5,m3,⟨_,c6,c8,hM,_,_,_,c7,a4⟩⟩
   ·have o3:=i4.trans s5
    have hO:=(((((((((show Zd [141,81] w _ from(Zd.of_below n1.below)).trans (Zd.of_below (Za W1))).trans (Zd.of_below (Za W1.drew))).trans (Zd.of_below d3.below)).trans (Zd.of_grown b3 b7 (by decide))).trans (Zd.of_upd c0 a7 (by decide))).trans (Zd.of_below (Za a1))).trans (Zd.of_below (Za a1.drew))).trans (Zl c1 e2)).trans m3
    refine xe 6 (.iface e6 (vr)) ?_
    have e9:=Zx (l:=l) (n:=n) (d:=d) (fr:=fr) (ak:=ak) (to:=to) (out:=out) (by omega) ht
    first|(have a5:ak=6:=(by omega);subst a5;exact .inl ⟨by rw[e9];exact a6,_,_,rfl,o3,hO,by rw[e9];exact c9⟩)|exact .inl ⟨by rw[e9];exact a6,_,_,rfl,o3,hO,by rw[e9];exact c9⟩
   have n2:=q5.only m3 (by decide)
   have h2:=i4.trans s5
   have hO:=(((((((((show Zd [141,81] w _ from(Zd.of_below n1.below)).trans (Zd.of_below (Za W1))).trans (Zd.of_below (Za W1.drew))).trans (Zd.of_below d3.below)).trans (Zd.of_grown b3 b7 (by decide))).trans (Zd.of_upd c0 a7 (by decide))).trans (Zd.of_below (Za a1))).trans (Zd.of_below (Za a1.drew))).trans (Zl c1 e2)).trans m3
   refine xe 6 .nilIface ?_
   have e9:=Zx (l:=l) (n:=n) (d:=d) (fr:=fr) (ak:=ak) (to:=to) (out:=out) (by omega) ht
   first|(have a5:ak=6:=(by omega);subst a5;exact .inr ⟨by rw[e9];exact a6,_,_,rfl,h2,hO,by rw[e9];exact⟨n2,c6,c8,hM,(Nat.le_trans a0 h2.size),a9,a3,c7,a4⟩⟩)|exact .inr ⟨by rw[e9];exact a6,_,_,rfl,h2,hO,by rw[e9];exact⟨n2,c6,c8,hM,(Nat.le_trans a0 h2.size),a9,a3,c7,a4⟩⟩
  refine xie 6 ak (7:Int) (fun da=>?_) (fun da=>?_)
  ·refine xd 1 .z ?_
   have o4:=(Xf g9 c1 e2).below (Za k4)
   refine xb (.e [0,1,2] 3) 0 o4 ?_
   have x0:=f7.below (Za k4)
   refine xb (.e [4] 5) 1 x0 ?_
   have n7:=(((((((((hI.below n1.below).below (Za W1)).below (Za W1.drew)).below d3.below).only (Zd.of_grown (T:=[81]) b3 b7 (by decide)) (by decide)).only (Zd.of_upd (T:=[141]) c0 a7 (by decide)) (by decide)).below (Za a1)).below (Za a1.drew)).only (Zl (T:=[]) c1 e2) (by decide)).below (Za k4)
   refine yc (.o [] 6) (args:=#[P0 b,V0 to]) .z (Kb Bi b pi ni ci l to _ n7) ?_
   rintro e ew cc
   rcases cc with ⟨d0,j8,vx,rfl,d5,i7⟩|⟨d0,pl,cl,rfl,d5,hs⟩
   ·refine⟨d5,?_⟩
    have ap:=blB (blB (e2.below (blB (blB (c0.below (hB.trans f2) a9) a0 (Za a1)) a0 (Za a1.drew)) a3) a0 (Za k4)) a0 d5
    have hO:=((((((((((show Zd [141,81] w _ from(Zd.of_below n1.below)).trans (Zd.of_below (Za W1))).trans (Zd.of_below (Za W1.drew))).trans (Zd.of_below d3.below)).trans (Zd.of_grown b3 b7 (by decide))).trans (Zd.of_upd c0 a7 (by decide))).trans (Zd.of_below (Za a1))).trans (Zd.of_below (Za a1.drew))).trans (Zl c1 e2)).trans (Zd.of_below (Za k4))).trans (Zd.of_below d5)
    refine xe (.r [7,8,9,10,11] 11) (.iface j8 (vx)) ?_
    have e9:=Zx (l:=l) (n:=n) (d:=d) (fr:=fr) (ak:=ak) (to:=to) (out:=out) (by omega) ht
    have a5:ak=7:=by omega
    subst a5
    rw[Ki (Uk l to) d0] at e9
    exact Hb e9 d0 ap hO i7
   refine⟨d5,?_⟩
   have y6:=n7.below d5
   have y7:=o4.below d5
   have af:=Zb (Zb (Qe (Zb (Zb (c0.own2 u0 a7 (by decide)) (Za a1)) (Za a1.drew)) c1 e2) (Za k4)) d5
   have hM:=((Yd (x:=(fr,to,ak,0)) b2 bk).below (Za k4)).below d5
   have n3:=blB (blB (e2.below (blB (blB (c0.below (hB.trans f2) a9) a0 (Za a1)) a0 (Za a1.drew)) a3) a0 (Za k4)) a0 d5
   have u4:=((Xf (((c0.blkT (e5.grown3 b3 a4) a7 (by decide)).below (Za a1)).below (Za a1.drew)) c1 e2).below (Za k4)).below d5
   have hO:=((((((((((show Zd [141,81] w _ from(Zd.of_below n1.below)).trans (Zd.of_below (Za W1))).trans (Zd.of_below (Za W1.drew))).trans (Zd.of_below d3.below)).trans (Zd.of_grown b3 b7 (by decide))).trans (Zd.of_upd c0 a7 (by decide))).trans (Zd.of_below (Za a1))).trans (Zd.of_below (Za a1.drew))).trans (Zl c1 e2)).trans (Zd.of_below (Za k4))).trans (Zd.of_below d5)
   refine xe (.r [7,8,9,10,11] 11) .nilIface ?_
   have e9:=Zx (l:=l) (n:=n) (d:=d) (fr:=fr) (ak:=ak) (to:=to) (out:=out) (by omega) ht
   have a5:ak=7:=by omega
   subst a5
   rw[Qs ((Uk l to).trans d0),Tf,Ga] at e9
   exact Um e9 rfl n3 hO y6 y7 af hM (Nat.le_trans a0 n3.size) a9 a3 u4 (Yl a4 h6 e8)
  refine xb 7 1 f7 ?_
  refine xb 1 2 f7 ?_
  have q4:=((((((((hI.below n1.below).below (Za W1)).below (Za W1.drew)).below d3.below).only (Zd.of_grown (T:=[81]) b3 b7 (by decide)) (by decide)).only (Zd.of_upd (T:=[141]) c0 a7 (by decide)) (by decide)).below (Za a1)).below (Za a1.drew)).only (Zl (T:=[]) c1 e2) (by decide)
  have y2:=Xf g9 c1 e2
  have z0:=Qe (Zb (Zb (c0.own2 u0 a7 (by decide)) (Za a1)) (Za a1.drew)) c1 e2
  have hM:=(Yd (x:=(fr,to,ak,0)) b2 bk)
  have k0:=e2.below (blB (blB (c0.below (hB.trans f2) a9) a0 (Za a1)) a0 (Za a1.drew)) a3
  have w0:=Xf (((c0.blkT (e5.grown3 b3 a4) a7 (by decide)).below (Za a1)).below (Za a1.drew)) c1 e2
  have i0:=Vg (x:=(fr,to,ak,0)) (n:=n) (out:=out) ⟨hto,(show to<(n:Int) from by omega)⟩ ht
  have j3:Qg n (out++[(fr,to,ak,0)])≤999999999000:=by unfold Qg at hph ⊢;rw[List.length_append,List.length_singleton];omega
  refine xc 0 (args:=#[P0 bx,V0 to,V0 ak]) (Gp B Bi b bx rm kb K pi ni ci l n d hA _ _ (out++[(fr,to,ak,0)]) to ak _ ⟨q4,y2,z0,hM,(Nat.le_trans a0 k0.size),a9,a3,w0,(Yl a4 h6 e8)⟩ (by omega) (by omega) h1 (by omega)) ?_
  rintro e et ay
  rcases ay with ⟨a6,e6,vr,rfl,s7,k9,c9⟩|⟨a6,i3,h8,rfl,s7,k9,⟨_,c6,c8,hM,_,_,_,c7,a4⟩⟩
  ·have q6:=k0.trans s7
   have hO:=(((((((((show Zd [141,81] w _ from(Zd.of_below n1.below)).trans (Zd.of_below (Za W1))).trans (Zd.of_below (Za W1.drew))).trans (Zd.of_below d3.below)).trans (Zd.of_grown b3 b7 (by decide))).trans (Zd.of_upd c0 a7 (by decide))).trans (Zd.of_below (Za a1))).trans (Zd.of_below (Za a1.drew))).trans (Zl c1 e2)).trans k9
   refine xe 4 (.iface e6 (vr)) ?_
   have e9:=Zx (l:=l) (n:=n) (d:=d) (fr:=fr) (ak:=ak) (to:=to) (out:=out) (by omega) ht
   first|(have a5:ak=6:=(by omega);subst a5;exact .inl ⟨by rw[e9];exact a6,_,_,rfl,q6,hO,by rw[e9];exact c9⟩)|exact .inl ⟨by rw[e9];exact a6,_,_,rfl,q6,hO,by rw[e9];exact c9⟩
  have p9:=q4.only k9 (by decide)
  have f9:=k0.trans s7
  have hO:=(((((((((show Zd [141,81] w _ from(Zd.of_below n1.below)).trans (Zd.of_below (Za W1))).trans (Zd.of_below (Za W1.drew))).trans (Zd.of_below d3.below)).trans (Zd.of_grown b3 b7 (by decide))).trans (Zd.of_upd c0 a7 (by decide))).trans (Zd.of_below (Za a1))).trans (Zd.of_below (Za a1.drew))).trans (Zl c1 e2)).trans k9
  refine xe 4 .nilIface ?_
  have e9:=Zx (l:=l) (n:=n) (d:=d) (fr:=fr) (ak:=ak) (to:=to) (out:=out) (by omega) ht
  first|(have a5:ak=6:=(by omega);subst a5;exact .inr ⟨by rw[e9];exact a6,_,_,rfl,f9,hO,by rw[e9];exact⟨p9,c6,c8,hM,(Nat.le_trans a0 f9.size),a9,a3,c7,a4⟩⟩)|exact .inr ⟨by rw[e9];exact a6,_,_,rfl,f9,hO,by rw[e9];exact⟨p9,c6,c8,hM,(Nat.le_trans a0 f9.size),a9,a3,c7,a4⟩⟩
 have q8:=j6.below (Za a1.drew)
 refine xb 0 1 q8 ?_
 have h3:=j4.below (Za a1.drew)
 refine xb (.o [] 3) 2 h3 ?_
 have dr:=t1.below (Za a1.drew)
 obtain⟨y0,f6,b2⟩:=id (dr)
 have c3:=Gx.obj f6
 refine ymuV (.o [] 6) to (.bool true) (.t B [141,81]) Tryz.underlying139 (keyI Tryz.underlying3) f6 (by rw[b2,ht];rfl) fun k3 e1 du=>⟨Bk c3 e1 a3,?_⟩
 have f3:=Xf q8 c3 e1
 refine xb 6 2 f3 ?_
 refine xie 9 ak (6:Int) (fun ch=>?_) (fun ch=>?_)
 ·refine xb 4 1 f3 ?_
  have q7:=((((((((hI.below n1.below).below (Za W1)).below (Za W1.drew)).below d3.below).only (Zd.of_grown (T:=[81]) b3 b7 (by decide)) (by decide)).only (Zd.of_upd (T:=[141]) c0 a7 (by decide)) (by decide)).below (Za a1)).below (Za a1.drew)).only (Zl (T:=[]) c3 e1) (by decide)
  have x1:=Xf h3 c3 e1
  have x9:=Qe (Zb (Zb (c0.own2 u0 a7 (by decide)) (Za a1)) (Za a1.drew)) c3 e1
  have hM:=(Yd (x:=(fr,to,ak,0)) b2 du)
  have h9:=e1.below (blB (blB (c0.below (hB.trans f2) a9) a0 (Za a1)) a0 (Za a1.drew)) a3
  have z1:=Xf (((c0.blkT (e5.grown3 b3 a4) a7 (by decide)).below (Za a1)).below (Za a1.drew)) c3 e1
  have i0:=Vg (x:=(fr,to,ak,0)) (n:=n) (out:=out) ⟨hto,(show to<(n:Int) from by omega)⟩ ht
  have j3:Qg n (out++[(fr,to,ak,0)])≤999999999000:=by unfold Qg at hph ⊢;rw[List.length_append,List.length_singleton];omega
  refine xc 0 (args:=#[P0 bx,V0 to]) (Ji B Bi b bx rm kb K pi ni ci l n d hA _ _ (out++[(fr,to,ak,0)]) to _ ⟨q7,x1,x9,hM,(Nat.le_trans a0 h9.size),a9,a3,z1,(Yl a4 h6 e8)⟩ (by omega) (by omega)) ?_
  rintro e er dm
  rcases dm with ⟨a6,e6,vr,rfl,t8,l0,c9⟩|⟨a6,i3,h8,rfl,t8,l0,⟨_,c6,c8,hM,_,_,_,c7,a4⟩⟩
  ·have q1:=h9.trans t8
   have hO:=(((((((((show Zd [141,81] w _ from(Zd.of_below n1.below)).trans (Zd.of_below (Za W1))).trans (Zd.of_below (Za W1.drew))).trans (Zd.of_below d3.below)).trans (Zd.of_grown b3 b7 (by decide))).trans (Zd.of_upd c0 a7 (by decide))).trans (Zd.of_below (Za a1))).trans (Zd.of_below (Za a1.drew))).trans (Zl c3 e1)).trans l0
   refine xe 6 (.iface e6 (vr)) ?_
   have e9:=Zx (l:=l) (n:=n) (d:=d) (fr:=fr) (ak:=ak) (to:=to) (out:=out) (by omega) ht
   first|(have a5:ak=6:=(by omega);subst a5;exact .inl ⟨by rw[e9];exact a6,_,_,rfl,q1,hO,by rw[e9];exact c9⟩)|exact .inl ⟨by rw[e9];exact a6,_,_,rfl,q1,hO,by rw[e9];exact c9⟩
  have m8:=q7.only l0 (by decide)
  have g1:=h9.trans t8
  have hO:=(((((((((show Zd [141,81] w _ from(Zd.of_below n1.below)).trans (Zd.of_below (Za W1))).trans (Zd.of_below (Za W1.drew))).trans (Zd.of_below d3.below)).trans (Zd.of_grown b3 b7 (by decide))).trans (Zd.of_upd c0 a7 (by decide))).trans (Zd.of_below (Za a1))).trans (Zd.of_below (Za a1.drew))).trans (Zl c3 e1)).trans l0
  refine xe 6 .nilIface ?_
  have e9:=Zx (l:=l) (n:=n) (d:=d) (fr:=fr) (ak:=ak) (to:=to) (out:=out) (by omega) ht
  first|(have a5:ak=6:=(by omega);subst a5;exact .inr ⟨by rw[e9];exact a6,_,_,rfl,g1,hO,by rw[e9];exact⟨m8,c6,c8,hM,(Nat.le_trans a0 g1.size),a9,a3,c7,a4⟩⟩)|exact .inr ⟨by rw[e9];exact a6,_,_,rfl,g1,hO,by rw[e9];exact⟨m8,c6,c8,hM,(Nat.le_trans a0 g1.size),a9,a3,c7,a4⟩⟩
 refine xie 6 ak (7:Int) (fun dc=>?_) (fun dc=>?_)
 ·refine xd 1 .z ?_
  have p1:=(Xf h3 c3 e1).below (Za k3)
  refine xb (.e [0,1,2] 3) 0 p1 ?_
  have u8:=f3.below (Za k3)
  refine xb (.e [4] 5) 1 u8 ?_
  have o6:=(((((((((hI.below n1.below).below (Za W1)).below (Za W1.drew)).below d3.below).only (Zd.of_grown (T:=[81]) b3 b7 (by decide)) (by decide)).only (Zd.of_upd (T:=[141]) c0 a7 (by decide)) (by decide)).below (Za a1)).below (Za a1.drew)).only (Zl (T:=[]) c3 e1) (by decide)).below (Za k3)
  refine yc (.o [] 6) (args:=#[P0 b,V0 to]) .z (Kb Bi b pi ni ci l to _ o6) ?_
  rintro e ey bj
  rcases bj with ⟨d0,j8,vx,rfl,d9,i7⟩|⟨d0,pl,cl,rfl,d9,hs⟩
  ·refine⟨d9,?_⟩
   have y1:=blB (blB (e1.below (blB (blB (c0.below (hB.trans f2) a9) a0 (Za a1)) a0 (Za a1.drew)) a3) a0 (Za k3)) a0 d9
   have hO:=((((((((((show Zd [141,81] w _ from(Zd.of_below n1.below)).trans (Zd.of_below (Za W1))).trans (Zd.of_below (Za W1.drew))).trans (Zd.of_below d3.below)).trans (Zd.of_grown b3 b7 (by decide))).trans (Zd.of_upd c0 a7 (by decide))).trans (Zd.of_below (Za a1))).trans (Zd.of_below (Za a1.drew))).trans (Zl c3 e1)).trans (Zd.of_below (Za k3))).trans (Zd.of_below d9)
   refine xe (.r [7,8,9,10,11] 11) (.iface j8 (vx)) ?_
   have e9:=Zx (l:=l) (n:=n) (d:=d) (fr:=fr) (ak:=ak) (to:=to) (out:=out) (by omega) ht
   have a5:ak=7:=by omega
   subst a5
   rw[Ki (Uk l to) d0] at e9
   exact Hb e9 d0 y1 hO i7
  refine⟨d9,?_⟩
  have w8:=o6.below d9
  have s6:=p1.below d9
  have z8:=Zb (Zb (Qe (Zb (Zb (c0.own2 u0 a7 (by decide)) (Za a1)) (Za a1.drew)) c3 e1) (Za k3)) d9
  have hM:=((Yd (x:=(fr,to,ak,0)) b2 du).below (Za k3)).below d9
  have p5:=blB (blB (e1.below (blB (blB (c0.below (hB.trans f2) a9) a0 (Za a1)) a0 (Za a1.drew)) a3) a0 (Za k3)) a0 d9
  have ae:=((Xf (((c0.blkT (e5.grown3 b3 a4) a7 (by decide)).below (Za a1)).below (Za a1.drew)) c3 e1).below (Za k3)).below d9
  have hO:=((((((((((show Zd [141,81] w _ from(Zd.of_below n1.below)).trans (Zd.of_below (Za W1))).trans (Zd.of_below (Za W1.drew))).trans (Zd.of_below d3.below)).trans (Zd.of_grown b3 b7 (by decide))).trans (Zd.of_upd c0 a7 (by decide))).trans (Zd.of_below (Za a1))).trans (Zd.of_below (Za a1.drew))).trans (Zl c3 e1)).trans (Zd.of_below (Za k3))).trans (Zd.of_below d9)
  refine xe (.r [7,8,9,10,11] 11) .nilIface ?_
  have e9:=Zx (l:=l) (n:=n) (d:=d) (fr:=fr) (ak:=ak) (to:=to) (out:=out) (by omega) ht
  have a5:ak=7:=by omega
  subst a5
  rw[Qs ((Uk l to).trans d0),Tf,Ga] at e9
  exact Um e9 rfl p5 hO w8 s6 z8 hM (Nat.le_trans a0 p5.size) a9 a3 ae (Yl a4 h6 e8)
 refine xb 7 1 f3 ?_
 refine xb 1 2 f3 ?_
 have o8:=((((((((hI.below n1.below).below (Za W1)).below (Za W1.drew)).below d3.below).only (Zd.of_grown (T:=[81]) b3 b7 (by decide)) (by decide)).only (Zd.of_upd (T:=[141]) c0 a7 (by decide)) (by decide)).below (Za a1)).below (Za a1.drew)).only (Zl (T:=[]) c3 e1) (by decide)
 have r9:=Xf h3 c3 e1
 have ai:=Qe (Zb (Zb (c0.own2 u0 a7 (by decide)) (Za a1)) (Za a1.drew)) c3 e1
 have hM:=(Yd (x:=(fr,to,ak,0)) b2 du)
 have i9:=e1.below (blB (blB (c0.below (hB.trans f2) a9) a0 (Za a1)) a0 (Za a1.drew)) a3
 have aw:=Xf (((c0.blkT (e5.grown3 b3 a4) a7 (by decide)).below (Za a1)).below (Za a1.drew)) c3 e1
 have i0:=Vg (x:=(fr,to,ak,0)) (n:=n) (out:=out) ⟨hto,(show to<(n:Int) from by omega)⟩ ht
 have j3:Qg n (out++[(fr,to,ak,0)])≤999999999000:=by unfold Qg at hph ⊢;rw[List.length_append,List.length_singleton];omega
 refine xc 0 (args:=#[P0 bx,V0 to,V0 ak]) (Gp B Bi b bx rm kb K pi ni ci l n d hA _ _ (out++[(fr,to,ak,0)]) to ak _ ⟨o8,r9,ai,hM,(Nat.le_trans a0 i9.size),a9,a3,aw,(Yl a4 h6 e8)⟩ (by omega) (by omega) h1 (by omega)) ?_
 rintro e fh bw
 rcases bw with ⟨a6,e6,vr,rfl,r5,m0,c9⟩|⟨a6,i3,h8,rfl,r5,m0,⟨_,c6,c8,hM,_,_,_,c7,a4⟩⟩
 ·have m5:=i9.trans r5
  have hO:=(((((((((show Zd [141,81] w _ from(Zd.of_below n1.below)).trans (Zd.of_below (Za W1))).trans (Zd.of_below (Za W1.drew))).trans (Zd.of_below d3.below)).trans (Zd.of_grown b3 b7 (by decide))).trans (Zd.of_upd c0 a7 (by decide))).trans (Zd.of_below (Za a1))).trans (Zd.of_below (Za a1.drew))).trans (Zl c3 e1)).trans m0
  refine xe 4 (.iface e6 (vr)) ?_
  have e9:=Zx (l:=l) (n:=n) (d:=d) (fr:=fr) (ak:=ak) (to:=to) (out:=out) (by omega) ht
  first|(have a5:ak=6:=(by omega);subst a5;exact .inl ⟨by rw[e9];exact a6,_,_,rfl,m5,hO,by rw[e9];exact c9⟩)|exact .inl ⟨by rw[e9];exact a6,_,_,rfl,m5,hO,by rw[e9];exact c9⟩
 have n9:=o8.only m0 (by decide)
 have g7:=i9.trans r5
 have hO:=(((((((((show Zd [141,81] w _ from(Zd.of_below n1.below)).trans (Zd.of_below (Za W1))).trans (Zd.of_below (Za W1.drew))).trans (Zd.of_below d3.below)).trans (Zd.of_grown b3 b7 (by decide))).trans (Zd.of_upd c0 a7 (by decide))).trans (Zd.of_below (Za a1))).trans (Zd.of_below (Za a1.drew))).trans (Zl c3 e1)).trans m0
 refine xe 4 .nilIface ?_
 have e9:=Zx (l:=l) (n:=n) (d:=d) (fr:=fr) (ak:=ak) (to:=to) (out:=out) (by omega) ht
 first|(have a5:ak=6:=(by omega);subst a5;exact .inr ⟨by rw[e9];exact a6,_,_,rfl,g7,hO,by rw[e9];exact⟨n9,c6,c8,hM,(Nat.le_trans a0 g7.size),a9,a3,c7,a4⟩⟩)|exact .inr ⟨by rw[e9];exact a6,_,_,rfl,g7,hO,by rw[e9];exact⟨n9,c6,c8,hM,(Nat.le_trans a0 g7.size),a9,a3,c7,a4⟩⟩
theorem Mb(B Bi b bx rm kb:Nat)(K:List Value)(pi:O0)(ni ci:Nat)(l:Bl)(n:Nat):∀ d,Za9 d B Bi b bx rm kb K pi ni ci l n
 | 0=>fun po co a0 fr to ak w hL a1 hz a2 h1 h7=>absurd hz (by omega)
 | d+1=>fun po co a0 fr to ak w hL a1 hz a2 h1 h7=>by
  have hA:=Mb B Bi b bx rm kb K pi ni ci l n d
  cases ht:Ky a0 to with
  | true=>exact link_add1 B Bi b bx rm kb K pi ni ci l n d hA po co a0 fr to ak w hL hz a2 a1 h1 h7 ht
  | false=>exact link_add2 B Bi b bx rm kb K pi ni ci l n d hA po co a0 fr to ak w hL hz a2 a1 h1 h7 ht
end Go.Proofs.YtceeiinepijokaaGreat
namespace Go.Proofs.YtceeiinepijokaaGreat
set_option maxHeartbeats 8000000
set_option maxRecDepth 100000
open Go.RowKit Go.Extern.Stop Go.Stop Go.Extern
set_option linter.unusedVariables false
attribute [local irreducible] wpList wpAnyH Code.wp Oper.wp Go
def Zew(s:Sup)(z:Int):Bool:=(((((((((((true&&decide ((0:Int)≤s.tx∧s.tx≤2147483647))&&decide ((0:Int)≤s.time∧s.time≤16777215))&&decide ((1:Int)≤s.unit∧s.unit≤65536))&&decide ((0:Int)≤s.data∧s.data≤65536))&&decide ((2:Int)≤s.blocks∧s.blocks≤14400))&&decide ((1:Int)≤s.top∧s.top≤z))&&decide ((1:Int)≤s.details∧s.details≤z))&&decide ((1:Int)≤s.dslots∧s.dslots≤z))&&decide ((1:Int)≤s.dover∧s.dover≤z))&&decide ((1:Int)≤s.mindex∧s.mindex≤z))&&decide ((1:Int)≤s.mover∧s.mover≤z))
theorem rightZ_eq{s:Sup}{z:Int}(h:IntKind.i64.wrap (s.blocks-1)=z):Zew s z=Xc s:=by
 by_cases hb:(2:Int)≤s.blocks∧s.blocks≤14400
 ·have e:z=s.blocks-1:=by rw[←h];exact IntWalk.i64_in _ (by omega)
  subst e;rfl
 ·have hd:decide ((2:Int)≤s.blocks∧s.blocks≤14400)=false:=decide_eq_false hb
  unfold Zew Xc
  rw[hd];simp
theorem rightS_bd{s:Sup}(h:Xc s=true):2≤s.blocks∧s.blocks≤14400:=by
 by_cases hb:(2:Int)≤s.blocks∧s.blocks≤14400
 ·exact hb
 ·have hd:decide ((2:Int)≤s.blocks∧s.blocks≤14400)=false:=decide_eq_false hb
  unfold Xc at h
  rw[hd] at h;simp at h
theorem Rd(B bs bo:Nat)(s:Sup)(w:World)(hBw:B≤w.heap.size)(hBo:B≤bo)(ks:Blk w bs [V0 s.tx,V0 s.time,V0 s.unit,V0 s.data,V0 s.blocks,V0 s.top,V0 s.details,V0 s.dslots,V0 s.dover,V0 s.mindex,V0 s.mover] 30)(ko:Blk w bo [.bool true] 4) :
 C0 76 #[P0 bs,.func (.func 98) #[] #[P0 bo]] w ((fun e w'=>∃ u,e=.returned u∧Below B w w'∧Zd [4] w w'∧Blk w' bo [.bool (Zew s (IntKind.i64.wrap (s.blocks-1)))] 4)):=by
 refine zin 64 Tryz.func76 ?_
 refine xc 6 (args:=#[P0 bs,V0 0,V0 2147483647,P0 bo]) (Xg B bs bo 0 _ s.tx 0 2147483647 true _ (Nat.le_trans hBw (Below.refl B _).size) hBo ks rfl ko) ?_
 rintro _ W1 ⟨u1,rfl,e0,e1,e8⟩
 have b3:=ks.only e1 (by decide)
 refine xc 8 (args:=#[.pointer (some ⟨bs,1,none⟩),V0 0,V0 16777215,P0 bo]) (Xg B bs bo 1 _ s.time 0 16777215 (true&&decide ((0:Int)≤s.tx∧s.tx≤2147483647)) _ (Nat.le_trans hBw e0.size) hBo b3 rfl e8) ?_
 rintro _ W2 ⟨u2,rfl,f1,e3,f5⟩
 have b4:=e0.trans f1
 have b8:=b3.only e3 (by decide)
 refine xc 8 (args:=#[.pointer (some ⟨bs,2,none⟩),V0 1,V0 65536,P0 bo]) (Xg B bs bo 2 _ s.unit 1 65536 ((true&&decide ((0:Int)≤s.tx∧s.tx≤2147483647))&&decide ((0:Int)≤s.time∧s.time≤16777215)) _ (Nat.le_trans hBw b4.size) hBo b8 rfl f5) ?_
 rintro _ W3 ⟨u3,rfl,f4,e5,e6⟩
 have c8:=b4.trans f4
 have c0:=b8.only e5 (by decide)
 refine xc 8 (args:=#[.pointer (some ⟨bs,3,none⟩),V0 0,V0 65536,P0 bo]) (Xg B bs bo 3 _ s.data 0 65536 (((true&&decide ((0:Int)≤s.tx∧s.tx≤2147483647))&&decide ((0:Int)≤s.time∧s.time≤16777215))&&decide ((1:Int)≤s.unit∧s.unit≤65536)) _ (Nat.le_trans hBw c8.size) hBo c0 rfl e6) ?_
 rintro _ W4 ⟨u4,rfl,f2,e2,g0⟩
 have b0:=c8.trans f2
 have a9:=c0.only e2 (by decide)
 refine xc 8 (args:=#[.pointer (some ⟨bs,4,none⟩),V0 2,V0 14400,P0 bo]) (Xg B bs bo 4 _ s.blocks 2 14400 ((((true&&decide ((0:Int)≤s.tx∧s.tx≤2147483647))&&decide ((0:Int)≤s.time∧s.time≤16777215))&&decide ((1:Int)≤s.unit∧s.unit≤65536))&&decide ((0:Int)≤s.data∧s.data≤65536)) _ (Nat.le_trans hBw b0.size) hBo a9 rfl g0) ?_
 rintro _ W5 ⟨u5,rfl,f3,e4,e7⟩
 refine xd 3 .z ?_
 refine xbs (.o [0,1,2,3,4,5,6,7,8,9,10,11,12,13,14,15,16,17,20] 18) 6 [.pointer (some ⟨bs,5,none⟩),.pointer (some ⟨bs,6,none⟩),.pointer (some ⟨bs,7,none⟩),.pointer (some ⟨bs,8,none⟩),.pointer (some ⟨bs,9,none⟩),.pointer (some ⟨bs,10,none⟩)] 168 fun b6 W6 n6=>?_
 have c1:=blB (b0.trans f3) hBw (Za W5)
 have g6:=n6.ge0 c1
 refine xu (.r [19] 3) 7 ?_
 refine xb 14 0 n6.blk ?_
 have a3:=((a9.only e4 (by decide)).below (Za W5)).below n6.below
 refine xb 9 4 a3 ?_
 have b1:=blB c1 hBw n6.below
 have b2:=(e7.below (Za W5)).below n6.below
 refine xc 1 (args:=#[.pointer (some ⟨bs,5,none⟩),V0 1,V0 (IntKind.i64.wrap (s.blocks-(1:Int))),P0 bo]) (Xg B bs bo 5 _ s.top 1 (IntKind.i64.wrap (s.blocks-(1:Int))) (((((true&&decide ((0:Int)≤s.tx∧s.tx≤2147483647))&&decide ((0:Int)≤s.time∧s.time≤16777215))&&decide ((1:Int)≤s.unit∧s.unit≤65536))&&decide ((0:Int)≤s.data∧s.data≤65536))&&decide ((2:Int)≤s.blocks∧s.blocks≤14400)) _ (Nat.le_trans hBw b1.size) hBo a3 rfl b2) ?_
 rintro _ W7 ⟨u7,rfl,f6,d5,f7⟩
 have b7:=n6.blk.only d5 (by decide)
 refine xb 22 1 b7 ?_
 have a2:=a3.only d5 (by decide)
 refine xb 9 4 a2 ?_
 have c2:=b1.trans f6
 refine xc 1 (args:=#[.pointer (some ⟨bs,6,none⟩),V0 1,V0 (IntKind.i64.wrap (s.blocks-(1:Int))),P0 bo]) (Xg B bs bo 6 _ s.details 1 (IntKind.i64.wrap (s.blocks-(1:Int))) ((((((true&&decide ((0:Int)≤s.tx∧s.tx≤2147483647))&&decide ((0:Int)≤s.time∧s.time≤16777215))&&decide ((1:Int)≤s.unit∧s.unit≤65536))&&decide ((0:Int)≤s.data∧s.data≤65536))&&decide ((2:Int)≤s.blocks∧s.blocks≤14400))&&decide ((1:Int)≤s.top∧s.top≤IntKind.i64.wrap (s.blocks-1))) _ (Nat.le_trans hBw c2.size) hBo a2 rfl f7) ?_
 rintro _ W8 ⟨u8,rfl,f8,c9,f0⟩
 have c7:=b7.only c9 (by decide)
 refine xb 22 2 c7 ?_
 have a6:=a2.only c9 (by decide)
 refine xb 9 4 a6 ?_
 have b9:=c2.trans f8
 refine xc 1 (args:=#[.pointer (some ⟨bs,7,none⟩),V0 1,V0 (IntKind.i64.wrap (s.blocks-(1:Int))),P0 bo]) (Xg B bs bo 7 _ s.dslots 1 (IntKind.i64.wrap (s.blocks-(1:Int))) (((((((true&&decide ((0:Int)≤s.tx∧s.tx≤2147483647))&&decide ((0:Int)≤s.time∧s.time≤16777215))&&decide ((1:Int)≤s.unit∧s.unit≤65536))&&decide ((0:Int)≤s.data∧s.data≤65536))&&decide ((2:Int)≤s.blocks∧s.blocks≤14400))&&decide ((1:Int)≤s.top∧s.top≤IntKind.i64.wrap (s.blocks-1)))&&decide ((1:Int)≤s.details∧s.details≤IntKind.i64.wrap (s.blocks-1))) _ (Nat.le_trans hBw b9.size) hBo a6 rfl f0) ?_
 rintro _ W9 ⟨u9,rfl,f9,d1,e9⟩
 have b5:=c7.only d1 (by decide)
 refine xb 22 3 b5 ?_
 have a5:=a6.only d1 (by decide)
 refine xb 9 4 a5 ?_
 have c4:=b9.trans f9
 refine xc 1 (args:=#[.pointer (some ⟨bs,8,none⟩),V0 1,V0 (IntKind.i64.wrap (s.blocks-(1:Int))),P0 bo]) (Xg B bs bo 8 _ s.dover 1 (IntKind.i64.wrap (s.blocks-(1:Int))) ((((((((true&&decide ((0:Int)≤s.tx∧s.tx≤2147483647))&&decide ((0:Int)≤s.time∧s.time≤16777215))&&decide ((1:Int)≤s.unit∧s.unit≤65536))&&decide ((0:Int)≤s.data∧s.data≤65536))&&decide ((2:Int)≤s.blocks∧s.blocks≤14400))&&decide ((1:Int)≤s.top∧s.top≤IntKind.i64.wrap (s.blocks-1)))&&decide ((1:Int)≤s.details∧s.details≤IntKind.i64.wrap (s.blocks-1)))&&decide ((1:Int)≤s.dslots∧s.dslots≤IntKind.i64.wrap (s.blocks-1))) _ (Nat.le_trans hBw c4.size) hBo a5 rfl e9) ?_
 rintro _ g1 ⟨g7,rfl,d0,a8,d2⟩
 have c6:=b5.only a8 (by decide)
 refine xb 22 4 c6 ?_
 have a7:=a5.only a8 (by decide)
 refine xb 9 4 a7 ?_
 have c3:=c4.trans d0
 refine xc 1 (args:=#[.pointer (some ⟨bs,9,none⟩),V0 1,V0 (IntKind.i64.wrap (s.blocks-(1:Int))),P0 bo]) (Xg B bs bo 9 _ s.mindex 1 (IntKind.i64.wrap (s.blocks-(1:Int))) (((((((((true&&decide ((0:Int)≤s.tx∧s.tx≤2147483647))&&decide ((0:Int)≤s.time∧s.time≤16777215))&&decide ((1:Int)≤s.unit∧s.unit≤65536))&&decide ((0:Int)≤s.data∧s.data≤65536))&&decide ((2:Int)≤s.blocks∧s.blocks≤14400))&&decide ((1:Int)≤s.top∧s.top≤IntKind.i64.wrap (s.blocks-1)))&&decide ((1:Int)≤s.details∧s.details≤IntKind.i64.wrap (s.blocks-1)))&&decide ((1:Int)≤s.dslots∧s.dslots≤IntKind.i64.wrap (s.blocks-1)))&&decide ((1:Int)≤s.dover∧s.dover≤IntKind.i64.wrap (s.blocks-1))) _ (Nat.le_trans hBw c3.size) hBo a7 rfl d2) ?_
 rintro _ g5 ⟨g3,rfl,d9,a4,d8⟩
 have d3:=c6.only a4 (by decide)
 refine xb 22 5 d3 ?_
 have a0:=a7.only a4 (by decide)
 refine xb 9 4 a0 ?_
 have a1:=c3.trans d9
 refine xc 1 (args:=#[.pointer (some ⟨bs,10,none⟩),V0 1,V0 (IntKind.i64.wrap (s.blocks-(1:Int))),P0 bo]) (Xg B bs bo 10 _ s.mover 1 (IntKind.i64.wrap (s.blocks-(1:Int))) ((((((((((true&&decide ((0:Int)≤s.tx∧s.tx≤2147483647))&&decide ((0:Int)≤s.time∧s.time≤16777215))&&decide ((1:Int)≤s.unit∧s.unit≤65536))&&decide ((0:Int)≤s.data∧s.data≤65536))&&decide ((2:Int)≤s.blocks∧s.blocks≤14400))&&decide ((1:Int)≤s.top∧s.top≤IntKind.i64.wrap (s.blocks-1)))&&decide ((1:Int)≤s.details∧s.details≤IntKind.i64.wrap (s.blocks-1)))&&decide ((1:Int)≤s.dslots∧s.dslots≤IntKind.i64.wrap (s.blocks-1)))&&decide ((1:Int)≤s.dover∧s.dover≤IntKind.i64.wrap (s.blocks-1)))&&decide ((1:Int)≤s.mindex∧s.mindex≤IntKind.i64.wrap (s.blocks-1))) _ (Nat.le_trans hBw a1.size) hBo a0 rfl d8) ?_
 rintro _ g2 ⟨g8,rfl,d6,d7,d4⟩
 have c5:=a1.trans d6
 have hO:=((((((((((((show Zd [4] w _ from e1).trans e3).trans e5).trans e2).trans e4).trans (Zd.of_below (Za W5))).trans (Zd.of_below n6.below)).trans d5).trans c9).trans d1).trans a8).trans a4).trans d7
 exact xe 19 (.tuple #[]) ⟨_,rfl,c5,hO,d4⟩
theorem sup_RightG(s:Sup)(w:World) :
 C0 55 #[.agg #[V0 s.tx,V0 s.time,V0 s.unit,V0 s.data,V0 s.blocks,V0 s.top,V0 s.details,V0 s.dslots,V0 s.dover,V0 s.mindex,V0 s.mover]] w (Ret (.bool (Xc s)) w):=by
 refine zin 7 Tryz.func55 ?_
 refine xa 2 [V0 s.tx,V0 s.time,V0 s.unit,V0 s.data,V0 s.blocks,V0 s.top,V0 s.details,V0 s.dslots,V0 s.dover,V0 s.mindex,V0 s.mover] 30 fun b1 W1 n1=>?_
 refine xa 5 [.bool false] 4 fun b2 W2 n2=>?_
 refine xs 0 n2.blk [.bool true] fun W3 u3 k3=>?_
 have g2:=n2.ge n1.below
 have hB:=u3.below (bln n1.below n2.below) g2
 have k1:=u3.blkT (n1.blk.below n2.below) n2.blk (by decide)
 refine xc 5 (args:=#[P0 b1,.func (.func 98) #[] #[P0 b2]]) (Rd w.heap.size b1 b2 s _ hB.size g2 k1 k3) ?_
 rintro _ W4 ⟨u4,rfl,a2,a3,a1⟩
 refine xb 4 0 a1 ?_
 have a0:=hB.trans a2
 exact xe 4 (.bool (Zew s (IntKind.i64.wrap (s.blocks-1)))) ⟨by rw[rightZ_eq rfl],a0⟩
def LinksP(O:Kx)(w:World)(e:Ending)(w':World):Prop :=
 (O.2.2≠0∧∃ ty v,e=.returned (.tuple #[S0,.iface ty v])∧B3 w w'∧Hw w' (O.2.1.map some) (some O.2.2) (.iface ty v)) ∨
 (O.2.2=0∧∃ p c,e=.returned (.tuple #[.slice p O.1.length c,.nilIface])∧B3 w w'∧w'.ownsRow w.heap.size 81 3 (.slice p O.1.length c) O.1.length (O.1.flatMap lkC))
theorem Vw{O:Kx}{c:List Lk}{bl:List Int}{er:Int}{w W:World}{ty:TypeId}{v:Value}(h:O=(c,bl,er))(her:er≠0)(hb:B3 w W)(hv:Hw W (bl.map some) (some er) (.iface ty v)):LinksP O w (.returned (.tuple #[S0,.iface ty v])) W:=by
 subst h;exact .inl ⟨her,ty,v,rfl,hb,hv⟩
theorem linksP_ok{O:Kx}{c:List Lk}{m d:Nat}{p:O0}{w W:World}(h:O.2.2=0)(h1:O.1=c)(hm:c.length=m)(hb:B3 w W)(ho:W.ownsRow w.heap.size 81 3 (.slice p m d) m (c.flatMap lkC)):LinksP O w (.returned (.tuple #[.slice p m d,.nilIface])) W:=by
 subst h1 hm;exact .inr ⟨h,p,d,rfl,hb,ho⟩
theorem Zg5{l:Bl}{s:Sup}(h:Xc s=false):Re l s=([],[],1):=if_pos h
theorem Jr{l:Bl}{s:Sup}(h:Xc s=true):Re l s=Qd (Xu l s.blocks.toNat (s.blocks.toNat+1)) [] (supKs s):=by
 unfold Re;rw[if_neg (by rw[h];decide)];rfl
theorem Kj.more{f:List Lk→Lk→Kx}{o c c':List Lk}{L:List Lk}(h:Kj f o L c){x:Lk}(hc:(f c x).1=c')(h2:(f c x).2.2=0):Kj f o (L++[x]) c':=hc▸h.next h2
theorem rightS_ge{s:Sup}(h:Xc s=true):0≤s.top∧0≤s.details∧0≤s.dslots∧0≤s.dover∧0≤s.mindex∧0≤s.mover:=by
 unfold Xc at h
 simp only[Bool.and_eq_true,decide_eq_true_eq,true_and] at h
 omega
theorem seenM_new{w W:World}{rm:Nat}(m:NewMV V0 w rm W):Gn rm [] W:=⟨[],m.map,fun k=>rfl⟩
theorem unt_nil(n:Nat):unt [] n≤n:=unt_le [] n
theorem Zhk(Bi b:Nat)(pi:O0)(ni ci:Nat)(l:Bl)(s:Sup)(w:World)(hI:ImgR Bi b pi ni ci l w) :
 C0 28 #[P0 b,.agg #[V0 s.tx,V0 s.time,V0 s.unit,V0 s.data,V0 s.blocks,V0 s.top,V0 s.details,V0 s.dslots,V0 s.dover,V0 s.mindex,V0 s.mover]] w (LinksP (Re l s) w):=by
 refine zin 55 Tryz.func28 ?_
 refine xa 2 [V0 s.tx,V0 s.time,V0 s.unit,V0 s.data,V0 s.blocks,V0 s.top,V0 s.details,V0 s.dslots,V0 s.dover,V0 s.mindex,V0 s.mover] 30 fun b1 W1 n1=>?_
 refine xlv 7 n1.blk.rp ?_
 refine xr 0 (args:=#[.agg #[V0 s.tx,V0 s.time,V0 s.unit,V0 s.data,V0 s.blocks,V0 s.top,V0 s.details,V0 s.dslots,V0 s.dover,V0 s.mindex,V0 s.mover]]) (sup_RightG s _) fun W2 k3=>?_
 refine xi 3 (!(Xc s)) (fun e6=>?_) (fun e6=>?_)
 ·have a8:Xc s=false:=Gs e6
  have hB:=bln n1.below k3
  refine xe 9 (.tuple #[S0,.iface 89 (V0 1)]) ?_
  exact Vw (bl:=[]) (Zg5 a8) (by decide) hB rfl
 have a8:Xc s=true:=Hx e6
 have s5:=rightS_bd a8
 have u6:=rightS_ge a8
 have r6:s.blocks=((s.blocks.toNat:Nat):Int):=(Int.toNat_of_nonneg (by omega)).symm
 have o3:Kj (Xu l s.blocks.toNat (s.blocks.toNat+1)) [] [] []:=Kj.nil _ _
 have t0:=unt_nil s.blocks.toNat
 have r5:s.blocks.toNat≤14400:=by omega
 have g3:=n1.blk.below k3
 refine xb 6 4 g3 ?_
 refine xmmV V0 0 139 fun rm W4 m4=>?_
 have hB:=bln n1.below k3
 have e5:=m4.ge hB
 refine xa 1 [P0 b,V0 s.blocks,.map (some rm),S0] 141 fun b5 W5 n5=>?_
 have h4:=bln hB m4.below
 have g5:=n5.ge h4
 have a5:=(g3.below m4.below).below n5.below
 refine xb 7 5 a5 ?_
 refine xb 2 6 a5 ?_
 refine xb 2 7 a5 ?_
 refine xb 2 8 a5 ?_
 refine xb 2 9 a5 ?_
 refine xb 2 10 a5 ?_
 refine xbs 1 6 [V0 0,V0 s.top,V0 1,V0 0,V0 s.details,V0 3,V0 0,V0 s.dslots,V0 4,V0 0,V0 s.dover,V0 5,V0 0,V0 s.mindex,V0 6,V0 0,V0 s.mover,V0 5] 81 fun b6 W6 n6=>?_
 have f2:=bln h4 n5.below
 have g6:=n6.ge f2
 refine xu 5 7 ?_
 refine xlv 14 (n6.blk.rpp 0 3) ?_
 refine xa 0 [V0 0,V0 0,V0 0] 81 fun b7 W7 n7=>?_
 have h2:=n7.ne n6.blk
 have f7:=bln f2 n6.below
 have g7:=n7.ge f7
 refine xsv 0 n7.blk [V0 0,V0 s.top,V0 1] fun W8 u8 k8=>?_
 refine xlv 5 k8.rp ?_
 have k5:=u8.blkT ((n5.blk.below n6.below).below n7.below) n7.blk (by decide)
 have hM:=((((seenM_new m4).below n5.below).below n6.below).below n7.below).updBlk u8 n7.blk
 have l9:=u8.blk (n6.blk.below n7.below) (Ne.symm (Ne.symm h2))
 have n2:=k5
 rw[r6] at n2
 have c0:=u8.below (bln f7 n7.below) g7
 refine xc 0 (args:=#[P0 b5,.agg #[V0 0,V0 s.top,V0 1]]) (Mb w.heap.size Bi b b5 rm b6 [V0 0,V0 s.top,V0 1,V0 0,V0 s.details,V0 3,V0 0,V0 s.dslots,V0 4,V0 0,V0 s.dover,V0 5,V0 0,V0 s.mindex,V0 6,V0 0,V0 s.mover,V0 5] pi ni ci l s.blocks.toNat (s.blocks.toNat+1) none 0 [] 0 s.top 1 _ ⟨hI.below c0,n2,(World.ownsRow_nil _ _ _ _),hM,c0.size,g5,e5,l9,(fun j hj=>(by cases hj))⟩ (by omega) (by omega) (by unfold Qg;first|(simp only[List.length_nil];omega)|(unfold Qg at hp0;omega)) (by decide) (by decide)) ?_
 rintro e W9 o7
 rcases o7 with ⟨a0,b2,vr,rfl,m1,p8,b3⟩|⟨a0,q7,p7,rfl,m1,p8,⟨_,m5,ho,hM,_,_,_,l1,h8⟩⟩
 ·have b4:=o3.bad (x:=(0,s.top,1,0)) a0 [(0,s.details,3,0),(0,s.dslots,4,0),(0,s.dover,5,0),(0,s.mindex,6,0),(0,s.mover,5,0)]
  have j7:=c0.trans m1
  refine xe 23 (.tuple #[S0,.iface b2 (vr)]) ?_
  exact Vw ((Jr a8).trans b4) a0 j7 b3
 obtain⟨c1,m9⟩:∃ c,(Xu l s.blocks.toNat (s.blocks.toNat+1) [] (0,s.top,1,0)).1=c:=⟨_,rfl⟩
 rw[m9] at ho hM m5 h8
 have l7:Kj (Xu l s.blocks.toNat (s.blocks.toNat+1)) [] [(0,s.top,1,0)] c1:=o3.more m9 a0
 have m8:=l7.well
 have q8:Qg s.blocks.toNat c1≤30000000:=by have:=m8.2;unfold Qg at this ⊢;simp only[List.length_cons,List.length_nil] at this;omega
 have t4:unt c1 s.blocks.toNat<s.blocks.toNat+1:=by have:=m8.1;omega
 refine xlv 32 (l1.rpp 3 3) ?_
 refine xa 0 [V0 0,V0 0,V0 0] 81 fun s1 r9 a9=>?_
 have e0:=a9.ne l1
 have g0:=c0.trans m1
 have p4:=a9.ge g0
 have d4:=Zr ho a9
 refine xsv 0 a9.blk [V0 0,V0 s.details,V0 3] fun s2 f6 r2=>?_
 refine xlv 5 r2.rp ?_
 have k4:=f6.own3 (Zb ho a9.below) d4
 have g8:=f6.blkT (m5.below a9.below) a9.blk (by decide)
 have i6:=(hM.below a9.below).updBlk f6 a9.blk
 have i3:=f6.blk (l1.below a9.below) (Ne.symm (Ne.symm e0))
 have b9:=f6.below (bln g0 a9.below) p4
 refine xc 0 (args:=#[P0 b5,.agg #[V0 0,V0 s.details,V0 3]]) (Mb w.heap.size Bi b b5 rm b6 [V0 0,V0 s.top,V0 1,V0 0,V0 s.details,V0 3,V0 0,V0 s.dslots,V0 4,V0 0,V0 s.dover,V0 5,V0 0,V0 s.mindex,V0 6,V0 0,V0 s.mover,V0 5] pi ni ci l s.blocks.toNat (s.blocks.toNat+1) q7 p7 c1 0 s.details 3 _ ⟨hI.below b9,g8,k4,i6,b9.size,g5,e5,i3,h8⟩ (by omega) (by omega) (by unfold Qg;first|(simp only[List.length_nil];omega)|(unfold Qg at q8;omega)) (by decide) (by decide)) ?_
 rintro e s0 j1
 rcases j1 with ⟨a0,b2,vr,rfl,d8,l0,b3⟩|⟨a0,r3,p2,rfl,d8,l0,⟨_,m6,ho,hM,_,_,_,j0,f3⟩⟩
 ·have b4:=l7.bad (x:=(0,s.details,3,0)) a0 [(0,s.dslots,4,0),(0,s.dover,5,0),(0,s.mindex,6,0),(0,s.mover,5,0)]
  have l3:=b9.trans d8
  refine xe 23 (.tuple #[S0,.iface b2 (vr)]) ?_
  exact Vw ((Jr a8).trans b4) a0 l3 b3
 obtain⟨c2,n9⟩:∃ c,(Xu l s.blocks.toNat (s.blocks.toNat+1) c1 (0,s.details,3,0)).1=c:=⟨_,rfl⟩
 rw[n9] at ho hM m6 f3
 have m0:Kj (Xu l s.blocks.toNat (s.blocks.toNat+1)) [] [(0,s.top,1,0),(0,s.details,3,0)] c2:=l7.more n9 a0
 have n3:=m0.well
 have p1:Qg s.blocks.toNat c2≤30000000:=by have:=n3.2;unfold Qg at this ⊢;simp only[List.length_cons,List.length_nil] at this;omega
 have u1:unt c2 s.blocks.toNat<s.blocks.toNat+1:=by have:=n3.1;omega
 refine xlv 32 (j0.rpp 6 3) ?_
 refine xa 0 [V0 0,V0 0,V0 0] 81 fun s7 t8 a7=>?_
 have e3:=a7.ne j0
 have g1:=b9.trans d8
 have q9:=a7.ge g1
 have d3:=Zr ho a7
 refine xsv 0 a7.blk [V0 0,V0 s.dslots,V0 4] fun t9 h9 p3=>?_
 refine xlv 5 p3.rp ?_
 have j8:=h9.own3 (Zb ho a7.below) d3
 have f8:=h9.blkT (m6.below a7.below) a7.blk (by decide)
 have k6:=(hM.below a7.below).updBlk h9 a7.blk
 have h3:=h9.blk (j0.below a7.below) (Ne.symm (Ne.symm e3))
 have a2:=h9.below (bln g1 a7.below) q9
 refine xc 0 (args:=#[P0 b5,.agg #[V0 0,V0 s.dslots,V0 4]]) (Mb w.heap.size Bi b b5 rm b6 [V0 0,V0 s.top,V0 1,V0 0,V0 s.details,V0 3,V0 0,V0 s.dslots,V0 4,V0 0,V0 s.dover,V0 5,V0 0,V0 s.mindex,V0 6,V0 0,V0 s.mover,V0 5] pi ni ci l s.blocks.toNat (s.blocks.toNat+1) r3 p2 c2 0 s.dslots 4 _ ⟨hI.below a2,f8,j8,k6,a2.size,g5,e5,h3,f3⟩ (by omega) (by omega) (by unfold Qg;first|(simp only[List.length_nil];omega)|(unfold Qg at p1;omega)) (by decide) (by decide)) ?_
 rintro e u4 k2
 rcases k2 with ⟨a0,b2,vr,rfl,d7,l5,b3⟩|⟨a0,r7,p6,rfl,d7,l5,⟨_,m7,ho,hM,_,_,_,l2,h1⟩⟩
 ·have b4:=m0.bad (x:=(0,s.dslots,4,0)) a0 [(0,s.dover,5,0),(0,s.mindex,6,0),(0,s.mover,5,0)]
  have g2:=a2.trans d7
  refine xe 23 (.tuple #[S0,.iface b2 (vr)]) ?_
  exact Vw ((Jr a8).trans b4) a0 g2 b3
 obtain⟨c3,e6⟩:∃ c,(Xu l s.blocks.toNat (s.blocks.toNat+1) c2 (0,s.dslots,4,0)).1=c:=⟨_,rfl⟩
 rw[e6] at ho hM m7 h1
 have i9:Kj (Xu l s.blocks.toNat (s.blocks.toNat+1)) [] [(0,s.top,1,0),(0,s.details,3,0),(0,s.dslots,4,0)] c3:=m0.more e6 a0
 have n0:=i9.well
 have q6:Qg s.blocks.toNat c3≤30000000:=by have:=n0.2;unfold Qg at this ⊢;simp only[List.length_cons,List.length_nil] at this;omega
 have s6:unt c3 s.blocks.toNat<s.blocks.toNat+1:=by have:=n0.1;omega
 refine xlv 32 (l2.rpp 9 3) ?_
 refine xa 0 [V0 0,V0 0,V0 0] 81 fun t3 s3 b0=>?_
 have e4:=b0.ne l2
 have c9:=a2.trans d7
 have p9:=b0.ge c9
 have d5:=Zr ho b0
 refine xsv 0 b0.blk [V0 0,V0 s.dover,V0 5] fun s9 f4 o9=>?_
 refine xlv 5 o9.rp ?_
 have l8:=f4.own3 (Zb ho b0.below) d5
 have e7:=f4.blkT (m7.below b0.below) b0.blk (by decide)
 have m2:=(hM.below b0.below).updBlk f4 b0.blk
 have h5:=f4.blk (l2.below b0.below) (Ne.symm (Ne.symm e4))
 have a1:=f4.below (bln c9 b0.below) p9
 refine xc 0 (args:=#[P0 b5,.agg #[V0 0,V0 s.dover,V0 5]]) (Mb w.heap.size Bi b b5 rm b6 [V0 0,V0 s.top,V0 1,V0 0,V0 s.details,V0 3,V0 0,V0 s.dslots,V0 4,V0 0,V0 s.dover,V0 5,V0 0,V0 s.mindex,V0 6,V0 0,V0 s.mover,V0 5] pi ni ci l s.blocks.toNat (s.blocks.toNat+1) r7 p6 c3 0 s.dover 5 _ ⟨hI.below a1,e7,l8,m2,a1.size,g5,e5,h5,h1⟩ (by omega) (by omega) (by unfold Qg;first|(simp only[List.length_nil];omega)|(unfold Qg at q6;omega)) (by decide) (by decide)) ?_
 rintro e t7 j9
 rcases j9 with ⟨a0,b2,vr,rfl,d9,j4,b3⟩|⟨a0,q1,r1,rfl,d9,j4,⟨_,o4,ho,hM,_,_,_,i7,i0⟩⟩
 ·have b4:=i9.bad (x:=(0,s.dover,5,0)) a0 [(0,s.mindex,6,0),(0,s.mover,5,0)]
  have f5:=a1.trans d9
  refine xe 23 (.tuple #[S0,.iface b2 (vr)]) ?_
  exact Vw ((Jr a8).trans b4) a0 f5 b3
 obtain⟨c4,n4⟩:∃ c,(Xu l s.blocks.toNat (s.blocks.toNat+1) c3 (0,s.dover,5,0)).1=c:=⟨_,rfl⟩
 rw[n4] at ho hM o4 i0
 have k0:Kj (Xu l s.blocks.toNat (s.blocks.toNat+1)) [] [(0,s.top,1,0),(0,s.details,3,0),(0,s.dslots,4,0),(0,s.dover,5,0)] c4:=i9.more n4 a0
 have m3:=k0.well
 have q4:Qg s.blocks.toNat c4≤30000000:=by have:=m3.2;unfold Qg at this ⊢;simp only[List.length_cons,List.length_nil] at this;omega
 have s4:unt c4 s.blocks.toNat<s.blocks.toNat+1:=by have:=m3.1;omega
 refine xlv 32 (i7.rpp 12 3) ?_
 refine xa 0 [V0 0,V0 0,V0 0] 81 fun s8 u0 b8=>?_
 have d6:=b8.ne i7
 have c8:=a1.trans d9
 have r0:=b8.ge c8
 have d0:=Zr ho b8
 refine xsv 0 b8.blk [V0 0,V0 s.mindex,V0 6] fun t5 h0 q3=>?_
 refine xlv 5 q3.rp ?_
 have k7:=h0.own3 (Zb ho b8.below) d0
 have f9:=h0.blkT (o4.below b8.below) b8.blk (by decide)
 have i5:=(hM.below b8.below).updBlk h0 b8.blk
 have g9:=h0.blk (i7.below b8.below) (Ne.symm (Ne.symm d6))
 have a4:=h0.below (bln c8 b8.below) r0
 refine xc 0 (args:=#[P0 b5,.agg #[V0 0,V0 s.mindex,V0 6]]) (Mb w.heap.size Bi b b5 rm b6 [V0 0,V0 s.top,V0 1,V0 0,V0 s.details,V0 3,V0 0,V0 s.dslots,V0 4,V0 0,V0 s.dover,V0 5,V0 0,V0 s.mindex,V0 6,V0 0,V0 s.mover,V0 5] pi ni ci l s.blocks.toNat (s.blocks.toNat+1) q1 r1 c4 0 s.mindex 6 _ ⟨hI.below a4,f9,k7,i5,a4.size,g5,e5,g9,i0⟩ (by omega) (by omega) (by unfold Qg;first|(simp only[List.length_nil];omega)|(unfold Qg at q4;omega)) (by decide) (by decide)) ?_
 rintro e t1 l6
 rcases l6 with ⟨a0,b2,vr,rfl,e2,j6,b3⟩|⟨a0,q5,o8,rfl,e2,j6,⟨_,o1,ho,hM,_,_,_,l4,f1⟩⟩
 ·have b4:=k0.bad (x:=(0,s.mindex,6,0)) a0 [(0,s.mover,5,0)]
  have h6:=a4.trans e2
  refine xe 23 (.tuple #[S0,.iface b2 (vr)]) ?_
  exact Vw ((Jr a8).trans b4) a0 h6 b3
 obtain⟨c5,o2⟩:∃ c,(Xu l s.blocks.toNat (s.blocks.toNat+1) c4 (0,s.mindex,6,0)).1=c:=⟨_,rfl⟩
 rw[o2] at ho hM o1 f1
 have k1:Kj (Xu l s.blocks.toNat (s.blocks.toNat+1)) [] [(0,s.top,1,0),(0,s.details,3,0),(0,s.dslots,4,0),(0,s.dover,5,0),(0,s.mindex,6,0)] c5:=k0.more o2 a0
 have o6:=k1.well
 have p0:Qg s.blocks.toNat c5≤30000000:=by have:=o6.2;unfold Qg at this ⊢;simp only[List.length_cons,List.length_nil] at this;omega
 have r8:unt c5 s.blocks.toNat<s.blocks.toNat+1:=by have:=o6.1;omega
 refine xlv 32 (l4.rpp 15 3) ?_
 refine xa 0 [V0 0,V0 0,V0 0] 81 fun u7 t6 a6=>?_
 have d1:=a6.ne l4
 have c7:=a4.trans e2
 have p5:=a6.ge c7
 have e1:=Zr ho a6
 refine xsv 0 a6.blk [V0 0,V0 s.mover,V0 5] fun u5 i1 q2=>?_
 refine xlv 5 q2.rp ?_
 have k9:=i1.own3 (Zb ho a6.below) e1
 have e8:=i1.blkT (o1.below a6.below) a6.blk (by decide)
 have j5:=(hM.below a6.below).updBlk i1 a6.blk
 have f0:=i1.blk (l4.below a6.below) (Ne.symm (Ne.symm d1))
 have a3:=i1.below (bln c7 a6.below) p5
 refine xc 0 (args:=#[P0 b5,.agg #[V0 0,V0 s.mover,V0 5]]) (Mb w.heap.size Bi b b5 rm b6 [V0 0,V0 s.top,V0 1,V0 0,V0 s.details,V0 3,V0 0,V0 s.dslots,V0 4,V0 0,V0 s.dover,V0 5,V0 0,V0 s.mindex,V0 6,V0 0,V0 s.mover,V0 5] pi ni ci l s.blocks.toNat (s.blocks.toNat+1) q5 o8 c5 0 s.mover 5 _ ⟨hI.below a3,e8,k9,j5,a3.size,g5,e5,f0,f1⟩ (by omega) (by omega) (by unfold Qg;first|(simp only[List.length_nil];omega)|(unfold Qg at p0;omega)) (by decide) (by decide)) ?_
 rintro e u3 j3
 rcases j3 with ⟨a0,b2,vr,rfl,d2,j2,b3⟩|⟨a0,q0,r4,rfl,d2,j2,⟨_,o5,ho,hM,_,_,_,u2,i8⟩⟩
 ·have b4:=k1.bad (x:=(0,s.mover,5,0)) a0 []
  have h7:=a3.trans d2
  refine xe 23 (.tuple #[S0,.iface b2 (vr)]) ?_
  exact Vw ((Jr a8).trans b4) a0 h7 b3
 obtain⟨c6,o0⟩:∃ c,(Xu l s.blocks.toNat (s.blocks.toNat+1) c5 (0,s.mover,5,0)).1=c:=⟨_,rfl⟩
 rw[o0] at ho hM o5 i8
 have i4:Kj (Xu l s.blocks.toNat (s.blocks.toNat+1)) [] [(0,s.top,1,0),(0,s.details,3,0),(0,s.dslots,4,0),(0,s.dover,5,0),(0,s.mindex,6,0),(0,s.mover,5,0)] c6:=k1.more o0 a0
 have n8:=i4.well
 have u9:Qg s.blocks.toNat c6≤30000000:=by have:=n8.2;unfold Qg at this ⊢;simp only[List.length_cons,List.length_nil] at this;omega
 have t2:unt c6 s.blocks.toNat<s.blocks.toNat+1:=by have:=n8.1;omega
 refine xb 35 3 o5 ?_
 have i2:=a3.trans d2
 refine xe 5 (.tuple #[.slice q0 c6.length r4,.nilIface]) ?_
 have e9:=Jr (l:=l) a8
 exact linksP_ok (by rw[e9];exact i4.1) (by rw[e9];exact i4.2) rfl i2 ho
end Go.Proofs.YtceeiinepijokaaGreat
