/- Package size: how many blocks a pool needs. -/
import Derived.Laws.StructEq
import Derived.Test.YtekomodnkfhihaaGreatDoorMg3
namespace Go.Proofs.YtekomodnkfhihaaGreatDoor
set_option maxHeartbeats 8000000
set_option maxRecDepth 100000
open Go.RowKit Go.Extern.Stop Go.Stop Go.Extern
set_option linter.unusedVariables false
attribute [local irreducible] wpList wpAnyH Code.wp Oper.wp Go
theorem Us{cs:List Nat}{i:Nat}(h:i<cs.length):(cs.take (i+1)).sum=(cs.take i).sum+cs.getD i 0:=by
 rw[A4 h,E7];simp[List.getD,h]
theorem Af(cs:List Nat)(i:Nat):(cs.take i).sum≤cs.sum:=by
 conv=>rhs;rw[←F6 i cs]
 rw[E7];omega
theorem Xn{w:World}{pc:O0}{n m:Nat}{cs:List Nat}(h:Sl w (.slice pc n m) n (cs.map nv))(hn:cs.length=n){k:Nat}(hk:k<n):pc.isSome=true∧w.cell? (Zr pc (k*1))=some (V0 ((cs.getD k 0:Nat):Int)):=Ki h M0
theorem Sm(a:O0)(n c:Nat)(cs:List Nat)(w:World)(hn:cs.length=n)(h:Sl w (.slice a n c) n (cs.map nv))(hs:cs.sum≤1000000000) :
 C0 81 #[.slice a n c] w (Ret (V0 (cs.sum:Int)) w):=by
 have a4:=Sl.len h
 refine zin 17 Tryz.func81 ?_
 have hB:=Below.refl w.heap.size w
 refine zl 19 17 (fun zm a1 V=>∃ (i:Nat),a1=[(2,V0 0),(3,V0 (↑((cs.take i).sum):Int)),(6,.slice a n c),(7,V0 (n:Int)),(8,V0 (i:Int))]∧zm=n-((i:Int)).toNat∧Bl w V∧i≤n) ⟨0,rfl,rfl,hB,A6 _⟩ ?_
 rintro _ _ W1 ⟨i,rfl,rfl,a0,hi⟩ J1 a2 r1
 have a6:=Af cs (i+1)
 refine xid 6 ((i:Int)<(n:Int)) (fun a3=>?_) (fun a3=>?_)
 ·have a5:=Us (cs:=cs) (i:=i) M0
  refine xx 6 _ n i 1 (Xn h hn (k:=i) M0).1 ?_
  refine xl 0 ((Xn (h.below a0) hn (k:=i) M0).2) ?_
  refine xwm 6 ((↑((cs.take i).sum):Int)+(↑(cs.getD i 0):Int)) (↑(((cs.take i).sum)+(cs.getD i 0)):Int) ?_
  refine xwm 5 ((i:Int)+1) (↑(i+1):Int) ?_
  refine xv1 2 3 (show(V0 (↑(((cs.take i).sum)+(cs.getD i 0)):Int):Value)=V0 (↑((cs.take (i+1)).sum):Int) from by rw[Us (i:=i) M0]) ?_
  exact ze 0 (a2 _ _ _ ⟨i+1,rfl,rfl,a0,by omega⟩ M0)
 exact xe 12 (V0 (↑((cs.take i).sum):Int)) ⟨by rw[A5 M0],a0⟩
theorem Im(p:O0)(c n x:Nat)(t u v:Int)(Z:List Zv)(w:World)(hZ:Z.length=n)(hP:DevsR w p c Z)(hk:PoolOk t u v (x:Int) (Z.map Prod.fst)) :
 C0 82 #[.agg #[V0 t,V0 u,V0 v,V0 (x:Int),.slice p n c]] w (Ret (V0 (↑(Sc x (Z.map Prod.fst)):Int)) w):=by
 have hx:x≤65536:=by have:=hk.hdata;omega
 refine zin 19 Tryz.func82 ?_
 refine xa 2 [V0 t,V0 u,V0 v,V0 (x:Int),.slice p n c] 24 fun b1 W1 n1=>?_
 refine xlv 11 n1.blk.rp ?_
 refine xc 0 (args:=#[.agg #[V0 t,V0 u,V0 v,V0 (x:Int),.slice p n c]]) (Bk p c n x t u v Z _ hZ (hP.below n1.below) hk) ?_
 rintro _ W2 ⟨_,rfl,a6,q9,d9,rfl,a2⟩
 have a3:=Zf a2 n1.below.size
 have a4:=bln n1.below a6
 have a5:=n1.blk.below a6
 refine zl 5 19 (fun zm a9 V=>∃ (i:Nat),a9=[(2,V0 0),(3,V0 (↑(Yo (Qe x (Z.map Prod.fst)) i):Int)),(7,.slice q9 x d9),(8,V0 (x:Int)),(9,V0 (i:Int))]∧zm=x-((i:Int)).toNat∧Bl w V∧Blk V b1 ([V0 t,V0 u,V0 v,V0 (x:Int),.slice p n c]) 24∧V.ownsRow w.heap.size 3 1 (.slice q9 x d9) x ((Qe x (Z.map Prod.fst)).map nv)∧i≤x) ⟨0,rfl,rfl,a4,a5,a3,A6 _⟩ ?_
 rintro _ _ W3 ⟨i,rfl,rfl,a1,a0,a2,hi⟩ J3 a7 r3
 refine xid 6 ((i:Int)<(x:Int)) (fun b0=>?_) (fun b0=>?_)
 ·have b2:Yo (Qe x (Z.map Prod.fst)) i≤i:=by unfold Yo;exact N0 (I9 _ _) (by rw[D1];exact I2 _ _)
  refine xx 6 _ x i 1 (Xn (Ze a2) (Ya _ _) (k:=i) M0).1 ?_
  refine xl 0 ((Xn (Ze a2) (Ya _ _) (k:=i) M0).2) ?_
  refine xid 9 ((↑((Qe x (Z.map Prod.fst)).getD i 0):Int)≥(3:Int)) (fun a8=>?_) (fun a8=>?_)
  ·refine xwm 2 ((↑(Yo (Qe x (Z.map Prod.fst)) i):Int)+1) (↑((Yo (Qe x (Z.map Prod.fst)) i)+1):Int) ?_
   refine xwm 5 ((i:Int)+1) (↑(i+1):Int) ?_
   refine xv1 2 3 (show(V0 (↑((Yo (Qe x (Z.map Prod.fst)) i)+1):Int):Value)=V0 (↑(Yo (Qe x (Z.map Prod.fst)) (i+1)):Int) from by rw[Qs (k:=i) (by rw[Ya];omega),if_pos M0]) ?_
   exact ze 0 (a7 _ _ _ ⟨i+1,rfl,rfl,a1,a0,a2,by omega⟩ M0)
  refine xwm 4 ((i:Int)+1) (↑(i+1):Int) ?_
  refine xv1 2 3 (show(V0 (↑(Yo (Qe x (Z.map Prod.fst)) i):Int):Value)=V0 (↑(Yo (Qe x (Z.map Prod.fst)) (i+1)):Int) from by rw[Qs (k:=i) (by rw[Ya];omega),if_neg M0,H3]) ?_
  exact ze 0 (a7 _ _ _ ⟨i+1,rfl,rfl,a1,a0,a2,by omega⟩ M0)
 exact xe 12 (V0 (↑(Yo (Qe x (Z.map Prod.fst)) i):Int)) ⟨by obtain rfl:i=x:=M0;rfl,a1⟩
theorem devs_row{Z:List Zv}{i:Nat}(h:i<Z.length):((((Z.map Prod.fst).map fun d=>Zy 2 d.2.length).take i).map nv)++[V0 (↑(Zy 2 (Z.getD i zvD).1.2.length):Int)]=((((Z.map Prod.fst).map fun d=>Zy 2 d.2.length).take (i+1)).map nv):=by
 rw[A4 (by simpa using h),B6]
 simp[List.getD,h,nv]
theorem Fs{data:Int}{Z:List Zv}(hk:DevsOk data (Z.map Prod.fst)){i:Nat}(h:i<Z.length):(Z.getD i zvD).1.2.length≤16384:=by
 have a:=hk.sum
 have b:=Wm (L:=Z.map Prod.fst) (i:=i) (by rw[A0];exact h)
 rw[Zdo h] at b
 omega
theorem Fx{L:List Dv}:(L.map fun d=>Zy 2 d.2.length).length=L.length:=A0 ..
theorem Zdb(b a1 a2 a3 a4 a5 a6:Nat)(w:World)(k:Blk w b [V0 1,V0 (a1:Int),V0 (a2:Int),V0 (a3:Int),V0 (a4:Int),V0 (a5:Int),V0 (a6:Int)] 3)(h:1+a1+a2+a3+a4+a5+a6≤1000000000) :
 C0 81 #[.slice (S1 b) 7 7] w (Ret (V0 (↑(1+a1+a2+a3+a4+a5+a6):Int)) w):=by
 have e:[1,a1,a2,a3,a4,a5,a6].sum=1+a1+a2+a3+a4+a5+a6:=by simp only[G0,List.sum_nil];omega
 have q:=Sm (S1 b) 7 7 [1,a1,a2,a3,a4,a5,a6] w rfl (k.sl 7 7 Do Do) (by rw[e];exact h)
 rw[e] at q
 exact q
theorem Zb2{x n:Nat}{L:List Dv}(h:L.length=n):1+Zy 3 n+Zy 1 n+Jk L+bmN x+Zy 4 (bmN x)+Zy 5 (Sc x L)=Ko x L:=by
 subst h;rfl
theorem Bd(p:O0)(c n x:Nat)(t u v:Int)(Z:List Zv)(w:World)(hZ:Z.length=n)(hP:DevsR w p c Z)(hk:PoolOk t u v (x:Int) (Z.map Prod.fst)) :
 C0 33 #[.agg #[V0 t,V0 u,V0 v,V0 (x:Int),.slice p n c]] w (Ret (V0 (↑(Ko x (Z.map Prod.fst)):Int)) w):=by
 have hx:x≤65536:=by have:=hk.hdata;omega
 have d0:(Z.map Prod.fst).length=n:=by rw[A0];exact hZ
 have d8:=hk.devs.few
 have f1:=hk.devs.sum
 rw[d0] at d8
 have e5:=Mw hk.devs
 have f2:=Wk hx hk.devs
 have f3:bmN x≤69:=by unfold bmN;omega
 have f8:=Sl.len (hP.rowN hZ)
 refine zin 46 Tryz.func33 ?_
 refine xa 2 [V0 t,V0 u,V0 v,V0 (x:Int),.slice p n c] 24 fun b1 W1 n1=>?_
 refine xlv 6 n1.blk.rp ?_
 refine xr 0 (args:=#[.agg #[V0 t,V0 u,V0 v,V0 (x:Int),.slice p n c]]) (Vm p c n t u v (x:Int) Z _ hZ (hP.below n1.below)) fun W2 d5=>?_
 refine xk 3 (show(((Ye t u v (x:Int) (Z.map Prod.fst)) != (0:Int)):Bool)=false from by rw[Kf.2 hk];rfl) ?_
 have a9:=n1.blk.below d5
 refine xb 11 4 a9 ?_
 have c9:=bln n1.below d5
 refine zl 5 46 (fun zm e0 V=>∃ (i:Nat) (p3:O0) (c3:Nat),e0=[(1,P0 b1),(2,V0 0),(3,.slice p3 i c3),(11,.slice p n c),(12,V0 (n:Int)),(13,V0 (i:Int))]∧zm=n-((i:Int)).toNat∧Bl w V∧Blk V b1 ([V0 t,V0 u,V0 v,V0 (x:Int),.slice p n c]) 24∧V.ownsRow w.heap.size 3 1 (.slice p3 i c3) i ((((Z.map Prod.fst).map fun d=>Zy 2 d.2.length).take i).map nv)∧i≤n) ⟨0,none,0,rfl,rfl,c9,a9,A9 _ _ _ _,A6 _⟩ ?_
 rintro _ _ W3 ⟨i,p3,c3,rfl,rfl,a2,a1,hl,hi⟩ J3 e1 r3
 refine xid 6 ((i:Int)<(n:Int)) (fun d7=>?_) (fun d7=>?_)
 ·have f7:=Fs hk.devs (i:=i) M0
  refine xx 6 _ n i 5 (hP.someN hZ (i:=i) M0) ?_
  refine xlv 0 (Sts.rp (k:=i) (hP.below a2).row Xu zvD M0 Do) ?_
  refine xa 0 [V0 0,V0 0,V0 0,V0 0,S0] 32 fun b5 W5 n5=>?_
  have g5:=n5.ge a2
  refine xsv 0 n5.blk [V0 ((Z.getD i zvD).1.1.1),V0 ((Z.getD i zvD).1.1.2.1),V0 ((Z.getD i zvD).1.1.2.2.1),V0 ((Z.getD i zvD).1.1.2.2.2),.slice ((Z.getD i zvD).2.1) ((Z.getD i zvD).1.2.length) ((Z.getD i zvD).2.2)] fun W6 u6 k6=>?_
  refine xb 5 4 k6 ?_
  refine xr 1 (args:=#[V0 2,V0 (↑((Z.getD i zvD).1.2.length):Int)]) (Xi 2 ((Z.getD i zvD).1.2.length) _ Do Do M0) fun W7 d1=>?_
  refine xbs 0 1 [V0 (↑(Zy 2 ((Z.getD i zvD).1.2.length)):Int)] 3 fun b8 W8 n8=>?_
  have b4:=bln (u6.below (bln a2 n5.below) g5) d1
  have g8:=n8.ge b4
  have b6:=Za (u6.own2 (Za hl n5.below) n5.blk Do) d1
  have d3:=Zg b6 n8
  have c0:=Za b6 n8.below
  have b9:=bln b4 n8.below
  refine xbi 0 fun _ _ _ _ zJ zQ zo zx zy zK=>Zz (m:=1) (news:=[V0 (↑(Zy 2 ((Z.getD i zvD).1.2.length)):Int)]) (V0 0) 1 8 (i+1) (((((Z.map Prod.fst).map fun d=>Zy 2 d.2.length).take (i+1)).map nv)) zo Tryz.underlying27 K0 rfl Do zx c0 zy (n8.blk.sl 1 1 Do Do) rfl (by simp[Value.oneCell']) (by unfold maxLen;omega) M0 b9.size (by rfl) (by exact devs_row M0) fun e3 e4 W9 o9 d6 d9=>?_
  refine zK _ _ ?_
  refine xwm 5 ((i:Int)+1) (↑(i+1):Int) ?_
  have c7:=b9.trans d9
  have a3:=(((u6.blkT (a1.below n5.below) n5.blk Do).below d1).below n8.below).grown d6 c0 Do
  exact ze 2 (e1 _ _ _ ⟨i+1,_,_,rfl,rfl,c7,a3,o9,by omega⟩ M0)
 obtain rfl:n=i:=by omega
 rw[A5 (by rw[Fx,A0];omega)] at hl
 refine xb 8 3 a1 ?_
 refine xr 0 (args:=#[V0 (x:Int)]) (Ux x _ hx) fun c8 a4=>?_
 refine xd 4 .z ?_
 have a0:=(a1.below a4).below (Zb c8)
 refine xb (.e [0] 1) 4 a0 ?_
 refine xb (.e [2,4] 5) 4 a0 ?_
 refine xlv (.e [6,8,10,11] 13) a0.rp ?_
 refine xr (.o [] 3) (args:=#[V0 3,V0 (n:Int)]) (Xi 3 n _ Do Do M0) fun f5 a7=>?_
 refine xr (.o [] 7) (args:=#[V0 1,V0 (n:Int)]) (Xi 1 n _ Do Do M0) fun e2 b7=>?_
 have b2:=Za (Za (Za (Za hl a4) (Zb c8)) a7) b7
 refine xr (.o [] 9) (args:=#[.slice p3 n c3]) (Sm p3 n c3 ((Z.map Prod.fst).map fun d=>Zy 2 d.2.length) _ (by rw[Fx,A0];exact hZ) (Ze b2) (by have:=Sb (L:=(Z.map Prod.fst));unfold Jk at this;omega)) fun f0 b3=>?_
 refine xr (.o [] 12) (args:=#[V0 4,V0 (↑(bmN x):Int)]) (Xi 4 (bmN x) _ Do Do M0) fun f4 c1=>?_
 have a5:=bln (bln (bln (bln (bln (bln a2 a4) (Zb c8)) a7) b7) b3) c1
 refine xr (.o [] 14) (args:=#[.agg #[V0 t,V0 u,V0 v,V0 (x:Int),.slice p n c]]) (Im p c n x t u v Z _ hZ (hP.below a5) hk) fun e7 a8=>?_
 refine xr (.o [] 15) (args:=#[V0 5,V0 (↑(Sc x (Z.map Prod.fst)):Int)]) (Xi 5 (Sc x (Z.map Prod.fst)) _ Do Do M0) fun e8 b0=>?_
 refine xbs (.o [] 16) 7 [V0 1,V0 (↑(Zy 3 n):Int),V0 (↑(Zy 1 n):Int),V0 (↑(Jk (Z.map Prod.fst)):Int),V0 (↑(bmN x):Int),V0 (↑(Zy 4 (bmN x)):Int),V0 (↑(Zy 5 (Sc x (Z.map Prod.fst))):Int)] 3 fun d4 e6 c2=>?_
 have a6:=bln (bln a5 a8) b0
 have e9:=c2.ge a6
 have c6:=Za (Za (Za (Za b2 b3) c1) a8) b0
 have d2:=Zg c6 c2
 refine xr (.o [] 17) (args:=#[.slice (S1 d4) 7 7]) (by have q:=Zdb d4 (Zy 3 n) (Zy 1 n) (Jk (Z.map Prod.fst)) (bmN x) (Zy 4 (bmN x)) (Zy 5 (Sc x (Z.map Prod.fst))) _ c2.blk (by rw[Zb2 d0];omega);rw[Zb2 d0] at q;exact q) fun f6 c4=>?_
 have c5:=bln (bln a6 c2.below) c4
 exact xe (.r [18] 3) (V0 (↑(Ko x (Z.map Prod.fst)):Int)) ⟨rfl,c5⟩
theorem need_quo(bs:Nat)(h:bs≤100000):IntKind.i64.wrap (Int.tdiv (↑(bs+1):Int) 959)=(↑((bs+1)/959):Int):=by
 rw[show(959:Int)=((959:Nat):Int) from rfl,←Int.ofNat_tdiv]
 exact IntWalk.i64_in _ M0
theorem Zbt(p:O0)(c n x:Nat)(t u v:Int)(Z:List Zv)(w:World)(hZ:Z.length=n)(hP:DevsR w p c Z)(hk:PoolOk t u v (x:Int) (Z.map Prod.fst)) :
 C0 11 #[.agg #[V0 t,V0 u,V0 v,V0 (x:Int),.slice p n c]] w (Ret (V0 (↑(Ts x (Z.map Prod.fst)):Int)) w):=by
 have hx:x≤65536:=by have:=hk.hdata;omega
 have a2:=Wk hx hk.devs
 obtain⟨bs,a0⟩:∃ y,Ko x (Z.map Prod.fst)=y:=⟨_,rfl⟩
 rw[a0] at a2
 refine zin 17 Tryz.func11 ?_
 refine xa 2 [V0 t,V0 u,V0 v,V0 (x:Int),.slice p n c] 24 fun b1 W1 n1=>?_
 refine xlv 5 n1.blk.rp ?_
 refine xr 0 (args:=#[.agg #[V0 t,V0 u,V0 v,V0 (x:Int),.slice p n c]]) (by have q:=Bd p c n x t u v Z _ hZ (hP.below n1.below) hk;rw[a0] at q;exact q) fun W2 a3=>?_
 refine xk 10 (show(((bs:Int)==(0:Int)):Bool)=false from beq_false_of_ne M0) ?_
 refine xwm 5 ((bs:Int)+2) (↑(bs+2):Int) ?_
 refine xwm 7 ((↑(bs+2):Int)-1) (↑((bs+2)-1):Int) ?_
 refine xq 0 (congrArg V0 (show(IntKind.i64.wrap (Int.tdiv (↑((bs+2)-1):Int) 959):Int)=(↑((bs+1)/959):Int) from need_quo bs a2.2)) ?_
 refine xwm 0 ((↑(bs+2):Int)+(↑((bs+1)/959):Int)) (↑((bs+2)+((bs+1)/959)):Int) ?_
 refine xwm 0 ((↑((bs+2)+((bs+1)/959)):Int)+1) (↑(((bs+2)+((bs+1)/959))+1):Int) ?_
 have a1:=bln n1.below a3
 exact xe 4 (V0 (↑(((bs+2)+((bs+1)/959))+1):Int)) ⟨by unfold Ts Li;rw[a0];exact congrArg (fun z:Int=>Ending.returned (Value.int .i64 z)) M0,a1⟩
theorem Ap{cs O:List Nat}{j:Nat}(h:j<O.length):Qx cs (O.take (j+1))=Ld (Qx cs (O.take j)) (↑(O.getD j 0):Int):=by
 rw[A4 h,Bg,show O.getD j 0=O[j] from by simp[List.getD,h]];rfl
theorem Zbe{n:Nat}{O:List Nat}{j:Nat}(h:j<O.length):((Qx (List.replicate n 0) (O.take j)).map nv).set (O.getD j 0) (V0 (↑((Qx (List.replicate n 0) (O.take j)).getD (O.getD j 0) 0+1):Int))=(Qx (List.replicate n 0) (O.take (j+1))).map nv:=by
 rw[Zai,Ap h]
theorem Ex{n:Nat}{O:List Nat}(ho:∀ b∈O,b<n)(j k:Nat):(Qx (List.replicate n 0) (O.take j)).getD k 0≤O.length:=by
 rw[Cz _ _ (fun b hb=>by rw[A8];exact ho b (I0 hb))]
 have h0:(List.replicate n 0).getD k 0=0:=by simp[List.getD,I5];split<;>rfl
 have h1:=List.count_le_length (a:=k) (l:=O.take j)
 rw[D1] at h1
 omega
theorem getD_lt{n:Nat}{O:List Nat}(ho:∀ b∈O,b<n){j:Nat}(h:j<O.length):O.getD j 0<n:=ho _ (by rw[show O.getD j 0=O[j] from by simp[List.getD,h]];exact D6 h)
theorem quo959(m:Nat)(h:m≤1000000):IntKind.i64.wrap (Int.tdiv (m:Int) 959)=(↑(m/959):Int):=by
 rw[show(959:Int)=((959:Nat):Int) from rfl,←Int.ofNat_tdiv]
 exact IntWalk.i64_in _ M0
theorem okR{data:Int}{Z:List Zv}{n:Nat}(hZ:Z.length=n)(h:DevsOk data (Z.map Prod.fst))(hd:data≤65536):∀ i,i<n→(∀ m∈(Z.getD i zvD).1.2,MpR m)∧(Z.getD i zvD).1.2.length≤100000:=fun i hi=>by
 have hm:(Z.getD i zvD).1∈Z.map Prod.fst:=by
  rw[show Z.getD i zvD=Z[i] from by simp[List.getD,hZ▸hi]]
  exact List.mem_map.2 ⟨_,D6 (hZ▸hi),rfl⟩
 have h1:=(h.each _ hm).maps
 have h2:=Fs h (i:=i) M0
 refine⟨fun m hq=>?_,by omega⟩
 have q:=h1.each m hq
 unfold MpR InI
 omega
theorem Wy(a:O0)(n c:Nat)(O:List Nat)(w:World)(hn:O.length=n)(h:Sl w (.slice a n c) n (O.map nv))(ho:∀ b∈O,b<n)(hl:n≤100000) :
 C0 34 #[.slice a n c] w (Qh (fun w' r=>∃ q d,r=.slice q n d∧w'.ownsRow w.heap.size 3 1 (.slice q n d) n ((Qx (List.replicate n 0) O).map nv)) w):=by
 refine zin 23 Tryz.func34 ?_
 refine xmk 9 fun _ _ _ _ zJ zQ zo zx zy zK=>Ka n (V0 0) 1 8 ((List.replicate n (0:Nat)).map nv) zo zx zy Tryz.underlying27 K0 rfl M0 M0 ((zerosV n)) fun b1 W1 n1=>?_
 refine zK _ _ ?_
 have o1:=Xg (size:=1) (n:=n) n1.blk (n1.ge (B3 w)) (by rw[A0,A8,D0]) (by unfold maxLen;omega)
 refine zl 12 23 (fun zm a3 V=>∃ (j:Nat),a3=[(2,S0),(3,.slice (S1 b1) n n),(9,.slice a n c),(10,V0 (n:Int)),(11,V0 (j:Int))]∧zm=n-((j:Int)).toNat∧Bl w V∧V.ownsRow w.heap.size 3 1 (.slice (S1 b1) n n) n ((Qx (List.replicate n 0) (O.take j)).map nv)∧j≤n) ⟨0,rfl,rfl,n1.below,o1,A6 _⟩ ?_
 rintro _ _ W2 ⟨j,rfl,rfl,a0,hc,hj⟩ J2 a4 r2
 refine xid 6 ((j:Int)<(n:Int)) (fun a2=>?_) (fun a2=>?_)
 ·have a5:=getD_lt ho (j:=j) M0
  have a6:=Ex ho j (O.getD j 0)
  refine xx 6 _ n j 1 (Xn h hn (k:=j) M0).1 ?_
  refine xl 0 ((Xn (h.below a0) hn (k:=j) M0).2) ?_
  refine xx 6 _ n (O.getD j 0) 1 (show(some (⟨b1,0,none⟩:Addr)).isSome=true from rfl) ?_
  refine xl 0 ((Xn (Ze hc) (by rw[Bj,A8]) (k:=(O.getD j 0)) M0).2) ?_
  refine xwm 0 ((↑((Qx (List.replicate n 0) (O.take j)).getD (O.getD j 0) 0):Int)+1) (↑(((Qx (List.replicate n 0) (O.take j)).getD (O.getD j 0) 0)+1):Int) ?_
  refine xx 0 _ n (O.getD j 0) 1 (show(some (⟨b1,0,none⟩:Addr)).isSome=true from rfl) ?_
  refine xst 0 fun _ _ _ _ zJ zQ zo zx zy zK=>Yh (t:=3) (k:=(O.getD j 0)) (v:=V0 (↑(((Qx (List.replicate n 0) (O.take j)).getD (O.getD j 0) 0)+1):Int)) zo zx zy K0 rfl hc M0 fun W4 u4 o4=>?_
  rw[Zbe (n:=n) (O:=O) (j:=j) M0] at o4
  refine zK _ _ ?_
  refine xwm 4 ((j:Int)+1) (↑(j+1):Int) ?_
  have a1:=u4.below a0 (Va hc)
  exact ze 2 (a4 _ _ _ ⟨j+1,rfl,rfl,a1,o4,by omega⟩ M0)
 exact xe 12 (.slice (S1 b1) n n) ⟨_,rfl,a0,_,_,rfl,by have q:=hc;rw[A5 M0] at q;exact q⟩
theorem Pn(p:O0)(c n x:Nat)(t u v:Int)(Z:List Zv)(w:World)(hI:ItT w)(hZ:Z.length=n)(hP:DevsR w p c Z)(hk:PoolOk t u v (x:Int) (Z.map Prod.fst)) :
 C0 10 #[.agg #[V0 t,V0 u,V0 v,V0 (x:Int),.slice p n c]] w (Ret (V0 (↑(Jg x (Z.map Prod.fst)):Int)) w):=by
 have hx:x≤65536:=by have:=hk.hdata;omega
 have e9:=Sl.len (hP.rowN hZ)
 have d6:=hk.devs.few
 rw[A0] at d6
 have e0:=Wk hx hk.devs
 have c9:Jk (Z.map Prod.fst)+1≤Ko x (Z.map Prod.fst):=by unfold Ko;omega
 have c5:Tl x (Z.map Prod.fst)=Ko x (Z.map Prod.fst)-Vx (Z.map Prod.fst) (Z.map Prod.fst).length+1+Zy 5 (Nq (Z.map Prod.fst)):=rfl
 obtain⟨bs,c0⟩:∃ y,Ko x (Z.map Prod.fst)=y:=⟨_,rfl⟩
 rw[c0] at e0 c9 c5
 refine zin 50 Tryz.func10 ?_
 refine xa 2 [V0 t,V0 u,V0 v,V0 (x:Int),.slice p n c] 24 fun b1 W1 n1=>?_
 refine xlv 5 n1.blk.rp ?_
 refine xr 0 (args:=#[.agg #[V0 t,V0 u,V0 v,V0 (x:Int),.slice p n c]]) (by have q:=Bd p c n x t u v Z _ hZ (hP.below n1.below) hk;rw[c0] at q;exact q) fun W2 c1=>?_
 refine xk 10 (show(((bs:Int)==(0:Int)):Bool)=false from beq_false_of_ne M0) ?_
 have a9:=n1.blk.below c1
 refine xlv 10 a9.rp ?_
 have a3:=bln n1.below c1
 refine xc 0 (args:=#[.agg #[V0 t,V0 u,V0 v,V0 (x:Int),.slice p n c]]) (Kh p c n t u v (x:Int) Z _ (hI.below a3) hZ (hP.below a3) (okR hZ hk.devs M0) M0) ?_
 rintro _ W3 ⟨_,rfl,b8,q8,d8,rfl,d2⟩
 have e4:=(bln n1.below c1).size
 have a7:=Zf d2 e4
 refine xc 0 (args:=#[.slice q8 n d8]) (Wy q8 n d8 (owL (Z.map Prod.fst)) _ (by rw[Nj,A0];exact hZ) (Ze a7) (fun b hb=>by have:=Rv (Z.map Prod.fst) b hb;rw[A0] at this;omega) M0) ?_
 rintro _ W4 ⟨_,rfl,c4,q9,d9,rfl,a5⟩
 have d3:=(bln a3 b8).size
 have a4:=Zf a5 d3
 rw[show Qx (List.replicate n 0) (owL (Z.map Prod.fst))=shN (Z.map Prod.fst) from by unfold shN;rw[A0,hZ]] at a4
 refine xv1 5 3 (show(V0 (bs:Int):Value)=V0 (↑(bs-Vx (Z.map Prod.fst) 0):Int) from congrArg V0 (by first|rfl|simp[Vx,Yo])) ?_
 refine xv1 0 4 (show(V0 0:Value)=V0 (↑(Yo (shN (Z.map Prod.fst)) 0):Int) from congrArg V0 (by first|rfl|simp[Vx,Yo])) ?_
 have c2:=bln (bln a3 b8) c4
 have b2:=(a9.below b8).below c4
 refine zl 0 50 (fun zm e2 V=>∃ (i:Nat),e2=[(1,P0 b1),(2,V0 0),(3,V0 (↑(bs-Vx (Z.map Prod.fst) i):Int)),(4,V0 (↑(Yo (shN (Z.map Prod.fst)) i):Int)),(13,.slice q9 n d9),(14,V0 (n:Int)),(15,V0 (i:Int))]∧zm=n-((i:Int)).toNat∧Bl w V∧Blk V b1 ([V0 t,V0 u,V0 v,V0 (x:Int),.slice p n c]) 24∧V.ownsRow w.heap.size 3 1 (.slice q9 n d9) n ((shN (Z.map Prod.fst)).map nv)∧i≤n) ⟨0,rfl,rfl,c2,b2,a4,A6 _⟩ ?_
 rintro _ _ W5 ⟨i,rfl,rfl,a1,a0,a5,hi⟩ J5 b4 r5
 refine xid 6 ((i:Int)<(n:Int)) (fun e1=>?_) (fun e1=>?_)
 ·have b0:i<(Z.map Prod.fst).length:=by rw[A0];omega
  have c6:=Lq b0
  have e7:=Qs (cs:=shN (Z.map Prod.fst)) (k:=i) (by rw[Vi];exact b0)
  have a6:Vx (Z.map Prod.fst) (i+1)=Vx (Z.map Prod.fst) i+if Zw (Z.map Prod.fst) i=i then 0 else Zy 2 ((Z.map Prod.fst).getD i dvD).2.length:=rfl
  rw[Zdo M0] at a6
  have d5:=off_le (Z.map Prod.fst) (i:=i+1) b0
  have e8:=Fs hk.devs (i:=i) M0
  have e5:Yo (shN (Z.map Prod.fst)) i≤i:=by unfold Yo;exact N0 (I9 _ _) (by rw[D1];exact I2 _ _)
  refine xx 7 _ n i 1 (Xn (Ze a5) (by rw[Vi,A0];exact hZ) (k:=i) M0).1 ?_
  refine xl 0 ((Xn (Ze a5) (by rw[Vi,A0];exact hZ) (k:=i) M0).2) ?_
  refine xie 12 (↑((shN (Z.map Prod.fst)).getD i 0):Int) (0:Int) (fun d7=>?_) (fun d7=>?_)
  ·have b5:Zw (Z.map Prod.fst) i≠i:=fun q=>c6.1 q M0
   rw[if_neg b5] at a6
   refine xb 3 4 a0 ?_
   refine xx 1 _ n i 5 (hP.someN hZ (i:=i) M0) ?_
   refine xl 1 ((Sts.cell (hP.below a1).row Xu zvD (k:=i) (i:=4) M0 rfl).2) ?_
   refine xr 1 (args:=#[V0 2,V0 (↑((Z.getD i zvD).1.2.length):Int)]) (Xi 2 ((Z.getD i zvD).1.2.length) _ Do Do M0) fun W8 b7=>?_
   refine xw 0 ((↑(bs-Vx (Z.map Prod.fst) i):Int)-(↑(Zy 2 ((Z.getD i zvD).1.2.length)):Int)) ?_
   refine xwm 6 ((i:Int)+1) (↑(i+1):Int) ?_
   refine xv1 2 3 (show(V0 ((↑(bs-Vx (Z.map Prod.fst) i):Int)-(↑(Zy 2 ((Z.getD i zvD).1.2.length)):Int)):Value)=V0 (↑(bs-Vx (Z.map Prod.fst) (i+1)):Int) from congrArg V0 (by first|(have:(if 3≤(shN (Z.map Prod.fst)).getD i 0 then 1 else 0)=0:=by split<;>omega)<;>omega|omega)) ?_
   refine xv1 0 4 (show(V0 (↑(Yo (shN (Z.map Prod.fst)) i):Int):Value)=V0 (↑(Yo (shN (Z.map Prod.fst)) (i+1)):Int) from congrArg V0 (by first|(have:(if 3≤(shN (Z.map Prod.fst)).getD i 0 then 1 else 0)=0:=by split<;>omega)<;>omega|omega)) ?_
   have c3:=bln a1 b7
   have a2:=a0.below b7
   have a8:=Za a5 b7
   exact ze 0 (b4 _ _ _ ⟨i+1,rfl,rfl,c3,a2,a8,by omega⟩ M0)
  have b5:Zw (Z.map Prod.fst) i=i:=c6.2 M0
  rw[if_pos b5] at a6
  refine xid 7 ((↑((shN (Z.map Prod.fst)).getD i 0):Int)≥(3:Int)) (fun c8=>?_) (fun c8=>?_)
  ·refine xwm 2 ((↑(Yo (shN (Z.map Prod.fst)) i):Int)+1) (↑((Yo (shN (Z.map Prod.fst)) i)+1):Int) ?_
   refine xwm 6 ((i:Int)+1) (↑(i+1):Int) ?_
   refine xv1 2 3 (show(V0 (↑(bs-Vx (Z.map Prod.fst) i):Int):Value)=V0 (↑(bs-Vx (Z.map Prod.fst) (i+1)):Int) from congrArg V0 (by first|(have:(if 3≤(shN (Z.map Prod.fst)).getD i 0 then 1 else 0)=1:=by split<;>omega)<;>omega|omega)) ?_
   refine xv1 0 4 (show(V0 (↑((Yo (shN (Z.map Prod.fst)) i)+1):Int):Value)=V0 (↑(Yo (shN (Z.map Prod.fst)) (i+1)):Int) from congrArg V0 (by first|(have:(if 3≤(shN (Z.map Prod.fst)).getD i 0 then 1 else 0)=1:=by split<;>omega)<;>omega|omega)) ?_
   exact ze 0 (b4 _ _ _ ⟨i+1,rfl,rfl,a1,a0,a5,by omega⟩ M0)
  refine xwm 5 ((i:Int)+1) (↑(i+1):Int) ?_
  refine xv1 2 3 (show(V0 (↑(bs-Vx (Z.map Prod.fst) i):Int):Value)=V0 (↑(bs-Vx (Z.map Prod.fst) (i+1)):Int) from congrArg V0 (by first|(have:(if 3≤(shN (Z.map Prod.fst)).getD i 0 then 1 else 0)=0:=by split<;>omega)<;>omega|omega)) ?_
  refine xv1 0 4 (show(V0 (↑(Yo (shN (Z.map Prod.fst)) i):Int):Value)=V0 (↑(Yo (shN (Z.map Prod.fst)) (i+1)):Int) from congrArg V0 (by first|(have:(if 3≤(shN (Z.map Prod.fst)).getD i 0 then 1 else 0)=0:=by split<;>omega)<;>omega|omega)) ?_
  exact ze 0 (b4 _ _ _ ⟨i+1,rfl,rfl,a1,a0,a5,by omega⟩ M0)
 have c7:i=n:=by omega
 have e3:=Rl (Z.map Prod.fst)
 have d4:Yo (shN (Z.map Prod.fst)) i=Nq (Z.map Prod.fst):=by rw[c7];unfold Nq;rw[A0,hZ]
 have b9:Vx (Z.map Prod.fst) i=Vx (Z.map Prod.fst) (Z.map Prod.fst).length:=by rw[c7,A0,hZ]
 have d1:=Yp 5 (Yo (shN (Z.map Prod.fst)) i)
 have d0:=My x (Z.map Prod.fst)
 rw[A0] at e3
 refine xr 9 (args:=#[V0 5,V0 (↑(Yo (shN (Z.map Prod.fst)) i):Int)]) (Xi 5 (Yo (shN (Z.map Prod.fst)) i) _ Do Do M0) fun e6 b3=>?_
 refine xwm 0 (1+(↑(Zy 5 (Yo (shN (Z.map Prod.fst)) i)):Int)) (↑(1+(Zy 5 (Yo (shN (Z.map Prod.fst)) i))):Int) ?_
 refine xw 0 ((↑(bs-Vx (Z.map Prod.fst) i):Int)+(↑(1+(Zy 5 (Yo (shN (Z.map Prod.fst)) i))):Int)) ?_
 refine xw 7 ((↑(bs-Vx (Z.map Prod.fst) i):Int)+(↑(1+(Zy 5 (Yo (shN (Z.map Prod.fst)) i))):Int)-1) ?_
 refine xq 0 (congrArg V0 (show(IntKind.i64.wrap (Int.tdiv ((↑(bs-Vx (Z.map Prod.fst) i):Int)+(↑(1+(Zy 5 (Yo (shN (Z.map Prod.fst)) i))):Int)-1) 959):Int)=(↑((bs-Vx (Z.map Prod.fst) i+(1+Zy 5 (Yo (shN (Z.map Prod.fst)) i))-1)/959):Int) from(by rw[show((↑(bs-Vx (Z.map Prod.fst) i):Int)+(↑(1+(Zy 5 (Yo (shN (Z.map Prod.fst)) i))):Int)-1)=(↑(bs-Vx (Z.map Prod.fst) i+(1+Zy 5 (Yo (shN (Z.map Prod.fst)) i))-1):Int) by omega];exact quo959 _ M0))) ?_
 refine xw 0 ((↑(bs-Vx (Z.map Prod.fst) i):Int)+(↑(1+(Zy 5 (Yo (shN (Z.map Prod.fst)) i))):Int)+(↑((bs-Vx (Z.map Prod.fst) i+(1+Zy 5 (Yo (shN (Z.map Prod.fst)) i))-1)/959):Int)) ?_
 refine xw 0 ((↑(bs-Vx (Z.map Prod.fst) i):Int)+(↑(1+(Zy 5 (Yo (shN (Z.map Prod.fst)) i))):Int)+(↑((bs-Vx (Z.map Prod.fst) i+(1+Zy 5 (Yo (shN (Z.map Prod.fst)) i))-1)/959):Int)+1) ?_
 have b6:=bln a1 b3
 exact xe 4 (V0 ((↑(bs-Vx (Z.map Prod.fst) i):Int)+(↑(1+(Zy 5 (Yo (shN (Z.map Prod.fst)) i))):Int)+(↑((bs-Vx (Z.map Prod.fst) i+(1+Zy 5 (Yo (shN (Z.map Prod.fst)) i))-1)/959):Int)+1)) ⟨by rw[c0] at d0;unfold Jg Li;rw[c5,←d4,←b9];exact congrArg (fun z:Int=>Ending.returned (Value.int .i64 z)) M0,b6⟩
theorem Zab{l:List Int}(h:l.length≤65536)(ho:(Zh l l.length).length≤32768):2≤Ho l∧Ho l≤80000∧bmN l.length≤69:=by
 have h4:=Yp 4 (bmN l.length)
 have h5:=Yp 5 (Zh l l.length).length
 have a0:=Xk 4 (bmN l.length)
 have a1:=Xk 5 (Zh l l.length).length
 have hb:bmN l.length≤69:=by unfold bmN;omega
 unfold Ho
 omega
theorem Ol(B ba b g nn cc:Nat)(pa:O0)(ca f N k0:Nat)(bs:Bi)(a:O0)(c:Nat)(l:List Int)(w:World)(hC:AlC B ba nn cc ca f N)(hA:Al B ba b g nn cc pa ca f N k0 bs w)(h:Sl w (.slice a l.length c) l.length (l.map V0))(hl:l.length≤65536)(ho:(Zh l l.length).length≤32768)(hs:Yx l=0)(hf1:1≤f)(hkN:k0≤N)(hk:k0+Ho l≤N)(hBw:B≤w.heap.size) :
 C0 92 #[P0 ba,.slice a l.length c] w (DataP B ba b g nn cc pa ca f N k0 bs l w):=by
 have d4:=hC.hf
 have d5:=hC.hn
 have d9:=Zab hl ho
 have c3:=Wv hs
 have d3:=Gn l l.length
 have d7:Ho l=(bmN l.length)+Zy 4 (bmN l.length)+Zy 5 (Zh l l.length).length:=rfl
 have d6:=Yp 4 (bmN l.length)
 have d8:=Yp 5 (Zh l l.length).length
 refine zin 70 Tryz.func92 ?_
 refine xr 11 (args:=#[P0 ba]) (Hj ba b _ _ _ hA.blkA) fun W1 a1=>?_
 refine xc 9 (args:=#[.slice a l.length c]) (Hd a c l _ (h.below a1) M0 hs) ?_
 rintro _ W2 ⟨pb,cb,gs,po,co,rfl,a4,hL,b5⟩
 have c4:=(blB (Below.refl B w) hBw a1).size
 have a5:=(hA.below a1).below a4
 refine xr 23 (args:=#[P0 ba]) (Ua ba b pa N ca k0 _ a5.blkA hkN) fun W3 a2=>?_
 refine xr 4 (args:=#[V0 4,V0 (↑(bmN l.length):Int)]) (Xi 4 (bmN l.length) _ Do Do M0) fun W4 a0=>?_
 refine xwm 0 ((↑(bmN l.length):Int)+(↑(Zy 4 (bmN l.length)):Int)) (↑((bmN l.length)+(Zy 4 (bmN l.length))):Int) ?_
 refine xr 2 (args:=#[V0 5,V0 (↑((Zh l l.length).length):Int)]) (Xi 5 (Zh l l.length).length _ Do Do M0) fun W5 a3=>?_
 refine xwm 0 ((↑((bmN l.length)+(Zy 4 (bmN l.length))):Int)+(↑(Zy 5 (Zh l l.length).length):Int)) (↑(((bmN l.length)+(Zy 4 (bmN l.length)))+(Zy 5 (Zh l l.length).length)):Int) ?_
 refine xk 3 (show(decide ((↑(N-k0):Int)<(↑(((bmN l.length)+(Zy 4 (bmN l.length)))+(Zy 5 (Zh l l.length).length)):Int)):Bool)=false from decide_eq_false M0) ?_
 refine xa 4 [S0] 99 fun b6 W6 n6=>?_
 have hX:=(((((show Fr [ba,g] w _ from(Fr.of_below a1)).trans (Fr.of_below a4)).trans (Fr.of_below a2)).trans (Fr.of_below a0)).trans (Fr.of_below a3)).trans (Fr.of_below n6.below)
 have a6:=Za (Za (Za (Za (Zf b5 c4) a2) a0) a3) n6.below
 have a7:=(((a5.below a2).below a0).below a3).below n6.below
 have b3:=fun(W:World) (hX:Fr ([ba,g]++[b6]) _ W)=>own_keep a6 a7 n6.blk hX
 have b4:=(((hL.below a2).below a0).below a3).below n6.below
 have g6:=n6.ge0 (blB (blB (blB (blB (blB (Below.refl B w) hBw a1) hBw a4) hBw a2) hBw a0) hBw a3)
 have hB:=blB (blB (blB (blB (blB (blB (Below.refl B w) hBw a1) hBw a4) hBw a2) hBw a0) hBw a3) hBw n6.below
 refine xc 8 (args:=#[P0 ba,.slice pb (bmN l.length) cb,.func (.func 155) #[] #[P0 b6]]) (Oc B ba b g nn cc pa ca f N k0 bs b6 _ pb cb gs (Xa (Zi l) (bmN l.length)) (bmN l.length) (Qw _ _) _ hC a7 b4 (Ug c3.2 _) hf1 M0 n6.blk (N0 hBw g6) (N0 hBw hB.size)) ?_
 rintro _ W7 ⟨p8,c8,rfl,d1,d2,b8,hA,c9,c2⟩
 have c1:=(blB (blB (blB (blB (blB (blB (Below.refl B w) hBw a1) hBw a4) hBw a2) hBw a0) hBw a3) hBw n6.below).size
 replace b5:=b3 _ b8
 refine xb 15 0 c9 ?_
 have a8:=Zf c2 c1
 have b0:=hB.trans d1
 refine xc 0 (args:=#[P0 ba,V0 4,.slice p8 (bmN l.length) c8]) (Kb B ba b g nn cc pa ca f N (k0+(bmN l.length)) (Kn (Xa (Zi l) (bmN l.length)) (f+k0) bs (bmN l.length)) 4 p8 c8 (Xj (Xa (Zi l) (bmN l.length)) (f+k0) (bmN l.length)) (bmN l.length) _ (Vu _ _ _) hC hA Do Do (Ob _ _ _ M0) M0 hf1 M0 M0 (fun W _ h2=>by unfold Sts;rw[Vu];exact Ze (Zo a8 h2 Do)) (N0 hBw b0.size)) ?_
 rintro _ W8 ⟨rfl,c5,b9,c6,hA⟩
 rw[Vu] at hA
 have a9:=Zo b5 b9 Do
 have b1:=b0.trans c5
 refine xc 21 (args:=#[P0 ba,V0 5,.slice po ((Zh l l.length).length) co]) (Kb B ba b g nn cc pa ca f N (k0+(bmN l.length)+Zy 4 (bmN l.length)) (Vk 4 (Xj (Xa (Zi l) (bmN l.length)) (f+k0) (bmN l.length)) (f+(k0+(bmN l.length))) (Kn (Xa (Zi l) (bmN l.length)) (f+k0) bs (bmN l.length))).2 5 po co (Zh l l.length) (Zh l l.length).length _ rfl hC hA Do Do (Co _ _ M0) M0 hf1 M0 M0 (fun W _ h2=>Ze (Zo a9 h2 Do)) (N0 hBw b1.size)) ?_
 rintro _ W9 ⟨rfl,c7,d0,c0,hA⟩
 have b7:=b1.trans c7
 have hO:=((((((((show Zd [169,5,99,124,39] w _ from(Zd.of_below a1)).trans (Zd.of_below a4)).trans (Zd.of_below a2)).trans (Zd.of_below a0)).trans (Zd.of_below a3)).trans (Zd.of_below n6.below)).trans (d2.wide)).trans (b9.wide)).trans (d0.wide)
 have b2:=((Fr.trans_new hX b8 g6).trans (c6.mono (by simp))).trans (c0.mono (by simp))
 refine xe 27 (.tuple #[V0 ((Vk 4 (Xj (Xa (Zi l) (bmN l.length)) (f+k0) (bmN l.length)) (f+(k0+(bmN l.length))) (Kn (Xa (Zi l) (bmN l.length)) (f+k0) bs (bmN l.length))).1),V0 ((Vk 5 (Zh l l.length) (f+(k0+(bmN l.length)+Zy 4 (bmN l.length))) (Vk 4 (Xj (Xa (Zi l) (bmN l.length)) (f+k0) (bmN l.length)) (f+(k0+(bmN l.length))) (Kn (Xa (Zi l) (bmN l.length)) (f+k0) bs (bmN l.length))).2).1),.nilIface]) ?_
 have e1:f+(k0+(bmN l.length))=f+k0+(bmN l.length):=by omega
 have e2:f+(k0+(bmN l.length)+Zy 4 (bmN l.length))=f+k0+(bmN l.length)+Zy 4 (bmN l.length):=by omega
 rw[e2,e1] at hA ⊢
 have e3:k0+(bmN l.length)+Zy 4 (bmN l.length)+Zy 5 (Zh l l.length).length=k0+Ho l:=by omega
 rw[e3] at hA
 exact⟨rfl,b7,hO,b2,hA⟩
theorem Nr(w:World) :
 C0 147 #[] w (Qh (fun w' r=>∃ b,r=.slice (S1 b) 1 1∧w.heap.size≤b∧Blk w' b [V0 8,V0 0,V0 1099511627775] 298) w):=by
 refine zin 3 Tryz.func147 ?_
 refine xbs 8 1 [V0 8,V0 0,V0 1099511627775] 298 fun b1 W1 n1=>?_
 exact xe 4 (.slice (S1 b1) 1 1) ⟨_,rfl,n1.below,b1,rfl,(n1.ge (B3 w)),n1.blk⟩
theorem Jy(w:World) :
 C0 150 #[] w (Qh (fun w' r=>∃ b,r=.slice (S1 b) 4 4∧w.heap.size≤b∧Blk w' b [V0 8,V0 0,V0 16384,V0 8,V0 0,V0 2147483647,V0 4,V0 0,V0 16777215,V0 4,V0 0,V0 16777215] 298) w):=by
 refine zin 6 Tryz.func150 ?_
 refine xbs 11 4 [V0 8,V0 0,V0 16384,V0 8,V0 0,V0 2147483647,V0 4,V0 0,V0 16777215,V0 4,V0 0,V0 16777215] 298 fun b1 W1 n1=>?_
 exact xe 4 (.slice (S1 b1) 4 4) ⟨_,rfl,n1.below,b1,rfl,(n1.ge (B3 w)),n1.blk⟩
theorem Gx(ps:List Ll)(N:List Int)(gl gn:O0)(cl cn n:Nat)(w:World)(hps:Pe ps)(hn:n=ps.length)(hNl:N.length=n)(hP:Sts partC w (.slice gl ps.length cl) ps)(hN:Sl w (.slice gn n cn) n (N.map V0))(h:Hz ps N n=true) :
  C0 146 #[.slice gl ps.length cl,.slice gn n cn] w (Ret (.string ⟨(Oq ps N ps.length).toArray⟩) w):=(Et ps N gl gn cl cn n w hps hn hNl hP hN).mono (by
 rintro e W q
 rcases q with ⟨q,_⟩|⟨_,rfl,hb⟩
 ·rw[h] at q;cases q
 ·exact⟨rfl,hb⟩)
theorem map_or{b t:Int}(h1:0≤b∧b≤65535)(h2:0≤t∧t≤16777215):IntKind.i64.wrap (↑(BitVec.ofInt 64 (b*16777216) ||| BitVec.ofInt 64 t).toNat:Int)=b*16777216+t:=by
 obtain⟨p,rfl⟩:∃ p:Nat,b=(p:Int):=⟨b.toNat,by omega⟩
 obtain⟨q,rfl⟩:∃ q:Nat,t=(q:Int):=⟨t.toNat,by omega⟩
 have e:((p:Int)*16777216)=((p*16777216:Nat):Int):=by omega
 rw[e,D3,D3,BitVec.toNat_or,D9,D9,E0 M0,E0 M0]
 have h:=Nat.two_pow_add_eq_or_of_lt (i:=24) (b:=q) M0 p
 rw[show(2:Nat) ^ 24*p=p*16777216 by omega] at h
 rw[←h]
 exact(IntWalk.i64_in _ M0).trans M0
theorem Av(m:Mp)(w:World)(h1:0≤m.2.1∧m.2.1≤65535)(h2:0≤m.2.2∧m.2.2≤16777215) :
 C0 88 #[V0 m.2.1,V0 m.2.2] w (Ret (.string ⟨(mapV m).toArray⟩) w):=by
 refine zin 26 Tryz.func88 ?_
 refine xgk 11 [6,7] (show(decide (m.2.1<(0:Int)):Bool)=false from decide_eq_false M0) ?_
 refine xgk 4 [9,10,11] (show(decide (m.2.1≥(65536:Int)):Bool)=false from decide_eq_false M0) ?_
 refine xgk 4 [13,14,15] (show(decide (m.2.2<(0:Int)):Bool)=false from decide_eq_false M0) ?_
 refine xk 5 (show(decide (m.2.2>(16777215:Int)):Bool)=false from decide_eq_false M0) ?_
 refine xc 4 (args:=#[]) (Nr _) ?_
 rintro _ W4 ⟨_,rfl,a2,gl,rfl,gg,kl⟩
 refine xq 1 (congrArg V0 (show(IntKind.i64.wrap (m.2.1*2 ^ 24):Int)=m.2.1*16777216 from IntWalk.i64_in _ M0)) ?_
 refine xq 1 (congrArg V0 (show(IntKind.i64.wrap (↑(BitVec.ofInt 64 (m.2.1*16777216) ||| BitVec.ofInt 64 m.2.2).toNat:Int):Int)=m.2.1*16777216+m.2.2 from map_or h1 h2)) ?_
 refine xbs 0 1 [V0 (m.2.1*16777216+m.2.2)] 3 fun b5 W5 n5=>?_
 have a0:=kl.below n5.below
 refine xr 0 (args:=#[.slice (S1 gl) 1 1,.slice (S1 b5) 1 1]) (Gx mapP [m.2.1*16777216+m.2.2] (S1 gl) (S1 b5) 1 1 1 _ mapP_ok rfl rfl (a0.sl 1 1 Do Do) (n5.blk.sl 1 1 Do Do) (by unfold Hz;rw[show List.range 1=[0] from rfl];simp[inP,mapP,List.getD];omega)) fun W6 a1=>?_
 have hB:=bln (bln a2 n5.below) a1
 exact xe 4 (.string ⟨(mapV m).toArray⟩) ⟨rfl,hB⟩
theorem Lr(data n:Int)(d:Dv)(w:World)(h:DevOk data d)(hn:0≤n∧n≤16384) :
 C0 91 #[.agg #[V0 n,V0 d.1.2.1,V0 d.1.2.2.1,V0 d.1.2.2.2]] w (Ret (.string ⟨(Hu n d).toArray⟩) w):=by
 refine zin 14 Tryz.func91 ?_
 refine xa 2 [V0 n,V0 d.1.2.1,V0 d.1.2.2.1,V0 d.1.2.2.2] 174 fun b1 W1 n1=>?_
 refine xd 4 .z ?_
 have k1:=n1.blk.below (Zb W1)
 refine xb (.e [1] 2) 0 k1 ?_
 refine xb (.e [3] 4) 1 k1 ?_
 refine xb (.e [5] 6) 2 k1 ?_
 refine xb (.e [7] 8) 3 k1 ?_
 refine xm2 0 0 9 ?_ ?_
 ·refine yc 0 (args:=#[]) .z (Jy _) ?_
  rintro _ W2 ⟨_,rfl,a2,gl,rfl,gg,kl⟩
  refine⟨a2,?_⟩
  refine xbs (.o [] 9) 4 [V0 n,V0 d.1.2.1,V0 d.1.2.2.1,V0 d.1.2.2.2] 3 fun b3 W3 n3=>?_
  have a0:=kl.below n3.below
  refine xr (.o [] 10) (args:=#[.slice (S1 gl) 4 4,.slice (S1 b3) 4 4]) (Gx detP [n,d.1.2.1,d.1.2.2.1,d.1.2.2.2] (S1 gl) (S1 b3) 4 4 4 _ Zc8 rfl rfl (a0.sl 4 4 Do Do) (n3.blk.sl 4 4 Do Do) (by have a:=h.tx;have b:=h.made;have c:=h.snap;unfold Hz;rw[show List.range 4=[0,1,2,3] from rfl];simp[inP,detP,List.getD];omega)) fun W4 a4=>?_
  have hB:=bln (bln (bln (bln n1.below (Zb W1)) a2) n3.below) a4
  exact xe (.r [11] 3) (.string ⟨(Hu n d).toArray⟩) ⟨rfl,hB⟩
 refine xbs 0 4 [V0 n,V0 d.1.2.1,V0 d.1.2.2.1,V0 d.1.2.2.2] 3 fun b5 W5 n5=>?_
 refine yc (.o [] 0) (args:=#[]) .z (Jy _) ?_
 rintro _ W6 ⟨_,rfl,a1,gl,rfl,gg,kl⟩
 refine⟨a1,?_⟩
 have k5:=n5.blk.below a1
 refine xr (.o [] 10) (args:=#[.slice (S1 gl) 4 4,.slice (S1 b5) 4 4]) (Gx detP [n,d.1.2.1,d.1.2.2.1,d.1.2.2.2] (S1 gl) (S1 b5) 4 4 4 _ Zc8 rfl rfl (kl.sl 4 4 Do Do) (k5.sl 4 4 Do Do) (by have a:=h.tx;have b:=h.made;have c:=h.snap;unfold Hz;rw[show List.range 4=[0,1,2,3] from rfl];simp[inP,detP,List.getD];omega)) fun W7 a3=>?_
 have hB:=bln (bln (bln (bln n1.below (Zb W1)) n5.below) a1) a3
 exact xe (.r [11] 3) (.string ⟨(Hu n d).toArray⟩) ⟨rfl,hB⟩
structure Sup where
 tx:Int
 time:Int
 unit:Int
 data:Int
 blocks:Int
 top:Int
 details:Int
 dslots:Int
 dover:Int
 mindex:Int
 mover:Int
def Ou(s:Sup):List Int:=[s.tx,s.time,s.unit,s.data,s.blocks,s.top,s.details,s.dslots,s.dover,s.mindex,s.mover]
def Qi(s:Sup):Bool:=(((((((((((true&&decide ((0:Int)≤s.tx∧s.tx≤2147483647))&&decide ((0:Int)≤s.time∧s.time≤16777215))&&decide ((1:Int)≤s.unit∧s.unit≤65536))&&decide ((0:Int)≤s.data∧s.data≤65536))&&decide ((2:Int)≤s.blocks∧s.blocks≤14400))&&decide ((1:Int)≤s.top∧s.top≤(s.blocks-1)))&&decide ((1:Int)≤s.details∧s.details≤(s.blocks-1)))&&decide ((1:Int)≤s.dslots∧s.dslots≤(s.blocks-1)))&&decide ((1:Int)≤s.dover∧s.dover≤(s.blocks-1)))&&decide ((1:Int)≤s.mindex∧s.mindex≤(s.blocks-1)))&&decide ((1:Int)≤s.mover∧s.mover≤(s.blocks-1)))
def Md:Bi:=[83,67,65,78,84,76,73,78]
def Gb(N:List Int):Bi:=N.flatMap fun n=>leB n 4
theorem Cu(N:List Int):(Gb N).length=N.length*4:=by
 unfold Gb
 induction N with
 | nil=>rfl
 | cons n N ih=>rw[H8,A1,Zl,ih,D5];omega
def supB(s:Sup):Bi:=Md++Gb (1::Ou s)++List.replicate 188 0
theorem Fv(s:Sup):(supB s).length=244:=by
 unfold supB;rw[A1,A1,Cu,A8];rfl
def Mq(n:Int):List Value:=[V0 4,V0 n]
theorem Rc(n:Int):(Mq n).length=2:=rfl
theorem Xs(B bs bo off:Nat)(cs:List Value)(n lo hi:Int)(b:Bool)(w:World)(hBw:B≤w.heap.size)(hBo:B≤bo)(ks:Blk w bs cs 54)(hn:cs[off]? = some (V0 n))(ko:Blk w bo [.bool b] 4) :
 C0 133 #[.pointer (some ⟨bs,off,none⟩),V0 lo,V0 hi,P0 bo] w ((fun e w'=>∃ u,e=.returned u∧Below B w w'∧Zd [4] w w'∧Blk w' bo [.bool (b&&decide ((lo:Int)≤n∧n≤hi))] 4)):=by
 refine zin 22 Tryz.func133 ?_
 refine xb 1 0 ko ?_
 refine xg 1 [7,8] b (fun a1=>?_) (fun a1=>?_)
 ·refine xl 2 (ks.cell (i:=off) hn) ?_
  refine xg 4 [13,14,15] (decide (n≥lo)) (fun a0=>?_) (fun a0=>?_)
  ·have a0:=of_decide_eq_true a0
   refine xl 2 (ks.cell (i:=off) hn) ?_
   refine xs 3 ko [.bool (decide (n≤hi))] fun W3 u3 k3=>?_
   have hB:=u3.below (Below.refl B w) hBo
   have hO:=(show Zd [4] w _ from(Zd.of_upd u3 ko Do))
   exact xe 1 (.tuple #[]) ⟨_,rfl,hB,hO,by rw[show(b&&decide ((lo:Int)≤n∧n≤hi))=decide (n≤hi) from by first|(rw[show decide ((lo:Int)≤n∧n≤hi)=false from decide_eq_false M0,Bool.and_false];done)|(simp_all;done)|(simp_all;omega)];exact k3⟩
  have a0:=of_decide_eq_false a0
  refine xs 6 ko [.bool false] fun W4 u4 k4=>?_
  have hB:=u4.below (Below.refl B w) hBo
  have hO:=(show Zd [4] w _ from(Zd.of_upd u4 ko Do))
  exact xe 1 (.tuple #[]) ⟨_,rfl,hB,hO,by rw[show(b&&decide ((lo:Int)≤n∧n≤hi))=false from by first|(rw[show decide ((lo:Int)≤n∧n≤hi)=false from decide_eq_false M0,Bool.and_false];done)|(simp_all;done)|(simp_all;omega)];exact k4⟩
 refine xs 13 ko [.bool false] fun W5 u5 k5=>?_
 have hB:=u5.below (Below.refl B w) hBo
 have hO:=(show Zd [4] w _ from(Zd.of_upd u5 ko Do))
 exact xe 1 (.tuple #[]) ⟨_,rfl,hB,hO,by rw[show(b&&decide ((lo:Int)≤n∧n≤hi))=false from by first|(rw[show decide ((lo:Int)≤n∧n≤hi)=false from decide_eq_false M0,Bool.and_false];done)|(simp_all;done)|(simp_all;omega)];exact k5⟩
theorem Nv(B bs bo:Nat)(s:Sup)(w:World)(hBw:B≤w.heap.size)(hBo:B≤bo)(hb0:0≤s.blocks)(hb1:s.blocks<9223372036854775808)(ks:Blk w bs [V0 s.tx,V0 s.time,V0 s.unit,V0 s.data,V0 s.blocks,V0 s.top,V0 s.details,V0 s.dslots,V0 s.dover,V0 s.mindex,V0 s.mover] 54)(ko:Blk w bo [.bool true] 4) :
 C0 95 #[P0 bs,.func (.func 133) #[] #[P0 bo]] w ((fun e w'=>∃ u,e=.returned u∧Below B w w'∧Zd [4] w w'∧Blk w' bo [.bool (Qi s)] 4)):=by
 refine zin 64 Tryz.func95 ?_
 refine xc 6 (args:=#[P0 bs,V0 0,V0 2147483647,P0 bo]) (Xs B bs bo 0 _ s.tx 0 2147483647 true _ (N0 hBw (Below.refl B _).size) hBo ks rfl ko) ?_
 rintro _ W1 ⟨u1,rfl,hb1,e3,e6⟩
 have c5:=ks.only e3 Do
 refine xc 8 (args:=#[.pointer (some ⟨bs,1,none⟩),V0 0,V0 16777215,P0 bo]) (Xs B bs bo 1 _ s.time 0 16777215 (true&&decide ((0:Int)≤s.tx∧s.tx≤2147483647)) _ (N0 hBw hb1.size) hBo c5 rfl e6) ?_
 rintro _ W2 ⟨u2,rfl,f3,e0,e7⟩
 have c0:=hb1.trans f3
 have c2:=c5.only e0 Do
 refine xc 8 (args:=#[.pointer (some ⟨bs,2,none⟩),V0 1,V0 65536,P0 bo]) (Xs B bs bo 2 _ s.unit 1 65536 ((true&&decide ((0:Int)≤s.tx∧s.tx≤2147483647))&&decide ((0:Int)≤s.time∧s.time≤16777215)) _ (N0 hBw c0.size) hBo c2 rfl e7) ?_
 rintro _ W3 ⟨u3,rfl,f2,e2,f0⟩
 have c1:=c0.trans f2
 have b1:=c2.only e2 Do
 refine xc 8 (args:=#[.pointer (some ⟨bs,3,none⟩),V0 0,V0 65536,P0 bo]) (Xs B bs bo 3 _ s.data 0 65536 (((true&&decide ((0:Int)≤s.tx∧s.tx≤2147483647))&&decide ((0:Int)≤s.time∧s.time≤16777215))&&decide ((1:Int)≤s.unit∧s.unit≤65536)) _ (N0 hBw c1.size) hBo b1 rfl f0) ?_
 rintro _ W4 ⟨u4,rfl,e8,e1,f6⟩
 have c6:=c1.trans e8
 have a9:=b1.only e1 Do
 refine xc 8 (args:=#[.pointer (some ⟨bs,4,none⟩),V0 2,V0 14400,P0 bo]) (Xs B bs bo 4 _ s.blocks 2 14400 ((((true&&decide ((0:Int)≤s.tx∧s.tx≤2147483647))&&decide ((0:Int)≤s.time∧s.time≤16777215))&&decide ((1:Int)≤s.unit∧s.unit≤65536))&&decide ((0:Int)≤s.data∧s.data≤65536)) _ (N0 hBw c6.size) hBo a9 rfl f6) ?_
 rintro _ W5 ⟨u5,rfl,f5,e4,f8⟩
 refine xd 3 .z ?_
 refine xbs (.o [0,1,2,3,4,5,6,7,8,9,10,11,12,13,14,15,16,17,20] 18) 6 [.pointer (some ⟨bs,5,none⟩),.pointer (some ⟨bs,6,none⟩),.pointer (some ⟨bs,7,none⟩),.pointer (some ⟨bs,8,none⟩),.pointer (some ⟨bs,9,none⟩),.pointer (some ⟨bs,10,none⟩)] 181 fun b6 W6 n6=>?_
 have b7:=blB (c6.trans f5) hBw (Zb W5)
 have g6:=n6.ge0 b7
 refine xu (.r [19] 3) 7 ?_
 refine xb 14 0 n6.blk ?_
 have a3:=((a9.only e4 Do).below (Zb W5)).below n6.below
 refine xb 9 4 a3 ?_
 refine xw 0 (s.blocks-1) ?_
 have b0:=blB b7 hBw n6.below
 have b3:=(f8.below (Zb W5)).below n6.below
 refine xc 0 (args:=#[.pointer (some ⟨bs,5,none⟩),V0 1,V0 (s.blocks-1),P0 bo]) (Xs B bs bo 5 _ s.top 1 (s.blocks-1) (((((true&&decide ((0:Int)≤s.tx∧s.tx≤2147483647))&&decide ((0:Int)≤s.time∧s.time≤16777215))&&decide ((1:Int)≤s.unit∧s.unit≤65536))&&decide ((0:Int)≤s.data∧s.data≤65536))&&decide ((2:Int)≤s.blocks∧s.blocks≤14400)) _ (N0 hBw b0.size) hBo a3 rfl b3) ?_
 rintro _ W7 ⟨u7,rfl,f9,d8,e5⟩
 have b5:=n6.blk.only d8 Do
 refine xb 22 1 b5 ?_
 have a5:=a3.only d8 Do
 refine xb 9 4 a5 ?_
 refine xw 0 (s.blocks-1) ?_
 have b2:=b0.trans f9
 refine xc 0 (args:=#[.pointer (some ⟨bs,6,none⟩),V0 1,V0 (s.blocks-1),P0 bo]) (Xs B bs bo 6 _ s.details 1 (s.blocks-1) ((((((true&&decide ((0:Int)≤s.tx∧s.tx≤2147483647))&&decide ((0:Int)≤s.time∧s.time≤16777215))&&decide ((1:Int)≤s.unit∧s.unit≤65536))&&decide ((0:Int)≤s.data∧s.data≤65536))&&decide ((2:Int)≤s.blocks∧s.blocks≤14400))&&decide ((1:Int)≤s.top∧s.top≤(s.blocks-1))) _ (N0 hBw b2.size) hBo a5 rfl e5) ?_
 rintro _ W8 ⟨u8,rfl,f1,d9,f7⟩
 have c8:=b5.only d9 Do
 refine xb 22 2 c8 ?_
 have a4:=a5.only d9 Do
 refine xb 9 4 a4 ?_
 refine xw 0 (s.blocks-1) ?_
 have b4:=b2.trans f1
 refine xc 0 (args:=#[.pointer (some ⟨bs,7,none⟩),V0 1,V0 (s.blocks-1),P0 bo]) (Xs B bs bo 7 _ s.dslots 1 (s.blocks-1) (((((((true&&decide ((0:Int)≤s.tx∧s.tx≤2147483647))&&decide ((0:Int)≤s.time∧s.time≤16777215))&&decide ((1:Int)≤s.unit∧s.unit≤65536))&&decide ((0:Int)≤s.data∧s.data≤65536))&&decide ((2:Int)≤s.blocks∧s.blocks≤14400))&&decide ((1:Int)≤s.top∧s.top≤(s.blocks-1)))&&decide ((1:Int)≤s.details∧s.details≤(s.blocks-1))) _ (N0 hBw b4.size) hBo a4 rfl f7) ?_
 rintro _ W9 ⟨u9,rfl,f4,d5,e9⟩
 have c4:=c8.only d5 Do
 refine xb 22 3 c4 ?_
 have a6:=a4.only d5 Do
 refine xb 9 4 a6 ?_
 refine xw 0 (s.blocks-1) ?_
 have b9:=b4.trans f4
 refine xc 0 (args:=#[.pointer (some ⟨bs,8,none⟩),V0 1,V0 (s.blocks-1),P0 bo]) (Xs B bs bo 8 _ s.dover 1 (s.blocks-1) ((((((((true&&decide ((0:Int)≤s.tx∧s.tx≤2147483647))&&decide ((0:Int)≤s.time∧s.time≤16777215))&&decide ((1:Int)≤s.unit∧s.unit≤65536))&&decide ((0:Int)≤s.data∧s.data≤65536))&&decide ((2:Int)≤s.blocks∧s.blocks≤14400))&&decide ((1:Int)≤s.top∧s.top≤(s.blocks-1)))&&decide ((1:Int)≤s.details∧s.details≤(s.blocks-1)))&&decide ((1:Int)≤s.dslots∧s.dslots≤(s.blocks-1))) _ (N0 hBw b9.size) hBo a6 rfl e9) ?_
 rintro _ g3 ⟨g7,rfl,c9,a8,d3⟩
 have b8:=c4.only a8 Do
 refine xb 22 4 b8 ?_
 have a2:=a6.only a8 Do
 refine xb 9 4 a2 ?_
 refine xw 0 (s.blocks-1) ?_
 have c7:=b9.trans c9
 refine xc 0 (args:=#[.pointer (some ⟨bs,9,none⟩),V0 1,V0 (s.blocks-1),P0 bo]) (Xs B bs bo 9 _ s.mindex 1 (s.blocks-1) (((((((((true&&decide ((0:Int)≤s.tx∧s.tx≤2147483647))&&decide ((0:Int)≤s.time∧s.time≤16777215))&&decide ((1:Int)≤s.unit∧s.unit≤65536))&&decide ((0:Int)≤s.data∧s.data≤65536))&&decide ((2:Int)≤s.blocks∧s.blocks≤14400))&&decide ((1:Int)≤s.top∧s.top≤(s.blocks-1)))&&decide ((1:Int)≤s.details∧s.details≤(s.blocks-1)))&&decide ((1:Int)≤s.dslots∧s.dslots≤(s.blocks-1)))&&decide ((1:Int)≤s.dover∧s.dover≤(s.blocks-1))) _ (N0 hBw c7.size) hBo a2 rfl d3) ?_
 rintro _ g5 ⟨g2,rfl,d0,a7,d1⟩
 have d2:=b8.only a7 Do
 refine xb 22 5 d2 ?_
 have a1:=a2.only a7 Do
 refine xb 9 4 a1 ?_
 refine xw 0 (s.blocks-1) ?_
 have a0:=c7.trans d0
 refine xc 0 (args:=#[.pointer (some ⟨bs,10,none⟩),V0 1,V0 (s.blocks-1),P0 bo]) (Xs B bs bo 10 _ s.mover 1 (s.blocks-1) ((((((((((true&&decide ((0:Int)≤s.tx∧s.tx≤2147483647))&&decide ((0:Int)≤s.time∧s.time≤16777215))&&decide ((1:Int)≤s.unit∧s.unit≤65536))&&decide ((0:Int)≤s.data∧s.data≤65536))&&decide ((2:Int)≤s.blocks∧s.blocks≤14400))&&decide ((1:Int)≤s.top∧s.top≤(s.blocks-1)))&&decide ((1:Int)≤s.details∧s.details≤(s.blocks-1)))&&decide ((1:Int)≤s.dslots∧s.dslots≤(s.blocks-1)))&&decide ((1:Int)≤s.dover∧s.dover≤(s.blocks-1)))&&decide ((1:Int)≤s.mindex∧s.mindex≤(s.blocks-1))) _ (N0 hBw a0.size) hBo a1 rfl d1) ?_
 rintro _ g0 ⟨g1,rfl,d7,d6,d4⟩
 have c3:=a0.trans d7
 have hO:=((((((((((((show Zd [4] w _ from e3).trans e0).trans e2).trans e1).trans e4).trans (Zd.of_below (Zb W5))).trans (Zd.of_below n6.below)).trans d8).trans d9).trans d5).trans a8).trans a7).trans d6
 exact xe 19 (.tuple #[]) ⟨_,rfl,c3,hO,d4⟩
theorem Bn(s:Sup)(w:World)(hb0:0≤s.blocks)(hb1:s.blocks<9223372036854775808) :
 C0 69 #[.agg #[V0 s.tx,V0 s.time,V0 s.unit,V0 s.data,V0 s.blocks,V0 s.top,V0 s.details,V0 s.dslots,V0 s.dover,V0 s.mindex,V0 s.mover]] w (Ret (.bool (Qi s)) w):=by
 refine zin 7 Tryz.func69 ?_
 refine xa 2 [V0 s.tx,V0 s.time,V0 s.unit,V0 s.data,V0 s.blocks,V0 s.top,V0 s.details,V0 s.dslots,V0 s.dover,V0 s.mindex,V0 s.mover] 54 fun b1 W1 n1=>?_
 refine xa 5 [.bool false] 4 fun b2 W2 n2=>?_
 refine xs 0 n2.blk [.bool true] fun W3 u3 k3=>?_
 have g2:=n2.ge n1.below
 have hB:=u3.below (bln n1.below n2.below) g2
 have k1:=u3.blkT (n1.blk.below n2.below) n2.blk Do
 refine xc 5 (args:=#[P0 b1,.func (.func 133) #[] #[P0 b2]]) (Nv w.heap.size b1 b2 s _ hB.size g2 hb0 hb1 k1 k3) ?_
 rintro _ W4 ⟨u4,rfl,a1,a3,a2⟩
 refine xb 4 0 a2 ?_
 have a0:=hB.trans a1
 exact xe 4 (.bool (Qi s)) ⟨rfl,a0⟩
theorem Yl(B Bx bs bl off n:Nat)(cs:List Value)(x:Int)(lo hi:Value)(p:O0)(c:Nat)(N:List Int)(w:World)(hBm:B≤Bx)(hBx:Bx≤w.heap.size)(hBw:B≤w.heap.size)(hBl:B≤bl)(ks:Blk w bs cs 54)(hn:cs[off]? = some (V0 x))(kl:Blk w bl [.slice p n c] 179)(hup:w.ownsRow Bx 178 2 (.slice p n c) n (N.flatMap Mq))(hnn:n≤1000) :
 C0 96 #[.pointer (some ⟨bs,off,none⟩),lo,hi,P0 bl] w ((fun e w'=>∃ u p' c',e=.returned u∧Below B w w'∧Zd [179,178] w w'∧Blk w' bl [.slice p' (n+1) c'] 179∧w'.ownsRow Bx 178 2 (.slice p' (n+1) c') (n+1) ((N++[x]).flatMap Mq))):=by
 refine zin 14 Tryz.func96 ?_
 refine xd 0 (.t B [179,178]) ?_
 have b6:=ks.below (Zb w)
 refine xlt (.e [1,2] 3) (.t B [179,178]) (fun V hV=>(b6.only hV.2 Do).cell (i:=off) hn) ?_
 refine xm2 (.b [4]) 0 5 ?_ ?_
 ·have a6:=kl.below (Zb w)
  refine xb 0 0 a6 ?_
  refine xbs (.o [] 5) 1 [V0 4,V0 x] 178 fun b1 W1 n1=>?_
  have a4:=Za hup (Zb w)
  have b5:=Zg a4 n1
  have a1:=Za a4 n1.below
  have hB:=blB (blB (Below.refl B w) hBw (Zb w)) hBw n1.below
  refine ybi (.o [] 6) (.t B [179,178]) fun _ _ _ _ zJ zQ zo zx zy zK=>Zz (m:=1) (news:=[V0 4,V0 x]) (.agg #[V0 0,V0 0]) 2 16 (n+1) (((N++[x]).flatMap Mq)) zo Tryz.underlying179 K0 rfl Do zx a1 zy (n1.blk.sl 1 1 Do Do) rfl (by simp[Value.oneCell']) (by unfold maxLen;omega) M0 (N0 hBx hB.size) (by rfl) (by rw[G3];rfl) fun c3 c2 W2 o2 a8 b9=>?_
  refine zK _ _ (Zu (b9.mono hBm) a8 a1 Do) ?_
  have a3:=(a6.below n1.below).grown a8 a1 Do
  refine ys (.o [] 7) a3 [.slice c3 (n+1) c2] (.t B [179,178]) fun W3 u3 k3=>⟨(Xf u3 a3 hBl Do),?_⟩
  have b2:=u3.below (hB.trans (b9.mono hBm)) hBl
  have hO:=(((show Zd [179,178] w _ from(Zd.of_below (Zb w))).trans (Zd.of_below n1.below)).trans (Zd.of_grown a8 a1 Do)).trans (Zd.of_upd u3 a3 Do)
  have a9:=u3.own2 o2 a3 Do
  exact xe 1 (.tuple #[]) ⟨_,_,_,rfl,b2,hO,k3,a9⟩
 refine xbs 0 1 [V0 4,V0 x] 178 fun b4 W4 n4=>?_
 have a5:=Za hup (Zb w)
 have b7:=Zg a5 n4
 have a7:=(kl.below (Zb w)).below n4.below
 refine xb (.o [] 0) 0 a7 ?_
 have a0:=Za a5 n4.below
 have hB:=blB (blB (Below.refl B w) hBw (Zb w)) hBw n4.below
 refine ybi (.o [] 6) (.t B [179,178]) fun _ _ _ _ zJ zQ zo zx zy zK=>Zz (m:=1) (news:=[V0 4,V0 x]) (.agg #[V0 0,V0 0]) 2 16 (n+1) (((N++[x]).flatMap Mq)) zo Tryz.underlying179 K0 rfl Do zx a0 zy (n4.blk.sl 1 1 Do Do) rfl (by simp[Value.oneCell']) (by unfold maxLen;omega) M0 (N0 hBx hB.size) (by rfl) (by rw[G3];rfl) fun c1 c4 W5 o5 b0 c0=>?_
 refine zK _ _ (Zu (c0.mono hBm) b0 a0 Do) ?_
 have a2:=a7.grown b0 a0 Do
 refine ys (.o [] 7) a2 [.slice c1 (n+1) c4] (.t B [179,178]) fun W6 u6 k6=>⟨(Xf u6 a2 hBl Do),?_⟩
 have b3:=u6.below (hB.trans (c0.mono hBm)) hBl
 have hO:=(((show Zd [179,178] w _ from(Zd.of_below (Zb w))).trans (Zd.of_below n4.below)).trans (Zd.of_grown b0 a0 Do)).trans (Zd.of_upd u6 a2 Do)
 have b8:=u6.own2 o5 a2 Do
 exact xe 1 (.tuple #[]) ⟨_,_,_,rfl,b3,hO,k6,b8⟩
theorem Bq(B Bx bs bl:Nat)(s:Sup)(p0:O0)(c0:Nat)(w:World)(hBm:B≤Bx)(hBx:Bx≤w.heap.size)(hBw:B≤w.heap.size)(hBl:B≤bl)(hb0:0≤s.blocks)(hb1:s.blocks<9223372036854775808)(ks:Blk w bs [V0 s.tx,V0 s.time,V0 s.unit,V0 s.data,V0 s.blocks,V0 s.top,V0 s.details,V0 s.dslots,V0 s.dover,V0 s.mindex,V0 s.mover] 54)(kl:Blk w bl [.slice p0 1 c0] 179)(hr0:w.ownsRow Bx 178 2 (.slice p0 1 c0) 1 ([1].flatMap Mq)) :
 C0 95 #[P0 bs,.func (.func 96) #[] #[P0 bl]] w ((fun e w'=>∃ u p c,e=.returned u∧Below B w w'∧Zd [179,178] w w'∧Blk w' bl [.slice p 12 c] 179∧w'.ownsRow Bx 178 2 (.slice p 12 c) 12 ((1::Ou s).flatMap Mq))):=by
 refine zin 64 Tryz.func95 ?_
 refine xc 6 (args:=#[P0 bs,V0 0,V0 2147483647,P0 bl]) (Yl B Bx bs bl 0 1 _ s.tx _ _ p0 c0 [1] _ hBm (N0 hBx (Below.refl B _).size) (N0 hBw (Below.refl B _).size) hBl ks rfl kl hr0 Do) ?_
 rintro _ W1 ⟨u1,p1,c1,rfl,hb1,h9,h2,j0⟩
 have f9:World.ownsRow _ _ _ _ (.slice p1 2 c1) 2 ([1,s.tx].flatMap Mq):=j0
 replace h2:Blk _ _ [.slice p1 2 c1] _:=h2
 have d9:=ks.only h9 Do
 refine xc 8 (args:=#[.pointer (some ⟨bs,1,none⟩),V0 0,V0 16777215,P0 bl]) (Yl B Bx bs bl 1 2 _ s.time _ _ p1 c1 [1,s.tx] _ hBm (N0 hBx hb1.size) (N0 hBw hb1.size) hBl d9 rfl h2 f9 Do) ?_
 rintro _ W2 ⟨u2,p2,c2,rfl,i4,i2,e8,j6⟩
 have f6:World.ownsRow _ _ _ _ (.slice p2 3 c2) 3 ([1,s.tx,s.time].flatMap Mq):=j6
 replace e8:Blk _ _ [.slice p2 3 c2] _:=e8
 have b4:=hb1.trans i4
 have d2:=d9.only i2 Do
 refine xc 8 (args:=#[.pointer (some ⟨bs,2,none⟩),V0 1,V0 65536,P0 bl]) (Yl B Bx bs bl 2 3 _ s.unit _ _ p2 c2 [1,s.tx,s.time] _ hBm (N0 hBx b4.size) (N0 hBw b4.size) hBl d2 rfl e8 f6 Do) ?_
 rintro _ W3 ⟨u3,p3,c3,rfl,j7,h8,h4,j8⟩
 have e6:World.ownsRow _ _ _ _ (.slice p3 4 c3) 4 ([1,s.tx,s.time,s.unit].flatMap Mq):=j8
 replace h4:Blk _ _ [.slice p3 4 c3] _:=h4
 have a9:=b4.trans j7
 have d6:=d2.only h8 Do
 refine xc 8 (args:=#[.pointer (some ⟨bs,3,none⟩),V0 0,V0 65536,P0 bl]) (Yl B Bx bs bl 3 4 _ s.data _ _ p3 c3 [1,s.tx,s.time,s.unit] _ hBm (N0 hBx a9.size) (N0 hBw a9.size) hBl d6 rfl h4 e6 Do) ?_
 rintro _ W4 ⟨u4,p4,c4,rfl,j5,h7,h0,i3⟩
 have f1:World.ownsRow _ _ _ _ (.slice p4 5 c4) 5 ([1,s.tx,s.time,s.unit,s.data].flatMap Mq):=i3
 replace h0:Blk _ _ [.slice p4 5 c4] _:=h0
 have d1:=a9.trans j5
 have d5:=d6.only h7 Do
 refine xc 8 (args:=#[.pointer (some ⟨bs,4,none⟩),V0 2,V0 14400,P0 bl]) (Yl B Bx bs bl 4 5 _ s.blocks _ _ p4 c4 [1,s.tx,s.time,s.unit,s.data] _ hBm (N0 hBx d1.size) (N0 hBw d1.size) hBl d5 rfl h0 f1 Do) ?_
 rintro _ W5 ⟨u5,p5,c5,rfl,i9,h6,h1,j2⟩
 have g9:World.ownsRow _ _ _ _ (.slice p5 6 c5) 6 ([1,s.tx,s.time,s.unit,s.data,s.blocks].flatMap Mq):=j2
 replace h1:Blk _ _ [.slice p5 6 c5] _:=h1
 refine xd 3 .z ?_
 refine xbs (.o [0,1,2,3,4,5,6,7,8,9,10,11,12,13,14,15,16,17,20] 18) 6 [.pointer (some ⟨bs,5,none⟩),.pointer (some ⟨bs,6,none⟩),.pointer (some ⟨bs,7,none⟩),.pointer (some ⟨bs,8,none⟩),.pointer (some ⟨bs,9,none⟩),.pointer (some ⟨bs,10,none⟩)] 181 fun b6 W6 n6=>?_
 have d7:=blB (d1.trans i9) hBw (Zb W5)
 have g6:=n6.ge0 d7
 refine xu (.r [19] 3) 7 ?_
 refine xb 14 0 n6.blk ?_
 have a6:=((d5.only h6 Do).below (Zb W5)).below n6.below
 refine xb 9 4 a6 ?_
 refine xw 0 (s.blocks-1) ?_
 have a7:=blB d7 hBw n6.below
 have e0:=(h1.below (Zb W5)).below n6.below
 have a5:=Za (Za g9 (Zb W5)) n6.below
 refine xc 0 (args:=#[.pointer (some ⟨bs,5,none⟩),V0 1,V0 (s.blocks-1),P0 bl]) (Yl B Bx bs bl 5 6 _ s.top _ _ p5 c5 [1,s.tx,s.time,s.unit,s.data,s.blocks] _ hBm (N0 hBx a7.size) (N0 hBw a7.size) hBl a6 rfl e0 a5 Do) ?_
 rintro _ W7 ⟨u7,p6,c6,rfl,j4,g8,h3,i6⟩
 have f8:World.ownsRow _ _ _ _ (.slice p6 7 c6) 7 ([1,s.tx,s.time,s.unit,s.data,s.blocks,s.top].flatMap Mq):=i6
 replace h3:Blk _ _ [.slice p6 7 c6] _:=h3
 have e3:=n6.blk.only g8 Do
 refine xb 22 1 e3 ?_
 have a8:=a6.only g8 Do
 refine xb 9 4 a8 ?_
 refine xw 0 (s.blocks-1) ?_
 have b2:=a7.trans j4
 refine xc 0 (args:=#[.pointer (some ⟨bs,6,none⟩),V0 1,V0 (s.blocks-1),P0 bl]) (Yl B Bx bs bl 6 7 _ s.details _ _ p6 c6 [1,s.tx,s.time,s.unit,s.data,s.blocks,s.top] _ hBm (N0 hBx b2.size) (N0 hBw b2.size) hBl a8 rfl h3 f8 Do) ?_
 rintro _ W8 ⟨u8,p7,c7,rfl,i8,f5,e5,i7⟩
 have f0:World.ownsRow _ _ _ _ (.slice p7 8 c7) 8 ([1,s.tx,s.time,s.unit,s.data,s.blocks,s.top,s.details].flatMap Mq):=i7
 replace e5:Blk _ _ [.slice p7 8 c7] _:=e5
 have d4:=e3.only f5 Do
 refine xb 22 2 d4 ?_
 have b8:=a8.only f5 Do
 refine xb 9 4 b8 ?_
 refine xw 0 (s.blocks-1) ?_
 have a2:=b2.trans i8
 refine xc 0 (args:=#[.pointer (some ⟨bs,7,none⟩),V0 1,V0 (s.blocks-1),P0 bl]) (Yl B Bx bs bl 7 8 _ s.dslots _ _ p7 c7 [1,s.tx,s.time,s.unit,s.data,s.blocks,s.top,s.details] _ hBm (N0 hBx a2.size) (N0 hBw a2.size) hBl b8 rfl e5 f0 Do) ?_
 rintro _ W9 ⟨u9,p8,c8,rfl,i5,f3,f4,j3⟩
 have f2:World.ownsRow _ _ _ _ (.slice p8 9 c8) 9 ([1,s.tx,s.time,s.unit,s.data,s.blocks,s.top,s.details,s.dslots].flatMap Mq):=j3
 replace f4:Blk _ _ [.slice p8 9 c8] _:=f4
 have d3:=d4.only f3 Do
 refine xb 22 3 d3 ?_
 have b9:=b8.only f3 Do
 refine xb 9 4 b9 ?_
 refine xw 0 (s.blocks-1) ?_
 have a3:=a2.trans i5
 refine xc 0 (args:=#[.pointer (some ⟨bs,8,none⟩),V0 1,V0 (s.blocks-1),P0 bl]) (Yl B Bx bs bl 8 9 _ s.dover _ _ p8 c8 [1,s.tx,s.time,s.unit,s.data,s.blocks,s.top,s.details,s.dslots] _ hBm (N0 hBx a3.size) (N0 hBw a3.size) hBl b9 rfl f4 f2 Do) ?_
 rintro _ k4 ⟨k1,p9,c9,rfl,e7,b1,d0,j1⟩
 have h5:World.ownsRow _ _ _ _ (.slice p9 10 c9) 10 ([1,s.tx,s.time,s.unit,s.data,s.blocks,s.top,s.details,s.dslots,s.dover].flatMap Mq):=j1
 replace d0:Blk _ _ [.slice p9 10 c9] _:=d0
 have e4:=d3.only b1 Do
 refine xb 22 4 e4 ?_
 have b7:=b9.only b1 Do
 refine xb 9 4 b7 ?_
 refine xw 0 (s.blocks-1) ?_
 have b5:=a3.trans e7
 refine xc 0 (args:=#[.pointer (some ⟨bs,9,none⟩),V0 1,V0 (s.blocks-1),P0 bl]) (Yl B Bx bs bl 9 10 _ s.mindex _ _ p9 c9 [1,s.tx,s.time,s.unit,s.data,s.blocks,s.top,s.details,s.dslots,s.dover] _ hBm (N0 hBx b5.size) (N0 hBw b5.size) hBl b7 rfl d0 h5 Do) ?_
 rintro _ j9 ⟨k2,g2,g1,rfl,e9,b0,a4,g5⟩
 have e2:World.ownsRow _ _ _ _ (.slice g2 11 g1) 11 ([1,s.tx,s.time,s.unit,s.data,s.blocks,s.top,s.details,s.dslots,s.dover,s.mindex].flatMap Mq):=g5
 replace a4:Blk _ _ [.slice g2 11 g1] _:=a4
 have g3:=e4.only b0 Do
 refine xb 22 5 g3 ?_
 have a1:=b7.only b0 Do
 refine xb 9 4 a1 ?_
 refine xw 0 (s.blocks-1) ?_
 have a0:=b5.trans e9
 refine xc 0 (args:=#[.pointer (some ⟨bs,10,none⟩),V0 1,V0 (s.blocks-1),P0 bl]) (Yl B Bx bs bl 10 11 _ s.mover _ _ g2 g1 [1,s.tx,s.time,s.unit,s.data,s.blocks,s.top,s.details,s.dslots,s.dover,s.mindex] _ hBm (N0 hBx a0.size) (N0 hBw a0.size) hBl a1 rfl a4 e2 Do) ?_
 rintro _ k3 ⟨k0,i1,i0,rfl,f7,g7,b3,g0⟩
 have d8:World.ownsRow _ _ _ _ (.slice i1 12 i0) 12 ([1,s.tx,s.time,s.unit,s.data,s.blocks,s.top,s.details,s.dslots,s.dover,s.mindex,s.mover].flatMap Mq):=g0
 replace b3:Blk _ _ [.slice i1 12 i0] _:=b3
 have e1:=a0.trans f7
 have hO:=((((((((((((show Zd [179,178] w _ from h9).trans i2).trans h8).trans h7).trans h6).trans (Zd.of_below (Zb W5))).trans (Zd.of_below n6.below)).trans g8).trans f5).trans f3).trans b1).trans b0).trans g7
 exact xe 19 (.tuple #[]) ⟨_,_,_,rfl,e1,hO,b3,d8⟩
theorem Ae{N:List Int}{i:Nat}(h:i<N.length):Gb (N.take (i+1))=Gb (N.take i)++leB (N.getD i 0) 4:=by
 unfold Gb
 rw[A4 h,G3]
 simp[List.getD,h]
theorem Pack_4s(p:O0)(c:Nat)(N:List Int)(w:World)(hn2:N.length≤1000)(hN:∀ i,i<N.length→0≤N.getD i 0∧N.getD i 0<4294967296)(hF:Sts Mq w (.slice p N.length c) N) :
 C0 97 #[.slice p N.length c] w (Qh (fun w' r=>∃ q d,r=.tuple #[.slice q (N.length*4) d,V0 0]∧w'.ownsRow w.heap.size 5 1 (.slice q (N.length*4) d) (N.length*4) ((Gb N).map bv)) w):=by
 refine zin 32 Tryz.func97 ?_
 have hB:=Below.refl w.heap.size w
 refine zl 20 32 (fun zm b2 V=>∃ (i m:Nat) (q:O0) (d:Nat),b2=[(4,.slice q m d),(7,.slice p N.length c),(8,V0 (N.length:Int)),(9,V0 (i:Int))]∧zm=N.length-((i:Int)).toNat∧Bl w V∧V.ownsRow w.heap.size 5 1 (.slice q m d) m ((Gb (N.take i)).map bv)∧i≤N.length∧m=i*4) ⟨0,0,_,_,rfl,rfl,hB,A9 _ _ _ _,A6 _,rfl⟩ ?_
 rintro _ _ W1 ⟨i,m,q,d,rfl,rfl,a0,ho,hi,hm⟩ J1 b4 r1
 refine xid 6 ((i:Int)<(N.length:Int)) (fun b5=>?_) (fun b5=>?_)
 ·refine xx 6 _ N.length i 2 (Sts.cell hF Rc 0 (k:=i) (i:=0) M0 rfl).1 ?_
  refine xlv 0 (Sts.rp (k:=i) (hF.below a0) Rc 0 M0 Do) ?_
  refine xa 0 [V0 0,V0 0] 178 fun b3 W3 n3=>?_
  have g3:=n3.ge a0
  refine xsv 0 n3.blk [V0 4,V0 (N.getD i 0)] fun W4 u4 k4=>?_
  refine xb 6 0 k4 ?_
  refine xr 0 (args:=#[V0 4]) (Mv _) fun W5 a6=>?_
  have a2:=k4.below a6
  refine xb 10 1 a2 ?_
  refine xb 1 0 a2 ?_
  refine xr 0 (args:=#[V0 (N.getD i 0),V0 4]) (Rx (N.getD i 0) (hN i M0).1 (hN i M0).2 _) fun W6 a5=>?_
  have a3:=a2.below a5
  refine xb 9 1 a3 ?_
  refine xb 1 0 a3 ?_
  refine xc 0 (args:=#[V0 (N.getD i 0),V0 4]) (Lp (N.getD i 0) (hN i M0).1 _) ?_
  rintro _ W7 ⟨_,rfl,a9,h2⟩
  have b1:=(bln (bln (u4.below (bln a0 n3.below) g3) a6) a5).size
  have a1:=Zf h2 b1
  unfold Gm at a1
  rw[Zl] at a1
  obtain⟨p2,c2,rfl⟩:=(Ze a1).slice
  have a7:=Za (Za (Za (u4.own2 (Za ho n3.below) n3.blk Do) a6) a5) a9
  have a4:=bln (bln (bln (u4.below (bln a0 n3.below) g3) a6) a5) a9
  refine xbi 0 fun _ _ _ _ zJ zQ zo zx zy zK=>Zz (m:=4) (news:=(leB (N.getD i 0) 4).map bv) (.int .u8 0) 1 1 (m+4) (((Gb (N.take (i+1))).map bv)) zo Tryz.underlying50 K0 rfl Do zx a7 zy (Ze a1) (by simp[Zl]) (Xw _) (by unfold maxLen;omega) M0 a4.size (by rfl) (by rw[Ae M0,B6]) fun b6 b8 W8 o8 b7 b0=>?_
  refine zK _ _ ?_
  refine xwm 5 ((i:Int)+1) (↑(i+1):Int) ?_
  have a8:=a4.trans b0
  exact ze 2 (b4 _ _ _ ⟨i+1,_,_,_,rfl,rfl,a8,o8,by omega,by omega⟩ M0)
 refine xe 13 (.tuple #[.slice q m d,V0 0]) ?_
 obtain rfl:i=N.length:=by omega
 rw[List.take_length] at ho
 subst hm
 exact⟨_,rfl,a0,_,_,rfl,ho⟩
theorem sup_put3(s:Sup):((Md++List.replicate 236 (0:UInt8)).map bv).take 8++(Gb (1::Ou s)).map bv++((Md++List.replicate 236 (0:UInt8)).map bv).drop (8+48)=(supB s).map bv:=by
 unfold supB
 rw[B6 (l₁:=Md++Gb (1::Ou s)),B6 (l₁:=Md) (l₂:=Gb (1::Ou s))]
 congr 1
theorem supN_bd{s:Sup}(h:Qi s=true):∀ i,i<(1::Ou s).length→0≤(1::Ou s).getD i 0∧(1::Ou s).getD i 0<4294967296:=by
 unfold Qi at h
 simp only[C8,decide_eq_true_iff,Bool.true_and] at h
 intro i hi
 have a0:i<12:=hi
 obtain rfl|rfl|rfl|rfl|rfl|rfl|rfl|rfl|rfl|rfl|rfl|rfl:i=0∨i=1∨i=2∨i=3∨i=4∨i=5∨i=6∨i=7∨i=8∨i=9∨i=10∨i=11:=by omega
 all_goals simp[Ou,List.getD]
 all_goals omega
theorem Es(s:Sup)(w:World)(hb0:0≤s.blocks)(hb1:s.blocks<9223372036854775808)(hr:Qi s=false) :
 C0 46 #[.agg #[V0 s.tx,V0 s.time,V0 s.unit,V0 s.data,V0 s.blocks,V0 s.top,V0 s.details,V0 s.dslots,V0 s.dover,V0 s.mindex,V0 s.mover]] w (Ret (.tuple #[S0,V0 1]) w):=by
 refine zin 28 Tryz.func46 ?_
 refine xa 2 [V0 s.tx,V0 s.time,V0 s.unit,V0 s.data,V0 s.blocks,V0 s.top,V0 s.details,V0 s.dslots,V0 s.dover,V0 s.mindex,V0 s.mover] 54 fun b1 W1 n1=>?_
 refine xlv 7 n1.blk.rp ?_
 refine xr 0 (args:=#[.agg #[V0 s.tx,V0 s.time,V0 s.unit,V0 s.data,V0 s.blocks,V0 s.top,V0 s.details,V0 s.dslots,V0 s.dover,V0 s.mindex,V0 s.mover]]) (Bn s _ hb0 hb1) fun W2 a0=>?_
 refine xk 3 (show(!(Qi s):Bool)=true from by rw[hr];rfl) ?_
 have hB:=bln n1.below a0
 exact xe 8 (.tuple #[S0,V0 1]) ⟨rfl,hB⟩
theorem Ip(s:Sup)(w:World)(hb0:0≤s.blocks)(hb1:s.blocks<9223372036854775808)(hr:Qi s=true) :
 C0 46 #[.agg #[V0 s.tx,V0 s.time,V0 s.unit,V0 s.data,V0 s.blocks,V0 s.top,V0 s.details,V0 s.dslots,V0 s.dover,V0 s.mindex,V0 s.mover]] w (Qh (fun w' r=>∃ p c,r=.tuple #[.slice p 244 c,V0 0]∧w'.ownsRow w.heap.size 5 1 (.slice p 244 c) 244 ((supB s).map bv)) w):=by
 have hN:=supN_bd hr
 refine zin 28 Tryz.func46 ?_
 refine xa 2 [V0 s.tx,V0 s.time,V0 s.unit,V0 s.data,V0 s.blocks,V0 s.top,V0 s.details,V0 s.dslots,V0 s.dover,V0 s.mindex,V0 s.mover] 54 fun b1 W1 n1=>?_
 refine xlv 7 n1.blk.rp ?_
 refine xr 0 (args:=#[.agg #[V0 s.tx,V0 s.time,V0 s.unit,V0 s.data,V0 s.blocks,V0 s.top,V0 s.details,V0 s.dslots,V0 s.dover,V0 s.mindex,V0 s.mover]]) (Bn s _ hb0 hb1) fun W2 a3=>?_
 refine xk 3 (show(!(Qi s):Bool)=false from by rw[hr];rfl) ?_
 refine xbs 5 1 [V0 4,V0 1] 178 fun b3 W3 n3=>?_
 refine xa 0 [S0] 179 fun b4 W4 n4=>?_
 refine xs 0 n4.blk [.slice (S1 b3) 1 1] fun W5 u5 k5=>?_
 have g4:=n4.ge (bln (bln n1.below a3) n3.below)
 have k3:=u5.blkT (n3.blk.below n4.below) n4.blk Do
 have g3:=n3.ge (bln n1.below a3)
 have b2:World.ownsRow W5 w.heap.size 178 2 (.slice (S1 b3) 1 1) 1 (([1]:List Int).flatMap Mq):=Xg (size:=2) (n:=1) k3 g3 rfl Do
 have hB:=u5.below (bln (bln (bln n1.below a3) n3.below) n4.below) g4
 have a8:=u5.blkT (((n1.blk.below a3).below n3.below).below n4.below) n4.blk Do
 refine xc 5 (args:=#[P0 b1,.func (.func 96) #[] #[P0 b4]]) (Bq w.heap.size w.heap.size b1 b4 s _ 1 _ (A3 _) hB.size hB.size g4 hb0 hb1 a8 k5 b2) ?_
 rintro _ W6 ⟨u6,c0,b8,rfl,c1,d0,c6,a7⟩
 refine xb 4 0 c6 ?_
 refine xc 0 (args:=#[.slice c0 12 b8]) (Pack_4s c0 b8 (1::Ou s) _ (show 12≤1000 by decide) hN (Ze a7)) ?_
 rintro _ W7 ⟨_,rfl,c9,q2,d2,rfl,h2⟩
 have c5:=(hB.trans c1).size
 have b0:=Zf h2 c5
 replace h2:World.ownsRow _ _ _ _ (.slice q2 48 d2) 48 ((Gb (1::Ou s)).map bv):=b0
 have a9:=bln (hB.trans c1) c9
 have b7:=a9
 refine xmk 9 fun _ _ _ _ zJ zQ zo zx zy zK=>Ka 244 (.int .u8 0) 1 1 ((List.replicate 244 (0:UInt8)).map bv) zo zx zy Tryz.underlying50 K0 rfl M0 M0 (Cy 244) fun b9 W9 n9=>?_
 refine zK _ _ ?_
 have o9:=Xg (size:=1) (n:=244) n9.blk (n9.ge (B3 W7)) (by rw[A0,A8]) (by unfold maxLen;omega)
 refine xbi 7 (t2:=9) fun _ _ _ _ zJ zQ zo zx zy zK=>Rh (dLen:=244) (dCap:=244) (off:=0) ([83,67,65,78,84,76,73,78]) (((Md++List.replicate 236 (0:UInt8)).map bv)) zo Tryz.underlying50 K0 zx zy o9 Do Do n9.below.size (by rfl) fun d1 c2 c3 a4=>?_
 refine zK _ _ ?_
 have a0:=Ze h2
 have a1:=n9.below.trans a4
 refine xbi 2 (t2:=50) fun _ _ _ _ zJ zQ zo zx zy zK=>Jd (dLen:=236) (dCap:=236) (off:=8) 48 ((Gb (1::Ou s)).map bv) (((supB s).map bv)) zo Tryz.underlying50 K0 zx zy (a0.below a1) c2 (by rw[A0,Cu];rfl) Do Do (Xw _) a1.size (sup_put3 s) fun c7 c8 c4 a6=>?_
 refine zK _ _ ?_
 have b5:=a1.trans a6
 have a5:Bl W7 c7:=b5
 have b6:w.heap.size≤W7.heap.size:=b7.size
 have hB:=bln b7 a5
 have a2:=Zf c8 b6
 exact xe 10 (.tuple #[.slice (S1 b9) 244 244,V0 0]) ⟨_,rfl,hB,_,_,rfl,a2⟩
theorem sup_PutP(s:Sup)(w:World)(hb:0≤s.blocks∧s.blocks<9223372036854775808):C0 46 #[.agg #[V0 s.tx,V0 s.time,V0 s.unit,V0 s.data,V0 s.blocks,V0 s.top,V0 s.details,V0 s.dslots,V0 s.dover,V0 s.mindex,V0 s.mover]] w (fun e w' =>
 (Qi s=false∧e=.returned (.tuple #[S0,V0 1])∧Bl w w') ∨
 (Qi s=true∧∃ p c,e=.returned (.tuple #[.slice p 244 c,V0 0])∧Bl w w'∧w'.ownsRow w.heap.size 5 1 (.slice p 244 c) 244 ((supB s).map bv))):=by
 cases hr:Qi s with
 | false =>
  refine(Es s w hb.1 hb.2 hr).mono ?_
  rintro e W ⟨rfl,h⟩
  exact .inl ⟨rfl,rfl,h⟩
 | true =>
  refine(Ip s w hb.1 hb.2 hr).mono ?_
  rintro e W ⟨_,rfl,h,p,c,rfl,ho⟩
  exact .inr ⟨rfl,p,c,rfl,h,ho⟩
theorem Tc(B ba b g nn cc:Nat)(pa:O0)(ca f N k0:Nat)(bs:Bi)(bl B2:Nat)(pl:O0)(cl:Nat)(gs:List (Nat×Nat))(L:List (List Int))(n:Nat)(hn:L.length=n)(w:World)(hC:AlC B ba nn cc ca f N)(hA:Al B ba b g nn cc pa ca f N k0 bs w)(hL:Lists w B2 (.slice pl n cl) gs L)(hS:∀ i,i<L.length→Jh (L.getD i [])∧(L.getD i []).length≤960)(hf1:1≤f)(hk:k0+n≤N)(kl:Blk w bl [S0] 132)(hBl:B≤bl)(hBw:B≤w.heap.size) :
 C0 154 #[P0 ba,.slice pl n cl,.func (.func 159) #[] #[P0 bl]] w (fun e w'=>∃ p c,e=.returned .nilIface∧Below B w w'∧Zd [169,5,132,126] w w'∧Fr ([ba,g]++[bl]) w w'∧Al B ba b g nn cc pa ca f N (k0+n) (Kn L (f+k0) bs n) w'∧Blk w' bl [.slice p n c] 132∧w'.ownsRow w.heap.size 126 3 (.slice p n c) n (rsL L (f+k0) n)):=by
 subst hn;exact Zcf B ba b g nn cc pa ca f N k0 bs bl B2 pl cl gs L w hC hA hL hS hf1 hk kl hBl hBw
def MetaP(B ba b g nn cc:Nat)(pa:O0)(ca f N k0:Nat)(bs:Bi)(l:List Int)(w:World)(e:Ending)(w':World):Prop :=
 e=.returned (.tuple #[V0 (Il l f k0 bs).1,V0 (Il l f k0 bs).2.1,.nilIface])∧Below B w w'∧Zd [169,5,132,126,39] w w'∧Fr [ba,g] w w'∧Al B ba b g nn cc pa ca f N (k0+Xy l) (Il l f k0 bs).2.2 w'
theorem Tv(B ba b g nn cc:Nat)(pa:O0)(ca f N k0:Nat)(bs:Bi)(a:Addr)(c:Nat)(l:List Int)(w:World)(hC:AlC B ba nn cc ca f N)(hA:Al B ba b g nn cc pa ca f N k0 bs w)(h:Sl w (.slice (some a) l.length c) l.length (l.map V0))(hl:l.length≤3000)(hlen:l.length=nn/256)(hs:Yx l=0)(hkN:k0≤N)(hk:k0+Xy l≤N)(hf1:1≤f)(hfree2:Zb8 l ((f+k0:Nat):Int))(hBw:B≤w.heap.size) :
 C0 94 #[P0 ba,.slice (some a) l.length c] w (MetaP B ba b g nn cc pa ca f N k0 bs l w):=by
 have hW:Sin w w:=⟨Below.refl _ _⟩
 have j1:=hC.hf
 have j2:=hC.hn
 have g8:=Wv hs
 have j0:=Gn l l.length
 have j4:Xy l=(Zy 5 (Zh l l.length).length)+(bmN l.length)+1:=rfl
 have k5:=Yp 5 (Zh l l.length).length
 have j5:bmN l.length≤4:=by unfold bmN;omega
 have h7:Yx (Yd l (f+k0) (Xy l))=0:=by unfold Yx;rw[if_neg (by rw[Ym];omega),if_pos (Re hfree2 g8.2)]
 have g7:=Ug (Re (n:=Xy l) hfree2 g8.2) (bmN l.length)
 refine zin 120 Tryz.func94 ?_
 refine xr 10 (args:=#[P0 ba]) (Hj ba b _ _ _ (hA.below hW.b).blkA) fun W1 a6=>?_
 have d8:=hW.below a6
 refine xr 19 (args:=#[P0 b]) (Vc b _ nn cc _ (hA.below d8.b).blkI M0) fun W2 a7=>?_
 refine xk 3 (show(((l.length:Int) != (↑(nn/256):Int)):Bool)=false from by rw[hlen];simp) ?_
 have c2:=d8.below a7
 refine xc 5 (args:=#[.slice (some a) l.length c]) (Uy l.length (some a) c l _ rfl (Sl.below h c2.b) M0 hs) ?_
 rintro _ W3 ⟨i6,i5,k2,po,co,rfl,c0,j9,e0⟩
 have h6:=(blB (blB (Below.refl B w) hBw a6) hBw a7).size
 refine xr 23 (args:=#[V0 5,V0 (↑((Zh l l.length).length):Int)]) (Xi 5 (Zh l l.length).length _ Do Do M0) fun W4 b3=>?_
 refine xr 2 (args:=#[V0 (l.length:Int)]) (Ux l.length _ M0) fun W5 b1=>?_
 refine xwm 0 ((↑(Zy 5 (Zh l l.length).length):Int)+(↑(bmN l.length):Int)) (↑((Zy 5 (Zh l l.length).length)+(bmN l.length)):Int) ?_
 refine xwm 0 ((↑((Zy 5 (Zh l l.length).length)+(bmN l.length)):Int)+1) (↑(((Zy 5 (Zh l l.length).length)+(bmN l.length))+1):Int) ?_
 have d3:=((c2.below c0).below b3).below b1
 refine xr 7 (args:=#[P0 ba]) (Ua ba b pa N ca k0 _ (hA.below d3.b).blkA hkN) fun W6 b5=>?_
 refine xk 4 (show(decide ((↑(N-k0):Int)<(↑(((Zy 5 (Zh l l.length).length)+(bmN l.length))+1):Int)):Bool)=false from decide_eq_false M0) ?_
 have b2:=d3.below b5
 have i3:=b2.b.size
 refine xc 5 (args:=#[.slice (some a) l.length c]) (Ga a l.length c (l.map V0) _ (Sl.below h b2.b) (by simp) (Si _) M0) ?_
 rintro _ W7 ⟨_,rfl,b9,qb,cq,rfl,f6⟩
 have j7:=(blB (blB (blB (blB (blB (blB (Below.refl B w) hBw a6) hBw a7) hBw c0) hBw b3) hBw b1) hBw b5).size
 have a0:=Zf f6 i3
 have b4:=b2.below b9
 have i2:=b4.b.size
 have f5:=a0
 refine xc 8 (args:=#[P0 ba,V0 (↑(((Zy 5 (Zh l l.length).length)+(bmN l.length))+1):Int)]) (Br (Xy l) B ba b g nn cc pa ca f N k0 bs _ hC (hA.below b4.b) hkN M0 M0 M0) ?_
 rintro _ W8 ⟨_,rfl,b7,qa,h0,rfl,c7⟩
 have k6:=(blB (blB (blB (blB (blB (blB (blB (Below.refl B w) hBw a6) hBw a7) hBw c0) hBw b3) hBw b1) hBw b5) hBw b9).size
 have h3:=Xx.of_lt f5 c7 (A3 _)
 have d1:=Zf c7 i2
 have a3:=Za a0 b7
 obtain⟨gb,rfl,i4⟩:=Gd a3 M0
 have d6:=Za (Za (Za (Za (Za (Zf e0 h6) b3) b1) b5) b9) b7
 have g5:=b4.below b7
 have hB:=blB (blB (blB (blB (blB (blB (blB (blB (Below.refl B w) hBw a6) hBw a7) hBw c0) hBw b3) hBw b1) hBw b5) hBw b9) hBw b7
 have hX:=(((((((show Fr [ba,g] w _ from(Fr.of_below a6)).trans (Fr.of_below a7)).trans (Fr.of_below c0)).trans (Fr.of_below b3)).trans (Fr.of_below b1)).trans (Fr.of_below b5)).trans (Fr.of_below b9)).trans (Fr.of_below b7)
 have hO:=(((((((show Zd [169,5,132,126,39] w _ from(Zd.of_below a6)).trans (Zd.of_below a7)).trans (Zd.of_below c0)).trans (Zd.of_below b3)).trans (Zd.of_below b1)).trans (Zd.of_below b5)).trans (Zd.of_below b9)).trans (Zd.of_below b7)
 refine zl 5 120 (fun zm h5 V=>∃ (i:Nat),h5=[(0,P0 ba),(4,V0 0),(5,V0 0),(6,.nilIface),(9,.slice po ((Zh l l.length).length) co),(10,V0 0),(12,.slice (S1 gb) l.length cq),(61,.slice qa (Xy l) h0),(62,V0 (↑(Xy l):Int)),(63,V0 (i:Int))]∧zm=Xy l-((i:Int)).toNat∧Below B w V∧Fr [ba,g] w V∧Zd [169,5,132,126,39] w V∧V.ownsRow w.heap.size 3 1 (.slice (S1 gb) l.length cq) l.length ((Yd l (f+k0) i).map V0)∧V.ownsRow w.heap.size 3 1 (.slice qa (Xy l) h0) (Xy l) ((((Np f N).drop k0).take (Xy l)).map V0)∧V.ownsRow w.heap.size 124 3 (.slice po ((Zh l l.length).length) co) ((Zh l l.length).length) ((Zh l l.length).flatMap Qb)∧Sin w V∧i≤Xy l) ⟨0,rfl,rfl,hB,hX,hO,(by rw[It];exact a3),d1,d6,g5,A6 _⟩ ?_
 rintro _ _ W9 ⟨i,rfl,rfl,a9,d5,d9,a0,d1,e0,hW,hi⟩ J9 h9 r9
 have i7:i<Xy l→l.getD (f+k0+i) 0=0:=fun q=>(hfree2 (f+k0+i) M0).1 M0
 refine xid 6 ((i:Int)<(↑(Xy l):Int)) (fun g1=>?_) (fun g1=>?_)
 ·refine xx 6 _ (Xy l) i 1 (Mj (Ze d1) M0 (i:=i) M0).1 ?_
  refine xl 0 ((Mj (Ze d1) M0 (i:=i) M0).2) ?_
  refine xx 6 _ l.length (f+k0+i) 1 (Pm (Ze a0) rfl (q:=f+k0) (i:=i) M0).1 ?_
  refine xl 0 ((Pm (Ze a0) rfl (q:=f+k0) (i:=i) M0).2) ?_
  refine xw 0 ((l.getD (f+k0+i) 0)+1) ?_
  refine xx 0 _ l.length (f+k0+i) 1 (Pm (Ze a0) rfl (q:=f+k0) (i:=i) M0).1 ?_
  refine xst 0 fun _ _ _ _ zJ zQ zo zx zy zK=>Yh (t:=3) (k:=(f+k0+i)) (v:=V0 ((l.getD (f+k0+i) 0)+1)) zo zx zy K0 rfl a0 M0 fun i8 b8 h1=>?_
  rw[Zci (l:=l) (f:=f+k0) (j:=i) M0] at h1
  refine zK _ _ ?_
  refine xwm 4 ((i:Int)+1) (↑(i+1):Int) ?_
  have f8:=b8.below a9 (N0 hBw (Va a0))
  have e8:=(Fr.upd_new d5 b8 (Va a0))
  have g3:=(Zd.upd_new d9 b8 (Va a0))
  have c1:=b8.own3 d1 (fun j hj e=>h3 _ rfl (e▸hj))
  have c9:=b8.ownRow e0 a0 Do
  have e6:=hW.upd b8 (Va a0)
  exact ze 2 (h9 _ _ _ ⟨i+1,rfl,rfl,f8,e8,g3,h1,c1,c9,e6,by omega⟩ M0)
 refine xc 9 (args:=#[P0 ba,V0 5,.slice po ((Zh l l.length).length) co]) (Kb B ba b g nn cc pa ca f N k0 bs 5 po co (Zh l l.length) (Zh l l.length).length _ rfl hC (hA.below hW.b) Do Do (Co _ _ M0) M0 hf1 M0 M0 (fun W _ h2=>Ze (Zo e0 h2 Do)) (N0 hBw a9.size)) ?_
 rintro _ k3 ⟨rfl,f2,d2,f3,a8⟩
 have d7:=Zo a0 d2 Do
 refine xc 20 (args:=#[.slice (S1 gb) l.length cq]) (Uy l.length (S1 gb) cq (Yd l (f+k0) (Xy l)) _ (Ym _ _ _) (by have hh:=Ze d7;rw[show i=Xy l by omega] at hh;exact hh) M0 h7) ?_
 rintro _ k1 ⟨pb,cb,gs,k7,j6,rfl,a2,hL,i1⟩
 refine xa 21 [S0] 132 fun g6 i9 a4=>?_
 have b0:=blB (a9.trans f2) hBw a2
 have g9:=a4.ge0 b0
 have c4:=(a8.below a2).below a4.below
 have e7:=hL.below a4.below
 have b6:=blB b0 hBw a4.below
 refine xc 8 (args:=#[P0 ba,.slice pb (bmN l.length) cb,.func (.func 159) #[] #[P0 g6]]) (Tc B ba b g nn cc pa ca f N (k0+(Zy 5 (Zh l l.length).length)) (Vk 5 (Zh l l.length) (f+k0) bs).2 g6 _ pb cb gs (Xa (Zi (Yd l (f+k0) (Xy l))) (bmN l.length)) (bmN l.length) (Qw _ _) _ hC c4 e7 g7 hf1 M0 a4.blk (N0 hBw g9) (N0 hBw b6.size)) ?_
 rintro _ j3 ⟨p8,c8,rfl,c3,g2,f1,a8,h4,i0⟩
 have e5:=(blB b0 hBw a4.below).size
 refine xb 14 0 h4 ?_
 have d4:=Zf i0 e5
 refine xc 0 (args:=#[.slice p8 (bmN l.length) c8]) (As (bmN l.length) p8 c8 (Rs (Xa (Zi (Yd l (f+k0) (Xy l))) (bmN l.length)) (f+(k0+(Zy 5 (Zh l l.length).length))) (bmN l.length)) _ (Ml _ _ _) (rs_ok g7 (Qw _ _) M0 M0 M0) (Rs_sts (Ze d4))) ?_
 rintro _ k4 ⟨_,rfl,a1,pz,cz,rfl,h8⟩
 have f7:=(b6.trans c3).size
 have d0:=a8.below a1
 have a5:=((((d9.trans (d2.wide)).trans (Zd.of_below a2)).trans (Zd.of_below a4.below)).trans (g2.wide)).trans (Zd.of_below a1)
 have c6:=Zf h8 f7
 have c5:=blB (b6.trans c3) hBw a1
 refine xc 21 (args:=#[P0 ba,V0 4,.slice pz 244 cz]) (Jl B ba b g nn cc pa ca f N (k0+(Zy 5 (Zh l l.length).length)+(bmN l.length)) (Kn (Xa (Zi (Yd l (f+k0) (Xy l))) (bmN l.length)) (f+(k0+(Zy 5 (Zh l l.length).length))) (Vk 5 (Zh l l.length) (f+k0) bs).2 (bmN l.length)) 4 pz cz (idxB (Rs (Xa (Zi (Yd l (f+k0) (Xy l))) (bmN l.length)) (f+(k0+(Zy 5 (Zh l l.length).length))) (bmN l.length))) (f+(k0+(Zy 5 (Zh l l.length).length)+(bmN l.length))) 244 _ rfl (Rk (by rw[Ml];omega)) hC d0 M0 Do Do (fun W _ a5=>Qf (Ze (Zo c6 a5 Do)) (Rk (by rw[Ml];omega))) Do (N0 hBw c5.size)) ?_
 rintro _ j8 ⟨rfl,f4,e4,f0,a8⟩
 have e9:=c5.trans f4
 have f9:=a5.trans (e4.wide)
 have g0:=((Fr.trans_new (((d5.trans (f3.mono (by simp))).trans (Fr.of_below a2)).trans (Fr.of_below a4.below)) f1 g9).trans (Fr.of_below a1)).trans (f0.mono (by simp))
 refine xe 27 (.tuple #[V0 (↑(f+(k0+(Zy 5 (Zh l l.length).length)+(bmN l.length))):Int),V0 ((Vk 5 (Zh l l.length) (f+k0) bs).1),.nilIface]) ?_
 have e1:f+(k0+(Zy 5 (Zh l l.length).length)+(bmN l.length))=f+k0+(Zy 5 (Zh l l.length).length)+(bmN l.length):=by omega
 have e2:f+(k0+(Zy 5 (Zh l l.length).length))=f+k0+(Zy 5 (Zh l l.length).length):=by omega
 rw[e1,e2] at a8
 rw[e1]
 have e3:k0+(Zy 5 (Zh l l.length).length)+(bmN l.length)+1=k0+Xy l:=by omega
 rw[e3] at a8
 refine⟨?_,e9,f9,g0,?_⟩
 ·unfold Il;rw[Ri]
 ·unfold Il;rw[Ri];exact a8
theorem be_out{B ba b g nn cc be:Nat}{pa:O0}{ca N:Nat}{bs:Bi}{F:List Qk}{w:World}{cs:List Value}(h:AlF B ba b g nn cc pa ca N bs F w)(ke:Blk w be cs 39):be∉[ba,g]:=by
 have h1:=Blk.tne ke h.blkA Do
 have h2:=Xd ke h.data Do
 simp only[D4,List.not_mem_nil,or_false,not_or]
 exact⟨h1,h2⟩
theorem AlF.grownI{B ba b g nn cc:Nat}{pa:O0}{ca N:Nat}{bs:Bi}{F:List Qk}{w V:World}{B2 n:Nat}{v:Value}{xs:List Value}(h:AlF B ba b g nn cc pa ca N bs F w)(hAp:Xx v (.slice pa N ca))(hg:w.grownBy V v.ownBlock)(ho:w.ownsRow B2 3 1 v n xs):AlF B ba b g nn cc pa ca N bs F V :=
 ⟨h.blkA.grown hg ho Do,h.blkI.grown hg ho Do,Xb h.data hg ho Do,hAp.row h.nums hg⟩
theorem Al.updI{B ba b g nn cc:Nat}{pa:O0}{ca f N k0:Nat}{bs:Bi}{w W:World}{gc n c B2:Nat}{xs:List Value}(h:Al B ba b g nn cc pa ca f N k0 bs w)(hp:∀ n2 c2,Xx (.slice (S1 gc) n2 c2) (.slice pa N ca))(u:Upd w gc W)(ho:w.ownsRow B2 3 1 (.slice (S1 gc) n c) n xs):Al B ba b g nn cc pa ca f N k0 bs W :=
 ⟨u.blk h.blkA (Xd h.blkA ho Do),u.blk h.blkI (Xd h.blkI ho Do),u.ownRow h.data ho Do,u.own3 h.nums (fun j hj e=>hp n c _ rfl (e▸hj))⟩
theorem AlF.updI{B ba b g nn cc:Nat}{pa:O0}{ca N:Nat}{bs:Bi}{F:List Qk}{w W:World}{gc n c B2:Nat}{xs:List Value}(h:AlF B ba b g nn cc pa ca N bs F w)(hp:∀ n2 c2,Xx (.slice (S1 gc) n2 c2) (.slice pa N ca))(u:Upd w gc W)(ho:w.ownsRow B2 3 1 (.slice (S1 gc) n c) n xs):AlF B ba b g nn cc pa ca N bs F W:=Al.updI h hp u ho
theorem Yt{w:World}{p:O0}{n c:Nat}{L:List Dv}(h:Sl w (.slice p n c) n ((owL L).map nv))(hn:L.length=n){i:Nat}(hi:i<n):p.isSome=true∧w.cell? (Zr p (i*1))=some (V0 (↑(Zw L i):Int)):=by
 have q:=Xn h (by rw[Nj];exact hn) hi
 rw[Zam M0] at q;exact q
theorem Xc{w:World}{p:O0}{n c:Nat}{L:List Dv}(h:Sl w (.slice p n c) n (((List.range n).map (twR L)).map nv)){i:Nat}(hi:i<n):p.isSome=true∧w.cell? (Zr p (i*1))=some (V0 (↑(twR L i):Int)):=by
 have q:=Ki h (k:=i) (by simpa using hi)
 refine⟨q.1,q.2.trans ?_⟩
 simp[List.getD,B5 hi]
theorem Yc{L:List Dv}{i:Nat}(h:i<L.length):((List.range i).map (twR L)).map nv++[V0 (↑(twR L (Zw L i)):Int)]=((List.range (i+1)).map (twR L)).map nv:=by
 rw[C6,B6,B6,←twR_of h];rfl
theorem Zbg{L:List Dv}{i:Nat}(h:Zw L i=i):((List.range i).map (twR L)).map nv++[V0 (↑(twN L (i+1)):Int)]=((List.range (i+1)).map (twR L)).map nv:=by
 rw[C6,B6,B6,←twR_own h];rfl
theorem Fc(B ba b g nn cc:Nat)(pa:O0)(ca N:Nat)(bs:Bi)(F:List Qk)(t:Int)(a:O0)(c n:Nat)(l:List Ent)(bx be:Nat)(x1 x2:Value)(w:World)(hl:l.length=n)(hC:AlC B ba nn cc ca 1 N)(hA:AlF B ba b g nn cc pa ca N bs F w)(kx:Blk w bx [P0 ba,x1,x2] 82)(ke:Blk w be [.nilIface] 39)(hbe:B≤be)(hok:Pu (t,l))(hr:Xo (F++[(t,l)])≤N)(hin:∀ W,Below B w W→Zd [169,5,39] w W→Sl W (.slice a n c) n (l.flatMap Qb))(hBw:B≤w.heap.size) :
 C0 89 #[P0 bx,V0 t,.slice a n c,P0 be] w ((fun e w'=>e=.returned (V0 (↑(Xo (F++[(t,l)])):Int))∧Below B w w'∧Zd [169,5,39] w w'∧AlF B ba b g nn cc pa ca N bs (F++[(t,l)]) w'∧Blk w' be [.nilIface] 39)):=by
 refine zin 29 Tryz.func89 ?_
 refine xb 10 0 ke ?_
 refine xb 11 0 kx ?_
 have a5:=be_out hA ke
 refine xc 2 (args:=#[P0 ba,V0 t,.slice a n c]) (build_F B ba b g nn cc pa ca N bs F t a c n l _ hl hC hA hok hr (fun W h1 h2=>hin W ((Below.refl _ _).trans h1) ((Zd.refl _ _).trans h2)) (N0 hBw (Below.refl B _).size)) ?_
 rintro _ W1 ⟨rfl,a4,a3,a2,hA⟩
 have a0:=Blk.fr ke a2 a5
 refine xs 12 a0 [.nilIface] fun W2 u2 k2=>?_
 have a1:=hA.only (Zd.of_upd (T:=[39]) u2 a0 Do) Do
 have hB:=u2.below a4 hbe
 have hO:=(show Zd [169,5,39] w _ from a3).trans (Zd.of_upd u2 a0 Do)
 exact xe 9 (V0 (↑(Xo (F++[(t,l)])):Int)) ⟨rfl,hB,hO,a1,k2⟩
theorem tw_trees(B ba b g nn cc:Nat)(pa:O0)(ca N:Nat)(bs:Bi)(bx be gc k:Nat)(p:O0)(c n x:Nat)(t u v:Int)(Z:List Zv)(w:World)(hI:∀ W,Below B w W→ItT W)(hZ:Z.length=n)(hP:∀ W,Below B w W→DevsR W p c Z)(hk:PoolOk t u v (x:Int) (Z.map Prod.fst))(hC:AlC B ba nn cc ca 1 N)(hA:AlF B ba b g nn cc pa ca N bs [] w)(kx:Blk w bx [P0 ba,S0,.slice (S1 gc) k k] 82)(ke:Blk w be [.nilIface] 39)(hbx:B≤bx)(hbe:B≤be)(hc:w.ownsRow B 3 1 (.slice (S1 gc) k k) k ((Lk 0 k).map V0))(hpa:∀ n2 c2,Xx (.slice (S1 gc) n2 c2) (.slice pa N ca))(hN:N=k-1)(hr:Xo (G2 (Z.map Prod.fst))≤N)(hBw:B≤w.heap.size) :
 C0 43 #[P0 bx,.agg #[V0 t,V0 u,V0 v,V0 (x:Int),.slice p n c],P0 be] w ((fun e w'=>e=.returned (.tuple #[])∧∃ rp rc,Below B w w'∧Zd [169,5,39,3,82,124] w w'∧AlF B ba b g nn cc pa ca N bs (twT (Z.map Prod.fst) n) w'∧Blk w' bx [P0 ba,.slice rp n rc,.slice (S1 gc) k k] 82∧Blk w' be [.nilIface] 39∧w'.ownsRow B 3 1 (.slice rp n rc) n (((List.range n).map (twR (Z.map Prod.fst))).map nv)∧w'.ownsRow B 3 1 (.slice (S1 gc) k k) k ((Ej (Z.map Prod.fst) k n).map V0))):=by
 have oj:=hc
 have i7:=hA.nums
 have er:=hpa k k
 have qc:∀ W,Below B w W→Zd [169,5,39,3,82,124] w W→DevsR W p c Z:=fun W h _=>hP W h
 have hx:x≤65536:=by have:=hk.hdata;omega
 have r3:(Z.map Prod.fst).length=n:=by rw[A0];exact hZ
 have ng:(shN (Z.map Prod.fst)).length=n:=by rw[Vi];exact r3
 have qg:=hk.devs.few
 have sn:N≤14400:=by have a:=hC.hf;have b:=hC.hn;omega
 have tc:=G1_le (Z.map Prod.fst)
 have hR:=okR hZ hk.devs M0
 have rs:=Sl.len ((hP w (Below.refl _ _)).rowN hZ)
 refine zin 95 Tryz.func43 ?_
 refine xa 2 [V0 t,V0 u,V0 v,V0 (x:Int),.slice p n c] 24 fun b1 W1 n1=>?_
 refine xlv 4 n1.blk.rp ?_
 have hB:=blB (Below.refl B w) hBw n1.below
 refine xc 0 (args:=#[.agg #[V0 t,V0 u,V0 v,V0 (x:Int),.slice p n c]]) (Kh p c n t u v (x:Int) Z _ (hI _ hB) hZ (hP _ hB) hR M0) ?_
 rintro _ W2 ⟨_,rfl,r6,qo,eo,rfl,ho⟩
 have pt:=(blB (Below.refl B w) hBw n1.below).size
 have dd:=Zf ho pt
 have om:=Xx.of_lt oj dd (A3 _)
 refine xc 6 (args:=#[.slice qo n eo]) (Wy qo n eo (owL (Z.map Prod.fst)) _ (by rw[Nj];exact r3) (Ze dd) (fun b hb=>by have:=Rv (Z.map Prod.fst) b hb;omega) M0) ?_
 rintro _ W3 ⟨_,rfl,v5,qn,dn,rfl,i8⟩
 have qe:=(blB hB hBw r6).size
 have k9:=Zf i8 qe
 rw[show Qx (List.replicate n 0) (owL (Z.map Prod.fst))=shN (Z.map Prod.fst) from by unfold shN;rw[r3]] at k9
 have ou:=Xx.of_lt oj k9 (A3 _)
 have ib:=(n1.blk.below r6).below v5
 refine xb 6 4 ib ?_
 have nd:=Za (Za (Za hc n1.below) r6) v5
 have fi:=Za (Za (Za i7 n1.below) r6) v5
 have lq:=Za dd v5
 have oe:=((hA.below n1.below).below r6).below v5
 have nh:=blB (blB hB hBw r6) hBw v5
 have hO:=((show Zd [169,5,39,3,82,124] w _ from(Zd.of_below n1.below)).trans (Zd.of_below r6)).trans (Zd.of_below v5)
 have lu:=((kx.below n1.below).below r6).below v5
 have la:=((ke.below n1.below).below r6).below v5
 refine zl 5 95 (fun zm lh V=>∃ (i:Nat) (rp:O0) (rc:Nat),lh=[(0,P0 bx),(2,P0 be),(6,.slice qo n eo),(7,.slice qn n dn),(19,.slice p n c),(20,V0 (n:Int)),(21,V0 (i:Int))]∧zm=n-((i:Int)).toNat∧Below B w V∧Zd [169,5,39,3,82,124] w V∧Blk V bx ([P0 ba,.slice rp i rc,.slice (S1 gc) k k]) 82∧Blk V be ([.nilIface]) 39∧Blk V b1 ([V0 t,V0 u,V0 v,V0 (x:Int),.slice p n c]) 24∧V.ownsRow w.heap.size 3 1 (.slice qo n eo) n ((owL (Z.map Prod.fst)).map nv)∧V.ownsRow w.heap.size 3 1 (.slice qn n dn) n ((shN (Z.map Prod.fst)).map nv)∧V.ownsRow w.heap.size 3 1 (.slice rp i rc) i (((List.range i).map (twR (Z.map Prod.fst))).map nv)∧V.ownsRow B 3 1 (.slice (S1 gc) k k) k ((Ej (Z.map Prod.fst) k i).map V0)∧V.ownsRow B 3 1 (.slice pa N ca) N ((Np 1 N).map V0)∧AlF B ba b g nn cc pa ca N bs (twT (Z.map Prod.fst) i) V∧i≤n∧Xx (.slice rp i rc) (.slice qo n eo)∧Xx (.slice rp i rc) (.slice qn n dn)∧Xx (.slice (S1 gc) k k) (.slice rp i rc)∧Xx (.slice rp i rc) (.slice pa N ca)) ⟨0,none,0,rfl,rfl,nh,hO,lu,la,ib,lq,k9,A9 _ _ _ _,(by rw[cntT_0];exact nd),fi,oe,A6 _,Xx.nil _,Xx.nil _,(Xx.nil _).symm,Xx.nil _⟩ ?_
 rintro _ _ W4 ⟨i,rp,rc,rfl,rfl,d5,e1,g8,c7,c8,ho,i8,l9,hc,i7,hA,hi,a3,a4,a2,a1⟩ J4 k2 r4
 refine xid 6 ((i:Int)<(n:Int)) (fun qa=>?_) (fun qa=>?_)
 ·have i1:i<(Z.map Prod.fst).length:=by omega
  have kc:=Zdo (Z:=Z) (i:=i) M0 dvD
  have rv:=(Kq i1).1
  have pe:=Wm (L:=(Z.map Prod.fst)) (i:=i) i1
  rw[kc] at pe
  have qk:=hk.devs.sum
  have gr:=(hk.devs.each ((Z.map Prod.fst).getD i dvD) (Zdk _ i1)).maps
  rw[kc] at gr
  have sy:=Qn (Z.map Prod.fst) (show i+1≤(Z.map Prod.fst).length from i1)
  have qj:Pu (2,Jv (Z.getD i zvD).1.2):=by rw[←kc];exact Tz hk.devs i1
  have px:∀ W,Below B w W→Zd [169,5,39,3,82,124] w W→Sts We W (.slice (Z.getD i zvD).2.1 (Z.getD i zvD).1.2.length (Z.getD i zvD).2.2) (Z.getD i zvD).1.2:=fun W h _=>(hP W h).each i M0
  refine xx 7 _ n i 5 ((hP _ (Below.refl _ _)).someN hZ (i:=i) M0) ?_
  refine xlv 0 (Sts.rp (k:=i) (qc _ d5 e1).row Xu zvD M0 Do) ?_
  refine xa 0 [V0 0,V0 0,V0 0,V0 0,S0] 32 fun b6 W6 n6=>?_
  have g6:=n6.ge0 d5
  refine xsv 1 n6.blk [V0 ((Z.getD i zvD).1.1.1),V0 ((Z.getD i zvD).1.1.2.1),V0 ((Z.getD i zvD).1.1.2.2.1),V0 ((Z.getD i zvD).1.1.2.2.2),.slice ((Z.getD i zvD).2.1) ((Z.getD i zvD).1.2.length) ((Z.getD i zvD).2.2)] fun W7 u7 k7=>?_
  have u9:=u7.own2 (Za ho n6.below) n6.blk Do
  refine xx 7 _ n i 1 (Yt (Ze u9) r3 (i:=i) M0).1 ?_
  refine xl 0 ((Yt (Ze u9) r3 (i:=i) M0).2) ?_
  refine xin 4 (↑(Zw (Z.map Prod.fst) i):Int) (i:Int) (fun qm=>?_) (fun qm=>?_)
  ·have c0:Zw (Z.map Prod.fst) i≠i:=by omega
   refine xd 1 (.t B [169,5,39,3,82,124]) ?_
   have b7:=Za u9 (Zb W7)
   refine xx (.e [0,1,2,3,5,6,7,9,10] 11) _ n i 1 (Yt (Ze b7) r3 (i:=i) M0).1 ?_
   refine xm3 0 4 8 12 ?_ ?_ ?_
   ·have d8:=(u7.blkT (g8.below n6.below) n6.blk Do).below (Zb W7)
    refine xb 0 1 d8 ?_
    refine xm2 0 8 12 ?_ ?_
    ·refine xb 0 1 d8 ?_
     refine xl (.o [] 12) ((Yt (Ze b7) r3 (i:=i) M0).2) ?_
     have j5:=Za (u7.own2 (Za l9 n6.below) n6.blk Do) (Zb W7)
     refine xx (.e [] 13) _ i (Zw (Z.map Prod.fst) i) 1 (Xc (Ze j5) (i:=(Zw (Z.map Prod.fst) i)) M0).1 ?_
     refine xl (.o [] 14) ((Xc (Ze j5) (i:=(Zw (Z.map Prod.fst) i)) M0).2) ?_
     refine xbs (.o [] 15) 1 [V0 (↑(twR (Z.map Prod.fst) (Zw (Z.map Prod.fst) i)):Int)] 3 fun b9 W9 n9=>?_
     have hs:=blB (u7.below (blB d5 hBw n6.below) (N0 hBw g6)) hBw (Zb W7)
     have g9:=n9.ge0 hs
     have gd:=Za (u7.own2 (Za hc n6.below) n6.blk Do) (Zb W7)
     have os:=Zg gd n9
     have bi:=Za (u7.own2 (Za i7 n6.below) n6.blk Do) (Zb W7)
     have mp:=Zg bi n9
     have oq:=Zg b7 n9
     have bc:=Za (u7.own2 (Za i8 n6.below) n6.blk Do) (Zb W7)
     have nz:=Zg bc n9
     have ob:=Zg j5 n9
     have c3:=a1
     have f2:=Za j5 n9.below
     have fk:=blB hs hBw n9.below
     refine ybi (.o [] 16) (.t B [169,5,39,3,82,124]) fun _ _ _ _ zJ zQ zo zx zy zK=>Xr (b:=b9) (c:=1) (m:=1) (news:=[V0 (↑(twR (Z.map Prod.fst) (Zw (Z.map Prod.fst) i)):Int)]) (V0 0) 1 8 (i+1) ((((List.range (i+1)).map (twR (Z.map Prod.fst))).map nv)) zo Tryz.underlying27 K0 rfl Do zx f2 zy n9.blk rfl (by simp[Value.oneCell']) (by unfold maxLen;omega) M0 fk.size (by rfl) (Yc i1) fun mb mw rk pr f8 fn u4=>?_
     have jh:=Za b7 n9.below
     have bt:=a3.row jh f8
     replace a3:=(a3.grow jh u4)
     have x3:=Za bc n9.below
     have v7:=a4.row x3 f8
     replace a4:=(a4.grow x3 u4)
     have hu:=Za gd n9.below
     have cx:=a2.symm.row hu f8
     replace a2:=(a2.symm.grow hu u4).symm
     have ao:=Za bi n9.below
     have t4:=a1.row ao f8
     replace a1:=(a1.grow ao u4)
     have jq:=bt
     have br:=v7
     have im:=cx
     have dl:=t4
     refine zK _ _ (Zu (fn.mono hBw) f8 f2 Do) ?_
     have b3:=(d8.below n9.below).grown f8 f2 Do
     refine ys (.o [17,18] 19) b3 [P0 ba,.slice mb (i+1) mw,.slice (S1 gc) k k] (.t B [169,5,39,3,82,124]) fun rq l5 oz=>⟨(Xf l5 b3 hbx Do),?_⟩
     refine xwm 7 ((i:Int)+1) (↑(i+1):Int) ?_
     have mt:=(((((hA.below n6.below).only (Zd.of_upd (T:=[32]) u7 n6.blk Do) Do).below (Zb W7)).below n9.below).grownI c3 f8 f2).only (Zd.of_upd (T:=[82]) l5 b3 Do) Do
     have na:=l5.own2 im b3 Do
     have lc:=l5.own2 jq b3 Do
     have fq:=l5.own2 br b3 Do
     have iq:=l5.own2 pr b3 Do
     have ex:=l5.own2 dl b3 Do
     have nc:=l5.below (fk.trans (fn.mono hBw)) hbx
     have ly:=(Zd.grown_new (((Zd.upd_new (e1.trans (Zd.of_below n6.below)) u7 g6).trans (Zd.of_below (Zb W7))).trans (Zd.of_below n9.below)) f8 f2).trans (Zd.of_upd l5 b3 Do)
     have t1:=l5.blkT ((((u7.blkT (c7.below n6.below) n6.blk Do).below (Zb W7)).below n9.below).grown f8 f2 Do) b3 Do
     have w8:=l5.blkT ((((u7.blkT (c8.below n6.below) n6.blk Do).below (Zb W7)).below n9.below).grown f8 f2 Do) b3 Do
     exact ze 2 (k2 _ _ _ ⟨i+1,_,_,rfl,rfl,nc,ly,oz,t1,w8,lc,fq,iq,(by rw[Vh c0];exact na),ex,(by rw[Jc c0];exact mt),by omega,a3,a4,a2,a1⟩ M0)
    refine xl 0 ((Yt (Ze b7) r3 (i:=i) M0).2) ?_
    refine xb (.o [] 8) 1 d8 ?_
    have j7:=Za (u7.own2 (Za l9 n6.below) n6.blk Do) (Zb W7)
    refine xx (.e [] 13) _ i (Zw (Z.map Prod.fst) i) 1 (Xc (Ze j7) (i:=(Zw (Z.map Prod.fst) i)) M0).1 ?_
    refine xl (.o [] 14) ((Xc (Ze j7) (i:=(Zw (Z.map Prod.fst) i)) M0).2) ?_
    refine xbs (.o [] 15) 1 [V0 (↑(twR (Z.map Prod.fst) (Zw (Z.map Prod.fst) i)):Int)] 3 fun ox te h8=>?_
    have hp:=blB (u7.below (blB d5 hBw n6.below) (N0 hBw g6)) hBw (Zb W7)
    have sx:=h8.ge0 hp
    have fw:=Za (u7.own2 (Za hc n6.below) n6.blk Do) (Zb W7)
    have nm:=Zg fw h8
    have x5:=Za (u7.own2 (Za i7 n6.below) n6.blk Do) (Zb W7)
    have kr:=Zg x5 h8
    have mi:=Zg b7 h8
    have aj:=Za (u7.own2 (Za i8 n6.below) n6.blk Do) (Zb W7)
    have kj:=Zg aj h8
    have jx:=Zg j7 h8
    have c3:=a1
    have e9:=Za j7 h8.below
    have ez:=blB hp hBw h8.below
    refine ybi (.o [] 16) (.t B [169,5,39,3,82,124]) fun _ _ _ _ zJ zQ zo zx zy zK=>Xr (b:=ox) (c:=1) (m:=1) (news:=[V0 (↑(twR (Z.map Prod.fst) (Zw (Z.map Prod.fst) i)):Int)]) (V0 0) 1 8 (i+1) ((((List.range (i+1)).map (twR (Z.map Prod.fst))).map nv)) zo Tryz.underlying27 K0 rfl Do zx e9 zy h8.blk rfl (by simp[Value.oneCell']) (by unfold maxLen;omega) M0 ez.size (by rfl) (Yc i1) fun lo ls rz pq g2 jb s3=>?_
    have hg:=Za b7 h8.below
    have ei:=a3.row hg g2
    replace a3:=(a3.grow hg s3)
    have y0:=Za aj h8.below
    have x1:=a4.row y0 g2
    replace a4:=(a4.grow y0 s3)
    have ek:=Za fw h8.below
    have cn:=a2.symm.row ek g2
    replace a2:=(a2.symm.grow ek s3).symm
    have ac:=Za x5 h8.below
    have w7:=a1.row ac g2
    replace a1:=(a1.grow ac s3)
    have fy:=ei
    have di:=x1
    have gk:=cn
    have dz:=w7
    refine zK _ _ (Zu (jb.mono hBw) g2 e9 Do) ?_
    have a9:=(d8.below h8.below).grown g2 e9 Do
    refine ys (.o [17,18] 19) a9 [P0 ba,.slice lo (i+1) ls,.slice (S1 gc) k k] (.t B [169,5,39,3,82,124]) fun rr q8 pm=>⟨(Xf q8 a9 hbx Do),?_⟩
    refine xwm 7 ((i:Int)+1) (↑(i+1):Int) ?_
    have ne:=(((((hA.below n6.below).only (Zd.of_upd (T:=[32]) u7 n6.blk Do) Do).below (Zb W7)).below h8.below).grownI c3 g2 e9).only (Zd.of_upd (T:=[82]) q8 a9 Do) Do
    have lr:=q8.own2 gk a9 Do
    have ll:=q8.own2 fy a9 Do
    have jn:=q8.own2 di a9 Do
    have gx:=q8.own2 pq a9 Do
    have gi:=q8.own2 dz a9 Do
    have mv:=q8.below (ez.trans (jb.mono hBw)) hbx
    have ky:=(Zd.grown_new (((Zd.upd_new (e1.trans (Zd.of_below n6.below)) u7 g6).trans (Zd.of_below (Zb W7))).trans (Zd.of_below h8.below)) g2 e9).trans (Zd.of_upd q8 a9 Do)
    have w3:=q8.blkT ((((u7.blkT (c7.below n6.below) n6.blk Do).below (Zb W7)).below h8.below).grown g2 e9 Do) a9 Do
    have r9:=q8.blkT ((((u7.blkT (c8.below n6.below) n6.blk Do).below (Zb W7)).below h8.below).grown g2 e9 Do) a9 Do
    exact ze 2 (k2 _ _ _ ⟨i+1,_,_,rfl,rfl,mv,ky,pm,w3,r9,ll,jn,gx,(by rw[Vh c0];exact lr),gi,(by rw[Jc c0];exact ne),by omega,a3,a4,a2,a1⟩ M0)
   ·have c4:=(u7.blkT (g8.below n6.below) n6.blk Do).below (Zb W7)
    refine xb 0 1 c4 ?_
    refine xm2 0 4 12 ?_ ?_
    ·refine xb 0 1 c4 ?_
     refine xl (.o [] 12) ((Yt (Ze b7) r3 (i:=i) M0).2) ?_
     have j8:=Za (u7.own2 (Za l9 n6.below) n6.blk Do) (Zb W7)
     refine xx (.e [] 13) _ i (Zw (Z.map Prod.fst) i) 1 (Xc (Ze j8) (i:=(Zw (Z.map Prod.fst) i)) M0).1 ?_
     refine xl (.o [] 14) ((Xc (Ze j8) (i:=(Zw (Z.map Prod.fst) i)) M0).2) ?_
     refine xbs (.o [] 15) 1 [V0 (↑(twR (Z.map Prod.fst) (Zw (Z.map Prod.fst) i)):Int)] 3 fun pz ry i0=>?_
     have en:=blB (u7.below (blB d5 hBw n6.below) (N0 hBw g6)) hBw (Zb W7)
     have qv:=i0.ge0 en
     have fs:=Za (u7.own2 (Za hc n6.below) n6.blk Do) (Zb W7)
     have nr:=Zg fs i0
     have ai:=Za (u7.own2 (Za i7 n6.below) n6.blk Do) (Zb W7)
     have kv:=Zg ai i0
     have lz:=Zg b7 i0
     have x6:=Za (u7.own2 (Za i8 n6.below) n6.blk Do) (Zb W7)
     have jt:=Zg x6 i0
     have kg:=Zg j8 i0
     have c3:=a1
     have f0:=Za j8 i0.below
     have jk:=blB en hBw i0.below
     refine ybi (.o [] 16) (.t B [169,5,39,3,82,124]) fun _ _ _ _ zJ zQ zo zx zy zK=>Xr (b:=pz) (c:=1) (m:=1) (news:=[V0 (↑(twR (Z.map Prod.fst) (Zw (Z.map Prod.fst) i)):Int)]) (V0 0) 1 8 (i+1) ((((List.range (i+1)).map (twR (Z.map Prod.fst))).map nv)) zo Tryz.underlying27 K0 rfl Do zx f0 zy i0.blk rfl (by simp[Value.oneCell']) (by unfold maxLen;omega) M0 jk.size (by rfl) (Yc i1) fun od ld tf ov g7 io v8=>?_
     have gs:=Za b7 i0.below
     have dk:=a3.row gs g7
     replace a3:=(a3.grow gs v8)
     have x2:=Za x6 i0.below
     have u2:=a4.row x2 g7
     replace a4:=(a4.grow x2 v8)
     have hq:=Za fs i0.below
     have eb:=a2.symm.row hq g7
     replace a2:=(a2.symm.grow hq v8).symm
     have y9:=Za ai i0.below
     have u1:=a1.row y9 g7
     replace a1:=(a1.grow y9 v8)
     have ff:=dk
     have bk:=u2
     have ie:=eb
     have cb:=u1
     refine zK _ _ (Zu (io.mono hBw) g7 f0 Do) ?_
     have b2:=(c4.below i0.below).grown g7 f0 Do
     refine ys (.o [17,18] 19) b2 [P0 ba,.slice od (i+1) ld,.slice (S1 gc) k k] (.t B [169,5,39,3,82,124]) fun rh m9 ql=>⟨(Xf m9 b2 hbx Do),?_⟩
     refine xwm 7 ((i:Int)+1) (↑(i+1):Int) ?_
     have np:=(((((hA.below n6.below).only (Zd.of_upd (T:=[32]) u7 n6.blk Do) Do).below (Zb W7)).below i0.below).grownI c3 g7 f0).only (Zd.of_upd (T:=[82]) m9 b2 Do) Do
     have eu:=m9.own2 ie b2 Do
     have ig:=m9.own2 ff b2 Do
     have eg:=m9.own2 bk b2 Do
     have fd:=m9.own2 ov b2 Do
     have cf:=m9.own2 cb b2 Do
     have gf:=m9.below (jk.trans (io.mono hBw)) hbx
     have mm:=(Zd.grown_new (((Zd.upd_new (e1.trans (Zd.of_below n6.below)) u7 g6).trans (Zd.of_below (Zb W7))).trans (Zd.of_below i0.below)) g7 f0).trans (Zd.of_upd m9 b2 Do)
     have v9:=m9.blkT ((((u7.blkT (c7.below n6.below) n6.blk Do).below (Zb W7)).below i0.below).grown g7 f0 Do) b2 Do
     have w5:=m9.blkT ((((u7.blkT (c8.below n6.below) n6.blk Do).below (Zb W7)).below i0.below).grown g7 f0 Do) b2 Do
     exact ze 2 (k2 _ _ _ ⟨i+1,_,_,rfl,rfl,gf,mm,ql,v9,w5,ig,eg,fd,(by rw[Vh c0];exact eu),cf,(by rw[Jc c0];exact np),by omega,a3,a4,a2,a1⟩ M0)
    refine xl 0 ((Yt (Ze b7) r3 (i:=i) M0).2) ?_
    have d9:=Za (u7.own2 (Za l9 n6.below) n6.blk Do) (Zb W7)
    refine xx (.e [] 13) _ i (Zw (Z.map Prod.fst) i) 1 (Xc (Ze d9) (i:=(Zw (Z.map Prod.fst) i)) M0).1 ?_
    refine xm2 0 4 14 ?_ ?_
    ·refine xb 0 1 c4 ?_
     refine xl (.o [] 14) ((Xc (Ze d9) (i:=(Zw (Z.map Prod.fst) i)) M0).2) ?_
     refine xbs (.o [] 15) 1 [V0 (↑(twR (Z.map Prod.fst) (Zw (Z.map Prod.fst) i)):Int)] 3 fun ph sw h9=>?_
     have y1:=blB (u7.below (blB d5 hBw n6.below) (N0 hBw g6)) hBw (Zb W7)
     have qx:=h9.ge0 y1
     have au:=Za (u7.own2 (Za hc n6.below) n6.blk Do) (Zb W7)
     have nt:=Zg au h9
     have p8:=Za (u7.own2 (Za i7 n6.below) n6.blk Do) (Zb W7)
     have kt:=Zg p8 h9
     have mc:=Zg b7 h9
     have o6:=Za (u7.own2 (Za i8 n6.below) n6.blk Do) (Zb W7)
     have jz:=Zg o6 h9
     have kn:=Zg d9 h9
     have c3:=a1
     have f1:=Za d9 h9.below
     have y2:=blB y1 hBw h9.below
     refine ybi (.o [] 16) (.t B [169,5,39,3,82,124]) fun _ _ _ _ zJ zQ zo zx zy zK=>Xr (b:=ph) (c:=1) (m:=1) (news:=[V0 (↑(twR (Z.map Prod.fst) (Zw (Z.map Prod.fst) i)):Int)]) (V0 0) 1 8 (i+1) ((((List.range (i+1)).map (twR (Z.map Prod.fst))).map nv)) zo Tryz.underlying27 K0 rfl Do zx f1 zy h9.blk rfl (by simp[Value.oneCell']) (by unfold maxLen;omega) M0 y2.size (by rfl) (Yc i1) fun ny lw rt pv g0 hy t0=>?_
     have z9:=Za b7 h9.below
     have de:=a3.row z9 g0
     replace a3:=(a3.grow z9 t0)
     have n3:=Za o6 h9.below
     have w4:=a4.row n3 g0
     replace a4:=(a4.grow n3 t0)
     have af:=Za au h9.below
     have cs:=a2.symm.row af g0
     replace a2:=(a2.symm.grow af t0).symm
     have o2:=Za p8 h9.below
     have x0:=a1.row o2 g0
     replace a1:=(a1.grow o2 t0)
     have es:=de
     have ef:=w4
     have fx:=cs
     have dh:=x0
     refine zK _ _ (Zu (hy.mono hBw) g0 f1 Do) ?_
     have b4:=(c4.below h9.below).grown g0 f1 Do
     refine ys (.o [17,18] 19) b4 [P0 ba,.slice ny (i+1) lw,.slice (S1 gc) k k] (.t B [169,5,39,3,82,124]) fun rl p7 ow=>⟨(Xf p7 b4 hbx Do),?_⟩
     refine xwm 7 ((i:Int)+1) (↑(i+1):Int) ?_
     have li:=(((((hA.below n6.below).only (Zd.of_upd (T:=[32]) u7 n6.blk Do) Do).below (Zb W7)).below h9.below).grownI c3 g0 f1).only (Zd.of_upd (T:=[82]) p7 b4 Do) Do
     have em:=p7.own2 fx b4 Do
     have hd:=p7.own2 es b4 Do
     have dm:=p7.own2 ef b4 Do
     have ga:=p7.own2 pv b4 Do
     have cd:=p7.own2 dh b4 Do
     have jl:=p7.below (y2.trans (hy.mono hBw)) hbx
     have ni:=(Zd.grown_new (((Zd.upd_new (e1.trans (Zd.of_below n6.below)) u7 g6).trans (Zd.of_below (Zb W7))).trans (Zd.of_below h9.below)) g0 f1).trans (Zd.of_upd p7 b4 Do)
     have t3:=p7.blkT ((((u7.blkT (c7.below n6.below) n6.blk Do).below (Zb W7)).below h9.below).grown g0 f1 Do) b4 Do
     have r8:=p7.blkT ((((u7.blkT (c8.below n6.below) n6.blk Do).below (Zb W7)).below h9.below).grown g0 f1 Do) b4 Do
     exact ze 2 (k2 _ _ _ ⟨i+1,_,_,rfl,rfl,jl,ni,ow,t3,r8,hd,dm,ga,(by rw[Vh c0];exact em),cd,(by rw[Jc c0];exact li),by omega,a3,a4,a2,a1⟩ M0)
    refine xl 0 ((Xc (Ze d9) (i:=(Zw (Z.map Prod.fst) i)) M0).2) ?_
    refine xm2 0 4 15 ?_ ?_
    ·refine xb 0 1 c4 ?_
     refine xbs (.o [] 15) 1 [V0 (↑(twR (Z.map Prod.fst) (Zw (Z.map Prod.fst) i)):Int)] 3 fun pw qt h5=>?_
     have ah:=blB (u7.below (blB d5 hBw n6.below) (N0 hBw g6)) hBw (Zb W7)
     have ri:=h5.ge0 ah
     have z4:=Za (u7.own2 (Za hc n6.below) n6.blk Do) (Zb W7)
     have mg:=Zg z4 h5
     have q7:=Za (u7.own2 (Za i7 n6.below) n6.blk Do) (Zb W7)
     have ki:=Zg q7 h5
     have ml:=Zg b7 h5
     have q2:=Za (u7.own2 (Za i8 n6.below) n6.blk Do) (Zb W7)
     have jy:=Zg q2 h5
     have kp:=Zg d9 h5
     have c3:=a1
     have e8:=Za d9 h5.below
     have z5:=blB ah hBw h5.below
     refine ybi (.o [] 16) (.t B [169,5,39,3,82,124]) fun _ _ _ _ zJ zQ zo zx zy zK=>Xr (b:=pw) (c:=1) (m:=1) (news:=[V0 (↑(twR (Z.map Prod.fst) (Zw (Z.map Prod.fst) i)):Int)]) (V0 0) 1 8 (i+1) ((((List.range (i+1)).map (twR (Z.map Prod.fst))).map nv)) zo Tryz.underlying27 K0 rfl Do zx e8 zy h5.blk rfl (by simp[Value.oneCell']) (by unfold maxLen;omega) M0 z5.size (by rfl) (Yc i1) fun oh nx sh qp g1 ge t5=>?_
     have z7:=Za b7 h5.below
     have dq:=a3.row z7 g1
     replace a3:=(a3.grow z7 t5)
     have q1:=Za q2 h5.below
     have u0:=a4.row q1 g1
     replace a4:=(a4.grow q1 t5)
     have x4:=Za z4 h5.below
     have bp:=a2.symm.row x4 g1
     replace a2:=(a2.symm.grow x4 t5).symm
     have p0:=Za q7 h5.below
     have u5:=a1.row p0 g1
     replace a1:=(a1.grow p0 t5)
     have ii:=dq
     have ej:=u0
     have et:=bp
     have ds:=u5
     refine zK _ _ (Zu (ge.mono hBw) g1 e8 Do) ?_
     have b0:=(c4.below h5.below).grown g1 e8 Do
     refine ys (.o [17,18] 19) b0 [P0 ba,.slice oh (i+1) nx,.slice (S1 gc) k k] (.t B [169,5,39,3,82,124]) fun sc p2 pd=>⟨(Xf p2 b0 hbx Do),?_⟩
     refine xwm 7 ((i:Int)+1) (↑(i+1):Int) ?_
     have kz:=(((((hA.below n6.below).only (Zd.of_upd (T:=[32]) u7 n6.blk Do) Do).below (Zb W7)).below h5.below).grownI c3 g1 e8).only (Zd.of_upd (T:=[82]) p2 b0 Do) Do
     have gq:=p2.own2 et b0 Do
     have fa:=p2.own2 ii b0 Do
     have cm:=p2.own2 ej b0 Do
     have jp:=p2.own2 qp b0 Do
     have du:=p2.own2 ds b0 Do
     have hm:=p2.below (z5.trans (ge.mono hBw)) hbx
     have oa:=(Zd.grown_new (((Zd.upd_new (e1.trans (Zd.of_below n6.below)) u7 g6).trans (Zd.of_below (Zb W7))).trans (Zd.of_below h5.below)) g1 e8).trans (Zd.of_upd p2 b0 Do)
     have s9:=p2.blkT ((((u7.blkT (c7.below n6.below) n6.blk Do).below (Zb W7)).below h5.below).grown g1 e8 Do) b0 Do
     have v0:=p2.blkT ((((u7.blkT (c8.below n6.below) n6.blk Do).below (Zb W7)).below h5.below).grown g1 e8 Do) b0 Do
     exact ze 2 (k2 _ _ _ ⟨i+1,_,_,rfl,rfl,hm,oa,pd,s9,v0,fa,cm,jp,(by rw[Vh c0];exact gq),du,(by rw[Jc c0];exact kz),by omega,a3,a4,a2,a1⟩ M0)
    refine xbs 0 1 [V0 (↑(twR (Z.map Prod.fst) (Zw (Z.map Prod.fst) i)):Int)] 3 fun qh sa h3=>?_
    have bb:=blB (u7.below (blB d5 hBw n6.below) (N0 hBw g6)) hBw (Zb W7)
    have ss:=h3.ge0 bb
    have x8:=Za (u7.own2 (Za hc n6.below) n6.blk Do) (Zb W7)
    have lj:=Zg x8 h3
    have m7:=Za (u7.own2 (Za i7 n6.below) n6.blk Do) (Zb W7)
    have kl:=Zg m7 h3
    have mf:=Zg b7 h3
    have o3:=Za (u7.own2 (Za i8 n6.below) n6.blk Do) (Zb W7)
    have kq:=Zg o3 h3
    have kw:=Zg d9 h3
    have k0:=c4.below h3.below
    refine xb (.o [] 4) 1 k0 ?_
    have c3:=a1
    have d1:=Za d9 h3.below
    have aq:=blB bb hBw h3.below
    refine ybi (.o [] 16) (.t B [169,5,39,3,82,124]) fun _ _ _ _ zJ zQ zo zx zy zK=>Xr (b:=qh) (c:=1) (m:=1) (news:=[V0 (↑(twR (Z.map Prod.fst) (Zw (Z.map Prod.fst) i)):Int)]) (V0 0) 1 8 (i+1) ((((List.range (i+1)).map (twR (Z.map Prod.fst))).map nv)) zo Tryz.underlying27 K0 rfl Do zx d1 zy h3.blk rfl (by simp[Value.oneCell']) (by unfold maxLen;omega) M0 aq.size (by rfl) (Yc i1) fun nk mr sp pu f6 el u8=>?_
    have bg:=Za b7 h3.below
    have ci:=a3.row bg f6
    replace a3:=(a3.grow bg u8)
    have l3:=Za o3 h3.below
    have s6:=a4.row l3 f6
    replace a4:=(a4.grow l3 u8)
    have y8:=Za x8 h3.below
    have cw:=a2.symm.row y8 f6
    replace a2:=(a2.symm.grow y8 u8).symm
    have o0:=Za m7 h3.below
    have s0:=a1.row o0 f6
    replace a1:=(a1.grow o0 u8)
    have gj:=ci
    have db:=s6
    have gw:=cw
    have eh:=s0
    refine zK _ _ (Zu (el.mono hBw) f6 d1 Do) ?_
    have b5:=k0.grown f6 d1 Do
    refine ys (.o [17,18] 19) b5 [P0 ba,.slice nk (i+1) mr,.slice (S1 gc) k k] (.t B [169,5,39,3,82,124]) fun rd q3 qs=>⟨(Xf q3 b5 hbx Do),?_⟩
    refine xwm 7 ((i:Int)+1) (↑(i+1):Int) ?_
    have nb:=(((((hA.below n6.below).only (Zd.of_upd (T:=[32]) u7 n6.blk Do) Do).below (Zb W7)).below h3.below).grownI c3 f6 d1).only (Zd.of_upd (T:=[82]) q3 b5 Do) Do
    have fb:=q3.own2 gw b5 Do
    have jf:=q3.own2 gj b5 Do
    have dy:=q3.own2 db b5 Do
    have fh:=q3.own2 pu b5 Do
    have cy:=q3.own2 eh b5 Do
    have fg:=q3.below (aq.trans (el.mono hBw)) hbx
    have lb:=(Zd.grown_new (((Zd.upd_new (e1.trans (Zd.of_below n6.below)) u7 g6).trans (Zd.of_below (Zb W7))).trans (Zd.of_below h3.below)) f6 d1).trans (Zd.of_upd q3 b5 Do)
    have w1:=q3.blkT ((((u7.blkT (c7.below n6.below) n6.blk Do).below (Zb W7)).below h3.below).grown f6 d1 Do) b5 Do
    have r5:=q3.blkT ((((u7.blkT (c8.below n6.below) n6.blk Do).below (Zb W7)).below h3.below).grown f6 d1 Do) b5 Do
    exact ze 2 (k2 _ _ _ ⟨i+1,_,_,rfl,rfl,fg,lb,qs,w1,r5,jf,dy,fh,(by rw[Vh c0];exact fb),cy,(by rw[Jc c0];exact nb),by omega,a3,a4,a2,a1⟩ M0)
   refine xl 0 ((Yt (Ze b7) r3 (i:=i) M0).2) ?_
   refine xm2 0 4 8 ?_ ?_
   ·have f3:=(u7.blkT (g8.below n6.below) n6.blk Do).below (Zb W7)
    refine xb 0 1 f3 ?_
    refine xb (.o [] 8) 1 f3 ?_
    have h0:=Za (u7.own2 (Za l9 n6.below) n6.blk Do) (Zb W7)
    refine xx (.e [] 13) _ i (Zw (Z.map Prod.fst) i) 1 (Xc (Ze h0) (i:=(Zw (Z.map Prod.fst) i)) M0).1 ?_
    refine xl (.o [] 14) ((Xc (Ze h0) (i:=(Zw (Z.map Prod.fst) i)) M0).2) ?_
    refine xbs (.o [] 15) 1 [V0 (↑(twR (Z.map Prod.fst) (Zw (Z.map Prod.fst) i)):Int)] 3 fun oy re h7=>?_
    have y6:=blB (u7.below (blB d5 hBw n6.below) (N0 hBw g6)) hBw (Zb W7)
    have st:=h7.ge0 y6
    have aa:=Za (u7.own2 (Za hc n6.below) n6.blk Do) (Zb W7)
    have nf:=Zg aa h7
    have m3:=Za (u7.own2 (Za i7 n6.below) n6.blk Do) (Zb W7)
    have ka:=Zg m3 h7
    have lv:=Zg b7 h7
    have m6:=Za (u7.own2 (Za i8 n6.below) n6.blk Do) (Zb W7)
    have ko:=Zg m6 h7
    have kd:=Zg h0 h7
    have c3:=a1
    have c9:=Za h0 h7.below
    have y4:=blB y6 hBw h7.below
    refine ybi (.o [] 16) (.t B [169,5,39,3,82,124]) fun _ _ _ _ zJ zQ zo zx zy zK=>Xr (b:=oy) (c:=1) (m:=1) (news:=[V0 (↑(twR (Z.map Prod.fst) (Zw (Z.map Prod.fst) i)):Int)]) (V0 0) 1 8 (i+1) ((((List.range (i+1)).map (twR (Z.map Prod.fst))).map nv)) zo Tryz.underlying27 K0 rfl Do zx c9 zy h7.blk rfl (by simp[Value.oneCell']) (by unfold maxLen;omega) M0 y4.size (by rfl) (Yc i1) fun ms lp si qq g5 il s2=>?_
    have z0:=Za b7 h7.below
    have dg:=a3.row z0 g5
    replace a3:=(a3.grow z0 s2)
    have k8:=Za m6 h7.below
    have t2:=a4.row k8 g5
    replace a4:=(a4.grow k8 s2)
    have al:=Za aa h7.below
    have cu:=a2.symm.row al g5
    replace a2:=(a2.symm.grow al s2).symm
    have l7:=Za m3 h7.below
    have w2:=a1.row l7 g5
    replace a1:=(a1.grow l7 s2)
    have ik:=dg
    have co:=t2
    have hv:=cu
    have ch:=w2
    refine zK _ _ (Zu (il.mono hBw) g5 c9 Do) ?_
    have a5:=(f3.below h7.below).grown g5 c9 Do
    refine ys (.o [17,18] 19) a5 [P0 ba,.slice ms (i+1) lp,.slice (S1 gc) k k] (.t B [169,5,39,3,82,124]) fun sg l1 pl=>⟨(Xf l1 a5 hbx Do),?_⟩
    refine xwm 7 ((i:Int)+1) (↑(i+1):Int) ?_
    have lx:=(((((hA.below n6.below).only (Zd.of_upd (T:=[32]) u7 n6.blk Do) Do).below (Zb W7)).below h7.below).grownI c3 g5 c9).only (Zd.of_upd (T:=[82]) l1 a5 Do) Do
    have gz:=l1.own2 hv a5 Do
    have ih:=l1.own2 ik a5 Do
    have cg:=l1.own2 co a5 Do
    have ft:=l1.own2 qq a5 Do
    have dt:=l1.own2 ch a5 Do
    have fe:=l1.below (y4.trans (il.mono hBw)) hbx
    have og:=(Zd.grown_new (((Zd.upd_new (e1.trans (Zd.of_below n6.below)) u7 g6).trans (Zd.of_below (Zb W7))).trans (Zd.of_below h7.below)) g5 c9).trans (Zd.of_upd l1 a5 Do)
    have v2:=l1.blkT ((((u7.blkT (c7.below n6.below) n6.blk Do).below (Zb W7)).below h7.below).grown g5 c9 Do) a5 Do
    have w6:=l1.blkT ((((u7.blkT (c8.below n6.below) n6.blk Do).below (Zb W7)).below h7.below).grown g5 c9 Do) a5 Do
    exact ze 2 (k2 _ _ _ ⟨i+1,_,_,rfl,rfl,fe,og,pl,v2,w6,ih,cg,ft,(by rw[Vh c0];exact gz),dt,(by rw[Jc c0];exact lx),by omega,a3,a4,a2,a1⟩ M0)
   have c5:=(u7.blkT (g8.below n6.below) n6.blk Do).below (Zb W7)
   refine xb 0 1 c5 ?_
   have c6:=Za (u7.own2 (Za l9 n6.below) n6.blk Do) (Zb W7)
   refine xx (.e [] 13) _ i (Zw (Z.map Prod.fst) i) 1 (Xc (Ze c6) (i:=(Zw (Z.map Prod.fst) i)) M0).1 ?_
   refine xm2 0 4 14 ?_ ?_
   ·refine xb 0 1 c5 ?_
    refine xl (.o [] 14) ((Xc (Ze c6) (i:=(Zw (Z.map Prod.fst) i)) M0).2) ?_
    refine xbs (.o [] 15) 1 [V0 (↑(twR (Z.map Prod.fst) (Zw (Z.map Prod.fst) i)):Int)] 3 fun qf rf h1=>?_
    have x7:=blB (u7.below (blB d5 hBw n6.below) (N0 hBw g6)) hBw (Zb W7)
    have rn:=h1.ge0 x7
    have x9:=Za (u7.own2 (Za hc n6.below) n6.blk Do) (Zb W7)
    have lm:=Zg x9 h1
    have r1:=Za (u7.own2 (Za i7 n6.below) n6.blk Do) (Zb W7)
    have js:=Zg r1 h1
    have lf:=Zg b7 h1
    have m2:=Za (u7.own2 (Za i8 n6.below) n6.blk Do) (Zb W7)
    have kb:=Zg m2 h1
    have kk:=Zg c6 h1
    have c3:=a1
    have d3:=Za c6 h1.below
    have ab:=blB x7 hBw h1.below
    refine ybi (.o [] 16) (.t B [169,5,39,3,82,124]) fun _ _ _ _ zJ zQ zo zx zy zK=>Xr (b:=qf) (c:=1) (m:=1) (news:=[V0 (↑(twR (Z.map Prod.fst) (Zw (Z.map Prod.fst) i)):Int)]) (V0 0) 1 8 (i+1) ((((List.range (i+1)).map (twR (Z.map Prod.fst))).map nv)) zo Tryz.underlying27 K0 rfl Do zx d3 zy h1.blk rfl (by simp[Value.oneCell']) (by unfold maxLen;omega) M0 ab.size (by rfl) (Yc i1) fun lt mh tg py f9 eq t9=>?_
    have bd:=Za b7 h1.below
    have bl:=a3.row bd f9
    replace a3:=(a3.grow bd t9)
    have p6:=Za m2 h1.below
    have t7:=a4.row p6 f9
    replace a4:=(a4.grow p6 t9)
    have ay:=Za x9 h1.below
    have dc:=a2.symm.row ay f9
    replace a2:=(a2.symm.grow ay t9).symm
    have m4:=Za r1 h1.below
    have w0:=a1.row m4 f9
    replace a1:=(a1.grow m4 t9)
    have jm:=bl
    have cq:=t7
    have ic:=dc
    have bj:=w0
    refine zK _ _ (Zu (eq.mono hBw) f9 d3 Do) ?_
    have a6:=(c5.below h1.below).grown f9 d3 Do
    refine ys (.o [17,18] 19) a6 [P0 ba,.slice lt (i+1) mh,.slice (S1 gc) k k] (.t B [169,5,39,3,82,124]) fun ru n7 pb=>⟨(Xf n7 a6 hbx Do),?_⟩
    refine xwm 7 ((i:Int)+1) (↑(i+1):Int) ?_
    have mu:=(((((hA.below n6.below).only (Zd.of_upd (T:=[32]) u7 n6.blk Do) Do).below (Zb W7)).below h1.below).grownI c3 f9 d3).only (Zd.of_upd (T:=[82]) n7 a6 Do) Do
    have ia:=n7.own2 ic a6 Do
    have iu:=n7.own2 jm a6 Do
    have ck:=n7.own2 cq a6 Do
    have hz:=n7.own2 py a6 Do
    have df:=n7.own2 bj a6 Do
    have fm:=n7.below (ab.trans (eq.mono hBw)) hbx
    have nw:=(Zd.grown_new (((Zd.upd_new (e1.trans (Zd.of_below n6.below)) u7 g6).trans (Zd.of_below (Zb W7))).trans (Zd.of_below h1.below)) f9 d3).trans (Zd.of_upd n7 a6 Do)
    have r7:=n7.blkT ((((u7.blkT (c7.below n6.below) n6.blk Do).below (Zb W7)).below h1.below).grown f9 d3 Do) a6 Do
    have w9:=n7.blkT ((((u7.blkT (c8.below n6.below) n6.blk Do).below (Zb W7)).below h1.below).grown f9 d3 Do) a6 Do
    exact ze 2 (k2 _ _ _ ⟨i+1,_,_,rfl,rfl,fm,nw,pb,r7,w9,iu,ck,hz,(by rw[Vh c0];exact ia),df,(by rw[Jc c0];exact mu),by omega,a3,a4,a2,a1⟩ M0)
   refine xl 0 ((Xc (Ze c6) (i:=(Zw (Z.map Prod.fst) i)) M0).2) ?_
   refine xm2 0 4 15 ?_ ?_
   ·refine xb 0 1 c5 ?_
    refine xbs (.o [] 15) 1 [V0 (↑(twR (Z.map Prod.fst) (Zw (Z.map Prod.fst) i)):Int)] 3 fun qi su h6=>?_
    have y5:=blB (u7.below (blB d5 hBw n6.below) (N0 hBw g6)) hBw (Zb W7)
    have se:=h6.ge0 y5
    have z3:=Za (u7.own2 (Za hc n6.below) n6.blk Do) (Zb W7)
    have mq:=Zg z3 h6
    have q4:=Za (u7.own2 (Za i7 n6.below) n6.blk Do) (Zb W7)
    have jw:=Zg q4 h6
    have ma:=Zg b7 h6
    have q5:=Za (u7.own2 (Za i8 n6.below) n6.blk Do) (Zb W7)
    have ju:=Zg q5 h6
    have km:=Zg c6 h6
    have c3:=a1
    have d4:=Za c6 h6.below
    have y3:=blB y5 hBw h6.below
    refine ybi (.o [] 16) (.t B [169,5,39,3,82,124]) fun _ _ _ _ zJ zQ zo zx zy zK=>Xr (b:=qi) (c:=1) (m:=1) (news:=[V0 (↑(twR (Z.map Prod.fst) (Zw (Z.map Prod.fst) i)):Int)]) (V0 0) 1 8 (i+1) ((((List.range (i+1)).map (twR (Z.map Prod.fst))).map nv)) zo Tryz.underlying27 K0 rfl Do zx d4 zy h6.blk rfl (by simp[Value.oneCell']) (by unfold maxLen;omega) M0 y3.size (by rfl) (Yc i1) fun mj lg tb pn f5 fo v4=>?_
    have ag:=Za b7 h6.below
    have dp:=a3.row ag f5
    replace a3:=(a3.grow ag v4)
    have m8:=Za q5 h6.below
    have s8:=a4.row m8 f5
    replace a4:=(a4.grow m8 v4)
    have z2:=Za z3 h6.below
    have cv:=a2.symm.row z2 f5
    replace a2:=(a2.symm.grow z2 v4).symm
    have p5:=Za q4 h6.below
    have v6:=a1.row p5 f5
    replace a1:=(a1.grow p5 v4)
    have ji:=dp
    have bn:=s8
    have gg:=cv
    have dv:=v6
    refine zK _ _ (Zu (fo.mono hBw) f5 d4 Do) ?_
    have a7:=(c5.below h6.below).grown f5 d4 Do
    refine ys (.o [17,18] 19) a7 [P0 ba,.slice mj (i+1) lg,.slice (S1 gc) k k] (.t B [169,5,39,3,82,124]) fun ro q0 ps=>⟨(Xf q0 a7 hbx Do),?_⟩
    refine xwm 7 ((i:Int)+1) (↑(i+1):Int) ?_
    have gu:=(((((hA.below n6.below).only (Zd.of_upd (T:=[32]) u7 n6.blk Do) Do).below (Zb W7)).below h6.below).grownI c3 f5 d4).only (Zd.of_upd (T:=[82]) q0 a7 Do) Do
    have jd:=q0.own2 gg a7 Do
    have gh:=q0.own2 ji a7 Do
    have bq:=q0.own2 bn a7 Do
    have fv:=q0.own2 pn a7 Do
    have ea:=q0.own2 dv a7 Do
    have fr:=q0.below (y3.trans (fo.mono hBw)) hbx
    have nq:=(Zd.grown_new (((Zd.upd_new (e1.trans (Zd.of_below n6.below)) u7 g6).trans (Zd.of_below (Zb W7))).trans (Zd.of_below h6.below)) f5 d4).trans (Zd.of_upd q0 a7 Do)
    have v1:=q0.blkT ((((u7.blkT (c7.below n6.below) n6.blk Do).below (Zb W7)).below h6.below).grown f5 d4 Do) a7 Do
    have u3:=q0.blkT ((((u7.blkT (c8.below n6.below) n6.blk Do).below (Zb W7)).below h6.below).grown f5 d4 Do) a7 Do
    exact ze 2 (k2 _ _ _ ⟨i+1,_,_,rfl,rfl,fr,nq,ps,v1,u3,gh,bq,fv,(by rw[Vh c0];exact jd),ea,(by rw[Jc c0];exact gu),by omega,a3,a4,a2,a1⟩ M0)
   refine xbs 0 1 [V0 (↑(twR (Z.map Prod.fst) (Zw (Z.map Prod.fst) i)):Int)] 3 fun pg sj h4=>?_
   have ap:=blB (u7.below (blB d5 hBw n6.below) (N0 hBw g6)) hBw (Zb W7)
   have sf:=h4.ge0 ap
   have az:=Za (u7.own2 (Za hc n6.below) n6.blk Do) (Zb W7)
   have le:=Zg az h4
   have r2:=Za (u7.own2 (Za i7 n6.below) n6.blk Do) (Zb W7)
   have jv:=Zg r2 h4
   have oc:=Zg b7 h4
   have q9:=Za (u7.own2 (Za i8 n6.below) n6.blk Do) (Zb W7)
   have jr:=Zg q9 h4
   have kf:=Zg c6 h4
   have i2:=c5.below h4.below
   refine xb (.o [] 4) 1 i2 ?_
   have c3:=a1
   have d2:=Za c6 h4.below
   have ae:=blB ap hBw h4.below
   refine ybi (.o [] 16) (.t B [169,5,39,3,82,124]) fun _ _ _ _ zJ zQ zo zx zy zK=>Xr (b:=pg) (c:=1) (m:=1) (news:=[V0 (↑(twR (Z.map Prod.fst) (Zw (Z.map Prod.fst) i)):Int)]) (V0 0) 1 8 (i+1) ((((List.range (i+1)).map (twR (Z.map Prod.fst))).map nv)) zo Tryz.underlying27 K0 rfl Do zx d2 zy h4.blk rfl (by simp[Value.oneCell']) (by unfold maxLen;omega) M0 ae.size (by rfl) (Yc i1) fun ln md rx pp f7 gl v3=>?_
   have ax:=Za b7 h4.below
   have bu:=a3.row ax f7
   replace a3:=(a3.grow ax v3)
   have o4:=Za q9 h4.below
   have t8:=a4.row o4 f7
   replace a4:=(a4.grow o4 v3)
   have aw:=Za az h4.below
   have dw:=a2.symm.row aw f7
   replace a2:=(a2.symm.grow aw v3).symm
   have o8:=Za r2 h4.below
   have t6:=a1.row o8 f7
   replace a1:=(a1.grow o8 v3)
   have ip:=bu
   have cr:=t8
   have jj:=dw
   have bm:=t6
   refine zK _ _ (Zu (gl.mono hBw) f7 d2 Do) ?_
   have a8:=i2.grown f7 d2 Do
   refine ys (.o [17,18] 19) a8 [P0 ba,.slice ln (i+1) md,.slice (S1 gc) k k] (.t B [169,5,39,3,82,124]) fun rm m0 po=>⟨(Xf m0 a8 hbx Do),?_⟩
   refine xwm 7 ((i:Int)+1) (↑(i+1):Int) ?_
   have ey:=(((((hA.below n6.below).only (Zd.of_upd (T:=[32]) u7 n6.blk Do) Do).below (Zb W7)).below h4.below).grownI c3 f7 d2).only (Zd.of_upd (T:=[82]) m0 a8 Do) Do
   have je:=m0.own2 jj a8 Do
   have ha:=m0.own2 ip a8 Do
   have cp:=m0.own2 cr a8 Do
   have ev:=m0.own2 pp a8 Do
   have ee:=m0.own2 bm a8 Do
   have fc:=m0.below (ae.trans (gl.mono hBw)) hbx
   have ix:=(Zd.grown_new (((Zd.upd_new (e1.trans (Zd.of_below n6.below)) u7 g6).trans (Zd.of_below (Zb W7))).trans (Zd.of_below h4.below)) f7 d2).trans (Zd.of_upd m0 a8 Do)
   have k6:=m0.blkT ((((u7.blkT (c7.below n6.below) n6.blk Do).below (Zb W7)).below h4.below).grown f7 d2 Do) a8 Do
   have l4:=m0.blkT ((((u7.blkT (c8.below n6.below) n6.blk Do).below (Zb W7)).below h4.below).grown f7 d2 Do) a8 Do
   exact ze 2 (k2 _ _ _ ⟨i+1,_,_,rfl,rfl,fc,ix,po,k6,l4,ha,cp,ev,(by rw[Vh c0];exact je),ee,(by rw[Jc c0];exact ey),by omega,a3,a4,a2,a1⟩ M0)
  have c0:Zw (Z.map Prod.fst) i=i:=by omega
  have mn:twT (Z.map Prod.fst) i++[(2,Jv (Z.getD i zvD).1.2)]=twT (Z.map Prod.fst) (i+1):=by rw[Za4 c0,kc]
  have oo:Xo (twT (Z.map Prod.fst) i++[(2,Jv (Z.getD i zvD).1.2)])=twN (Z.map Prod.fst) (i+1):=by rw[mn];rfl
  refine xb 11 4 k7 ?_
  have ce:=u7.own2 (Za i8 n6.below) n6.blk Do
  have da:=u7.own2 (Za l9 n6.below) n6.blk Do
  have hh:=u7.own2 (Za hc n6.below) n6.blk Do
  have bz:=u7.own2 (Za i7 n6.below) n6.blk Do
  have gy:=(hA.below n6.below).only (Zd.of_upd (T:=[32]) u7 n6.blk Do) Do
  have iz:=u7.below (blB d5 hBw n6.below) (N0 hBw g6)
  have ja:=(Zd.upd_new (e1.trans (Zd.of_below n6.below)) u7 g6)
  have o5:=u7.blkT (g8.below n6.below) n6.blk Do
  have l8:=u7.blkT (c7.below n6.below) n6.blk Do
  have m5:=u7.blkT (c8.below n6.below) n6.blk Do
  refine zl 5 95 (fun zm lh V=>∃ (j:Nat) (p1:O0) (c1:Nat),lh=[(0,P0 bx),(2,P0 be),(6,.slice qo n eo),(7,.slice qn n dn),(8,V0 (i:Int)),(10,.slice p1 j c1),(19,.slice p n c),(20,V0 (n:Int)),(21,V0 (i:Int)),(52,.slice ((Z.getD i zvD).2.1) ((Z.getD i zvD).1.2.length) ((Z.getD i zvD).2.2)),(53,V0 (↑((Z.getD i zvD).1.2.length):Int)),(54,V0 (j:Int))]∧zm=(Z.getD i zvD).1.2.length-((j:Int)).toNat∧Below B w V∧Zd [169,5,39,3,82,124] w V∧Blk V bx ([P0 ba,.slice rp i rc,.slice (S1 gc) k k]) 82∧Blk V be ([.nilIface]) 39∧Blk V b1 ([V0 t,V0 u,V0 v,V0 (x:Int),.slice p n c]) 24∧Blk V b6 ([V0 ((Z.getD i zvD).1.1.1),V0 ((Z.getD i zvD).1.1.2.1),V0 ((Z.getD i zvD).1.1.2.2.1),V0 ((Z.getD i zvD).1.1.2.2.2),.slice ((Z.getD i zvD).2.1) ((Z.getD i zvD).1.2.length) ((Z.getD i zvD).2.2)]) 32∧V.ownsRow w.heap.size 3 1 (.slice qo n eo) n ((owL (Z.map Prod.fst)).map nv)∧V.ownsRow w.heap.size 3 1 (.slice qn n dn) n ((shN (Z.map Prod.fst)).map nv)∧V.ownsRow w.heap.size 3 1 (.slice rp i rc) i (((List.range i).map (twR (Z.map Prod.fst))).map nv)∧V.ownsRow B 3 1 (.slice (S1 gc) k k) k ((Ej (Z.map Prod.fst) k i).map V0)∧V.ownsRow B 3 1 (.slice pa N ca) N ((Np 1 N).map V0)∧AlF B ba b g nn cc pa ca N bs (twT (Z.map Prod.fst) i) V∧V.ownsRow w.heap.size 124 3 (.slice p1 j c1) j (((Jv (Z.getD i zvD).1.2).take j).flatMap Qb)∧j≤(Z.getD i zvD).1.2.length) ⟨0,none,0,rfl,rfl,iz,ja,o5,l8,m5,k7,u9,ce,da,hh,bz,gy,A9 _ _ _ _,A6 _⟩ ?_
  rintro _ _ sr ⟨j,p1,c1,rfl,rfl,i4,j4,j1,p9,j2,j0,ho,i8,l9,hc,i7,hA,hl,hj⟩ sk lk ta
  refine xid 6 ((j:Int)<(↑((Z.getD i zvD).1.2.length):Int)) (fun ns=>?_) (fun ns=>?_)
  ·have qy:=gr.each ((Z.getD i zvD).1.2.getD j mpD) (Zdk _ M0)
   refine xx 6 _ ((Z.getD i zvD).1.2.length) j 3 (Sts.cell ((hP _ (Below.refl _ _)).each i M0) Yf mpD (k:=j) (i:=0) M0 rfl).1 ?_
   refine xlv 0 (Sts.rp (k:=j) (px _ i4 j4) Yf mpD M0 Do) ?_
   refine xa 0 [V0 0,V0 0,V0 0] 63 fun rj rg e3=>?_
   have oi:=e3.ge0 i4
   refine xsv 0 e3.blk [V0 (((Z.getD i zvD).1.2.getD j mpD).1),V0 (((Z.getD i zvD).1.2.getD j mpD).2.1),V0 (((Z.getD i zvD).1.2.getD j mpD).2.2)] fun j3 k1 qb=>?_
   refine xd 2 (.t B [169,5,39,3,82,124]) ?_
   have o1:=qb.below (Zb j3)
   refine xbt (.e [0,1] 2) 0 B [169,5,39,3,82,124] o1 ?_
   refine xbt (.e [3] 4) 1 B [169,5,39,3,82,124] o1 ?_
   refine xbt (.e [5] 6) 2 B [169,5,39,3,82,124] o1 ?_
   refine xr (.o [] 7) (args:=#[V0 (((Z.getD i zvD).1.2.getD j mpD).2.1),V0 (((Z.getD i zvD).1.2.getD j mpD).2.2)]) (Av ((Z.getD i zvD).1.2.getD j mpD) _ ⟨by omega,by omega⟩ ⟨by omega,by omega⟩) fun sq e0=>?_
   refine xbs (.o [8] 9) 1 [V0 (((Z.getD i zvD).1.2.getD j mpD).1),.string ⟨(mapV ((Z.getD i zvD).1.2.getD j mpD)).toArray⟩,V0 0] 124 fun td sz i9=>?_
   have y7:=blB (blB (k1.below (blB i4 hBw e3.below) (N0 hBw oi)) hBw (Zb j3)) hBw e0
   have sm:=i9.ge0 y7
   have ht:=Za (Za (k1.own2 (Za hl e3.below) e3.blk Do) (Zb j3)) e0
   have mx:=Zg ht i9
   have e2:=Za ht i9.below
   have bf:=blB y7 hBw i9.below
   refine ybi (.o [] 10) (.t B [169,5,39,3,82,124]) fun _ _ _ _ zJ zQ zo zx zy zK=>Zz (m:=1) (news:=[V0 (((Z.getD i zvD).1.2.getD j mpD).1),.string ⟨(mapV ((Z.getD i zvD).1.2.getD j mpD)).toArray⟩,V0 0]) (.agg #[V0 0,.string ⟨#[]⟩,V0 0]) 3 32 (j+1) ((((Jv (Z.getD i zvD).1.2).take (j+1)).flatMap Qb)) zo Tryz.underlying99 K0 rfl Do zx e2 zy (i9.blk.sl 1 1 Do Do) rfl (by simp[Value.oneCell']) (by unfold maxLen;omega) M0 bf.size (by rfl) (by exact Ea (by rw[Yz];omega) (Kv M0)) fun pj pf qu qd e5 gp=>?_
   refine zK _ _ (Zu (gp.mono hBw) e5 e2 Do) ?_
   refine xwm (.r [11] 4) ((j:Int)+1) (↑(j+1):Int) ?_
   have iy:=Xb (Za (Za (Za (k1.own2 (Za ho e3.below) e3.blk Do) (Zb j3)) e0) i9.below) e5 e2 Do
   have ed:=Xb (Za (Za (Za (k1.own2 (Za i8 e3.below) e3.blk Do) (Zb j3)) e0) i9.below) e5 e2 Do
   have ec:=Xb (Za (Za (Za (k1.own2 (Za l9 e3.below) e3.blk Do) (Zb j3)) e0) i9.below) e5 e2 Do
   have hw:=Xb (Za (Za (Za (k1.own2 (Za hc e3.below) e3.blk Do) (Zb j3)) e0) i9.below) e5 e2 Do
   have dr:=Xb (Za (Za (Za (k1.own2 (Za i7 e3.below) e3.blk Do) (Zb j3)) e0) i9.below) e5 e2 Do
   have iv:=(((((hA.below e3.below).only (Zd.of_upd (T:=[63]) k1 e3.blk Do) Do).below (Zb j3)).below e0).below i9.below).only (Zd.of_grown (T:=[124]) e5 e2 Do) Do
   have fz:=bf.trans (gp.mono hBw)
   have fp:=(Zd.grown_new ((((Zd.upd_new (j4.trans (Zd.of_below e3.below)) k1 oi).trans (Zd.of_below (Zb j3))).trans (Zd.of_below e0)).trans (Zd.of_below i9.below)) e5 e2)
   have q6:=((((k1.blkT (j1.below e3.below) e3.blk Do).below (Zb j3)).below e0).below i9.below).grown e5 e2 Do
   have n0:=((((k1.blkT (p9.below e3.below) e3.blk Do).below (Zb j3)).below e0).below i9.below).grown e5 e2 Do
   have p4:=((((k1.blkT (j2.below e3.below) e3.blk Do).below (Zb j3)).below e0).below i9.below).grown e5 e2 Do
   have m1:=((((k1.blkT (j0.below e3.below) e3.blk Do).below (Zb j3)).below e0).below i9.below).grown e5 e2 Do
   exact ze 2 (lk _ _ _ ⟨j+1,_,_,rfl,rfl,fz,fp,q6,n0,p4,m1,iy,ed,ec,hw,dr,iv,qd,by omega⟩ M0)
  rw[A5 (by rw[Yz];omega)] at hl
  refine xc 10 (args:=#[P0 bx,V0 2,.slice p1 j c1,P0 be]) (by have q:=Fc B ba b g nn cc pa ca N bs (twT (Z.map Prod.fst) i) 2 p1 c1 j (Jv (Z.getD i zvD).1.2) bx be _ _ _ (by rw[Yz];omega) hC hA j1 p9 hbe qj (by rw[oo];omega) (fun W _ h2=>Ze (Zo hl h2 Do)) (N0 hBw i4.size);rw[oo] at q;exact q) ?_
  rintro _ qz ⟨rfl,nj,e4,hA,z8⟩
  have i5:=j1.only e4 Do
  refine xb 9 1 i5 ?_
  refine xbs 1 1 [V0 (↑(twN (Z.map Prod.fst) (i+1)):Int)] 3 fun pc ra e6=>?_
  have z6:=i4.trans nj
  have sd:=e6.ge0 z6
  have ad:=Zo hc e4 Do
  have nu:=Zg ad e6
  have n8:=Zo i7 e4 Do
  have ku:=Zg n8 e6
  have ak:=Zo ho e4 Do
  have nl:=Zg ak e6
  have o9:=Zo i8 e4 Do
  have ks:=Zg o9 e6
  have p3:=Zo l9 e4 Do
  have kh:=Zg p3 e6
  have c3:=a1
  have b8:=Za p3 e6.below
  have l6:=blB z6 hBw e6.below
  refine xbi 0 fun _ _ _ _ zJ zQ zo zx zy zK=>Xr (b:=pc) (c:=1) (m:=1) (news:=[V0 (↑(twN (Z.map Prod.fst) (i+1)):Int)]) (V0 0) 1 8 (i+1) ((((List.range (i+1)).map (twR (Z.map Prod.fst))).map nv)) zo Tryz.underlying27 K0 rfl Do zx b8 zy e6.blk rfl (by simp[Value.oneCell']) (by unfold maxLen;omega) M0 l6.size (by rfl) (Zbg c0) fun mo mz rb ok d0 jg s7=>?_
  have bh:=Za ak e6.below
  have dj:=a3.row bh d0
  replace a3:=(a3.grow bh s7)
  have k5:=Za o9 e6.below
  have s1:=a4.row k5 d0
  replace a4:=(a4.grow k5 s7)
  have ar:=Za ad e6.below
  have cj:=a2.symm.row ar d0
  replace a2:=(a2.symm.grow ar s7).symm
  have l2:=Za n8 e6.below
  have u6:=a1.row l2 d0
  replace a1:=(a1.grow l2 s7)
  have av:=dj
  have bw:=s1
  have z1:=cj
  have r0:=u6
  refine zK _ _ ?_
  have a0:=(i5.below e6.below).grown d0 b8 Do
  refine xs 2 a0 [P0 ba,.slice mo (i+1) mz,.slice (S1 gc) k k] fun e7 g3 ot=>?_
  refine xd 2 (.t B [169,5,39,3,82,124]) ?_
  have f4:=Za (g3.own2 bw a0 Do) (Zb e7)
  refine xx (.e [0,1,2,4,5,6] 7) _ n i 1 (Xn (Ze f4) ng (k:=i) M0).1 ?_
  refine xm2 0 3 8 ?_ ?_
  ·have o7:=ot.below (Zb e7)
   refine xb 0 2 o7 ?_
   refine xl (.o [] 8) ((Xn (Ze f4) ng (k:=i) M0).2) ?_
   refine xx (.e [] 9) _ k (twN (Z.map Prod.fst) (i+1)) 1 (show(some (⟨gc,0,none⟩:Addr)).isSome=true from rfl) ?_
   have d6:=Za (g3.own2 z1 a0 Do) (Zb e7)
   refine yst (.o [] 10) (.t B [169,5,39,3,82,124]) fun _ _ _ _ zJ zQ zo zx zy zK=>Yh (t:=3) (k:=(twN (Z.map Prod.fst) (i+1))) (v:=V0 (↑((shN (Z.map Prod.fst)).getD i 0):Int)) zo zx zy K0 rfl d6 M0 fun qw k3 ol=>?_
   rw[Sh i1 c0 M0] at ol
   have j6:=(g3.blkT ((z8.below e6.below).grown d0 b8 Do) a0 Do).below (Zb e7)
   have i3:=(g3.blkT (((j2.only e4 Do).below e6.below).grown d0 b8 Do) a0 Do).below (Zb e7)
   have ew:=(g3.blkT (((j0.only e4 Do).below e6.below).grown d0 b8 Do) a0 Do).below (Zb e7)
   refine zK _ _ (Jr (T:=[3]) (k3.below (Below.refl _ _) (Va d6)) (Zd.of_updRow k3 d6 Do)) ?_
   refine xwm 4 ((i:Int)+1) (↑(i+1):Int) ?_
   have ep:=((((hA.below e6.below).grownI c3 d0 b8).only (Zd.of_upd (T:=[82]) g3 a0 Do) Do).below (Zb e7)).updI hpa k3 d6
   have ij:=k3.own3 (Za (g3.own2 av a0 Do) (Zb e7)) (fun j hj e=>om _ rfl (e▸hj))
   have cz:=k3.own3 f4 (fun j hj e=>ou _ rfl (e▸hj))
   have gm:=k3.own3 (Za (g3.own2 ok a0 Do) (Zb e7)) (fun j hj e=>a2 _ rfl (e▸hj))
   have cl:=k3.own3 (Za (g3.own2 r0 a0 Do) (Zb e7)) (fun j hj e=>er _ rfl (e▸hj))
   have gv:=k3.below (blB (g3.below (l6.trans (jg.mono hBw)) hbx) hBw (Zb e7)) (Va d6)
   have gn:=(((Zd.grown_new ((j4.trans (e4.wide Do)).trans (Zd.of_below e6.below)) d0 b8).trans (Zd.of_upd g3 a0 Do)).trans (Zd.of_below (Zb e7))).trans (Zd.of_updRow k3 d6 Do)
   have fj:=k3.blk o7 (Xd o7 d6 Do)
   have s4:=k3.blk j6 (Xd j6 d6 Do)
   have n4:=k3.blk i3 (Xd i3 d6 Do)
   exact ze 2 (k2 _ _ _ ⟨i+1,_,_,rfl,rfl,gv,gn,fj,s4,n4,ij,cz,gm,ol,cl,(by rw[←mn];exact ep),by omega,a3,a4,a2,a1⟩ M0)
  refine xl 0 ((Xn (Ze f4) ng (k:=i) M0).2) ?_
  have l0:=ot.below (Zb e7)
  refine xb (.o [] 3) 2 l0 ?_
  refine xx (.e [] 9) _ k (twN (Z.map Prod.fst) (i+1)) 1 (show(some (⟨gc,0,none⟩:Addr)).isSome=true from rfl) ?_
  have d7:=Za (g3.own2 z1 a0 Do) (Zb e7)
  refine yst (.o [] 10) (.t B [169,5,39,3,82,124]) fun _ _ _ _ zJ zQ zo zx zy zK=>Yh (t:=3) (k:=(twN (Z.map Prod.fst) (i+1))) (v:=V0 (↑((shN (Z.map Prod.fst)).getD i 0):Int)) zo zx zy K0 rfl d7 M0 fun sb k4 op=>?_
  rw[Sh i1 c0 M0] at op
  have j9:=(g3.blkT ((z8.below e6.below).grown d0 b8 Do) a0 Do).below (Zb e7)
  have i6:=(g3.blkT (((j2.only e4 Do).below e6.below).grown d0 b8 Do) a0 Do).below (Zb e7)
  have gt:=(g3.blkT (((j0.only e4 Do).below e6.below).grown d0 b8 Do) a0 Do).below (Zb e7)
  refine zK _ _ (Jr (T:=[3]) (k4.below (Below.refl _ _) (Va d7)) (Zd.of_updRow k4 d7 Do)) ?_
  refine xwm 4 ((i:Int)+1) (↑(i+1):Int) ?_
  have jc:=((((hA.below e6.below).grownI c3 d0 b8).only (Zd.of_upd (T:=[82]) g3 a0 Do) Do).below (Zb e7)).updI hpa k4 d7
  have gb:=k4.own3 (Za (g3.own2 av a0 Do) (Zb e7)) (fun j hj e=>om _ rfl (e▸hj))
  have ct:=k4.own3 f4 (fun j hj e=>ou _ rfl (e▸hj))
  have fu:=k4.own3 (Za (g3.own2 ok a0 Do) (Zb e7)) (fun j hj e=>a2 _ rfl (e▸hj))
  have bo:=k4.own3 (Za (g3.own2 r0 a0 Do) (Zb e7)) (fun j hj e=>er _ rfl (e▸hj))
  have jo:=k4.below (blB (g3.below (l6.trans (jg.mono hBw)) hbx) hBw (Zb e7)) (Va d7)
  have iw:=(((Zd.grown_new ((j4.trans (e4.wide Do)).trans (Zd.of_below e6.below)) d0 b8).trans (Zd.of_upd g3 a0 Do)).trans (Zd.of_below (Zb e7))).trans (Zd.of_updRow k4 d7 Do)
  have ir:=k4.blk l0 (Xd l0 d7 Do)
  have s5:=k4.blk j9 (Xd j9 d7 Do)
  have n5:=k4.blk i6 (Xd i6 d7 Do)
  exact ze 2 (k2 _ _ _ ⟨i+1,_,_,rfl,rfl,jo,iw,ir,s5,n5,gb,ct,fu,op,bo,(by rw[←mn];exact jc),by omega,a3,a4,a2,a1⟩ M0)
 have qr:i=n:=by omega
 exact xe 4 (.tuple #[]) (by subst qr;exact⟨rfl,_,_,d5,e1,hA,g8,c7,Zf l9 hBw,hc⟩)
theorem tw_heads(B ba b g nn cc:Nat)(pa:O0)(ca N:Nat)(bs:Bi)(bx be:Nat)(rp:O0)(rc:Nat)(x3:Value)(p:O0)(c n x:Nat)(t u v:Int)(Z:List Zv)(w:World)(hZ:Z.length=n)(hP:∀ W,Below B w W→DevsR W p c Z)(hk:PoolOk t u v (x:Int) (Z.map Prod.fst))(hC:AlC B ba nn cc ca 1 N)(hA:AlF B ba b g nn cc pa ca N bs (twT (Z.map Prod.fst) n) w)(kx:Blk w bx [P0 ba,.slice rp n rc,x3] 82)(ke:Blk w be [.nilIface] 39)(hbx:B≤bx)(hbe:B≤be)(hro:w.ownsRow B 3 1 (.slice rp n rc) n (((List.range n).map (twR (Z.map Prod.fst))).map nv))(hr:Xo (G2 (Z.map Prod.fst))≤N)(hBw:B≤w.heap.size) :
 C0 44 #[P0 bx,.agg #[V0 t,V0 u,V0 v,V0 (x:Int),.slice p n c],P0 be] w ((fun e w'=>e=.returned (.tuple #[V0 (↑(Xo (G1 (Z.map Prod.fst))):Int),V0 (↑(Xo (G2 (Z.map Prod.fst))):Int)])∧Below B w w'∧Zd [169,5,39,124] w w'∧AlF B ba b g nn cc pa ca N bs (G2 (Z.map Prod.fst)) w'∧Blk w' be [.nilIface] 39)):=by
 have h6:∀ W,Below B w W→Zd [169,5,39,124] w W→DevsR W p c Z:=fun W h _=>hP W h
 have hx:x≤65536:=by have:=hk.hdata;omega
 have i6:(Z.map Prod.fst).length=n:=by rw[A0];exact hZ
 have h8:=hk.devs.few
 have j7:N≤14400:=by have a:=hC.hf;have b:=hC.hn;omega
 have i7:=G1_le (Z.map Prod.fst)
 have h3:twT (Z.map Prod.fst) n++[(1,(Gq (Z.map Prod.fst) (twR (Z.map Prod.fst))))]=G1 (Z.map Prod.fst):=by rw[←i6];rfl
 have h1:G1 (Z.map Prod.fst)++[(3,(Hr (Z.map Prod.fst) (Hb (Z.map Prod.fst))))]=G2 (Z.map Prod.fst):=rfl
 have i9:=Sl.len ((hP w (Below.refl _ _)).rowN hZ)
 refine zin 62 Tryz.func44 ?_
 refine xa 2 [V0 t,V0 u,V0 v,V0 (x:Int),.slice p n c] 24 fun b1 W1 n1=>?_
 refine xb 14 4 n1.blk ?_
 have f0:=Za hro n1.below
 have g6:=hA.below n1.below
 have hB:=blB (Below.refl B w) hBw n1.below
 have hO:=(show Zd [169,5,39,124] w _ from(Zd.of_below n1.below))
 have g5:=kx.below n1.below
 have g0:=ke.below n1.below
 refine zl 5 62 (fun zm h7 V=>∃ (i:Nat) (p7:O0) (c7:Nat) (p8:O0) (c8:Nat),h7=[(0,P0 bx),(2,P0 be),(6,V0 0),(7,V0 0),(8,.slice p7 i c7),(9,.slice p8 i c8),(14,.slice p n c),(15,V0 (n:Int)),(16,V0 (i:Int))]∧zm=n-((i:Int)).toNat∧Below B w V∧Zd [169,5,39,124] w V∧Blk V bx ([P0 ba,.slice rp n rc,x3]) 82∧Blk V be ([.nilIface]) 39∧Blk V b1 ([V0 t,V0 u,V0 v,V0 (x:Int),.slice p n c]) 24∧V.ownsRow w.heap.size 124 3 (.slice p7 i c7) i (((Gq (Z.map Prod.fst) (twR (Z.map Prod.fst))).take i).flatMap Qb)∧V.ownsRow w.heap.size 124 3 (.slice p8 i c8) i (((Hr (Z.map Prod.fst) (Hb (Z.map Prod.fst))).take i).flatMap Qb)∧V.ownsRow B 3 1 (.slice rp n rc) n (((List.range n).map (twR (Z.map Prod.fst))).map nv)∧AlF B ba b g nn cc pa ca N bs (twT (Z.map Prod.fst) n) V∧i≤n∧Xx (.slice p7 i c7) (.slice p8 i c8)) ⟨0,none,0,none,0,rfl,rfl,hB,hO,g5,g0,n1.blk,A9 _ _ _ _,A9 _ _ _ _,f0,g6,A6 _,Xx.nil _⟩ ?_
 rintro _ _ W2 ⟨i,p7,c7,p8,c8,rfl,rfl,b2,d1,a9,c4,e0,c6,d2,hro,hA,hi,c5⟩ J2 i2 r2
 refine xid 6 ((i:Int)<(n:Int)) (fun i3=>?_) (fun i3=>?_)
 ·have f3:=Zdo (Z:=Z) (i:=i) M0 dvD
  have i0:=Wm (L:=(Z.map Prod.fst)) (i:=i) M0
  rw[f3] at i0
  have i4:=hk.devs.sum
  have d5:=hk.devs.each ((Z.map Prod.fst).getD i dvD) (Zdk _ M0)
  rw[f3] at d5
  have j9:=Dn (L:=(Z.map Prod.fst)) (i:=i) M0
  have j3:=Qn (Z.map Prod.fst) (show i+1≤(Z.map Prod.fst).length by omega)
  refine xx 7 _ n i 5 ((hP _ (Below.refl _ _)).someN hZ (i:=i) M0) ?_
  refine xlv 0 (Sts.rp (k:=i) (h6 _ b2 d1).row Xu zvD M0 Do) ?_
  refine xa 0 [V0 0,V0 0,V0 0,V0 0,S0] 32 fun b4 W4 n4=>?_
  have g4:=n4.ge0 b2
  refine xsv 1 n4.blk [V0 ((Z.getD i zvD).1.1.1),V0 ((Z.getD i zvD).1.1.2.1),V0 ((Z.getD i zvD).1.1.2.2.1),V0 ((Z.getD i zvD).1.1.2.2.2),.slice ((Z.getD i zvD).2.1) ((Z.getD i zvD).1.2.length) ((Z.getD i zvD).2.2)] fun W5 u5 k5=>?_
  refine xd 3 (.t B [169,5,39,124]) ?_
  have d9:=k5.below (Zb W5)
  refine xbt (.e [0,1] 2) 0 B [169,5,39,124] d9 ?_
  have a3:=(u5.blkT (a9.below n4.below) n4.blk Do).below (Zb W5)
  refine xbt (.e [3,4,5] 6) 1 B [169,5,39,124] a3 ?_
  have b3:=Za (u5.own2 (Za hro n4.below) n4.blk Do) (Zb W5)
  refine xx (.e [7] 8) _ n i 1 (Xc (Ze b3) (i:=i) M0).1 ?_
  refine xlt (.e [] 9) (.t B [169,5,39,124]) (fun V hV=>(Xc (Ze (Zo b3 hV.2 Do)) (i:=i) M0).2) ?_
  refine xr (.o [] 10) (args:=#[V0 (↑(twR (Z.map Prod.fst) i):Int)]) (Mn (↑(twR (Z.map Prod.fst) i):Int) M0 M0 _) fun W6 b5=>?_
  refine xbs (.o [11] 12) 1 [V0 ((Z.getD i zvD).1.1.1),.string ⟨(leB (↑(twR (Z.map Prod.fst) i):Int) 4).toArray⟩,V0 0] 124 fun b7 W7 n7=>?_
  have e9:=blB (blB (u5.below (blB b2 hBw n4.below) (N0 hBw g4)) hBw (Zb W5)) hBw b5
  have g7:=n7.ge0 e9
  have a5:=Za (Za (u5.own2 (Za c6 n4.below) n4.blk Do) (Zb W5)) b5
  have f4:=Zg a5 n7
  have a7:=Za (Za (u5.own2 (Za d2 n4.below) n4.blk Do) (Zb W5)) b5
  have f2:=Zg a7 n7
  have a0:=Za a5 n7.below
  have e6:=blB e9 hBw n7.below
  refine ybi (.o [] 13) (.t B [169,5,39,124]) fun _ _ _ _ zJ zQ zo zx zy zK=>Xr (b:=b7) (c:=1) (m:=1) (news:=[V0 ((Z.getD i zvD).1.1.1),.string ⟨(leB (↑(twR (Z.map Prod.fst) i):Int) 4).toArray⟩,V0 0]) (.agg #[V0 0,.string ⟨#[]⟩,V0 0]) 3 32 (i+1) ((((Gq (Z.map Prod.fst) (twR (Z.map Prod.fst))).take (i+1)).flatMap Qb)) zo Tryz.underlying99 K0 rfl Do zx a0 zy n7.blk rfl (by simp[Value.oneCell']) (by unfold maxLen;omega) M0 e6.size (by rfl) (by have e:=Jj (L:=(Z.map Prod.fst)) (R:=twR (Z.map Prod.fst)) (i:=i) M0;rw[f3] at e;exact Ea (by rw[Yw];omega) e) fun j5 j1 W8 o8 c1 h0 i1=>?_
  have b0:=Za a7 n7.below
  have b8:=c5.row b0 c1
  replace c5:=(c5.grow b0 i1)
  have d4:=b8
  refine zK _ _ (Zu (h0.mono hBw) c1 a0 Do) ?_
  refine xd (.r [14] 2) (.t B [169,5,39,124]) ?_
  have a8:=(((d9.below b5).below n7.below).grown c1 a0 Do).below (Zb W8)
  refine xbt (.e [0,1] 2) 0 B [169,5,39,124] a8 ?_
  refine xbt (.e [3] 4) 4 B [169,5,39,124] a8 ?_
  refine xbt (.e [5,6] 7) 1 B [169,5,39,124] a8 ?_
  refine xbt (.e [8] 9) 2 B [169,5,39,124] a8 ?_
  refine xbt (.e [10] 11) 3 B [169,5,39,124] a8 ?_
  refine xr (.o [12] 13) (args:=#[.agg #[V0 (↑((Z.getD i zvD).1.2.length):Int),V0 ((Z.getD i zvD).1.1.2.1),V0 ((Z.getD i zvD).1.1.2.2.1),V0 ((Z.getD i zvD).1.1.2.2.2)]]) (Lr (x:Int) (↑(Z.getD i zvD).1.2.length:Int) (Z.getD i zvD).1 _ d5 ⟨by omega,by omega⟩) fun W9 b9=>?_
  refine xbs (.o [14] 15) 1 [V0 ((Z.getD i zvD).1.1.1),.string ⟨(Hu (↑(Z.getD i zvD).1.2.length:Int) (Z.getD i zvD).1).toArray⟩,V0 0] 124 fun h9 j8 a4=>?_
  have f1:=blB (blB (e6.trans (h0.mono hBw)) hBw (Zb W8)) hBw b9
  have j0:=a4.ge0 f1
  have a6:=Za (Za d4 (Zb W8)) b9
  have e1:=Zg a6 a4
  have d8:=Za (Za o8 (Zb W8)) b9
  have f7:=Zg d8 a4
  have a1:=Za a6 a4.below
  have e5:=blB f1 hBw a4.below
  refine ybi (.o [] 16) (.t B [169,5,39,124]) fun _ _ _ _ zJ zQ zo zx zy zK=>Xr (b:=h9) (c:=1) (m:=1) (news:=[V0 ((Z.getD i zvD).1.1.1),.string ⟨(Hu (↑(Z.getD i zvD).1.2.length:Int) (Z.getD i zvD).1).toArray⟩,V0 0]) (.agg #[V0 0,.string ⟨#[]⟩,V0 0]) 3 32 (i+1) ((((Hr (Z.map Prod.fst) (Hb (Z.map Prod.fst))).take (i+1)).flatMap Qb)) zo Tryz.underlying99 K0 rfl Do zx a1 zy a4.blk rfl (by simp[Value.oneCell']) (by unfold maxLen;omega) M0 e5.size (by rfl) (by have e:=Je (L:=(Z.map Prod.fst)) (C:=Hb (Z.map Prod.fst)) (i:=i) M0;unfold Hb at e;rw[f3] at e;exact Ea (by rw[Qa];omega) e) fun h4 h5 i8 i5 a2 d7 f8=>?_
  have e4:=Za d8 a4.below
  have c9:=c5.symm.row e4 a2
  replace c5:=(c5.symm.grow e4 f8).symm
  have e2:=c9
  refine zK _ _ (Zu (d7.mono hBw) a2 a1 Do) ?_
  refine xwm (.r [17] 4) ((i:Int)+1) (↑(i+1):Int) ?_
  have d6:=Xb (Za (Za (Za (Xb (Za (Za b3 b5) n7.below) c1 a0 Do) (Zb W8)) b9) a4.below) a2 a1 Do
  have f6:=(((((((((hA.below n4.below).only (Zd.of_upd (T:=[32]) u5 n4.blk Do) Do).below (Zb W5)).below b5).below n7.below).only (Zd.of_grown (T:=[124]) c1 a0 Do) Do).below (Zb W8)).below b9).below a4.below).only (Zd.of_grown (T:=[124]) a2 a1 Do) Do
  have g1:=e5.trans (d7.mono hBw)
  have g9:=(Zd.grown_new ((((Zd.grown_new ((((Zd.upd_new (d1.trans (Zd.of_below n4.below)) u5 g4).trans (Zd.of_below (Zb W5))).trans (Zd.of_below b5)).trans (Zd.of_below n7.below)) c1 a0).trans (Zd.of_below (Zb W8))).trans (Zd.of_below b9)).trans (Zd.of_below a4.below)) a2 a1)
  have c0:=((((((a3.below b5).below n7.below).grown c1 a0 Do).below (Zb W8)).below b9).below a4.below).grown a2 a1 Do
  have c2:=((((((((u5.blkT (c4.below n4.below) n4.blk Do).below (Zb W5)).below b5).below n7.below).grown c1 a0 Do).below (Zb W8)).below b9).below a4.below).grown a2 a1 Do
  have b6:=((((((((u5.blkT (e0.below n4.below) n4.blk Do).below (Zb W5)).below b5).below n7.below).grown c1 a0 Do).below (Zb W8)).below b9).below a4.below).grown a2 a1 Do
  exact ze 2 (i2 _ _ _ ⟨i+1,_,_,_,_,rfl,rfl,g1,g9,c0,c2,b6,e2,i5,d6,f6,by omega,c5⟩ M0)
 have j4:i=n:=by omega
 rw[A5 (by rw[Yw];omega)] at c6
 rw[A5 (by rw[Qa];omega)] at d2
 refine xc 10 (args:=#[P0 bx,V0 1,.slice p7 i c7,P0 be]) (by have q:=Fc B ba b g nn cc pa ca N bs (twT (Z.map Prod.fst) n) 1 p7 c7 i (Gq (Z.map Prod.fst) (twR (Z.map Prod.fst))) bx be _ _ _ (by rw[Yw];omega) hC hA a9 c4 hbe (top_ok hk.devs) (by rw[h3];omega) (fun W _ h2=>Ze (Zo c6 h2 Do)) (N0 hBw b2.size);rw[h3] at q;exact q) ?_
 rintro _ j6 ⟨rfl,g3,d3,hA,e3⟩
 have c3:=a9.only d3 Do
 have d0:=Zo d2 d3 Do
 have e8:=b2.trans g3
 refine xc 9 (args:=#[P0 bx,V0 3,.slice p8 i c8,P0 be]) (by have q:=Fc B ba b g nn cc pa ca N bs (G1 (Z.map Prod.fst)) 3 p8 c8 i (Hr (Z.map Prod.fst) (Hb (Z.map Prod.fst))) bx be _ _ _ (by rw[Qa];omega) hC hA c3 e3 hbe (det_ok hk.devs) (by rw[h1];omega) (fun W _ h2=>Ze (Zo d0 h2 Do)) (N0 hBw e8.size);rw[h1] at q;exact q) ?_
 rintro _ j2 ⟨rfl,g2,g8,hA,e7⟩
 have f9:=e8.trans g2
 have f5:=(d1.trans (d3.wide Do)).trans (g8.wide Do)
 exact xe 5 (.tuple #[V0 (↑(Xo (G1 (Z.map Prod.fst))):Int),V0 (↑(Xo (G2 (Z.map Prod.fst))):Int)]) ⟨rfl,f9,f5,hA,e7⟩
theorem Eo(L:List (List Int))(f:Nat):∀ n,(Xj L f n).length=n:=fun n=>Vu L f n
theorem Zdl{x:Nat}(h:1≤x):(Dg x).sum+1≤2*x:=by
 induction x using Nat.strongRecOn with
 | _ x ih =>
  by_cases h1:x≤1
  ·rw[Qz h1];simp;omega
  ·rw[Qt h1,G0]
   have h2:=ov18 (x:=x) M0
   have:=ih (ovN x 18) M0 (Yr _ _)
   omega
theorem Kw(t:Int){k:Nat}(h:1≤k):Zy t k+1≤2*k:=by
 have hm:=(Yk t true).1
 have h1:ovN k (Qg t true)≤k:=by
  unfold ovN
  have:(k+Qg t true-1)/Qg t true≤k:=by
   rw[Nat.div_le_iff_le_mul_add_pred M0]
   have:=Nat.le_mul_of_pos_left k hm
   omega
  omega
 have h2:=Zdl (Yr k (Qg t true))
 unfold Zy Vw
 omega
def notN(L:List Dv)(i:Nat):Nat:=((List.range i).filter fun k=>!(Zw L k==k)).length
theorem Bp(L:List Dv)(i:Nat):notN L (i+1)=notN L i+if Zw L i=i then 0 else 1:=by
 unfold notN
 rw[C6,List.filter_append,A1]
 by_cases q:Zw L i=i<;>simp[q]
theorem Zc4(L:List Dv):∀ i,notN L i≤Vx L i
 | 0=>A3 _
 | i+1=>by
  have ih:=Zc4 L i
  have:=Xk 2 (L.getD i dvD).2.length
  rw[Bp,Vx]
  split<;>omega
theorem Dc(L:List Dv):∀ i,i≤L.length→i+2*Yo (shN L) i≤((shN L).take i).sum+notN L i
 | 0,_=>by simp[Yo]
 | i+1,h=>by
  have ih:=Dc L i M0
  rw[Qs (by rw[Vi];omega),Bp,Lz (by rw[Vi];omega)]
  have q:=Lq (L:=L) (i:=i) M0
  by_cases ho:Zw L i=i
  ·have:=q.1 ho
   rw[if_pos ho]
   split<;>omega
  ·have:(shN L).getD i 0=0:=by
    rcases F1 ((shN L).getD i 0) with z|z
    ·exact z
    ·exact absurd (q.2 (Nat.ne_of_gt z)) ho
   rw[if_neg ho,this]
   simp
   omega
theorem oft_off(L:List Dv):2*Nq L≤Vx L L.length:=by
 have a:=Dc L L.length (A3 _)
 have b:=Zc4 L L.length
 rw[A5 (by rw[Vi];exact A3 _),Zbk] at a
 have e:Nq L=Yo (shN L) L.length:=rfl
 omega
theorem needT_le(x:Nat)(L:List Dv):1≤Jg x L∧Jg x L≤Ts x L:=by
 have a:=oft_off L
 have b:=My x L
 have c:Zy 5 (Nq L)≤Vx L L.length+1:=by
  rcases F1 (Nq L) with z|z
  ·rw[z,Zc5];omega
  ·have:=Kw 5 z;omega
 have e:Tl x L=Ko x L-Vx L L.length+1+Zy 5 (Nq L):=rfl
 unfold Jg Ts Li
 rw[e]
 generalize Zy 5 (Nq L)=z at *
 generalize Ko x L=y at *
 generalize Vx L L.length=o at *
 omega
theorem Ez{x:Nat}{L:List Dv}{k:Nat}(h:Jg x L≤k):twK x L+Zy 5 (Nq L)+2+bmN k≤k:=by
 have a:=Zcz (m:=Tl x L) h
 have b:=Pv x L
 omega
def twB1(L:List Dv)(k:Nat):Bi:=Ov (G2 L) 1 (List.replicate (k*256) (0:UInt8))
def twD (x:Nat)(L:List Dv)(k:Nat):Int×Int×Bi:=plotB (Xp x L) (1+Xo (G2 L)) (twB1 L k)
def twC (x:Nat)(L:List Dv)(k:Nat):List Int:=Gw L (twK x L+1) k
def twM (x:Nat)(L:List Dv)(k:Nat):Int×Int×Bi:=Il (twC x L k) 1 (twK x L) (twD x L k).2.2
def twS (t u v:Int)(x:Nat)(L:List Dv)(k:Nat):Sup:=⟨t,u,v,(x:Int),(k:Int),(Xo (G1 L):Int),(Xo (G2 L):Int),(twD x L k).1,(twD x L k).2.1,(twM x L k).1,(twM x L k).2.1⟩
def twI (t u v:Int)(x:Nat)(L:List Dv)(k:Nat):Bi:=Vy (twM x L k).2.2 (0*256) (Wc 1 (0:Nat) (supB (twS t u v x L k)))
theorem Hi(x:Nat)(L:List Dv)(k:Nat):(twC x L k).length=k:=Jo _ _ _
theorem Zcl(x:Nat)(L:List Dv):twN L L.length<twK x L+1:=by have:=G1_le L;unfold twK;omega
theorem Lb{x:Nat}{L:List Dv}{k:Nat}(h:twK x L+1≤k):(Zh (twC x L k) (twC x L k).length).length=Nq L:=over_tw (Zcl x L) (by have:=Zcl x L;omega)
theorem twC_need{x:Nat}{L:List Dv}{k:Nat}(h:twK x L+1≤k):Xy (twC x L k)=Zy 5 (Nq L)+bmN k+1:=by
 unfold Xy;rw[Lb h,Hi]
theorem twD_in(x:Nat)(L:List Dv)(k:Nat):1≤(twD x L k).1∧(twD x L k).1≤(twK x L:Int)∧1≤(twD x L k).2.1∧(twD x L k).2.1≤(twK x L:Int):=by
 have a:=Js (t:=4) (l:=Xj (Xa (Zi (Xp x L)) (bmN (Xp x L).length)) (1+Xo (G2 L)) (bmN (Xp x L).length)) (q:=1+Xo (G2 L)+bmN (Xp x L).length) (bs:=Kn (Xa (Zi (Xp x L)) (bmN (Xp x L).length)) (1+Xo (G2 L)) (twB1 L k) (bmN (Xp x L).length)) M0
 have b:=Js (t:=5) (l:=Zh (Xp x L) (Xp x L).length) (q:=1+Xo (G2 L)+bmN (Xp x L).length+Zy 4 (bmN (Xp x L).length)) (bs:=(Vk 4 (Xj (Xa (Zi (Xp x L)) (bmN (Xp x L).length)) (1+Xo (G2 L)) (bmN (Xp x L).length)) (1+Xo (G2 L)+bmN (Xp x L).length) (Kn (Xa (Zi (Xp x L)) (bmN (Xp x L).length)) (1+Xo (G2 L)) (twB1 L k) (bmN (Xp x L).length))).2) M0
 rw[Eo] at a
 have e1:(twD x L k).1=_:=a
 have e2:(twD x L k).2.1=_:=b
 have h4:=Xk 4 (bmN (Xp x L).length)
 have h5:=Xk 5 (Zh (Xp x L) (Xp x L).length).length
 have e3:twK x L=Xo (G2 L)+(bmN (Xp x L).length+Zy 4 (bmN (Xp x L).length)+Zy 5 (Zh (Xp x L) (Xp x L).length).length):=rfl
 rw[e1,e2,e3]
 omega
theorem twM_in{x:Nat}{L:List Dv}{k:Nat}(h:twK x L+1≤k):1≤(twM x L k).1∧(twM x L k).1≤(twK x L+1+Zy 5 (Nq L)+bmN k:Nat)∧1≤(twM x L k).2.1∧(twM x L k).2.1≤(twK x L+1+Zy 5 (Nq L)+bmN k:Nat):=by
 have a:=Js (t:=5) (l:=Zh (twC x L k) (twC x L k).length) (q:=1+twK x L) (bs:=(twD x L k).2.2) M0
 have e2:(twM x L k).2.1=_:=a
 have e1:(twM x L k).1=((1+twK x L+Zy 5 (Zh (twC x L k) (twC x L k).length).length+bmN (Yd (twC x L k) (1+twK x L) (Xy (twC x L k))).length:Nat):Int):=rfl
 rw[Ym,Hi] at e1
 have e3:=Lb h
 rw[Hi] at e3
 rw[e3] at e1
 rw[Lb h] at e2
 have h5:=Xk 5 (Nq L)
 rw[e1,e2]
 omega
theorem tw_right{t u v:Int}{x k:Nat}{L:List Dv}(hk:PoolOk t u v (x:Int) L)(hr:Jg x L≤k)(hk2:k≤14400):Qi (twS t u v x L k)=true:=by
 have c:=Ez hr
 have a:=twD_in x L k
 have b:=twM_in (x:=x) (L:=L) (k:=k) M0
 have d:=G1_le L
 have e:twK x L=Xo (G2 L)+Ho (Xp x L):=rfl
 have h1:=hk.htx
 have h2:=hk.htime
 have h3:=hk.hunit
 have h4:=hk.hdata
 unfold Qi twS
 simp only[C8,decide_eq_true_eq,true_and]
 refine⟨⟨⟨⟨⟨⟨⟨⟨⟨⟨?_,?_⟩,?_⟩,?_⟩,?_⟩,?_⟩,?_⟩,?_⟩,?_⟩,?_⟩,?_⟩<;>omega
theorem Zbh{w:World}{L:List Dv}{g n c m:Nat}(h:Sl w (.slice (S1 g) n c) n ((Gw L m n).map V0))(hi:m<n):w.cell? (Zr (S1 g) (m*1))=some (V0 (↑(rcF L m):Int)):=by
 have q:=(IntsN.elem h (Jo _ _ _) hi).2
 rw[Kj hi,if_neg (Nat.lt_irrefl m)] at q
 exact q
theorem Zbl{L:List Dv}{m k:Nat}(h:m<k):((Gw L m k).map V0).set m (V0 (if(1:Int)>(↑(rcF L m):Int) then(1:Int) else(↑(rcF L m):Int)))=(Gw L (m+1) k).map V0:=by
 rw[←cntM_set h];congr 2;split<;>omega
theorem Xx.of_gt{w:World}{B e size n g n2 c2 c:Nat}{p:O0}{xs:List Value}(h:w.ownsRow B e size (.slice p n c) n xs)(hg:w.heap.size≤g):Xx (.slice p n c) (.slice (S1 g) n2 c2):=fun j h1 h2=>by
 have:=(h.lt j h1).2
 have e2:g=j:=Option.some.inj h2
 omega
theorem bz_out{B ba b g nn cc z:Nat}{pa:O0}{ca f N k0:Nat}{bs:Bi}{w:World}{cs:List Value}{T:TypeId}(h:Al B ba b g nn cc pa ca f N k0 bs w)(ke:Blk w z cs T)(h1:T≠169)(h2:T≠5):z∉[ba,g]:=by
 have h1:=Blk.tne ke h.blkA h1
 have h2:=Xd ke h.data h2
 simp only[D4,List.not_mem_nil,or_false,not_or]
 exact⟨h1,h2⟩
theorem tw_maps(B ba b g cc:Nat)(pa:O0)(ca N k:Nat)(bx be bz gc:Nat)(x2:Value)(p:O0)(c n x:Nat)(t u v:Int)(Z:List Zv)(w:World)(hZ:Z.length=n)(hP:∀ W,Below B w W→DevsR W p c Z)(hk:PoolOk t u v (x:Int) (Z.map Prod.fst))(hC:AlC B ba (k*256) cc ca 1 N)(hA:Al B ba b g (k*256) cc pa ca 1 N (Xo (G2 (Z.map Prod.fst))) (twB1 (Z.map Prod.fst) k) w)(kx:Blk w bx [P0 ba,x2,.slice (S1 gc) k k] 82)(ke:Blk w be [.nilIface] 39)(kz:Blk w bz [V0 t,V0 u,V0 v,V0 (x:Int),V0 (k:Int),V0 (↑(Xo (G1 (Z.map Prod.fst))):Int),V0 (↑(Xo (G2 (Z.map Prod.fst))):Int),V0 0,V0 0,V0 0,V0 0] 54)(hbe:B≤be)(hbz:B≤bz)(hpa:∀ n2 c2,Xx (.slice (S1 gc) n2 c2) (.slice pa N ca))(hc:w.ownsRow B 3 1 (.slice (S1 gc) k k) k ((Ej (Z.map Prod.fst) k n).map V0))(hN:N=k-1)(hr:Jg x (Z.map Prod.fst)≤k)(hk3:k≤3000)(hBw:B≤w.heap.size) :
 C0 45 #[P0 bx,.agg #[V0 t,V0 u,V0 v,V0 (x:Int),.slice p n c],P0 bz,P0 be] w ((fun e w'=>e=.returned (.tuple #[])∧Below B w w'∧Zd [169,5,39,99,124,132,126,54,3] w w'∧Blk w' be [.nilIface] 39∧Blk w' bz [V0 t,V0 u,V0 v,V0 (x:Int),V0 (k:Int),V0 (↑(Xo (G1 (Z.map Prod.fst))):Int),V0 (↑(Xo (G2 (Z.map Prod.fst))):Int),V0 ((twD x (Z.map Prod.fst) k).1),V0 ((twD x (Z.map Prod.fst) k).2.1),V0 ((twM x (Z.map Prod.fst) k).1),V0 ((twM x (Z.map Prod.fst) k).2.1)] 54∧Al B ba b g (k*256) cc pa ca 1 N (twK x (Z.map Prod.fst)+Xy (twC x (Z.map Prod.fst) k)) (twM x (Z.map Prod.fst) k).2.2 w')):=by
 have hx:x≤65536:=by have:=hk.hdata;omega
 have i0:(Z.map Prod.fst).length=n:=by rw[A0];exact hZ
 have g5:=Ez hr
 have i1:twK x (Z.map Prod.fst)=Xo (G2 (Z.map Prod.fst))+Ho (Xp x (Z.map Prod.fst)):=rfl
 have h5:=hk.devs.few
 have h6:Ej (Z.map Prod.fst) k n=Gw (Z.map Prod.fst) 0 k:=by rw[←i0];exact cntM_0 _ _
 refine zin 81 Tryz.func45 ?_
 refine xa 2 [V0 t,V0 u,V0 v,V0 (x:Int),.slice p n c] 24 fun b1 W1 n1=>?_
 have c8:=ke.below n1.below
 refine xb 7 0 c8 ?_
 refine xd 7 (.t B [169,5,39,99,124,132,126,54,3]) ?_
 have e3:=(kx.below n1.below).below (Zb W1)
 refine xbt (.e [0,1,2,3,4,5] 6) 0 B [169,5,39,99,124,132,126,54,3] e3 ?_
 have k1:=n1.blk.below (Zb W1)
 refine xlvt (.e [] 7) (.t B [169,5,39,99,124,132,126,54,3]) (fun V hV=>(k1.only hV.2 Do).rp) ?_
 have hB:=blB (blB (Below.refl B w) hBw n1.below) hBw (Zb W1)
 refine yc (.o [] 8) (args:=#[.agg #[V0 t,V0 u,V0 v,V0 (x:Int),.slice p n c]]) (.t B [169,5,39,99,124,132,126,54,3]) (Bk p c n x t u v Z _ hZ (hP _ hB) hk) ?_
 rintro _ W2 ⟨_,rfl,b2,q9,d9,rfl,h2⟩
 have h3:=(blB (blB (Below.refl B w) hBw n1.below) hBw (Zb W1)).size
 refine⟨(SF.of_below _ b2),?_⟩
 have c9:=Zf h2 h3
 have e5:=(c8.below (Zb W1)).below b2
 have e4:=((hA.below n1.below).below (Zb W1)).below b2
 have f0:=bz_out e4 e5 Do Do
 have e0:=blB hB hBw b2
 refine yc (.o [] 9) (args:=#[P0 ba,.slice q9 x d9]) (.t B [169,5,39,99,124,132,126,54,3]) (by have q:=Ol B ba b g (k*256) cc pa ca 1 N (Xo (G2 (Z.map Prod.fst))) (twB1 (Z.map Prod.fst) k) q9 d9 (Xp x (Z.map Prod.fst)) _ hC e4 (by rw[Qv];have q:=Ze c9;rw[←nat_map] at q;exact q) (by rw[Qv];omega) (by rw[Wp];have:=Mw hk.devs;omega) (Ed M0 hk.devs) Do M0 M0 (N0 hBw e0.size);rw[Qv] at q;exact q) ?_
 rintro _ W3 ⟨rfl,g8,c4,h7,hA⟩
 refine⟨(Jr g8 c4),?_⟩
 have f3:=Blk.fr e5 h7 f0
 have a5:=(((kz.below n1.below).below (Zb W1)).below b2).only c4 Do
 refine ys (.o [10,11,12,13,14,15] 16) a5 [V0 t,V0 u,V0 v,V0 (x:Int),V0 (k:Int),V0 (↑(Xo (G1 (Z.map Prod.fst))):Int),V0 (↑(Xo (G2 (Z.map Prod.fst))):Int),V0 ((twD x (Z.map Prod.fst) k).1),V0 0,V0 0,V0 0] (.t B [169,5,39,99,124,132,126,54,3]) fun W4 u4 k4=>⟨(Xf u4 a5 hbz Do),?_⟩
 refine ys (.o [17,18] 19) k4 [V0 t,V0 u,V0 v,V0 (x:Int),V0 (k:Int),V0 (↑(Xo (G1 (Z.map Prod.fst))):Int),V0 (↑(Xo (G2 (Z.map Prod.fst))):Int),V0 ((twD x (Z.map Prod.fst) k).1),V0 ((twD x (Z.map Prod.fst) k).2.1),V0 0,V0 0] (.t B [169,5,39,99,124,132,126,54,3]) fun W5 u5 k5=>⟨(Xf u5 k4 hbz Do),?_⟩
 have a0:=u5.blkT (u4.blkT f3 a5 Do) k4 Do
 refine ys (.o [20] 21) a0 [.nilIface] (.t B [169,5,39,99,124,132,126,54,3]) fun W6 u6 k6=>⟨(Xf u6 a0 hbe Do),?_⟩
 refine xb 7 0 k6 ?_
 have d3:=u6.blkT (u5.blkT (u4.blkT ((e3.below b2).only c4 Do) a5 Do) k4 Do) a0 Do
 refine xb 12 0 d3 ?_
 have c5:=((hA.only (Zd.of_upd (T:=[54]) u4 a5 Do) Do).only (Zd.of_upd (T:=[54]) u5 k4 Do) Do).only (Zd.of_upd (T:=[39]) u6 a0 Do) Do
 refine xr 0 (args:=#[P0 ba]) (Tk ba b _ (twK x (Z.map Prod.fst)) _ (c5.blkA)) fun W7 c1=>?_
 refine xwm 0 ((↑(twK x (Z.map Prod.fst)):Int)+1) (↑((twK x (Z.map Prod.fst))+1):Int) ?_
 have f4:=Za (u6.own2 (u5.own2 (u4.own2 (Zo (Za (Za (Za hc n1.below) (Zb W1)) b2) c4 Do) a5 Do) k4 Do) a0 Do) c1
 have f6:=c5.below c1
 have f5:=blB (u6.below (u5.below (u4.below (e0.trans g8) hbz) hbz) hbe) hBw c1
 have hO:=(((((((show Zd [169,5,39,99,124,132,126,54,3] w _ from(Zd.of_below n1.below)).trans (Zd.of_below (Zb W1))).trans (Zd.of_below b2)).trans (c4.wide Do)).trans (Zd.of_upd u4 a5 Do)).trans (Zd.of_upd u5 k4 Do)).trans (Zd.of_upd u6 a0 Do)).trans (Zd.of_below c1)
 have f1:=d3.below c1
 have g0:=k6.below c1
 have e9:=(u6.blkT k5 a0 Do).below c1
 have f8:=(u6.blkT (u5.blkT (u4.blkT ((k1.below b2).only c4 Do) a5 Do) k4 Do) a0 Do).below c1
 refine zl 4 81 (fun zm h1 V=>∃ (m:Nat),h1=[(0,P0 bx),(2,P0 bz),(3,P0 be),(41,V0 (↑((twK x (Z.map Prod.fst))+1):Int)),(42,V0 (m:Int))]∧zm=twK x (Z.map Prod.fst)+1-((m:Int)).toNat∧Below B w V∧Zd [169,5,39,99,124,132,126,54,3] w V∧Blk V bx ([P0 ba,x2,.slice (S1 gc) k k]) 82∧Blk V be ([.nilIface]) 39∧Blk V bz ([V0 t,V0 u,V0 v,V0 (x:Int),V0 (k:Int),V0 (↑(Xo (G1 (Z.map Prod.fst))):Int),V0 (↑(Xo (G2 (Z.map Prod.fst))):Int),V0 ((twD x (Z.map Prod.fst) k).1),V0 ((twD x (Z.map Prod.fst) k).2.1),V0 0,V0 0]) 54∧Blk V b1 ([V0 t,V0 u,V0 v,V0 (x:Int),.slice p n c]) 24∧V.ownsRow B 3 1 (.slice (S1 gc) k k) k ((Gw (Z.map Prod.fst) m k).map V0)∧Al B ba b g (k*256) cc pa ca 1 N (twK x (Z.map Prod.fst)) (twD x (Z.map Prod.fst) k).2.2 V∧m≤twK x (Z.map Prod.fst)+1) ⟨0,rfl,rfl,f5,hO,f1,g0,e9,f8,(by rw[←h6];exact f4),f6,A6 _⟩ ?_
 rintro _ _ W8 ⟨m,rfl,rfl,d0,e2,c0,b8,b9,d7,hc,hA,hm⟩ J8 h4 r8
 refine xid 6 ((m:Int)<(↑((twK x (Z.map Prod.fst))+1):Int)) (fun h8=>?_) (fun h8=>?_)
 ·refine xd 10 (.t B [169,5,39,99,124,132,126,54,3]) ?_
  have a3:=c0.below (Zb W8)
  refine xbt (.e [0,1,2] 3) 2 B [169,5,39,99,124,132,126,54,3] a3 ?_
  refine xbt (.e [4,5,6,7] 8) 2 B [169,5,39,99,124,132,126,54,3] a3 ?_
  refine xx (.e [9] 10) _ k m 1 (show(some (⟨gc,0,none⟩:Addr)).isSome=true from rfl) ?_
  have a4:=Za hc (Zb W8)
  refine xl (.o [] 11) (Zbh (Ze a4) M0) ?_
  refine xx (.e [12] 13) _ k m 1 (show(some (⟨gc,0,none⟩:Addr)).isSome=true from rfl) ?_
  refine yst (.o [] 14) (.t B [169,5,39,99,124,132,126,54,3]) fun _ _ _ _ zJ zQ zo zx zy zK=>Yh (t:=3) (k:=m) (v:=V0 (if(1:Int)>(↑(rcF (Z.map Prod.fst) m):Int) then(1:Int) else(↑(rcF (Z.map Prod.fst) m):Int))) zo zx zy K0 rfl a4 M0 fun i6 b3 g6=>?_
  rw[(Zbl (L:=(Z.map Prod.fst)) (m:=m) (k:=k) M0)] at g6
  have a6:=b8.below (Zb W8)
  have a8:=b9.below (Zb W8)
  have b0:=d7.below (Zb W8)
  refine zK _ _ (Jr (T:=[3]) (b3.below (Below.refl _ _) (Va a4)) (Zd.of_updRow b3 a4 Do)) ?_
  refine xwm 4 ((m:Int)+1) (↑(m+1):Int) ?_
  have g1:=(hA.below (Zb W8)).updI hpa b3 a4
  have g3:=b3.below (blB d0 hBw (Zb W8)) (Va a4)
  have g2:=(e2.trans (Zd.of_below (Zb W8))).trans (Zd.of_updRow b3 a4 Do)
  have b4:=b3.blk a3 (Xd a3 a4 Do)
  have b5:=b3.blk a6 (Xd a6 a4 Do)
  have b6:=b3.blk a8 (Xd a8 a4 Do)
  have b7:=b3.blk b0 (Xd b0 a4 Do)
  exact ze 2 (h4 _ _ _ ⟨m+1,rfl,rfl,g3,g2,b4,b5,b6,b7,g6,g1,by omega⟩ M0)
 refine xd 5 (.t B [169,5,39,99,124,132,126,54,3]) ?_
 have a9:=c0.below (Zb W8)
 refine xbt (.e [0,1,2,3,4,5] 6) 0 B [169,5,39,99,124,132,126,54,3] a9 ?_
 refine xbt (.e [7,8,9] 10) 2 B [169,5,39,99,124,132,126,54,3] a9 ?_
 have a7:=b8.below (Zb W8)
 have f7:=Za hc (Zb W8)
 have d1:=hA.below (Zb W8)
 have e8:=bz_out d1 a7 Do Do
 have h9:m=twK x (Z.map Prod.fst)+1:=by omega
 have g7:=f7
 rw[h9] at g7
 have d6:=blB d0 hBw (Zb W8)
 refine yc (.o [] 11) (args:=#[P0 ba,.slice (S1 gc) k k]) (.t B [169,5,39,99,124,132,126,54,3]) (by have q:=Tv B ba b g (k*256) cc pa ca 1 N (twK x (Z.map Prod.fst)) (twD x (Z.map Prod.fst) k).2.2 ⟨gc,0,none⟩ k (twC x (Z.map Prod.fst) k) _ hC d1 (by rw[Hi];exact Ze g7) (by rw[Hi];omega) (by rw[Hi];omega) (Iy M0 M0) M0 (by rw[twC_need M0];omega) Do (by rw[Nat.add_comm 1];exact Zad M0 (Zcl _ _)) (N0 hBw d6.size);rw[Hi] at q;exact q) ?_
 rintro _ i3 ⟨rfl,c7,c3,f9,hA⟩
 refine⟨(Jr c7 c3),?_⟩
 have c6:=Blk.fr a7 f9 e8
 have a1:=(b9.below (Zb W8)).only c3 Do
 refine ys (.o [12,13,14,15,16,17] 18) a1 [V0 t,V0 u,V0 v,V0 (x:Int),V0 (k:Int),V0 (↑(Xo (G1 (Z.map Prod.fst))):Int),V0 (↑(Xo (G2 (Z.map Prod.fst))):Int),V0 ((twD x (Z.map Prod.fst) k).1),V0 ((twD x (Z.map Prod.fst) k).2.1),V0 ((twM x (Z.map Prod.fst) k).1),V0 0] (.t B [169,5,39,99,124,132,126,54,3]) fun i5 d5 d8=>⟨(Xf d5 a1 hbz Do),?_⟩
 refine ys (.o [19,20] 21) d8 [V0 t,V0 u,V0 v,V0 (x:Int),V0 (k:Int),V0 (↑(Xo (G1 (Z.map Prod.fst))):Int),V0 (↑(Xo (G2 (Z.map Prod.fst))):Int),V0 ((twD x (Z.map Prod.fst) k).1),V0 ((twD x (Z.map Prod.fst) k).2.1),V0 ((twM x (Z.map Prod.fst) k).1),V0 ((twM x (Z.map Prod.fst) k).2.1)] (.t B [169,5,39,99,124,132,126,54,3]) fun i4 d4 g9=>⟨(Xf d4 d8 hbz Do),?_⟩
 have a2:=d4.blkT (d5.blkT c6 a1 Do) d8 Do
 refine ys (.o [22] 23) a2 [.nilIface] (.t B [169,5,39,99,124,132,126,54,3]) fun i2 e1 h0=>⟨(Xf e1 a2 hbe Do),?_⟩
 have d2:=e1.blkT g9 a2 Do
 have e7:=((hA.only (Zd.of_upd (T:=[54]) d5 a1 Do) Do).only (Zd.of_upd (T:=[54]) d4 d8 Do) Do).only (Zd.of_upd (T:=[39]) e1 a2 Do) Do
 have f2:=e1.below (d4.below (d5.below (d6.trans c7) hbz) hbz) hbe
 have e6:=((((e2.trans (Zd.of_below (Zb W8))).trans (c3.wide Do)).trans (Zd.of_upd d5 a1 Do)).trans (Zd.of_upd d4 d8 Do)).trans (Zd.of_upd e1 a2 Do)
 exact xe 1 (.tuple #[]) ⟨rfl,f2,e6,h0,d2,e7⟩
theorem Ib(k:Nat)(w:World)(hk:k≤14400) :
 C0 41 #[V0 (k:Int)] w (Qh (fun w' r=>∃ b p c,r=.tuple #[P0 b,V0 0]∧w.heap.size≤b∧ImgR w.heap.size b p (k*256) c (List.replicate (k*256) (0:UInt8)) w') w):=by
 refine zin 15 Tryz.func41 ?_
 refine xgk 12 [5,6] (show(decide ((k:Int)<(0:Int)):Bool)=false from decide_eq_false M0) ?_
 refine xk 5 (show(decide ((k:Int)>(14400:Int)):Bool)=false from decide_eq_false M0) ?_
 refine xwm 5 ((k:Int)*256) (↑(k*256):Int) ?_
 refine xmk 0 fun _ _ _ _ zJ zQ zo zx zy zK=>Ka (k*256) (.int .u8 0) 1 1 ((List.replicate (k*256) (0:UInt8)).map bv) zo zx zy Tryz.underlying50 K0 rfl M0 M0 (Cy (k*256)) fun b2 W2 n2=>?_
 refine zK _ _ ?_
 refine xa 1 [.slice (S1 b2) (k*256) (k*256)] 108 fun b3 W3 n3=>?_
 have hB:=bln n2.below n3.below
 have g3:=n3.ge n2.below
 have o2:=Za (Xg (size:=1) (n:=(k*256)) n2.blk (n2.ge (B3 w)) (by rw[A0,A8,D0]) (by unfold maxLen;omega)) n3.below
 exact xe 5 (.tuple #[P0 b3,V0 0]) ⟨_,rfl,hB,_,_,_,rfl,g3,⟨n3.blk,o2,by omega⟩⟩
def LayO(l:Bi)(k:Nat)(w:World)(e:Ending)(w':World):Prop:=∃ bi g ci,e=.returned (.tuple #[P0 bi,.nilIface])∧Bl w w'∧ImgR w.heap.size bi (S1 g) (k*256) ci l w'
theorem sup_PutT(t u v:Int)(x k:Nat)(L:List Dv)(w:World)(hr:Qi (twS t u v x L k)=true):C0 46 #[.agg #[V0 t,V0 u,V0 v,V0 (x:Int),V0 (k:Int),V0 (↑(Xo (G1 L)):Int),V0 (↑(Xo (G2 L)):Int),V0 (twD x L k).1,V0 (twD x L k).2.1,V0 (twM x L k).1,V0 (twM x L k).2.1]] w (Qh (fun w' r=>∃ p c,r=.tuple #[.slice p 244 c,V0 0]∧w'.ownsRow w.heap.size 5 1 (.slice p 244 c) 244 ((supB (twS t u v x L k)).map bv)) w):=by
 refine(sup_PutP (twS t u v x L k) w ⟨by show(0:Int)≤(k:Int);omega,?_⟩).mono ?_
 ·unfold Qi twS at hr
  simp only[C8,decide_eq_true_eq,true_and] at hr
  show(k:Int)<_
  omega
 ·rintro e W q
  rcases q with ⟨h,_⟩|⟨_,p,c,rfl,hb,ho⟩
  ·rw[hr] at h;cases h
  ·exact⟨_,rfl,hb,p,c,rfl,ho⟩
theorem Ow(p:O0)(c n x k:Nat)(t u v:Int)(Z:List Zv)(w:World)(hI:ItT w)(hZ:Z.length=n)(hP:DevsR w p c Z)(hk:PoolOk t u v (x:Int) (Z.map Prod.fst))(hk3:k≤3000)(hr:Jg x (Z.map Prod.fst)≤k) :
 C0 14 #[.agg #[V0 t,V0 u,V0 v,V0 (x:Int),.slice p n c],V0 (k:Int)] w (LayO (twI t u v x (Z.map Prod.fst) k) k w):=by
 have h6:k≤14400:=by omega
 have f9:=Ez hr
 have i5:twK x (Z.map Prod.fst)=Xo (G2 (Z.map Prod.fst))+Ho (Xp x (Z.map Prod.fst)):=rfl
 have h5:=tw_right hk hr h6
 obtain⟨nm,g9⟩:∃ y,Jg x (Z.map Prod.fst)=y:=⟨_,rfl⟩
 have h4:=hr
 rw[g9] at h4
 refine zin 91 Tryz.func14 ?_
 refine xa 2 [V0 t,V0 u,V0 v,V0 (x:Int),.slice p n c] 24 fun b1 W1 n1=>?_
 refine xlv 7 n1.blk.rp ?_
 refine xr 0 (args:=#[.agg #[V0 t,V0 u,V0 v,V0 (x:Int),.slice p n c]]) (Vm p c n t u v (x:Int) Z _ hZ (hP.below n1.below)) fun W2 g1=>?_
 refine xk 9 (show(((Ye t u v (x:Int) (Z.map Prod.fst)) != (0:Int)):Bool)=false from(by rw[Kf.2 hk];rfl)) ?_
 have d6:=bln n1.below g1
 have g2:=d6.size
 refine xc 5 (args:=#[V0 (k:Int)]) (Ib k _ M0) ?_
 rintro _ W3 ⟨_,rfl,h3,bi,pi,ci,rfl,gi,c8⟩
 replace c8:=c8.mono g2
 replace gi:=N0 g2 gi
 have d5:=(n1.blk.below g1).below h3
 refine xlv 21 d5.rp ?_
 have b0:=bln d6 h3
 refine xr 0 (args:=#[.agg #[V0 t,V0 u,V0 v,V0 (x:Int),.slice p n c]]) (by have q:=Pn p c n x t u v Z _ (hI.below b0) hZ (hP.below b0) hk;rw[g9] at q;exact q) fun W4 f6=>?_
 refine xk 3 (show(decide ((k:Int)<(nm:Int)):Bool)=false from decide_eq_false M0) ?_
 have a2:=c8.below f6
 have e1:=bln b0 f6
 have h1:=e1.size
 obtain⟨g,rfl,i3⟩:=a2.base M0
 have g3:=a2
 refine xc 5 (args:=#[P0 bi,V0 1]) (Tg bi (S1 g) (k*256) ci 1 (k-1) (1:Int) rfl M0 _ g3.blk M0 Do M0) ?_
 rintro _ W5 ⟨_,rfl,e2,ba,pa,ca,rfl,ga,ka,g0⟩
 have h2:=g3.below e2
 have hA:AlF w.heap.size ba bi g (k*256) ci pa ca (k-1) (List.replicate (k*256) (0:UInt8)) [] _:=⟨ka,h2.blk,h2.row,Zf g0 h1⟩
 have hC:AlC w.heap.size ba (k*256) ci ca 1 (k-1):=⟨by omega,i3,Dk g0 M0,by omega,N0 h1 ga⟩
 have i0:=hA.nums
 refine xa 3 [.nilIface] 39 fun b6 W6 n6=>?_
 have c9:=bln e1 e2
 have g6:=n6.ge c9
 refine xs 1 n6.blk [.nilIface] fun W7 u7 k7=>?_
 refine xb 5 0 k7 ?_
 have a3:=u7.blkT (((d5.below f6).below e2).below n6.below) n6.blk Do
 refine xb 9 0 a3 ?_
 refine xb 1 1 a3 ?_
 refine xb 1 2 a3 ?_
 refine xb 1 3 a3 ?_
 refine xa 2 [V0 0,V0 0,V0 0,V0 0,V0 0,V0 0,V0 0,V0 0,V0 0,V0 0,V0 0] 54 fun b8 W8 n8=>?_
 have c7:=u7.below (bln c9 n6.below) g6
 have g8:=n8.ge c7
 refine xsv 0 n8.blk [V0 t,V0 u,V0 v,V0 (x:Int),V0 (k:Int),V0 0,V0 0,V0 0,V0 0,V0 0,V0 0] fun W9 u9 k9=>?_
 have a8:=u9.own2 (Za (u7.own2 (Za i0 n6.below) n6.blk Do) n8.below) n8.blk Do
 refine xmk 6 fun _ _ _ _ zJ zQ zo zx zy zK=>Ka k (V0 0) 1 8 ((Lk 0 k).map V0) zo zx zy Tryz.underlying27 K0 rfl M0 M0 ((Zbc k)) fun e3 j3 a5=>?_
 have d4:=u9.below (bln c7 n8.below) g8
 have h9:=a5.ge d4
 have e4:=Zg a8 a5
 refine zK _ _ ?_
 refine xa 1 [P0 ba,S0,.slice (S1 e3) k k] 82 fun b9 i7 a7=>?_
 have c4:=bln d4 a5.below
 have g5:=a7.ge c4
 have c3:=((u9.blkT (a3.below n8.below) n8.blk Do).below a5.below).below a7.below
 refine xlv 6 c3.rp ?_
 have f5:=(((((hA.below n6.below).only (Zd.of_upd (T:=[39]) u7 n6.blk Do) Do).below n8.below).only (Zd.of_upd (T:=[54]) u9 n8.blk Do) Do).below a5.below).below a7.below
 have f1:=((u9.blkT (k7.below n8.below) n8.blk Do).below a5.below).below a7.below
 have h8:=Za (Xg (size:=1) (n:=k) a5.blk h9 (by rw[A0,Zcd,D0]) (by unfold maxLen;omega)) a7.below
 have h0:∀ n2 c2,Xx (.slice (S1 e3) n2 c2) (.slice pa (k-1) ca):=fun n2 c2=>(Xx.of_gt a8 (by have:=a5.at_;omega)).symm
 have a4:=bln c4 a7.below
 refine xc 0 (args:=#[P0 b9,.agg #[V0 t,V0 u,V0 v,V0 (x:Int),.slice p n c],P0 b6]) (tw_trees w.heap.size ba bi g (k*256) ci pa ca (k-1) (List.replicate (k*256) (0:UInt8)) b9 b6 e3 k p c n x t u v Z _ (fun W h=>hI.below (a4.trans h)) hZ (fun W h=>hP.below (a4.trans h)) hk hC f5 a7.blk f1 g5 g6 h8 h0 rfl M0 a4.size) ?_
 rintro _ j1 ⟨rfl,rp,rc,e9,e0,hA,d8,f7,c6,f0⟩
 have d2:=c3.only e0 Do
 refine xlv 5 d2.rp ?_
 have b5:=a4.trans e9
 refine xc 0 (args:=#[P0 b9,.agg #[V0 t,V0 u,V0 v,V0 (x:Int),.slice p n c],P0 b6]) (tw_heads w.heap.size ba bi g (k*256) ci pa ca (k-1) (List.replicate (k*256) (0:UInt8)) b9 b6 rp rc _ p c n x t u v Z _ hZ (fun W h=>hP.below (b5.trans h)) hk hC hA d8 f7 g5 g6 c6 M0 b5.size) ?_
 rintro _ j0 ⟨rfl,e8,a6,hA,f8⟩
 have a1:=(((k9.below a5.below).below a7.below).only e0 Do).only a6 Do
 refine xs 4 a1 [V0 t,V0 u,V0 v,V0 (x:Int),V0 (k:Int),V0 (↑(Xo (G1 (Z.map Prod.fst))):Int),V0 0,V0 0,V0 0,V0 0,V0 0] fun i6 c1 b7=>?_
 refine xs 1 b7 [V0 t,V0 u,V0 v,V0 (x:Int),V0 (k:Int),V0 (↑(Xo (G1 (Z.map Prod.fst))):Int),V0 (↑(Xo (G2 (Z.map Prod.fst))):Int),V0 0,V0 0,V0 0,V0 0] fun i8 c0 i1=>?_
 have e7:=c0.blkT (c1.blkT (d2.only a6 Do) a1 Do) b7 Do
 refine xlv 5 e7.rp ?_
 have e5:=(hA.only (Zd.of_upd (T:=[54]) c1 a1 Do) Do).only (Zd.of_upd (T:=[54]) c0 b7 Do) Do
 have b2:=c0.blkT (c1.blkT (d8.only a6 Do) a1 Do) b7 Do
 have b4:=c0.blkT (c1.blkT f8 a1 Do) b7 Do
 have b3:=c0.own2 (c1.own2 (Zo f0 a6 Do) a1 Do) b7 Do
 have a0:=c0.below (c1.below (b5.trans e8) g8) g8
 refine xc 0 (args:=#[P0 b9,.agg #[V0 t,V0 u,V0 v,V0 (x:Int),.slice p n c],P0 b8,P0 b6]) (tw_maps w.heap.size ba bi g ci pa ca (k-1) k b9 b6 b8 e3 _ p c n x t u v Z _ hZ (fun W h=>hP.below (a0.trans h)) hk hC e5 b2 b4 i1 g6 g8 h0 b3 rfl hr hk3 a0.size) ?_
 rintro _ j2 ⟨rfl,c5,h7,f3,f2,hA⟩
 refine xb 5 0 f3 ?_
 refine xlv 8 f2.rp ?_
 refine xc 0 (args:=#[.agg #[V0 t,V0 u,V0 v,V0 (x:Int),V0 (k:Int),V0 (↑(Xo (G1 (Z.map Prod.fst))):Int),V0 (↑(Xo (G2 (Z.map Prod.fst))):Int),V0 ((twD x (Z.map Prod.fst) k).1),V0 ((twD x (Z.map Prod.fst) k).2.1),V0 ((twM x (Z.map Prod.fst) k).1),V0 ((twM x (Z.map Prod.fst) k).2.1)]]) (sup_PutT t u v x k (Z.map Prod.fst) _ h5) ?_
 rintro _ i9 ⟨_,rfl,d1,q7,d7,rfl,i4⟩
 have e6:=(a0.trans c5).size
 have d3:=Zf i4 e6
 have d0:=hA.below d1
 have a9:=bln (a0.trans c5) d1
 refine xc 22 (args:=#[P0 bi,V0 0,V0 1,.slice q7 244 d7]) (Bt w.heap.size bi (S1 g) (k*256) ci 0 (0:Int) (twM x (Z.map Prod.fst) k).2.2 1 q7 d7 244 (supB (twS t u v x (Z.map Prod.fst) k)) _ rfl (Fv _) ⟨d0.blkI,d0.data,hC.hn⟩ M0 Do Do (Qf (Ze d3) (Fv _)) Do a9.size) ?_
 have g7:=a2.below e2
 rintro _ j4 ⟨rfl,f4,i2,c8⟩
 have d9:=a9.trans f4
 exact xe 20 (.tuple #[P0 bi,.nilIface]) (by have hz:=c8;exact⟨_,_,_,rfl,d9,hz⟩)
theorem Xv{w:World}{p:O0}{n c:Nat}{L:List Dv}(h:Sl w (.slice p n c) n ((owL L).map nv))(hn:L.length=n){i:Nat}(hi:i<n):p.isSome=true∧w.cell? (Zr p (i*1))=some (V0 (↑(Zw L i):Int)):=by
 have q:=Xn h (by rw[Nj];exact hn) hi
 rw[Zam M0] at q;exact q
theorem Mh(p:O0)(c n:Nat)(t u v x:Int)(Z:List Zv)(w:World)(hZ:Z.length=n)(hP:DevsR w p c Z)(hk:Ye t u v x (Z.map Prod.fst)≠0) :
 C0 33 #[.agg #[V0 t,V0 u,V0 v,V0 x,.slice p n c]] w (Ret (V0 0) w):=by
 refine zin 46 Tryz.func33 ?_
 refine xa 2 [V0 t,V0 u,V0 v,V0 x,.slice p n c] 24 fun b1 W1 n1=>?_
 refine xlv 6 n1.blk.rp ?_
 refine xr 0 (args:=#[.agg #[V0 t,V0 u,V0 v,V0 x,.slice p n c]]) (Vm p c n t u v x Z _ hZ (hP.below n1.below)) fun W2 a1=>?_
 refine xk 3 (show(((Ye t u v x (Z.map Prod.fst)) != (0:Int)):Bool)=true from(by simpa using hk)) ?_
 have a0:=bln n1.below a1
 exact xe 7 (V0 0) ⟨rfl,a0⟩
theorem Az(p:O0)(c n:Nat)(t u v x:Int)(Z:List Zv)(w:World)(hZ:Z.length=n)(hP:DevsR w p c Z)(hk:Ye t u v x (Z.map Prod.fst)≠0) :
 C0 10 #[.agg #[V0 t,V0 u,V0 v,V0 x,.slice p n c]] w (Ret (V0 0) w):=by
 refine zin 50 Tryz.func10 ?_
 refine xa 2 [V0 t,V0 u,V0 v,V0 x,.slice p n c] 24 fun b1 W1 n1=>?_
 refine xlv 5 n1.blk.rp ?_
 refine xr 0 (args:=#[.agg #[V0 t,V0 u,V0 v,V0 x,.slice p n c]]) (Mh p c n t u v x Z _ hZ (hP.below n1.below) hk) fun W2 a1=>?_
 have a0:=bln n1.below a1
 exact xe 18 (V0 0) ⟨rfl,a0⟩
def ndA (t u v x:Int)(L:List Dv):Nat:=if Ye t u v x L=0 then Jg x.toNat L else 0
theorem Ao(p:O0)(c n:Nat)(t u v x:Int)(Z:List Zv)(w:World)(hI:ItT w)(hZ:Z.length=n)(hP:DevsR w p c Z):C0 10 #[.agg #[V0 t,V0 u,V0 v,V0 x,.slice p n c]] w (Ret (V0 (↑(ndA t u v x (Z.map Prod.fst)):Int)) w):=by
 by_cases h1:Ye t u v x (Z.map Prod.fst)=0
 ·have hk:=Kf.1 h1
  obtain⟨X,rfl⟩:∃ X:Nat,x=(X:Int):=⟨x.toNat,by have:=hk.hdata;omega⟩
  unfold ndA
  rw[if_pos h1,G7]
  exact Pn p c n X t u v Z w hI hZ hP hk
 ·unfold ndA
  rw[if_neg h1]
  exact Az p c n t u v x Z w hZ hP h1
theorem Fk(a b:O0)(n ca cb:Nat)(O:List Nat)(w:World)(hn:O.length=n)(ha:Sl w (.slice a n ca) n (O.map nv))(hb:Sl w (.slice b n cb) n (O.map nv))(hl:n≤100000):C0 18 #[.slice a n ca,.slice b n cb] w (Ret (.bool true) w):=by
 have e:O.map nv=(O.map fun x:Nat=>(x:Int)).map V0:=by simp[nv]
 rw[e] at ha hb
 have hL:(O.map fun x:Nat=>(x:Int)).length=n:=by rw[A0];exact hn
 subst hL
 exact Dx a b ca cb _ w ha hb M0
theorem Ak(p:O0)(c n:Nat)(t u v x:Int)(Z:List Zv)(w:World)(hZ:Z.length=n)(hP:DevsR w p c Z)(hS:∀ i,i<n→(Z.getD i zvD).1.2.length≤6000000000000) :
 C0 6 #[.agg #[V0 t,V0 u,V0 v,V0 x,.slice p n c]] w ((fun e w'=>(e=.returned (V0 0)∧Bl w w')∨(e=.returned (V0 1)∧Bl w w'∧n≤200∧Qp (Z.map Prod.fst)≤2000))):=by
 have b2:=Sl.len (hP.rowN hZ)
 refine zin 33 Tryz.func6 ?_
 refine xa 2 [V0 t,V0 u,V0 v,V0 x,.slice p n c] 24 fun b1 W1 n1=>?_
 refine zl 15 33 (fun zm a8 V=>∃ (i:Nat),a8=[(1,P0 b1),(2,V0 0),(3,V0 (↑(Qp ((Z.map Prod.fst).take i)):Int)),(4,V0 (i:Int))]∧zm=n-((i:Int)).toNat∧Bl w V∧Blk V b1 ([V0 t,V0 u,V0 v,V0 x,.slice p n c]) 24∧i≤n∧i≤201∧Qp ((Z.map Prod.fst).take i)≤i*6000000000000) ⟨0,rfl,rfl,n1.below,n1.blk,⟨A6 _,A6 _,by simp[Qp]⟩⟩ ?_
 rintro _ _ W2 ⟨i,rfl,rfl,a1,a0,hi⟩ J2 a7 r2
 refine xb 5 4 a0 ?_
 refine xg 3 [9,10] (decide ((i:Int)<(n:Int))) (fun a3=>?_) (fun a3=>?_)
 ·have a3:=of_decide_eq_true a3
  refine xid 5 ((i:Int)<(201:Int)) (fun b0=>?_) (fun b0=>?_)
  ·have a6:=Gz (Z:=Z) (i:=i) M0
   have b3:=hS i M0
   refine xb 7 4 a0 ?_
   refine xx 1 _ n i 5 (hP.someN hZ (i:=i) M0) ?_
   refine xl 1 ((Sts.cell (hP.below a1).row Xu zvD (k:=i) (i:=4) M0 rfl).2) ?_
   refine xwm 1 ((↑(Qp ((Z.map Prod.fst).take i)):Int)+(↑((Z.getD i zvD).1.2.length):Int)) (↑((Qp ((Z.map Prod.fst).take i))+((Z.getD i zvD).1.2.length)):Int) ?_
   refine xwm 6 ((i:Int)+1) (↑(i+1):Int) ?_
   refine xv1 2 3 (show(V0 (↑((Qp ((Z.map Prod.fst).take i))+((Z.getD i zvD).1.2.length)):Int):Value)=V0 (↑(Qp ((Z.map Prod.fst).take (i+1))):Int) from congrArg V0 M0) ?_
   exact ze 0 (a7 _ _ _ ⟨i+1,rfl,rfl,a1,a0,⟨by omega,by omega,by rw[a6];omega⟩⟩ M0)
  refine xb 9 4 a0 ?_
  refine xg 3 [28,29] (decide ((n:Int)≤(200:Int))) (fun a2=>?_) (fun a2=>?_)
  ·have a2:=of_decide_eq_true a2
   refine xid 5 ((↑(Qp ((Z.map Prod.fst).take i)):Int)≤(2000:Int)) (fun a9=>?_) (fun a9=>?_)
   ·exact xe 7 (V0 1) (.inr ⟨rfl,a1,by omega,by rw[←A5 (l:=(Z.map Prod.fst)) (i:=i) (by rw[A0];omega)];omega⟩)
   exact xe 8 (V0 0) (.inl ⟨rfl,a1⟩)
  have a2:=of_decide_eq_false a2
  exact xe 14 (V0 0) (.inl ⟨rfl,a1⟩)
 have a3:=of_decide_eq_false a3
 refine xb 15 4 a0 ?_
 refine xg 3 [28,29] (decide ((n:Int)≤(200:Int))) (fun a4=>?_) (fun a4=>?_)
 ·have a4:=of_decide_eq_true a4
  refine xid 5 ((↑(Qp ((Z.map Prod.fst).take i)):Int)≤(2000:Int)) (fun a5=>?_) (fun a5=>?_)
  ·exact xe 7 (V0 1) (.inr ⟨rfl,a1,by omega,by rw[←A5 (l:=(Z.map Prod.fst)) (i:=i) (by rw[A0];omega)];omega⟩)
  exact xe 8 (V0 0) (.inl ⟨rfl,a1⟩)
 have a4:=of_decide_eq_false a4
 exact xe 14 (V0 0) (.inl ⟨rfl,a1⟩)
def L27:List Dv:=[((1,0,0,0),[(1,0,0)]),((2,0,0,0),[(1,0,0)])]
def Z27 (b:Nat):List Zv:=[(((1,0,0,0),[(1,0,0)]),some ⟨b,0,none⟩,1),(((2,0,0,0),[(1,0,0)]),some ⟨b,0,none⟩,1)]
theorem Zdp{W:World}{bl bd:Nat}(kl:Blk W bl [V0 1,V0 0,V0 0] 63)(kd:Blk W bd [V0 1,V0 0,V0 0,V0 0,.slice (S1 bl) 1 1,V0 2,V0 0,V0 0,V0 0,.slice (S1 bl) 1 1] 32):DevsR W (S1 bd) 2 (Z27 bl):=by
 refine⟨kd.sl 2 2 Do Do,fun i hi=>?_⟩
 have a0:i<2:=hi
 obtain rfl|rfl:i=0∨i=1:=by omega
 ·exact kl.sl 1 1 Do Do
 ·exact kl.sl 1 1 Do Do
theorem ok27:PoolOk 0 0 1 ((1:Nat):Int) L27:=Kf.1 Do
theorem oft27:Sc 1 L27=0:=by
 have a:=Wd (Qe 1 L27) 1 (by rw[Ya];exact A3 _)
 rw[A5 (by rw[Ya];exact A3 _),Pb ok27.devs] at a
 have e:Qp L27=2:=by decide
 unfold Sc
 omega
theorem need27:8<Jg 1 L27∧Jg 1 L27≤20:=by
 have h1:=Pv 1 L27
 have h2:=G2_len L27
 have hl:L27.length=2:=rfl
 have hT:Nq L27=0:=by have:=Rl L27;omega
 have hp:Ho (Xp 1 L27)=1+Zy 4 1+Zy 5 0:=by
  have ho:Sc 1 L27=0:=oft27
  unfold Ho
  rw[Wp,Qv,ho];rfl
 have hw:twN L27 2=Zy 2 1:=by
  have a:twN L27 1=twN L27 0+Zy 2 (L27.getD 0 dvD).2.length:=Hk (i:=0) Do
  have b:twN L27 (1+1)=twN L27 1:=Cd Do
  have c:twN L27 0=0:=rfl
  have d:(L27.getD 0 dvD).2.length=1:=rfl
  rw[d,c] at a
  have e:twN L27 2=twN L27 1:=b
  rw[e];omega
 have k1:=Xk 2 1
 have k2:=Xk 1 2
 have k3:=Xk 3 2
 have k4:=Xk 4 1
 have l1:=Kw 2 (k:=1) Do
 have l2:=Kw 1 (k:=2) Do
 have l3:=Kw 3 (k:=2) Do
 have l4:=Kw 4 (k:=1) Do
 have h5:=Zc5
 have e:twK 1 L27=Xo (G2 L27)+Ho (Xp 1 L27):=rfl
 unfold Jg Li
 rw[hT] at h1
 rw[hl] at h2
 omega
theorem lay27(bl bd:Nat)(w:World)(hI:ItT w)(hP:DevsR w (S1 bd) 2 (Z27 bl)):C0 14 #[.agg #[V0 0,V0 0,V0 1,V0 1,.slice (S1 bd) 2 2],V0 20] w (LayO (twI 0 0 1 1 L27 20) 20 w) :=
 Ow (S1 bd) 2 2 1 20 0 0 1 (Z27 bl) w hI rfl hP ok27 Do need27.2
theorem own27(bl bd:Nat)(w:World)(hI:ItT w)(hP:DevsR w (S1 bd) 2 (Z27 bl)):C0 8 #[.agg #[V0 0,V0 0,V0 1,V0 1,.slice (S1 bd) 2 2]] w (Qh (fun w' r=>∃ q d,r=.slice q 2 d∧w'.ownsRow w.heap.size 3 1 (.slice q 2 d) 2 [V0 0,V0 0]) w):=by
 have q:=Kh (S1 bd) 2 2 0 0 1 1 (Z27 bl) w hI rfl hP (okR (data:=1) rfl ok27.devs Do) Do
 have e:(owL ((Z27 bl).map Prod.fst)).map nv=[V0 0,V0 0]:=by
  have e2:owL L27=[0,0]:=by decide
  show(owL L27).map nv=_
  rw[e2];rfl
 rw[e] at q;exact q
theorem nd27(bl bd:Nat)(w:World)(hI:ItT w)(hP:DevsR w (S1 bd) 2 (Z27 bl)):C0 10 #[.agg #[V0 0,V0 0,V0 1,V0 1,.slice (S1 bd) 2 2]] w (Ret (V0 (↑(Jg 1 L27):Int)) w) :=
 Pn (S1 bd) 2 2 1 0 0 1 (Z27 bl) w hI rfl hP ok27
theorem same27(a b:O0)(ca cb:Nat)(w:World)(ha:Sl w (.slice a 2 ca) 2 [V0 0,V0 0])(hb:Sl w (.slice b 2 cb) 2 [V0 0,V0 0]):C0 18 #[.slice a 2 ca,.slice b 2 cb] w (Ret (.bool true) w) :=
 Fk a b 2 ca cb [0,0] w rfl ha hb Do
theorem Ev(w:World)(hI:ItT w) :
 C0 7 #[] w (Ret (.bool true) w):=by
 have c2:=need27
 refine zin 35 Tryz.func7 ?_
 refine xbs 8 1 [V0 1,V0 0,V0 0] 63 fun b1 W1 n1=>?_
 refine xbs 9 2 [V0 1,V0 0,V0 0,V0 0,.slice (S1 b1) 1 1,V0 2,V0 0,V0 0,V0 0,.slice (S1 b1) 1 1] 32 fun b2 W2 n2=>?_
 refine xa 1 [V0 0,V0 0,V0 0,V0 0,S0] 24 fun b3 W3 n3=>?_
 refine xsv 0 n3.blk [V0 0,V0 0,V0 1,V0 1,.slice (S1 b2) 2 2] fun W4 u4 k4=>?_
 have g3:=n3.ge (bln n1.below n2.below)
 refine xlv 4 k4.rp ?_
 have k1:=u4.blkT ((n1.blk.below n2.below).below n3.below) n3.blk Do
 have k2:=u4.blkT (n2.blk.below n3.below) n3.blk Do
 have hB:=u4.below (bln (bln n1.below n2.below) n3.below) g3
 refine xc 0 (args:=#[.agg #[V0 0,V0 0,V0 1,V0 1,.slice (S1 b2) 2 2],V0 20]) (lay27 b1 b2 _ (hI.below hB) (Zdp k1 k2)) ?_
 rintro _ W5 ⟨bi,g,ci,rfl,a5,c3⟩
 have a2:=k4.below a5
 refine xlv 16 a2.rp ?_
 have a1:=k1.below a5
 have a7:=k2.below a5
 have a3:=bln hB a5
 refine xc 0 (args:=#[.agg #[V0 0,V0 0,V0 1,V0 1,.slice (S1 b2) 2 2]]) (own27 b1 b2 _ (hI.below a3) (Zdp a1 a7)) ?_
 rintro _ W6 ⟨_,rfl,a9,qo,eo,rfl,ho⟩
 have c1:=(bln hB a5).size
 refine xbs 0 2 [V0 0,V0 0] 3 fun b7 W7 n7=>?_
 have a4:=bln a3 a9
 have g7:=n7.ge a4
 have a0:=Zf ho c1
 have b9:=Zg a0 n7
 have b6:=Za a0 n7.below
 refine xr 0 (args:=#[.slice qo 2 eo,.slice (S1 b7) 2 2]) (same27 _ _ _ _ _ (Ze b6) (n7.blk.sl 2 2 Do Do)) fun W8 a8=>?_
 have b4:=((a2.below a9).below n7.below).below a8
 refine xlv 2 b4.rp ?_
 have b0:=((a1.below a9).below n7.below).below a8
 have b5:=((a7.below a9).below n7.below).below a8
 have a6:=bln (bln a4 n7.below) a8
 refine xr 0 (args:=#[.agg #[V0 0,V0 0,V0 1,V0 1,.slice (S1 b2) 2 2]]) (nd27 b1 b2 _ (hI.below a6) (Zdp b0 b5)) fun W9 c0=>?_
 have b8:=bln a6 c0
 exact xe 6 (.bool (decide ((↑(Jg 1 L27):Int)>(8:Int)))) ⟨by rw[decide_eq_true (show(↑(Jg 1 L27):Int)>8 by omega)],b8⟩
theorem few_R{Z:List Zv}{n:Nat}(hZ:Z.length=n)(h:Qp (Z.map Prod.fst)≤2000)(hS:∀ i,i<n→(∀ m∈(Z.getD i zvD).1.2,MpR m)∧(Z.getD i zvD).1.2.length≤6000000000000):∀ i,i<n→(∀ m∈(Z.getD i zvD).1.2,MpR m)∧(Z.getD i zvD).1.2.length≤100000:=fun i hi=>by
 have b:=Wm (L:=Z.map Prod.fst) (i:=i) (by rw[A0];omega)
 rw[Zdo M0] at b
 exact⟨(hS i hi).1,by omega⟩
end Go.Proofs.YtekomodnkfhihaaGreatDoor
namespace Go.Proofs.YtekomodnkfhihaaGreatDoor
set_option maxHeartbeats 8000000
set_option maxRecDepth 100000
open Go.RowKit Go.Extern.Stop Go.Stop Go.Extern
set_option linter.unusedVariables false
structure WS where
 es:List Ent
 bs:List Int
 deep:Int
 looked:Nat
 fs:List (List Int×Int)
 dry:Bool
end Go.Proofs.YtekomodnkfhihaaGreatDoor
namespace Go.Proofs.YtekomodnkfhihaaGreatDoor
set_option maxHeartbeats 8000000
set_option maxRecDepth 100000
open Go.RowKit Go.Extern.Stop Go.Stop Go.Extern
set_option linter.unusedVariables false
attribute [local irreducible] wpList wpAnyH Code.wp Oper.wp Go
theorem Uu(p:O0)(n c n2 c2:Nat):(Value.slice p n c).ownBlock=(Value.slice p n2 c2).ownBlock:=by
 cases p<;>rfl
theorem Xx.len{p q:O0}{n c m d:Nat}(h:Xx (.slice p n c) (.slice q m d))(n2 c2 m2 d2:Nat):Xx (.slice p n2 c2) (.slice q m2 d2):=fun j h1 h2 =>
 h j ((Uu _ _ _ _ _).trans h1) ((Uu _ _ _ _ _).trans h2)
theorem Zb9{a:Act}{o:Oper}{p q:Operand}(x:Mp)(ho:o.op=.binOp .neq 63 p q 63)(hx:a.eval p=.agg (We x).toArray)(hy:a.eval q=.agg (We x).toArray)(V:World) :
 (execOp a.eval o).run Tryz.prog V=.ok (.value (.bool false)) V:=by
 have h1:=Tryz.underlying63
 have h2:=Tryz.underlying3
 have h4:Tryz.prog.stoodInHeld 63=false:=by kernel_rfl
 have hb:(binOp .neq 63 (.agg (We x).toArray) (.agg (We x).toArray)).run Tryz.prog V=.ok (.bool false) V:=by
  obtain⟨x0,x1,x2⟩:=x
  simp[go_sem,Program.fieldsOf,h1,h2,h4,Op.eqFields,We]
 have hg:=run_eqGuard_agg (P:=Tryz.prog) (w:=V) .neq 63 p q (We x).toArray (We x).toArray K0
 simp only[execOp,ho,hx,hy,B8,hg,C4,hb]
 rfl
theorem Lj(a b:O0)(ca cb:Nat)(L:List Mp)(w:World)(ha:Sts We w (.slice a L.length ca) L)(hb:Sts We w (.slice b L.length cb) L) :
 C0 80 #[.slice a L.length ca,.slice b L.length cb] w (Ret (.bool true) w):=by
 have a5:=Sl.len ha
 refine zin 26 Tryz.func80 ?_
 refine xk 15 (show(((L.length:Int) != (L.length:Int)):Bool)=false from by simp) ?_
 have hB:=Below.refl w.heap.size w
 refine zl 11 26 (fun zm a2 V=>∃ (i:Nat),a2=[(0,.slice a L.length ca),(1,.slice b L.length cb),(12,V0 (L.length:Int)),(13,V0 (i:Int))]∧zm=L.length-((i:Int)).toNat∧Bl w V∧i≤L.length) ⟨0,rfl,rfl,hB,A6 _⟩ ?_
 rintro _ _ W1 ⟨i,rfl,rfl,a1,hi⟩ J1 a3 r1
 refine xid 6 ((i:Int)<(L.length:Int)) (fun a4=>?_) (fun a4=>?_)
 ·refine xd 11 .z ?_
  refine xx (.e [0,1] 2) _ L.length i 3 (Sts.cell ha Yf mpD (k:=i) (i:=0) M0 rfl).1 ?_
  have a0:=bln a1 (Zb W1)
  refine xlv (.e [] 3) (Sts.rp (k:=i) (ha.below a0) Yf mpD M0 Do) ?_
  refine xx (.e [4,5] 6) _ L.length i 3 (Sts.cell hb Yf mpD (k:=i) (i:=0) M0 rfl).1 ?_
  refine xlv (.e [] 7) (Sts.rp (k:=i) (hb.below a0) Yf mpD M0 Do) ?_
  refine xbo (.e [] 8) (t:=63) (t2:=63) (fun _ _ _ _ zo zx zy V hV=>Zb9 (L.getD i mpD) zo zx zy V) ?_
  refine xwm 7 ((i:Int)+1) (↑(i+1):Int) ?_
  exact ze 2 (a3 _ _ _ ⟨i+1,rfl,rfl,a0,by omega⟩ M0)
 exact xe 11 (.bool true) ⟨rfl,a1⟩
theorem To(a b:O0)(ca cb:Nat)(d:Dv)(w:World)(ha:Sts We w (.slice a d.2.length ca) d.2)(hb:Sts We w (.slice b d.2.length cb) d.2) :
 C0 32 #[.agg #[V0 d.1.1,V0 d.1.2.1,V0 d.1.2.2.1,V0 d.1.2.2.2,.slice a d.2.length ca],.agg #[V0 d.1.1,V0 d.1.2.1,V0 d.1.2.2.1,V0 d.1.2.2.2,.slice b d.2.length cb]] w (Ret (.bool true) w):=by
 refine zin 38 Tryz.func32 ?_
 refine xa 2 [V0 d.1.1,V0 d.1.2.1,V0 d.1.2.2.1,V0 d.1.2.2.2,.slice a d.2.length ca] 32 fun b1 W1 n1=>?_
 refine xa 0 [V0 d.1.1,V0 d.1.2.1,V0 d.1.2.2.1,V0 d.1.2.2.2,.slice b d.2.length cb] 32 fun b2 W2 n2=>?_
 have a2:=n2.ne n1.blk
 have a0:=n1.blk.below n2.below
 refine xb 6 0 a0 ?_
 refine xb 1 0 n2.blk ?_
 refine xgk 2 [9,10] (show((d.1.1==d.1.1):Bool)=true from by simp) ?_
 refine xb 1 1 a0 ?_
 refine xb 1 1 n2.blk ?_
 refine xgk 3 [15,16,17] (show((d.1.2.1==d.1.2.1):Bool)=true from by simp) ?_
 refine xb 1 2 a0 ?_
 refine xb 1 2 n2.blk ?_
 refine xgk 3 [22,23,24] (show((d.1.2.2.1==d.1.2.2.1):Bool)=true from by simp) ?_
 refine xb 1 3 a0 ?_
 refine xb 1 3 n2.blk ?_
 refine xgk 3 [29,30,31] (show((d.1.2.2.2==d.1.2.2.2):Bool)=true from by simp) ?_
 refine xb 1 4 a0 ?_
 refine xb 1 4 n2.blk ?_
 have hB:=bln n1.below n2.below
 refine xr 0 (args:=#[.slice a d.2.length ca,.slice b d.2.length cb]) (Lj a b ca cb d.2 _ (ha.below hB) (hb.below hB)) fun W7 a3=>?_
 have a1:=bln hB a3
 exact xe 5 (.bool true) ⟨rfl,a1⟩
theorem Dm(a b:O0)(ca cb:Nat)(d e:Dv)(w:World)(h:d=e)(ha:Sts We w (.slice a d.2.length ca) d.2)(hb:Sts We w (.slice b e.2.length cb) e.2) :
 C0 32 #[.agg #[V0 d.1.1,V0 d.1.2.1,V0 d.1.2.2.1,V0 d.1.2.2.2,.slice a d.2.length ca],.agg #[V0 e.1.1,V0 e.1.2.1,V0 e.1.2.2.1,V0 e.1.2.2.2,.slice b e.2.length cb]] w (Ret (.bool true) w):=by
 subst h;exact To a b ca cb d w ha hb
theorem Sz(p q:O0)(c d n:Nat)(Z Y:List Zv)(w:World)(hZ:Z.length=n)(hY:Y.length=n)(hZY:∀ i,i<n→(Z.getD i zvD).1=(Y.getD i zvD).1)(hP:DevsR w p c Z)(hQ:DevsR w q d Y) :
 C0 31 #[.slice p n c,.slice q n d,.func (.func 32) #[] #[]] w (Ret (.bool true) w):=by
 have b0:=Sl.len (hP.rowN hZ)
 refine zin 32 Tryz.func31 ?_
 refine xk 15 (show(((n:Int) != (n:Int)):Bool)=false from by simp) ?_
 have hB:=Below.refl w.heap.size w
 refine zl 11 32 (fun zm a6 V=>∃ (i:Nat),a6=[(1,.slice q n d),(2,.func (.func 32) #[] #[]),(15,.slice p n c),(16,V0 (n:Int)),(17,V0 (i:Int))]∧zm=n-((i:Int)).toNat∧Bl w V∧i≤n) ⟨0,rfl,rfl,hB,A6 _⟩ ?_
 rintro _ _ W1 ⟨i,rfl,rfl,a0,hi⟩ J1 a8 r1
 refine xid 6 ((i:Int)<(n:Int)) (fun a9=>?_) (fun a9=>?_)
 ·refine xx 7 _ n i 5 (hP.someN hZ (i:=i) M0) ?_
  refine xlv 0 (Sts.rp (k:=i) (hP.below a0).row Xu zvD M0 Do) ?_
  refine xa 0 [V0 0,V0 0,V0 0,V0 0,S0] 32 fun b3 W3 n3=>?_
  have g3:=n3.ge a0
  refine xsv 1 n3.blk [V0 ((Z.getD i zvD).1.1.1),V0 ((Z.getD i zvD).1.1.2.1),V0 ((Z.getD i zvD).1.1.2.2.1),V0 ((Z.getD i zvD).1.1.2.2.2),.slice ((Z.getD i zvD).2.1) ((Z.getD i zvD).1.2.length) ((Z.getD i zvD).2.2)] fun W4 u4 k4=>?_
  refine xx 6 _ n i 5 (hQ.someN hY (i:=i) M0) ?_
  have a1:=u4.below (bln a0 n3.below) g3
  refine xlv 0 (Sts.rp (k:=i) (hQ.below a1).row Xu zvD M0 Do) ?_
  refine xa 0 [V0 0,V0 0,V0 0,V0 0,S0] 32 fun b5 W5 n5=>?_
  have a3:=n5.ne k4
  have g5:=n5.ge a1
  refine xsv 0 n5.blk [V0 ((Y.getD i zvD).1.1.1),V0 ((Y.getD i zvD).1.1.2.1),V0 ((Y.getD i zvD).1.1.2.2.1),V0 ((Y.getD i zvD).1.1.2.2.2),.slice ((Y.getD i zvD).2.1) ((Y.getD i zvD).1.2.length) ((Y.getD i zvD).2.2)] fun W6 u6 k6=>?_
  have a4:=u6.blk (k4.below n5.below) a3
  refine xlv 5 a4.rp ?_
  refine xlv 0 k6.rp ?_
  have a2:=u6.below (bln a1 n5.below) g5
  refine xr 0 (args:=#[.agg #[V0 ((Z.getD i zvD).1.1.1),V0 ((Z.getD i zvD).1.1.2.1),V0 ((Z.getD i zvD).1.1.2.2.1),V0 ((Z.getD i zvD).1.1.2.2.2),.slice ((Z.getD i zvD).2.1) ((Z.getD i zvD).1.2.length) ((Z.getD i zvD).2.2)],.agg #[V0 ((Y.getD i zvD).1.1.1),V0 ((Y.getD i zvD).1.1.2.1),V0 ((Y.getD i zvD).1.1.2.2.1),V0 ((Y.getD i zvD).1.1.2.2.2),.slice ((Y.getD i zvD).2.1) ((Y.getD i zvD).1.2.length) ((Y.getD i zvD).2.2)]]) (Dm (Z.getD i zvD).2.1 (Y.getD i zvD).2.1 (Z.getD i zvD).2.2 (Y.getD i zvD).2.2 (Z.getD i zvD).1 (Y.getD i zvD).1 _ (hZY i M0) ((hP.below a2).each i M0) ((hQ.below a2).each i M0)) fun W7 a7=>?_
  refine xwm 8 ((i:Int)+1) (↑(i+1):Int) ?_
  have a5:=bln a2 a7
  exact ze 2 (a8 _ _ _ ⟨i+1,rfl,rfl,a5,by omega⟩ M0)
 exact xe 11 (.bool true) ⟨rfl,a0⟩
theorem Zbd(p q:O0)(c d n:Nat)(t u v x:Int)(Z Y:List Zv)(w:World)(hZ:Z.length=n)(hY:Y.length=n)(hZY:∀ i,i<n→(Z.getD i zvD).1=(Y.getD i zvD).1)(hP:DevsR w p c Z)(hQ:DevsR w q d Y) :
 C0 9 #[.agg #[V0 t,V0 u,V0 v,V0 x,.slice p n c],.agg #[V0 t,V0 u,V0 v,V0 x,.slice q n d]] w (Ret (.bool true) w):=by
 refine zin 38 Tryz.func9 ?_
 refine xa 2 [V0 t,V0 u,V0 v,V0 x,.slice p n c] 24 fun b1 W1 n1=>?_
 refine xa 0 [V0 t,V0 u,V0 v,V0 x,.slice q n d] 24 fun b2 W2 n2=>?_
 have a2:=n2.ne n1.blk
 have a0:=n1.blk.below n2.below
 refine xb 6 0 a0 ?_
 refine xb 1 0 n2.blk ?_
 refine xgk 2 [9,10] (show((t==t):Bool)=true from by simp) ?_
 refine xb 1 1 a0 ?_
 refine xb 1 1 n2.blk ?_
 refine xgk 3 [15,16,17] (show((u==u):Bool)=true from by simp) ?_
 refine xb 1 2 a0 ?_
 refine xb 1 2 n2.blk ?_
 refine xgk 3 [22,23,24] (show((v==v):Bool)=true from by simp) ?_
 refine xb 1 3 a0 ?_
 refine xb 1 3 n2.blk ?_
 refine xgk 3 [29,30,31] (show((x==x):Bool)=true from by simp) ?_
 refine xb 1 4 a0 ?_
 refine xb 1 4 n2.blk ?_
 have hB:=bln n1.below n2.below
 refine xr 0 (args:=#[.slice p n c,.slice q n d,.func (.func 32) #[] #[]]) (Sz p q c d n Z Y _ hZ hY hZY (hP.below hB) (hQ.below hB)) fun W7 a3=>?_
 have a1:=bln hB a3
 exact xe 5 (.bool true) ⟨rfl,a1⟩
end Go.Proofs.YtekomodnkfhihaaGreatDoor
