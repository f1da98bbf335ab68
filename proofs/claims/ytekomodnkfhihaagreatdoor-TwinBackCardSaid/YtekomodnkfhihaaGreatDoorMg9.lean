/- scantlinglaw18.Few. -/
import Derived.Lib.SmallJoins
import Derived.Test.YtekomodnkfhihaaGreatDoorMg8
namespace Go.Proofs.YtekomodnkfhihaaGreatDoor
set_option maxHeartbeats 8000000
open Prod (fst)
open List (range replicate getD)
set_option maxRecDepth 100000
set_option linter.unusedVariables false
section
open Go.RowKit Go.Extern.Stop Go.Stop Go.Extern
section
attribute [local irreducible] wpList wpAnyH Code.wp Oper.wp Go
theorem Zit(p:O0)(c n:Nat)(t u v x:Int)(Z:V6 Zv)(w:V1)(hZ:Z.length=n)(hP:DevsR w p c Z) :
 C0 6 #[.agg #[V0 t,V0 u,V0 v,V0 x,.slice p n c]] w ((fun e w'=>(e=.returned (V0 0)∧B3 w w')∨(e=.returned (V0 1)∧B3 w w'))):=by
 have b0:=Sl.len (hP.b6 hZ)
 refine zin 33 Tryz.func6 ?_
 refine xa 2 [V0 t,V0 u,V0 v,V0 x,.slice p n c] 24 fun b1 W1 n1=>?_
 refine zl 15 33 (fun zm a6 V=>∃ (i:Nat),a6=[(1,P0 b1),(2,V0 0),(3,V0 (IntKind.i64.wrap (↑(Un ((Z.map fst).take i)):Int))),(4,V0 (i:Int))]∧zm=n-((i:Int)).toNat∧B3 w V∧Blk V b1 ([V0 t,V0 u,V0 v,V0 x,.slice p n c]) 24∧i≤n) ⟨0,rfl,rfl,n1.i,n1.blk,A5 _⟩ ?_
 rintro _ _ W2 ⟨i,rfl,rfl,a0,a1,hi⟩ J2 a8 r2
 refine xb 5 4 a1 ?_
 refine xg 3 [9,10] (decide ((i:Int)<(n:Int))) (fun a4=>?_) (fun a4=>?_)
 ·have a4:=U1 a4
  refine xid 5 ((i:Int)<(201:Int)) (fun a9=>?_) (fun a9=>?_)
  ·refine xb 7 4 a1 ?_
   refine xx 1 _ n i 5 (hP.a4 hZ (i:=i) M0) ?_
   refine xl 1 ((Sts.cell (hP.i a0).row Jd zvD (k:=i) (i:=4) M0 rfl).2) ?_
   refine xwm 8 ((i:Int)+1) (↑(i+1):Int) ?_
   refine xv1 2 3 (show(V0 (IntKind.i64.wrap ((IntKind.i64.wrap (↑(Un ((Z.map fst).take i)):Int))+(↑((Z.getD i zvD).1.2.length):Int))):V2)=V0 (IntKind.i64.wrap (↑(Un ((Z.map fst).take (i+1))):Int)) from congrArg V0 ((Zm1 _ _).trans (congrArg IntKind.i64.wrap (by have:=Si (Z:=Z) (i:=i) M0;omega)))) ?_
   exact ze 0 (a8 _ _ _ ⟨i+1,rfl,rfl,a0,a1,M0⟩ M0)
  refine xb 9 4 a1 ?_
  refine xg 3 [28,29] (decide ((n:Int)≤(200:Int))) (fun a3=>?_) (fun a3=>?_)
  ·have a3:=U1 a3
   refine xid 5 ((IntKind.i64.wrap (↑(Un ((Z.map fst).take i)):Int))≤(2000:Int)) (fun a7=>?_) (fun a7=>?_)
   ·exact xe 7 (V0 1) (.inr ⟨rfl,a0⟩)
   exact xe 8 (V0 0) (.inl ⟨rfl,a0⟩)
  have a3:=U2 a3
  exact xe 14 (V0 0) (.inl ⟨rfl,a0⟩)
 have a4:=U2 a4
 refine xb 15 4 a1 ?_
 refine xg 3 [28,29] (decide ((n:Int)≤(200:Int))) (fun a2=>?_) (fun a2=>?_)
 ·have a2:=U1 a2
  refine xid 5 ((IntKind.i64.wrap (↑(Un ((Z.map fst).take i)):Int))≤(2000:Int)) (fun a5=>?_) (fun a5=>?_)
  ·exact xe 7 (V0 1) (.inr ⟨rfl,a0⟩)
  exact xe 8 (V0 0) (.inl ⟨rfl,a0⟩)
 have a2:=U2 a2
 exact xe 14 (V0 0) (.inl ⟨rfl,a0⟩)
theorem Zcv(k:Nat)(w:V1)(hk:k≤14400) :
 C0 41 #[V0 (k:Int)] w (Kd (fun w' r=>∃ b p c,r=.tuple #[P0 b,V0 0]∧w.heap.size≤b∧ImgR w.heap.size b p (k*256) c (replicate (k*256) (0:UInt8)) w') w):=by
 refine zin 15 Tryz.func41 ?_
 refine xgk 12 [5,6] (show(decide ((k:Int)<(0:Int)):Bool)=false from V9 M0) ?_
 refine xk 5 (show(decide ((k:Int)>(14400:Int)):Bool)=false from V9 M0) ?_
 refine xwm 5 ((k:Int)*256) (↑(k*256):Int) ?_
 refine xmk 0 fun _ _ _ _ zJ zQ zo zx zy zK=>Ht (k*256) (.int .u8 0) 1 1 ((replicate (k*256) (0:UInt8)).map bv) zo zx zy Tryz.underlying50 K0 rfl M0 M0 (Zjf (k*256)) fun b2 W2 n2=>?_
 refine zK _ _ ?_
 refine xa 1 [.slice (S3 b2) (k*256) (k*256)] 108 fun b3 W3 n3=>?_
 have hB:=bln n2.i n3.i
 have g3:=n3.ge n2.i
 have o2:=Zb (Xw (size:=1) (n:=(k*256)) n2.blk (n2.ge (B4 w)) (by rw[A3,B7,G7]) Y2) n3.i
 exact xe 5 (.tuple #[P0 b3,V0 0]) ⟨_,rfl,hB,_,_,_,rfl,g3,⟨n3.blk,o2,M0⟩⟩
def LayE(c:Int)(w:V1)(e:V5)(w':V1):Prop:=e=.returned (.tuple #[.pointer none,.iface 33 (V0 c)])∧B3 w w'
def LayO(l:Bl)(k:Nat)(w:V1)(e:V5)(w':V1):Prop:=∃ bi g ci,e=.returned (.tuple #[P0 bi,.nilIface])∧B3 w w'∧ImgR w.heap.size bi (S3 g) (k*256) ci l w'
theorem and_63i(x:Int):∃ m:Nat,IntKind.i64.wrap (↑(BitVec.ofInt 64 x &&& BitVec.ofInt 64 (63:Int)).toNat:Int)=(m:Int)∧m≤63:=by
 have h:(BitVec.ofInt 64 x &&& BitVec.ofInt 64 (63:Int)).toNat≤63:=by
  rw[P5];exact N0 Nat.and_le_right Do
 exact⟨_,Lj M0,h⟩
theorem Zlx(p:O0)(c n x:Nat)(t u v:Int)(Z:V6 Zv)(w:V1)(hZ:Z.length=n)(hP:DevsR w p c Z)(hk:PoolOk t u v (x:Int) (Z.map fst)) :
 C0 12 #[.agg #[V0 t,V0 u,V0 v,V0 (x:Int),.slice p n c]] w (Ret (V0 0) w):=by
 have h:=Hf p c n t u v (x:Int) Z w hZ hP
 rwa [Mx.2 hk] at h
theorem Zrk(p q:O0)(c d n:Nat)(t u v x:Int)(Z Y:V6 Zv)(w:V1)(hZ:Z.length=n)(hP:DevsR w p c Z)(hQ:Rz ([],0,Z.map fst) w q d Y) :
 C0 9 #[.agg #[V0 t,V0 u,V0 v,V0 x,.slice p n c],.agg #[V0 t,V0 u,V0 v,V0 x,.slice q n d]] w (Ret (.bool true) w):=by
 have hY:Y.length=n:=by
  have:=hQ.1;simp only[A3] at this;omega
 refine Zti p q c d n t u v x Z Y w hZ hY (fun i hi=>?_) hP hQ.read
 have h:=hQ.2.1
 simp only at h
 have e:(Y.map fst)[i]? = (Z.map fst)[i]? := by rw[h]
 rw[C3,C3,A9 M0,A9 M0] at e
 simp only[D3,A0] at e
 simp[getD,show i<Z.length by omega,show i<Y.length by omega,e]
theorem Zq4(p:O0)(c n x:Nat)(t u v:Int)(Z:V6 Zv)(w:V1)(hZ:Z.length=n)(hP:DevsR w p c Z)(hk:PoolOk t u v (x:Int) (Z.map fst)) :
 C0 28 #[.agg #[V0 t,V0 u,V0 v,V0 (x:Int),.slice p n c]] w (Kd (fun w' r=>∃ q d,r=.slice q x d∧w'.ownsRow w.heap.size 3 1 (.slice q x d) x ((Xv x (Z.map fst)).map V0)) w):=by
 refine(Zag p c n x t u v Z w hZ hP hk).mono ?_
 rintro e W ⟨_,rfl,hb,q,d,rfl,ho⟩
 rw[←Zkg] at ho
 exact⟨_,rfl,hb,q,d,rfl,ho⟩
theorem Tg(a b:O0)(ca cb n:Nat)(l:V6 Int)(w:V1)(hn:l.length=n)(ha:Sl w (.slice a n ca) n (l.map V0))(hb:Sl w (.slice b n cb) n (l.map V0))(h1:n≤1000000) :
 C0 27 #[.slice a n ca,.slice b n cb] w (Kd (fun w' r=>∃ q d,r=.slice q 0 d) w):=by
 subst hn
 have q:=Zjz a b ca cb l l w ha hb h1 h1
 have e:∀ k,dif l l k=[]:=fun k=>by
  unfold dif;simp
 rw[e] at q
 refine q.mono ?_
 rintro e W ⟨r,rfl,hb,ho⟩
 obtain⟨q,d,rfl⟩:=(Zf ho).slice
 exact⟨_,rfl,hb,q,d,rfl⟩
theorem code_14(w:V1)(hg:Zs3 w):C0 29 #[.iface 33 (V0 14)] w (Ret (V0 14) w):=Zps (some 14) [] _ w hg rfl
theorem Ztn(p:O0)(c n:Nat)(t u v x m:Int)(Z:V6 Zv)(w:V1)(hZ:Z.length=n)(hP:DevsR w p c Z)(hk:Hz t u v x (Z.map fst)≠0) :
 C0 14 #[.agg #[V0 t,V0 u,V0 v,V0 x,.slice p n c],V0 m] w (LayE (Hz t u v x (Z.map fst)) w):=by
 refine zin 91 Tryz.func14 ?_
 refine xa 2 [V0 t,V0 u,V0 v,V0 x,.slice p n c] 24 fun b1 W1 n1=>?_
 refine xlv 7 n1.blk.rp ?_
 refine xr 0 (Hf p c n t u v x Z _ hZ (hP.i n1.i)) fun W2 a1=>?_
 refine xk 9 (show(((Hz t u v x (Z.map fst)) != (0:Int)):Bool)=true from(by simpa using hk)) ?_
 have a0:=bln n1.i a1
 exact xe 10 (.tuple #[.pointer none,.iface 33 (V0 (Hz t u v x (Z.map fst)))]) ⟨rfl,a0⟩
theorem Zhq(p:O0)(c n x k:Nat)(t u v:Int)(Z:V6 Zv)(w:V1)(hI:ItT w)(hZ:Z.length=n)(hP:DevsR w p c Z)(hk:PoolOk t u v (x:Int) (Z.map fst))(hk2:k≤14400)(hr:k<Ma x (Z.map fst)) :
 C0 14 #[.agg #[V0 t,V0 u,V0 v,V0 (x:Int),.slice p n c],V0 (k:Int)] w (LayE 14 w):=by
 obtain⟨nm,a6⟩:∃ y,Ma x (Z.map fst)=y:=⟨_,rfl⟩
 have a9:=hr
 rw[a6] at a9
 refine zin 91 Tryz.func14 ?_
 refine xa 2 [V0 t,V0 u,V0 v,V0 (x:Int),.slice p n c] 24 fun b1 W1 n1=>?_
 refine xlv 7 n1.blk.rp ?_
 refine xr 0 (Hf p c n t u v (x:Int) Z _ hZ (hP.i n1.i)) fun W2 a7=>?_
 refine xk 9 (show(((Hz t u v (x:Int) (Z.map fst)) != (0:Int)):Bool)=false from(by rw[Mx.2 hk];rfl)) ?_
 have a1:=bln n1.i a7
 have a4:=a1.size
 refine xc 5 (Zcv k _ M0) ?_
 rintro _ W3 ⟨_,rfl,a5,bi,pi,ci,rfl,gi,a8⟩
 replace a8:=a8.mono a4
 replace gi:=N0 a4 gi
 have a2:=(n1.blk.i a7).i a5
 refine xlv 21 a2.rp ?_
 have a0:=bln a1 a5
 refine xr 0 (by have q:=Fc p c n x t u v Z _ (hI.i a0) hZ (hP.i a0) hk;rw[a6] at q;exact q) fun W4 b0=>?_
 refine xk 3 (show(decide ((k:Int)<(nm:Int)):Bool)=true from U0 M0) ?_
 have a3:=bln a0 b0
 exact xe 9 (.tuple #[.pointer none,.iface 33 (V0 14)]) ⟨rfl,a3⟩
theorem sup_PutT(t u v:Int)(x k:Nat)(L:V6 Dv)(w:V1)(hr:Yz (twS t u v x L k)=true):C0 46 #[.agg #[V0 t,V0 u,V0 v,V0 (x:Int),V0 (k:Int),V0 (↑(Xr (G1 L)):Int),V0 (↑(Xr (G2 L)):Int),V0 (twD x L k).1,V0 (twD x L k).2.1,V0 (twM x L k).1,V0 (twM x L k).2.1]] w (Kd (fun w' r=>∃ p c,r=.tuple #[.slice p 244 c,V0 0]∧w'.ownsRow w.heap.size 5 1 (.slice p 244 c) 244 ((Mw (twS t u v x L k)).map bv)) w):=by
 refine(Zn0 (twS t u v x L k) w ⟨by show(0:Int)≤(k:Int);omega,?_⟩).mono ?_
 ·unfold Yz twS at hr;simp only[E2,decide_eq_true_eq,true_and] at hr;show(k:Int)<_;omega
 ·rintro e W q;rcases q with ⟨h,_⟩|⟨_,p,c,rfl,hb,ho⟩
  ·rw[hr] at h;cases h
  ·exact⟨_,rfl,hb,p,c,rfl,ho⟩
theorem Zij(p:O0)(c n x k:Nat)(t u v:Int)(Z:V6 Zv)(w:V1)(hI:ItT w)(hZ:Z.length=n)(hP:DevsR w p c Z)(hk:PoolOk t u v (x:Int) (Z.map fst))(hk3:k≤3000)(hr:Ma x (Z.map fst)≤k) :
 C0 14 #[.agg #[V0 t,V0 u,V0 v,V0 (x:Int),.slice p n c],V0 (k:Int)] w (LayO (twI t u v x (Z.map fst) k) k w):=by
 have i1:k≤14400:=M0
 have g1:=Iq hr
 have i6:twK x (Z.map fst)=Xr (G2 (Z.map fst))+Qk (Xv x (Z.map fst)):=rfl
 have h2:=Zft hk hr i1
 obtain⟨nm,f9⟩:∃ y,Ma x (Z.map fst)=y:=⟨_,rfl⟩
 have i2:=hr
 rw[f9] at i2
 refine zin 91 Tryz.func14 ?_
 refine xa 2 [V0 t,V0 u,V0 v,V0 (x:Int),.slice p n c] 24 fun b1 W1 n1=>?_
 refine xlv 7 n1.blk.rp ?_
 refine xr 0 (Hf p c n t u v (x:Int) Z _ hZ (hP.i n1.i)) fun W2 h1=>?_
 refine xk 9 (show(((Hz t u v (x:Int) (Z.map fst)) != (0:Int)):Bool)=false from(by rw[Mx.2 hk];rfl)) ?_
 have d6:=bln n1.i h1
 have g5:=d6.size
 refine xc 5 (Zcv k _ M0) ?_
 rintro _ W3 ⟨_,rfl,g0,bi,pi,ci,rfl,gi,d2⟩
 replace d2:=d2.mono g5
 replace gi:=N0 g5 gi
 have d1:=(n1.blk.i h1).i g0
 refine xlv 21 d1.rp ?_
 have b0:=bln d6 g0
 refine xr 0 (by have q:=Fc p c n x t u v Z _ (hI.i b0) hZ (hP.i b0) hk;rw[f9] at q;exact q) fun W4 e4=>?_
 refine xk 3 (show(decide ((k:Int)<(nm:Int)):Bool)=false from V9 M0) ?_
 have a5:=d2.i e4
 have e0:=bln b0 e4
 have g2:=e0.size
 obtain⟨g,rfl,h4⟩:=a5.base M0
 have g3:=a5
 refine xc 5 (Zqw bi (S3 g) (k*256) ci 1 (k-1) (1:Int) rfl M0 _ g3.blk M0 Do M0) ?_
 rintro _ W5 ⟨_,rfl,f6,ba,pa,ca,rfl,ga,ka,f8⟩
 have g7:=g3.i f6
 have hA:AlF w.heap.size ba bi g (k*256) ci pa ca (k-1) (replicate (k*256) (0:UInt8)) [] _:=⟨ka,g7.blk,g7.row,Zg f8 g2⟩
 have hC:AlC w.heap.size ba (k*256) ci ca 1 (k-1):=⟨M0,h4,Zl3 f8 M0,M0,N0 g2 ga⟩
 have h6:=hA.a1
 refine xa 3 [.nilIface] 39 fun b6 W6 n6=>?_
 have d4:=bln e0 f6
 have g6:=n6.ge d4
 refine xs 1 n6.blk [.nilIface] fun W7 u7 k7=>?_
 refine xb 5 0 k7 ?_
 have a2:=u7.A (((d1.i e4).i f6).i n6.i) n6.blk Do
 refine xb 9 0 a2 ?_
 refine xb 1 1 a2 ?_
 refine xb 1 2 a2 ?_
 refine xb 1 3 a2 ?_
 refine xa 2 [V0 0,V0 0,V0 0,V0 0,V0 0,V0 0,V0 0,V0 0,V0 0,V0 0,V0 0] 54 fun b8 W8 n8=>?_
 have d9:=u7.i (bln d4 n6.i) g6
 have g8:=n8.ge d9
 refine xsv 0 n8.blk [V0 t,V0 u,V0 v,V0 (x:Int),V0 (k:Int),V0 0,V0 0,V0 0,V0 0,V0 0,V0 0] fun W9 u9 k9=>?_
 have c1:=u9.j (Zb (u7.j (Zb h6 n6.i) n6.blk Do) n8.i) n8.blk Do
 refine xmk 6 fun _ _ _ _ zJ zQ zo zx zy zK=>Ht k (V0 0) 1 8 ((Zfh 0 k).map V0) zo zx zy Tryz.underlying27 K0 rfl M0 M0 ((Zxn k)) fun e2 j2 a6=>?_
 have d8:=u9.i (bln d9 n8.i) g8
 have h3:=a6.ge d8
 refine zK _ _ ?_
 refine xa 1 [P0 ba,S1,.slice (S3 e2) k k] 82 fun b5 i3 a7=>?_
 have e1:=bln d8 a6.i
 have g9:=a7.ge e1
 have c7:=((u9.A (a2.i n8.i) n8.blk Do).i a6.i).i a7.i
 refine xlv 6 c7.rp ?_
 have f5:=(((((hA.i n6.i).q (Q1 (T:=[39]) u7 n6.blk Do) Do).i n8.i).q (Q1 (T:=[54]) u9 n8.blk Do) Do).i a6.i).i a7.i
 have e7:=((u9.A (k7.i n8.i) n8.blk Do).i a6.i).i a7.i
 have h9:=Zb (Xw (size:=1) (n:=k) a6.blk h3 (by rw[A3,Zwn,G7]) Y2) a7.i
 have h0:∀ n2 c2,Vi (.slice (S3 e2) n2 c2) (.slice pa (k-1) ca):=fun n2 c2=>(Vi.i1 c1 (by have:=a6.at_;omega)).symm
 have a3:=bln e1 a7.i
 refine xc 0 (tw_trees w.heap.size ba bi g (k*256) ci pa ca (k-1) (replicate (k*256) (0:UInt8)) b5 b6 e2 k p c n x t u v Z _ (fun W h=>hI.i (a3.trans h)) hZ (fun W h=>hP.i (a3.trans h)) hk hC f5 a7.blk e7 g9 g6 h9 h0 rfl M0 a3.size) ?_
 rintro _ j1 ⟨rfl,rp,rc,f2,d5,hA,c4,e8,d3,e5⟩
 have d0:=c7.q d5 Do
 refine xlv 5 d0.rp ?_
 have a9:=a3.trans f2
 refine xc 0 (args:=#[P0 b5,.agg #[V0 t,V0 u,V0 v,V0 (x:Int),.slice p n c],P0 b6]) (tw_heads w.heap.size ba bi g (k*256) ci pa ca (k-1) (replicate (k*256) (0:UInt8)) b5 b6 rp rc _ p c n x t u v Z _ hZ (fun W h=>hP.i (a9.trans h)) hk hC hA c4 e8 g9 g6 d3 M0 a9.size) ?_
 rintro _ j0 ⟨rfl,f0,a4,hA,f4⟩
 have a1:=(((k9.i a6.i).i a7.i).q d5 Do).q a4 Do
 refine xs 4 a1 [V0 t,V0 u,V0 v,V0 (x:Int),V0 (k:Int),V0 (↑(Xr (G1 (Z.map fst))):Int),V0 0,V0 0,V0 0,V0 0,V0 0] fun i8 c0 b9=>?_
 refine xs 1 b9 [V0 t,V0 u,V0 v,V0 (x:Int),V0 (k:Int),V0 (↑(Xr (G1 (Z.map fst))):Int),V0 (↑(Xr (G2 (Z.map fst))):Int),V0 0,V0 0,V0 0,V0 0] fun i7 b7 h7=>?_
 have e6:=b7.A (c0.A (d0.q a4 Do) a1 Do) b9 Do
 refine xlv 5 e6.rp ?_
 have f7:=(hA.q (Q1 (T:=[54]) c0 a1 Do) Do).q (Q1 (T:=[54]) b7 b9 Do) Do
 have b2:=b7.A (c0.A (c4.q a4 Do) a1 Do) b9 Do
 have b4:=b7.A (c0.A f4 a1 Do) b9 Do
 have b3:=b7.j (c0.j (Zi e5 a4 Do) a1 Do) b9 Do
 have a0:=b7.i (c0.i (a9.trans f0) g8) g8
 refine xc 0 (args:=#[P0 b5,.agg #[V0 t,V0 u,V0 v,V0 (x:Int),.slice p n c],P0 b8,P0 b6]) (tw_maps w.heap.size ba bi g ci pa ca (k-1) k b5 b6 b8 e2 _ p c n x t u v Z _ hZ (fun W h=>hP.i (a0.trans h)) hk hC f7 b2 b4 h7 g6 g8 h0 b3 rfl hr hk3 a0.size) ?_
 rintro _ i9 ⟨rfl,c3,i0,e9,f1,hA⟩
 refine xb 5 0 e9 ?_
 refine xlv 8 f1.rp ?_
 refine xc 0 (sup_PutT t u v x k (Z.map fst) _ h2) ?_
 rintro _ i5 ⟨_,rfl,c9,q7,d7,rfl,h5⟩
 have f3:=(a0.trans c3).size
 have c8:=Zg h5 f3
 have c5:=hA.i c9
 have a8:=bln (a0.trans c3) c9
 refine xc 22 (args:=#[P0 bi,V0 0,V0 1,.slice q7 244 d7]) (Zhz w.heap.size bi (S3 g) (k*256) ci 0 (0:Int) (twM x (Z.map fst) k).2.2 1 q7 d7 244 (Mw (twS t u v x (Z.map fst) k)) _ rfl (Ld _) ⟨c5.a7,c5.data,hC.hn⟩ M0 Do Do (Vr (Zf c8) (Ld _)) Do a8.size) ?_
 rintro _ i4 ⟨rfl,e3,h8,d2⟩
 have c6:=a8.trans e3
 exact xe 20 (.tuple #[P0 bi,.nilIface]) (by have hz:=d2;exact⟨_,_,_,rfl,c6,hz⟩)
theorem Zp9(p:O0)(c n:Nat)(t u v x:Int)(Z:V6 Zv)(w:V1)(hZ:Z.length=n)(hP:DevsR w p c Z)(hk:Hz t u v x (Z.map fst)≠0) :
 C0 33 #[.agg #[V0 t,V0 u,V0 v,V0 x,.slice p n c]] w (Ret (V0 0) w):=by
 refine zin 46 Tryz.func33 ?_
 refine xa 2 [V0 t,V0 u,V0 v,V0 x,.slice p n c] 24 fun b1 W1 n1=>?_
 refine xlv 6 n1.blk.rp ?_
 refine xr 0 (Hf p c n t u v x Z _ hZ (hP.i n1.i)) fun W2 a1=>?_
 refine xk 3 (show(((Hz t u v x (Z.map fst)) != (0:Int)):Bool)=true from(by simpa using hk)) ?_
 have a0:=bln n1.i a1
 exact xe 7 (V0 0) ⟨rfl,a0⟩
theorem Zsp(p:O0)(c n:Nat)(t u v x:Int)(Z:V6 Zv)(w:V1)(hZ:Z.length=n)(hP:DevsR w p c Z)(hk:Hz t u v x (Z.map fst)≠0) :
 C0 10 #[.agg #[V0 t,V0 u,V0 v,V0 x,.slice p n c]] w (Ret (V0 0) w):=by
 refine zin 50 Tryz.func10 ?_
 refine xa 2 [V0 t,V0 u,V0 v,V0 x,.slice p n c] 24 fun b1 W1 n1=>?_
 refine xlv 5 n1.blk.rp ?_
 refine xr 0 (Zp9 p c n t u v x Z _ hZ (hP.i n1.i) hk) fun W2 a1=>?_
 have a0:=bln n1.i a1
 exact xe 18 (V0 0) ⟨rfl,a0⟩
theorem Zj2(a b:O0)(n ca cb:Nat)(O:V6 Nat)(w:V1)(hn:O.length=n)(ha:Sl w (.slice a n ca) n (O.map nv))(hb:Sl w (.slice b n cb) n (O.map nv))(hl:n≤100000):C0 18 #[.slice a n ca,.slice b n cb] w (Ret (.bool true) w):=by
 have e:O.map nv=(O.map fun x:Nat=>(x:Int)).map V0:=by simp[nv]
 rw[e] at ha hb;have hL:(O.map fun x:Nat=>(x:Int)).length=n:=by rw[A3];exact hn
 subst hL;exact Zjv a b ca cb _ w ha hb M0
def L27:V6 Dv:=[((1,0,0,0),[(1,0,0)]),((2,0,0,0),[(1,0,0)])]
def Z27 (b:Nat):V6 Zv:=[(((1,0,0,0),[(1,0,0)]),some ⟨b,0,none⟩,1),(((2,0,0,0),[(1,0,0)]),some ⟨b,0,none⟩,1)]
theorem Ztd{W:V1}{bl bd:Nat}(kl:Blk W bl [V0 1,V0 0,V0 0] 63)(kd:Blk W bd [V0 1,V0 0,V0 0,V0 0,.slice (S3 bl) 1 1,V0 2,V0 0,V0 0,V0 0,.slice (S3 bl) 1 1] 32):DevsR W (S3 bd) 2 (Z27 bl):=by
 refine⟨kd.sl 2 2 Do Do,fun i hi=>?_⟩;have a0:i<2:=hi;obtain rfl|rfl:i=0∨i=1:=M0
 ·exact kl.sl 1 1 Do Do
 ·exact kl.sl 1 1 Do Do
theorem ok27:PoolOk 0 0 1 ((1:Nat):Int) L27:=Mx.1 Do
theorem oft27:Znz 1 L27=0:=by
 have a:=Aw (Us 1 L27) 1 (by rw[Kv];exact At _);rw[B9 (by rw[Kv];exact At _),Zbc ok27.J] at a;have e:Un L27=2:=Do;unfold Znz;omega
theorem need27:8<Ma 1 L27∧Ma 1 L27≤20:=by
 have h1:=Zay 1 L27;have h2:=Zv8 L27;have hl:L27.length=2:=rfl;have hT:Lv L27=0:=by have:=Zon L27;omega
 have hp:Qk (Xv 1 L27)=1+Zy 4 1+Zy 5 0:=by
  have ho:Znz 1 L27=0:=oft27;unfold Qk;rw[Om,Ym,ho];rfl
 have hw:twN L27 2=Zy 2 1:=by
  have a:twN L27 1=twN L27 0+Zy 2 (L27.getD 0 dvD).2.length:=Wz (i:=0) Do;have b:twN L27 (1+1)=twN L27 1:=Zbj Do;have c:twN L27 0=0:=rfl;have d:(L27.getD 0 dvD).2.length=1:=rfl;rw[d,c] at a;have e:twN L27 2=twN L27 1:=b;rw[e];omega
 have k1:=Qf 2 1;have k2:=Qf 1 2;have k3:=Qf 3 2;have k4:=Qf 4 1;have l1:=Bf 2 (k:=1) Do;have l2:=Bf 1 (k:=2) Do;have l3:=Bf 3 (k:=2) Do;have l4:=Bf 4 (k:=1) Do;have h5:=Zy4;have e:twK 1 L27=Xr (G2 L27)+Qk (Xv 1 L27):=rfl;unfold Ma Zkc;rw[hT] at h1;rw[hl] at h2;omega
theorem lay27(bl bd:Nat)(w:V1)(hI:ItT w)(hP:DevsR w (S3 bd) 2 (Z27 bl)):C0 14 #[.agg #[V0 0,V0 0,V0 1,V0 1,.slice (S3 bd) 2 2],V0 20] w (LayO (twI 0 0 1 1 L27 20) 20 w) :=
 Zij (S3 bd) 2 2 1 20 0 0 1 (Z27 bl) w hI rfl hP ok27 Do need27.2
theorem own27(bl bd:Nat)(w:V1)(hI:ItT w)(hP:DevsR w (S3 bd) 2 (Z27 bl)):C0 8 #[.agg #[V0 0,V0 0,V0 1,V0 1,.slice (S3 bd) 2 2]] w (Kd (fun w' r=>∃ q d,r=.slice q 2 d∧w'.ownsRow w.heap.size 3 1 (.slice q 2 d) 2 [V0 0,V0 0]) w):=by
 have q:=Ed (S3 bd) 2 2 0 0 1 1 (Z27 bl) w hI rfl hP (okR (data:=1) rfl ok27.J Do) Do;have e:(owL ((Z27 bl).map fst)).map nv=[V0 0,V0 0]:=by
  have e2:owL L27=[0,0]:=Do;show(owL L27).map nv=_;rw[e2];rfl
 rw[e] at q;exact q
theorem nd27(bl bd:Nat)(w:V1)(hI:ItT w)(hP:DevsR w (S3 bd) 2 (Z27 bl)):C0 10 #[.agg #[V0 0,V0 0,V0 1,V0 1,.slice (S3 bd) 2 2]] w (Ret (V0 (↑(Ma 1 L27):Int)) w) :=
 Fc (S3 bd) 2 2 1 0 0 1 (Z27 bl) w hI rfl hP ok27
theorem same27(a b:O0)(ca cb:Nat)(w:V1)(ha:Sl w (.slice a 2 ca) 2 [V0 0,V0 0])(hb:Sl w (.slice b 2 cb) 2 [V0 0,V0 0]):C0 18 #[.slice a 2 ca,.slice b 2 cb] w (Ret (.bool true) w) :=
 Zj2 a b 2 ca cb [0,0] w rfl ha hb Do
theorem Zah(w:V1)(hI:ItT w) :
 C0 7 #[] w (Ret (.bool true) w):=by
 have c2:=need27
 refine zin 35 Tryz.func7 ?_
 refine xbs 8 1 [V0 1,V0 0,V0 0] 63 fun b1 W1 n1=>?_
 refine xbs 9 2 [V0 1,V0 0,V0 0,V0 0,.slice (S3 b1) 1 1,V0 2,V0 0,V0 0,V0 0,.slice (S3 b1) 1 1] 32 fun b2 W2 n2=>?_
 refine xa 1 [V0 0,V0 0,V0 0,V0 0,S1] 24 fun b3 W3 n3=>?_
 refine xsv 0 n3.blk [V0 0,V0 0,V0 1,V0 1,.slice (S3 b2) 2 2] fun W4 u4 k4=>?_
 have g3:=n3.ge (bln n1.i n2.i)
 refine xlv 4 k4.rp ?_
 have k1:=u4.A ((n1.blk.i n2.i).i n3.i) n3.blk Do
 have k2:=u4.A (n2.blk.i n3.i) n3.blk Do
 have hB:=u4.i (bln (bln n1.i n2.i) n3.i) g3
 refine xc 0 (lay27 b1 b2 _ (hI.i hB) (Ztd k1 k2)) ?_
 rintro _ W5 ⟨bi,g,ci,rfl,a3,c1⟩
 have a0:=k4.i a3
 refine xlv 16 a0.rp ?_
 have a1:=k1.i a3
 have a4:=k2.i a3
 have a2:=bln hB a3
 refine xc 0 (own27 b1 b2 _ (hI.i a2) (Ztd a1 a4)) ?_
 rintro _ W6 ⟨_,rfl,a7,qo,eo,rfl,ho⟩
 have b9:=(bln hB a3).size
 refine xbs 0 2 [V0 0,V0 0] 3 fun b7 W7 n7=>?_
 have a8:=bln a2 a7
 have b4:=Zg ho b9
 have a9:=Zb b4 n7.i
 refine xr 0 (args:=#[.slice qo 2 eo,.slice (S3 b7) 2 2]) (same27 _ _ _ _ _ (Zf a9) (n7.blk.sl 2 2 Do Do)) fun W8 a6=>?_
 have b0:=((a0.i a7).i n7.i).i a6
 refine xlv 2 b0.rp ?_
 have b8:=((a1.i a7).i n7.i).i a6
 have b6:=((a4.i a7).i n7.i).i a6
 have a5:=bln (bln a8 n7.i) a6
 refine xr 0 (nd27 b1 b2 _ (hI.i a5) (Ztd b8 b6)) fun W9 c0=>?_
 have b5:=bln a5 c0
 exact xe 6 (.bool (decide ((↑(Ma 1 L27):Int)>(8:Int)))) ⟨by rw[U0 (show(↑(Ma 1 L27):Int)>8 by omega)],b5⟩
theorem Zqo{t u v:Int}{x k:Nat}{L:V6 Dv}(h:TwF t u v x k L)(n:Nat)(hn:L.length=n)(Bi b:Nat)(pi:O0)(ni ci:Nat)(w:V1)(hI:ImgR Bi b pi ni ci (twI t u v x L k) w) :
 C0 23 #[P0 b,V0 1000000] w (Kd (fun w' r=>∃ q d Y,r=.tuple #[.agg #[V0 t,V0 u,V0 v,V0 (x:Int),.slice q n d],.agg #[V0 t,V0 u,V0 v,V0 (x:Int),V0 (k:Int),V0 (↑(Xr (G1 L)):Int),V0 (↑(Xr (G2 L)):Int),V0 (twD x L k).1,V0 (twD x L k).2.1,V0 (twM x L k).1,V0 (twM x L k).2.1],.nilIface]∧Rz ([],0,L) w' q d Y) w):=by
 obtain⟨s1,s2,s3⟩:=h.load
 refine(Zrv Bi b pi ni ci (twI t u v x L k) 1000000 w hI Do L s1 (by rw[s2];exact s3)).mono ?_
 rintro e W q
 rw[s2] at q
 obtain⟨_,rfl,hb,q,d,Y,rfl,hD⟩:=q
 subst hn
 exact⟨_,rfl,hb,q,d,Y,rfl,hD⟩
theorem Ziy{t u v:Int}{x k:Nat}{L:V6 Dv}(h:TwF t u v x k L)(h18:k≤1800)(Bi b:Nat)(pi:O0)(ni ci:Nat)(w:V1)(hI:ImgR Bi b pi ni ci (twI t u v x L k) w) :
 C0 26 #[P0 b,.agg #[V0 t,V0 u,V0 v,V0 (x:Int),V0 (k:Int),V0 (↑(Xr (G1 L)):Int),V0 (↑(Xr (G2 L)):Int),V0 (twD x L k).1,V0 (twD x L k).2.1,V0 (twM x L k).1,V0 (twM x L k).2.1]] w (Kd (fun w' r=>∃ q d,r=.tuple #[.slice q k d,.nilIface]∧w'.ownsRow w.heap.size 3 1 (.slice q k d) k ((Bo L (1+twK x L+(Zy 5 (Lv L)+bmN k+1)) k).map V0)) w):=by
 obtain⟨cs,e1,e2⟩:=h.count h18
 have hl:cs.length=k:=by
  have:=congrArg List.length e2;rwa [A3,Kj] at this
 refine(Zkk Bi b pi ni ci _ (twS t u v x L k) w hI).mono ?_
 rintro e W q
 rw[e1] at q
 rcases q with ⟨q,_⟩|⟨_,q,d,rfl,hb,ho⟩
 ·exact absurd rfl q
 ·simp only at ho ⊢
  rw[hl] at ho ⊢
  rw[←Zkg,e2] at ho
  exact⟨_,rfl,hb,q,d,rfl,ho⟩
theorem Zji(p:O0)(c n:Nat)(t u v x m0:Int)(Z:V6 Zv)(w:V1)(hI:ItT w)(hZ:Z.length=n)(hP:DevsR w p c Z)(hpe:Hz t u v x (Z.map fst)≠0) :
 C0 5 #[.agg #[V0 t,V0 u,V0 v,V0 x,.slice p n c],V0 m0] w (Ret (.bool true) w):=by
 refine zin 153 Tryz.func5 ?_
 refine xa 2 [V0 t,V0 u,V0 v,V0 x,.slice p n c] 24 fun b1 W1 n1=>?_
 refine xlv 6 n1.blk.rp ?_
 refine xc 0 (Zit p c n t u v x Z _ hZ (hP.i n1.i)) ?_
 rintro e W2 b4
 rcases b4 with ⟨rfl,a7⟩|⟨rfl,a7⟩
 ·have a4:=bln n1.i a7
  refine xr 6 (Zah _ (hI.i a4)) fun W3 b6=>?_
  have a9:=bln a4 b6
  exact xe 5 (.bool true) ⟨rfl,a9⟩
 have a1:=n1.blk.i a7
 refine xlv 8 a1.rp ?_
 have a3:=bln n1.i a7
 refine xr 0 (Zsp p c n t u v x Z _ hZ (hP.i a3) hpe) fun W4 b3=>?_
 have a5:=a1.i b3
 refine xlv 6 a5.rp ?_
 have a0:=bln a3 b3
 refine xr 0 (Hf p c n t u v x Z _ hZ (hP.i a0)) fun W5 b2=>?_
 refine xgk 2 [28,29] (show(((Hz t u v x (Z.map fst)) != (0:Int)):Bool)=true from bne_iff_ne.2 hpe) ?_
 have a8:=a5.i b2
 refine xlv 8 a8.rp ?_
 have a2:=bln a0 b2
 refine xc 0 (Ztn p c n t u v x 100 Z _ hZ (hP.i a2) hpe) ?_
 rintro _ W7 ⟨rfl,b7⟩
 have a6:=bln a2 b7
 refine xr 15 (Zah _ (hI.i a6)) fun W8 b5=>?_
 have b0:=bln a6 b5
 exact xe 6 (.bool true) ⟨rfl,b0⟩
theorem Zf6(p:O0)(c n x:Nat)(t u v m0:Int)(Z:V6 Zv)(w:V1)(hg:Zs3 w)(hI:ItT w)(hZ:Z.length=n)(hP:DevsR w p c Z)(hk:PoolOk t u v (x:Int) (Z.map fst)) :
 C0 5 #[.agg #[V0 t,V0 u,V0 v,V0 (x:Int),.slice p n c],V0 m0] w (Ret (.bool true) w):=by
 obtain⟨m,hm,h3⟩:=and_63i m0
 have j9:=needT_le x (Z.map fst)
 obtain⟨N,hN⟩:∃ N,Ma x (Z.map fst)=N:=⟨_,rfl⟩
 refine zin 153 Tryz.func5 ?_
 refine xa 2 [V0 t,V0 u,V0 v,V0 (x:Int),.slice p n c] 24 fun b1 W1 n1=>?_
 refine xlv 6 n1.blk.rp ?_
 refine xc 0 (Zit p c n t u v (x:Int) Z _ hZ (hP.i n1.i)) ?_
 rintro e W2 i0
 rcases i0 with ⟨rfl,f5⟩|⟨rfl,f5⟩
 ·have e9:=bln n1.i f5
  refine xr 6 (Zah _ (hI.i e9)) fun W3 h5=>?_
  have g1:=bln e9 h5
  exact xe 5 (.bool true) ⟨rfl,g1⟩
 have e7:=n1.blk.i f5
 refine xlv 8 e7.rp ?_
 have c4:=bln n1.i f5
 refine xr 0 (by have q:=Fc p c n x t u v Z _ (hI.i c4) hZ (hP.i c4) hk;rw[hN] at q;exact q) fun W4 g9=>?_
 have c6:=e7.i g9
 refine xlv 6 c6.rp ?_
 have c2:=bln c4 g9
 refine xr 0 (Zlx p c n x t u v Z _ hZ (hP.i c2) hk) fun W5 f4=>?_
 refine xid 7 ((N:Int)>(900:Int)) (fun i1=>?_) (fun i1=>?_)
 ·have g0:=c6.i f4
  refine xlv 2 g0.rp ?_
  have c3:=bln c2 f4
  refine xc 0 (Zhq p c n x 100 t u v Z _ (hI.i c3) hZ (hP.i c3) hk M0 M0) ?_
  rintro _ W7 ⟨rfl,h2⟩
  have f0:=bln c3 h2
  refine xr 15 (Zah _ (hI.i f0)) fun W8 i4=>?_
  have g7:=bln f0 i4
  exact xe 6 (.bool true) ⟨rfl,g7⟩
 refine xq 6 (congrArg V0 (show(IntKind.i64.wrap (↑(BitVec.ofInt 64 m0 &&& BitVec.ofInt 64 (63:Int)).toNat:Int):Int)=(m:Int) from hm)) ?_
 refine xwm 0 ((N:Int)+(m:Int)) (↑(N+m):Int) ?_
 have e5:=c6.i f4
 refine xlv 5 e5.rp ?_
 have c5:=bln c2 f4
 refine xc 1 (Zij p c n x (N+m) t u v Z _ (hI.i c5) hZ (hP.i c5) hk M0 M0) ?_
 rintro _ W9 ⟨bi,g,ci,rfl,h0,h1⟩
 have hF:TwF t u v x (N+m) (Z.map fst):=⟨hk,M0,M0⟩
 refine xc 24 (args:=#[P0 bi,V0 1000000]) (Zqo hF n (by rw[A3];exact hZ) _ bi _ _ ci _ h1) ?_
 rintro _ k2 ⟨_,rfl,b7,q1,d1,Y,rfl,hQ⟩
 refine xa 4 [V0 0,V0 0,V0 0,V0 0,S1] 24 fun i6 i9 b9=>?_
 have e2:=(e5.i h0).i b7
 have c1:=b9.ne e2
 have d8:=bln (bln c5 h0) b7
 have i3:=b9.ge d8
 refine xa 0 [V0 0,V0 0,V0 0,V0 0,V0 0,V0 0,V0 0,V0 0,V0 0,V0 0,V0 0] 54 fun i8 k1 c0=>?_
 have b2:=bln d8 b9.i
 have i5:=c0.ge b2
 have f3:=b9.blk.i c0.i
 refine xsv 0 f3 [V0 t,V0 u,V0 v,V0 (x:Int),.slice q1 n d1] fun j8 d9 h8=>?_
 have c8:=d9.A c0.blk f3 Do
 refine xsv 0 c8 [V0 t,V0 u,V0 v,V0 (x:Int),V0 (↑(N+m):Int),V0 (↑(Xr (G1 (Z.map fst))):Int),V0 (↑(Xr (G2 (Z.map fst))):Int),V0 ((twD x (Z.map fst) (N+m)).1),V0 ((twD x (Z.map fst) (N+m)).2.1),V0 ((twM x (Z.map fst) (N+m)).1),V0 ((twM x (Z.map fst) (N+m)).2.1)] fun j5 e6 h9=>?_
 have c7:=e6.A (d9.blk ((e2.i b9.i).i c0.i) c1) c8 Do
 refine xlv 9 c7.rp ?_
 have e0:=e6.A h8 c8 Do
 refine xlv 0 e0.rp ?_
 have f8:=(((hQ.i b9.i).i c0.i).q (Q1 (T:=[24]) d9 f3 Do) Do).q (Q1 (T:=[54]) e6 c8 Do) Do
 have a0:=e6.i (d9.i (bln b2 c0.i) i3) i5
 refine xr 0 (Zrk p q1 c d1 n t u v (x:Int) Z Y _ hZ (hP.i a0) f8) fun j3 a2=>?_
 have a1:=h9.i a2
 refine xb 4 4 a1 ?_
 refine xk 5 (show(((↑(N+m):Int) != (↑(N+m):Int)):Bool)=false from bne_self_eq_false _) ?_
 refine xb 6 7 a1 ?_
 refine xb 1 8 a1 ?_
 refine xb 1 3 a1 ?_
 have b0:=(((((h1.i b7).i b9.i).i c0.i).q (Q1 (T:=[24]) d9 f3 Do) Do).q (Q1 (T:=[54]) e6 c8 Do) Do).i a2
 refine xc 0 (args:=#[P0 bi,V0 ((twD x (Z.map fst) (N+m)).1),V0 ((twD x (Z.map fst) (N+m)).2.1),V0 (x:Int),V0 1000000]) (Zlp _ bi _ _ ci _ _ _ _ 1000000 x _ _ b0 (by have:=hF.xs;omega) Do (hF.j1 M0) (Ym _ _)) ?_
 rintro _ j6 ⟨_,rfl,a4,q2,d2,rfl,i2⟩
 have g6:=(bln a0 a2).size
 have a7:=a1.i a4
 refine xb 11 9 a7 ?_
 refine xb 1 10 a7 ?_
 have b4:=b0.i a4
 refine xc 1 (args:=#[P0 bi,V0 ((twM x (Z.map fst) (N+m)).1),V0 ((twM x (Z.map fst) (N+m)).2.1),V0 (↑(N+m):Int),V0 1000000]) (Zjs _ bi _ _ ci _ _ _ _ 1000000 (N+m) _ _ b4 M0 Do hF.j5 (Kj _ _ _)) ?_
 rintro _ j2 ⟨_,rfl,a5,q3,d3,rfl,h4⟩
 have g5:=(bln (bln a0 a2) a4).size
 have e4:=a7.i a5
 refine xlv 10 e4.rp ?_
 have f1:=b4.i a5
 refine xc 0 (args:=#[P0 bi,.agg #[V0 t,V0 u,V0 v,V0 (x:Int),V0 (↑(N+m):Int),V0 (↑(Xr (G1 (Z.map fst))):Int),V0 (↑(Xr (G2 (Z.map fst))):Int),V0 ((twD x (Z.map fst) (N+m)).1),V0 ((twD x (Z.map fst) (N+m)).2.1),V0 ((twM x (Z.map fst) (N+m)).1),V0 ((twM x (Z.map fst) (N+m)).2.1)]]) (Ziy hF M0 _ bi _ _ ci _ f1) ?_
 rintro _ j1 ⟨_,rfl,a8,q4,d4,rfl,h7⟩
 have g8:=(bln (bln (bln a0 a2) a4) a5).size
 have d0:=(((c7.i a2).i a4).i a5).i a8
 refine xlv 9 d0.rp ?_
 refine xwm 1 ((N:Int)-1) (↑(N-1):Int) ?_
 have a3:=bln (bln (bln (bln a0 a2) a4) a5) a8
 refine xc 0 (Zhq p c n x (N-1) t u v Z _ (hI.i a3) hZ (hP.i a3) hk M0 M0) ?_
 rintro _ k3 ⟨rfl,a6⟩
 have g2:=d0.i a6
 refine xlv 21 g2.rp ?_
 have b6:=bln a3 a6
 refine xc 0 (Zq4 p c n x t u v Z _ hZ (hP.i b6) hk) ?_
 rintro _ j4 ⟨_,rfl,a9,q5,d5,rfl,h6⟩
 have f7:=(bln a3 a6).size
 have e1:=Zb (Zb (Zb (Zb (Zg i2 g6) a5) a8) a6) a9
 have e3:=Zg h6 f7
 refine xc 0 (args:=#[.slice q2 x d2,.slice q5 x d5]) (Tg q2 q5 d2 d5 x (Xv x (Z.map fst)) _ (Ym _ _) (Zf e1) (Zf e3) (by have:=hF.xs;omega)) ?_
 rintro _ j0 ⟨_,rfl,b8,q6,d6,rfl⟩
 have c9:=Zb (Zb (Zb (Zb (Zg h4 g5) a8) a6) a9) b8
 have f2:=Zb (Zb (Zb (Zg h7 g8) a6) a9) b8
 refine xc 6 (args:=#[.slice q3 (N+m) d3,.slice q4 (N+m) d4]) (Tg q3 q4 d3 d4 (N+m) (Bo (Z.map fst) (1+twK x (Z.map fst)+(Zy 5 (Lv (Z.map fst))+bmN (N+m)+1)) (N+m)) _ (Kj _ _ _) (Zf c9) (Zf f2) M0) ?_
 rintro _ j7 ⟨_,rfl,f6,q7,d7,rfl⟩
 have b3:=bln (bln (bln b6 a9) b8) f6
 refine xr 9 (code_14 _ (hg.i b3)) fun k0 f9=>?_
 have b5:=bln b3 f9
 refine xr 3 (Zah _ (hI.i b5)) fun i7 g3=>?_
 have e8:=bln b5 g3
 exact xe 5 (.bool true) ⟨rfl,e8⟩
theorem Zjj(p:O0)(c n:Nat)(t u v x m0:Int)(Z:V6 Zv)(w:V1)(hg:Zs3 w)(hI:ItT w)(hZ:Z.length=n)(hP:DevsR w p c Z) :
 C0 5 #[.agg #[V0 t,V0 u,V0 v,V0 x,.slice p n c],V0 m0] w (Ret (.bool true) w):=by
 by_cases h:Hz t u v x (Z.map fst)=0
 ·have hk:=Mx.1 h
  obtain⟨X,rfl⟩:∃ X:Nat,x=(X:Int):=⟨x.toNat,by have:=hk.a3;omega⟩
  exact Zf6 p c n X t u v m0 Z w hg hI hZ hP hk
 ·exact Zji p c n t u v x m0 Z w hI hZ hP h
end
end
section
open Go.ChangeShapes Go.WideShapes Go.ChangeAt Go.RowKit Go.Joins Go.Deep
section
attribute [local irreducible] wpList wpAnyH Code.wp Oper.wp Go
theorem flatm{α:Type}{f:α→V6 V2}{m:Nat}(hf:∀ x,(f x).length=m):∀ (T:V6 α) (j:Nat) (x:V2),(T.flatMap f)[j]? = some x→∃ i,∃ h:i<T.length,∃ r,r<m∧j=i*m+r∧(f T[i])[r]? = some x
 | [],j,x,h=>by simp at h
 | y::T,j,x,h=>by
  rw[E7,O3] at h;by_cases hj:j<m
  ·rw[V8 (by rw[hf];exact hj)] at h;exact⟨0,Y5,j,hj,M0,by simpa using h⟩
  ·rw[V7 (by rw[hf];exact hj),hf] at h;obtain⟨i,hi,r,hr,e,hx⟩:=flatm hf T (j-m) x h;exact⟨i+1,by simpa using hi,r,hr,by rw[G8];omega,by simpa using hx⟩
theorem Zip{α H:Type}{enc:V3×V2→H}{P:V4}{W:V1}{t e:V3}{v:V2}{y:DataW H×V6 MemPlace}{am m:Nat}{f:α→V6 V2}{G:α→Prop}(hf:∀ x,(f x).length=m)(hm:0<m)(ht:P.underlying t=some (.slice e))(hC:P.cellsOf e=m)
 (each:∀ n cs z,cs.length=m→DataW.trod enc P W 0 (fun _=>true) true n e cs=some z→∃ q,cs=f q∧G q) (h:DataW.trod enc P W 0 (fun _=>true) true am t [v]=some y) :
 ∃ (L:V6 α) (a:O0) (c:Nat),v=.slice a L.length c∧Sl W (.slice a L.length c) L.length (L.flatMap f)∧∀ q∈L,G q:=by
 rcases open_slice ht h with ⟨a2,_⟩|⟨x,l,c,k,n,D,Pl,a2,_,hl,a9,b1,_,hi⟩
 ·simp at a2
  subst a2
  exact⟨[],none,0,rfl,.inl ⟨none,0,rfl,rfl,rfl⟩,fun q hq=>by cases hq⟩
 ·simp at a2
  subst a2
  obtain⟨b,a4,a6⟩:=x
  have b2:l≤k:=by rw[b1];simp;omega
  by_cases hlen:l=0
  ·subst hlen
   exact⟨[],_,_,rfl,.inl ⟨_,_,rfl,rfl,rfl⟩,fun q hq=>by cases hq⟩
  have a3:a6=none:=by
   obtain⟨cs,hc,a8⟩:=hi 0 M0;rw[hC] at hc;obtain⟨_,a7,a5⟩:=World.cells?_some hc;have a0:=a5 0 M0;rw[A9 M0] at a0;simpa [Addr.add] using World.cell?_spot a0
  subst a3
  have eA:∀ o n,(⟨b,o,none⟩:Addr).add n=⟨b,o+n,none⟩:=by intro o n;unfold Addr.add;split<;>simp_all
  have a1:∀ i:Fin l,∃ q:α,(∀ r x,(f q)[r]? = some x→W.cell? ⟨b,a4+(i.val*m+r),none⟩=some x)∧G q:=by
   intro i;obtain⟨cs,hc,a8⟩:=hi i.val (by have:=i.2;omega);rw[hC] at hc;obtain⟨_,a7,a5⟩:=World.cells?_some hc;obtain⟨q,hq,hG⟩:=each n cs _ a7 a8;refine⟨q,fun r x hr=>?_,hG⟩;rw[←hq] at hr;have b0:r<m:=(by have:=(List.getElem?_eq_some_iff.1 hr).1;omega);have a0:=a5 r b0;rw[hr,eA,eA] at a0;rw[←F2];exact a0
  refine⟨List.ofFn fun i=>Classical.choose (a1 i),some ⟨b,a4,none⟩,c,by rw[List.length_ofFn],?_,fun q hq=>?_⟩
  ·rw[List.length_ofFn]
   refine .inr ⟨b,a4,c,rfl,hl,a9,fun j x hj=>?_⟩
   obtain⟨i,hi,r,hr,e,hx⟩:=flatm hf _ j x hj
   rw[List.getElem_ofFn] at hx
   rw[e]
   exact(Classical.choose_spec (a1 ⟨i,by simpa using hi⟩)).1 r x hx
  ·obtain⟨i,rfl⟩:=List.mem_ofFn.1 hq
   exact(Classical.choose_spec (a1 i)).2
theorem map_each{H:Type}{enc:V3×V2→H}{P:V4}{W:V1}{e:V3}{f0 f1 f2:Field}(he:P.underlying e=some (.struct #[f0,f1,f2]))(hone:oneCellFields P #[f0,f1,f2]=true)(h0:P.underlying f0.type=some (.int .i64))(h1:P.underlying f1.type=some (.int .i64))(h2:P.underlying f2.type=some (.int .i64)) :
 ∀ n cs z,cs.length=3→DataW.trod enc P W 0 (fun _=>true) true n e cs=some z→∃ q:Mp,cs=Cu q∧True:=by
 intro n cs z a3 a4
 obtain⟨y0,y1,y2,n',_,_,t0,t1,t2⟩:=trod_struct3 he a4
 obtain⟨o0,k0⟩:=hone_of hone 0 f0 rfl
 obtain⟨o1,k1⟩:=hone_of hone 1 f1 rfl
 obtain⟨o2,k2⟩:=hone_of hone 2 f2 rfl
 match cs,a3 with
 | [c0,c1,c2],_ =>
  rw[o0,k0] at t0
  rw[o1,k1] at t1
  rw[o2,k2] at t2
  obtain⟨z0,a2,_,_⟩:=DataW.trod_int (cs:=[c0]) h0 (by simpa using t0)
  obtain⟨z1,a1,_,_⟩:=DataW.trod_int (cs:=[c1]) h1 (by simpa using t1)
  obtain⟨z2,a0,_,_⟩:=DataW.trod_int (cs:=[c2]) h2 (by simpa using t2)
  simp only[I5,and_true] at a2 a1 a0
  subst a2 a1 a0
  exact⟨(z0,z1,z2),rfl,trivial⟩
theorem dev_each{H:Type}{enc:V3×V2→H}{P:V4}{W:V1}{e em:V3}{f0 f1 f2 f3 f4 m0 m1 m2:Field}(he:P.underlying e=some (.struct #[f0,f1,f2,f3,f4]))(hone:oneCellFields P #[f0,f1,f2,f3,f4]=true)(h0:P.underlying f0.type=some (.int .i64))(h1:P.underlying f1.type=some (.int .i64))(h2:P.underlying f2.type=some (.int .i64))(h3:P.underlying f3.type=some (.int .i64))(h4:P.underlying f4.type=some (.slice em))
 (hme:P.underlying em=some (.struct #[m0,m1,m2])) (hmone:oneCellFields P #[m0,m1,m2]=true) (hmC:P.cellsOf em=3) (hm0:P.underlying m0.type=some (.int .i64)) (hm1:P.underlying m1.type=some (.int .i64)) (hm2:P.underlying m2.type=some (.int .i64)) :
 ∀ n cs z,cs.length=5→DataW.trod enc P W 0 (fun _=>true) true n e cs=some z→∃ q:Zv,cs=Zg5 q∧Sts Cu W (.slice q.2.1 q.1.2.length q.2.2) q.1.2:=by
 intro n cs z a5 a6
 obtain⟨xs,n',_,rfl,hl,a0,hf⟩:=DataW.trod_struct he a6
 obtain⟨o0,k0⟩:=hone_of hone 0 f0 rfl
 obtain⟨o1,k1⟩:=hone_of hone 1 f1 rfl
 obtain⟨o2,k2⟩:=hone_of hone 2 f2 rfl
 obtain⟨o3,k3⟩:=hone_of hone 3 f3 rfl
 obtain⟨o4,k4⟩:=hone_of hone 4 f4 rfl
 match xs,a0 with
 | [y0,y1,y2,y3,y4],_ =>
  have t0:=hf 0 f0 rfl
  have t1:=hf 1 f1 rfl
  have t2:=hf 2 f2 rfl
  have t3:=hf 3 f3 rfl
  have t4:=hf 4 f4 rfl
  match cs,a5 with
  | [c0,c1,c2,c3,c4],_ =>
   rw[o0,k0] at t0
   rw[o1,k1] at t1
   rw[o2,k2] at t2
   rw[o3,k3] at t3
   rw[o4,k4] at t4
   obtain⟨z0,a4,_,_⟩:=DataW.trod_int (cs:=[c0]) h0 (by simpa using t0)
   obtain⟨z1,a3,_,_⟩:=DataW.trod_int (cs:=[c1]) h1 (by simpa using t1)
   obtain⟨z2,a1,_,_⟩:=DataW.trod_int (cs:=[c2]) h2 (by simpa using t2)
   obtain⟨z3,a2,_,_⟩:=DataW.trod_int (cs:=[c3]) h3 (by simpa using t3)
   obtain⟨M,a,c,rfl,hM,_⟩:=Zip (v:=c4) (G:=fun _:Mp=>True) Jv Do h4 hmC (map_each hme hmone hm0 hm1 hm2) (by simpa using t4)
   simp only[I5,and_true] at a4 a3 a1 a2
   subst a4 a3 a1 a2
   exact⟨(((z0,z1,z2,z3),M),a,c),rfl,hM⟩
theorem Zw6{H:Type}{enc:V3×V2→H}{P:V4}{W:V1}{r:Reach}{b0:Nat}{t:V3}{fs:Array Field}{v:V2}{d:DataW H}{p:V6 MemPlace}(hs:P.underlying t=some (.struct fs))(h5:fs.size=5)(hone:oneCellFields P fs=true)(hC:P.cellsOf t=5)(hv:Value.okWide P W r b0 t v)(h:DataW.Trod enc P W 0 (fun _=>true) true t v d p) :
 ∃ c0 c1 c2 c3 c4 n,v=.agg #[c0,c1,c2,c3,c4]∧∀ i f,fs[i]? = some f→∃ y,DataW.trod enc P W 0 (fun _=>true) true n f.type (([c0,c1,c2,c3,c4].drop i).take 1)=some y:=by
 obtain⟨cs,rfl,a4⟩:=okWide_struct hs hv
 obtain⟨a1,hx⟩:=h
 obtain⟨xs,n,_,_,hl,a2,a3⟩:=DataW.trod_struct hs hx
 have a0:cs.toList.length=5:=by simp;omega
 obtain⟨L⟩:=cs
 match L,a0 with
 | [c0,c1,c2,c3,c4],_ =>
  refine⟨c0,c1,c2,c3,c4,n,rfl,fun i f hi=>?_⟩
  obtain⟨o,k⟩:=hone_of hone i f hi
  have hq:=a3 i f hi
  rw[o,k] at hq
  have a5:i<fs.size:=(Array.getElem?_eq_some_iff.1 hi).1
  refine⟨xs[i]' M0,?_⟩
  rw[A9 M0] at hq
  exact hq
theorem Zxh{H:Type}{enc:V3×V2→H}{P:V4}{W:V1}{r:Reach}{b0:Nat}{t ed em:V3}{p0 p1 p2 p3 p4 f0 f1 f2 f3 f4 m0 m1 m2:Field}{v:V2}{d:DataW H}{p:V6 MemPlace}(hs:P.underlying t=some (.struct #[p0,p1,p2,p3,p4]))(hsone:oneCellFields P #[p0,p1,p2,p3,p4]=true)(hsC:P.cellsOf t=5)
  (g0:P.underlying p0.type=some (.int .i64)) (g1:P.underlying p1.type=some (.int .i64)) (g2:P.underlying p2.type=some (.int .i64)) (g3:P.underlying p3.type=some (.int .i64)) (g4:P.underlying p4.type=some (.slice ed))
  (he:P.underlying ed=some (.struct #[f0,f1,f2,f3,f4])) (hone:oneCellFields P #[f0,f1,f2,f3,f4]=true) (hC:P.cellsOf ed=5) (h0:P.underlying f0.type=some (.int .i64)) (h1:P.underlying f1.type=some (.int .i64)) (h2:P.underlying f2.type=some (.int .i64)) (h3:P.underlying f3.type=some (.int .i64)) (h4:P.underlying f4.type=some (.slice em))
  (hme:P.underlying em=some (.struct #[m0,m1,m2])) (hmone:oneCellFields P #[m0,m1,m2]=true) (hmC:P.cellsOf em=3) (hm0:P.underlying m0.type=some (.int .i64)) (hm1:P.underlying m1.type=some (.int .i64)) (hm2:P.underlying m2.type=some (.int .i64))
  (hv:Value.okWide P W r b0 t v) (h:DataW.Trod enc P W 0 (fun _=>true) true t v d p) :
  ∃ (tx time unit data:Int) (q:O0) (c:Nat) (Z:V6 Zv),v=.agg #[V0 tx,V0 time,V0 unit,V0 data,.slice q Z.length c]∧DevsR W q c Z:=by
 obtain⟨c0,c1,c2,c3,c4,n,rfl,hf⟩:=Zw6 hs rfl hsone hsC hv h
 obtain⟨_,t0⟩:=hf 0 p0 rfl
 obtain⟨_,t1⟩:=hf 1 p1 rfl
 obtain⟨_,t2⟩:=hf 2 p2 rfl
 obtain⟨_,t3⟩:=hf 3 p3 rfl
 obtain⟨_,t4⟩:=hf 4 p4 rfl
 obtain⟨z0,a2,_,_⟩:=DataW.trod_int (cs:=[c0]) g0 (by simpa using t0)
 obtain⟨z1,a3,_,_⟩:=DataW.trod_int (cs:=[c1]) g1 (by simpa using t1)
 obtain⟨z2,a1,_,_⟩:=DataW.trod_int (cs:=[c2]) g2 (by simpa using t2)
 obtain⟨z3,a0,_,_⟩:=DataW.trod_int (cs:=[c3]) g3 (by simpa using t3)
 obtain⟨Z,a,c,rfl,hZ,hG⟩:=Zip (v:=c4) (f:=Zg5) (G:=fun q:Zv=>Sts Cu W (.slice q.2.1 q.1.2.length q.2.2) q.1.2) Jd Do g4 hC (dev_each he hone h0 h1 h2 h3 h4 hme hmone hmC hm0 hm1 hm2) (by simpa using t4)
 simp only[I5,and_true] at a2 a3 a1 a0
 subst a2 a3 a1 a0
 exact⟨z0,z1,z2,z3,a,c,Z,rfl,hZ,fun i hi=>hG _ (by simp[getD,hi])⟩
end
end
end Go.Proofs.YtekomodnkfhihaaGreatDoor
