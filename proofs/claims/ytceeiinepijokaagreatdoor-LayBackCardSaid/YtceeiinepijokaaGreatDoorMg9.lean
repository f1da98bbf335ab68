/- The lives of law 26. -/
import Derived.Lib.SmallJoins
import Derived.Test.YtceeiinepijokaaGreatDoorMg8
namespace Go.Proofs.YtceeiinepijokaaGreatDoor
set_option maxHeartbeats 8000000
set_option maxRecDepth 100000
open Go.RowKit Go.Extern.Stop Go.Stop Go.Extern
set_option linter.unusedVariables false
attribute [local irreducible] wpList wpAnyH Code.wp Oper.wp Go
theorem Zqs:Uk 0 []=8:=by
 unfold Uk Zin Mm Si
 rw[show([]:List Dv).length=0 from rfl,Zt1,Zt1,show bmN 0=0 from rfl,Zt1,show Zrw 0 []=0 from rfl,Zt1]
 rfl
theorem Zue(w:World):C0 18 #[.agg #[V0 0,V0 0,V0 1,V0 0,S0],V0 8] w (LayO (Qb 0 0 1 0 [] 8) 8 w) :=
 Zm6 none 0 0 0 8 0 0 1 [] w rfl ⟨.inl ⟨none,0,rfl,rfl,rfl⟩,fun i hi=>absurd hi (Nat.not_lt_zero _)⟩ ⟨by decide,by decide,by decide,by decide,DevsOk.nil _⟩ Do (by rw[show([]:List Zv).map Prod.fst=[] from rfl,Zqs];exact At _)
theorem which26(a:O0)(c i:Nat)(l:Bl)(w:World)(hi:i<8)(hl:l.length=256)(hs:∃ kind li,1≤kind∧kind≤4∧li.length≤244∧l=Xu kind (i:Int) li)(h:Bys w (.slice a 256 c) l):C0 44 #[.slice a 256 c] w (Kc (fun w' r=>∃ kind,r=.tuple #[V0 kind,V0 (i:Int),.bool true]) w):=by
 obtain⟨kind,li,h1,h2,h3,e⟩:=hs
 have hr:=Zqt (kind:=kind) (no:=(i:Int)) (li:=li) h1 h2 M0 M0 h3
 rw[←e] at hr
 have ho:Qv (↑(Zn l 4 2):Int) (↑(Zn l 0 4):Int) l=0:=by rw[hr.1,hr.2,e];exact Zak h1 h2 M0 M0 h3
 refine(Zrs a c l w hl h ho).mono ?_
 rintro e' W ⟨rfl,hb⟩
 exact⟨_,rfl,hb,_,by rw[hr.1]⟩
theorem Zau(w:World) :
 C0 15 #[] w (Ret (.bool true) w):=by
 refine zin 48 Tryz.func15 ?_
 refine xc 8 (Zue _) ?_
 rintro _ W1 ⟨bi,g,ci,rfl,a9,hI⟩
 refine xr 18 (args:=#[P0 bi]) (by have q:=Yz bi _ (8*256) _ _ hI.blk Do;exact q) fun W2 a8=>?_
 have a3:=hI.below a8
 have hB:=bln a9 a8
 refine zl 14 48 (fun zm b1 V=>∃ (i:Nat),b1=[(1,P0 bi),(3,V0 (i:Int))]∧zm=8-((i:Int)).toNat∧B3 w V∧ImgR w.heap.size bi (S1 g) (8*256) ci (Qb 0 0 1 0 [] 8) V∧i≤8) ⟨0,rfl,rfl,hB,a3,by decide⟩ ?_
 rintro _ _ W3 ⟨i,rfl,rfl,a0,hI,hi⟩ J3 b3 r3
 obtain⟨g0,b4,b2⟩:=hI.base Do
 refine xid 7 ((i:Int)<(8:Int)) (fun b0=>?_) (fun b0=>?_)
 ·refine xc 8 (args:=#[P0 bi,V0 (i:Int)]) (Fi _ bi g (8*256) ci (Qb 0 0 1 0 [] 8) i _ hI M0 b2) ?_
  rintro _ W5 ⟨_,rfl,a6,p5,c5,rfl,h5⟩
  have a4:=Zf h5 a0.size
  have a5:(Vv (Qb 0 0 1 0 [] 8) i).length=256:=Jj (by rw[Tl.1];omega)
  refine xc 10 (which26 p5 c5 i (Vv (Qb 0 0 1 0 [] 8) i) _ M0 a5 (Tl.2 i M0) (Vc (Zg a4) a5)) ?_
  rintro _ W6 ⟨_,rfl,a7,kd,rfl⟩
  refine xk 20 (show(((i:Int) != (i:Int)):Bool)=false from by simp) ?_
  refine xwm 5 ((i:Int)+1) (↑(i+1):Int) ?_
  have a2:=bln (bln a0 a6) a7
  have a1:=(hI.below a6).below a7
  exact ze 2 (b3 _ _ _ ⟨i+1,rfl,rfl,a2,a1,by omega⟩ M0)
 exact xe 11 (.bool true) ⟨rfl,a0⟩
theorem and_63i(x:Int):∃ m:Nat,IntKind.i64.wrap (↑(BitVec.ofInt 64 x &&& BitVec.ofInt 64 (63:Int)).toNat:Int)=(m:Int)∧m≤63:=by
 have h:(BitVec.ofInt 64 x &&& BitVec.ofInt 64 (63:Int)).toNat≤63:=by
  rw[P3]
  exact N0 Nat.and_le_right Do
 exact⟨_,Mk M0,h⟩
theorem Zjt(p:O0)(c n x:Nat)(t u v:Int)(Z:List Zv)(w:World)(hZ:Z.length=n)(hP:DevsR w p c Z)(hk:PoolOk t u v (x:Int) (Z.map Prod.fst)) :
 C0 17 #[.agg #[V0 t,V0 u,V0 v,V0 (x:Int),.slice p n c]] w (Ret (V0 0) w):=by
 have h:=Jt p c n t u v (x:Int) Z w hZ hP
 rwa [Cr.2 hk] at h
theorem Zqy{t u v:Int}{x k:Nat}{L:List Dv}(h:LayF t u v x k L)(n:Nat)(hn:L.length=n)(Bi b:Nat)(pi:O0)(ni ci:Nat)(w:World)(hI:ImgR Bi b pi ni ci (Qb t u v x L k) w) :
 C0 19 #[P0 b,V0 1000000] w (Kc (fun w' r=>∃ q d Y,r=.tuple #[.agg #[V0 t,V0 u,V0 v,V0 (x:Int),.slice q n d],.agg #[V0 t,V0 u,V0 v,V0 (x:Int),V0 (k:Int),V0 (↑(Xj (F1 L)):Int),V0 (↑(Xj (F2 L)):Int),V0 (Kw x L k).1,V0 (Kw x L k).2.1,V0 (Ug x L k).1,V0 (Ug x L k).2.1],.nilIface]∧Ru ([],0,L) w' q d Y) w):=by
 obtain⟨s1,s2,s3⟩:=h.load
 refine(Zpy Bi b pi ni ci (Qb t u v x L k) 1000000 w hI Do L s1 (by rw[s2];exact s3)).mono ?_
 rintro e W q
 rw[s2] at q
 obtain⟨_,rfl,hb,q,d,Y,rfl,hD⟩:=q
 subst hn
 exact⟨_,rfl,hb,q,d,Y,rfl,hD⟩
theorem Zrh(p q:O0)(c d n:Nat)(t u v x:Int)(Z Y:List Zv)(w:World)(hZ:Z.length=n)(hP:DevsR w p c Z)(hQ:Ru ([],0,Z.map Prod.fst) w q d Y) :
 C0 20 #[.agg #[V0 t,V0 u,V0 v,V0 x,.slice p n c],.agg #[V0 t,V0 u,V0 v,V0 x,.slice q n d]] w (Ret (.bool true) w):=by
 have hY:Y.length=n:=by
  have:=hQ.1
  simp only[A6] at this
  omega
 refine Ztf p q c d n t u v x Z Y w hZ hY (fun i hi=>?_) hP hQ.read
 have h:=hQ.2.1
 simp only at h
 have e:(Y.map Prod.fst)[i]? = (Z.map Prod.fst)[i]? := by rw[h]
 rw[C4,C4,A4 M0,A4 M0] at e
 simp only[D5,A0] at e
 simp[List.getD,show i<Z.length by omega,show i<Y.length by omega,e]
theorem Zgd{t u v:Int}{x k:Nat}{L:List Dv}(h:LayF t u v x k L)(h18:k≤1800)(Bi b:Nat)(pi:O0)(ni ci:Nat)(w:World)(hI:ImgR Bi b pi ni ci (Qb t u v x L k) w) :
 C0 23 #[P0 b,.agg #[V0 t,V0 u,V0 v,V0 (x:Int),V0 (k:Int),V0 (↑(Xj (F1 L)):Int),V0 (↑(Xj (F2 L)):Int),V0 (Kw x L k).1,V0 (Kw x L k).2.1,V0 (Ug x L k).1,V0 (Ug x L k).2.1]] w (Kc (fun w' r=>∃ q d,r=.tuple #[.slice q k d,.nilIface]∧w'.ownsRow w.heap.size 3 1 (.slice q k d) k ((Xt (1+Qu x L+(2+bmN k)) k).map V0)) w):=by
 obtain⟨cs,e1,e2⟩:=h.count h18
 have hl:cs.length=k:=by
  have:=congrArg List.length e2
  rwa [A6,Zr] at this
 refine(Zkk Bi b pi ni ci _ (Zb7 t u v x L k) w hI).mono ?_
 rintro e W q
 rw[e1] at q
 rcases q with ⟨q,_⟩|⟨_,q,d,rfl,hb,ho⟩
 ·exact absurd rfl q
 ·simp only at ho ⊢
  rw[hl] at ho ⊢
  rw[←Zbb,e2] at ho
  exact⟨_,rfl,hb,q,d,rfl,ho⟩
theorem Zqn(p:O0)(c n x:Nat)(t u v:Int)(Z:List Zv)(w:World)(hZ:Z.length=n)(hP:DevsR w p c Z)(hk:PoolOk t u v (x:Int) (Z.map Prod.fst)) :
 C0 25 #[.agg #[V0 t,V0 u,V0 v,V0 (x:Int),.slice p n c]] w (Kc (fun w' r=>∃ q d,r=.slice q x d∧w'.ownsRow w.heap.size 3 1 (.slice q x d) x ((Xw x (Z.map Prod.fst)).map V0)) w):=by
 refine(Lq p c n x t u v Z w hZ hP hk).mono ?_
 rintro e W ⟨_,rfl,hb,q,d,rfl,ho⟩
 rw[←Zbb] at ho
 exact⟨_,rfl,hb,q,d,rfl,ho⟩
theorem Tz(a b:O0)(ca cb n:Nat)(l:List Int)(w:World)(hn:l.length=n)(ha:Sl w (.slice a n ca) n (l.map V0))(hb:Sl w (.slice b n cb) n (l.map V0))(h1:n≤1000000) :
 C0 24 #[.slice a n ca,.slice b n cb] w (Kc (fun w' r=>∃ q d,r=.slice q 0 d) w):=by
 subst hn
 have q:=Zku a b ca cb l l w ha hb h1 h1
 have e:∀ k,dif l l k=[]:=fun k=>by
  unfold dif
  simp
 rw[e] at q
 refine q.mono ?_
 rintro e W ⟨r,rfl,hb,ho⟩
 obtain⟨q,d,rfl⟩:=(Zg ho).slice
 exact⟨_,rfl,hb,q,d,rfl⟩
theorem Zu4(a n i:Nat):0≤(Xt a n).getD i 0∧(Xt a n).getD i 0≤1:=by
 by_cases h:i<n
 ·rw[Hs h];split<;>omega
 ·rw[show(Xt a n).getD i 0=0 from by simp[Xt,List.getD,N6 h]];omega
theorem Zxm(a n i:Nat)(hi:i<n):(Xt a n).getD i 0≤(Xt a n).getD (i-1) 0:=by
 rw[Hs hi,Hs M0]
 repeat' split
 all_goals omega
theorem Zlo(a n i:Nat)(hi:i<n):((min i a:Nat):Int)+(Xt a n).getD i 0=((min (i+1) a:Nat):Int):=by
 rw[Hs hi]
 split<;>omega
theorem Zg8(x:Nat)(L:List Dv)(k:Nat)(h:Uk x L≤k):1≤Uk x L∧1+Qu x L+(2+bmN k)=Mm x L+2+bmN k∧Mm x L+2+bmN k≤k:=by
 have h1:=La h
 have h2:=Zdx x L
 have h3:=La (At (Uk x L))
 have h4:=Hc x L
 refine⟨by omega,by omega,by omega⟩
theorem code_14(w:World)(hg:Zu1 w):C0 28 #[.iface 50 (V0 14)] w (Ret (V0 14) w):=Zou (some 14) [] _ w hg rfl
theorem Zpi(p:O0)(c n:Nat)(t u v x:Int)(Z:List Zv)(w:World)(hZ:Z.length=n)(hP:DevsR w p c Z)(hpe:Qz t u v x (Z.map Prod.fst)≠0) :
 C0 26 #[.agg #[V0 t,V0 u,V0 v,V0 x,.slice p n c]] w (Ret (V0 0) w):=by
 refine zin 46 Tryz.func26 ?_
 refine xa 2 [V0 t,V0 u,V0 v,V0 x,.slice p n c] 48 fun b1 W1 n1=>?_
 refine xlv 6 n1.blk.rp ?_
 refine xr 0 (Jt p c n t u v x Z _ hZ (hP.below n1.below)) fun W2 a1=>?_
 refine xk 3 (show(((Qz t u v x (Z.map Prod.fst)) != (0:Int)):Bool)=true from bne_iff_ne.2 hpe) ?_
 have a0:=bln n1.below a1
 exact xe 7 (V0 0) ⟨rfl,a0⟩
theorem Zor(p:O0)(c n:Nat)(t u v x:Int)(Z:List Zv)(w:World)(hZ:Z.length=n)(hP:DevsR w p c Z)(hpe:Qz t u v x (Z.map Prod.fst)≠0) :
 C0 16 #[.agg #[V0 t,V0 u,V0 v,V0 x,.slice p n c]] w (Ret (V0 0) w):=by
 refine zin 17 Tryz.func16 ?_
 refine xa 2 [V0 t,V0 u,V0 v,V0 x,.slice p n c] 48 fun b1 W1 n1=>?_
 refine xlv 5 n1.blk.rp ?_
 refine xr 0 (Zpi p c n t u v x Z _ hZ (hP.below n1.below) hpe) fun W2 a1=>?_
 have a0:=bln n1.below a1
 exact xe 18 (V0 0) ⟨rfl,a0⟩
theorem Zkf(p:O0)(c n:Nat)(t u v x m0:Int)(Z:List Zv)(w:World)(hZ:Z.length=n)(hP:DevsR w p c Z)(hpe:Qz t u v x (Z.map Prod.fst)≠0) :
 C0 4 #[.agg #[V0 t,V0 u,V0 v,V0 x,.slice p n c],V0 m0] w (Ret (.bool true) w):=by
 refine zin 195 Tryz.func4 ?_
 refine xa 2 [V0 t,V0 u,V0 v,V0 x,.slice p n c] 48 fun b1 W1 n1=>?_
 refine xlv 6 n1.blk.rp ?_
 refine xc 0 (Zf7 p c n t u v x Z _ hZ (hP.below n1.below)) ?_
 rintro e W2 b2
 rcases b2 with ⟨rfl,a5⟩|⟨rfl,a5⟩
 ·refine xr 6 (Zau _) fun W3 b4=>?_
  have a6:=bln (bln n1.below a5) b4
  exact xe 5 (.bool true) ⟨rfl,a6⟩
 have a1:=n1.blk.below a5
 refine xlv 8 a1.rp ?_
 have a4:=bln n1.below a5
 refine xr 0 (Zor p c n t u v x Z _ hZ (hP.below a4) hpe) fun W4 a9=>?_
 have a0:=a1.below a9
 refine xlv 6 a0.rp ?_
 have a2:=bln a4 a9
 refine xr 0 (Jt p c n t u v x Z _ hZ (hP.below a2)) fun W5 b0=>?_
 refine xgk 2 [30,31] (show(((Qz t u v x (Z.map Prod.fst)) != (0:Int)):Bool)=true from bne_iff_ne.2 hpe) ?_
 have a8:=a0.below b0
 refine xlv 8 a8.rp ?_
 have a3:=bln a2 b0
 refine xc 0 (args:=#[.agg #[V0 t,V0 u,V0 v,V0 x,.slice p n c],V0 100]) ((lay_LayC p c n t u v x 100 Z _ hZ (hP.below a3) hpe).mono (fun _ _ q=>q)) ?_
 rintro _ W7 ⟨rfl,b3⟩
 refine xr 15 (Zau _) fun W8 b5=>?_
 have a7:=bln (bln a3 b3) b5
 exact xe 6 (.bool true) ⟨rfl,a7⟩
theorem Zgz(p:O0)(c n x:Nat)(t u v m0:Int)(Z:List Zv)(w:World)(hg:Zu1 w)(hZ:Z.length=n)(hP:DevsR w p c Z)(hk:PoolOk t u v (x:Int) (Z.map Prod.fst)) :
 C0 4 #[.agg #[V0 t,V0 u,V0 v,V0 (x:Int),.slice p n c],V0 m0] w (Ret (.bool true) w):=by
 obtain⟨m,hm,j6⟩:=and_63i m0
 obtain⟨N,hN⟩:∃ N,Uk x (Z.map Prod.fst)=N:=⟨_,rfl⟩
 have l4:=(Zg8 x (Z.map Prod.fst) N M0).1
 have l3:=Zg8 x (Z.map Prod.fst) (N+m) M0
 have m6:bmN (N+m)≤2∨900<N:=by unfold bmN;omega
 refine zin 195 Tryz.func4 ?_
 refine xa 2 [V0 t,V0 u,V0 v,V0 (x:Int),.slice p n c] 48 fun b1 W1 n1=>?_
 refine xlv 6 n1.blk.rp ?_
 refine xc 0 (Zf7 p c n t u v (x:Int) Z _ hZ (hP.below n1.below)) ?_
 rintro e W2 j7
 rcases j7 with ⟨rfl,h2⟩|⟨rfl,h2⟩
 ·refine xr 6 (Zau _) fun W3 k2=>?_
  have h7:=bln (bln n1.below h2) k2
  exact xe 5 (.bool true) ⟨rfl,h7⟩
 have g3:=n1.blk.below h2
 refine xlv 8 g3.rp ?_
 have f1:=bln n1.below h2
 refine xr 0 (Iw p c n x t u v Z _ hZ (hP.below f1) hk) fun W4 j1=>?_
 rw[hN]
 have d9:=g3.below j1
 refine xlv 6 d9.rp ?_
 have e2:=bln f1 j1
 refine xr 0 (Zjt p c n x t u v Z _ hZ (hP.below e2) hk) fun W5 h4=>?_
 refine xid 7 ((N:Int)>(900:Int)) (fun j5=>?_) (fun j5=>?_)
 ·have i0:=d9.below h4
  refine xlv 2 i0.rp ?_
  have g1:=bln e2 h4
  refine xc 0 (Zng p c n x 100 t u v Z _ hZ (hP.below g1) hk M0 M0) ?_
  rintro _ W7 ⟨rfl,j9⟩
  refine xr 15 (Zau _) fun W8 k3=>?_
  have i7:=bln (bln g1 j9) k3
  exact xe 6 (.bool true) ⟨rfl,i7⟩
 refine xq 6 (congrArg V0 (show(IntKind.i64.wrap (↑(BitVec.ofInt 64 m0 &&& BitVec.ofInt 64 (63:Int)).toNat:Int):Int)=(m:Int) from hm)) ?_
 refine xwm 0 ((N:Int)+(m:Int)) (↑(N+m):Int) ?_
 have f3:=d9.below h4
 refine xlv 5 f3.rp ?_
 have e8:=bln e2 h4
 refine xc 1 (Zm6 p c n x (N+m) t u v Z _ hZ (hP.below e8) hk M0 M0) ?_
 rintro _ W9 ⟨bi,g,ci,rfl,j2,hI⟩
 have hF:LayF t u v x (N+m) (Z.map Prod.fst):=⟨hk,by omega,by omega⟩
 refine xc 24 (args:=#[P0 bi,V0 1000000]) (Zqy hF n (by rw[A6];exact hZ) _ bi _ _ ci _ hI) ?_
 rintro _ m9 ⟨_,rfl,d8,q1,d1,Y,rfl,hQ⟩
 refine xa 4 [V0 0,V0 0,V0 0,V0 0,S0] 48 fun k5 m8 e0=>?_
 have f2:=(f3.below j2).below d8
 have e1:=e0.ne f2
 have f7:=bln (bln e8 j2) d8
 have k0:=e0.ge f7
 refine xa 0 [V0 0,V0 0,V0 0,V0 0,V0 0,V0 0,V0 0,V0 0,V0 0,V0 0,V0 0] 24 fun j3 l7 e3=>?_
 have g8:=bln f7 e0.below
 have k7:=e3.ge g8
 have h3:=e0.blk.below e3.below
 refine xsv 0 h3 [V0 t,V0 u,V0 v,V0 (x:Int),.slice q1 n d1] fun l6 g6 k8=>?_
 have f8:=g6.blkT e3.blk h3 Do
 refine xsv 0 f8 [V0 t,V0 u,V0 v,V0 (x:Int),V0 (↑(N+m):Int),V0 (↑(Xj (F1 (Z.map Prod.fst))):Int),V0 (↑(Xj (F2 (Z.map Prod.fst))):Int),V0 ((Kw x (Z.map Prod.fst) (N+m)).1),V0 ((Kw x (Z.map Prod.fst) (N+m)).2.1),V0 ((Ug x (Z.map Prod.fst) (N+m)).1),V0 ((Ug x (Z.map Prod.fst) (N+m)).2.1)] fun n2 e6 j8=>?_
 have g0:=e6.blkT (g6.blk ((f2.below e0.below).below e3.below) e1) f8 Do
 refine xlv 9 g0.rp ?_
 have c5:=e6.blkT k8 f8 Do
 refine xlv 0 c5.rp ?_
 have i5:=(((hQ.below e0.below).below e3.below).only (Q1 (T:=[48]) g6 h3 Do) Do).only (Q1 (T:=[24]) e6 f8 Do) Do
 have b6:=e6.below (g6.below (bln g8 e3.below) k0) k7
 refine xr 0 (Zrh p q1 c d1 n t u v (x:Int) Z Y _ hZ (hP.below b6) i5) fun m3 a2=>?_
 have a4:=j8.below a2
 refine xb 4 4 a4 ?_
 refine xk 5 (show(((↑(N+m):Int) != (↑(N+m):Int)):Bool)=false from bne_self_eq_false _) ?_
 refine xb 6 7 a4 ?_
 refine xb 1 8 a4 ?_
 refine xb 1 3 a4 ?_
 have g9:=(((((hI.below d8).below e0.below).below e3.below).only (Q1 (T:=[48]) g6 h3 Do) Do).only (Q1 (T:=[24]) e6 f8 Do) Do).below a2
 refine xc 0 (args:=#[P0 bi,V0 ((Kw x (Z.map Prod.fst) (N+m)).1),V0 ((Kw x (Z.map Prod.fst) (N+m)).2.1),V0 (x:Int),V0 1000000]) (Zk4 _ bi _ _ ci _ _ _ _ 1000000 x _ _ g9 (by have:=hF.xs;omega) Do (hF.refs M0) (Xx _ _)) ?_
 rintro _ l0 ⟨_,rfl,a5,q2,d2,rfl,j4⟩
 have h5:=(bln b6 a2).size
 have c0:=a4.below a5
 refine xb 11 9 c0 ?_
 refine xb 1 10 c0 ?_
 have e4:=g9.below a5
 refine xc 1 (args:=#[P0 bi,V0 ((Ug x (Z.map Prod.fst) (N+m)).1),V0 ((Ug x (Z.map Prod.fst) (N+m)).2.1),V0 (↑(N+m):Int),V0 1000000]) (Zkh _ bi _ _ ci _ _ _ _ 1000000 (N+m) _ _ e4 M0 Do hF.cnts (Zr _ _)) ?_
 rintro _ n0 ⟨_,rfl,a3,q3,d3,rfl,k1⟩
 have i1:=(bln (bln b6 a2) a5).size
 have c8:=c0.below a3
 refine xlv 10 c8.rp ?_
 have j0:=e4.below a3
 refine xc 0 (args:=#[P0 bi,.agg #[V0 t,V0 u,V0 v,V0 (x:Int),V0 (↑(N+m):Int),V0 (↑(Xj (F1 (Z.map Prod.fst))):Int),V0 (↑(Xj (F2 (Z.map Prod.fst))):Int),V0 ((Kw x (Z.map Prod.fst) (N+m)).1),V0 ((Kw x (Z.map Prod.fst) (N+m)).2.1),V0 ((Ug x (Z.map Prod.fst) (N+m)).1),V0 ((Ug x (Z.map Prod.fst) (N+m)).2.1)]]) (Zgd hF M0 _ bi _ _ ci _ j0) ?_
 rintro _ l1 ⟨_,rfl,a7,q4,d4,rfl,i8⟩
 have i4:=(bln (bln (bln b6 a2) a5) a3).size
 have g7:=(((g0.below a2).below a5).below a3).below a7
 refine xlv 22 g7.rp ?_
 have d0:=bln (bln (bln (bln b6 a2) a5) a3) a7
 refine xc 0 (Zqn p c n x t u v Z _ hZ (hP.below d0) hk) ?_
 rintro _ l8 ⟨_,rfl,a6,q5,d5,rfl,k6⟩
 have h6:=(bln (bln (bln (bln b6 a2) a5) a3) a7).size
 have f4:=Zb (Zb (Zb (Zf j4 h5) a3) a7) a6
 have e7:=Zf k6 h6
 refine xc 0 (args:=#[.slice q2 x d2,.slice q5 x d5]) (Tz q2 q5 d2 d5 x (Xw x (Z.map Prod.fst)) _ (Xx _ _) (Zg f4) (Zg e7) (by have:=hF.xs;omega)) ?_
 rintro _ m7 ⟨_,rfl,b7,q6,d6,rfl⟩
 have f6:=Zb (Zb (Zb (Zf k1 i1) a7) a6) b7
 have c7:=Zb (Zb (Zf i8 i4) a6) b7
 refine xc 6 (args:=#[.slice q3 (N+m) d3,.slice q4 (N+m) d4]) (Tz q3 q4 d3 d4 (N+m) (Xt (1+Qu x (Z.map Prod.fst)+(2+bmN (N+m))) (N+m)) _ (Zr _ _) (Zg f6) (Zg c7) M0) ?_
 rintro _ n4 ⟨_,rfl,c2,q7,d7,rfl⟩
 have h1:=Zb c7 c2
 have g5:=bln (bln (bln d0 a6) b7) c2
 have h8:=((g7.below a6).below b7).below c2
 have e9:=((((((c5.below a2).below a5).below a3).below a7).below a6).below b7).below c2
 have h0:=(((c8.below a7).below a6).below b7).below c2
 refine zl 20 195 (fun zm k4 V=>∃ (i:Nat),k4=[(2,P0 b1),(5,V0 (N:Int)),(8,V0 (↑(N+m):Int)),(16,.slice q4 (N+m) d4),(18,V0 (↑(min i (1+Qu x (Z.map Prod.fst)+(2+bmN (N+m)))):Int)),(19,V0 (i:Int))]∧zm=(N+m)-((i:Int)).toNat∧B3 w V∧Blk V b1 ([V0 t,V0 u,V0 v,V0 (x:Int),.slice p n c]) 48∧Blk V k5 ([V0 t,V0 u,V0 v,V0 (x:Int),.slice q1 n d1]) 48∧Blk V j3 ([V0 t,V0 u,V0 v,V0 (x:Int),V0 (↑(N+m):Int),V0 (↑(Xj (F1 (Z.map Prod.fst))):Int),V0 (↑(Xj (F2 (Z.map Prod.fst))):Int),V0 ((Kw x (Z.map Prod.fst) (N+m)).1),V0 ((Kw x (Z.map Prod.fst) (N+m)).2.1),V0 ((Ug x (Z.map Prod.fst) (N+m)).1),V0 ((Ug x (Z.map Prod.fst) (N+m)).2.1)]) 24∧V.ownsRow w.heap.size 3 1 (.slice q4 (N+m) d4) (N+m) ((Xt (1+Qu x (Z.map Prod.fst)+(2+bmN (N+m))) (N+m)).map V0)∧i≤(N+m)) ⟨0,rfl,rfl,g5,h8,e9,h0,h1,A3 _⟩ ?_
 rintro _ _ c4 ⟨i,rfl,rfl,b0,a1,a9,a8,i8,hi⟩ m1 f0 k9
 have m4:=Zu4 (1+Qu x (Z.map Prod.fst)+(2+bmN (N+m))) (N+m) i
 have l2:min i (1+Qu x (Z.map Prod.fst)+(2+bmN (N+m)))≤i:=K3 _ _
 refine xid 8 ((i:Int)<(↑(N+m):Int)) (fun i3=>?_) (fun i3=>?_)
 ·refine xd 6 .z ?_
  have a0:=Zb i8 (Za c4)
  refine xx (.e [0,1] 2) _ (N+m) i 1 (IntsN.elem (Zg a0) (Zr _ _) (k:=i) M0).1 ?_
  refine xl (.e [] 3) ((IntsN.elem (Zg a0) (Zr _ _) (k:=i) M0).2) ?_
  refine xgk (.b [4,5]) [145,146] (show(decide (((Xt (1+Qu x (Z.map Prod.fst)+(2+bmN (N+m))) (N+m)).getD i 0)>(1:Int)):Bool)=false from decide_eq_false (by have:=(Zu4 (1+Qu x (Z.map Prod.fst)+(2+bmN (N+m))) (N+m) i).2;omega)) ?_
  refine xg (.b [6,7,8]) [148,149] (decide ((i:Int)>(0:Int))) (fun b9=>?_) (fun b9=>?_)
  ·have b9:=of_decide_eq_true b9
   refine xx (.e [9,10] 11) _ (N+m) i 1 (IntsN.elem (Zg a0) (Zr _ _) (k:=i) M0).1 ?_
   refine xl (.e [] 12) ((IntsN.elem (Zg a0) (Zr _ _) (k:=i) M0).2) ?_
   refine xwm (.e [13,14] 15) ((i:Int)-1) (↑(i-1):Int) ?_
   refine xx (.e [] 16) _ (N+m) (i-1) 1 (IntsN.elem (Zg a0) (Zr _ _) (k:=(i-1)) M0).1 ?_
   refine xl (.e [] 17) ((IntsN.elem (Zg a0) (Zr _ _) (k:=(i-1)) M0).2) ?_
   refine xk (.r [18,19,20] 2) (show(decide (((Xt (1+Qu x (Z.map Prod.fst)+(2+bmN (N+m))) (N+m)).getD i 0)>((Xt (1+Qu x (Z.map Prod.fst)+(2+bmN (N+m))) (N+m)).getD (i-1) 0)):Bool)=false from decide_eq_false (by have:=Zxm (1+Qu x (Z.map Prod.fst)+(2+bmN (N+m))) (N+m) i M0;omega)) ?_
   refine xx 6 _ (N+m) i 1 (IntsN.elem (Zg a0) (Zr _ _) (k:=i) M0).1 ?_
   refine xl 0 ((IntsN.elem (Zg a0) (Zr _ _) (k:=i) M0).2) ?_
   refine xw 0 ((↑(min i (1+Qu x (Z.map Prod.fst)+(2+bmN (N+m)))):Int)+((Xt (1+Qu x (Z.map Prod.fst)+(2+bmN (N+m))) (N+m)).getD i 0)) ?_
   refine xwm 6 ((i:Int)+1) (↑(i+1):Int) ?_
   refine xv1 2 18 (show(V0 ((↑(min i (1+Qu x (Z.map Prod.fst)+(2+bmN (N+m)))):Int)+((Xt (1+Qu x (Z.map Prod.fst)+(2+bmN (N+m))) (N+m)).getD i 0)):Value)=V0 (↑(min (i+1) (1+Qu x (Z.map Prod.fst)+(2+bmN (N+m)))):Int) from congrArg V0 (Zlo _ _ i M0)) ?_
   have f5:=bln b0 (Za c4)
   have c3:=a1.below (Za c4)
   have b5:=a9.below (Za c4)
   have b2:=a8.below (Za c4)
   exact ze 0 (f0 _ _ _ ⟨i+1,rfl,rfl,f5,c3,b5,b2,a0,by omega⟩ M0)
  have b9:=of_decide_eq_false b9
  refine xx (.r [9,10,11,12,13,14,15,16,17,18,19,20] 9) _ (N+m) i 1 (IntsN.elem (Zg a0) (Zr _ _) (k:=i) M0).1 ?_
  refine xl 0 ((IntsN.elem (Zg a0) (Zr _ _) (k:=i) M0).2) ?_
  refine xw 0 ((↑(min i (1+Qu x (Z.map Prod.fst)+(2+bmN (N+m)))):Int)+((Xt (1+Qu x (Z.map Prod.fst)+(2+bmN (N+m))) (N+m)).getD i 0)) ?_
  refine xwm 6 ((i:Int)+1) (↑(i+1):Int) ?_
  refine xv1 2 18 (show(V0 ((↑(min i (1+Qu x (Z.map Prod.fst)+(2+bmN (N+m)))):Int)+((Xt (1+Qu x (Z.map Prod.fst)+(2+bmN (N+m))) (N+m)).getD i 0)):Value)=V0 (↑(min (i+1) (1+Qu x (Z.map Prod.fst)+(2+bmN (N+m)))):Int) from congrArg V0 (Zlo _ _ i M0)) ?_
  have g2:=bln b0 (Za c4)
  have b8:=a1.below (Za c4)
  have b3:=a9.below (Za c4)
  have b4:=a8.below (Za c4)
  exact ze 0 (f0 _ _ _ ⟨i+1,rfl,rfl,g2,b8,b3,b4,a0,by omega⟩ M0)
 refine xlv 7 a1.rp ?_
 refine xwm 1 ((N:Int)-1) (↑(N-1):Int) ?_
 refine xc 0 (Zng p c n x (N-1) t u v Z _ hZ (hP.below b0) hk M0 M0) ?_
 rintro _ m2 ⟨rfl,f9⟩
 have c1:=a1.below f9
 refine xlv 10 c1.rp ?_
 have c9:=bln b0 f9
 refine xr 0 (Zii p c n x t u v Z _ hZ (hP.below c9) hk) fun l9 h9=>?_
 refine xwm 0 ((↑(Mm x (Z.map Prod.fst)):Int)+2) (↑((Mm x (Z.map Prod.fst))+2):Int) ?_
 refine xr 1 (Ca (N+m) _ M0) fun m5 i6=>?_
 refine xwm 0 ((↑((Mm x (Z.map Prod.fst))+2):Int)+(↑(bmN (N+m)):Int)) (↑(((Mm x (Z.map Prod.fst))+2)+(bmN (N+m))):Int) ?_
 refine xgk 2 [182,183] (show(((↑(min i (1+Qu x (Z.map Prod.fst)+(2+bmN (N+m)))):Int)==(↑(((Mm x (Z.map Prod.fst))+2)+(bmN (N+m))):Int)):Bool)=true from beq_iff_eq.2 M0) ?_
 have c6:=bln (bln c9 h9) i6
 refine xr 5 (code_14 _ (hg.below c6)) fun l5 i9=>?_
 refine xr 3 (Zau _) fun n3 i2=>?_
 have e5:=bln (bln c6 i9) i2
 exact xe 5 (.bool true) ⟨rfl,e5⟩
theorem Zj4(p:O0)(c n:Nat)(t u v x m0:Int)(Z:List Zv)(w:World)(hg:Zu1 w)(hZ:Z.length=n)(hP:DevsR w p c Z) :
 C0 4 #[.agg #[V0 t,V0 u,V0 v,V0 x,.slice p n c],V0 m0] w (Ret (.bool true) w):=by
 by_cases h:Qz t u v x (Z.map Prod.fst)=0
 ·have hk:=Cr.1 h
  obtain⟨X,rfl⟩:∃ X:Nat,x=(X:Int):=⟨x.toNat,by have:=hk.hdata;omega⟩
  exact Zgz p c n X t u v m0 Z w hg hZ hP hk
 ·exact Zkf p c n t u v x m0 Z w hZ hP h
end Go.Proofs.YtceeiinepijokaaGreatDoor
namespace Go.Proofs.YtceeiinepijokaaGreatDoor
set_option maxHeartbeats 8000000
set_option maxRecDepth 100000
open Go.ChangeShapes Go.WideShapes Go.ChangeAt Go.RowKit Go.Joins Go.Deep
set_option linter.unusedVariables false
attribute [local irreducible] wpList wpAnyH Code.wp Oper.wp Go
theorem flatm{α:Type}{f:α→List Value}{m:Nat}(hf:∀ x,(f x).length=m):∀ (T:List α) (j:Nat) (x:Value),(T.flatMap f)[j]? = some x→∃ i,∃ h:i<T.length,∃ r,r<m∧j=i*m+r∧(f T[i])[r]? = some x
 | [],j,x,h=>by simp at h
 | y::T,j,x,h=>by
  rw[E5,N5] at h
  by_cases hj:j<m
  ·rw[if_pos (by rw[hf];exact hj)] at h
   exact⟨0,by simp,j,hj,by omega,by simpa using h⟩
  ·rw[if_neg (by rw[hf];exact hj),hf] at h
   obtain⟨i,hi,r,hr,e,hx⟩:=flatm hf T (j-m) x h
   exact⟨i+1,by simpa using hi,r,hr,by rw[G8];omega,by simpa using hx⟩
theorem Zgy{α H:Type}{enc:TypeId×Value→H}{P:Program}{W:World}{t e:TypeId}{v:Value}{y:DataW H×List MemPlace}{fuel m:Nat}{f:α→List Value}{G:α→Prop}(hf:∀ x,(f x).length=m)(hm:0<m)(ht:P.underlying t=some (.slice e))(hC:P.cellsOf e=m)
 (each:∀ n cs z,cs.length=m→DataW.trod enc P W 0 (fun _=>true) true n e cs=some z→∃ q,cs=f q∧G q) (h:DataW.trod enc P W 0 (fun _=>true) true fuel t [v]=some y) :
 ∃ (L:List α) (a:O0) (c:Nat),v=.slice a L.length c∧Sl W (.slice a L.length c) L.length (L.flatMap f)∧∀ q∈L,G q:=by
 rcases open_slice ht h with ⟨a3,_⟩|⟨x,l,c,k,n,D,Pl,a3,_,hl,b1,a9,_,hi⟩
 ·simp at a3
  subst a3
  exact⟨[],none,0,rfl,.inl ⟨none,0,rfl,rfl,rfl⟩,fun q hq=>by cases hq⟩
 ·simp at a3
  subst a3
  obtain⟨b,a4,a5⟩:=x
  have b2:l≤k:=by rw[a9];simp;omega
  by_cases hlen:l=0
  ·subst hlen
   exact⟨[],_,_,rfl,.inl ⟨_,_,rfl,rfl,rfl⟩,fun q hq=>by cases hq⟩
  have a2:a5=none:=by
   obtain⟨cs,hc,a8⟩:=hi 0 M0
   rw[hC] at hc
   obtain⟨_,a7,a6⟩:=World.cells?_some hc
   have a0:=a6 0 M0
   rw[A4 M0] at a0
   simpa [Addr.add] using World.cell?_spot a0
  subst a2
  have eA:∀ o n,(⟨b,o,none⟩:Addr).add n=⟨b,o+n,none⟩:=by intro o n;unfold Addr.add;split<;>simp_all
  have a1:∀ i:Fin l,∃ q:α,(∀ r x,(f q)[r]? = some x→W.cell? ⟨b,a4+(i.val*m+r),none⟩=some x)∧G q:=by
   intro i
   obtain⟨cs,hc,a8⟩:=hi i.val (by have:=i.2;omega)
   rw[hC] at hc
   obtain⟨_,a7,a6⟩:=World.cells?_some hc
   obtain⟨q,hq,hG⟩:=each n cs _ a7 a8
   refine⟨q,fun r x hr=>?_,hG⟩
   rw[←hq] at hr
   have b0:r<m:=by have:=(List.getElem?_eq_some_iff.1 hr).1;omega
   have a0:=a6 r b0
   rw[hr,eA,eA] at a0
   rw[←E9];exact a0
  refine⟨List.ofFn fun i=>Classical.choose (a1 i),some ⟨b,a4,none⟩,c,by rw[List.length_ofFn],?_,fun q hq=>?_⟩
  ·rw[List.length_ofFn]
   refine .inr ⟨b,a4,c,rfl,hl,b1,fun j x hj=>?_⟩
   obtain⟨i,hi,r,hr,e,hx⟩:=flatm hf _ j x hj
   rw[List.getElem_ofFn] at hx
   rw[e]
   exact(Classical.choose_spec (a1 ⟨i,by simpa using hi⟩)).1 r x hx
  ·obtain⟨i,rfl⟩:=List.mem_ofFn.1 hq
   exact(Classical.choose_spec (a1 i)).2
theorem map_each{H:Type}{enc:TypeId×Value→H}{P:Program}{W:World}{e:TypeId}{f0 f1 f2:Field}(he:P.underlying e=some (.struct #[f0,f1,f2]))(hone:oneCellFields P #[f0,f1,f2]=true)(h0:P.underlying f0.type=some (.int .i64))(h1:P.underlying f1.type=some (.int .i64))(h2:P.underlying f2.type=some (.int .i64)) :
 ∀ n cs z,cs.length=3→DataW.trod enc P W 0 (fun _=>true) true n e cs=some z→∃ q:Mp,cs=Cu q∧True:=by
 intro n cs z a3 a4
 obtain⟨y0,y1,y2,n',_,_,t0,t1,t2⟩:=trod_struct3 he a4
 obtain⟨o0,k0⟩:=hone_of hone 0 f0 rfl
 obtain⟨o1,k1⟩:=hone_of hone 1 f1 rfl
 obtain⟨o2,k2⟩:=hone_of hone 2 f2 rfl
 match cs,a3 with
 | [c0,c1,c2],_ =>
  rw[o0,k0] at t0
  rw[o1,k1] at t1
  rw[o2,k2] at t2
  obtain⟨z0,a1,_,_⟩:=DataW.trod_int (cs:=[c0]) h0 (by simpa using t0)
  obtain⟨z1,a2,_,_⟩:=DataW.trod_int (cs:=[c1]) h1 (by simpa using t1)
  obtain⟨z2,a0,_,_⟩:=DataW.trod_int (cs:=[c2]) h2 (by simpa using t2)
  simp only[I8,and_true] at a1 a2 a0
  subst a1 a2 a0
  exact⟨(z0,z1,z2),rfl,trivial⟩
theorem dev_each{H:Type}{enc:TypeId×Value→H}{P:Program}{W:World}{e em:TypeId}{f0 f1 f2 f3 f4 m0 m1 m2:Field}(he:P.underlying e=some (.struct #[f0,f1,f2,f3,f4]))(hone:oneCellFields P #[f0,f1,f2,f3,f4]=true)(h0:P.underlying f0.type=some (.int .i64))(h1:P.underlying f1.type=some (.int .i64))(h2:P.underlying f2.type=some (.int .i64))(h3:P.underlying f3.type=some (.int .i64))(h4:P.underlying f4.type=some (.slice em))
 (hme:P.underlying em=some (.struct #[m0,m1,m2])) (hmone:oneCellFields P #[m0,m1,m2]=true) (hmC:P.cellsOf em=3) (hm0:P.underlying m0.type=some (.int .i64)) (hm1:P.underlying m1.type=some (.int .i64)) (hm2:P.underlying m2.type=some (.int .i64)) :
 ∀ n cs z,cs.length=5→DataW.trod enc P W 0 (fun _=>true) true n e cs=some z→∃ q:Zv,cs=Zh5 q∧Sts Cu W (.slice q.2.1 q.1.2.length q.2.2) q.1.2:=by
 intro n cs z a5 a6
 obtain⟨xs,n',_,rfl,hl,a0,hf⟩:=DataW.trod_struct he a6
 obtain⟨o0,k0⟩:=hone_of hone 0 f0 rfl
 obtain⟨o1,k1⟩:=hone_of hone 1 f1 rfl
 obtain⟨o2,k2⟩:=hone_of hone 2 f2 rfl
 obtain⟨o3,k3⟩:=hone_of hone 3 f3 rfl
 obtain⟨o4,k4⟩:=hone_of hone 4 f4 rfl
 match xs,a0 with
 | [y0,y1,y2,y3,y4],_ =>
  have t0:=hf 0 f0 rfl
  have t1:=hf 1 f1 rfl
  have t2:=hf 2 f2 rfl
  have t3:=hf 3 f3 rfl
  have t4:=hf 4 f4 rfl
  match cs,a5 with
  | [c0,c1,c2,c3,c4],_ =>
   rw[o0,k0] at t0
   rw[o1,k1] at t1
   rw[o2,k2] at t2
   rw[o3,k3] at t3
   rw[o4,k4] at t4
   obtain⟨z0,a2,_,_⟩:=DataW.trod_int (cs:=[c0]) h0 (by simpa using t0)
   obtain⟨z1,a4,_,_⟩:=DataW.trod_int (cs:=[c1]) h1 (by simpa using t1)
   obtain⟨z2,a1,_,_⟩:=DataW.trod_int (cs:=[c2]) h2 (by simpa using t2)
   obtain⟨z3,a3,_,_⟩:=DataW.trod_int (cs:=[c3]) h3 (by simpa using t3)
   obtain⟨M,a,c,rfl,hM,_⟩:=Zgy (v:=c4) (G:=fun _:Mp=>True) Gx Do h4 hmC (map_each hme hmone hm0 hm1 hm2) (by simpa using t4)
   simp only[I8,and_true] at a2 a4 a1 a3
   subst a2 a4 a1 a3
   exact⟨(((z0,z1,z2,z3),M),a,c),rfl,hM⟩
theorem Zxx{H:Type}{enc:TypeId×Value→H}{P:Program}{W:World}{r:Reach}{b0:Nat}{t:TypeId}{fs:Array Field}{v:Value}{d:DataW H}{p:List MemPlace}(hs:P.underlying t=some (.struct fs))(h5:fs.size=5)(hone:oneCellFields P fs=true)(hC:P.cellsOf t=5)(hv:Value.okWide P W r b0 t v)(h:DataW.Trod enc P W 0 (fun _=>true) true t v d p) :
 ∃ c0 c1 c2 c3 c4 n,v=.agg #[c0,c1,c2,c3,c4]∧∀ i f,fs[i]? = some f→∃ y,DataW.trod enc P W 0 (fun _=>true) true n f.type (([c0,c1,c2,c3,c4].drop i).take 1)=some y:=by
 obtain⟨cs,rfl,a4⟩:=okWide_struct hs hv
 obtain⟨a3,hx⟩:=h
 obtain⟨xs,n,_,_,hl,a2,a1⟩:=DataW.trod_struct hs hx
 have a0:cs.toList.length=5:=by simp;omega
 obtain⟨L⟩:=cs
 match L,a0 with
 | [c0,c1,c2,c3,c4],_ =>
  refine⟨c0,c1,c2,c3,c4,n,rfl,fun i f hi=>?_⟩
  obtain⟨o,k⟩:=hone_of hone i f hi
  have hq:=a1 i f hi
  rw[o,k] at hq
  have a5:i<fs.size:=(Array.getElem?_eq_some_iff.1 hi).1
  refine⟨xs[i]' M0,?_⟩
  rw[A4 M0] at hq
  exact hq
theorem Zxy{H:Type}{enc:TypeId×Value→H}{P:Program}{W:World}{r:Reach}{b0:Nat}{t ed em:TypeId}{p0 p1 p2 p3 p4 f0 f1 f2 f3 f4 m0 m1 m2:Field}{v:Value}{d:DataW H}{p:List MemPlace}(hs:P.underlying t=some (.struct #[p0,p1,p2,p3,p4]))(hsone:oneCellFields P #[p0,p1,p2,p3,p4]=true)(hsC:P.cellsOf t=5)
  (g0:P.underlying p0.type=some (.int .i64)) (g1:P.underlying p1.type=some (.int .i64)) (g2:P.underlying p2.type=some (.int .i64)) (g3:P.underlying p3.type=some (.int .i64)) (g4:P.underlying p4.type=some (.slice ed))
  (he:P.underlying ed=some (.struct #[f0,f1,f2,f3,f4])) (hone:oneCellFields P #[f0,f1,f2,f3,f4]=true) (hC:P.cellsOf ed=5) (h0:P.underlying f0.type=some (.int .i64)) (h1:P.underlying f1.type=some (.int .i64)) (h2:P.underlying f2.type=some (.int .i64)) (h3:P.underlying f3.type=some (.int .i64)) (h4:P.underlying f4.type=some (.slice em))
  (hme:P.underlying em=some (.struct #[m0,m1,m2])) (hmone:oneCellFields P #[m0,m1,m2]=true) (hmC:P.cellsOf em=3) (hm0:P.underlying m0.type=some (.int .i64)) (hm1:P.underlying m1.type=some (.int .i64)) (hm2:P.underlying m2.type=some (.int .i64))
  (hv:Value.okWide P W r b0 t v) (h:DataW.Trod enc P W 0 (fun _=>true) true t v d p) :
  ∃ (tx time unit data:Int) (q:O0) (c:Nat) (Z:List Zv),v=.agg #[V0 tx,V0 time,V0 unit,V0 data,.slice q Z.length c]∧DevsR W q c Z:=by
 obtain⟨c0,c1,c2,c3,c4,n,rfl,hf⟩:=Zxx hs rfl hsone hsC hv h
 obtain⟨_,t0⟩:=hf 0 p0 rfl
 obtain⟨_,t1⟩:=hf 1 p1 rfl
 obtain⟨_,t2⟩:=hf 2 p2 rfl
 obtain⟨_,t3⟩:=hf 3 p3 rfl
 obtain⟨_,t4⟩:=hf 4 p4 rfl
 obtain⟨z0,a0,_,_⟩:=DataW.trod_int (cs:=[c0]) g0 (by simpa using t0)
 obtain⟨z1,a3,_,_⟩:=DataW.trod_int (cs:=[c1]) g1 (by simpa using t1)
 obtain⟨z2,a1,_,_⟩:=DataW.trod_int (cs:=[c2]) g2 (by simpa using t2)
 obtain⟨z3,a2,_,_⟩:=DataW.trod_int (cs:=[c3]) g3 (by simpa using t3)
 obtain⟨Z,a,c,rfl,hZ,hG⟩:=Zgy (v:=c4) (f:=Zh5) (G:=fun q:Zv=>Sts Cu W (.slice q.2.1 q.1.2.length q.2.2) q.1.2) Gu Do g4 hC (dev_each he hone h0 h1 h2 h3 h4 hme hmone hmC hm0 hm1 hm2) (by simpa using t4)
 simp only[I8,and_true] at a0 a3 a1 a2
 subst a0 a3 a1 a2
 exact⟨z0,z1,z2,z3,a,c,Z,rfl,hZ,fun i hi=>hG _ (by simp[List.getD,hi])⟩
end Go.Proofs.YtceeiinepijokaaGreatDoor
