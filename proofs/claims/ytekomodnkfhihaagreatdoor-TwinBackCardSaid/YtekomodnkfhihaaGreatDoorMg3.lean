/- value.Root of a block number: its four bytes. -/
import Derived.Lib.ItoaNum
import Derived.Lib.ItoaLen
import Derived.Lib.LaidTab
import Derived.Lib.AppendZerosOnto
import Derived.RangeFuncNested
import Derived.RangeFuncBound
import Derived.RangeFuncCalls
import Derived.RangeFuncLeaves
import Derived.OwnWalkIn
import Derived.OrdersIn
import Derived.Test.YtekomodnkfhihaaGreatDoorRows
import Derived.Shelf.Abstract
import Derived.Shelf.RegionOpen
import Derived.TacticsInMore
import Derived.LoopNIn
import Derived.LoopIn
import Derived.Sort.BigQuietIn
import Derived.Test.YtekomodnkfhihaaGreatDoorMg2
namespace Go.Proofs.YtekomodnkfhihaaGreatDoor
set_option maxHeartbeats 8000000
open Prod (fst)
open List (range replicate getD)
set_option maxRecDepth 100000
set_option linter.unusedVariables false
section
open Go.RowKit Go.Extern.Stop Go.Stop Go.Extern
section
attribute [local irreducible] wpList wpAnyH Code.wp Oper.wp Go
theorem Zsx(w:V1) :
 C0 149 #[] w (Kd (fun w' r=>∃ b,r=.slice (S3 b) 1 1∧w.heap.size≤b∧Blk w' b [V0 4,V0 1,V0 14399] 298) w):=by
 refine zin 3 Tryz.func149 ?_
 refine xbs 8 1 [V0 4,V0 1,V0 14399] 298 fun b1 W1 n1=>?_
 have g1:=n1.ge (B4 w)
 exact xe 4 (.slice (S3 b1) 1 1) ⟨_,rfl,n1.i,_,rfl,g1,n1.blk⟩
theorem Zsh(gl gn:Nat)(n:Int)(h1:1≤n)(h2:n≤14399)(w:V1)(hl:Blk w gl [V0 4,V0 1,V0 14399] 298)(hn:Blk w gn [V0 n] 3) :
 C0 146 #[.slice (S3 gl) 1 1,.slice (S3 gn) 1 1] w (Ret (.string ⟨(leB n 4).toArray⟩) w):=by
 have a9:=h2
 clear h2
 refine zin 51 Tryz.func146 ?_
 refine xu 19 2 ?_
 refine xlv 15 hl.rp ?_
 refine xa 0 [V0 0,V0 0,V0 0] 298 fun b1 W1 n1=>?_
 refine xsv 1 n1.blk [V0 4,V0 1,V0 14399] fun W2 u2 k2=>?_
 have g1:=n1.ge (B4 w)
 refine xd 4 .z ?_
 have a1:=(u2.A (hn.i n1.i) n1.blk Do).i (Za W2)
 refine xb (.e [0,1,2] 3) 0 a1 ?_
 have a0:=k2.i (Za W2)
 refine xb (.e [4] 5) 1 a0 ?_
 refine xgk (.b [6,7]) [23,24] (show(decide (n<(1:Int)):Bool)=false from V9 M0) ?_
 refine xb (.e [8,9,10] 11) 0 a1 ?_
 refine xb (.e [12] 13) 2 a0 ?_
 refine xk (.r [14,15] 2) (show(decide (n>(14399:Int)):Bool)=false from V9 M0) ?_
 refine xd 3 .z ?_
 have a2:=a0.i (Za W2.drew)
 refine xb (.e [0] 1) 0 a2 ?_
 have a5:=a1.i (Za W2.drew)
 refine xb (.e [2,3,4] 5) 0 a5 ?_
 refine xbs (.o [6] 7) 1 [V0 4,V0 n] 178 fun b4 W4 n4=>?_
 refine yc (.o [] 8) (args:=#[.slice (S3 b4) 1 1]) .z (Td b4 n M0 M0 _ n4.blk) ?_
 rintro _ W5 ⟨_,rfl,a6,p2,c2,rfl,h2⟩
 have a7:=(bln (bln (bln (u2.i n1.i g1) (Za W2)) (Za W2.drew)) n4.i).size
 refine⟨a6,?_⟩
 have o6:=A8 W5 w.heap.size 5 1
 have a4:=Zg h2 a7
 have hB:=bln (bln (bln (bln (u2.i n1.i g1) (Za W2)) (Za W2.drew)) n4.i) a6
 refine xbi (.r [9,10,11,12,13] 5) fun _ _ _ _ zJ zQ zo zx zy zK=>Xd (m:=4) (news:=(leB n 4).map bv) (.int .u8 0) 1 1 (4) ((leB n 4).map bv) zo Tryz.underlying50 K0 rfl Do zx o6 zy (Zf a4) (by simp[Zl]) (Vq _) Y2 M0 hB.size Y6 Y5 fun b0 b3 W7 o7 b2 a8=>?_
 refine zK _ _ ?_
 refine xcv0 24 (fun _ _ _ zo zx=>Mq zo zx (Vr (Zf o7) (Zl _ _)) (Zl _ _) Tryz.underlying50 Tryz.underlying5 Tryz.underlying9) ?_
 have a3:=hB.trans a8
 exact xe 4 (.string ⟨(leB n 4).toArray⟩) ⟨rfl,a3⟩
theorem Zcz(n:Int)(h1:1≤n)(h2:n≤14399)(w:V1) :
 C0 90 #[V0 n] w (Ret (.string ⟨(leB n 4).toArray⟩) w):=by
 refine zin 7 Tryz.func90 ?_
 refine xc 7 (Zsx _) ?_
 rintro _ W1 ⟨_,rfl,a1,gl,rfl,gg,kl⟩
 refine xbs 1 1 [V0 n] 3 fun b2 W2 n2=>?_
 have a0:=kl.i n2.i
 refine xr 0 (Zsh gl b2 n h1 h2 _ a0 n2.blk) fun W3 a2=>?_
 have hB:=bln (bln a1 n2.i) a2
 exact xe 4 (.string ⟨(leB n 4).toArray⟩) ⟨rfl,hB⟩
theorem Sts.cut{α:Type}{f:α→V6 V2}{m:Nat}{w:V1}{b:O0}{c:Nat}{l:V6 α}(hm:∀ x,(f x).length=m)(h:Sts f w (.slice b l.length c) l)(k:Nat)(hk:k≤l.length):Sts f w (.slice (Li b k c m) (l.drop k).length (c-k)) (l.drop k):=by
 have a2:(l.drop k).length=l.length-k:=Y5;have a3:=Sl.cap h;by_cases hkn:k=l.length
 ·refine .inl ⟨Li b k c m,c-k,by rw[show(l.drop k).length=0 by omega],M0,?_⟩;rw[E3 M0];rfl
 rcases h with ⟨a',c',h1,h2,h3⟩|⟨g,a1,a4,h1,h2,h3,h4⟩
 ·omega
 ·simp only[C2] at h1;obtain⟨rfl,_,rfl⟩:=h1;refine .inr ⟨g,a1+k*m,c-k,?_,M0,M0,fun j x hj=>?_⟩
  ·rw[Li,V7 M0];simp[Addr.add]
  ·have a0:(l.drop k).flatMap f=(l.flatMap f).drop (k*m):=by
    conv=>rhs;rw[←G9 k l,C7]
    rw[M8 (by rw[Zbi hm,D8,I4 hk])]
   rw[a0,G0] at hj;have:=h4 _ _ hj;rwa [←F2] at this
theorem Al.q{B ba b g n c:Nat}{pa:O0}{ca f N k:Nat}{l:Bl}{w W:V1}{T:V6 V3}(h:Al B ba b g n c pa ca f N k l w)(hO:Zd T w W)(hT:(T.contains 169||T.contains 108||T.contains 5||T.contains 3)=false):Al B ba b g n c pa ca f N k l W:=by
 simp only[K5] at hT;exact⟨h.U.q hO hT.1.1.1,h.a7.q hO hT.1.1.2,Zi h.data hO hT.1.2,Zi h.a1 hO hT.2⟩
def Xb(l:V6 Ent)(m i:Nat):V6 Ent:=(l.drop (i*m)).take m
def Vy(c:V6 Ent):V6 Int:=c.map (·.1)
def Hh(c:V6 Ent):V6 Bl:=c.map (·.2.1)
def Zs9(t:Int)(dx:Bool)(m v:Nat)(c:V6 Ent):Bl:=Pk m v (Gb t dx c.length m v) (Vy c) (Hh c) c.length
def Pp(t:Int)(dx:Bool)(m v:Nat)(l:V6 Ent)(q:Nat)(bs:Bl):Nat→Bl
 | 0=>bs
 | i+1=>Qj (Pp t dx m v l q bs i) ((q+i)*256) (Yf 2 ((q+i:Nat):Int) (Zs9 t dx m v (Xb l m i)))
def upX (l:V6 Ent)(m q i:Nat):Ent:=(((Xb l m i).getD 0 Zn).1,leB ((q+i:Nat):Int) 4,((q+i:Nat):Int))
def upE (l:V6 Ent)(m q j:Nat):V6 Ent:=(range j).map (upX l m q)
theorem upE_succ(l:V6 Ent)(m q j:Nat):upE l m q (j+1)=upE l m q j++[upX l m q j]:=by simp[upE,B8]
theorem Xk(l:V6 Ent)(m q j:Nat):(upE l m q j).length=j:=by simp[upE]
theorem Kt{l:V6 Ent}{m q j i:Nat}(h:i<j):(upE l m q j).getD i Zn=upX l m q i:=by simp[upE,getD,C1 h]
theorem Hu(l:V6 Ent)(m i:Nat):(Xb l m i).length=Yq l.length m i:=by simp[Xb,Yq]
theorem Hq{l:V6 Ent}{m i j:Nat}(h:j<Yq l.length m i):(Xb l m i).getD j Zn=l.getD (i*m+j) Zn:=by
 unfold Yq at h;simp[Xb,getD,I3 (show j<m by omega),G0]
theorem Oz{c:V6 Ent}{j:Nat}(h:j<c.length):(Vy c).getD j 0=(c.getD j Zn).1:=by simp[Vy,getD,h]
theorem Za7{c:V6 Ent}{j:Nat}(h:j<c.length):(Hh c).getD j []=(c.getD j Zn).2.1:=by simp[Hh,getD,h]
theorem Cv(c:V6 Ent):(Vy c).length=c.length:=by simp[Vy]
theorem Ci(c:V6 Ent):(Hh c).length=c.length:=by simp[Hh]
theorem Zma{n m i:Nat}(hm:1≤m)(hn:1≤n)(h:i<ovN n m):i*m<n:=by
 unfold ovN at h;rcases H8 i with rfl|hi
 ·omega
 have h2:i<(n+m-1)/m:=M0;have h3:=(Nat.lt_div_iff_mul_lt M0).1 h2;omega
theorem Mu{t:Int}{dx:Bool}{m v:Nat}{l:V6 Ent}(E:EntsOk v l)(h1:1≤t)(h2:t≤5)(hm:Jj t dx=m)(hv:Jl t dx=v)(hl:dx=false→1≤l.length){i:Nat}(hi:i<ovN l.length m):NodeOk t dx (Xb l m i).length m v (Vy (Xb l m i)) (Hh (Xb l m i)):=by
 have a5:=(Qc t dx).1;rw[hm] at a5;have a0:=Hu l m i;have a6:=Zg3 a5 hi;have a7:(Xb l m i).length≤l.length-i*m:=by rw[a0];unfold Yq;omega
 have a4:∀ j,j<(Xb l m i).length→i*m+j<l.length∧(Vy (Xb l m i)).getD j 0=(l.getD (i*m+j) Zn).1∧(Hh (Xb l m i)).getD j []=(l.getD (i*m+j) Zn).2.1:=fun j hj=>by
  refine⟨M0,?_,?_⟩
  ·rw[Oz hj,Hq M0]
  ·rw[Za7 hj,Hq M0]
 refine⟨h1,h2,hm,hv,Cv _,Ci _,by rw[a0];unfold Yq;omega,fun h=>?_,fun j hj=>?_,fun j hj=>?_,fun j hj=>?_⟩
 ·have:=Zma a5 (hl h) hi;rw[a0];unfold Yq;omega
 ·obtain⟨a1,a2,_⟩:=a4 j hj;rw[a2];exact E.hk _ a1
 ·obtain⟨a1,a2,_⟩:=a4 j M0;obtain⟨b1,b2,_⟩:=a4 (j+1) hj;rw[a2,b2];exact E.hs _ M0
 ·obtain⟨a1,_,a3⟩:=a4 j hj;rw[a3];exact E.hw _ a1
theorem Am{t:Int}{dx:Bool}{m v:Nat}{c:V6 Ent}(N:NodeOk t dx c.length m v (Vy c) (Hh c)):(Zs9 t dx m v c).length=244:=by
 have hf:=fitN t dx;rw[N.hm,N.hv] at hf;exact Zas (Hn _ _ _ _ _) hf N.hn (fun j hj=>N.hw j hj)
theorem Zn3{w:V1}{b:O0}{n m c:Nat}(h:Sl w (.slice b (ovN n m) c) (ovN n m) ((sizL n m).map nv)){k:Nat}(hk:k<ovN n m):b.isSome=true∧w.cell? (Zx b (k*1))=some (V0 ((Yq n m k:Nat):Int)):=by
 have:=Zz h (sizL_len n m) hk;rwa [show(sizL n m).getD k 0=Yq n m k from by simp[sizL,getD,C1 hk]] at this
theorem Zxe{l:V6 Ent}{j:Nat}(h:j<l.length):((Vy l).take (j+1)).map V0=((Vy l).take j).map V0++[V0 (l.getD j Zn).1]:=by
 rw[B5 (by rw[Cv];exact h)];simp[Vy,getD,h]
theorem Zx3{l:V6 Ent}{j:Nat}(h:j<l.length):((Hh l).take (j+1)).map sv=((Hh l).take j).map sv++[.string ⟨(l.getD j Zn).2.1.toArray⟩]:=by
 rw[B5 (by rw[Ci];exact h)];simp[Hh,getD,h,sv]
theorem Zrf{l:V6 Ent}{m i s:Nat}(hs:Yq l.length m i=s):(Vy (l.drop (i*m))).take s=Vy (Xb l m i):=by
 subst hs;unfold Vy Xb Yq;rw[←I8];congr 1;rw[P6];simp
theorem Zse{l:V6 Ent}{m i s:Nat}(hs:Yq l.length m i=s):(Hh (l.drop (i*m))).take s=Hh (Xb l m i):=by
 subst hs;unfold Hh Xb Yq;rw[←I8];congr 1;rw[P6];simp
theorem EntsOk.mono{v:Nat}{l:V6 Ent}(E:EntsOk v l):∀ {a b:Nat},a<b→b<l.length→(l.getD a Zn).1<(l.getD b Zn).1:=by
 intro a b h hb;induction b with
 | zero=>omega
 | succ b ih =>
  have h1:=E.hs b M0;rcases F0 a b with h2|h2
  ·have:=ih h2 M0;omega
  ·obtain rfl:a=b:=M0;exact h1
theorem Zje{v:Nat}{l:V6 Ent}{m:Nat}(hm:1≤m)(hl:1≤l.length){i q:Nat}(hi:i<ovN l.length m):(upX l m q i).1=(l.getD (i*m) Zn).1∧i*m<l.length:=by
 have h:=Zma hm hl hi;refine⟨?_,h⟩;unfold upX;rw[Hq (by unfold Yq;omega)];rfl
theorem Mm{v:Nat}{l:V6 Ent}(E:EntsOk v l){m q:Nat}(hm:1≤m):EntsOk 4 (upE l m q (ovN l.length m)):=by
 rcases H8 l.length with h0|hl
 ·have h1:ovN l.length m=1:=by
   rw[h0];unfold ovN;have:(0+m-1)/m=0:=Nat.div_eq_of_lt M0;omega
  have a0:l=[]:=H1 h0;subst a0;constructor
  ·intro i hi;rw[Xk,h1] at hi;rw[Kt M0];simp[upX,Xb,Zn]
  ·intro j hj;rw[Xk,h1] at hj;omega
  ·intro i hi;rw[Xk,h1] at hi;rw[Kt M0];simp[upX,Zl]
 constructor
 ·intro i hi;rw[Xk] at hi;obtain⟨h1,h2⟩:=Zje (v:=v) (q:=q) hm hl hi;rw[Kt hi,h1];exact E.hk _ h2
 ·intro j hj;rw[Xk] at hj;obtain⟨h1,h2⟩:=Zje (v:=v) (q:=q) hm hl hj;obtain⟨h3,h4⟩:=Zje (v:=v) (q:=q) hm hl (show j<ovN l.length m by omega);rw[Kt hj,Kt M0,h1,h3];refine E.mono ?_ h2;rw[G8];omega
 ·intro i hi;rw[Xk] at hi;rw[Kt hi];simp[upX,Zl]
def Qs(t:Int)(u:V6 Ent)(q:Nat)(bs:Bl):Int×Bl :=
 if h:u.length≤1 then((u.getD 0 Zn).2.2,bs)
 else Qs t (upE u 18 q (ovN u.length 18)) (q+ovN u.length 18) (Pp t false 18 4 u q bs (ovN u.length 18))
termination_by u.length
decreasing_by rw[Xk];have:=Znf (x:=u.length) M0;omega
theorem Kb{t:Int}{u:V6 Ent}{q:Nat}{bs:Bl}(h:u.length≤1):Qs t u q bs=((u.getD 0 Zn).2.2,bs):=by rw[Qs];simp[h]
theorem Qn{t:Int}{u:V6 Ent}{q:Nat}{bs:Bl}(h:¬ u.length≤1):Qs t u q bs=Qs t (upE u 18 q (ovN u.length 18)) (q+ovN u.length 18) (Pp t false 18 4 u q bs (ovN u.length 18)):=by rw[Qs];simp[h]
def Xf(t:Int)(l:V6 Ent)(q:Nat)(bs:Bl):Int×Bl :=
 Qs t (upE l (Jj t true) q (ovN l.length (Jj t true))) (q+ovN l.length (Jj t true)) (Pp t true (Jj t true) (Jl t true) l q bs (ovN l.length (Jj t true)))
theorem Oi{t:Int}{u:V6 Ent}{q:Nat}{bs:Bl}(h1:1≤u.length)(hu:(u.getD (u.length-1) Zn).2.2=((q-1:Nat):Int))(hq:1≤q):(Qs t u q bs).1=((q-1+((Vz u.length).sum-u.length):Nat):Int):=by
 induction hx:u.length using Nat.strongRecOn generalizing u q bs with
 | _ x ih =>
  subst hx;by_cases h:u.length≤1
  ·rw[Kb h,Ja h];rw[show u.length-1=0 by omega] at hu;show(u.getD 0 Zn).2.2=_;rw[hu];simp
  ·have a1:=Znf (x:=u.length) M0;have hp:=Yu u.length 18;rw[Qn h,ih (ovN u.length 18) M0 (u:=upE u 18 q (ovN u.length 18)) (q:=q+ovN u.length 18) (by rw[Xk];exact hp) ?_ M0 (Xk _ _ _ _),Qv h]
   ·have a0:=Vu (ovN u.length 18);simp only[G3];congr 1;omega
   ·rw[Xk,Kt M0];simp only[upX];congr 1;omega
def LaidQ(B ba b g n c:Nat)(pa:O0)(ca f N k:Nat)(l:Bl)(kind:Int)(li:Bl)(q:Nat)(w:V1)(e:V5)(w':V1):Prop :=
 e=.returned (.tuple #[V0 (q:Int),.nilIface])∧Below B w w'∧Zd [169,5] w w'∧Fr [ba,g] w w'∧Al B ba b g n c pa ca f N (k+1) (Qj l (q*256) (Yf kind (q:Int) li)) w'
theorem Cz(B ba b g n c:Nat)(p:O0)(ca f N k:Nat)(l:Bl)(kind:Int)(a:O0)(ci:Nat)(li:Bl)(q n':Nat)(w:V1)(hq:f+k=q)(hn':li.length=n')(hC:AlC B ba n c ca f N)(hA:Al B ba b g n c p ca f N k l w)(hkN:k<N)(h1:1≤kind)(h2:kind≤4)(hin:∀ W,Below B w W→Zd [169] w W→Bys W (.slice a n' ci) li)(hl:n'≤244)(hBw:B≤w.heap.size) :
 C0 161 #[P0 ba,V0 kind,.slice a n' ci] w (LaidQ B ba b g n c p ca f N k l kind li q w):=by
 subst hq hn';exact Zvc B ba b g n c p ca f N k l kind a ci li w hC hA hkN h1 h2 hin hl hBw
theorem up_row{l:V6 Ent}{m q i:Nat}{key:Int}(hk:key=((Xb l m i).getD 0 Zn).1):(upE l m q i).flatMap Ki++[V0 key,.string ⟨(leB ((q+i:Nat):Int) 4).toArray⟩,V0 ((q+i:Nat):Int)]=(upE l m q (i+1)).flatMap Ki:=by
 subst hk;rw[upE_succ];simp[Ki,upX]
theorem Zx0{l:V6 Ent}{m i j:Nat}(hs:Yq l.length m i=j)(hj:0<j):((Vy (Xb l m i))).getD 0 0=((Xb l m i).getD 0 Zn).1:=Oz (by rw[Hu];omega)
theorem Zl4{l:V6 Ent}{m i j:Nat}(hs:Yq l.length m i=j)(hj:j=0):(0:Int)=((Xb l m i).getD 0 Zn).1:=by
 have:Xb l m i=[]:=H1 (by rw[Hu];omega);rw[this];rfl
def bmN (n:Nat):Nat:=(n+959)/960
theorem bmN_lt{n i:Nat}(h:i<bmN n):i*960<n:=by unfold bmN at h;omega
theorem bmN_done{n i:Nat}(h:i=bmN n):n≤i*960:=by subst h;unfold bmN;omega
def mn3 (n:Int):Int:=if n<3 then n else 3
def Zj(l:V6 Int):V6 Int:=l.map mn3
theorem Wo(l:V6 Int):(Zj l).length=l.length:=by simp[Zj]
theorem Zp3{l:V6 Int}{k:Nat}(h:k<l.length):Zj (l.take (k+1))=Zj (l.take k)++[mn3 (l.getD k 0)]:=by
 unfold Zj;rw[B5 h,A6,show l.getD k 0=l[k] from by simp[getD,h]];rfl
def ovX (l:V6 Int)(k:Nat):V6 Ent:=if 3≤l.getD k 0 then [((k:Int),leB (l.getD k 0) 4,0)] else []
def Zp(l:V6 Int)(k:Nat):V6 Ent:=(range k).flatMap (ovX l)
theorem Dk(l:V6 Int)(k:Nat):Zp l (k+1)=Zp l k++ovX l k:=by simp[Zp,B8]
theorem Mf{l:V6 Int}{k:Nat}(h:3≤l.getD k 0):Zp l (k+1)=Zp l k++[((k:Int),leB (l.getD k 0) 4,0)]:=by rw[Dk];unfold ovX;rw[V8 h]
theorem Wc{l:V6 Int}{k:Nat}(h:¬ 3≤l.getD k 0):Zp l (k+1)=Zp l k:=by rw[Dk];unfold ovX;rw[V7 h];simp
theorem Znu(l:V6 Int)(k:Nat):(Zp l k).Pairwise (fun a b=>a.1<b.1)∧∀ x∈Zp l k,0≤x.1∧x.1<k∧x.2.1.length=4:=by
 induction k with
 | zero=>simp[Zp]
 | succ k ih =>
  by_cases h3:3≤l.getD k 0
  ·rw[Mf h3];refine⟨List.pairwise_append.2 ⟨ih.1,Y5,fun a ha b hb=>?_⟩,fun x hx=>?_⟩
   ·simp only[D0] at hb;subst hb;exact(ih.2 a ha).2.1
   ·rcases List.mem_append.1 hx with h|h
    ·have:=ih.2 x h;exact⟨this.1,by have:=this.2.1;omega,this.2.2⟩
    ·simp only[D0] at h;subst h;exact⟨K3 _,by show(k:Int)<((k+1:Nat):Int);omega,Zl _ _⟩
  ·rw[Wc h3];exact⟨ih.1,fun x hx=>by have:=ih.2 x hx;exact⟨this.1,by have:=this.2.1;omega,this.2.2⟩⟩
theorem By(l:V6 Int)(k:Nat):(Zp l k).length≤k:=by
 induction k with
 | zero=>simp[Zp]
 | succ k ih =>
  by_cases h3:3≤l.getD k 0
  ·rw[Mf h3];simp;exact ih
  ·rw[Wc h3];omega
theorem Hw{l:V6 Ent}{i:Nat}(h:i<l.length):l.getD i Zn=l[i]:=by simp[getD,h]
theorem Vl(l:V6 Int)(k:Nat)(hk:k≤65536):EntsOk 4 (Zp l k):=by
 have h:=Znu l k;refine⟨fun i hi=>?_,fun j hj=>?_,fun i hi=>?_⟩
 ·rw[Hw hi];have:=h.2 _ (F3 hi);omega
 ·rw[Hw hj,Hw M0];exact List.pairwise_iff_getElem.1 h.1 j (j+1) M0 hj M0
 ·rw[Hw hi];exact(h.2 _ (F3 hi)).2.2
def Ph(n:Int):Prop:=0≤n∧n≤2147483647
instance (n:Int):Decidable (Ph n):=by unfold Ph;infer_instance
def Jn(l:V6 Int):Int:=if 65536<l.length then 1 else if ∀ k,k<l.length→Ph (l.getD k 0) then 0 else 2
theorem Ws{l:V6 Int}(h:Jn l=0):l.length≤65536∧∀ k,k<l.length→Ph (l.getD k 0):=by
 unfold Jn at h;split at h
 ·simp at h
 ·split at h
  ·exact⟨M0,Y3⟩
  ·simp at h
def Yv(l:V6 Int)(i:Nat):V6 Int:=(l.drop (i*960)).take 960
def Xe(l:V6 Int)(n:Nat):V6 (V6 Int):=(range n).map (Yv l)
theorem Wu(l:V6 Int)(n:Nat):(Xe l n).length=n:=by simp[Xe]
theorem Ko{l:V6 Int}{n i:Nat}(h:i<n):(Xe l n).getD i []=Yv l i:=by simp[Xe,getD,h]
theorem Zhe(l:V6 Int)(n:Nat):Xe l (n+1)=Xe l n++[Yv l n]:=by simp[Xe,B8]
theorem Mg(l:V6 Int)(i:Nat):(Yv l i).length=min 960 (l.length-i*960):=by simp[Yv]
def Uo(l:V6 Int):Prop:=∀ n∈l,0≤n∧n≤3
theorem Zmu{l:V6 Int}(h:∀ k,k<l.length→Ph (l.getD k 0)):Uo (Zj l):=by
 intro n hn;obtain⟨m,hm,rfl⟩:=List.mem_map.1 hn;obtain⟨k,hk,rfl⟩:=O6 hm;have:=h k hk;rw[show l.getD k 0=l[k] from by simp[getD,hk]] at this;unfold Ph at this;unfold mn3;split<;>omega
theorem Za0{l:V6 Int}(h:Uo l)(i:Nat):Uo (Yv l i):=fun n hn=>h n (List.mem_of_mem_drop (M1 hn))
def atI (l:V6 Int)(i j:Nat):Int:=if j<i then l.getD j 0 else 0
def g4 (l:V6 Int)(i k:Nat):Int:=atI l i (4*k)+4*atI l i (4*k+1)+16*atI l i (4*k+2)+64*atI l i (4*k+3)
def g4B (l:V6 Int)(i k:Nat):UInt8:=UInt8.ofNat (g4 l i k).toNat
def Ei(l:V6 Int)(i:Nat):Bl:=leB l.length 4++(range 240).map (g4B l i)
theorem Vj(l:V6 Int)(i:Nat):(Ei l i).length=244:=by simp[Ei,Zl]
def Jr(l:V6 Int):Bl:=Ei l l.length
def Zpr(l:V6 Int)(k:Nat):Nat:=((l.take k).filter fun n=>n==0).length
def Yn(l:V6 Int):Nat:=Zpr l l.length
def Xi(l:V6 Int):Nat:=l.findIdx fun n=>n==0
theorem Zrr{l:V6 Int}{k:Nat}(h:k<l.length):Zpr l (k+1)=Zpr l k+(if l.getD k 0=0 then 1 else 0):=by
 unfold Zpr;rw[B5 h,List.filter_append,A1];simp only[getD,A9 h,K2];by_cases e:l[k]=0<;>simp[e]
theorem Mt(l:V6 Int)(k:Nat):Zpr l k≤k:=N0 (O1 _ _) (by simp;omega)
theorem Nv(l:V6 Int):Xi l≤l.length:=List.findIdx_le_length
theorem Ztt{l:V6 Int}{i:Nat}(h:i<l.length)(h0:l.getD i 0=0)(hp:∀ j,j<i→l.getD j 0≠0):Xi l=i:=by
 unfold Xi;refine(List.findIdx_eq h).2 ⟨?_,fun j hj=>?_⟩
 ·rw[getD,A9 h] at h0;simpa using h0
 ·have:=hp j hj;rw[getD,A9 M0] at this;simpa using this
theorem Zli{l:V6 Int}(hp:∀ j,j<l.length→l.getD j 0≠0):Xi l=l.length:=by
 unfold Xi;rw[List.findIdx_eq_length];intro n hn;obtain⟨k,hk,rfl⟩:=O6 hn;have:=hp k hk;rw[getD,A9 hk] at this;simpa using this
def slotB(n f g:Int):Bl:=leB n 8++leB f 4++leB g 4
theorem Zzl(n f g:Int):(slotB n f g).length=16:=by simp[slotB,Zl]
def Xt(L:V6 (V6 Int))(q:Nat)(bs:Bl):Nat→Bl
 | 0=>bs
 | i+1=>Qj (Xt L q bs i) ((q+i)*256) (Yf 3 ((q+i:Nat):Int) (Jr (L.getD i [])))
def Zfl(L:V6 (V6 Int))(q i:Nat):Ent:=((i:Int),slotB ((q+i:Nat):Int) (Yn (L.getD i []):Int) (Xi (L.getD i []):Int),0)
def Xl(L:V6 (V6 Int))(q j:Nat):V6 Ent:=(range j).map (Zfl L q)
theorem Xg(L:V6 (V6 Int))(q j:Nat):(Xl L q j).length=j:=by simp[Xl]
theorem Zko(L:V6 (V6 Int))(q j:Nat):Xl L q (j+1)=Xl L q j++[Zfl L q j]:=by simp[Xl,B8]
theorem Gj{L:V6 (V6 Int)}{q j i:Nat}(h:i<j):(Xl L q j).getD i Zn=Zfl L q i:=by simp[Xl,getD,h]
theorem Gi(L:V6 (V6 Int))(q j:Nat)(hj:j≤65536):EntsOk 16 (Xl L q j):=by
 refine⟨fun i hi=>?_,fun i hi=>?_,fun i hi=>?_⟩<;>rw[Xg] at hi
 ·rw[Gj hi];simp only[Zfl];omega
 ·rw[Gj hi,Gj M0];simp only[Zfl];omega
 ·rw[Gj hi];exact Zzl _ _ _
def Vp(l:V6 Int)(q:Nat)(bs:Bl):Int×Int×Bl :=
 let L:=Xe (Zj l) (bmN l.length)
 let x:=Xf 4 (Xl L q (bmN l.length)) (q+bmN l.length) (Xt L q bs (bmN l.length))
 let y:=Xf 5 (Zp l l.length) (q+bmN l.length+Zy 4 (bmN l.length)) x.2
 (x.1,y.1,y.2)
def Qk(l:V6 Int):Nat:=bmN l.length+Zy 4 (bmN l.length)+Zy 5 (Zp l l.length).length
theorem Zow{l:V6 Int}(h:Uo l)(i j:Nat):0≤atI l i j∧atI l i j≤3:=by
 unfold atI;split
 ·by_cases hj:j<l.length
  ·rw[show l.getD j 0=l[j] from by simp[getD,hj]];exact h _ (F3 hj)
  ·rw[show l.getD j 0=0 from by simp[getD,Nat.le_of_not_lt hj]];omega
 ·omega
theorem Gn{l:V6 Int}(h:Uo l)(j:Nat):0≤l.getD j 0∧l.getD j 0≤3:=by
 have:=Zow h (j+1) j;unfold atI at this;rwa [V8 M0] at this
theorem Uv{l:V6 Int}{i j:Nat}(h:j≠i):atI l (i+1) j=atI l i j:=by
 unfold atI;by_cases q:j<i
 ·rw[V8 q,V8 M0]
 ·rw[V7 q,V7 M0]
theorem Znr(l:V6 Int)(i:Nat):atI l (i+1) i=l.getD i 0:=by unfold atI;rw[V8 M0]
theorem Ea{l:V6 Int}{i j:Nat}(h:i≤j):atI l i j=0:=by unfold atI;rw[V7 M0]
theorem g4_ne{l:V6 Int}{i k:Nat}(h:k≠i/4):g4 l (i+1) k=g4 l i k:=by
 unfold g4;rw[Uv M0,Uv M0,Uv M0,Uv M0]
theorem g4_at{l:V6 Int}(h:Uo l){i q r:Nat}(hi:i=4*q+r)(hr:r<4):g4 l (i+1) q=g4 l i q+l.getD i 0*4 ^ r∧0≤g4 l i q∧g4 l i q<4 ^ r:=by
 have b0:=Zow h i (4*q);have b1:=Zow h i (4*q+1);have b2:=Zow h i (4*q+2);unfold g4;obtain rfl|rfl|rfl|rfl:r=0∨r=1∨r=2∨r=3:=M0
 ·rw[show 4*q=i from by omega,Znr,Uv M0,Uv M0,Uv M0,Ea (At i),Ea (M5 i 1),Ea (M5 i 2),Ea (M5 i 3)];omega
 ·have e2:atI l i (4*q+2)=0:=Ea M0;have e3:atI l i (4*q+3)=0:=Ea M0;have e1:atI l i (4*q+1)=0:=Ea M0;rw[Uv (j:=4*q) M0,Uv (j:=4*q+2) M0,Uv (j:=4*q+3) M0,e1,e2,e3,←hi,Znr];omega
 ·have e2:atI l i (4*q+2)=0:=Ea M0;have e3:atI l i (4*q+3)=0:=Ea M0;rw[Uv (j:=4*q) M0,Uv (j:=4*q+1) M0,Uv (j:=4*q+3) M0,e2,e3,←hi,Znr];omega
 ·have e3:atI l i (4*q+3)=0:=Ea M0;rw[Uv (j:=4*q) M0,Uv (j:=4*q+1) M0,Uv (j:=4*q+2) M0,e3,←hi,Znr];omega
theorem g4B_at{l:V6 Int}(h:Uo l){i:Nat}:((g4B l (i+1) (i/4)).toNat:Int)=((g4B l i (i/4)).toNat:Int)+l.getD i 0*4 ^ (i%4)∧(g4B l i (i/4)).toNat<4 ^ (i%4):=by
 obtain⟨h1,h2,h3⟩:=g4_at h (show i=4*(i/4)+i%4 by omega) M0;have hn:=Gn h i;have hp:(4:Int) ^ (i%4)≤64:=by
  have:i%4<4:=M0;obtain e|e|e|e:i%4=0∨i%4=1∨i%4=2∨i%4=3:=M0
  all_goals rw[e];decide
 have a2:(0:Int)<4 ^ (i%4):=Int.pow_pos Do;generalize hP:(4:Int) ^ (i%4)=Pq at *;have hq:l.getD i 0*Pq≤3*Pq:=Int.mul_le_mul_of_nonneg_right hn.2 M0;have a0:0≤l.getD i 0*Pq:=Int.mul_nonneg hn.1 M0;generalize l.getD i 0*Pq=M at *;have a1:((4 ^ (i%4):Nat):Int)=Pq:=by rw[←hP];simp
 unfold g4B;rw[UInt8.toNat_ofNat',UInt8.toNat_ofNat',h1];omega
def Zbx(gs:V6 (Nat×Nat))(L:V6 (V6 Int))(i:Nat):V2:=.slice (some ⟨(gs.getD i (0,0)).1,0,none⟩) (L.getD i []).length (gs.getD i (0,0)).2
structure Lists(w:V1)(base:Nat)(v:V2)(gs:V6 (Nat×Nat))(L:V6 (V6 Int)):Prop where
 row:w.ownsRow base 27 1 v L.length ((range L.length).map (Zbx gs L))
 each:∀ i,i<L.length→w.ownsRow base 3 1 (Zbx gs L i) (L.getD i []).length ((L.getD i []).map (Value.int .i64))
theorem Lists.i{w W:V1}{base:Nat}{v:V2}{gs:V6 (Nat×Nat)}{L:V6 (V6 Int)}(h:Lists w base v gs L)(hb:B3 w W):Lists W base v gs L:=⟨Zb h.row hb,fun i hi=>Zb (h.each i hi) hb⟩
theorem Lists.q{T:V6 V3}{w W:V1}{base:Nat}{v:V2}{gs:V6 (Nat×Nat)}{L:V6 (V6 Int)}(h:Lists w base v gs L)(hO:Zd T w W)(hT:T.contains 27=false∧T.contains 3=false):Lists W base v gs L:=⟨Zi h.row hO hT.1,fun i hi=>Zi (h.each i hi) hO hT.2⟩
theorem Lists.elem{w:V1}{base:Nat}{p:O0}{n c:Nat}{gs:V6 (Nat×Nat)}{L:V6 (V6 Int)}(h:Lists w base (.slice p n c) gs L)(hn:L.length=n){k:Nat}(hk:k<n):p.isSome=true∧w.cell? (Zx p (k*1))=some (Zbx gs L k):=by
 subst hn;rw[G7];exact Sl.elem (Zf h.row) (by simp[hk])
theorem Lists.mono{w:V1}{base base':Nat}{v:V2}{gs:V6 (Nat×Nat)}{L:V6 (V6 Int)}(h:Lists w base' v gs L)(hb:base≤base'):Lists w base v gs L:=⟨Zg h.row hb,fun i hi=>Zg (h.each i hi) hb⟩
def FrB (B:Nat)(S:V6 Nat)(w W:V1):Prop:=w.heap.size≤W.heap.size∧∀ k,k<B→k∉S→W.heap[k]? = w.heap[k]?
theorem Fr.d2{S S':V6 Nat}{a w W:V1}(h:Fr S a w)(k:FrB a.heap.size S' w W)(hs:∀ k∈S',k∈S):Fr S a W:=⟨N0 h.size k.1,fun i hi hn=>(k.2 i hi fun q=>hn (hs i q)).trans (h.block i hi hn)⟩
theorem or_step:∀ r:Fin 4,∀ n:Fin 4,∀ o:Fin 64,o.val<4 ^ r.val→o.val ||| (n.val*4 ^ r.val)=o.val+n.val*4 ^ r.val:=Do
def Vt(K:V6 Int)(n:Nat)(i:Nat):Bl:=(range i).flatMap fun j=>if j<n then leB (K.getD j 0) 8 else replicate 8 0
theorem Hb(K:V6 Int)(n i:Nat):Vt K n (i+1)=Vt K n i++(if i<n then leB (K.getD i 0) 8 else replicate 8 0):=by
 unfold Vt;rw[B8,C7];simp
theorem Wn(K:V6 Int)(n i:Nat):(Vt K n i).length=i*8:=by
 induction i with
 | zero=>rfl
 | succ i ih=>rw[Hb,A1,ih];split<;>simp[Zl]<;>omega
def Jg(Vs:V6 Bl)(i:Nat):Bl:=(range i).flatMap fun j=>Vs.getD j []
theorem Lm(Vs:V6 Bl)(i:Nat):Jg Vs (i+1)=Jg Vs i++Vs.getD i []:=by
 unfold Jg;rw[B8,C7];simp
theorem Dj{Vs:V6 Bl}{v:Nat}:∀ {i:Nat},(∀ j,j<i→(Vs.getD j []).length=v)→(Jg Vs i).length=i*v
 | 0,_=>by simp[Jg]
 | i+1,h=>by rw[Lm,A1,Dj fun j hj=>h j M0,h i M0,G8,I1]
theorem Ze4{P z Q x:Bl}{k:Nat}(hk:P.length=k)(hz:z.length=x.length):Qj (P++z++Q) k x=P++x++Q:=by
 unfold Qj;subst hk;rw[A4 P z Q,M7 rfl,←hz];have e:P++(z++Q)=(P++z)++Q:=(A4 _ _ _).symm;rw[e,M8 Y5]
theorem Pi(K:V6 Int)(i:Nat):∀ d,Vt K i (i+d)=Vt K i i++replicate (d*8) 0
 | 0=>by simp
 | d+1=>by
  rw[←F2,Hb,Pi K i d,V7 M0,A4,List.replicate_append_replicate,G8,I1]
theorem Sk(K:V6 Int)(n:Nat):∀ i,i≤n→Vt K n i=Vt K i i
 | 0,_=>rfl
 | i+1,h=>by
  rw[Hb,Hb,V8 M0,V8 M0,Sk K n i M0,Sk K (i+1) i M0]
theorem Zek(a b:Nat):replicate (a+b) (0:UInt8)=replicate a 0++replicate b 0:=List.replicate_append_replicate.symm
theorem Zc4{m v:Nat}{H:Bl}{K:V6 Int}{Vs:V6 Bl}(hH:H.length=12)(hf:12+m*8+m*v≤244):∀ {i:Nat},i≤m→(∀ j,j<i→(Vs.getD j []).length=v) →
  Pk m v H K Vs i=H++Vt K i m++Jg Vs i++replicate (232-m*8-i*v) 0
 | 0,_,_=>by
  have e1:=Pi K 0 m;rw[F5] at e1;rw[Pk,e1];have h1:(232-m*8-0*v)=232-m*8:=M0;rw[h1,show(244:Nat)=12+(m*8+(232-m*8)) by omega,Zek,Zek];have:=Ze4 (P:=[]) (z:=replicate 12 (0:UInt8)) (Q:=replicate (m*8) 0++replicate (232-m*8) 0) (x:=H) (k:=0) rfl (by simp[hH]);rw[F7,F7] at this;rw[this];simp[Vt,Jg]
 | i+1,hi,hV=>by
  have ih:=Zc4 (K:=K) hH hf (i:=i) M0 (fun j hj=>hV j M0);have a4:=hV i M0;have h2:(i+1)*v≤m*v:=F1 v hi;rw[G8,I1] at h2;obtain⟨d,hd⟩:∃ d,m=i+(d+1):=⟨m-i-1,M0⟩;have ek:Vt K i m=Vt K i i++replicate 8 0++replicate (d*8) 0:=by
   rw[hd,Pi,show(d+1)*8=8+d*8 by omega,Zek,A4]
  have a3:Vt K (i+1) m=Vt K i i++leB (K.getD i 0) 8++replicate (d*8) 0:=by
   rw[show m=(i+1)+d by omega,Pi,Hb,V8 M0,Sk K (i+1) i M0]
  have er:replicate (232-m*8-i*v) (0:UInt8)=replicate v 0++replicate (232-m*8-(i*v+v)) 0:=by
   rw[←Zek];congr 1;omega
  have a0:(Jg Vs i).length=i*v:=Dj fun j hj=>hV j M0;rw[Pk,ih,ek,er];have s1:=Ze4 (P:=H++Vt K i i) (z:=replicate 8 (0:UInt8)) (Q:=replicate (d*8) 0++(Jg Vs i++(replicate v 0++replicate (232-m*8-(i*v+v)) 0))) (x:=leB (K.getD i 0) 8) (k:=12+i*8) (by rw[A1,hH,Wn]) (by simp[Zl]);have a1:H++(Vt K i i++replicate 8 0++replicate (d*8) 0)++Jg Vs i++(replicate v 0++replicate (232-m*8-(i*v+v)) 0)=H++Vt K i i++replicate 8 0++(replicate (d*8) 0++(Jg Vs i++(replicate v 0++replicate (232-m*8-(i*v+v)) 0))):=by simp only[A4]
  rw[a1,s1];have s2:=Ze4 (P:=H++Vt K (i+1) m++Jg Vs i) (z:=replicate v (0:UInt8)) (Q:=replicate (232-m*8-(i*v+v)) 0) (x:=Vs.getD i []) (k:=12+m*8+i*v) (by rw[A1,A1,hH,Wn,a0]) (by rw[B7,a4]);have a2:H++Vt K i i++leB (K.getD i 0) 8++(replicate (d*8) 0++(Jg Vs i++(replicate v 0++replicate (232-m*8-(i*v+v)) 0)))=H++Vt K (i+1) m++Jg Vs i++replicate v 0++replicate (232-m*8-(i*v+v)) 0:=by rw[a3];simp only[A4]
  rw[a2,s2,Lm,G8,I1];simp only[A4]
end
section
attribute [local irreducible] wpList wpAnyH Code.wp Oper.wp Go
section
variable {P:V4} {a:Act}
theorem Zyb{o:Oper}{t t2:V3}{x y:Operand}{n s:Nat}{j:Int}{kj:IntKind}(ho:o.op=.binOp .shr t x y t2)(hx:a.eval x=.int .u8 (n:Int))(hy:a.eval y=.int kj j)(hj:j=(s:Int))(hs:s≤8)(w:V1):(execOp a.eval o).run P w=.ok (.value (.int .u8 ((n/2 ^ s:Nat):Int))) w:=by
 subst hj;have e:=shift_shr_u8 kj (n:Int) (s:Int) (K3 s) M0;simp only[execOp,ho,hx,hy,eqGuard_shr,binOp_shr,e];simp
end
theorem Zjq(a:O0)(n c k w:Nat)(ki wi:Int)(l:Bl)(W:V1)(hn:l.length=n)(hki:ki=(k:Int))(hwi:wi=(w:Int))(hw:w=1∨w=2∨w=4)(hk:k+w≤n)(hl:n≤100000000)(h:Bys W (.slice a n c) l) :
 C0 190 #[.slice a n c,V0 ki,V0 wi] W (Ret (.tuple #[V0 (Zo l k w:Int),V0 0]) W):=by
 subst hn hki hwi;exact Znn a c k w l W M0 hk hl h (by have:=Jb l k w M0;omega)
def Zs5(l:Bl)(i:Nat):Nat:=(l.getD (4+i/4) 0).toNat/2 ^ (i%4*2)%4
theorem i64_and3{n:Nat}(h:n<9223372036854775808):IntKind.i64.wrap (↑(BitVec.ofInt 64 (n:Int) &&& BitVec.ofInt 64 (3:Int)).toNat:Int)=((n%4:Nat):Int):=by
 rw[show(3:Int)=((3:Nat):Int) from rfl,E6,E6,P5,E9,E9,E5 M0,E5 M0];rw[show n &&& 3=n%4 from M9 n 2];exact Lj M0
theorem An(n k:Nat)(hn:n<9223372036854775808)(hk:0<k):IntKind.i64.wrap (Int.tdiv (n:Int) (k:Int))=((n/k:Nat):Int):=by
 rw[Int.tdiv_eq_ediv_of_nonneg (K3 _),←Int.natCast_ediv];exact Lj (I6 (O8 _ _) hn)
theorem Zhs(n k:Nat):Int.tmod (n:Int) (k:Int)=((n%k:Nat):Int):=by
 rw[Int.tmod_eq_emod_of_nonneg (K3 _),←Int.natCast_emod]
theorem shr_lt(l:Bl)(k s:Nat):(l.getD k 0).toNat/2 ^ s<256:=I6 (O8 _ _) (l.getD k 0).toNat_lt
def Za5(l:Bl)(n:Nat):V6 Nat:=(range n).map (Zs5 l)
theorem Zpp(l:Bl)(n:Nat):Za5 l (n+1)=Za5 l n++[Zs5 l n]:=by simp[Za5,B8]
def Zoi(l:Bl):Prop:=l.length=244∧Zo l 0 4≤960∧∀ i,i<960→Zo l 0 4≤i→Zs5 l i=0
def BitsP(l:Bl)(w:V1)(e:V5)(w':V1):Prop :=
 (¬ Zoi l∧e=.returned (.tuple #[S1,V0 7])∧B3 w w') ∨
 (Zoi l∧∃ p c,e=.returned (.tuple #[.slice p (Zo l 0 4) c,V0 0])∧B3 w w'∧w'.ownsRow w.heap.size 3 1 (.slice p (Zo l 0 4) c) (Zo l 0 4) ((Za5 l (Zo l 0 4)).map nv))
theorem Zzu(a:O0)(c:Nat)(l:Bl)(w:V1)(hl:l.length≤100000000)(h:Bys w (.slice a l.length c) l) :
 C0 248 #[.slice a l.length c] w (BitsP l w):=by
 refine zin 47 Tryz.func248 ?_
 refine xin 14 (l.length:Int) (244:Int) (fun a9=>?_) (fun a9=>?_)
 ·exact xe 8 (.tuple #[S1,V0 7]) (.inl ⟨fun h=>by have:=h.1;omega,rfl,(B4 w)⟩)
 refine xr 5 (Zjq a l.length c 0 4 0 4 l _ rfl rfl rfl Do M0 hl (h.i (B4 w))) fun W2 a4=>?_
 refine xid 14 ((↑(Zo l 0 4):Int)>(960:Int)) (fun b2=>?_) (fun b2=>?_)
 ·exact xe 8 (.tuple #[S1,V0 7]) (.inl ⟨fun h=>by have:=h.2.1;omega,rfl,a4⟩)
 refine zl 14 47 (fun zm a6 V=>∃ (i m:Nat) (p:O0) (c2:Nat),a6=[(0,.slice a l.length c),(4,V0 (↑(Zo l 0 4):Int)),(6,.slice p m c2),(19,V0 (i:Int))]∧zm=960-((i:Int)).toNat∧B3 w V∧V.ownsRow w.heap.size 3 1 (.slice p m c2) m ((Za5 l m).map nv)∧i≤960∧m=min i (Zo l 0 4)∧(∀ j,j<i→Zo l 0 4≤j→Zs5 l j=0)) ⟨0,0,_,_,rfl,rfl,a4,A8 _ _ _ _,A5 _,M0,?_⟩ ?_
 ·exact fun j hj=>absurd hj M0
 rintro _ _ W4 ⟨i,m,p,c2,rfl,rfl,a0,ho,hi,hm,hz⟩ J4 a5 r4
 refine xid 6 ((i:Int)<(960:Int)) (fun a8=>?_) (fun a8=>?_)
 ·refine xq 14 (congrArg V0 (show(IntKind.i64.wrap (Int.tdiv (i:Int) 4):Int)=(↑(i/4):Int) from An i 4 M0 Do)) ?_
  refine xwm 0 (4+(↑(i/4):Int)) (↑(4+(i/4)):Int) ?_
  refine xx 0 _ l.length (4+(i/4)) 1 (Bys.elem h (k:=(4+(i/4))) M0).1 ?_
  refine xl 0 ((Bys.elem (h.i a0) (k:=(4+(i/4))) M0).2) ?_
  refine xq 1 (congrArg V0 (show(Int.tmod (i:Int) 4:Int)=(↑(i%4):Int) from Zhs i 4)) ?_
  refine xwm 0 ((↑(i%4):Int)*2) (↑((i%4)*2):Int) ?_
  refine xbo 0 (t:=5) (t2:=3) (fun _ _ _ _ zo zx zy V hV=>Zyb (n:=((l.getD (4+(i/4)) 0).toNat)) (s:=((i%4)*2)) (kj:=.i64) (j:=(↑((i%4)*2):Int)) zo zx zy rfl M0 V) ?_
  refine xq 0 (congrArg V0 (show(IntKind.i64.wrap (↑((l.getD (4+(i/4)) 0).toNat/2 ^ ((i%4)*2)):Int):Int)=(↑((l.getD (4+(i/4)) 0).toNat/2 ^ ((i%4)*2)):Int) from Lj (by have:=shr_lt l (4+i/4) (i%4*2);omega))) ?_
  refine xq 0 (congrArg V0 (show(IntKind.i64.wrap (↑(BitVec.ofInt 64 (↑((l.getD (4+(i/4)) 0).toNat/2 ^ ((i%4)*2)):Int) &&& BitVec.ofInt 64 (3:Int)).toNat:Int):Int)=(↑(Zs5 l i):Int) from i64_and3 (by have:=shr_lt l (4+i/4) (i%4*2);omega))) ?_
  refine xid 12 ((i:Int)<(↑(Zo l 0 4):Int)) (fun b1=>?_) (fun b1=>?_)
  ·refine xbs 3 1 [V0 (↑(Zs5 l i):Int)] 3 fun b7 W7 n7=>?_
   have a3:=Zb ho n7.i
   have a1:=bln a0 n7.i
   refine xbi 0 fun _ _ _ _ zJ zQ zo zx zy zK=>Xd (m:=1) (news:=[V0 (↑(Zs5 l i):Int)]) (V0 0) 1 8 (m+1) ((Za5 l (m+1)).map nv) zo Tryz.underlying27 K0 rfl Do zx a3 zy (n7.blk.sl 1 1 Do Do) rfl Y4 Y2 M0 a1.size Y6 (by rw[Zpp,A6,show m=i by omega];rfl) fun b4 b5 W8 o8 b3 a7=>?_
   refine zK _ _ ?_
   refine xwm 6 ((i:Int)+1) (↑(i+1):Int) ?_
   have a2:=a1.trans a7
   exact ze 2 (a5 _ _ _ ⟨i+1,m+1,_,_,rfl,rfl,a2,o8,M0,M0,fun j hj hc=>(F0 j i).elim (fun q=>hz j q hc) (fun q=>by obtain rfl:j=i:=M0;omega)⟩ M0)
  refine xin 7 (↑(Zs5 l i):Int) (0:Int) (fun b0=>?_) (fun b0=>?_)
  ·exact xe 13 (.tuple #[S1,V0 7]) (.inl ⟨fun h=>by have:=h.2.2 i M0 M0;omega,rfl,a0⟩)
  refine xwm 5 ((i:Int)+1) (↑(i+1):Int) ?_
  exact ze 2 (a5 _ _ _ ⟨i+1,m,_,_,rfl,rfl,a0,ho,M0,M0,fun j hj hc=>(F0 j i).elim (fun q=>hz j q hc) (fun q=>by obtain rfl:j=i:=M0;omega)⟩ M0)
 refine xe 13 (.tuple #[.slice p m c2,V0 0]) ?_
 obtain rfl:m=Zo l 0 4:=M0
 exact .inr ⟨⟨M0,M0,fun j hj hc=>hz j M0 hc⟩,_,_,rfl,a0,ho⟩
end
end
section
open Go.RowKit
theorem Blk.ty{w:V1}{b:Nat}{cs cs':V6 V2}{t t':V3}(k:Blk w b cs t)(q:Blk w b cs' t'):t=t':=by
 have h1:w.heap[b]? = some (.cells cs.toArray t (0,0)):=k;have h2:w.heap[b]? = some (.cells cs'.toArray t' (0,0)):=q;rw[h1] at h2;simp only[A0,Obj.cells.injEq] at h2;exact h2.2.1
theorem Kx.I{w W:V1}{b:Nat}{cs:V6 V2}{t:V3}{l:V6 (Option Int)}{c:Option Int}{v:V2}(h:Kx w l c v)(u:Upd w b W)(k:Blk w b cs t)(hne:t≠204):Kx W l c v :=
 h.kept fun _ _ q=>u.blk q (by rintro rfl;exact hne (k.ty q))
theorem Kx.grown{w W:V1}{e:V3}{base size n:Nat}{s:V2}{xs:V6 V2}{l:V6 (Option Int)}{c:Option Int}{v:V2}(h:Kx w l c v)(hg:w.grownBy W s.ownBlock)(hown:w.ownsRow base e size s n xs)(hne:e≠204):Kx W l c v :=
 h.kept fun _ _ q=>q.grown hg hown hne
theorem Kx.q{T:V6 V3}{w W:V1}{l:V6 (Option Int)}{c:Option Int}{v:V2}(h:Kx w l c v)(k:Zd T w W)(hne:T.contains 204=false):Kx W l c v:=h.kept fun _ _ q=>q.q k hne
end
section
open Go.RowKit Go.Extern.Stop Go.Stop Go.Extern
section
attribute [local irreducible] wpList wpAnyH Code.wp Oper.wp Go
structure ImgR(B b:Nat)(p:Option Addr)(n c:Nat)(l:V6 UInt8)(w:V1):Prop where
 blk:Blk w b [.slice p n c] 108
 row:w.ownsRow B 5 1 (.slice p n c) n (l.map bv)
 hn:n≤3686400
theorem ImgR.i{B b:Nat}{p:O0}{n c:Nat}{l:Bl}{w W:V1}(h:ImgR B b p n c l w)(hb:B3 w W):ImgR B b p n c l W:=⟨h.blk.i hb,Zb h.row hb,h.hn⟩
theorem ImgR.q{B b:Nat}{p:O0}{n c:Nat}{l:Bl}{w W:V1}{T:V6 V3}(h:ImgR B b p n c l w)(hO:Zd T w W)(hT:T.contains 108=false∧T.contains 5=false):ImgR B b p n c l W:=⟨h.blk.q hO hT.1,Zi h.row hO hT.2,h.hn⟩
theorem ImgR.len{B b:Nat}{p:O0}{n c:Nat}{l:Bl}{w:V1}(h:ImgR B b p n c l w):l.length=n:=by have:=h.row.1;simpa using this
theorem ImgR.base{B b:Nat}{p:O0}{n c:Nat}{l:Bl}{w:V1}(h:ImgR B b p n c l w)(hn:0<n):∃ g,p=some ⟨g,0,none⟩∧n≤c:=by
 rcases h.row.2 with ⟨_,h0⟩|⟨g,a0,a1,hv,_,_,hc,_⟩
 ·omega
 ·simp only[C2] at hv;obtain⟨rfl,_,rfl⟩:=hv;exact⟨g,rfl,hc⟩
def Kc(l:Bl)(j:Nat):Bl:=(l.drop (j*256)).take 256
theorem Hx{l:Bl}{j:Nat}(h:j<l.length/256):(Kc l j).length=256:=by simp[Kc];omega
theorem Bys.k1{w:V1}{g off n c:Nat}{l:Bl}(h:Bys w (.slice (some ⟨g,off,none⟩) n c) l)(hl:l.length=n)(k m:Nat)(hm:0<m)(hk:k+m≤n):Bys w (.slice (some ⟨g,off+k,none⟩) m m) ((l.drop k).take m):=by
 have a0:((l.drop k).take m).length=m:=by simp;omega
 rcases h with ⟨a',c',h1,h2,h3⟩|⟨g',a1,a2,h1,h2,h3,h4⟩
 ·omega
 ·simp only[C2,A0,Addr.mk.injEq] at h1;obtain⟨⟨rfl,rfl,_⟩,_,rfl⟩:=h1;refine .inr ⟨g,off+k,m,by rw[a0],M0,M0,fun j x hj=>?_⟩;rw[C3,H2] at hj;split at hj
  ·rw[G0] at hj;have:=h4 (k+j) x (by rw[C3];exact hj);rwa [←F2] at this
  ·cases hj
theorem ImgR.part{B b g:Nat}{n c:Nat}{l:Bl}{w:V1}(h:ImgR B b (S3 g) n c l w){j:Nat}(hj:j<n/256):Bys w (.slice (some ⟨g,j*256,none⟩) 256 256) (Kc l j):=by
 have:=Bys.k1 (Vr (Zf h.row) h.len) h.len (j*256) 256 Do M0;rwa [F5] at this
def ReadP(n:Nat)(l:Bl)(k:Int)(w:V1)(e:V5)(w':V1):Prop :=
 (¬ (0≤k∧k<(n/256:Nat))∧∃ v,e=.returned (.tuple #[v,V0 3])∧B3 w w') ∨
 (∃ j:Nat,k=(j:Int)∧j<n/256∧∃ p c,e=.returned (.tuple #[.slice p 256 c,V0 0])∧B3 w w'∧w'.ownsRow w.heap.size 5 1 (.slice p 256 c) 256 ((Kc l j).map bv))
theorem Ip(b:Nat)(p:O0)(n c:Nat)(k:Int)(w:V1)(hk:Blk w b [.slice p n c] 108)(hn:n≤100000000)(ho:¬ (0≤k∧k<(n/256:Nat))) :
 C0 168 #[P0 b,V0 k] w (Ret (.tuple #[S1,V0 3]) w):=by
 refine zin 33 Tryz.func168 ?_
 refine xg 21 [13,14] (decide (k<(0:Int))) (fun a0=>?_) (fun a0=>?_)
 ·have a0:=U1 a0
  exact xe 18 (.tuple #[S1,V0 3]) ⟨rfl,(B4 w)⟩
 have a0:=U2 a0
 refine xr 2 (args:=#[P0 b]) (Hc b _ n c _ (hk.i (B4 w)) hn) fun W2 a1=>?_
 refine xk 5 (show(decide (k≥(↑(n/256):Int)):Bool)=true from U0 M0) ?_
 exact xe 9 (.tuple #[S1,V0 3]) ⟨rfl,a1⟩
theorem Zcq(B b:Nat)(p:O0)(n c:Nat)(l:Bl)(k:Int)(w:V1)(hI:ImgR B b p n c l w)(ho:¬ (0≤k∧k<(n/256:Nat))) :
 C0 187 #[P0 b,V0 k] w (Kd (fun _ r=>∃ v,r=.tuple #[v,V0 3]) w):=by
 refine zin 17 Tryz.func187 ?_
 refine xr 10 (Ip b p n c k _ (hI.i (B4 w)).blk (by have:=hI.hn;omega) ho) fun W1 a0=>?_
 refine xc 10 (Zi4 0 _) ?_
 rintro _ W2 ⟨v2,rfl,a1,_⟩
 have hB:=bln a0 a1
 exact xe 6 (.tuple #[v2,V0 3]) ⟨_,rfl,hB,_,rfl⟩
theorem Zex(B b g:Nat)(n c:Nat)(l:Bl)(j:Nat)(w:V1)(hI:ImgR B b (S3 g) n c l w)(hj:j<n/256)(hc:n≤c) :
 C0 187 #[P0 b,V0 (j:Int)] w (Kd (fun w' r=>∃ p2 c3,r=.tuple #[.slice p2 256 c3,V0 0]∧w'.ownsRow w.heap.size 5 1 (.slice p2 256 c3) 256 ((Kc l j).map bv)) w):=by
 have a3:=Hx (l:=l) (j:=j) (by rw[hI.len];exact hj)
 refine zin 17 Tryz.func187 ?_
 refine xr 10 (Oy b g n c j _ (hI.i (B4 w)).blk (by have:=hI.hn;omega) hc hj) fun W1 a1=>?_
 refine xc 10 (Hd (some ⟨g,(j*256),none⟩) 256 256 (Kc l j) _ a3 ((hI.i a1).part hj) Do) ?_
 rintro _ W2 ⟨_,rfl,a4,ho⟩
 have a0:=Zg ho a1.size
 unfold Et at a0
 rw[a3] at a0
 obtain⟨p2,c3,rfl⟩:=(Zf a0).slice
 have a2:=bln a1 a4
 exact xe 6 (.tuple #[.slice p2 256 c3,V0 0]) ⟨_,rfl,a2,_,_,rfl,a0⟩
theorem De(B b:Nat)(p:O0)(n c:Nat)(l:Bl)(k:Int)(w:V1)(hI:ImgR B b p n c l w) :
 C0 187 #[P0 b,V0 k] w (ReadP n l k w):=by
 by_cases h:0≤k∧k<(n/256:Nat)
 ·obtain⟨g,rfl,hc⟩:=hI.base M0
  obtain⟨j,rfl⟩:∃ j:Nat,k=j:=⟨k.toNat,M0⟩
  refine(Zex B b g n c l j w hI M0 hc).mono ?_
  rintro e W ⟨_,rfl,hb,p2,c3,rfl,ho⟩
  exact .inr ⟨j,rfl,M0,_,_,rfl,hb,ho⟩
 ·refine(Zcq B b p n c l k w hI h).mono ?_
  rintro e W ⟨_,rfl,hb,v,rfl⟩
  exact .inl ⟨h,_,rfl,hb⟩
def inE (l:Bl)(kind no:Int):Int:=if 0≤no∧no<(l.length/256:Nat) then Qz kind no (Kc l no.toNat) else 3
def inB (l:Bl)(no:Int):Bl:=((Kc l no.toNat).drop 8).take 244
theorem Sg{l:Bl}{kind no:Int}{n:Nat}(hl:l.length=n)(h:¬ (0≤no∧no<(n/256:Nat))):inE l kind no=3:=by subst hl;exact V7 h
theorem Zdm{l:Bl}{kind no:Int}{n j:Nat}(hl:l.length=n)(hk:no=(j:Int))(h:j<n/256):inE l kind no=Qz kind no (Kc l j):=by
 subst hl hk;rw[inE,V8 ⟨M0,M0⟩];rfl
theorem Zdh{l:Bl}{no:Int}{j:Nat}(hk:no=(j:Int)):inB l no=((Kc l j).drop 8).take 244:=by subst hk;rfl
theorem Zeu{l:Bl}{no:Int}{n j:Nat}(hl:l.length=n)(hk:no=(j:Int))(h:j<n/256):(inB l no).length=244:=by
 subst hl hk;have:=Hx h;simp[inB,this]
theorem Sn(kind no:Int)(a:O0)(n c:Nat)(l:Bl)(w:V1)(hn:l.length=n)(h:Bys w (.slice a n c) l):C0 188 #[.slice a n c,V0 kind,V0 no] w (OpenP kind no l w):=by
 subst hn;exact Zhj kind no a c l w h
def Ku(l:Bl)(tree:Int):Int:=if We l=0 then(if tree=0∨Qt l=tree then 0 else 6) else We l
def Xy(l:Bl)(no tree:Int):Int:=if inE l 2 no=0 then Ku (inB l no) tree else inE l 2 no
def Node1P(l:Bl)(tree:Int)(w:V1)(e:V5)(w':V1):Prop :=
 (Ku l tree≠0∧∃ a b kp n1 kc vp n2 vc,e=.returned (.tuple #[.agg #[V0 a,.bool b,.slice kp n1 kc,.slice vp n2 vc],V0 (Ku l tree)])∧B3 w w') ∨
 (Ku l tree=0∧∃ kp kc vp vc,e=.returned (.tuple #[.agg #[V0 (Qt l),.bool (Yg l),.slice kp (Xa l) kc,.slice vp (Xa l) vc],V0 0])∧B3 w w' ∧
  w'.ownsRow w.heap.size 3 1 (.slice kp (Xa l) kc) (Xa l) ((Hy l (Xa l)).map V0)∧w'.ownsRow w.heap.size 9 1 (.slice vp (Xa l) vc) (Xa l) ((Nt l (Xa l)).map sv))
def Zml(l:Bl)(no tree:Int)(w:V1)(e:V5)(w':V1):Prop :=
 (Xy l no tree≠0∧∃ b,e=.returned (.tuple #[.agg #[V0 0,.bool false,S1,S1],.iface 201 (P0 b)])∧B3 w w'∧Kx w' [some no] (some (Xy l no tree)) (.iface 201 (P0 b))) ∨
 (Xy l no tree=0∧∃ kp kc vp vc,e=.returned (.tuple #[.agg #[V0 (Qt (inB l no)),.bool (Yg (inB l no)),.slice kp (Xa (inB l no)) kc,.slice vp (Xa (inB l no)) vc],.nilIface])∧B3 w w' ∧
  w'.ownsRow w.heap.size 3 1 (.slice kp (Xa (inB l no)) kc) (Xa (inB l no)) ((Hy (inB l no) (Xa (inB l no))).map V0)∧w'.ownsRow w.heap.size 9 1 (.slice vp (Xa (inB l no)) vc) (Xa (inB l no)) ((Nt (inB l no) (Xa (inB l no))).map sv))
theorem node_1(tree:Int)(bt:Nat)(a:O0)(c:Nat)(l:Bl)(w:V1)(kt:Blk w bt [V0 tree] 3)(hl:l.length=244)(h:Bys w (.slice a 244 c) l) :
 C0 253 #[.slice a 244 c,P0 bt] w (Node1P l tree w):=by
 refine zin 27 Tryz.func253 ?_
 refine xa 2 [V0 0,.bool false,S1,S1] 191 fun b1 W1 n1=>?_
 refine xc 6 (Zvq a c l _ hl (h.i n1.i)) ?_
 rintro e W2 d0
 rcases d0 with ⟨hz,rfl,a4⟩|⟨hz,kp,kc,vp,vc,rfl,a4,hk,c5⟩
 ·refine xa 3 [V0 0,.bool false,S1,S1] 191 fun b3 W3 n3=>?_
  have k1:=n1.blk.i a4
  have a6:=n3.ne k1
  have a8:=bln n1.i a4
  have g3:=n3.ge a8
  refine xsv 0 n3.blk [V0 0,.bool false,S1,S1] fun W4 u4 k4=>?_
  refine xgk 9 [13,14] (show(((We l)==(0:Int)):Bool)=false from beq_false_of_ne hz) ?_
  refine xlv 16 k4.rp ?_
  have b8:=u4.blk (k1.i n3.i) a6
  refine xsv 1 b8 [V0 0,.bool false,S1,S1] fun W6 u6 k6=>?_
  have g1:=n1.ge (B4 w)
  have b4:=u6.i (u4.i (bln a8 n3.i) g3) g1
  exact xec 4 k6 (.tuple #[.agg #[V0 0,.bool false,S1,S1],V0 (We l)]) (.inl ⟨by unfold Ku;rw[V7 hz];exact hz,_,_,_,_,_,_,_,_,by unfold Ku;rw[V7 hz],b4⟩)
 refine xa 3 [V0 0,.bool false,S1,S1] 191 fun b7 W7 n7=>?_
 have k1:=n1.blk.i a4
 have a0:=n7.ne k1
 have a1:=bln n1.i a4
 have g7:=n7.ge a1
 refine xsv 0 n7.blk [V0 (Qt l),.bool (Yg l),.slice kp (Xa l) kc,.slice vp (Xa l) vc] fun W8 u8 k8=>?_
 have b0:=u8.A (((kt.i n1.i).i a4).i n7.i) n7.blk Do
 refine xb 9 0 b0 ?_
 refine xg 3 [16,17,18] (tree != (0:Int)) (fun a9=>?_) (fun a9=>?_)
 ·have a9:=Cc a9
  refine xb 1 0 k8 ?_
  refine xb 0 0 b0 ?_
  refine xin 4 (Qt l) tree (fun b6=>?_) (fun b6=>?_)
  ·refine xlv 2 k8.rp ?_
   have c4:=u8.blk (k1.i n7.i) a0
   refine xsv 0 c4 [V0 (Qt l),.bool (Yg l),.slice kp (Xa l) kc,.slice vp (Xa l) vc] fun d1 c7 c8=>?_
   have g1:=n1.ge (B4 w)
   have c2:=c7.i (u8.i (bln a1 n7.i) g7) g1
   exact xec 5 c8 (.tuple #[.agg #[V0 (Qt l),.bool (Yg l),.slice kp (Xa l) kc,.slice vp (Xa l) vc],V0 6]) (.inl ⟨by unfold Ku;rw[V8 hz,V7 M0];decide,_,_,_,_,_,_,_,_,by unfold Ku;rw[V8 hz,V7 M0],c2⟩)
  refine xlv 4 k8.rp ?_
  have a2:=u8.blk (k1.i n7.i) a0
  refine xsv 1 a2 [V0 (Qt l),.bool (Yg l),.slice kp (Xa l) kc,.slice vp (Xa l) vc] fun d3 b9 c9=>?_
  have g1:=n1.ge (B4 w)
  have c3:=b9.i (u8.i (bln a1 n7.i) g7) g1
  have b5:=b9.j (u8.j (Zb (Zg hk n1.i.size) n7.i) n7.blk Do) a2 Do
  have a7:=b9.j (u8.j (Zb (Zg c5 n1.i.size) n7.i) n7.blk Do) a2 Do
  exact xec 4 c9 (.tuple #[.agg #[V0 (Qt l),.bool (Yg l),.slice kp (Xa l) kc,.slice vp (Xa l) vc],V0 0]) (.inr ⟨by unfold Ku;rw[V8 hz,V8 M0],_,_,_,_,rfl,c3,b5,a7⟩)
 have a9:=Vg a9
 refine xlv 12 k8.rp ?_
 have a3:=u8.blk (k1.i n7.i) a0
 refine xsv 1 a3 [V0 (Qt l),.bool (Yg l),.slice kp (Xa l) kc,.slice vp (Xa l) vc] fun d2 b2 c6=>?_
 have g1:=n1.ge (B4 w)
 have c0:=b2.i (u8.i (bln a1 n7.i) g7) g1
 have c1:=b2.j (u8.j (Zb (Zg hk n1.i.size) n7.i) n7.blk Do) a3 Do
 have a5:=b2.j (u8.j (Zb (Zg c5 n1.i.size) n7.i) n7.blk Do) a3 Do
 exact xec 4 c6 (.tuple #[.agg #[V0 (Qt l),.bool (Yg l),.slice kp (Xa l) kc,.slice vp (Xa l) vc],V0 0]) (.inr ⟨by unfold Ku;rw[V8 hz,V8 M0],_,_,_,_,rfl,c0,c1,a5⟩)
theorem readNode(B b:Nat)(p:O0)(n c:Nat)(l:Bl)(no tree:Int)(w:V1)(hI:ImgR B b p n c l w)(bt:Nat)(kt:Blk w bt [V0 tree] 3) :
 C0 252 #[P0 b,V0 no,V0 2,.func (.func 253) #[] #[P0 bt]] w (Zml l no tree w):=by
 refine zin 56 Tryz.func252 ?_
 refine xa 2 [V0 0,.bool false,S1,S1] 191 fun b1 W1 n1=>?_
 refine xa 5 [V0 0,.bool false,S1,S1] 191 fun b2 W2 n2=>?_
 have hB:=bln n1.i n2.i
 refine xc 6 (De B b p n c l no _ (hI.i hB)) ?_
 rintro e W3 i4
 rcases i4 with ⟨ho,vr,rfl,a0⟩|⟨j,hk,hj,p2,c2,rfl,a0,ho⟩
 ·refine xd 16 (.t w.heap.size [191]) ?_
  refine xm2 (.b [1,2,3]) 0 4 ?_ ?_
  ·have k2:=(n2.blk.i a0).i (Za W3)
   refine xlv 0 k2.rp ?_
   refine yc (.o [] 4) (.t w.heap.size [191]) (Ya no 3 _) ?_
   rintro _ W4 ⟨_,rfl,f0,f3⟩
   refine⟨(Q5 _ f0),?_⟩
   rw[V7 Do,V7 Do] at f3
   have i7:=f3
   obtain⟨j9,m0,rfl,_,_⟩:=i7
   have c7:=(((n1.blk.i n2.i).i a0).i (Za W3)).i f0
   have g1:=n1.ge (B4 w)
   refine ysv (.o [] 5) c7 [V0 0,.bool false,S1,S1] (.t w.heap.size [191]) fun W5 u5 k5=>⟨(Zr u5 c7 g1 Do),?_⟩
   have h0:=u5.i (bln (bln (bln hB a0) (Za W3)) f0) g1
   have d9:=f3.I u5 c7 Do
   refine xec (.r [6] 4) k5 (.tuple #[.agg #[V0 0,.bool false,S1,S1],.iface 201 (P0 j9)]) ?_
   have he:Xy l no tree=3:=by unfold Xy;rw[Sg hI.len ho];rfl
   exact .inl ⟨by rw[he];decide,_,rfl,h0,by rw[he];exact d9⟩
  refine yc 0 (.t w.heap.size [191]) (Ya no 3 _) ?_
  rintro _ W6 ⟨_,rfl,e6,e8⟩
  refine⟨(Q5 _ e6),?_⟩
  rw[V7 Do,V7 Do] at e8
  have i3:=e8
  obtain⟨i8,k6,rfl,_,_⟩:=i3
  have k2:=((n2.blk.i a0).i (Za W3)).i e6
  refine xlv (.o [] 0) k2.rp ?_
  have d2:=(((n1.blk.i n2.i).i a0).i (Za W3)).i e6
  have g1:=n1.ge (B4 w)
  refine ysv (.o [] 5) d2 [V0 0,.bool false,S1,S1] (.t w.heap.size [191]) fun W7 u7 k7=>⟨(Zr u7 d2 g1 Do),?_⟩
  have f8:=u7.i (bln (bln (bln hB a0) (Za W3)) e6) g1
  have d5:=e8.I u7 d2 Do
  refine xec (.r [6] 4) k7 (.tuple #[.agg #[V0 0,.bool false,S1,S1],.iface 201 (P0 i8)]) ?_
  have he:Xy l no tree=3:=by unfold Xy;rw[Sg hI.len ho];rfl
  exact .inl ⟨by rw[he];decide,_,rfl,f8,by rw[he];exact d5⟩
 have j6:=(bln n1.i n2.i).size
 have i1:j<l.length/256:=by rw[hI.len];exact hj
 have h8:=Hx i1
 have e4:=Zdm (l:=l) (kind:=2) hI.len hk hj
 have h1:=Zg ho j6
 refine xc 22 (Sn 2 no p2 256 c2 (Kc l j) _ h8 (Vr (Zf h1) h8)) ?_
 rintro e W8 j0
 rcases j0 with ⟨hs,rfl,a2⟩|⟨hs,p3,c3,rfl,a2,h3⟩
 ·refine xk 14 (show(((Qz 2 no (Kc l j)) != (0:Int)):Bool)=true from bne_iff_ne.2 hs) ?_
  refine xd 1 (.t w.heap.size [191]) ?_
  refine xm2 (.b [1,2,3]) 0 4 ?_ ?_
  ·have k2:=((n2.blk.i a0).i a2).i (Za W8)
   refine xlv 0 k2.rp ?_
   refine yc (.o [] 4) (.t w.heap.size [191]) (Ya no (Qz 2 no (Kc l j)) _) ?_
   rintro _ W9 ⟨_,rfl,f6,f9⟩
   refine⟨(Q5 _ f6),?_⟩
   rw[V7 hs,V7 hs] at f9
   have i5:=f9
   obtain⟨i9,l6,rfl,_,_⟩:=i5
   have c1:=((((n1.blk.i n2.i).i a0).i a2).i (Za W8)).i f6
   have g1:=n1.ge (B4 w)
   refine ysv (.o [] 5) c1 [V0 0,.bool false,S1,S1] (.t w.heap.size [191]) fun m4 f2 j8=>⟨(Zr f2 c1 g1 Do),?_⟩
   have h4:=f2.i (bln (bln (bln (bln hB a0) a2) (Za W8)) f6) g1
   have e2:=f9.I f2 c1 Do
   refine xec (.r [6] 4) j8 (.tuple #[.agg #[V0 0,.bool false,S1,S1],.iface 201 (P0 i9)]) ?_
   have he:Xy l no tree=Qz 2 no (Kc l j):=by unfold Xy;rw[e4,V7 hs]
   exact .inl ⟨by rw[he];exact hs,_,rfl,h4,by rw[he];exact e2⟩
  refine yc 0 (.t w.heap.size [191]) (Ya no (Qz 2 no (Kc l j)) _) ?_
  rintro _ k8 ⟨_,rfl,a9,c0⟩
  refine⟨(Q5 _ a9),?_⟩
  rw[V7 hs,V7 hs] at c0
  have f7:=c0
  obtain⟨g9,k1,rfl,_,_⟩:=f7
  have k2:=(((n2.blk.i a0).i a2).i (Za W8)).i a9
  refine xlv (.o [] 0) k2.rp ?_
  have c6:=((((n1.blk.i n2.i).i a0).i a2).i (Za W8)).i a9
  have g1:=n1.ge (B4 w)
  refine ysv (.o [] 5) c6 [V0 0,.bool false,S1,S1] (.t w.heap.size [191]) fun m3 g2 i2=>⟨(Zr g2 c6 g1 Do),?_⟩
  have g6:=g2.i (bln (bln (bln (bln hB a0) a2) (Za W8)) a9) g1
  have c4:=c0.I g2 c6 Do
  refine xec (.r [6] 4) i2 (.tuple #[.agg #[V0 0,.bool false,S1,S1],.iface 201 (P0 g9)]) ?_
  have he:Xy l no tree=Qz 2 no (Kc l j):=by unfold Xy;rw[e4,V7 hs]
  exact .inl ⟨by rw[he];exact hs,_,rfl,g6,by rw[he];exact c4⟩
 have k3:=(bln hB a0).size
 have e0:=Zg h3 k3
 have k0:((Kc l j).drop 8).take 244=inB l no:=(Zdh hk).symm
 have h9:=Zeu hI.len hk hj
 rw[k0] at e0
 have d1:=bln (bln hB a0) a2
 refine xc 21 (node_1 tree bt p3 c3 (inB l no) _ (kt.i d1) h9 (Vr (Zf e0) h9)) ?_
 rintro e l9 g5
 rcases g5 with ⟨hz,a5,b5,kp,m1,kc,vp,m2,vc,rfl,a1⟩|⟨hz,kp,kc,vp,vc,rfl,a1,hk,j4⟩
 ·refine xa 3 [V0 0,.bool false,S1,S1] 191 fun k4 l5 a6=>?_
  have b8:=(((n1.blk.i n2.i).i a0).i a2).i a1
  have a3:=a6.ne b8
  have k2:=((n2.blk.i a0).i a2).i a1
  have a4:=a6.ne k2
  have d0:=bln d1 a1
  have h7:=a6.ge d0
  refine xsv 0 a6.blk [V0 a5,.bool b5,.slice kp m1 kc,.slice vp m2 vc] fun d4 d3 l3=>?_
  refine xk 10 (show(((Ku (inB l no) tree) != (0:Int)):Bool)=true from bne_iff_ne.2 hz) ?_
  refine xd 1 (.t w.heap.size [191]) ?_
  refine xm2 (.b [1,2,3]) 0 4 ?_ ?_
  ·have h2:=(d3.blk (k2.i a6.i) a4).i (Za d4)
   refine xlv 0 h2.rp ?_
   refine yc (.o [] 4) (.t w.heap.size [191]) (Ya no (Ku (inB l no) tree) _) ?_
   rintro _ l7 ⟨_,rfl,b3,c5⟩
   refine⟨(Q5 _ b3),?_⟩
   rw[V7 hz,V7 hz] at c5
   have f4:=c5
   obtain⟨f5,j1,rfl,_,_⟩:=f4
   have b0:=((d3.blk (b8.i a6.i) a3).i (Za d4)).i b3
   have g1:=n1.ge (B4 w)
   refine ysv (.o [] 5) b0 [V0 0,.bool false,S1,S1] (.t w.heap.size [191]) fun l1 e7 j2=>⟨(Zr e7 b0 g1 Do),?_⟩
   have h6:=e7.i (bln (bln (d3.i (bln d0 a6.i) h7) (Za d4)) b3) g1
   have c9:=c5.I e7 b0 Do
   refine xec (.r [6] 4) j2 (.tuple #[.agg #[V0 0,.bool false,S1,S1],.iface 201 (P0 f5)]) ?_
   have he:Xy l no tree=Ku (inB l no) tree:=by unfold Xy;rw[e4,V8 hs]
   exact .inl ⟨by rw[he];exact hz,_,rfl,h6,by rw[he];exact c9⟩
  refine yc 0 (.t w.heap.size [191]) (Ya no (Ku (inB l no) tree) _) ?_
  rintro _ k9 ⟨_,rfl,a7,b9⟩
  refine⟨(Q5 _ a7),?_⟩
  rw[V7 hz,V7 hz] at b9
  have f1:=b9
  obtain⟨g8,j7,rfl,_,_⟩:=f1
  have g7:=((d3.blk (k2.i a6.i) a4).i (Za d4)).i a7
  refine xlv (.o [] 0) g7.rp ?_
  have b4:=((d3.blk (b8.i a6.i) a3).i (Za d4)).i a7
  have g1:=n1.ge (B4 w)
  refine ysv (.o [] 5) b4 [V0 0,.bool false,S1,S1] (.t w.heap.size [191]) fun m5 g3 j5=>⟨(Zr g3 b4 g1 Do),?_⟩
  have h5:=g3.i (bln (bln (d3.i (bln d0 a6.i) h7) (Za d4)) a7) g1
  have b7:=b9.I g3 b4 Do
  refine xec (.r [6] 4) j5 (.tuple #[.agg #[V0 0,.bool false,S1,S1],.iface 201 (P0 g8)]) ?_
  have he:Xy l no tree=Ku (inB l no) tree:=by unfold Xy;rw[e4,V8 hs]
  exact .inl ⟨by rw[he];exact hz,_,rfl,h5,by rw[he];exact b7⟩
 have d7:=(bln (bln hB a0) a2).size
 refine xa 3 [V0 0,.bool false,S1,S1] 191 fun l4 l2 a8=>?_
 have e1:=(((n1.blk.i n2.i).i a0).i a2).i a1
 have b6:=a8.ne e1
 have k2:=((n2.blk.i a0).i a2).i a1
 have d8:=bln d1 a1
 have i0:=a8.ge d8
 refine xsv 0 a8.blk [V0 (Qt (inB l no)),.bool (Yg (inB l no)),.slice kp (Xa (inB l no)) kc,.slice vp (Xa (inB l no)) vc] fun l0 e5 i6=>?_
 refine xlv 15 i6.rp ?_
 have c8:=e5.blk (e1.i a8.i) b6
 refine xsv 0 c8 [V0 (Qt (inB l no)),.bool (Yg (inB l no)),.slice kp (Xa (inB l no)) kc,.slice vp (Xa (inB l no)) vc] fun l8 e9 j3=>?_
 have g1:=n1.ge (B4 w)
 have d6:=e9.i (e5.i (bln d8 a8.i) i0) g1
 have g0:=e9.j (e5.j (Zb (Zg hk d7) a8.i) a8.blk Do) c8 Do
 have e3:=e9.j (e5.j (Zb (Zg j4 d7) a8.i) a8.blk Do) c8 Do
 exact xec 4 j3 (.tuple #[.agg #[V0 (Qt (inB l no)),.bool (Yg (inB l no)),.slice kp (Xa (inB l no)) kc,.slice vp (Xa (inB l no)) vc],.nilIface]) (.inr ⟨by unfold Xy;rw[e4,V8 hs,hz],_,_,_,_,rfl,d6,g0,e3⟩)
theorem Sq(B b:Nat)(p:O0)(n c:Nat)(l:Bl)(no tree:Int)(w:V1)(hI:ImgR B b p n c l w) :
 C0 206 #[P0 b,V0 no,V0 tree] w (Zml l no tree w):=by
 refine zin 14 Tryz.func206 ?_
 refine xa 2 [V0 tree] 3 fun b1 W1 n1=>?_
 refine xa 0 [V0 0,.bool false,S1,S1] 191 fun b2 W2 n2=>?_
 have hB:=bln n1.i n2.i
 have k1:=n1.blk.i n2.i
 refine xc 8 (readNode B b p n c l no tree _ (hI.i hB) b1 k1) ?_
 rintro e W3 a8
 rcases a8 with ⟨he,bf,rfl,a0,hv⟩|⟨he,kp,kc,vp,vc,rfl,a0,hk,a7⟩
 ·have k2:=n2.blk.i a0
  refine xsv 2 k2 [V0 0,.bool false,S1,S1] fun W4 u4 k4=>?_
  have g2:=n2.ge n1.i
  have a4:=u4.i (bln hB a0) g2
  have a5:=hv.I u4 k2 Do
  exact xec 4 k4 (.tuple #[.agg #[V0 0,.bool false,S1,S1],.iface 201 (P0 bf)]) (.inl ⟨he,_,rfl,a4,a5⟩)
 have a6:=(bln n1.i n2.i).size
 have k2:=n2.blk.i a0
 refine xsv 2 k2 [V0 (Qt (inB l no)),.bool (Yg (inB l no)),.slice kp (Xa (inB l no)) kc,.slice vp (Xa (inB l no)) vc] fun W5 u5 k5=>?_
 have g2:=n2.ge n1.i
 have a3:=u5.i (bln hB a0) g2
 have a2:=u5.j (Zg hk a6) k2 Do
 have a1:=u5.j (Zg a7 a6) k2 Do
 exact xec 4 k5 (.tuple #[.agg #[V0 (Qt (inB l no)),.bool (Yg (inB l no)),.slice kp (Xa (inB l no)) kc,.slice vp (Xa (inB l no)) vc],.nilIface]) (.inr ⟨he,_,_,_,_,rfl,a3,a2,a1⟩)
theorem Az{l l':Bl}(h:l.length=l'.length)(h2:∀ j,j<l.length→l.getD j 0=l'.getD j 0):l=l':=by
 apply F6 h;intro j h3 h4;have:=h2 j h3;simpa [getD,h3,h4] using this
theorem Jz{l:Bl}{k:Nat}{x:Bl}(h:k+x.length≤l.length)(j:Nat):(Qj l k x).getD j 0=if k≤j∧j<k+x.length then x.getD (j-k) 0 else l.getD j 0:=by
 unfold Qj;simp only[getD];rw[A4,O3,O3];have e:(l.take k).length=k:=by simp;omega
 rw[e];by_cases h1:j<k
 ·rw[V8 h1,V7 M0,H2,V8 h1]
 ·rw[V7 h1];by_cases h2:j-k<x.length
  ·rw[V8 h2,V8 M0]
  ·rw[V7 h2,V7 M0,G0,show k+x.length+(j-k-x.length)=j by omega]
theorem Zd7{l l':Bl}:∀ (w k:Nat),(∀ j,k≤j→j<k+w→l.getD j 0=l'.getD j 0)→Zo l k w=Zo l' k w
 | 0,k,h=>rfl
 | w+1,k,h=>by rw[Zo,Zo,h k M0 M0,Zd7 w (k+1) fun j h1 h2=>h j M0 M0]
theorem Nu{l:Bl}:∀ (w k m:Nat),(∀ i,i<w→l.getD (k+i) 0=UInt8.ofNat (m/256 ^ i))→Zo l k w=m%256 ^ w
 | 0,k,m,h=>by simp[Zo,Nat.mod_one]
 | w+1,k,m,h=>by
  have h0:=h 0 M0;simp only[G4,Nat.pow_zero,Nat.div_one] at h0;have h1:=Nu (l:=l) w (k+1) (m/256) fun i hi=>by
   have:=h (i+1) M0;rw[M3,M4,←N4] at this;rw[show k+1+i=k+(i+1) by omega];exact this
  rw[Zo,h0,h1,M3,M4 (256 ^ w) 256,Nat.mod_mul];congr 1
theorem Zgg{l:Bl}{k w:Nat}{n:Int}(h:k+w≤l.length)(h0:0≤n)(hb:n.toNat<256 ^ w):(Zo (Qj l k (leB n w)) k w:Int)=n:=by
 rw[Nu w k n.toNat,E5 hb]
 ·omega
 ·intro i hi;rw[Jz (by rw[Zl];exact h),V8 (by rw[Zl];omega),show k+i-k=i by omega];simp[leB,Xh,getD,C1 hi]
theorem Vb{l x:Bl}{k j w:Nat}(h:k+x.length≤l.length)(hd:j+w≤k∨k+x.length≤j):Zo (Qj l k x) j w=Zo l j w :=
 Zd7 w j fun i h1 h2=>by rw[Jz h,V7 M0]
theorem Zxf{l:Bl}{k w:Nat}(h:∀ j,k≤j→j<k+w→l.getD j 0=0):Zo l k w=0:=by
 have:=Nu (l:=l) w k 0 fun i hi=>by rw[h (k+i) M0 M0];simp
 simpa using this
theorem sumB_put{l x:Bl}{kind:Int}(h:252≤l.length):Zjl (Qj l 252 x) kind=Zjl l kind:=by
 unfold Zjl Qj;rw[A4,List.take_append_of_le_length (by simp;omega),P8];rfl
theorem Ft(n j:Nat):(replicate n (0:UInt8)).getD j 0=0:=by
 simp[getD,L1];split<;>rfl
def Zgx(li:Bl):Bl:=li++replicate (244-li.length) 0
theorem Ziu{kind no:Int}{li:Bl}(h1:1≤kind)(h2:kind≤4)(h3:0≤no)(h4:no<14400)(hl:li.length≤244):Qz kind no (Yf kind no li)=0:=by
 have l1:=Nw hl;have l2:=Mb (no:=no) hl;have l3:=Uj (kind:=kind) (no:=no) hl;have l4:=Yr (kind:=kind) (no:=no) hl;have a0:Ex kind no (Yf kind no li) 0=false:=by simp only[Ex];rw[show Tl kind no=true from U0 M0];rfl
 have a1:Ex kind no (Yf kind no li) 1=false:=by simp only[Ex,l4];rfl
 have a2:Ex kind no (Yf kind no li) 2=false:=by
  have hs:Zjl (Yf kind no li) kind=Zjl (Dn kind no li) kind:=by unfold Yf;exact sumB_put M0
  have hr:(Zo (Yf kind no li) 252 4:Int)=(Zjl (Dn kind no li) kind:Int):=by
   unfold Yf;exact Zgg M0 M0 (by have:=Zt5 (Dn kind no li) kind;simpa using this)
  simp only[Ex,hr,hs];simp
 have a3:Ex kind no (Yf kind no li) 3=false:=by
  have hr:(Zo (Yf kind no li) 0 4:Int)=no:=by
   unfold Yf;rw[Vb (by rw[Zl];omega) (.inl M0)];unfold Dn;rw[Vb (by rw[Zl];omega) (.inl M0)];unfold Zk6;exact Zgg M0 M0 M0
  simp only[Ex,hr];simp
 have a4:Ex kind no (Yf kind no li) 4=false:=by
  have hr:(Zo (Yf kind no li) 4 2:Int)=kind:=by
   unfold Yf;rw[Vb (by rw[Zl];omega) (.inl M0)];unfold Dn;exact Zgg M0 M0 M0
  simp only[Ex,hr];simp
 have a5:Ex kind no (Yf kind no li) 5=false:=by
  have hr:Zo (Yf kind no li) 6 2=0:=by
   unfold Yf;rw[Vb (by rw[Zl];omega) (.inl M0)];unfold Dn;rw[Vb (by rw[Zl];omega) (.inr (by rw[Zl];omega))];unfold Zk6;rw[Vb (by rw[Zl];omega) (.inr (by rw[Zl];omega))];unfold Zid;rw[Vb (by rw[B7];omega) (.inl M0)];exact Zxf fun j _ _=>Ft 256 j
  simp only[Ex,hr];rfl
 simp[Qz,a0,a1,a2,a3,a4,a5]
theorem Zwu{kind no:Int}{li:Bl}(hl:li.length≤244):((Yf kind no li).drop 8).take 244=Zgx li:=by
 have l1:=Nw hl;have l2:=Mb (no:=no) hl;have l3:=Uj (kind:=kind) (no:=no) hl;have l4:=Yr (kind:=kind) (no:=no) hl;apply Az
 ·simp[Zgx,l4];omega
 ·intro j hj;have a0:j<244:=by simp[l4] at hj;omega
  have e:(((Yf kind no li).drop 8).take 244).getD j 0=(Yf kind no li).getD (8+j) 0:=by
   simp only[getD];rw[H2,V8 a0,G0]
  rw[e];unfold Yf;rw[Jz (by rw[Zl];omega),V7 (by rw[Zl];omega)];unfold Dn;rw[Jz (by rw[Zl];omega),V7 (by rw[Zl];omega)];unfold Zk6;rw[Jz (by rw[Zl];omega),V7 (by rw[Zl];omega)];unfold Zid;rw[Jz (by rw[B7];omega),Ft];unfold Zgx;simp only[getD];rw[O3];by_cases h:j<li.length
  ·rw[V8 ⟨M0,M0⟩,V8 h,show 8+j-8=j by omega]
  ·rw[V7 M0,V7 h];have:=Ft (244-li.length) (j-li.length);simp only[getD] at this;exact this.symm
theorem Fx{l x:Bl}{k:Nat}(hx:x.length=256)(hk:k<l.length/256):Kc (Qj l (k*256) x) k=x:=by
 have a0:k*256+256≤l.length:=M0;have hp:=Yk (l:=l) (k:=k*256) (x:=x) M0;apply Az
 ·rw[Hx (by rw[hp];exact hk),hx]
 ·intro j hj;rw[Hx (by rw[hp];exact hk)] at hj;have e:(Kc (Qj l (k*256) x) k).getD j 0=(Qj l (k*256) x).getD (k*256+j) 0:=by
   simp only[Kc,getD];rw[H2,V8 hj,G0]
  rw[e,Jz M0,V8 M0,show k*256+j-k*256=j by omega]
theorem Va{l x:Bl}{k i:Nat}(hx:x.length=256)(hk:k<l.length/256)(hne:i≠k)(hi:i<l.length/256):Kc (Qj l (k*256) x) i=Kc l i:=by
 have a0:k*256+256≤l.length:=M0;have hp:=Yk (l:=l) (k:=k*256) (x:=x) M0;apply Az
 ·rw[Hx (by rw[hp];exact hi),Hx hi]
 ·intro j hj;rw[Hx (by rw[hp];exact hi)] at hj;have e:∀ l:Bl,(Kc l i).getD j 0=l.getD (i*256+j) 0:=fun l=>by
   simp only[Kc,getD];rw[H2,V8 hj,G0]
  rw[e,e,Jz M0,V7 M0]
theorem getD_app{P Q:Bl}{k i:Nat}(hk:P.length=k):(P++Q).getD (k+i) 0=Q.getD i 0:=by
 subst hk;simp[getD,L8]
theorem getD_hd{P Q:Bl}{i:Nat}(hi:i<P.length):(P++Q).getD i 0=P.getD i 0:=by
 simp[getD,G5 hi]
theorem Gy{P Q:Bl}{k w:Nat}{x:Int}(hk:P.length=k)(h0:0≤x)(hb:x.toNat<256 ^ w):(Zo (P++(leB x w++Q)) k w:Int)=x:=by
 rw[Nu w k x.toNat,E5 hb]
 ·omega
 ·intro i hi;rw[getD_app hk,getD_hd (by rw[Zl];exact hi)];simp[leB,Xh,getD,C1 hi]
theorem Zgh{P Q:Bl}{k:Nat}(hk:P.length=k):(P++Q).drop k=Q:=M8 hk
theorem Zhl(n m:Nat):Hv ((replicate n (0:UInt8)).take m)=true:=by
 unfold Hv;rw[I0];intro x hx;have:=M1 hx;rw[(List.mem_replicate.1 this).2];rfl
theorem Zaw(K:V6 Int)(n j:Nat):∀ d,∃ X,Vt K n (j+d)=Vt K n j++X
 | 0=>⟨[],Y5⟩
 | d+1=>by
  obtain⟨X,hX⟩:=Zaw K n j d;exact⟨_,by rw[←F2,Hb,hX,A4]⟩
theorem Zau(Vs:V6 Bl)(j:Nat):∀ d,∃ X,Jg Vs (j+d)=Jg Vs j++X
 | 0=>⟨[],Y5⟩
 | d+1=>by
  obtain⟨X,hX⟩:=Zau Vs j d;exact⟨_,by rw[←F2,Lm,hX,A4]⟩
theorem Ta{l:Bl}:∀ {n:Nat},(∀ i,i<n→Zf9 l i=0)→Vh l n=0
 | 0,_=>rfl
 | n+1,h=>Ck (Ta fun i hi=>h i M0) (h n M0)
theorem getD_ext{l l':V6 Int}(h:l.length=l'.length)(h2:∀ j,j<l.length→l.getD j 0=l'.getD j 0):l=l':=by
 apply F6 h;intro j h3 h4;have:=h2 j h3;simpa [getD,h3,h4] using this
theorem Zw0{l l':V6 Bl}(h:l.length=l'.length)(h2:∀ j,j<l.length→l.getD j []=l'.getD j []):l=l':=by
 apply F6 h;intro j h3 h4;have:=h2 j h3;simpa [getD,h3,h4] using this
structure NodBack(b:V6 UInt8)(t:Int)(dx:Bool)(n m v:Nat)(K:V6 Int)(Vs:V6 (V6 UInt8)):Prop where
 len:b.length=244
 e:We b=0
 t:Qt b=t
 l:Yg b=dx
 c:Xa b=n
 k:Hy b n=K
 v:Nt b n=Vs
theorem Ar{t:Int}{dx:Bool}{n m v:Nat}{K:V6 Int}{Vs:V6 Bl}(N:NodeOk t dx n m v K Vs):NodBack (Pk m v (Gb t dx n m v) K Vs n) t dx n m v K Vs:=by
 have b0:=Qc t dx;rw[N.hm] at b0;have b1:=Ow t dx;rw[N.hv] at b1;have a1:=fitN t dx;rw[N.hm,N.hv] at a1;have a6:=N.ht1;have a7:=N.ht2;have a8:=N.hn;have a0:=Zc4 (H:=Gb t dx n m v) (K:=K) (Vs:=Vs) (Hn _ _ _ _ _) a1 a8 (fun j hj=>N.hw j hj);have a3:=Zas (H:=Gb t dx n m v) (K:=K) (Vs:=Vs) (Hn _ _ _ _ _) a1 a8 (fun j hj=>N.hw j hj);generalize Pk m v (Gb t dx n m v) K Vs n=b at a0 a3;obtain⟨R,hR⟩:∃ R,b=Gb t dx n m v++R:=⟨_,by rw[a0,A4,A4]⟩;have a9:=Zfo dx;have r0:(Zo b 0 1:Int)=Ll dx:=by
  rw[hR,Gb];simp only[A4];exact Gy (P:=[]) (k:=0) (w:=1) (x:=Ll dx) rfl a9.1 (I6 (show(Ll dx).toNat≤255 by omega) Do)
 have r1:(Zo b 1 1:Int)=t:=by
  rw[hR,Gb];simp only[A4];exact Gy (P:=leB (Ll dx) 1) (by rw[Zl]) M0 M0
 have r2:(Zo b 2 2:Int)=(n:Int):=by
  rw[hR,Gb];simp only[A4];rw[←A4];exact Gy (P:=leB (Ll dx) 1++leB t 1) (by simp[Zl]) M0 M0
 have r4:(Zo b 4 2:Int)=(v:Int):=by
  rw[hR,Gb];simp only[A4];rw[←A4,←A4];exact Gy (P:=leB (Ll dx) 1++leB t 1++leB (n:Int) 2) (by simp[Zl]) M0 M0
 have r6:(Zo b 6 2:Int)=(m:Int):=by
  rw[hR,Gb];simp only[A4];rw[←A4,←A4,←A4];exact Gy (P:=leB (Ll dx) 1++leB t 1++leB (n:Int) 2++leB (v:Int) 2) (by simp[Zl]) M0 M0
 have r8:(Zo b 8 4:Int)=0:=by
  rw[hR,Gb];simp only[A4];rw[←A4,←A4,←A4,←A4];exact Gy (P:=leB (Ll dx) 1++leB t 1++leB (n:Int) 2++leB (v:Int) 2++leB (m:Int) 2) (by simp[Zl]) M0 Do
 have eT:Qt b=t:=r1;have eL:Yg b=dx:=by
  unfold Yg;rw[r0];cases dx<;>rfl
 have eC:Xa b=n:=by unfold Xa;omega
 have eW:Jt b=v:=by unfold Jt;rw[eT,eL,widG,V8 ⟨a6,a7⟩];exact N.hv
 have eM:Gu b=m:=by unfold Gu;rw[eT,eL,Zvz,V8 ⟨a6,a7⟩];exact N.hm
 have a2:∀ i,i<n→(Zgp b i:Int)=K.getD i 0:=by
  intro i hi;obtain⟨X,hX⟩:=Zaw K n (i+1) (m-(i+1));rw[show i+1+(m-(i+1))=m by omega,Hb,V8 hi] at hX;unfold Zgp;rw[a0,hX];have hk:=N.hk0 i hi;have:=Gy (P:=Gb t dx n m v++Vt K n i) (Q:=X++(Jg Vs n++replicate (232-m*8-n*v) 0)) (k:=12+i*8) (w:=8) (x:=K.getD i 0) (by rw[A1,Hn,Wn]) hk.1 (I6 (show(K.getD i 0).toNat≤281474976710655 by omega) Do);simp only[A4] at this ⊢;exact this
 have a4:∀ i,i<n→Zo3 b i=Vs.getD i []:=by
  intro i hi;obtain⟨X,hX⟩:=Zau Vs (i+1) (n-(i+1));rw[show i+1+(n-(i+1))=n by omega,Lm] at hX;have a5:(Jg Vs i).length=i*v:=Dj fun j hj=>N.hw j M0;unfold Zo3;rw[eM,eW,a0,hX];have:=Zgh (P:=Gb t dx n m v++Vt K n m++Jg Vs i) (Q:=Vs.getD i []++(X++replicate (232-m*8-n*v) 0)) (k:=12+m*8+i*v) (by rw[A1,A1,Hn,Wn,a5]);simp only[A4] at this ⊢;rw[this];exact M7 (N.hw i hi)
 refine⟨a3,?_,eT,eL,eC,?_,?_⟩
 ·have hs:Zax b=true:=by
   unfold Zax;rw[eW,eM];refine U0 ⟨?_,M0,M0,M0,M0,M0,?_⟩
   ·cases dx<;>simp only[Ll] at r0<;>simp at r0<;>omega
   ·cases dx with
    | true=>left;simp only[Ll] at r0;simp at r0;omega
    | false=>right;have:=N.hl rfl;omega
  have hz:Zlj b=true:=by
   unfold Zlj Ze8 Zpi Zej;rw[eC,eM,eW,E2];constructor
   ·have hk:=Pi K n (m-n);rw[show n+(m-n)=m by omega] at hk;have:=Zgh (P:=Gb t dx n m v++Vt K n n) (Q:=replicate ((m-n)*8) 0++(Jg Vs n++replicate (232-m*8-n*v) 0)) (k:=12+n*8) (by rw[A1,Hn,Wn]);rw[a0,hk];simp only[A4] at this ⊢;rw[this,List.take_append_of_le_length (by rw[B7];omega)];exact Zhl _ _
   ·have a5:(Jg Vs n).length=n*v:=Dj fun j hj=>N.hw j hj;have:=Zgh (P:=Gb t dx n m v++Vt K n m++Jg Vs n) (Q:=replicate (232-m*8-n*v) 0) (k:=12+m*8+n*v) (by rw[A1,A1,Hn,Wn,a5]);rw[a0,this];exact Zhl _ _
  unfold We;rw[V8 hs,V8 hz,eC];refine Ta fun i hi=>?_;have h1:=a2 i hi;have h2:=N.hk0 i hi;unfold Zf9;rw[V7 M0,V7 ?_];rintro⟨h3,h4⟩;have h5:=a2 (i-1) M0;have h6:=N.hk1 (i-1) M0;rw[show i-1+1=i by omega] at h6;omega
 ·exact getD_ext (by rw[Bb,N.hK]) fun j hj=>by rw[Bb] at hj;rw[Zjc b hj];exact a2 j hj
 ·exact Zw0 (by rw[Cj,N.hV]) fun j hj=>by rw[Cj] at hj;rw[Zhi b hj];exact a4 j hj
theorem Ze2{t:Int}{dx:Bool}{n m v:Nat}{K:V6 Int}{Vs:V6 Bl}(N:NodeOk t dx n m v K Vs){l:Bl}{j len:Nat}(hl:l.length=len)(hj:j<len/256)(h4:j<14400)(hb:Kc l j=Yf 2 (j:Int) (Pk m v (Gb t dx n m v) K Vs n))(tree:Int)(ht:tree=0∨t=tree) :
 Xy l (j:Int) tree=0∧inB l (j:Int)=Pk m v (Gb t dx n m v) K Vs n:=by
 have B:=Ar N
 have a0:inB l (j:Int)=Pk m v (Gb t dx n m v) K Vs n:=by
  rw[Zdh (no:=(j:Int)) (j:=j) rfl,hb,Zwu (by rw[B.len];decide)];unfold Zgx;rw[B.len];simp
 refine⟨?_,a0⟩
 unfold Xy
 rw[Zdm (no:=(j:Int)) (j:=j) hl rfl hj,hb,V8 (Ziu Do Do M0 M0 (by rw[B.len];decide)),a0]
 unfold Ku
 rw[V8 B.e,V8 (by rw[B.t];exact ht)]
theorem Ic{q:Nat}(h1:1≤q)(h2:q≤14399):Qi (leB (q:Int) 4)=0∧(Ga (leB (q:Int) 4):Int)=(q:Int):=by
 have hr:(Zo (leB (q:Int) 4) 0 4:Int)=(q:Int):=by
  have:=Gy (P:=[]) (Q:=[]) (k:=0) (w:=4) (x:=(q:Int)) rfl M0 (I6 (show(q:Int).toNat≤14399 by omega) Do);simpa using this
 have he:Qi (leB (q:Int) 4)=0:=by
  unfold Qi;rw[V8 (Zl _ _),V8 M0]
 exact⟨he,by unfold Ga;rw[V8 he];exact hr⟩
theorem unp_put{ps:V6 Ly}{N:V6 Int}{C:Bl}:∀ k,k≤ps.length→(∀ i,i<k→0≤N.getD i 0∧(N.getD i 0).toNat<256 ^ (ps.getD i Yx).1) →
 Mk (Tr ps N k++C) 0 (Nn ps k)=(range k).map fun i=>(N.getD i 0).toNat:=by
 intro k
 induction k generalizing C with
 | zero=>intro _ _;rfl
 | succ k ih =>
  intro hk h
  have e:Tr ps N (k+1)++C=Tr ps N k++(leB (N.getD k 0) (ps.getD k Yx).1++C):=by rw[Fg,A4]
  rw[Hr,Fj,e,ih M0 fun i hi=>h i M0,B8,A6]
  congr 1
  have h2:=h k M0
  have:=Gy (P:=Tr ps N k) (Q:=C) (k:=0+(Nn ps k).sum) (w:=(ps.getD k Yx).1) (x:=N.getD k 0) (by rw[Dg];omega) h2.1 h2.2
  simp only[D7,H0,I5,and_true]
  omega
theorem Zoo{ps:V6 Ly}{N:V6 Int}(hp:Gm ps)(hN:N.length=ps.length)(h:Wg ps N ps.length=true):Xn ps (Tr ps N ps.length)=0∧∀ i,i<ps.length→(((Xq ps (Tr ps N ps.length)).getD i 0:Nat):Int)=N.getD i 0:=by
 have a0:=h;unfold Wg at a0;rw[I0] at a0;have hb:∀ i,i<ps.length→0≤N.getD i 0∧(N.getD i 0).toNat<256 ^ (ps.getD i Yx).1:=fun i hi=>by
  have h1:=U1 (a0 i (A7.2 hi));have h2:=hp.2 i hi;refine⟨M0,?_⟩;rcases h2.1 with h4|h8
  ·have:=h2.2.2.2 h4;rw[h4,show(256:Nat) ^ 4=4294967296 from rfl];omega
  ·rw[h8,show(256:Nat) ^ 8=18446744073709551616 from rfl];omega
 have hr:Np ps (Tr ps N ps.length)=(range ps.length).map fun i=>(N.getD i 0).toNat:=by
  have:=unp_put (ps:=ps) (N:=N) (C:=[]) ps.length (At _) hb;rw[F4] at this;exact this
 have hg:∀ i,i<ps.length→(((Np ps (Tr ps N ps.length)).getD i 0:Nat):Int)=N.getD i 0:=fun i hi=>by
  rw[hr];have:=(hb i hi).1;simp only[getD,C3,C1 hi,D3,K2] at this ⊢;omega
 have he:Xn ps (Tr ps N ps.length)=0:=by
  unfold Xn;rw[V8 (Dg _ _ _),V8];unfold Pv Wg;rw[I0];intro i hi;have hi:=A7.1 hi;have e:((Np ps (Tr ps N ps.length)).map fun n:Nat=>(n:Int)).getD i 0=N.getD i 0:=by
   rw[←hg i hi];simp[getD,show i<(Np ps (Tr ps N ps.length)).length by rw[Rb];exact hi]
  rw[e];exact a0 i (A7.2 hi)
 refine⟨he,fun i hi=>?_⟩;unfold Xq;rw[V8 he];exact hg i hi
def Zta(m:Mp):Bl:=Tr Mo [m.2.1*16777216+m.2.2] 1
theorem mapV_len(m:Mp):(Zta m).length=8:=by unfold Zta;rw[Dg];rfl
def Pr(n:Int)(d:Dv):Bl:=Tr Nb [n,d.1.2.1,d.1.2.2.1,d.1.2.2.2] 4
theorem Zrl(n:Int)(d:Dv):(Pr n d).length=24:=by unfold Pr;rw[Dg];rfl
def Up(M:V6 Mp):V6 Ent:=M.map fun m=>(m.1,Zta m,0)
theorem Jo(M:V6 Mp):(Up M).length=M.length:=A3 ..
def dvD:Dv:=((0,0,0,0),[])
def Wd(L:V6 Dv)(R:Nat→Nat):V6 Ent:=(range L.length).map fun i=>((L.getD i dvD).1.1,leB (R i:Int) 4,0)
def Po(L:V6 Dv)(C:Nat→Int):V6 Ent:=(range L.length).map fun i=>((L.getD i dvD).1.1,Pr (C i) (L.getD i dvD),0)
theorem Yw(L:V6 Dv)(R:Nat→Nat):(Wd L R).length=L.length:=by simp[Wd]
theorem Kr(L:V6 Dv)(C:Nat→Int):(Po L C).length=L.length:=by simp[Po]
theorem Ui{L:V6 Dv}{R:Nat→Nat}{i:Nat}(h:i<L.length):(Wd L R).getD i Zn=((L.getD i dvD).1.1,leB (R i:Int) 4,0):=by simp[Wd,getD,C1 h]
theorem Pa{L:V6 Dv}{C:Nat→Int}{i:Nat}(h:i<L.length):(Po L C).getD i Zn=((L.getD i dvD).1.1,Pr (C i) (L.getD i dvD),0):=by simp[Po,getD,C1 h]
theorem Md{M:V6 Mp}{i:Nat}(h:i<M.length):(Up M).getD i Zn=((M.getD i (0,0,0)).1,Zta (M.getD i (0,0,0)),0):=by simp[Up,getD,h]
theorem mapEs_ok{data:Int}{M:V6 Mp}(h:MapsOk data M):EntsOk 8 (Up M):=by
 refine⟨fun i hi=>?_,fun j hj=>?_,fun i hi=>?_⟩
 ·rw[Jo] at hi;rw[Md hi];have:=h.each (M.getD i (0,0,0)) (by simp[getD,hi]);exact this.1
 ·rw[Jo] at hj;rw[Md M0,Md hj];have:=List.pairwise_iff_getElem.1 h.rise j (j+1) M0 hj M0;simpa [getD,hj,show j<M.length by omega] using this
 ·rw[Jo] at hi;rw[Md hi];exact mapV_len _
theorem Zmo{data:Int}{L:V6 Dv}(h:DevsOk data L):(∀ i,i<L.length→0≤(L.getD i dvD).1.1∧(L.getD i dvD).1.1≤281474976710655)∧∀ j,j+1<L.length→(L.getD j dvD).1.1<(L.getD (j+1) dvD).1.1:=by
 refine⟨fun i hi=>?_,fun j hj=>?_⟩
 ·have:=(h.each (L.getD i dvD) (by simp[getD,hi])).id;omega
 ·have:=List.pairwise_iff_getElem.1 h.rise j (j+1) M0 hj M0;simpa [getD,hj,show j<L.length by omega] using this
theorem topEs_ok{data:Int}{L:V6 Dv}{R:Nat→Nat}(h:DevsOk data L):EntsOk 4 (Wd L R):=by
 obtain⟨h1,h2⟩:=Zmo h;refine⟨fun i hi=>?_,fun j hj=>?_,fun i hi=>?_⟩
 ·rw[Yw] at hi;rw[Ui hi];exact h1 i hi
 ·rw[Yw] at hj;rw[Ui M0,Ui hj];exact h2 j hj
 ·rw[Yw] at hi;rw[Ui hi];exact Zl _ _
theorem detEs_ok{data:Int}{L:V6 Dv}{C:Nat→Int}(h:DevsOk data L):EntsOk 24 (Po L C):=by
 obtain⟨h1,h2⟩:=Zmo h;refine⟨fun i hi=>?_,fun j hj=>?_,fun i hi=>?_⟩
 ·rw[Kr] at hi;rw[Pa hi];exact h1 i hi
 ·rw[Kr] at hj;rw[Pa M0,Pa hj];exact h2 j hj
 ·rw[Kr] at hi;rw[Pa hi];exact Zrl _ _
def Zwe(B ba b g nn cc:Nat)(pa:O0)(ca f N k0:Nat)(bs:Bl)(t:Int)(dx:Bool)(m v:Nat)(l:V6 Ent)(w:V1)(e:V5)(w':V1):Prop :=
 ∃ p c,e=.returned (.tuple #[.slice p (ovN l.length m) c,.nilIface])∧Below B w w'∧Zd [169,5] w w'∧Fr [ba,g] w w'∧Al B ba b g nn cc pa ca f N (k0+ovN l.length m) (Pp t dx m v l (f+k0) bs (ovN l.length m)) w'∧w'.ownsRow w.heap.size 124 3 (.slice p (ovN l.length m) c) (ovN l.length m) ((upE l m (f+k0) (ovN l.length m)).flatMap Ki)
theorem Zjt(B ba b g nn cc:Nat)(pa:O0)(ca f N k0:Nat)(bs:Bl)(t:Int)(dx:Bool)(m v:Nat)(a:O0)(c:Nat)(l:V6 Ent)(w:V1)(hC:AlC B ba nn cc ca f N)(hA:Al B ba b g nn cc pa ca f N k0 bs w)(ht1:1≤t)(ht2:t≤5)(hm:Jj t dx=m)(hv:Jl t dx=v)(E:EntsOk v l)(hl:dx=false→1≤l.length)(hn:l.length≤32768)(hf1:1≤f)(hk:k0+ovN l.length m≤N)(hin:∀ W,Below B w W→Zd [169,5] w W→Sts Ki W (.slice a l.length c) l)(hBw:B≤w.heap.size) :
 C0 215 #[P0 ba,V0 t,.bool dx,.slice a l.length c] w (Zwe B ba b g nn cc pa ca f N k0 bs t dx m v l w):=by
 have n4:=Qc t dx
 rw[hm] at n4
 have o2:=hC.hf
 have o5:=hC.hn
 refine zin 96 Tryz.func215 ?_
 refine xr 18 (Zbf t dx m hm ht1 ht2 _) fun W1 g2=>?_
 refine xc 0 (Zrd l.length m _ hn M0 M0) ?_
 rintro _ W2 ⟨_,rfl,i4,ps,cs,rfl,e2⟩
 have n1:=(blB (U3 B w) hBw g2).size
 have f5:=Zg e2 n1
 have k4:=(hA.i g2).i i4
 have hB:=blB (blB (U3 B w) hBw g2) hBw i4
 have hX:=(show Fr [ba,g] w _ from(Q2 g2)).trans (Q2 i4)
 have hO:=(show Zd [169,5] w _ from(Q0 g2)).trans (Q0 i4)
 refine zl 5 96 (fun zm j9 V=>∃ (i:Nat) (a2:O0) (c2:Nat) (l2:V6 Ent) (p4:O0) (c4:Nat),j9=[(0,P0 ba),(1,V0 t),(2,.bool dx),(3,.slice a2 l2.length c2),(10,.slice p4 i c4),(26,.slice ps (ovN l.length m) cs),(27,V0 (↑(ovN l.length m):Int)),(28,V0 (i:Int))]∧zm=ovN l.length m-((i:Int)).toNat∧Below B w V∧Fr [ba,g] w V∧Zd [169,5] w V∧V.ownsRow w.heap.size 3 1 (.slice ps (ovN l.length m) cs) (ovN l.length m) ((sizL l.length m).map nv)∧V.ownsRow w.heap.size 124 3 (.slice p4 i c4) i ((upE l m (f+k0) i).flatMap Ki)∧Al B ba b g nn cc pa ca f N (k0+i) (Pp t dx m v l (f+k0) bs i) V∧(∀ W,Below B w W→Zd [169,5] w W→Sts Ki W (.slice a2 l2.length c2) l2)∧i≤ovN l.length m∧l2=l.drop (i*m)) ⟨0,a,c,l,none,0,rfl,rfl,hB,hX,hO,f5,A8 _ _ _ _,k4,?_,A5 _,Y5⟩ ?_
 ·exact hin
 rintro _ _ W3 ⟨i,a2,c2,l2,p4,c4,rfl,rfl,d3,e3,d6,e2,l5,hA,i5,hi,f2⟩ J3 l4 r3
 have l9:=Sl.cap (i5 _ d3 d6)
 have o7:i<ovN l.length m→i*m≤l.length:=Zg3 M0
 have i7:l2.length=l.length-i*m:=by rw[f2];simp
 have h0:Yq l.length m i≤l2.length:=by rw[i7];unfold Yq;omega
 refine xid 6 ((i:Int)<(↑(ovN l.length m):Int)) (fun m8=>?_) (fun m8=>?_)
 ·refine xx 6 _ (ovN l.length m) i 1 (Zn3 (Zf e2) (k:=i) M0).1 ?_
  refine xl 0 ((Zn3 (Zf e2) (k:=i) M0).2) ?_
  have i1:=d3
  have c8:=d6
  have d2:=e3
  refine xa 8 [V0 0,.bool false,S1,S1] 191 fun b6 W6 n6=>?_
  refine xsv 0 n6.blk [V0 t,.bool dx,S1,S1] fun W7 u7 k7=>?_
  have g6:=n6.ge (B4 W3)
  refine xsH 7 (fun _ _ _ _ zo zx zy V=>Ka (k:=(Yq l.length m i)) (b:=a2) (n:=l2.length) (c:=c2) (i:=(↑(Yq l.length m i):Int)) (ki:=.i64) zo zx zy rfl M0 Tryz.underlying99 K0 V) ?_
  have hB:=u7.i n6.i g6
  refine zl 5 96 (fun zm j9 V=>∃ (j:Nat) (kp:O0) (kc:Nat) (vp:O0) (vc:Nat),j9=[(0,P0 ba),(1,V0 t),(2,.bool dx),(3,.slice a2 l2.length c2),(10,.slice p4 i c4),(12,V0 (↑(Yq l.length m i):Int)),(13,P0 b6),(26,.slice ps (ovN l.length m) cs),(27,V0 (↑(ovN l.length m):Int)),(28,V0 (i:Int)),(37,.slice a2 (Yq l.length m i) c2),(38,V0 (↑(Yq l.length m i):Int)),(39,V0 (j:Int))]∧zm=Yq l.length m i-((j:Int)).toNat∧B3 W3 V∧Blk V b6 ([V0 t,.bool dx,.slice kp j kc,.slice vp j vc]) 191∧V.ownsRow W3.heap.size 3 1 (.slice kp j kc) j (((Vy l2).take j).map V0)∧V.ownsRow W3.heap.size 9 1 (.slice vp j vc) j (((Hh l2).take j).map sv)∧j≤Yq l.length m i) ⟨0,none,0,none,0,rfl,rfl,hB,k7,A8 _ _ _ _,A8 _ _ _ _,A5 _⟩ ?_
  rintro _ _ W8 ⟨j,kp,kc,vp,vc,rfl,rfl,c1,b5,hK,hV,hj⟩ J8 m0 r8
  refine xid 6 ((j:Int)<(↑(Yq l.length m i):Int)) (fun m2=>?_) (fun m2=>?_)
  ·have b2:=i5 _ i1 c8
   refine xx 6 _ (Yq l.length m i) j 3 (Sts.cell b2 Qg Zn (k:=j) (i:=0) M0 rfl).1 ?_
   refine xlv 0 (Sts.rp (k:=j) (b2.i c1) Qg Zn M0 Do) ?_
   refine xa 0 [V0 0,.string ⟨#[]⟩,V0 0] 124 fun o1 q6 b9=>?_
   have m9:=b9.ge c1
   refine xsv 0 b9.blk [V0 ((l2.getD j Zn).1),.string ⟨((l2.getD j Zn).2.1).toArray⟩,V0 ((l2.getD j Zn).2.2)] fun o8 i2 l7=>?_
   have b1:=i2.A (b5.i b9.i) b9.blk Do
   refine xb 5 2 b1 ?_
   refine xb 1 0 l7 ?_
   refine xbs 0 1 [V0 ((l2.getD j Zn).1)] 3 fun o4 q5 e1=>?_
   have k3:=i2.i (bln c1 b9.i) m9
   have j5:=i2.j (Zb hK b9.i) b9.blk Do
   have c5:=Zb j5 e1.i
   have f9:=bln k3 e1.i
   refine xbi 0 fun _ _ _ _ zJ zQ zo zx zy zK=>Xd (m:=1) (news:=[V0 ((l2.getD j Zn).1)]) (V0 0) 1 8 (j+1) (((Vy l2).take (j+1)).map V0) zo Tryz.underlying27 K0 rfl Do zx c5 zy (e1.blk.sl 1 1 Do Do) rfl Y4 Y2 M0 f9.size Y6 ((Zxe M0).symm) fun f4 f0 q0 m4 d8 j6=>?_
   refine zK _ _ ?_
   have a1:=(b1.i e1.i).grown d8 c5 Do
   refine xs 1 a1 [V0 t,.bool dx,.slice f4 (j+1) f0,.slice vp j vc] fun p5 i0 l6=>?_
   refine xb 4 3 l6 ?_
   have e4:=i0.A ((l7.i e1.i).grown d8 c5 Do) a1 Do
   refine xb 1 1 e4 ?_
   refine xbs 0 1 [.string ⟨((l2.getD j Zn).2.1).toArray⟩] 9 fun o6 p2 e6=>?_
   have k8:=i0.i (f9.trans j6) g6
   have i9:=i0.j (Zt (Zb (i2.j (Zb hV b9.i) b9.blk Do) e1.i) d8 c5 Do) a1 Do
   have d4:=Zb i9 e6.i
   have g7:=bln k8 e6.i
   refine xbi 0 fun _ _ _ _ zJ zQ zo zx zy zK=>Xd (m:=1) (news:=[.string ⟨((l2.getD j Zn).2.1).toArray⟩]) (.string ⟨#[]⟩) 1 16 (j+1) (((Hh l2).take (j+1)).map sv) zo Tryz.underlying109 K0 rfl Do zx d4 zy (e6.blk.sl 1 1 Do Do) rfl Y4 Y2 M0 g7.size Y6 ((Zx3 M0).symm) fun j7 k9 p7 n3 g1 j0=>?_
   refine zK _ _ ?_
   have b4:=(l6.i e6.i).grown g1 d4 Do
   refine xs 1 b4 [V0 t,.bool dx,.slice f4 (j+1) f0,.slice j7 (j+1) k9] fun p0 i8 n0=>?_
   refine xwm 4 ((j:Int)+1) (↑(j+1):Int) ?_
   have k6:=i8.i (g7.trans j0) g6
   have e5:=i8.j (Zt (Zb (i0.j m4 a1 Do) e6.i) g1 d4 Do) b4 Do
   have e8:=i8.j n3 b4 Do
   exact ze 2 (m0 _ _ _ ⟨j+1,_,_,_,_,rfl,rfl,k6,n0,e5,e8,M0⟩ M0)
  refine xsL 9 (fun _ _ _ _ zo zx zy V=>Wv (k:=(Yq l.length m i)) (b:=a2) (n:=l2.length) (c:=c2) (i:=(↑(Yq l.length m i):Int)) (ki:=.i64) 3 zo zx zy rfl M0 Tryz.underlying99 K0 V) ?_
  refine xlv 5 b5.rp ?_
  have a6:B3 W3 W8:=c1
  have f7:w.heap.size≤W3.heap.size:=i1.size
  have g3:Yq l.length m i=j:=M0
  have n5:(Vy l2).take j=Vy (Xb l m i):=by rw[f2];exact Zrf g3
  have m3:(Hh l2).take j=Hh (Xb l m i):=by rw[f2];exact Zse g3
  have i3:(Xb l m i).length=j:=by rw[Hu,g3]
  have d5:=Zg hK f7
  rw[n5] at d5
  have f3:=Zg hV f7
  rw[m3] at f3
  have hN:=Mu E ht1 ht2 hm hv hl (show i<ovN l.length m by omega)
  have g8:=Am hN
  rw[i3] at hN
  have n8:Pk m v (Gb t dx j m v) (Vy (Xb l m i)) (Hh (Xb l m i)) j=Zs9 t dx m v (Xb l m i):=by rw[←i3];rfl
  refine xc 0 (node_Put t dx j m v (Vy (Xb l m i)) (Hh (Xb l m i)) kp vp kc vc _ hN (Zf d5) (Zf f3)) ?_
  rintro _ q7 ⟨_,rfl,a4,p6,c6,rfl,h6⟩
  have k1:=(blB i1 hBw a6).size
  have f1:=Zg h6 k1
  rw[n8] at f1
  have l0:=(hA.i a6).i a4
  have hO:=(c8.trans (Q0 a6)).trans (Q0 a4)
  have hB:=blB (blB i1 hBw a6) hBw a4
  refine xc 21 (args:=#[P0 ba,V0 2,.slice p6 244 c6]) (Cz B ba b g nn cc pa ca f N (k0+i) (Pp t dx m v l (f+k0) bs i) 2 p6 c6 (Zs9 t dx m v (Xb l m i)) (f+k0+i) 244 _ (F2 _ _ _).symm g8 hC l0 M0 Do Do (fun W _ hO=>Vr (Zf (Zi f1 hO Do)) g8) Do (N0 hBw hB.size)) ?_
  rintro _ p3 ⟨rfl,j2,a9,g9,hA⟩
  refine xr 20 (Zcz ((f+k0+i:Nat):Int) M0 M0 _) fun o9 a0=>?_
  refine xa 2 [V0 0,.string ⟨#[]⟩,V0 0] 124 fun q4 p9 a3=>?_
  have d9:=blB (hB.trans j2) hBw a0
  have c3:=a3.Q d9
  have b3:=Zb (Zi (Zb (Zb l5 a6) a4) a9 Do) a0
  have a5:=Hg b3 a3
  refine xsv 0 a3.blk [V0 0,.string ⟨(leB (↑(f+k0+i):Int) 4).toArray⟩,V0 (↑(f+k0+i):Int)] fun q3 b0 h3=>?_
  refine xid 9 ((↑(Yq l.length m i):Int)>(0:Int)) (fun l1=>?_) (fun l1=>?_)
  ·have g5:((Vy (Xb l m i))).getD 0 0=((Xb l m i).getD 0 Zn).1:=Zx0 g3 M0
   have b8:=b0.A ((((b5.i a4).q a9 Do).i a0).i a3.i) a3.blk Do
   refine xb 2 2 b8 ?_
   have h4:=b0.j (Zb (Zb (Zi (Zb d5 a4) a9 Do) a0) a3.i) a3.blk Do
   refine xx 0 _ j 0 1 (IntsN.elem (Zf h4) (by rw[Cv,i3]) (k:=0) M0).1 ?_
   refine xl 0 ((IntsN.elem (Zf h4) (by rw[Cv,i3]) (k:=0) M0).2) ?_
   refine xs 1 h3 [V0 ((Vy (Xb l m i)).getD 0 0),.string ⟨(leB (↑(f+k0+i):Int) 4).toArray⟩,V0 (↑(f+k0+i):Int)] fun o0 e0 l8=>?_
   refine xlv 4 l8.rp ?_
   refine xbs 0 1 [V0 ((Vy (Xb l m i)).getD 0 0),.string ⟨(leB (↑(f+k0+i):Int) 4).toArray⟩,V0 (↑(f+k0+i):Int)] 124 fun q1 o3 d1=>?_
   have h9:=d1.ne l8
   have l3:=e0.i (b0.i (blB d9 hBw a3.i) (N0 hBw c3)) (N0 hBw c3)
   have g0:=e0.O (b0.O (Zb b3 a3.i) a5) a5
   have a8:=Zb g0 d1.i
   have h7:=blB l3 hBw d1.i
   refine xbi 0 fun _ _ _ _ zJ zQ zo zx zy zK=>Xd (m:=1) (news:=[V0 ((Vy (Xb l m i)).getD 0 0),.string ⟨(leB (↑(f+k0+i):Int) 4).toArray⟩,V0 (↑(f+k0+i):Int)]) (.agg #[V0 0,.string ⟨#[]⟩,V0 0]) 3 32 (i+1) ((upE l m (f+k0) (i+1)).flatMap Ki) zo Tryz.underlying99 K0 rfl Do zx a8 zy (d1.blk.sl 1 1 Do Do) rfl Y4 Y2 M0 h7.size Y6 (up_row (by first|exact g5|exact c7)) fun n2 n7 p8 m7 b7 j8=>?_
   refine zK _ _ ?_
   refine xwm 5 ((i:Int)+1) (↑(i+1):Int) ?_
   refine xv1 2 3 (show(.slice (Li a2 (Yq l.length m i) c2 3) (l2.length-(Yq l.length m i)) (c2-(Yq l.length m i)):V2)=.slice (Li a2 (Yq l.length m i) c2 3) ((l2.drop (Yq l.length m i)).length) (c2-Yq l.length m i) from by rw[L3]) ?_
   have j4:=(((((hA.i a0).i a3.i).q (Q1 (T:=[124]) b0 a3.blk Do) Do).q (Q1 (T:=[124]) e0 h3 Do) Do).i d1.i).q (Q4 (T:=[124]) b7 a8 Do) Do
   have d7:l2.drop (Yq l.length m i)=l.drop ((i+1)*m):=by
    rw[f2,N8,G8,I1];unfold Yq;rcases Nat.le_total m (l.length-i*m) with q|q
    ·rw[I4 q]
    ·rw[Nat.min_eq_right q,E3 M0,E3 M0]
   have j1:=h7.trans (j8.mono hBw)
   have hX:=(Y0 ((Q8 (Q8 (((((d2.trans (Q2 a6)).trans (Q2 a4)).trans (g9.mono Y5)).trans (Q2 a0)).trans (Q2 a3.i)) b0 c3) e0 c3).trans (Q2 d1.i)) b7 a8)
   have k2:=(Q6 ((Q3 (Q3 (((hO.trans a9).trans (Q0 a0)).trans (Q0 a3.i)) b0 c3) e0 c3).trans (Q0 d1.i)) b7 a8)
   have h5:=Zt (Zb (e0.j (b0.j (Zb (Zb (Zi (Zb (Zb e2 a6) a4) a9 Do) a0) a3.i) a3.blk Do) h3 Do) d1.i) b7 a8 Do
   exact ze 0 (l4 _ _ _ ⟨i+1,_,_,(l2.drop (Yq l.length m i)),_,_,rfl,rfl,j1,hX,k2,h5,m7,j4,fun W h1 h2=>Sts.cut Qg (i5 W h1 h2) _ h0,M0,d7⟩ M0)
  have c7:(0:Int)=((Xb l m i).getD 0 Zn).1:=Zl4 g3 M0
  refine xlv 4 h3.rp ?_
  refine xbs 0 1 [V0 0,.string ⟨(leB (↑(f+k0+i):Int) 4).toArray⟩,V0 (↑(f+k0+i):Int)] 124 fun p1 n9 d0=>?_
  have h8:=d0.ne h3
  have e9:=b0.i (blB d9 hBw a3.i) (N0 hBw c3)
  have f6:=b0.O (Zb b3 a3.i) a5
  have a7:=Zb f6 d0.i
  have c9:=blB e9 hBw d0.i
  refine xbi 0 fun _ _ _ _ zJ zQ zo zx zy zK=>Xd (m:=1) (news:=[V0 0,.string ⟨(leB (↑(f+k0+i):Int) 4).toArray⟩,V0 (↑(f+k0+i):Int)]) (.agg #[V0 0,.string ⟨#[]⟩,V0 0]) 3 32 (i+1) ((upE l m (f+k0) (i+1)).flatMap Ki) zo Tryz.underlying99 K0 rfl Do zx a7 zy (d0.blk.sl 1 1 Do Do) rfl Y4 Y2 M0 c9.size Y6 (up_row (by first|exact g5|exact c7)) fun m6 m1 q2 m5 c0 k5=>?_
  refine zK _ _ ?_
  refine xwm 5 ((i:Int)+1) (↑(i+1):Int) ?_
  refine xv1 2 3 (show(.slice (Li a2 (Yq l.length m i) c2 3) (l2.length-(Yq l.length m i)) (c2-(Yq l.length m i)):V2)=.slice (Li a2 (Yq l.length m i) c2 3) ((l2.drop (Yq l.length m i)).length) (c2-Yq l.length m i) from by rw[L3]) ?_
  have i6:=((((hA.i a0).i a3.i).q (Q1 (T:=[124]) b0 a3.blk Do) Do).i d0.i).q (Q4 (T:=[124]) c0 a7 Do) Do
  have d7:l2.drop (Yq l.length m i)=l.drop ((i+1)*m):=by
   rw[f2,N8,G8,I1];unfold Yq;rcases Nat.le_total m (l.length-i*m) with q|q
   ·rw[I4 q]
   ·rw[Nat.min_eq_right q,E3 M0,E3 M0]
  have f8:=c9.trans (k5.mono hBw)
  have hX:=(Y0 ((Q8 (((((d2.trans (Q2 a6)).trans (Q2 a4)).trans (g9.mono Y5)).trans (Q2 a0)).trans (Q2 a3.i)) b0 c3).trans (Q2 d0.i)) c0 a7)
  have j3:=(Q6 ((Q3 (((hO.trans a9).trans (Q0 a0)).trans (Q0 a3.i)) b0 c3).trans (Q0 d0.i)) c0 a7)
  have e7:=Zt (Zb (b0.j (Zb (Zb (Zi (Zb (Zb e2 a6) a4) a9 Do) a0) a3.i) a3.blk Do) d0.i) c0 a7 Do
  exact ze 0 (l4 _ _ _ ⟨i+1,_,_,(l2.drop (Yq l.length m i)),_,_,rfl,rfl,f8,hX,j3,e7,m5,i6,fun W h1 h2=>Sts.cut Qg (i5 W h1 h2) _ h0,M0,d7⟩ M0)
 refine xe 13 (.tuple #[.slice p4 i c4,.nilIface]) ?_
 obtain rfl:i=ovN l.length m:=M0
 exact⟨_,_,rfl,d3,d6,e3,hA,l5⟩
theorem Ztp{w w':V1}(h:Zd [169,5] w w'):Zd [169,5,39] w w':=h.mono fun t ht=>by simp at ht ⊢;exact⟨ht.1,ht.2.1⟩
def Zyu(B ba b g nn cc:Nat)(pa:O0)(ca f N k0:Nat)(bs:Bl)(t:Int)(dx:Bool)(m v:Nat)(l:V6 Ent)(b8:Nat)(w:V1)(e:V5)(w':V1):Prop :=
 ∃ p c,e=.returned (.slice p (ovN l.length m) c)∧Below B w w'∧Zd [169,5,39] w w'∧Fr [ba,g,b8] w w'∧Blk w' b8 [.nilIface] 39∧Al B ba b g nn cc pa ca f N (k0+ovN l.length m) (Pp t dx m v l (f+k0) bs (ovN l.length m)) w'∧w'.ownsRow w.heap.size 124 3 (.slice p (ovN l.length m) c) (ovN l.length m) ((upE l m (f+k0) (ovN l.length m)).flatMap Ki)
theorem Iy(B ba b g nn cc:Nat)(pa:O0)(ca f N k0:Nat)(bs:Bl)(t:Int)(dx:Bool)(m v:Nat)(a:O0)(c:Nat)(l:V6 Ent)(b3 b4 b8:Nat)(w:V1)(k3:Blk w b3 [P0 ba] 77)(k4:Blk w b4 [V0 t] 3)(k8:Blk w b8 [.nilIface] 39)(h38:b3≠b8)(h48:b4≠b8)(hB8:B≤b8)(hC:AlC B ba nn cc ca f N)(hA:Al B ba b g nn cc pa ca f N k0 bs w)(ht1:1≤t)(ht2:t≤5)(hm:Jj t dx=m)(hv:Jl t dx=v)(E:EntsOk v l)(hl:dx=false→1≤l.length)(hn:l.length≤32768)(hf1:1≤f)(hk:k0+ovN l.length m≤N)(hin:∀ W,Below B w W→Zd [169,5,39] w W→Sts Ki W (.slice a l.length c) l)(hBw:B≤w.heap.size) :
 C0 214 #[.bool dx,.slice a l.length c,P0 b3,P0 b4,P0 b8] w (Zyu B ba b g nn cc pa ca f N k0 bs t dx m v l b8 w):=by
 refine zin 20 Tryz.func214 ?_
 refine xb 7 0 k3 ?_
 refine xb 0 0 k4 ?_
 refine xc 2 (args:=#[P0 ba,V0 t,.bool dx,.slice a l.length c]) (Zjt B ba b g nn cc pa ca f N k0 bs t dx m v a c l _ hC hA ht1 ht2 hm hv E hl hn hf1 hk (fun W h1 h2=>hin W ((U3 B _).trans h1) ((Zd.refl _ _).trans (Ztp h2))) (N0 hBw (U3 B _).size)) ?_
 rintro _ W1 ⟨p4,c4,rfl,a5,a3,a7,hA,a4⟩
 have a6:=At w.heap.size
 have a0:=k8.q a3 Do
 refine xs 10 a0 [.nilIface] fun W2 u2 k2=>?_
 have hB:=u2.i a5 hB8
 have hO:=(show Zd [169,5,39] w _ from(Ztp a3)).trans (Q1 u2 a0 Do)
 have hX:=(show Fr [ba,g,b8] w _ from(a7.mono Y5)).trans (X2 u2 Y5)
 have a2:=hA.q (Q1 (T:=[39]) u2 a0 Do) Do
 have a1:=u2.j (Zg a4 a6) a0 Do
 exact xe 9 (.slice p4 (ovN l.length m) c4) ⟨_,_,rfl,hB,hO,hX,k2,a2,a1⟩
def Zoe(B ba b g nn cc:Nat)(pa:O0)(ca f N k0:Nat)(bs:Bl)(t:Int)(l:V6 Ent)(w:V1)(e:V5)(w':V1):Prop :=
 e=.returned (.tuple #[V0 (Xf t l (f+k0) bs).1,.nilIface])∧Below B w w'∧Zd [169,5,39] w w'∧Fr [ba,g] w w'∧Al B ba b g nn cc pa ca f N (k0+Zy t l.length) (Xf t l (f+k0) bs).2 w'
theorem Zst(B ba b g nn cc:Nat)(pa:O0)(ca f N k0:Nat)(bs:Bl)(t:Int)(a:O0)(c:Nat)(l:V6 Ent)(w:V1)(hC:AlC B ba nn cc ca f N)(hA:Al B ba b g nn cc pa ca f N k0 bs w)(ht1:1≤t)(ht2:t≤5)(E:EntsOk (Jl t true) l)(hn:l.length≤32768)(hf1:1≤f)(hkN:k0≤N)(hk:k0+Zy t l.length≤N)(hin:∀ W,Below B w W→Zd [169,5,39] w W→Sts Ki W (.slice a l.length c) l)(hBw:B≤w.heap.size) :
 C0 148 #[P0 ba,V0 t,.slice a l.length c] w (Zoe B ba b g nn cc pa ca f N k0 bs t l w):=by
 have g5:(ovN l.length (Jj t true))≤Zy t l.length:=Vu _
 have g3:=Zix l.length (Jj t true) (Qc t true).1
 have e9:=Yu l.length (Jj t true)
 have f7:=hC.hf
 have g1:=hC.hn
 refine zin 52 Tryz.func148 ?_
 refine xa 2 [P0 ba] 77 fun b1 W1 n1=>?_
 refine xa 0 [V0 t] 3 fun b2 W2 n2=>?_
 have k1:=n1.blk.i n2.i
 refine xb 8 0 k1 ?_
 have c4:=(hA.i n1.i).i n2.i
 refine xr 0 (args:=#[P0 ba]) (Eo ba b _ _ _ c4.U) fun W3 b6=>?_
 have k2:=n2.blk.i b6
 refine xb 7 0 k2 ?_
 have hB:=blB (blB (blB (U3 B w) hBw n1.i) hBw n2.i) hBw b6
 have hO:=((show Zd [169,5,39] w _ from(Q0 n1.i)).trans (Q0 n2.i)).trans (Q0 b6)
 refine xr 1 (args:=#[V0 t,.slice a l.length c]) (Zk8 t (Jl t true) a c l _ ht1 ht2 rfl E (hin _ hB hO) hn) fun W4 b5=>?_
 refine xd 6 .z ?_
 have c3:=((k1.i b6).i b5).i (Za W4)
 refine xb (.e [] 0) 0 c3 ?_
 have c5:=(k2.i b5).i (Za W4)
 refine xb (.e [] 2) 0 c5 ?_
 have c6:=((c4.i b6).i b5).i (Za W4)
 refine xr (.o [3,4] 1) (Rp ba b pa N ca k0 _ c6.U hkN) fun W5 b4=>?_
 refine xr (.o [] 5) (Qu t l.length _ ht1 ht2 hn) fun W6 b8=>?_
 refine xk (.r [6,7] 2) (show(decide ((↑(N-k0):Int)<(↑(Zy t l.length):Int)):Bool)=false from V9 M0) ?_
 refine xa 5 [.nilIface] 39 fun b7 W7 n7=>?_
 have a9:=blB (blB (blB (blB hB hBw b5) hBw (Za W4)) hBw b4) hBw b8
 have g7:=n7.Q a9
 have b3:=((c3.i b4).i b8).i n7.i
 have b0:=((c5.i b4).i b8).i n7.i
 have d9:=((c6.i b4).i b8).i n7.i
 have a7:=blB a9 hBw n7.i
 have c8:=((((hO.trans (Q0 b5)).trans (Q0 (Za W4))).trans (Q0 b4)).trans (Q0 b8)).trans (Q0 n7.i)
 refine xc 12 (Iy B ba b g nn cc pa ca f N k0 bs t true (Jj t true) (Jl t true) a c l b1 b2 b7 _ b3 b0 n7.blk (J0 b3 n7.blk Do) (J0 b0 n7.blk Do) (N0 hBw g7) hC d9 ht1 ht2 rfl rfl E Y5 hn hf1 M0 (fun W h1 h2=>hin W (a7.trans h1) (c8.trans h2)) (N0 hBw a7.size)) ?_
 rintro _ W8 ⟨d4,e2,rfl,f2,e5,f4,d6,hA,a6⟩
 have f3:=(blB a9 hBw n7.i).size
 refine xv1 5 10 (show(.slice d4 (ovN l.length (Jj t true)) e2:V2)=.slice d4 ((upE l (Jj t true) (f+k0) (ovN l.length (Jj t true))).length) e2 from by rw[Xk]) ?_
 have c0:=Zg a6 f3
 have e4:=a7.trans f2
 have hX:=(X1 ((((((((show Fr [ba,g] w _ from(Q2 n1.i)).trans (Q2 n2.i)).trans (Q2 b6)).trans (Q2 b5)).trans (Q2 (Za W4))).trans (Q2 b4)).trans (Q2 b8)).trans (Q2 n7.i)) f4 g7)
 have d2:=c8.trans e5
 have d1:=b3.q e5 Do
 have e1:=b0.q e5 Do
 refine zl 0 52 (fun zm f1 V=>∃ (u:V6 Ent) (K:Nat) (d0:Bl) (p:O0) (c2:Nat),f1=[(6,V0 0),(7,.nilIface),(8,P0 b7),(9,.func (.func 214) #[] #[P0 b1,P0 b2,P0 b7]),(10,.slice p u.length c2)]∧zm=u.length∧Below B w V∧Fr [ba,g] w V∧Zd [169,5,39] w V∧Blk V b1 ([P0 ba]) 77∧Blk V b2 ([V0 t]) 3∧Blk V b7 ([.nilIface]) 39∧V.ownsRow w.heap.size 124 3 (.slice p u.length c2) u.length (u.flatMap Ki)∧Al B ba b g nn cc pa ca f N K d0 V∧K+(Vz u.length).sum=k0+Zy t l.length+u.length∧1≤u.length∧u.length≤32768∧EntsOk 4 u∧Qs t u (f+K) d0=Xf t l (f+k0) bs) ⟨(upE l (Jj t true) (f+k0) (ovN l.length (Jj t true))),(k0+(ovN l.length (Jj t true))),(Pp t true (Jj t true) (Jl t true) l (f+k0) bs (ovN l.length (Jj t true))),d4,e2,rfl,rfl,e4,hX,d2,d1,e1,d6,(by rw[Xk];exact c0),hA,(by rw[Xk];unfold Zy Ue;omega),(by rw[Xk];exact e9),(by rw[Xk];omega),Mm E (Qc t true).1,(by rw[←F2];rfl)⟩ ?_
 rintro _ _ W9 ⟨u,K,d0,p,c2,rfl,rfl,a3,c1,c7,a1,a2,a0,a6,hA,hK,f5,f9,hE,c9⟩ J9 f0 r9
 have g2:¬ u.length≤1→(Vz u.length).sum=u.length+(Vz (ovN u.length 18)).sum:=fun h=>by rw[Qv h];rfl
 have g0:=Vu (ovN u.length 18)
 have f8:2≤u.length→ovN u.length 18≤u.length/2:=Znf
 have d3:=Yu u.length 18
 refine xb 3 0 a0 ?_
 refine xid 8 ((u.length:Int)>(1:Int)) (fun d5=>?_) (fun d5=>?_)
 ·refine xc 6 (args:=#[.bool false,.slice p u.length c2,P0 b1,P0 b2,P0 b7]) (Iy B ba b g nn cc pa ca f N K d0 t false 18 4 p c2 u b1 b2 b7 _ a1 a2 a0 (J0 a1 a0 Do) (J0 a2 a0 Do) (N0 hBw g7) hC hA ht1 ht2 rfl rfl hE (fun _=>f5) M0 hf1 M0 (fun W _ h2=>Zf (Zi a6 h2 Do)) (N0 hBw a3.size)) ?_
  rintro _ f6 ⟨e7,e8,rfl,e6,a8,e0,d6,hA,a6⟩
  refine xv1 3 10 (show(.slice e7 (ovN u.length 18) e8:V2)=.slice e7 ((upE u 18 (f+K) (ovN u.length 18)).length) e8 from by rw[Xk]) ?_
  have b9:=Zg a6 a3.size
  have e3:=a3.trans e6
  have d7:=(X1 c1 e0 g7)
  have d8:=c7.trans a8
  have a4:=a1.q a8 Do
  have a5:=a2.q a8 Do
  refine ze 0 (f0 _ _ _ ⟨(upE u 18 (f+K) (ovN u.length 18)),(K+ovN u.length 18),_,_,_,rfl,rfl,e3,d7,d8,a4,a5,d6,(by rw[Xk];exact b9),hA,(by rw[Xk];omega),(by rw[Xk];exact d3),(by rw[Xk];omega),Mm hE Do,(by rw[←c9,←F2];exact(Qn M0).symm)⟩ ?_)
  show((upE u 18 (f+K) (ovN u.length 18)).length)<u.length
  rw[Xk];omega
 refine xb 8 0 a0 ?_
 refine xx 9 _ u.length 0 3 (Sts.cell (Zf a6) Qg Zn (k:=0) (i:=0) M0 rfl).1 ?_
 refine xl 1 ((Sts.cell (Zf a6) Qg Zn (k:=0) (i:=2) M0 rfl).2) ?_
 refine xe 5 (.tuple #[V0 ((u.getD 0 Zn).2.2),.nilIface]) ?_
 have h1:u.length≤1:=M0
 rw[Kb h1] at c9
 rw[Ja h1] at hK
 simp only[G3,N9] at hK
 obtain rfl:K=k0+Zy t l.length:=M0
 refine⟨by rw[←c9],a3,c7,c1,by rw[←c9];exact hA⟩
theorem Al.mono{B B' ba b g n c:Nat}{pa:O0}{ca f N k:Nat}{l:Bl}{w:V1}(h:Al B' ba b g n c pa ca f N k l w)(hB:B≤B'):Al B ba b g n c pa ca f N k l w:=⟨h.U,h.a7,Zg h.data hB,Zg h.a1 hB⟩
theorem AlC.mono{B B' ba n c ca f N:Nat}(h:AlC B' ba n c ca f N)(hB:B≤B'):AlC B ba n c ca f N:=⟨h.hn,h.hc,h.hca,h.hf,N0 hB h.hB⟩
theorem row_at{w:V1}{base g n c size:Nat}{e:V3}{xs:V6 V2}(h:w.ownsRow base e size (.slice (S3 g) n c) n xs):∃ cur,w.heap[g]? = some (.cells cur e (0,0)):=by
 rcases h.2 with ⟨hv,_⟩|⟨g2,a0,cur,hv,_,hh,_⟩
 ·cases hv
 ·simp only[C2,A0,Addr.mk.injEq] at hv;obtain⟨⟨rfl,_,_⟩,_⟩:=hv;exact⟨cur,hh⟩
theorem Al.ne{B ba b g n c:Nat}{pa:O0}{ca f N k:Nat}{l:Bl}{B2 ba2 b2 g2 n2 c2:Nat}{pa2:O0}{ca2 f2 N2 k2:Nat}{l2:Bl}{w:V1}(h:Al B ba b g n c pa ca f N k l w)(h2:Al B2 ba2 b2 g2 n2 c2 pa2 ca2 f2 N2 k2 l2 w):b2≠ba∧b2≠g:=by
 constructor
 ·rintro rfl;exact absurd (h.U.ty h2.a7) Do
 ·rintro rfl;obtain⟨a0,hh⟩:=row_at h.data;have h3:w.heap[b2]? = some (.cells [.slice (S3 g2) n2 c2].toArray 108 (0,0)):=h2.a7;rw[hh] at h3;simp only[A0,Obj.cells.injEq] at h3;exact absurd h3.2.1 Do
theorem Al.g4{B2 ba2 b2 g2 n2 c2:Nat}{pa2:O0}{ca2 f2 N2 k2:Nat}{l2:Bl}{w W:V1}{ba g:Nat}(h:Al B2 ba2 b2 g2 n2 c2 pa2 ca2 f2 N2 k2 l2 w)(hC:AlC B2 ba2 n2 c2 ca2 f2 N2)(h1:ba<B2)(h2:g<B2)(hne:b2≠ba∧b2≠g)(hX:Fr [ba,g] w W):Al B2 ba2 b2 g2 n2 c2 pa2 ca2 f2 N2 k2 l2 W:=by
 have hB:=hC.hB;refine⟨h.U.fr hX (by simp;omega),h.a7.fr hX (by simp;exact hne),Ot h.data hX fun k hk=>?_,Ot h.a1 hX fun k hk=>?_⟩
 ·have:=(h.data.lt k hk).1;simp;omega
 ·have:=(h.a1.lt k hk).1;simp;omega
theorem My(B ba b g nn cc:Nat)(pa:O0)(ca f N k0:Nat)(bs:Bl)(t:Int)(a:O0)(c:Nat)(l:V6 Ent)(n:Nat)(w:V1)(hl:l.length=n)(hC:AlC B ba nn cc ca f N)(hA:Al B ba b g nn cc pa ca f N k0 bs w)(ht1:1≤t)(ht2:t≤5)(E:EntsOk (Jl t true) l)(hn:n≤32768)(hf1:1≤f)(hkN:k0≤N)(hk:k0+Zy t n≤N)(hin:∀ W,Below B w W→Zd [169,5,39] w W→Sts Ki W (.slice a l.length c) l)(hBw:B≤w.heap.size) :
 C0 148 #[P0 ba,V0 t,.slice a n c] w (Zoe B ba b g nn cc pa ca f N k0 bs t l w):=by
 subst hl;exact Zst B ba b g nn cc pa ca f N k0 bs t a c l w hC hA ht1 ht2 E hn hf1 hkN hk hin hBw
theorem Da{t:Int}{l:V6 Ent}{q:Nat}{bs:Bl}(hq:1≤q):(Xf t l q bs).1=((q+Zy t l.length-1:Nat):Int):=by
 have hp:=Yu l.length (Jj t true);have hg:=Vu (ovN l.length (Jj t true));unfold Xf;rw[Oi (by rw[Xk];exact hp) (by rw[Xk,Kt M0];simp only[upX];congr 1;omega) M0,Xk];unfold Zy Ue;congr 1;omega
abbrev Kw:=Int×V6 Ent
def Lu(x:Kw):Prop:=1≤x.1∧x.1≤5∧EntsOk (Jl x.1 true) x.2∧x.2.length≤32768
def Km(x:Kw):Nat:=Zy x.1 x.2.length
def Xr:V6 Kw→Nat
 | []=>0
 | x::r=>Km x+Xr r
def Aa:V6 Kw→Nat→Bl→Bl
 | [],_,bs=>bs
 | x::r,q,bs=>Aa r (q+Km x) (Xf x.1 x.2 q bs).2
theorem La(a b:V6 Kw):Xr (a++b)=Xr a+Xr b:=by
 induction a with
 | nil=>simp[Xr]
 | cons x a ih=>simp only[Ge,Xr,ih];omega
theorem Zbn(a b:V6 Kw):∀ (q:Nat) (bs:Bl),Aa (a++b) q bs=Aa b (q+Xr a) (Aa a q bs):=by
 induction a with
 | nil=>intro q bs;simp[Aa,Xr]
 | cons x a ih =>
  intro q bs;simp only[Ge,Aa,Xr,ih];rw[show q+Km x+Xr a=q+(Km x+Xr a) by omega]
theorem Gs{α:Type}{a b:V6 α}(d:α)(hl:a.length=b.length)(h:∀ i,i<a.length→a.getD i d=b.getD i d):a=b:=by
 refine F6 hl fun i h1 h2=>?_;have:=h i h1;simpa [getD,h1,h2] using this
theorem Sv(L:V6 Dv)(i:Nat):Un (L.take i)≤Un L:=by
 conv=>rhs;rw[←G9 i L]
 unfold Un;rw[A6,E8];omega
theorem Zwd{α:Type}{l:V6 α}{k:Nat}(d:α)(h:k<l.length):l.getD k d∈l:=by
 rw[show l.getD k d=l[k] from by simp[getD,h]];exact F3 _
def devT(L:V6 Dv):V6 Kw:=L.map fun d=>(2,Up d.2)
theorem Zqs{l:V6 Nat}{a:Nat}(h:a∈l):a≤l.sum:=by
 induction l with
 | nil=>cases h
 | cons b l ih =>
  rw[G3];rcases B6.1 h with rfl|h
  ·omega
  ·have:=ih h;omega
theorem devT_ok{data:Int}{L:V6 Dv}(h:DevsOk data L):∀ x∈devT L,Lu x:=by
 intro x hx;obtain⟨d,hd,rfl⟩:=List.mem_map.1 hx;have hs:d.2.length≤Un L:=by
  unfold Un;exact Zqs (List.mem_map.2 ⟨d,hd,rfl⟩)
 have:=h.sum;exact⟨show(1:Int)≤2 by decide,show(2:Int)≤5 by decide,mapEs_ok (h.each d hd).b8,by rw[Jo];omega⟩
theorem forN_one(x:Kw):Xr [x]=Km x:=by show Km x+0=_;omega
theorem Vo(F:V6 Kw)(x:Kw):Xr (F++[x])=Xr F+Km x:=by rw[La,forN_one]
theorem Zw7(F:V6 Kw)(x:Kw)(q:Nat)(bs:Bl):Aa (F++[x]) q bs=(Xf x.1 x.2 (q+Xr F) (Aa F q bs)).2:=by rw[Zbn];rfl
theorem Bt(x:Kw):1≤Km x:=Qf _ _
def AlF (B ba b g nn cc:Nat)(pa:O0)(ca N:Nat)(bs:Bl)(F:V6 Kw)(w:V1):Prop:=Al B ba b g nn cc pa ca 1 N (Xr F) (Aa F 1 bs) w
theorem AlF.i{B ba b g nn cc:Nat}{pa:O0}{ca N:Nat}{bs:Bl}{F:V6 Kw}{w W:V1}(h:AlF B ba b g nn cc pa ca N bs F w)(hb:B3 w W):AlF B ba b g nn cc pa ca N bs F W:=Al.i h hb
theorem AlF.q{B ba b g nn cc:Nat}{pa:O0}{ca N:Nat}{bs:Bl}{F:V6 Kw}{w W:V1}{T:V6 V3}(h:AlF B ba b g nn cc pa ca N bs F w)(hO:Zd T w W)(hT:(T.contains 169||(T.contains 108||(T.contains 5||T.contains 3)))=false):AlF B ba b g nn cc pa ca N bs F W:=by
 simp only[K5] at hT;exact⟨h.U.q hO hT.1,h.a7.q hO hT.2.1,Zi h.data hO hT.2.2.1,Zi h.a1 hO hT.2.2.2⟩
theorem build_F(B ba b g nn cc:Nat)(pa:O0)(ca N:Nat)(bs:Bl)(F:V6 Kw)(t:Int)(a:O0)(c n:Nat)(l:V6 Ent)(w:V1)(hl:l.length=n)(hC:AlC B ba nn cc ca 1 N)(hA:AlF B ba b g nn cc pa ca N bs F w)(hok:Lu (t,l))(hr:Xr (F++[(t,l)])≤N)
 (hin:∀ W,Below B w W→Zd [169,5,39] w W→Sl W (.slice a n c) n (l.flatMap Ki)) (hBw:B≤w.heap.size) :
 C0 148 #[P0 ba,V0 t,.slice a n c] w (fun e w'=>e=.returned (.tuple #[V0 (Xr (F++[(t,l)]):Int),.nilIface])∧Below B w w'∧Zd [169,5,39] w w'∧Fr [ba,g] w w'∧AlF B ba b g nn cc pa ca N bs (F++[(t,l)]) w'):=by
 subst hl
 have hn:=Bt (t,l)
 rw[Vo] at hr
 refine(My B ba b g nn cc pa ca 1 N (Xr F) (Aa F 1 bs) t a c l l.length w rfl hC hA hok.1 hok.2.1 hok.2.2.1 (N0 hok.2.2.2 Do) (At _) M0 hr hin hBw).mono ?_
 rintro e w' ⟨rfl,hb,hO,hX,a1⟩
 have a0:(Xf t l (1+Xr F) (Aa F 1 bs)).1=((Xr (F++[(t,l)]):Nat):Int):=by
  rw[Da M0,Vo];show((1+Xr F+Km (t,l)-1:Nat):Int)=_;omega
 refine⟨by rw[a0],hb,hO,hX,?_⟩
 unfold AlF
 rw[Vo,Zw7]
 exact a1
theorem top_ok{data:Int}{L:V6 Dv}{R:Nat→Nat}(h:DevsOk data L):Lu (1,Wd L R):=by
 have:=h.a0;exact⟨show(1:Int)≤1 by decide,show(1:Int)≤5 by decide,topEs_ok h,by rw[Yw];omega⟩
theorem det_ok{data:Int}{L:V6 Dv}{C:Nat→Int}(h:DevsOk data L):Lu (3,Po L C):=by
 have:=h.a0;exact⟨show(1:Int)≤3 by decide,show(3:Int)≤5 by decide,detEs_ok h,by rw[Kr];omega⟩
theorem Zk1{E:V6 Ent}{i:Nat}(h:i<E.length){x:Ent}(hx:E.getD i Zn=x):(E.take i).flatMap Ki++Ki x=(E.take (i+1)).flatMap Ki:=by
 subst hx;rw[B5 h,C7];simp[getD,h]
theorem Zdd{data:Int}{L:V6 Dv}(hD:DevsOk data L){i:Nat}(h:i<L.length):Lu (2,Up (L.getD i dvD).2):=devT_ok hD _ (List.mem_map.2 ⟨L.getD i dvD,by simp[getD,h],rfl⟩)
theorem Zff{L:V6 Dv}{i:Nat}(h:i<L.length):(L.getD i dvD).2.length≤Un L:=by
 have a:=Sv L (i+1);have e:Un (L.take (i+1))=Un (L.take i)+(L.getD i dvD).2.length:=by
  unfold Un;rw[B5 h,A6,E8];simp[getD,h]
 omega
def Gh(L:V6 Dv):Nat→Int:=fun i=>((L.getD i dvD).2.length:Int)
def Nl(cs:V6 Nat)(k:Int):V6 Nat:=cs.set k.toNat (cs.getD k.toNat 0+1)
def zer (cs:V6 Nat):Nat:=cs.count 0
def phi (cs:V6 Nat):Nat:=cs.sum+2001*zer cs
theorem Vv(cs:V6 Nat)(k:Int):(Nl cs k).length=cs.length:=by simp[Nl]
theorem sum_set{cs:V6 Nat}{k:Nat}(h:k<cs.length)(v:Nat):(cs.set k v).sum+cs.getD k 0=cs.sum+v:=by
 induction cs generalizing k with
 | nil=>exact absurd h Y5
 | cons a cs ih =>
  cases k with
  | zero=>simp[getD];omega
  | succ k =>
   have:=ih (k:=k) (by simpa using h);simp only[List.set_cons_succ,G3,O7];omega
theorem zer_set{cs:V6 Nat}{k:Nat}(h:k<cs.length){v:Nat}(hv:v≠0):zer (cs.set k v)+(if cs.getD k 0=0 then 1 else 0)=zer cs:=by
 unfold zer;induction cs generalizing k with
 | nil=>exact absurd h Y5
 | cons a cs ih =>
  cases k with
  | zero =>
   simp only[List.set_cons_zero,List.count_cons,List.getD_cons_zero];have:(v==0)=false:=(by simpa using hv);rw[this];by_cases e:a=0<;>simp[e]
  | succ k =>
   have:=ih (k:=k) (by simpa using h);simp only[List.set_cons_succ,List.count_cons,O7];omega
theorem Rc{cs:V6 Nat}{k:Int}(h0:0≤k)(h:k<cs.length):zer (Nl cs k)+(if cs.getD k.toNat 0=0 then 1 else 0)=zer cs:=zer_set M0 M0
theorem Rf{cs:V6 Nat}{k:Int}(h0:0≤k)(h:k<cs.length):(Nl cs k).sum=cs.sum+1:=by
 have:=sum_set (cs:=cs) (k:=k.toNat) M0 (cs.getD k.toNat 0+1);unfold Nl;omega
theorem getD_sum(cs:V6 Nat)(k:Nat):cs.getD k 0≤cs.sum:=by
 induction cs generalizing k with
 | nil=>simp
 | cons a cs ih =>
  cases k with
  | zero=>simp[getD]
  | succ k=>have:=ih k;simp only[O7,G3];omega
theorem getD_phi(cs:V6 Nat)(k:Nat):cs.getD k 0≤phi cs:=N0 (getD_sum cs k) (M5 _ _)
theorem zer_le(cs:V6 Nat):zer cs≤cs.length:=List.count_le_length
def Ky(cs:V6 Nat)(S:V6 Nat):V6 Nat:=S.foldl (fun(c:V6 Nat) (b:Nat)=>Nl c (b:Int)) cs
theorem Me(cs:V6 Nat)(b:Nat)(S:V6 Nat):Ky cs (b::S)=Ky (Nl cs (b:Int)) S:=rfl
theorem Cm(cs S T:V6 Nat):Ky cs (S++T)=Ky (Ky cs S) T:=List.foldl_append
theorem Uc(S:V6 Nat):∀ cs:V6 Nat,(Ky cs S).length=cs.length:=by
 induction S with
 | nil=>intro cs;rfl
 | cons b S ih=>intro cs;rw[Me,ih,Vv]
theorem Cl{cs:V6 Nat}{k:Nat}(hk:k<cs.length)(i:Nat):(Nl cs (k:Int)).getD i 0=cs.getD i 0+if k=i then 1 else 0:=by
 unfold Nl;rw[G6];by_cases e:k=i
 ·subst e;simp[getD,hk]
 ·rw[V7 e];simp[getD,e]
theorem Pe(S:V6 Nat):∀ cs:V6 Nat,(∀ b∈S,b<cs.length)→∀ i,(Ky cs S).getD i 0=cs.getD i 0+S.count i:=by
 induction S with
 | nil=>intro cs _ i;simp[Ky]
 | cons b S ih =>
  intro cs h i;rw[Me,ih _ (fun x hx=>by rw[Vv];exact h x (E1 _ hx)),Cl (h b D6),List.count_cons];by_cases e:b=i
  ·subst e;simp;omega
  ·rw[V7 e,V7 (by simpa using e)];omega
def Uz:Nat→V6 Dv→V6 (Nat×Mp)
 | _,[]=>[]
 | i,d::r=>d.2.map (fun m=>(i,m))++Uz (i+1) r
theorem Zaj(L:V6 Dv):∀ i,(Uz i L).length=Un L:=by
 induction L with
 | nil=>intro i;rfl
 | cons d r ih=>intro i;rw[Uz,A1,A3,ih];rfl
theorem Zph(L:V6 Dv):∀ (b i:Nat),i≤L.length→(Uz b L).drop (Un (L.take i))=Uz (b+i) (L.drop i):=by
 induction L with
 | nil =>
  intro b i hi;obtain rfl:i=0:=by simpa using hi
  rfl
 | cons d r ih =>
   intro b i hi;cases i with
   | zero=>rfl
   | succ i =>
    have e:Un ((d::r).take (i+1))=d.2.length+Un (r.take i):=rfl;rw[e,Uz,List.drop_append,A3,show d.2.length+Un (r.take i)-d.2.length=Un (r.take i) by omega,E3 (by rw[A3];omega),F7,ih (b+1) i (by simpa using hi)];rw[show b+1+i=b+(i+1) by omega];rfl
theorem mapsR_at{L:V6 Dv}{i j:Nat}(hi:i<L.length)(hj:j<(L.getD i dvD).2.length):(Uz 0 L)[Un (L.take i)+j]? = some (i,(L.getD i dvD).2.getD j (0,0,0)):=by
 have h:=Zph L 0 i M0;rw[←G0,h,F8 hi,Uz,F5];have e:L.getD i dvD=L[i]:=by simp[getD,hi]
 rw[e] at hj ⊢;rw[G5 (by rw[A3];exact hj),C3,A9 hj];simp[getD,hj]
def Ad(cs:V6 Nat)(R:V6 (Nat×Mp)):V6 Nat:=R.foldl (fun c x=>Nl c x.2.2.1) cs
def Us(data:Nat)(L:V6 Dv):V6 Nat:=Ad (replicate data 0) (Uz 0 L)
theorem Zjd(R:V6 (Nat×Mp)):∀ cs,(Ad cs R).length=cs.length:=by
 induction R with
 | nil=>intro cs;rfl
 | cons x r ih=>intro cs;show(Ad (Nl cs x.2.2.1) r).length=_;rw[ih,Vv]
theorem Kv(data:Nat)(L:V6 Dv):(Us data L).length=data:=by unfold Us;rw[Zjd,B7]
theorem Zsi(cs:V6 Nat)(R:V6 (Nat×Mp)){k:Nat}{x:Nat×Mp}(h:R[k]? = some x):Ad cs (R.take (k+1))=Nl (Ad cs (R.take k)) x.2.2.1:=by
 have hk:k<R.length:=by
  rcases F0 k R.length with q|q
  ·exact q
  ·rw[C4 q] at h;cases h
 rw[A9 hk,A0] at h;unfold Ad;rw[B5 hk,List.foldl_append,h];rfl
theorem Zi7{data:Int}:∀ (L:V6 Dv),(∀ d∈L,DevOk data d)→∀ (b:Nat),∀ x∈Uz b L,0≤x.2.2.1∧x.2.2.1<data
 | [],_,_,x,hx=>by cases hx
 | d::r,he,b,x,hx=>by
  rw[Uz] at hx;rcases List.mem_append.1 hx with hx|hx
  ·obtain⟨m,hm,rfl⟩:=List.mem_map.1 hx;exact((he d (D6 ..)).b8.each m hm).2.1
  ·exact Zi7 r (fun y hy=>he y (E1 _ hy)) (b+1) x hx
theorem Zor{data:Int}{L:V6 Dv}(h:DevsOk data L)(b:Nat):∀ x∈Uz b L,0≤x.2.2.1∧x.2.2.1<data:=Zi7 L h.each b
theorem Zir{data:Nat}(R:V6 (Nat×Mp))(h:∀ x∈R,0≤x.2.2.1∧x.2.2.1<(data:Int)):∀ cs,cs.length=data→(Ad cs R).sum=cs.sum+R.length:=by
 induction R with
 | nil=>intro cs _;rfl
 | cons x r ih =>
  intro cs hc;have hx:=h x (D6 ..);show(Ad (Nl cs x.2.2.1) r).sum=_;rw[ih (fun y hy=>h y (E1 _ hy)) _ (by rw[Vv];exact hc),Rf hx.1 M0,C5];omega
theorem Zbc{data:Nat}{L:V6 Dv}(h:DevsOk (data:Int) L):(Us data L).sum=Un L:=by
 unfold Us;rw[Zir _ (Zor h 0) _ B7,P4,Zaj];omega
theorem Zab(l:V6 Nat)(i:Nat):l.getD i 0≤l.sum:=by
 induction l generalizing i with
 | nil=>simp[getD]
 | cons a l ih =>
  cases i with
  | zero=>simp[getD]
  | succ i=>have:=ih i;simp only[O7,G3];omega
def Xv(data:Nat)(L:V6 Dv):V6 Int:=(Us data L).map fun n:Nat=>(n:Int)
theorem Ym(data:Nat)(L:V6 Dv):(Xv data L).length=data:=by unfold Xv;rw[A3,Kv]
theorem Zbv(data:Nat)(L:V6 Dv)(i:Nat):(Xv data L).getD i 0=((Us data L).getD i 0:Nat):=by
 unfold Xv;simp only[getD,C3];cases (Us data L)[i]? <;> rfl
theorem Em{data:Nat}{L:V6 Dv}(hd:data≤65536)(h:DevsOk (data:Int) L):Jn (Xv data L)=0:=by
 unfold Jn;rw[Ym,V7 M0,V8];intro k hk;rw[Zbv];have a:=Zab (Us data L) k;rw[Zbc h] at a;have b:=h.sum;unfold Ph;omega
def Gd(cs:V6 Nat)(k:Nat):Nat:=((cs.take k).filter fun n=>decide (3≤n)).length
theorem Pd{cs:V6 Nat}{k:Nat}(h:k<cs.length):Gd cs (k+1)=Gd cs k+if 3≤cs.getD k 0 then 1 else 0:=by
 unfold Gd;rw[B5 h,List.filter_append,A1,show cs.getD k 0=cs[k] from by simp[getD,h]];congr 1;by_cases q:3≤cs[k]<;>simp[q]
theorem Aw(cs:V6 Nat):∀ k,k≤cs.length→3*Gd cs k≤(cs.take k).sum
 | 0,_=>by simp[Gd]
 | k+1,h=>by
  have ih:=Aw cs k M0;rw[Pd M0,B5 M0,E8];have e:cs.getD k 0=cs[k]:=by simp[getD,show k<cs.length by omega]
  rw[e];simp only[G3,N9,G4];split<;>omega
theorem Zmq(data:Nat)(L:V6 Dv):∀ k,k≤data→(Zp (Xv data L) k).length=Gd (Us data L) k
 | 0,_=>by simp[Zp,Gd]
 | k+1,h=>by
  have ih:=Zmq data L k M0;rw[Pd (by rw[Kv];omega),←ih];by_cases q:3≤(Xv data L).getD k 0
  ·rw[Mf q,A1,V8 (by rw[Zbv] at q;omega)];rfl
  ·rw[Wc q,V7 (by rw[Zbv] at q;omega),G4]
def Znz(data:Nat)(L:V6 Dv):Nat:=Gd (Us data L) data
theorem Om(data:Nat)(L:V6 Dv):(Zp (Xv data L) (Xv data L).length).length=Znz data L:=by rw[Ym];exact Zmq data L data (At _)
theorem Zgi{data:Nat}{L:V6 Dv}(h:DevsOk (data:Int) L):Znz data L≤5462:=by
 have a:=Aw (Us data L) data (by rw[Kv];exact At _);rw[B9 (by rw[Kv];exact At _),Zbc h] at a;have:=h.sum;unfold Znz;omega
def Cf(L:V6 Dv):Nat:=(L.map fun d=>Zy 2 d.2.length).sum
def Cq(data:Nat)(L:V6 Dv):Nat:=1+Zy 3 L.length+Zy 1 L.length+Cf L+bmN data+Zy 4 (bmN data)+Zy 5 (Znz data L)
theorem Zrt{L:V6 Dv}{i:Nat}(h:i<L.length):Cf (L.take (i+1))=Cf (L.take i)+Zy 2 (L.getD i dvD).2.length:=by
 unfold Cf;rw[B5 h,A6,E8,show L.getD i dvD=L[i] from by simp[getD,h]];simp
def Zkc(m:Nat):Nat:=m+(m-1)/959+1
def needN(data:Nat)(L:V6 Dv):Nat:=Zkc (Cq data L+2)
theorem Zov{L:V6 Dv}:Cf L≤2*Un L+2*L.length:=by
 induction L with
 | nil=>exact A5 _
 | cons d r ih =>
  have e2:Cf (d::r)=Zy 2 d.2.length+Cf r:=rfl;have e3:Un (d::r)=d.2.length+Un r:=rfl;have:=Pc 2 d.2.length;rw[e2,e3,C5];omega
theorem Zn6{data:Nat}{L:V6 Dv}(hd:data≤65536)(h:DevsOk (data:Int) L):1≤Cq data L∧Cq data L≤100000:=by
 have a:=Pc 3 L.length;have b:=Pc 1 L.length;have c:=@Zov L;have d:=Pc 4 (bmN data);have e:=Pc 5 (Znz data L);have f:=Zgi h;have g:=h.a0;have i:=h.sum;have j:bmN data≤69:=by unfold bmN;omega
 unfold Cq;omega
theorem Ztj{m n:Nat}(h:Zkc m≤n):m+bmN n≤n:=by unfold Zkc at h;unfold bmN;omega
theorem Zf3{n:Nat}(h:n<10):(UInt8.ofNat (48+n)).toNat=48+n:=by
 rw[UInt8.toNat_ofNat'];omega
def valD(l:Bl):Nat:=l.foldl (fun a d=>a*10+(d.toNat-48)) 0
theorem Ztm(l:Bl)(d:UInt8):valD (l++[d])=valD l*10+(d.toNat-48):=by unfold valD;rw[List.foldl_append];rfl
theorem Sb(u:Nat):valD (Lib.decDigits u)=u∧∀ d∈Lib.decDigits u,48≤d.toNat:=by
 induction u using Nat.strongRecOn with
 | _ u ih =>
  rw[Lib.decDigits];by_cases h:u<10
  ·rw[dif_pos h];refine⟨?_,fun d hd=>?_⟩
   ·show 0*10+((UInt8.ofNat (48+u)).toNat-48)=u;rw[Zf3 h];omega
   ·rw[D0.1 hd,Zf3 h];omega
  ·rw[dif_neg h];obtain⟨h1,h2⟩:=ih (u/10) M0;refine⟨?_,fun d hd=>?_⟩
   ·rw[Ztm,h1,Zf3 M0];omega
   ·rcases List.mem_append.1 hd with hd|hd
    ·exact h2 d hd
    ·rw[D0.1 hd,Zf3 M0];omega
theorem Zt2{a b:Nat}(h:Lib.decDigits a=Lib.decDigits b):a=b:=by rw[←(Sb a).1,h,(Sb b).1]
theorem Zr7(n:Int):∀ d∈Lib.itoa n,d.toNat=45∨48≤d.toNat:=by
 intro d hd;unfold Lib.itoa at hd;split at hd
 ·rcases B6.1 hd with rfl|hd
  ·exact .inl rfl
  ·exact .inr ((Sb _).2 d hd)
 ·exact .inr ((Sb _).2 d hd)
theorem itoa_inj{a b:Int}(h:Lib.itoa a=Lib.itoa b):a=b:=by
 unfold Lib.itoa at h;split at h<;>split at h
 ·have:=Zt2 (List.cons.inj h).2;omega
 ·have q:=(Sb b.toNat).2 45 (by rw[←h];exact D6);exact absurd q Do
 ·have q:=(Sb a.toNat).2 45 (by rw[h];exact D6);exact absurd q Do
 ·have:=Zt2 h;omega
theorem Znj:∀ {a b r s:Bl},(∀ d∈a,d≠32)→(∀ d∈b,d≠32)→a++32::r=b++32::s→a=b∧r=s
 | [],[],r,s,_,_,h=>⟨rfl,(List.cons.inj h).2⟩
 | [],y::b,r,s,_,hb,h=>absurd (List.cons.inj h).1.symm (hb y D6)
 | x::a,[],r,s,ha,_,h=>absurd (List.cons.inj h).1 (ha x D6)
 | x::a,y::b,r,s,ha,hb,h=>by
  obtain⟨h1,h2⟩:=List.cons.inj h;obtain⟨h3,h4⟩:=Znj (fun d hd=>ha d (E1 _ hd)) (fun d hd=>hb d (E1 _ hd)) h2;exact⟨by rw[h1,h3],h4⟩
def txtN(n:Int):Bl:=Lib.itoa n++[32]
theorem Zf8{a b:Int}{r s:Bl}(h:txtN a++r=txtN b++s):a=b∧r=s:=by
 unfold txtN at h;rw[A4,A4] at h;have ne:∀ n:Int,∀ d∈Lib.itoa n,d≠32:=fun n d hd q=>by
  subst q;rcases Zr7 n _ hd with q|q
  ·exact absurd q Do
  ·exact absurd q Do
 obtain⟨h1,h2⟩:=Znj (ne a) (ne b) h;exact⟨itoa_inj h1,h2⟩
theorem Zfc{n:Int}(h0 : -9223372036854775808≤n)(h1:n≤9223372036854775807):(txtN n).length≤22:=by
 unfold txtN;rw[A1];have:=Lib.itoa_length_le n h0 h1;simp;omega
def Zoj(m:Mp):Bl:=txtN m.1++(txtN m.2.1++txtN m.2.2)
def txt (M:V6 Mp):Bl:=M.flatMap Zoj
theorem Zt9(m:Mp):Zoj m≠[]:=by
 unfold Zoj txtN;intro h;have:=congrArg List.length h;simp at this
theorem txtM_inj{a b:Mp}{r s:Bl}(h:Zoj a++r=Zoj b++s):a=b∧r=s:=by
 unfold Zoj at h;simp only[A4] at h;obtain⟨h1,h⟩:=Zf8 h;obtain⟨h2,h⟩:=Zf8 h;obtain⟨h3,h⟩:=Zf8 h;exact⟨Prod.ext h1 (Prod.ext h2 h3),h⟩
theorem Zj9:∀ {a b:V6 Mp},txt a=txt b→a=b
 | [],[],_=>rfl
 | [],y::b,h=>by
  have:Zoj y++txt b=[]:=h.symm;exact absurd (List.append_eq_nil_iff.1 this).1 (Zt9 y)
 | x::a,[],h=>by
  have:Zoj x++txt a=[]:=h;exact absurd (List.append_eq_nil_iff.1 this).1 (Zt9 x)
 | x::a,y::b,h=>by
  obtain⟨h1,h2⟩:=txtM_inj (show Zoj x++txt a=Zoj y++txt b from h);rw[h1,Zj9 h2]
def InI (n:Int):Prop:=-9223372036854775808≤n∧n≤9223372036854775807
def MpR (m:Mp):Prop:=InI m.1∧InI m.2.1∧InI m.2.2
theorem txt_len{M:V6 Mp}(h:∀ m∈M,MpR m):(txt M).length≤66*M.length:=by
 induction M with
 | nil=>exact A5 _
 | cons m r ih =>
  have a:=ih fun x hx=>h x (E1 _ hx);obtain⟨h1,h2,h3⟩:=h m D6;have e:txt (m::r)=Zoj m++txt r:=rfl;rw[e,A1,C5];unfold Zoj;rw[A1,A1];have:=Zfc h1.1 h1.2;have:=Zfc h2.1 h2.2;have:=Zfc h3.1 h3.2;omega
theorem txt_take{M:V6 Mp}{i:Nat}(h:i<M.length):txt (M.take (i+1))=txt (M.take i)++Zoj (M.getD i mpD):=by
 unfold txt;rw[B5 h,C7,show M.getD i mpD=M[i] from by simp[getD,h]];simp
def Xz(L:V6 Dv)(i:Nat):Nat:=L.findIdx fun d=>decide (d.2=(L.getD i dvD).2)
theorem Ng{L:V6 Dv}{i:Nat}(h:i<L.length):Xz L i≤i∧(L.getD (Xz L i) dvD).2=(L.getD i dvD).2:=by
 have e:L.getD i dvD=L[i]:=by simp[getD,h]
 have h1:Xz L i<L.length:=List.findIdx_lt_length_of_exists ⟨L[i],F3 h,by rw[e];simp⟩;refine⟨?_,?_⟩
 ·rcases F0 i (Xz L i) with q|q
  ·have h9:=List.not_of_lt_findIdx q;have h8:decide ((L[i]).2=(L.getD i dvD).2)=true:=(by rw[e];exact U0 rfl);exact absurd h8 (by simpa using h9)
  ·exact q
 ·have h2:=List.findIdx_getElem (p:=fun d:Dv=>decide (d.2=(L.getD i dvD).2)) (w:=h1);have e2:L.getD (Xz L i) dvD=L[Xz L i]:=by simp[getD,h1]
  rw[e2];exact U1 h2
theorem Zfn{L:V6 Dv}{i k:Nat}(hk:k<Xz L i):(L.getD k dvD).2≠(L.getD i dvD).2:=by
 have hl:k<L.length:=D5 hk List.findIdx_le_length;have:=List.not_of_lt_findIdx hk;rw[show L.getD k dvD=L[k] from by simp[getD,hl]];simpa using this
theorem Zg0{L:V6 Dv}{i k:Nat}(hi:i<L.length)(h1:(L.getD k dvD).2=(L.getD i dvD).2)(h2:∀ j,j<k→(L.getD j dvD).2≠(L.getD i dvD).2):k=Xz L i:=by
 rcases Nat.lt_trichotomy k (Xz L i) with q|q|q
 ·exact absurd h1 (Zfn q)
 ·exact q
 ·exact absurd (Ng hi).2 (h2 _ q)
theorem Pt{L:V6 Dv}{i:Nat}(hi:i<L.length):Xz L (Xz L i)=Xz L i:=by
 have h:=Ng hi;have hl:Xz L i<L.length:=M0;exact(Zg0 hl Y6 fun j hj=>by rw[h.2];exact Zfn hj).symm
def owL (L:V6 Dv):V6 Nat:=(range L.length).map (Xz L)
theorem Zgl(L:V6 Dv):(owL L).length=L.length:=by unfold owL;rw[A3,List.length_range]
theorem owL_get{L:V6 Dv}{i:Nat}(h:i<L.length):(owL L).getD i 0=Xz L i:=by
 unfold owL;simp[getD,h]
def Zb2(L:V6 Dv)(i:Nat):V6 (Bl×Nat):=((range i).filter fun k=>Xz L k==k).map fun k=>(txt (L.getD k dvD).2,k)
theorem Og(L:V6 Dv)(i:Nat):Zb2 L (i+1)=if Xz L i=i then Zb2 L i++[(txt (L.getD i dvD).2,i)] else Zb2 L i:=by
 unfold Zb2;rw[B8,List.filter_append,A6];by_cases q:Xz L i=i<;>simp[q]
def ItT (w : V1) : Prop := Lib.TabIs Tryz.prog w "internal/strconv.uint64pow10" .u64 Lib.pow10Tab
theorem ItT.i{w W:V1}(h:ItT w)(hb:B3 w W):ItT W:=by
 unfold ItT Lib.TabIs World.var? at h ⊢;cases hg : Tryz.prog.globalNamed "internal/strconv.uint64pow10" with
 | none=>rw[hg] at h;cases h
 | some g =>
  rw[hg] at h;simp only[Option.bind_some] at h ⊢;rcases F0 g w.heap.size with q|q
  ·rw[hb.block g q];exact h
  ·rw[Array.getElem?_eq_none q] at h;cases h
theorem Ev(w:V1):∀ k,B3 w (w.drewN k)
 | 0=>U3 _ _
 | k+1=>by
  have h:=Ev w k;first|exact bln h (Za _)|exact bln (Za w) (Ev w.drew k)
theorem Zpl(w:V1)(os:Array Obj):B3 w (Go.Sort.grow w os):=⟨rfl,rfl,rfl,by simp[Go.Sort.grow],fun k hk=>by simp[Go.Sort.grow,Array.getElem?_append,hk]⟩
theorem Zfw{n:Int}(hn:InI n)(w:V1)(h:ItT w):C0 77 #[V0 n] w (Ret (.string ⟨(Lib.itoa n).toArray⟩) w):=by
 refine(Oj n hn.1 hn.2 w h).mono ?_;rintro e W ⟨rfl,k,os,rfl⟩;exact⟨rfl,bln (Ev w k) (Zpl _ os)⟩
def Bld (B b:Nat)(l:Bl)(w:V1):Prop:=∃ v q c,(v=.pointer none∨v=P0 b)∧B≤b∧Blk w b [v,.slice q l.length c] 155∧w.ownsRow B 5 1 (.slice q l.length c) l.length (l.map bv)
theorem Bld.i{B b:Nat}{l:Bl}{w W:V1}(h:Bld B b l w)(hb:B3 w W):Bld B b l W:=by
 obtain⟨v,q,c,h1,h2,h3,h4⟩:=h;exact⟨v,q,c,h1,h2,h3.i hb,Zb h4 hb⟩
theorem Bld.q{B b:Nat}{l:Bl}{w W:V1}{T:V6 V3}(h:Bld B b l w)(hO:Zd T w W)(hT:(T.contains 155||T.contains 5)=false):Bld B b l W:=by
 obtain⟨v,q,c,h1,h2,h3,h4⟩:=h;simp only[K5] at hT;exact⟨v,q,c,h1,h2,h3.q hO hT.1,Zi h4 hO hT.2⟩
theorem Bld.zero{B b:Nat}{w:V1}(hB:B≤b)(k:Blk w b [.pointer none,S1] 155):Bld B b [] w :=
 ⟨_,none,0,.inl rfl,hB,k,A8 _ _ _ _⟩
theorem Zu6(b:Nat)(x:V2)(w:V1)(k:Blk w b [P0 b,x] 155) :
 C0 142 #[P0 b] w fun e w'=>e=.returned (.tuple #[])∧w'=w:=by
 have h0:w.cell? ⟨b,0,none⟩=some (P0 b):=k.cell (i:=0) rfl
 obtain⟨j,hj,_⟩:=Option.map_eq_some_iff.1 Vd.sizeBuilder
 go_enter Tryz.func142,Tryz.ntmps142
 go_wp2
 rw[Lib.run_neq_ptr_same w _ Tryz.underlying153 hj]
 go_wp2
 go_end0
 exact⟨rfl,rfl⟩
theorem Zs0(b:Nat)(x:V2)(w:V1)(k:Blk w b [.pointer none,x] 155) :
 C0 142 #[P0 b] w fun e w'=>e=.returned (.tuple #[])∧w'=w.setCell ⟨b,0,none⟩ (P0 b):=by
 have h0:w.cell? ⟨b,0,none⟩=some (.pointer none):=k.cell (i:=0) rfl
 have a2:w.frozen? ⟨b,0,none⟩=false:=k.frozen 0
 have a0:w.shape? b=some (155,2):=by
  have:w.heap[b]? = some (.cells #[.pointer none,x] 155 (0,0)):=k;simp[World.shape?,this]
 obtain⟨j,hj,a1⟩:=Option.map_eq_some_iff.1 Vd.sizeBuilder
 go_enter Tryz.func142,Tryz.ntmps142
 go_wp2
 rw[Lib.run_to_unsafe w ⟨b,0,none⟩ Tryz.underlying153 Tryz.underlying233 hj (by rw[a1];decide) a0 (Nat.zero_lt_succ 1)]
 simp only[Result.andThen]
 rw[Oper.upon_value]
 go_wp2
 rw[run_callFunc_extern Tryz.func211 K0 K0 K0 (e:=Extern.AbiNoEscape.same) K0]
 rw[Lib.run_noEscape]
 simp only[Result.andThen]
 rw[Oper.upon_value]
 go_wp2
 rw[Lib.run_from_unsafe w ⟨b,0,none⟩ Tryz.underlying233 Tryz.underlying153 hj a0 Vd.liesBuilder]
 simp only[Result.andThen]
 rw[Oper.upon_value]
 go_wp2
 go_end0
 exact⟨rfl,rfl⟩
theorem Znt(B b:Nat)(v x:V2)(w:V1)(hv:v=.pointer none∨v=P0 b)(hB:B≤b)(k:Blk w b [v,x] 155) :
 C0 142 #[P0 b] w fun e w'=>e=.returned (.tuple #[])∧Below B w w'∧Zd [155] w w'∧Blk w' b [P0 b,x] 155:=by
 rcases hv with rfl|rfl
 ·refine(Zs0 b x w k).mono ?_
  rintro e W ⟨rfl,rfl⟩
  have u:=Upd.setCell w b 0 (P0 b)
  exact⟨rfl,u.i (U3 _ _) hB,Q1 u k Do,k.set 0 _⟩
 ·refine(Zu6 b x w k).mono ?_
  rintro e W ⟨rfl,rfl⟩
  exact⟨rfl,U3 _ _,Zd.refl _ _,k⟩
theorem bldStr(B b:Nat)(v:V2)(q:O0)(c n:Nat)(l:Bl)(s:Bl)(w:V1)(hv:v=.pointer none∨v=P0 b)(hbB:B≤b)(kb:Blk w b [v,.slice q n c] 155)(ho:w.ownsRow B 5 1 (.slice q n c) n (l.map bv))(hn:l.length=n)(hl:n+s.length≤100000000)(hBw:B≤w.heap.size) :
 C0 76 #[P0 b,.string ⟨s.toArray⟩] w ((fun e w'=>∃ q c,e=.returned (.tuple #[V0 (s.length:Int),.nilIface])∧Below B w w'∧Zd [155,5] w w'∧Blk w' b [P0 b,.slice q (n+s.length) c] 155∧w'.ownsRow B 5 1 (.slice q (n+s.length) c) (n+s.length) ((l++s).map bv))):=by
 refine zin 19 Tryz.func76 ?_
 refine xc 9 (Znt B b v (.slice q n c) _ hv hbB kb) ?_
 rintro _ W1 ⟨rfl,a5,a6,a4⟩
 refine xb 8 1 a4 ?_
 have a1:=Zi ho a6 Do
 refine xbi 1 (t2:=9) fun _ _ _ _ zJ zQ zo zx zy zK=>Zxj s (n+s.length) (((l++s).map bv)) zo Tryz.underlying50 Tryz.underlying9 K0 zx a1 zy M0 (N0 hBw a5.size) Y6 (by rw[A6]) fun b0 a8 W2 o2 a7 a9=>?_
 refine zK _ _ ?_
 have a0:=a4.grown a7 a1 Do
 refine xs 2 a0 [P0 b,.slice b0 (n+s.length) a8] fun W3 u3 k3=>?_
 have a3:=u3.j o2 a0 Do
 have a2:=u3.i (a5.trans a9) hbB
 have hO:=((show Zd [155,5] w _ from(a6.wide Do)).trans (Q4 a7 a1 Do)).trans (Q1 u3 a0 Do)
 exact xe 11 (.tuple #[V0 (s.length:Int),.nilIface]) ⟨_,_,rfl,a2,hO,k3,a3⟩
theorem bldByte(B b:Nat)(v:V2)(q:O0)(c n:Nat)(l:Bl)(x:UInt8)(w:V1)(hv:v=.pointer none∨v=P0 b)(hbB:B≤b)(kb:Blk w b [v,.slice q n c] 155)(ho:w.ownsRow B 5 1 (.slice q n c) n (l.map bv))(hn:l.length=n)(hl:n+1≤100000000)(hBw:B≤w.heap.size) :
 C0 78 #[P0 b,(bv x)] w ((fun e w'=>∃ q c,e=.returned (.nilIface)∧Below B w w'∧Zd [155,5] w w'∧Blk w' b [P0 b,.slice q (n+1) c] 155∧w'.ownsRow B 5 1 (.slice q (n+1) c) (n+1) ((l++[x]).map bv))):=by
 refine zin 17 Tryz.func78 ?_
 refine xc 8 (Znt B b v (.slice q n c) _ hv hbB kb) ?_
 rintro _ W1 ⟨rfl,a9,a6,a5⟩
 refine xb 8 1 a5 ?_
 refine xbs 1 1 [(bv x)] 5 fun b2 W2 n2=>?_
 have a4:=Zi ho a6 Do
 have a1:=Zb a4 n2.i
 have hB:=blB a9 hBw n2.i
 refine xbi 0 fun _ _ _ _ zJ zQ zo zx zy zK=>Xd (m:=1) (news:=[(bv x)]) (.int .u8 0) 1 1 (n+1) (((l++[x]).map bv)) zo Tryz.underlying50 K0 rfl Do zx a1 zy (n2.blk.sl 1 1 Do Do) rfl (Vq [x]) Y2 M0 (N0 hBw hB.size) Y6 (by rw[A6];rfl) fun b1 b0 W3 o3 a7 a8=>?_
 refine zK _ _ ?_
 have a0:=(a5.i n2.i).grown a7 a1 Do
 refine xs 2 a0 [P0 b,.slice b1 (n+1) b0] fun W4 u4 k4=>?_
 have a3:=u4.j o3 a0 Do
 have a2:=u4.i (hB.trans a8) hbB
 have hO:=(((show Zd [155,5] w _ from(a6.wide Do)).trans (Q0 n2.i)).trans (Q4 a7 a1 Do)).trans (Q1 u4 a0 Do)
 exact xe 8 .nilIface ⟨_,_,rfl,a2,hO,k4,a3⟩
def BldP(B b:Nat)(l:Bl)(v:V2)(w:V1)(e:V5)(w':V1):Prop:=e=.returned v∧Below B w w'∧Zd [155,5] w w'∧Bld B b l w'
theorem Zlf{B b:Nat}{l:Bl}(s:Bl)(w:V1)(h:Bld B b l w)(hl:l.length+s.length≤100000000)(hBw:B≤w.heap.size) :
 C0 76 #[P0 b,.string ⟨s.toArray⟩] w (BldP B b (l++s) (.tuple #[V0 (s.length:Int),.nilIface]) w):=by
 obtain⟨v,q,c,h1,h2,h3,h4⟩:=h
 refine(bldStr B b v q c l.length l s w h1 h2 h3 h4 rfl hl hBw).mono ?_
 rintro e W ⟨q2,c2,rfl,hb,hO,k,ho⟩
 rw[←A1] at k ho
 exact⟨rfl,hb,hO,_,q2,c2,.inr rfl,h2,k,ho⟩
theorem bld_Byte{B b:Nat}{l:Bl}(x:UInt8)(w:V1)(h:Bld B b l w)(hl:l.length+1≤100000000)(hBw:B≤w.heap.size) :
 C0 78 #[P0 b,bv x] w (BldP B b (l++[x]) .nilIface w):=by
 obtain⟨v,q,c,h1,h2,h3,h4⟩:=h
 refine(bldByte B b v q c l.length l x w h1 h2 h3 h4 rfl hl hBw).mono ?_
 rintro e W ⟨q2,c2,rfl,hb,hO,k,ho⟩
 have e:l.length+1=(l++[x]).length:=Y5
 rw[e] at k ho
 exact⟨rfl,hb,hO,_,q2,c2,.inr rfl,h2,k,ho⟩
theorem bld_End{B b:Nat}{l:Bl}(w:V1)(h:Bld B b l w)(hBw:B≤w.heap.size) :
 C0 79 #[P0 b] w (fun e w'=>e=.returned (.string ⟨l.toArray⟩)∧Below B w w'):=by
 obtain⟨v,q,c,h1,h2,h3,h4⟩:=h
 have hx:Lib.BuilderAtF 155 5 B b v (Lib.byteCells l) w:=by
  refine⟨h2,_,h3,?_,fun e=>?_⟩
  ·rw[Lib.byteCells_length];exact World.ownsRowF_of h4
  ·rcases h4.2 with ⟨h5,_⟩|⟨g,a0,a1,h5,_,h6,_⟩
   ·rw[h5] at e;cases e
   ·rw[h5] at e;obtain rfl:g=b:=Option.some.inj e;rw[show w.heap[g]? = _ from h3] at h6;cases h6
 refine(Mv B b l w (by rcases h1 with rfl|rfl;exact .inl hx;exact .inr hx) hBw).mono ?_
 rintro e W ⟨rfl,_,hb,_⟩
 exact⟨rfl,hb⟩
end
end
section
open Go.ChangeShapes Go.WideShapes Go.ChangeAt Go.RowKit Go.Joins
abbrev twL3 : V6 (String × DataW Unit) := [("math/bits.deBruijn32tab", Rows.laid_math_bits_deBruijn32tab), ("math/bits.deBruijn64tab", Rows.laid_math_bits_deBruijn64tab), ("internal/strconv.uint64pow10", Rows.laid_internal_strconv_uint64pow10)]
abbrev twL4 : V6 (String × DataW Unit) := [("math/bits.deBruijn32tab", Rows.laid_math_bits_deBruijn32tab), ("math/bits.deBruijn64tab", Rows.laid_math_bits_deBruijn64tab), ("internal/strconv.uint64pow10", Rows.laid_internal_strconv_uint64pow10), ("errors.errorType", Rows.laid_errors_errorType)]
theorem Tryz.pw : Tryz.prog.globalNamed "internal/strconv.uint64pow10" = some 1 := by kernel_rfl
theorem Tryz.j9:(Tryz.prog.globals[1]?).map (·.type)=some 387:=K0
theorem pow_data{H:Type}:(Rows.laid_internal_strconv_uint64pow10:DataW H)=Lib.tabData .u64 Lib.pow10Tab:=by
 unfold Rows.laid_internal_strconv_uint64pow10 Lib.tabData;rfl
theorem itT_of{W:V1}(h:laidMet Tryz.prog twL3 W):ItT W:=by
 obtain⟨ps,⟨_,_,_,_,_,_,_,_,_,_,⟨_,_,_,_,_,_,_,_,_,_,⟨g,t,cs,a1,p,q,hg,ht,a0,hd,_,_⟩,_⟩,_⟩,_⟩:=h;obtain rfl:=Option.some.inj (Tryz.pw.symm.trans hg);obtain rfl:=Option.some.inj (Tryz.j9.symm.trans ht);unfold ItT Lib.TabIs;rw[a0];rw[pow_data] at hd;rw[←Lib.cells_of_tab Tryz.underlying387 Tryz.underlying341 K0 K0 hd]
theorem itT4{W:V1}(h:laidMetH Tryz.prog twL4 W):ItT W:=by
 have h' : laidMet Tryz.prog twL3 W ∧ handlesMet Tryz.prog [("errors.errorType", Rows.laid_errors_errorType)] W := h;exact itT_of h'.1
theorem errT4{W:V1}(h:laidMetH Tryz.prog twL4 W):Zs3 W:=by
 have h' : laidMet Tryz.prog twL3 W ∧ handlesMet Tryz.prog [("errors.errorType", Rows.laid_errors_errorType)] W := h;exact Zia ⟨laidMet_nil _ _,h'.2⟩
def tab32:Array V2:=#[.int .u8 0,.int .u8 1,.int .u8 28,.int .u8 2,.int .u8 29,.int .u8 14,.int .u8 24,.int .u8 3,.int .u8 30,.int .u8 22,.int .u8 20,.int .u8 15,.int .u8 25,.int .u8 17,.int .u8 4,.int .u8 8,.int .u8 31,.int .u8 27,.int .u8 13,.int .u8 23,.int .u8 21,.int .u8 19,.int .u8 16,.int .u8 7,.int .u8 26,.int .u8 12,.int .u8 18,.int .u8 6,.int .u8 11,.int .u8 5,.int .u8 10,.int .u8 9]
def tab64:Array V2:=#[.int .u8 0,.int .u8 1,.int .u8 56,.int .u8 2,.int .u8 57,.int .u8 49,.int .u8 28,.int .u8 3,.int .u8 61,.int .u8 58,.int .u8 42,.int .u8 50,.int .u8 38,.int .u8 29,.int .u8 17,.int .u8 4,.int .u8 62,.int .u8 47,.int .u8 59,.int .u8 36,.int .u8 45,.int .u8 43,.int .u8 51,.int .u8 22,.int .u8 53,.int .u8 39,.int .u8 33,.int .u8 30,.int .u8 24,.int .u8 18,.int .u8 12,.int .u8 5,.int .u8 63,.int .u8 55,.int .u8 48,.int .u8 27,.int .u8 60,.int .u8 41,.int .u8 37,.int .u8 16,.int .u8 46,.int .u8 35,.int .u8 44,.int .u8 21,.int .u8 52,.int .u8 32,.int .u8 23,.int .u8 11,.int .u8 54,.int .u8 26,.int .u8 40,.int .u8 15,.int .u8 34,.int .u8 20,.int .u8 31,.int .u8 10,.int .u8 25,.int .u8 14,.int .u8 19,.int .u8 9,.int .u8 13,.int .u8 8,.int .u8 7,.int .u8 6]
def tabPow:Array V2:=(Lib.pow10Tab.map fun z=>Value.int .u64 z).toArray
noncomputable def laidWorld4 (os:Os):V1 :=
 let put (cs:Array V2):Obj→Obj:=fun
  | .cells _ t frozen=>.cells cs t frozen
  | o=>o
 let w0:=laidWorld os
 { w0 with heap:=((w0.heap.modify 2 (put tab32)).modify 3 (put tab64)).modify 1 (put tabPow) }
theorem Zcb(os:Os)(args:Array V2):laidMetH Tryz.prog twL4 ((laidWorld4 os).forCall (fun _ _=>0) ⟨#[],args,[]⟩).memory :=
 laidMetH_of_parts (laidMet_of_run' 8 K0 K0) K0
end
section
open Go.RowKit
section
section
variable {P:V4} {a:Act}
theorem Zux(l:Bl)(b c:Nat):(ByteArray.mk l.toArray).extract b c=ByteArray.mk ((l.drop b).take (c-b)).toArray:=ByteArray.extract_mk l b c
theorem run_strH{o:Oper}{t:V3}{x y:Operand}{l:Bl}{k:Nat}{j:Int}{kj:IntKind}(ho:o.op=.slice t x none (some y) none)(hx:a.eval x=.string ⟨l.toArray⟩)(hy:a.eval y=.int kj j)(hj:j=(k:Int))(hk:k≤l.length)
 (ht:P.underlying t=some .string) (w:V1):(execOp a.eval o).run P w=.ok (.value (.string ⟨(l.take k).toArray⟩)) w:=by
 subst hj
 have hs:((k:Int))≤((⟨l.toArray⟩:ByteArray).size:Int):=by simp[ByteArray.size];omega
 have h:=run_slice_string_h (P:=P) (w:=w) (t:=t) (s:=⟨l.toArray⟩) ht kj (k:Int) M0 hs
 rw[Zux,List.drop_zero,G6,Nat.sub_zero] at h
 simp only[execOp,ho,hx,D3,P7,hy]
 simp[run_sliceAt_string,ht,h]
theorem run_strL{o:Oper}{t:V3}{x y:Operand}{l:Bl}{k:Nat}{j:Int}{kj:IntKind}(ho:o.op=.slice t x (some y) none none)(hx:a.eval x=.string ⟨l.toArray⟩)(hy:a.eval y=.int kj j)(hj:j=(k:Int))(hk:k≤l.length)
 (ht:P.underlying t=some .string) (w:V1):(execOp a.eval o).run P w=.ok (.value (.string ⟨(l.drop k).toArray⟩)) w:=by
 subst hj
 have hs:((k:Int))≤((⟨l.toArray⟩:ByteArray).size:Int):=by simp[ByteArray.size];omega
 have h:=run_slice_string_l (P:=P) (w:=w) (t:=t) (s:=⟨l.toArray⟩) ht kj (k:Int) M0 hs
 rw[Zux,G6,show(⟨l.toArray⟩:ByteArray).size=l.length by simp[ByteArray.size],B9 Y5] at h
 simp only[execOp,ho,hx,D3,P7,hy]
 simp[run_sliceAt_string,ht,h]
end
end
end
section
open Go.RowKit Go.Extern.Stop Go.Stop Go.Extern
section
attribute [local irreducible] wpList wpAnyH Code.wp Oper.wp Go
def Xx:V6 Ly:=[(8,1,14399),(4,0,960),(4,0,960)]
theorem slotP_ok:Gm Xx:=by
 refine⟨Do,fun i hi=>?_⟩;have a0:i<3:=hi;obtain rfl|rfl|rfl:i=0∨i=1∨i=2:=M0
 all_goals simp[Xx,getD]
def Pm(l:Bl)(i:Nat):Bl:=(l.drop (4+i*16)).take 16
def Pj(l:Bl)(i k:Nat):Nat:=(Xq Xx (Pm l i)).getD k 0
def Zya(x:Nat×Nat×Nat):V6 V2:=[V0 (x.1:Int),V0 (x.2.1:Int),V0 (x.2.2:Int)]
theorem Ib(x:Nat×Nat×Nat):(Zya x).length=3:=rfl
def sltX(l:Bl)(i:Nat):Nat×Nat×Nat:=(Pj l i 0,Pj l i 1,Pj l i 2)
def Sd(l:Bl)(n:Nat):V6 (Nat×Nat×Nat):=(range n).map (sltX l)
theorem Zqr(l:Bl)(n:Nat):Sd l (n+1)=Sd l n++[sltX l n]:=by simp[Sd,B8]
theorem Zi8(l:Bl)(n:Nat):(Sd l n).length=n:=by simp[Sd]
def Dm(l:Bl):Nat→Int
 | 0=>0
 | i+1=>if Dm l i≠0 then Dm l i else Xn Xx (Pm l i)
theorem Zc1{l:Bl}{i:Nat}(h:Dm l i≠0):∀ n,i≤n→Dm l n=Dm l i
 | 0,h2=>by
  obtain rfl:i=0:=M0;rfl
 | n+1,h2=>by
   by_cases e:i=n+1
   ·rw[e]
   ·have ih:=Zc1 h n M0;rw[Dm,V8 (by rw[ih];exact h),ih]
theorem sltsE_at{l:Bl}{i n:Nat}(h:Dm l i=0)(he:Xn Xx (Pm l i)≠0)(hi:i<n):Dm l n=Xn Xx (Pm l i):=by
 have e:Dm l (i+1)=Xn Xx (Pm l i):=by rw[Dm,V7 (by rw[h];decide)]
 rw[Zc1 (by rw[e];exact he) n hi,e]
theorem Zcy{l:Bl}{i:Nat}(h:Dm l i=0)(he:Xn Xx (Pm l i)=0):Dm l (i+1)=0:=by rw[Dm,V7 (by rw[h];decide),he]
theorem Zt7{l:Bl}{i:Nat}(hl:l.length=244)(hi:i<15):(Pm l i).length=16:=by simp[Pm];omega
def Ze5(l:Bl):Bool:=decide (Zo l 0 4≤15)&&Hv (l.drop (4+Zo l 0 4*16))
def Zgu(l:Bl):Int:=if Ze5 l then Dm l (Zo l 0 4) else 7
def SlotsP(l:Bl)(w:V1)(e:V5)(w':V1):Prop :=
 (Zgu l≠0∧e=.returned (.tuple #[S1,V0 (Zgu l)])∧B3 w w') ∨
 (Zgu l=0∧∃ p c,e=.returned (.tuple #[.slice p (Zo l 0 4) c,V0 0])∧B3 w w'∧w'.ownsRow w.heap.size 126 3 (.slice p (Zo l 0 4) c) (Zo l 0 4) ((Sd l (Zo l 0 4)).flatMap Zya))
theorem Zly(w:V1) :
 C0 128 #[] w (Kd (fun w' r=>∃ b,r=.slice (S3 b) 3 3∧w.heap.size≤b∧Blk w' b [V0 8,V0 1,V0 14399,V0 4,V0 0,V0 960,V0 4,V0 0,V0 960] 298) w):=by
 refine zin 5 Tryz.func128 ?_
 refine xbs 10 3 [V0 8,V0 1,V0 14399,V0 4,V0 0,V0 960,V0 4,V0 0,V0 960] 298 fun b1 W1 n1=>?_
 have g1:=n1.ge (B4 w)
 exact xe 4 (.slice (S3 b1) 3 3) ⟨_,rfl,n1.i,_,rfl,g1,n1.blk⟩
theorem Ni(s:Bl)(w:V1)(hs:s.length≤1000) :
 C0 66 #[.string ⟨s.toArray⟩] w (Ret (.tuple #[.agg #[V0 (↑((Xq Xx s).getD 0 0):Int),V0 (↑((Xq Xx s).getD 1 0):Int),V0 (↑((Xq Xx s).getD 2 0):Int)],V0 (Xn Xx s)]) w):=by
 refine zin 23 Tryz.func66 ?_
 refine xa 2 [V0 0,V0 0,V0 0] 126 fun b1 W1 n1=>?_
 refine xc 5 (Zly _) ?_
 rintro _ W2 ⟨_,rfl,a1,gl,rfl,gg,kl⟩
 refine xc 1 (Mr Xx s (S3 gl) 3 _ slotP_ok Do M0 (kl.sl 3 3 Do Do)) ?_
 rintro _ W3 ⟨_,rfl,a2,p5,c5,rfl,h5⟩
 have a3:=(bln n1.i a1).size
 refine xd 8 (.t w.heap.size [126]) ?_
 have a0:=Zb (Zg h5 a3) (Za W3)
 refine xx (.e [0] 1) _ 3 0 1 (Zz (l:=Xq Xx s) (Zf a0) (Yi _ _) (k:=0) Do).1 ?_
 refine xlt (.e [] 2) (.t w.heap.size [126]) (fun V hV=>(Zz (l:=Xq Xx s) (Zf (Zi a0 hV.2 Do)) (Yi _ _) (k:=0) Do).2) ?_
 refine xx (.e [3] 4) _ 3 1 1 (Zz (l:=Xq Xx s) (Zf a0) (Yi _ _) (k:=1) Do).1 ?_
 refine xlt (.e [] 5) (.t w.heap.size [126]) (fun V hV=>(Zz (l:=Xq Xx s) (Zf (Zi a0 hV.2 Do)) (Yi _ _) (k:=1) Do).2) ?_
 refine xx (.e [6] 7) _ 3 2 1 (Zz (l:=Xq Xx s) (Zf a0) (Yi _ _) (k:=2) Do).1 ?_
 refine xlt (.e [] 8) (.t w.heap.size [126]) (fun V hV=>(Zz (l:=Xq Xx s) (Zf (Zi a0 hV.2 Do)) (Yi _ _) (k:=2) Do).2) ?_
 have k1:=((n1.blk.i a1).i a2).i (Za W3)
 have g1:=n1.ge (B4 w)
 refine ysv (.o [9,10] 11) k1 [V0 (↑((Xq Xx s).getD 0 0):Int),V0 (↑((Xq Xx s).getD 1 0):Int),V0 (↑((Xq Xx s).getD 2 0):Int)] (.t w.heap.size [126]) fun W4 u4 k4=>⟨(Zr u4 k1 g1 Do),?_⟩
 have hB:=u4.i (bln (bln (bln n1.i a1) a2) (Za W3)) g1
 exact xec (.r [12] 3) k4 (.tuple #[.agg #[V0 (↑((Xq Xx s).getD 0 0):Int),V0 (↑((Xq Xx s).getD 1 0):Int),V0 (↑((Xq Xx s).getD 2 0):Int)],V0 (Xn Xx s)]) ⟨rfl,hB⟩
theorem Zrs(B bt:Nat)(x:Bl)(w:V1)(hBw:B≤w.heap.size)(hBt:B≤bt)(kt:Blk w bt [.string ⟨x.toArray⟩] 9)(hx:16≤x.length) :
 C0 204 #[P0 bt] w ((fun e w'=>e=.returned (.string ⟨(x.take 16).toArray⟩)∧Below B w w'∧Zd [9] w w'∧Blk w' bt [.string ⟨(x.drop 16).toArray⟩] 9)):=by
 refine zin 8 Tryz.func204 ?_
 refine xb 7 0 kt ?_
 refine xsH 0 (fun _ _ _ _ zo zx zy V=>run_strH (k:=16) (j:=16) (kj:=.i64) zo zx zy rfl hx Tryz.underlying9 V) ?_
 refine xb 5 0 kt ?_
 refine xsL 0 (fun _ _ _ _ zo zx zy V=>run_strL (k:=16) (j:=16) (kj:=.i64) zo zx zy rfl hx Tryz.underlying9 V) ?_
 refine xs 0 kt [.string ⟨(x.drop 16).toArray⟩] fun W1 u1 k1=>?_
 have hB:=u1.i (U3 B w) hBt
 have hO:=(show Zd [9] w _ from(Q1 u1 kt Do))
 exact xe 9 (.string ⟨(x.take 16).toArray⟩) ⟨rfl,hB,hO,k1⟩
theorem Zb6(l:Bl)(i:Nat)(w:V1)(hs:(Pm l i).length≤1000):C0 66 #[.string ⟨(Pm l i).toArray⟩] w (fun e w' =>
 (Xn Xx (Pm l i)=0∧e=.returned (.tuple #[.agg #[V0 (Pj l i 0:Int),V0 (Pj l i 1:Int),V0 (Pj l i 2:Int)],V0 0])∧B3 w w') ∨
 (Xn Xx (Pm l i)≠0∧e=.returned (.tuple #[.agg #[V0 (Pj l i 0:Int),V0 (Pj l i 1:Int),V0 (Pj l i 2:Int)],V0 (Xn Xx (Pm l i))])∧B3 w w')):=by
 refine(Ni (Pm l i) w hs).mono ?_
 rintro e W ⟨rfl,hb⟩
 by_cases h:Xn Xx (Pm l i)=0
 ·exact .inl ⟨h,by rw[h];rfl,hb⟩
 ·exact .inr ⟨h,rfl,hb⟩
theorem bysK{w:V1}{a:O0}{c k:Nat}{l:Bl}(h:Bys w (.slice a 244 c) l)(hl:l.length=244)(hk:k≤244):Bys w (.slice (Li a k c 1) (244-k) (c-k)) (l.drop k):=by
 have:=Y1 h hl k 244 hk Do;rwa [B9 (by simp;omega)] at this
theorem Zr8(a:O0)(c:Nat)(l:Bl)(w:V1)(hl:l.length=244)(h:Bys w (.slice a 244 c) l) :
 C0 132 #[.slice a 244 c] w (SlotsP l w):=by
 refine zin 52 Tryz.func132 ?_
 refine xr 20 (Zjq a 244 c 0 4 0 4 l _ hl rfl rfl Do Do Do (h.i (B4 w))) fun W1 b4=>?_
 refine xg 13 [20,21] (decide ((↑(Zo l 0 4):Int)>(15:Int))) (fun a5=>?_) (fun a5=>?_)
 ·have a5:=U1 a5
  refine xe 19 (.tuple #[S1,V0 7]) ?_
  have he:Zgu l=7:=by unfold Zgu Ze5;rw[V9 M0,Bool.false_and,V7 Do]
  exact .inl ⟨by rw[he];decide,by rw[he],b4⟩
 have a5:=U2 a5
 refine xwm 2 ((↑(Zo l 0 4):Int)*16) (↑((Zo l 0 4)*16):Int) ?_
 refine xwm 0 (4+(↑((Zo l 0 4)*16):Int)) (↑(4+((Zo l 0 4)*16)):Int) ?_
 refine xsL 0 (fun _ _ _ _ zo zx zy V=>Wv (k:=(4+((Zo l 0 4)*16))) (b:=a) (n:=244) (c:=c) (i:=(↑(4+((Zo l 0 4)*16)):Int)) (ki:=.i64) 1 zo zx zy rfl M0 Tryz.underlying50 K0 V) ?_
 refine xr 0 (Sj (Li a (4+((Zo l 0 4)*16)) c 1) (244-(4+((Zo l 0 4)*16))) (c-(4+((Zo l 0 4)*16))) (l.drop (4+Zo l 0 4*16)) _ (by simp;omega) M0 ((bysK (k:=4+Zo l 0 4*16) h hl M0).i b4)) fun W3 d3=>?_
 refine xi 4 (!(Hv (l.drop (4+Zo l 0 4*16)))) (fun c3=>?_) (fun c3=>?_)
 ·have b6:Hv (l.drop (4+Zo l 0 4*16))=false:=Zci c3
  have c0:=bln b4 d3
  refine xe 8 (.tuple #[S1,V0 7]) ?_
  have he:Zgu l=7:=by unfold Zgu Ze5;rw[b6,P2,V7 Do]
  exact .inl ⟨by rw[he];decide,by rw[he],c0⟩
 have b6:Hv (l.drop (4+Zo l 0 4*16))=true:=Zcj c3
 refine xsL 5 (fun _ _ _ _ zo zx zy V=>Wv (k:=4) (b:=a) (n:=244) (c:=c) (i:=4) (ki:=.i64) 1 zo zx zy rfl M0 Tryz.underlying50 K0 V) ?_
 have a2:=bln b4 d3
 refine xcv0 0 (fun _ _ _ zo zx=>Mq zo zx ((bysK (k:=4) h hl Do).i a2) (by simp;omega) Tryz.underlying50 Tryz.underlying5 Tryz.underlying9) ?_
 refine xa 0 [.string ⟨#[]⟩] 9 fun b5 W5 n5=>?_
 have g5:=n5.ge a2
 refine xs 0 n5.blk [.string ⟨(l.drop 4).toArray⟩] fun W6 u6 k6=>?_
 have e3:Blk _ _ [.string ⟨((l.drop (4+0*16))).toArray⟩] _:=k6
 have c6:=u6.i (bln a2 n5.i) g5
 refine zl 21 52 (fun zm d6 V=>∃ (i:Nat) (q:O0) (d:Nat),d6=[(7,.func (.func 204) #[] #[P0 b5]),(8,.slice q i d),(34,V0 (↑(Zo l 0 4):Int)),(35,V0 (i:Int))]∧zm=(Zo l 0 4)-((i:Int)).toNat∧B3 w V∧Blk V b5 ([.string ⟨(l.drop (4+i*16)).toArray⟩]) 9∧V.ownsRow w.heap.size 126 3 (.slice q i d) i ((Sd l i).flatMap Zya)∧i≤(Zo l 0 4)∧Dm l i=0) ⟨0,_,_,rfl,rfl,c6,e3,A8 _ _ _ _,A5 _,rfl⟩ ?_
 rintro _ _ W7 ⟨i,q,d,rfl,rfl,a1,b3,ho,hi,hz⟩ J7 d5 r7
 refine xid 6 ((i:Int)<(↑(Zo l 0 4):Int)) (fun e5=>?_) (fun e5=>?_)
 ·refine xc 7 (Zrs w.heap.size b5 (l.drop (4+i*16)) _ a1.size g5 b3 (by simp;omega)) ?_
  rintro _ W9 ⟨rfl,d2,d4,d1⟩
  rw[N8,show 4+i*16+16=4+(i+1)*16 by omega] at d1
  refine xc 0 (Zb6 l i _ (by rw[Zt7 hl M0];decide)) ?_
  rintro e f5 c9
  rcases c9 with ⟨a6,rfl,a0⟩|⟨a6,rfl,a0⟩
  ·refine xa 3 [V0 0,V0 0,V0 0] 126 fun f1 e6 a4=>?_
   have b0:=bln (a1.trans d2) a0
   have d8:=a4.ge b0
   have a8:=Zb (Zi ho d4 Do) a0
   have a3:=Hg a8 a4
   refine xsv 0 a4.blk [V0 (↑(Pj l i 0):Int),V0 (↑(Pj l i 1):Int),V0 (↑(Pj l i 2):Int)] fun f2 b9 d9=>?_
   refine xlv 15 d9.rp ?_
   refine xbs 0 1 [V0 (↑(Pj l i 0):Int),V0 (↑(Pj l i 1):Int),V0 (↑(Pj l i 2):Int)] 126 fun e8 e7 b7=>?_
   have c5:=b9.i (bln b0 a4.i) d8
   have c2:=b9.O (Zb a8 a4.i) a3
   have a7:=Zb c2 b7.i
   have a9:=bln c5 b7.i
   refine xbi 0 fun _ _ _ _ zJ zQ zo zx zy zK=>Xd (m:=1) (news:=[V0 (↑(Pj l i 0):Int),V0 (↑(Pj l i 1):Int),V0 (↑(Pj l i 2):Int)]) (.agg #[V0 0,V0 0,V0 0]) 3 24 (i+1) (((Sd l (i+1)).flatMap Zya)) zo Tryz.underlying132 K0 rfl Do zx a7 zy (b7.blk.sl 1 1 Do Do) rfl Y4 Y2 M0 a9.size Y6 (by rw[Zqr,C7];rfl) fun e0 e2 f4 e4 c7 c1=>?_
   refine zK _ _ ?_
   refine xwm 5 ((i:Int)+1) (↑(i+1):Int) ?_
   have c8:=a9.trans c1
   have b1:=((b9.A ((d1.i a0).i a4.i) a4.blk Do).i b7.i).grown c7 a7 Do
   exact ze 2 (d5 _ _ _ ⟨i+1,_,_,rfl,rfl,c8,b1,e4,M0,Zcy hz a6⟩ M0)
  refine xa 3 [V0 0,V0 0,V0 0] 126 fun e9 f0 b8=>?_
  have b2:=bln (a1.trans d2) a0
  have e1:=b8.ge b2
  refine xsv 0 b8.blk [V0 (↑(Pj l i 0):Int),V0 (↑(Pj l i 1):Int),V0 (↑(Pj l i 2):Int)] fun f6 d7 f3=>?_
  refine xk 10 (show(((Xn Xx (Pm l i)) != (0:Int)):Bool)=true from bne_iff_ne.2 a6) ?_
  have c4:=d7.i (bln b2 b8.i) e1
  refine xe 14 (.tuple #[S1,V0 (Xn Xx (Pm l i))]) ?_
  have d0:Ze5 l=true:=by unfold Ze5;rw[b6,U0 M0];rfl
  have he:Zgu l=Xn Xx (Pm l i):=by unfold Zgu;rw[V8 d0,sltsE_at hz a6 M0]
  exact .inl ⟨by rw[he];exact a6,by rw[he],c4⟩
 refine xe 13 (.tuple #[.slice q i d,V0 0]) ?_
 have d0:Ze5 l=true:=by unfold Ze5;rw[b6,U0 M0];rfl
 obtain rfl:i=Zo l 0 4:=M0
 exact .inr ⟨by unfold Zgu;rw[V8 d0,hz],_,_,rfl,a1,ho⟩
def Qr(l:Bl)(no:Int):Int:=if inE l 4 no=0 then Zgu (inB l no) else inE l 4 no
def Zuq(l:Bl)(no:Int)(w:V1)(e:V5)(w':V1):Prop :=
 (Qr l no≠0∧∃ b,e=.returned (.tuple #[S1,.iface 201 (P0 b)])∧B3 w w'∧Kx w' [some no] (some (Qr l no)) (.iface 201 (P0 b))) ∨
 (Qr l no=0∧∃ p c,e=.returned (.tuple #[.slice p (Zo (inB l no) 0 4) c,.nilIface])∧B3 w w'∧w'.ownsRow w.heap.size 126 3 (.slice p (Zo (inB l no) 0 4) c) (Zo (inB l no) 0 4) ((Sd (inB l no) (Zo (inB l no) 0 4)).flatMap Zya))
theorem readIdx(B b:Nat)(p:O0)(n c:Nat)(l:Bl)(no:Int)(w:V1)(hI:ImgR B b p n c l w) :
 C0 131 #[P0 b,V0 no,V0 4,.func (.func 132) #[] #[]] w (Zuq l no w):=by
 refine zin 56 Tryz.func131 ?_
 refine xc 15 (De B b p n c l no _ (hI.i (B4 w))) ?_
 rintro e W1 b3
 rcases b3 with ⟨ho,vr,rfl,a0⟩|⟨j,hk,hj,p2,c2,rfl,a0,ho⟩
 ·refine xc 21 (Ya no 3 _) ?_
  rintro _ W2 ⟨_,rfl,c7,a4⟩
  rw[V7 Do,V7 Do] at a4
  have b8:=a4
  obtain⟨b7,d1,rfl,_,_⟩:=b8
  have hB:=bln a0 c7
  refine xe 6 (.tuple #[S1,.iface 201 (P0 b7)]) ?_
  have he:Qr l no=3:=by unfold Qr;rw[Sg hI.len ho];rfl
  exact .inl ⟨by rw[he];decide,_,rfl,hB,by rw[he];exact a4⟩
 have b5:=At w.heap.size
 have b6:j<l.length/256:=by rw[hI.len];exact hj
 have b0:=Hx b6
 have a9:=Zdm (l:=l) (kind:=4) hI.len hk hj
 have a6:=Zg ho b5
 refine xc 22 (Sn 4 no p2 256 c2 (Kc l j) _ b0 (Vr (Zf a6) b0)) ?_
 rintro e W3 d0
 rcases d0 with ⟨hs,rfl,a2⟩|⟨hs,p3,c3,rfl,a2,h3⟩
 ·refine xk 14 (show(((Qz 4 no (Kc l j)) != (0:Int)):Bool)=true from bne_iff_ne.2 hs) ?_
  refine xc 6 (Ya no (Qz 4 no (Kc l j)) _) ?_
  rintro _ W4 ⟨_,rfl,c0,a3⟩
  rw[V7 hs,V7 hs] at a3
  have b4:=a3
  obtain⟨b9,d2,rfl,_,_⟩:=b4
  have hB:=bln (bln a0 a2) c0
  refine xe 6 (.tuple #[S1,.iface 201 (P0 b9)]) ?_
  have he:Qr l no=Qz 4 no (Kc l j):=by unfold Qr;rw[a9,V7 hs]
  exact .inl ⟨by rw[he];exact hs,_,rfl,hB,by rw[he];exact a3⟩
 have a1:=Zg h3 a0.size
 have c1:((Kc l j).drop 8).take 244=inB l no:=(Zdh hk).symm
 have b1:=Zeu hI.len hk hj
 rw[c1] at a1
 refine xc 21 (Zr8 p3 c3 (inB l no) _ b1 (Vr (Zf a1) b1)) ?_
 rintro e W5 c8
 rcases c8 with ⟨hz,rfl,a7⟩|⟨hz,p4,c4,rfl,a7,h4⟩
 ·refine xk 14 (show(((Zgu (inB l no)) != (0:Int)):Bool)=true from bne_iff_ne.2 hz) ?_
  refine xc 6 (Ya no (Zgu (inB l no)) _) ?_
  rintro _ W6 ⟨_,rfl,c6,a5⟩
  rw[V7 hz,V7 hz] at a5
  have c9:=a5
  obtain⟨c5,d3,rfl,_,_⟩:=c9
  have hB:=bln (bln (bln a0 a2) a7) c6
  refine xe 6 (.tuple #[S1,.iface 201 (P0 c5)]) ?_
  have he:Qr l no=Zgu (inB l no):=by unfold Qr;rw[a9,V8 hs]
  exact .inl ⟨by rw[he];exact hz,_,rfl,hB,by rw[he];exact a5⟩
 have b2:=(bln a0 a2).size
 have hB:=bln (bln a0 a2) a7
 have a8:=Zg h4 b2
 exact xe 25 (.tuple #[.slice p4 (Zo (inB l no) 0 4) c4,.nilIface]) (.inr ⟨by unfold Qr;rw[a9,V8 hs,hz],_,_,rfl,hB,a8⟩)
theorem Zkf(B b:Nat)(p:O0)(n c:Nat)(l:Bl)(no:Int)(w:V1)(hI:ImgR B b p n c l w) :
 C0 68 #[P0 b,V0 no] w (Zuq l no w):=by
 refine zin 11 Tryz.func68 ?_
 refine xc 10 (readIdx B b p n c l no _ (hI.i (B4 w))) ?_
 rintro e W1 a3
 rcases a3 with ⟨he,bf,rfl,a0,hv⟩|⟨he,p4,c4,rfl,a0,h4⟩
 ·exact xe 7 (.tuple #[S1,.iface 201 (P0 bf)]) (.inl ⟨he,_,rfl,a0,hv⟩)
 have a2:=At w.heap.size
 have a1:=Zg h4 a2
 exact xe 7 (.tuple #[.slice p4 (Zo (inB l no) 0 4) c4,.nilIface]) (.inr ⟨he,_,_,rfl,a0,a1⟩)
theorem Zju(kind no:Int)(a:O0)(n c:Nat)(l:Bl)(w:V1)(hn:l.length=n)(h:Bys w (.slice a n c) l):C0 188 #[.slice a n c,V0 kind,V0 no] w (OpenP kind no l w):=by
 subst hn;exact Zhj kind no a c l w h
theorem Zq2(a:O0)(n c:Nat)(l:Bl)(w:V1)(hn:l.length=n)(hl:n≤100000000)(h:Bys w (.slice a n c) l):C0 248 #[.slice a n c] w (BitsP l w):=by
 subst hn;exact Zzu a c l w hl h
def Za6(l:Bl):Bool:=decide (l.length=244)&&decide (Zo l 0 4≤960)&&(range 960).all fun i=>decide (i<Zo l 0 4)||Zs5 l i==0
theorem Ms(l:Bl):Za6 l=true↔Zoi l:=by
 unfold Za6 Zoi;simp only[E2,decide_eq_true_eq,I0,A7,Bool.or_eq_true,beq_iff_eq];constructor
 ·rintro⟨⟨h1,h2⟩,h3⟩;exact⟨h1,h2,fun i hi hc=>(h3 i hi).resolve_left M0⟩
 ·rintro⟨h1,h2,h3⟩;exact⟨⟨h1,h2⟩,fun i hi=>by by_cases h:i<Zo l 0 4;exact .inl h;exact .inr (h3 i hi M0)⟩
def Ye(l:Bl)(no:Int):Int:=if inE l 3 no=0 then(if Za6 (inB l no) then 0 else 7) else inE l 3 no
def Zni(l:Bl)(no:Int)(w:V1)(e:V5)(w':V1):Prop :=
 (Ye l no≠0∧∃ b,e=.returned (.tuple #[S1,.iface 201 (P0 b)])∧B3 w w'∧Kx w' [some no] (some (Ye l no)) (.iface 201 (P0 b))) ∨
 (Ye l no=0∧∃ p c,e=.returned (.tuple #[.slice p (Zo (inB l no) 0 4) c,.nilIface])∧B3 w w'∧w'.ownsRow w.heap.size 3 1 (.slice p (Zo (inB l no) 0 4) c) (Zo (inB l no) 0 4) ((Za5 (inB l no) (Zo (inB l no) 0 4)).map nv))
theorem readB(B b:Nat)(p:O0)(n c:Nat)(l:Bl)(no:Int)(w:V1)(hI:ImgR B b p n c l w) :
 C0 247 #[P0 b,V0 no,V0 3,.func (.func 248) #[] #[]] w (Zni l no w):=by
 refine zin 56 Tryz.func247 ?_
 refine xc 15 (De B b p n c l no _ (hI.i (B4 w))) ?_
 rintro e W1 b4
 rcases b4 with ⟨ho,vr,rfl,a0⟩|⟨j,hk,hj,p2,c2,rfl,a0,ho⟩
 ·refine xc 21 (Ya no 3 _) ?_
  rintro _ W2 ⟨_,rfl,c8,a4⟩
  rw[V7 Do,V7 Do] at a4
  have b9:=a4
  obtain⟨b8,d2,rfl,_,_⟩:=b9
  have hB:=bln a0 c8
  refine xe 6 (.tuple #[S1,.iface 201 (P0 b8)]) ?_
  have he:Ye l no=3:=by unfold Ye;rw[Sg hI.len ho];rfl
  exact .inl ⟨by rw[he];decide,_,rfl,hB,by rw[he];exact a4⟩
 have b6:=At w.heap.size
 have b7:j<l.length/256:=by rw[hI.len];exact hj
 have b1:=Hx b7
 have b0:=Zdm (l:=l) (kind:=3) hI.len hk hj
 have a6:=Zg ho b6
 refine xc 22 (Zju 3 no p2 256 c2 (Kc l j) _ b1 (Vr (Zf a6) b1)) ?_
 rintro e W3 d1
 rcases d1 with ⟨hs,rfl,a2⟩|⟨hs,p3,c3,rfl,a2,h3⟩
 ·refine xk 14 (show(((Qz 3 no (Kc l j)) != (0:Int)):Bool)=true from bne_iff_ne.2 hs) ?_
  refine xc 6 (Ya no (Qz 3 no (Kc l j)) _) ?_
  rintro _ W4 ⟨_,rfl,c1,a3⟩
  rw[V7 hs,V7 hs] at a3
  have b5:=a3
  obtain⟨c0,d3,rfl,_,_⟩:=b5
  have hB:=bln (bln a0 a2) c1
  refine xe 6 (.tuple #[S1,.iface 201 (P0 c0)]) ?_
  have he:Ye l no=Qz 3 no (Kc l j):=by unfold Ye;rw[b0,V7 hs]
  exact .inl ⟨by rw[he];exact hs,_,rfl,hB,by rw[he];exact a3⟩
 have a1:=Zg h3 a0.size
 have c5:((Kc l j).drop 8).take 244=inB l no:=(Zdh hk).symm
 have b2:=Zeu hI.len hk hj
 rw[c5] at a1
 refine xc 21 (Zq2 p3 244 c3 (inB l no) _ b2 Do (Vr (Zf a1) b2)) ?_
 rintro e W5 c9
 rcases c9 with ⟨a9,rfl,a7⟩|⟨a9,p4,c4,rfl,a7,h4⟩
 ·refine xc 21 (Ya no 7 _) ?_
  rintro _ W6 ⟨_,rfl,c7,a5⟩
  rw[V7 Do,V7 Do] at a5
  have d0:=a5
  obtain⟨c6,d4,rfl,_,_⟩:=d0
  have hB:=bln (bln (bln a0 a2) a7) c7
  refine xe 6 (.tuple #[S1,.iface 201 (P0 c6)]) ?_
  have he:Ye l no=7:=by unfold Ye;rw[b0,V8 hs,V7 (by rw[Ms];exact a9)]
  exact .inl ⟨by rw[he];decide,_,rfl,hB,by rw[he];exact a5⟩
 have b3:=(bln a0 a2).size
 have hB:=bln (bln a0 a2) a7
 have a8:=Zg h4 b3
 exact xe 25 (.tuple #[.slice p4 (Zo (inB l no) 0 4) c4,.nilIface]) (.inr ⟨by unfold Ye;rw[b0,V8 hs,V8 ((Ms _).2 a9)],_,_,rfl,hB,a8⟩)
theorem Zsc(B b:Nat)(p:O0)(n c:Nat)(l:Bl)(no:Int)(w:V1)(hI:ImgR B b p n c l w) :
 C0 199 #[P0 b,V0 no] w (Zni l no w):=by
 refine zin 11 Tryz.func199 ?_
 refine xc 10 (readB B b p n c l no _ (hI.i (B4 w))) ?_
 rintro e W1 a3
 rcases a3 with ⟨he,bf,rfl,a0,hv⟩|⟨he,p4,c4,rfl,a0,h4⟩
 ·exact xe 7 (.tuple #[S1,.iface 201 (P0 bf)]) (.inl ⟨he,_,rfl,a0,hv⟩)
 have a2:=At w.heap.size
 have a1:=Zg h4 a2
 exact xe 7 (.tuple #[.slice p4 (Zo (inB l no) 0 4) c4,.nilIface]) (.inr ⟨he,_,_,rfl,a0,a1⟩)
theorem Qx(k:Nat):Builtin.zeroCells #[Value.int .u8 0] k=(replicate k (Value.int .u8 0)).toArray:=by
 apply Array.ext';unfold Builtin.zeroCells;simp only[Gt,C5,E4,F5,G7,Nat.mod_one];rw[Array.toList_map];simp only[Array.toList_range];apply H3;intro i;simp only[C3,L1];by_cases h:i<k
 ·rw[C1 h,V8 h];rfl
 ·rw[V7 h,C4 (by simpa using h)];rfl
theorem Bp{P:V4}(w:V1)(t tn ty e:V3)(i:TypeInfo)(kq kn:IntKind)(ht:P.underlying t=some (.slice e))(htn:P.underlying tn=some (.int kn))(hi:P.info? e=some i)(hz:i.zero=some (.int .u8 0))(hs1:i.size=1)(hb1:i.bytes=1)
 (g n c k:Nat) (cur:Array V2) (hg:w.heap[g]? = some (.cells cur e (0,0))) (h0:0<k) (hroom:n+k≤c) (hfit:n+k≤cur.size) (hk:n+k≤1000000) :
 (Builtin.append_ #[t,tn] ty #[.slice (S3 g) n c,.int kq k]).run P w =
 .ok (.slice (S3 g) (n+k) c) (w.setRow g (cur.toList.take n++replicate k (Value.int .u8 0)++cur.toList.drop (n+k)).toArray):=by
 have a3:k≠0:=M0
 have hw:IntKind.i64.wrap (k:Int)=k:=by rw[IntKind.wrap_i64];omega
 have a1:¬ (281474976710656<(k:Int)):=M0
 have a0:¬ ((k:Int)<0):=M0
 have a2:=run_storeCells_at P g n e (replicate k (.int .u8 0)) 0 cur w hg (by simpa using hfit) (by intro u hu;rw[(List.mem_replicate.1 hu).2];rfl)
 simp only[G4,B7] at a2
 simp[Builtin.append_,run_underlying ht,run_underlying htn,sizeOf,typeInfo,zeroValue,hi,hz,hs1,hb1,asInt,asIntOf,hw,a0,a1,a3,hroom,Addr.add_lit,show(Value.int IntKind.u8 0).cells=#[Value.int .u8 0] from rfl,Qx,a2]
theorem op_appZo{P:V4}{a:Act}{w:V1}{K:Act→V1→Prop}{Q:Exit→Act→V1→Prop}{o:Oper}{s x:Operand}{t tn e:V3}{kq kn:IntKind}{base:Nat}{v:V2}{n:Nat}{xs:V6 V2}(k n':Nat)(xs':V6 V2)
 (ho:o.op=.call { callee:=.builtin .append,args:=#[s,x],argTypes:=#[t,tn] }) (ht:P.underlying t=some (.slice e)) (htn:P.underlying tn=some (.int kn)) (hi:(P.info? e).map (fun i=>(i.zero,i.size,i.bytes))=some (some (.int .u8 0),1,1))
 (hs:a.eval s=v) (hown:w.ownsRow base e 1 v n xs) (hx:a.eval x=.int kq (k:Int)) (h0:0<k) (hk:n+k≤1000000) (hbase:base≤w.heap.size) (hn:n+k=n') (hxs:xs++replicate k (.int .u8 0)=xs')
 (h:∀ b c' W,W.ownsRow base e 1 (.slice b n' c') n' xs'→w.grownBy W v.ownBlock→Below base w W→K (a.put o.dst (.slice b n' c')) W):o.wp P a w K Q:=by
 subst hn hxs
 cases hq:P.info? e with
 | none=>simp[hq] at hi
 | some i =>
  simp only[hq,D3,A0,D9] at hi
  obtain⟨hz,h1,h2⟩:=hi
  have a5:xs.length=n:=by simpa using hown.1
  have a0:(xs++replicate k (Value.int .u8 0)).length=(n+k)*1:=by simp[a5]
  rcases hown.2 with ⟨rfl,rfl⟩|⟨g,c,a1,rfl,b1,hg,b4,a4,a9,a3⟩
  ·obtain rfl:xs=[]:=H1 a5
   have hr:=Lib.run_append_nil_zeros (P:=P) w t tn o.type e i (.int .u8 0) kq kn ht htn hq hz k h0 M0 M0 (by rw[h2];omega)
   unfold Oper.wp execOp
   simp only[ho,resolve,invoke,builtin,C9,H5,E0,M2,D7,H0,hs,hx,hr]
   have a6:=grownCap_ge w k 0 e
   have a4:grownCap w k 0 e≤maxLen:=grownCap_le_maxLen w k 0 e Y2
   simp only[F5,F7] at h
   refine h _ _ _ ⟨Y5,.inr ⟨w.heap.size,_,_,rfl,hbase,heap_alloc_new w.drew _,a6,a4,?_,?_⟩⟩ ⟨rfl,rfl,rfl,Y5,fun k hk _=>by first|exact heap_alloc_old w.drew _ k hk|exact heap_alloc_old w.drew _ hk⟩ (((Za w).trans (show Below w.drew.heap.size w.drew _ from blx w.drew _)).mono hbase)
   ·rw[show(Value.int .u8 0).cells=#[Value.int .u8 0] from rfl,Qx,Qx];simp;omega
   ·rw[show(Value.int .u8 0).cells=#[Value.int .u8 0] from rfl,Qx,Qx]
    simp only[Array.toList_append,G7]
    exact M7 Y5
  by_cases hroom:n+k≤c
  ·have b3:a1.size=c:=by simpa using a9
   have hr:=Bp (P:=P) w t tn o.type e i kq kn ht htn hq hz h1 h2 g n c k a1 hg h0 hroom M0 hk
   unfold Oper.wp execOp
   simp only[ho,resolve,invoke,builtin,C9,H5,E0,M2,D7,H0,hs,hx,hr]
   have a8:w.grownBy (w.setRow g (a1.toList.take n++replicate k (Value.int .u8 0)++a1.toList.drop (n+k)).toArray) (Value.ownBlock (.slice (S3 g) n c)):=⟨rfl,rfl,rfl,Y5,fun k' _ b0=>setRow_other w g k' _ (fun e=>b0 (by simp[Value.ownBlock,e]))⟩
   refine h _ _ _ ⟨a0,.inr ⟨g,c,_,rfl,b1,setRow_heap w g a1 _ e _ hg,hroom,a4,?_,?_⟩⟩ a8 (Gr a8 hown (At _) hbase)
   ·simp only[Gt,A1,D8,L3,O5,B7]
    omega
   ·have b2:a1.toList.take n=xs:=by simpa using a3
    rw[b2,←a0]
    exact List.take_left
  ·have a2:∀ j u,xs[j]? = some u→w.cell? ((⟨g,0,none⟩:Addr).add j)=some u:=hown.cells (g:=g) rfl
   have a7:=run_firstCells_some (P:=P) (w:=w.drew) i.size n ⟨g,0,none⟩ n c xs (by rw[a5,h1,G7]) (by simpa using a2)
   have hr:=Lib.run_append_grow_zeros (P:=P) w t tn o.type e i (.int .u8 0) kq kn ht htn hq hz (S3 g) n c xs a7 k h0 M0 M0 M0 (by rw[h2];omega) (by rw[h2];exact growslice_fits M0 M0)
   unfold Oper.wp execOp
   simp only[ho,resolve,invoke,builtin,C9,H5,E0,M2,D7,H0,hs,hx,hr]
   have a6:=grownCap_ge w (n+k) c e
   have a4:grownCap w (n+k) c e≤maxLen:=grownCap_le_maxLen w (n+k) c e Y2
   refine h _ _ _ ⟨a0,.inr ⟨w.heap.size,_,_,rfl,hbase,heap_alloc_new w.drew _,a6,a4,?_,?_⟩⟩ ⟨rfl,rfl,rfl,Y5,fun k hk _=>by first|exact heap_alloc_old w.drew _ k hk|exact heap_alloc_old w.drew _ hk⟩ (((Za w).trans (show Below w.drew.heap.size w.drew _ from blx w.drew _)).mono hbase)
   ·rw[show(Value.int .u8 0).cells=#[Value.int .u8 0] from rfl,Qx,Qx];simp[a5];omega
   ·rw[show(Value.int .u8 0).cells=#[Value.int .u8 0] from rfl,Qx,Qx]
    simp only[Array.toList_append,A4]
    rw[←A4,←a0]
    exact List.take_left
theorem BysM.elem{w:V1}{a:O0}{n c:Nat}{l:Bl}(h:Bys w (.slice a n c) l)(hl:l.length=n){k:Nat}(hk:k<n):a.isSome=true∧w.cell? (Zx a (k*1))=some (.int .u8 (↑(l.getD k 0).toNat:Int)):=by
 subst hl;exact Bys.elem h hk
def entE(v:Nat)(l:V6 Ent)(i:Nat):Prop:=Zzt l i<(l.getD i Zn).1∧(l.getD i Zn).1≤281474976710655∧(l.getD i Zn).2.1.length=v
instance (v:Nat) (l:V6 Ent) (i:Nat):Decidable (entE v l i):=by unfold entE;infer_instance
theorem ImgR.mono{B B' b:Nat}{p:O0}{n c:Nat}{l:Bl}{w:V1}(h:ImgR B b p n c l w)(hB:B'≤B):ImgR B' b p n c l w:=⟨h.blk,Zg h.row hB,h.hn⟩
def WroteR(B b:Nat)(p:O0)(n c:Nat)(l:Bl)(w:V1)(e:V5)(w':V1):Prop :=
 e=.returned .nilIface∧Below B w w'∧Zd [5] w w'∧ImgR B b p n c l w'
theorem Zhz(B b:Nat)(p:O0)(n c k:Nat)(ki:Int)(l:Bl)(kind:Int)(a:O0)(ca m:Nat)(li:Bl)(w:V1)(hki:ki=(k:Int))(hm:li.length=m)(hI:ImgR B b p n c l w)(hk:k<n/256)(h1:1≤kind)(h2:kind≤4)(hin:Bys w (.slice a m ca) li)(hl:m≤244)(hBw:B≤w.heap.size) :
 C0 47 #[P0 b,V0 ki,V0 kind,.slice a m ca] w (WroteR B b p n c (Qj l (k*256) (Yf kind k li)) w):=by
 subst hki hm
 obtain⟨g,rfl,hc⟩:=hI.base M0
 refine(Ox B b g n c k l kind a ca li w hI.blk hI.row hI.hn hc hk h1 h2 hin hl hBw).mono ?_
 rintro e W ⟨rfl,hb,hO,_,ho⟩
 exact⟨rfl,hb,hO,hI.blk.q hO Do,ho,hI.hn⟩
structure AlG(B ba b:Nat)(pa:Option Addr)(N ca k:Nat)(L:V6 Int)(w:V1):Prop where
 blk:Blk w ba [.slice pa N ca,.int .i64 (k:Int),.pointer (some ⟨b,0,none⟩)] 169
 a1:w.ownsRow B 3 1 (.slice pa N ca) N (L.map (Value.int .i64))
 hL:L.length=N
 hB:B≤ba
 hN:N≤1000000
 hk:k≤N
theorem AlG.i{B ba b:Nat}{pa:O0}{N ca k:Nat}{L:V6 Int}{w W:V1}(h:AlG B ba b pa N ca k L w)(hb:B3 w W):AlG B ba b pa N ca k L W:=⟨h.blk.i hb,Zb h.a1 hb,h.hL,h.hB,h.hN,h.hk⟩
theorem AlG.q{B ba b:Nat}{pa:O0}{N ca k:Nat}{L:V6 Int}{w W:V1}{T:V6 V3}(h:AlG B ba b pa N ca k L w)(hO:Zd T w W)(hT:T.contains 169=false∧T.contains 3=false):AlG B ba b pa N ca k L W:=⟨h.blk.q hO hT.1,Zi h.a1 hO hT.2,h.hL,h.hB,h.hN,h.hk⟩
theorem AlG.mono{B B' ba b:Nat}{pa:O0}{N ca k:Nat}{L:V6 Int}{w:V1}(h:AlG B ba b pa N ca k L w)(hB:B'≤B):AlG B' ba b pa N ca k L w:=⟨h.blk,Zg h.a1 hB,h.hL,N0 hB h.hB,h.hN,h.hk⟩
theorem Zom(l:V6 Int):∀ u∈l.map V0,u.oneCell'=true:=by
 intro u hu;obtain⟨x,_,rfl⟩:=List.mem_map.1 hu;rfl
theorem Zqe(p:Addr)(N c:Nat)(xs:V6 V2)(w:V1)(h:Sl w (.slice (some p) N c) N xs)(hl:xs.length=N)(h1:∀ u∈xs,u.oneCell'=true)(hn:N≤1000000) :
 C0 135 #[.slice (some p) N c] w (Kd (fun w' r=>∃ q c2,r=.slice q N c2∧w'.ownsRow w.heap.size 3 1 (.slice q N c2) N xs) w):=by
 refine zin 8 Tryz.func135 ?_
 refine xb0 17 3 fun b1 W1 n1=>?_
 have o1:=Xw (size:=1) (n:=0) n1.blk (n1.ge (B4 w)) rfl Do
 refine xbi 1 fun _ _ _ _ zJ zQ zo zx zy zK=>Xd (m:=N) (news:=xs) (V0 0) 1 8 (N) (xs) zo Tryz.underlying27 K0 rfl Do zx o1 zy (h.i n1.i) (by rw[hl,G7]) h1 Y2 M0 n1.i.size M0 Y6 fun a3 a1 W2 o2 a4 a2=>?_
 refine zK _ _ ?_
 have a0:=n1.i.trans a2
 exact xe 4 (.slice a3 N a1) ⟨_,rfl,a0,_,_,rfl,o2⟩
theorem Zca(w:V1) :
 C0 135 #[S1] w (Ret (S1) w):=by
 refine zin 8 Tryz.func135 ?_
 exact xe 20 (S1) ⟨rfl,(B4 w)⟩
theorem Zjy(a:O0)(N c:Nat)(xs:V6 V2)(w:V1)(h:Sl w (.slice a N c) N xs)(hc:a=none→c=0)(hl:xs.length=N)(h1:∀ u∈xs,u.oneCell'=true)(hn:N≤1000000) :
 C0 135 #[.slice a N c] w (Kd (fun w' r=>∃ q c2,r=.slice q N c2∧w'.ownsRow w.heap.size 3 1 (.slice q N c2) N xs) w):=by
 cases a with
 | some p=>exact Zqe p N c xs w h hl h1 hn
 | none =>
  have hN:N=0∧xs=[]:=by
   rcases h with ⟨a',c',h2,h3,h4⟩|⟨b',a1,a0,h2,_⟩
   ·simp only[C2] at h2;exact⟨h2.2.1,h4⟩
   ·cases h2
  obtain⟨rfl,rfl⟩:=hN
  obtain rfl:=hc rfl
  refine(Zca w).mono ?_
  rintro e W ⟨rfl,hb⟩
  exact⟨_,rfl,hb,none,0,rfl,A8 _ _ _ _⟩
theorem sl_cut{w:V1}{b:O0}{n c:Nat}{xs:V6 V2}(h:Sl w (.slice b n c) n xs)(hl:xs.length=n)(k:Nat)(hk:k≤n):Sl w (.slice (Li b k c 1) (n-k) (c-k)) (n-k) (xs.drop k):=by
 rcases h with ⟨a',c',h1,h2,h3⟩|⟨g,a0,a1,h1,h2,h3,h4⟩
 ·obtain rfl:k=0:=M0;subst h3 h2;exact .inl ⟨Li b 0 c 1,c-0,rfl,rfl,rfl⟩
 ·simp only[C2] at h1;obtain⟨rfl,_,rfl⟩:=h1;by_cases hz:n-k=0
  ·refine .inl ⟨Li (some ⟨g,a0,none⟩) k c 1,c-k,by rw[hz],M0,?_⟩;exact E3 M0
  ·refine .inr ⟨g,a0+k*1,c-k,?_,M0,M0,fun j x hj=>?_⟩
   ·rw[Li,V7 M0];simp[Addr.add]
   ·rw[G0] at hj;have:=h4 (k+j) x hj;rwa [G7,F2]
theorem sl_take{w:V1}{b:O0}{n c:Nat}{xs:V6 V2}(h:Sl w (.slice b n c) n xs)(hl:xs.length=n)(m:Nat)(hm:m≤n):Sl w (.slice b m c) m (xs.take m):=Sl.head h hl m hm
theorem aheadSl{w:V1}{b:O0}{n c k i:Nat}{L:V6 Int}(h:Sl w (.slice b n c) n (L.map V0))(hl:L.length=n)(hk:k≤n):Sl w (.slice (Li b k c 1) (min i (n-k)) (c-k)) (min i (n-k)) (((L.drop k).take i).map V0):=by
 have h1:=sl_cut h (by simpa using hl) k hk;have h2:=sl_take h1 (by simp[hl]) (min i (n-k)) M0;rw[←L9,←I8] at h2;have e:(L.drop k).take (min i (n-k))=(L.drop k).take i:=by
  rcases Nat.le_total i (n-k) with q|q
  ·rw[I4 q]
  ·rw[Nat.min_eq_right q,B9 (by simp[hl]),B9 (by simp[hl];omega)]
 rw[e] at h2;exact h2
theorem aheadN{w:V1}{B:Nat}{b:O0}{n c k:Nat}{xs:V6 V2}{e size:Nat}(h:w.ownsRow B e size (.slice b n c) n xs):Li b k c 1=none→c-k=0:=by
 intro hn;have hb:b=none:=by
  unfold Li at hn;split at hn
  ·exact hn
  ·simpa using hn
 subst hb;rcases h.2 with ⟨h2,_⟩|⟨g,a0,a1,h2,_⟩
 ·simp only[C2] at h2;omega
 ·cases h2
theorem Zla(B ba b:Nat)(p0:O0)(N ca k i:Nat)(L:V6 Int)(w:V1)(hA:AlG B ba b p0 N ca k L w)(hi:i≤1000000) :
 C0 158 #[P0 ba,V0 (i:Int)] w (Kd (fun w' r=>∃ q c2,r=.slice q (min i (N-k)) c2∧w'.ownsRow w.heap.size 3 1 (.slice q (min i (N-k)) c2) (min i (N-k)) (((L.drop k).take i).map V0)) w):=by
 have hk:=hA.blk
 have a5:=hA.hk
 have hL:=hA.hL
 have a9:N≤ca:=by
  rcases H8 N with q|q
  ·omega
  ·exact Zl3 hA.a1 q
 refine zin 23 Tryz.func158 ?_
 refine xr 9 (args:=#[P0 ba]) (Ul ba b _ _ _ hk) fun W1 a0=>?_
 refine xid 6 ((i:Int)<(1:Int)) (fun a8=>?_) (fun a8=>?_)
 ·refine xe 7 (S1) ?_
  obtain rfl:i=0:=M0
  exact⟨_,rfl,a0,none,0,by rw[Nat.zero_min],by rw[Nat.zero_min,O2];exact A8 _ _ _ _⟩
 have a1:=hk.i a0
 refine xr 7 (args:=#[P0 ba]) (Zc6 ba p0 N ca k _ _ a1 a5) fun W3 a4=>?_
 refine xq 9 (congrArg V0 (show(if(↑(N-k):Int)<(i:Int) then(↑(N-k):Int) else(i:Int):Int)=(↑(min i (N-k)):Int) from Zot i (N-k))) ?_
 refine xsH 0 (fun _ _ _ _ zo zx zy V=>Ka (k:=(min i (N-k))) (b:=(Li p0 k ca 1)) (n:=(N-k)) (c:=(ca-k)) (i:=(↑(min i (N-k)):Int)) (ki:=.i64) zo zx zy rfl M0 Tryz.underlying27 K0 V) ?_
 have hB:=bln a0 a4
 refine xc 0 (args:=#[.slice (Li p0 k ca 1) (min i (N-k)) (ca-k)]) (Zjy (Li p0 k ca 1) (min i (N-k)) (ca-k) (((L.drop k).take i).map V0) _ (aheadSl (Zf (Zb hA.a1 hB)) hL a5) (aheadN hA.a1) (by simp;omega) (Zom _) M0) ?_
 rintro _ W4 ⟨_,rfl,a7,pq,cq,rfl,hq⟩
 have a6:=(bln a0 a4).size
 have a2:=bln hB a7
 have a3:=Zg hq a6
 exact xe 4 (.slice pq (min i (N-k)) cq) ⟨_,rfl,a2,_,_,rfl,a3⟩
theorem Zjv(a b:O0)(ca cb:Nat)(L:V6 Int)(w:V1)(ha:Sl w (.slice a L.length ca) L.length (L.map V0))(hb:Sl w (.slice b L.length cb) L.length (L.map V0))(hL:L.length≤1000000) :
 C0 18 #[.slice a L.length ca,.slice b L.length cb] w (Ret (.bool true) w):=by
 refine zin 26 Tryz.func18 ?_
 refine xk 15 (show(((L.length:Int) != (L.length:Int)):Bool)=false from by simp) ?_
 have hB:=U3 w.heap.size w
 refine zl 9 26 (fun zm a2 V=>∃ (i:Nat),a2=[(0,.slice a L.length ca),(1,.slice b L.length cb),(5,V0 (i:Int))]∧zm=L.length-((i:Int)).toNat∧B3 w V∧i≤L.length) ⟨0,rfl,rfl,hB,A5 _⟩ ?_
 rintro _ _ W1 ⟨i,rfl,rfl,a1,hi⟩ J1 a3 r1
 refine xid 9 ((i:Int)<(L.length:Int)) (fun a4=>?_) (fun a4=>?_)
 ·refine xd 5 .z ?_
  refine xx (.e [0,1] 2) _ L.length i 1 (Ints.elem ha (k:=i) M0).1 ?_
  have a0:=bln a1 (Za W1)
  refine xl (.e [] 3) ((Ints.elem (ha.i a0) (k:=i) M0).2) ?_
  refine xx (.e [4,5] 6) _ L.length i 1 (Ints.elem hb (k:=i) M0).1 ?_
  refine xl (.e [] 7) ((Ints.elem (hb.i a0) (k:=i) M0).2) ?_
  refine xk (.r [8] 2) (show(((L.getD i 0) != (L.getD i 0)):Bool)=false from by simp) ?_
  refine xwm 5 ((i:Int)+1) (↑(i+1):Int) ?_
  exact ze 2 (a3 _ _ _ ⟨i+1,rfl,rfl,a0,M0⟩ M0)
 exact xe 11 (.bool true) ⟨rfl,a1⟩
def rsV (L:V6 (V6 Int))(q i:Nat):V6 V2:=[V0 ((q+i:Nat):Int),V0 (Yn (L.getD i []):Int),V0 (Xi (L.getD i []):Int)]
def rsL (L:V6 (V6 Int))(q n:Nat):V6 V2:=(range n).flatMap (rsV L q)
theorem rsL_succ(L:V6 (V6 Int))(q n:Nat):rsL L q (n+1)=rsL L q n++rsV L q n:=by simp[rsL,B8]
end
end
section
open Go.RowKit
theorem rows_in{n:Nat}{P:V4}{row:String}{args:Array V2}{w:V1}{R:V2→V1→Prop}(h:Rows P row args w R):RowsIn Fence.wide n P row args w R :=
 fun c cs _=>let ⟨v,w',r,q⟩:=h c cs;⟨v,w',r,stepsIn_wide.2 q⟩
theorem Zum{P:V4}{l n:Nat}{o:Oper}{a:Act}{w:V1}{K:Act→V1→Prop}{Q:Exit→Act→V1→Prop}(hd:∀ c,o.op≠.defer c)(h:o.wp P a w K Q):o.wpIn (Fence.wide.inRound l) n P a w K Q:=by
 unfold Oper.wpIn;refine⟨fun f _=>trivial,?_⟩;rw[Oper.semAt_plain _ _ _ hd];unfold Oper.wp at h;generalize (execOp a.eval o).run P w=r at *;cases r with
 | ok nx w' =>
  cases nx with
  | value v=>exact h
  | skip=>exact h
  | defer d=>exact h
  | enter f args=>exact⟨(fun q=>by cases q),callsIn_wide.2 h⟩
  | row r args=>exact⟨(fun q=>by cases q),rows_in h⟩
  | _=>exact h.elim
 | halt hh w' =>
  cases hh with
  | panic v=>exact h
  | _=>exact h.elim
theorem op_in{P:V4}{l n i:Nat}{ops:Array Oper}{a:Act}{w:V1}{K K':Act→V1→Prop}{Q:Exit→Act→V1→Prop}(hQ:¬ LetsOut Q)(hd:∀ o∈ops.toList,∀ c,o.op≠.defer c)(hK:∀ a w,K a w→K' a w)(h:wpOp P ops Q i K a w):wpOpIn (Fence.wide.inRound l) n P ops Q i K' a w:=by
 unfold wpOp at h;unfold wpOpIn;cases ho:ops[i]? with
 | none=>rw[ho] at h;exact hK _ _ h
 | some o =>
  rw[ho] at h;dsimp only at h ⊢;split at h
  ·rename_i hw;rw[V8 hw];have a0:o∈ops.toList:=by
    obtain⟨hi,e⟩:=Array.getElem?_eq_some_iff.1 ho;rw[←e];exact Array.mem_toList_iff.2 (Array.getElem_mem hi)
   exact Oper.wpIn_mono hK (Zum (hd o a0) (h.resolve_right fun q=>hQ q.2))
  ·rename_i hw;rw[V7 hw];exact⟨fun f _=>trivial,hK _ _ h⟩
theorem any_in{P:V4}{l n:Nat}{md:Region.Mode}{ops:Array Oper}{Q:Exit→Act→V1→Prop}(hQ:¬ LetsOut Q)(hd:∀ o∈ops.toList,∀ c,o.op≠.defer c):∀ (am:Nat) (L:Array Bool) (a:Act) (w:V1),wpAny P md ops Q am L a w→wpAnyIn (Fence.wide.inRound l) n P md ops Q am L a w
 | 0,_,_,_,h=>h
 | am+1,L,a,w,h=>⟨h.1,fun i hi=>op_in hQ hd (fun a w=>any_in hQ hd am _ a w) (h.2 i hi)⟩
theorem Zvr{P:V4}{l0 n0 id:Nat}{l:V6 Oper}{Q:Exit→Act→V1→Prop}{a:Act}{w:V1}(S:V1→Prop)(n:Nat)(hn:l.toArray.size=n)(L:Array Bool)(hL:Array.replicate n false=L)(hm:P.follows .mixedOrders=true)(hQ:¬ LetsOut Q)(hd:∀ o∈l,∀ c,o.op≠.defer c)(hS:S w.drew)(h:S w.drew→wpAnyH P .any l.toArray Q S n L a w.drew):(Code.region id l.toArray true).wpIn (Fence.wide.inRound l0) n0 P Q a w :=
 wpIn_region_any hm (any_in hQ (by simpa using hd) _ _ _ _ (wpAny_of_held _ _ _ _ (by rw[hn,hL];exact h hS)))
def Zur(lo hi k:Int):Bool:=decide (lo≤k∧k<hi)
def Pb(lo hi:Int):Bool:=decide (0≤lo∧lo≤hi∧hi≤281474976710656)
def Uq(l:V6 Int):Prop:=∀ k,k<l.length→1≤k→l[k-1]?.getD 0<l[k]?.getD 0
instance (l:V6 Int):Decidable (Uq l):=by unfold Uq;infer_instance
def Hi(lo hi:Int)(l:V6 Int):Int :=
 if Pb lo hi then if Uq l then if ∀ k∈l,lo≤k∧k<hi then 0 else 9 else 8 else 1
@[go_sem] def spanV (lo hi:Int):V2:=.agg #[V0 lo,V0 hi]
theorem Uq.lt{l:V6 Int}(h:Uq l):∀ (j i:Nat),i<j→j<l.length→l[i]?.getD 0<l[j]?.getD 0:=by
 intro j;induction j with
 | zero=>intro i h1;omega
 | succ j ih =>
  intro i h1 h2;have h3:=h (j+1) h2 M0;simp only[N1] at h3;by_cases hij:i=j
  ·subst hij;exact h3
  ·exact Int.lt_trans (ih i M0 M0) h3
theorem Uq.one(l:V6 Int):Uq (l.take 1):=by
 intro k h1 h2;simp at h1;omega
theorem Uq.succ{l:V6 Int}{k:Nat}{x y:Int}(h:Uq (l.take k))(hx:l[k-1]? = some x)(hy:l[k]? = some y)(hxy:x<y):Uq (l.take (k+1)):=by
 intro j h1 h2;have a0:j<k+1:=by simp at h1;omega
 rw[H2,H2,V8 M0,V8 a0];by_cases hj:j=k
 ·subst hj;rw[hx,hy];exact hxy
 ·have:=h j (by simp at h1 ⊢;omega) h2;rw[H2,H2,V8 M0,V8 M0] at this;exact this
theorem Zpv{lo hi:Int}{l:V6 Int}(h:Pb lo hi=false):Hi lo hi l=1:=by simp[Hi,h]
theorem Zsf{lo hi:Int}{l:V6 Int}{k:Nat}{x y:Int}(h:Pb lo hi=true)(hk:1≤k)(hx:l[k-1]? = some x)(hy:l[k]? = some y)(hxy:y≤x):Hi lo hi l=8:=by
 have hn:¬ Uq l:=fun hs=>by
  have a0:k<l.length:=by rcases List.getElem?_eq_some_iff.1 hy with ⟨h,_⟩;exact h
  have:=hs k a0 hk;rw[hx,hy] at this;simp at this;omega
 simp[Hi,h,hn]
theorem Zmh{lo hi:Int}(h:Pb lo hi=true):Hi lo hi []=0:=by
 have hs:Uq []:=fun k h1=>by simp at h1
 simp[Hi,h,hs]
theorem Uq.all{l:V6 Int}{k:Nat}(h:Uq (l.take k))(hk:l.length≤k):Uq l:=by rwa [B9 hk] at h
theorem Zng{lo hi k:Int}:Zur lo hi k=true↔lo≤k∧k<hi:=by simp[Zur]
theorem fits_in{lo hi:Int}{l:V6 Int}{x y:Int}(h:Pb lo hi=true)(hs:Uq l)(hx:l[0]? = some x)(hy:l[l.length-1]? = some y)(ha:Zur lo hi x=true)(hb:Zur lo hi y=true):Hi lo hi l=0:=by
 have a0:∀ k∈l,lo≤k∧k<hi:=by
  intro k hk;obtain⟨i,a1,rfl⟩:=List.mem_iff_getElem.1 hk;rw[Zng] at ha hb;have e:l[i]? = some l[i]:=Y5;have h1:x≤l[i]:=by
   by_cases h0:i=0
   ·subst h0;rw[hx] at e;injection e with e;omega
   ·have:=hs.lt i 0 M0 a1;rw[hx,e] at this;simp at this;omega
  have h2:l[i]≤y:=by
   by_cases h0:i=l.length-1
   ·subst h0;rw[hy] at e;injection e with e;omega
   ·have:=hs.lt (l.length-1) i M0 M0;rw[hy,e] at this;simp at this;omega
  omega
 simp only[Hi,h,if_true,hs];rw[V8 a0]
theorem Zmc{lo hi:Int}{l:V6 Int}{i:Nat}{x:Int}(h:Pb lo hi=true)(hs:Uq l)(hx:l[i]? = some x)(ha:Zur lo hi x=false):Hi lo hi l=9:=by
 have hn:¬ ∀ k∈l,lo≤k∧k<hi:=fun a0=>by
  have:=Zng.2 (a0 x (List.mem_of_getElem? hx));rw[ha] at this;cases this
 simp only[Hi,h,if_true,hs];rw[V7 hn]
theorem Znm(w:V1):C0 197 #[] w (Ret (spanV 0 281474976710656) w):=by
 go_enter Tryz.func197,Tryz.ntmps197;go_wp2;exact bodyPost_ret (v:=spanV 0 281474976710656) (by simp[results,Tryz.results197,go_sem,spanV]) rfl ⟨rfl,blx _ _⟩
theorem Zeh(lo hi k:Int)(w:V1):C0 286 #[spanV lo hi,V0 k] w (Ret (.bool (Zur lo hi k)) w):=by
 unfold spanV;go_enter Tryz.func286,Tryz.ntmps286;go_wp2;all_goals go_ret
 all_goals refine⟨?_,blx _ _⟩
 all_goals (unfold Zur;congr 2;simp;omega)
theorem Rq(lo hi:Int)(w:V1):C0 285 #[spanV lo hi] w (Ret (.bool (Pb lo hi)) w):=by
 unfold spanV;go_enter Tryz.func285,Tryz.ntmps285;go_wp2_with fail;refine(Znm _).mono ?_;rintro e w' ⟨rfl,hb⟩;have hz:w.heap.size<w'.heap.size:=ltB hb Y5;have h0:=Fh hb (p:=⟨w.heap.size,0,none⟩) (v:=V0 lo) (by simp[go_sem]);have h1:=Fh hb (p:=⟨w.heap.size,1,none⟩) (v:=V0 hi) (by simp[go_sem]);unfold spanV;go_wp2_with fail;all_goals go_ret
 all_goals refine⟨?_,bln (bln (blx w _) hb) (blx _ _)⟩
 all_goals (unfold Pb;congr 2;simp[*];try omega)
theorem Za2(lo hi:Int)(v:V2)(l:V6 Int)(w:V1)(hl:Ints w v l) :
 C0 269 #[spanV lo hi,v] w (Ret (V0 (Hi lo hi l)) w):=by
 by_cases hr:Pb lo hi=true
 case neg =>
  have a8:Pb lo hi=false:=by simpa using hr
  unfold spanV
  rcases hl with ⟨a0,c0,rfl,a9,hl⟩|⟨b,a5,b0,rfl,a4,a2,hc⟩
  all_goals
   go_enter Tryz.func269,Tryz.ntmps269
   go_wp2_with fail
   refine(Rq _ _ _).mono ?_
   rintro e w' ⟨rfl,hb⟩
   go_wp2_with fail
   go_ret
   exact⟨by rw[Zpv a8];rfl,bln (blx w _) hb⟩
 rcases hl with ⟨a0,c0,rfl,a9,hl⟩|⟨b,a5,b0,rfl,a4,a2,hc⟩
 ·obtain rfl:l=[]:=by simpa using hl
  unfold spanV
  go_enter Tryz.func269,Tryz.ntmps269
  go_wp2_with fail
  refine(Rq _ _ _).mono ?_
  rintro e w' ⟨rfl,hb⟩
  go_wp2_with fail
  go_loop [5] (fun i=>i=V0 1) (fun _=>0)
  case atStart=>exact rfl
  case round =>
   obtain rfl:=hrel
   go_wp2_with fail
   refine Wf K0 K0 ?_
   repeat (go_big_quiet_step (fail))
   refine wpQuiet_nil ?_
   intro wx
   go_wp2_with fail
   go_ret
   exact⟨by rw[Zmh hr];rfl,bln (bln (blx w _) hb) wx.i⟩
 ·unfold maxLen at a2
  unfold spanV
  go_enter Tryz.func269,Tryz.ntmps269
  go_wp2_with fail
  refine(Rq _ _ _).mono ?_
  rintro e w' ⟨rfl,hb⟩
  have h0:=Fh hb (p:=⟨w.heap.size,0,none⟩) (v:=V0 lo) (by simp[go_sem])
  have h1:=Fh hb (p:=⟨w.heap.size,1,none⟩) (v:=V0 hi) (by simp[go_sem])
  have hB:=bln (blx w _) hb
  have HC:=Lib.hid (fun j x (hj:l[j]? = some x)=>Fh hb (getA _ (hc j (V0 x) (by simp[hj]))))
  clear hc hb
  go_wp2_with fail
  go_loopw [5] (fun i wr=>∃ k:Nat,1≤k∧i=V0 k∧Uq (l.take k)∧Below w'.heap.size w' wr) (fun i _=>l.length-(intOf i).toNat)
  case atStart=>exact⟨1,M0,rfl,Uq.one l,U3 _ _⟩
  case round =>
   obtain⟨k,a7,rfl,hs,a1⟩:=hrel
   have HS:=Lib.hid hs;clear hs
   by_cases hlt:k<l.length
   ·obtain⟨x,hx⟩:∃ x,l[k-1]? = some x:=⟨l[k-1],Y5⟩
    obtain⟨y,hy⟩:∃ y,l[k]? = some y:=⟨l[k],Y5⟩
    have b3:=Fh a1 (HC.out _ _ hx)
    have b2:=Fh a1 (HC.out _ _ hy)
    have HX:=Lib.hid hx;clear hx
    have HY:=Lib.hid hy;clear hy
    go_wp2_with fail
    go_quiet (fail)
    go_wp2_with fail
    ·go_ret
     exact⟨by rw[Zsf hr a7 HX.out HY.out Y3];rfl,bln hB (blD a1 _)⟩
    ·go_roundw
     case rel=>exact⟨k+1,M0,by go_num,HS.out.succ HX.out HY.out Y3,blD a1 _⟩
     case measure=>simp[intOf];omega
   ·have a6:l.length≤k:=M0
    by_cases h0l:l.length=0
    ·obtain rfl:l=[]:=List.length_eq_zero_iff.mp h0l
     clear h0l
     go_wp2_with fail
     go_quiet (fail)
     go_wp2_with fail
     go_ret
     exact⟨by rw[Zmh hr];rfl,bln hB (blD a1 _)⟩
    ·obtain⟨x,hx⟩:∃ x,l[0]? = some x:=⟨l[0],Y5⟩
     obtain⟨y,hy⟩:∃ y,l[l.length-1]? = some y:=⟨l[l.length-1],Y5⟩
     have b1:0<l.length:=M0
     have e0:∀ z:Ext wr,z.val.cell? ⟨w.heap.size,0,none⟩=some (V0 lo):=fun z=>z.get (Fh a1 h0)
     have e1:∀ z:Ext wr,z.val.cell? ⟨w.heap.size,1,none⟩=some (V0 hi):=fun z=>z.get (Fh a1 h1)
     have e2:∀ z:Ext wr,z.val.cell? ⟨b,a5,none⟩=some (V0 x):=fun z=>z.get (Fh a1 (HC.out 0 _ hx))
     have e3:∀ z:Ext wr,z.val.cell? ⟨b,a5+(l.length-1),none⟩=some (V0 y):=fun z=>z.get (Fh a1 (HC.out _ _ hy))
     have HX:=Lib.hid hx;clear hx
     have HY:=Lib.hid hy;clear hy
     by_cases ha:Zur lo hi x=true
     ·by_cases a3:Zur lo hi y=true
      ·go_wp2_with fail
       refine Wf K0 K0 ?_
       repeat (go_big_quiet_step (exact Ret.ext (Zeh _ _ _ _)))
       refine wpQuiet_nil ?_
       intro wx
       go_wp2_with fail
       go_ret
       exact⟨by rw[fits_in hr (HS.out.all a6) HX.out HY.out ha a3];rfl,bln (bln hB a1) wx.i⟩
      ·have a3:Zur lo hi y=false:=by simpa using a3
       go_wp2_with fail
       refine Wf K0 K0 ?_
       repeat (go_big_quiet_step (exact Ret.ext (Zeh _ _ _ _)))
       refine wpQuiet_nil ?_
       intro wx
       go_wp2_with fail
       go_ret
       exact⟨by rw[Zmc hr (HS.out.all a6) HY.out a3];rfl,bln (bln hB a1) wx.i⟩
     ·have ha:Zur lo hi x=false:=by simpa using ha
      go_wp2_with fail
      refine Wf K0 K0 ?_
      repeat (go_big_quiet_step (exact Ret.ext (Zeh _ _ _ _)))
      refine wpQuiet_nil ?_
      intro wx
      go_wp2_with fail
      go_ret
      exact⟨by rw[Zmc hr (HS.out.all a6) HX.out ha];rfl,bln (bln hB a1) wx.i⟩
section
attribute [local go_sem] Oper.semAt_some
def Yb(hi:Int)(l:V6 Int)(i:Nat):Int×Int:=(l[i]?.getD 0,l[i+1]?.getD hi)
def qOf {n:Nat}(j:Fin n):Nat:=n-1-j.val
def encE(hi:Int)(l:V6 Int)(j:Fin l.length):Array V2:=#[V0 (qOf j:Int),spanV (Yb hi l (qOf j)).1 (Yb hi l (qOf j)).2]
theorem Kz{n k:Nat}(h:k<n):(List.finRange n).take (k+1)=(List.finRange n).take k++[⟨k,h⟩]:=by
 rw[B5 (by simpa using h)];simp
theorem Ch(n:Nat):(List.finRange n).take n=List.finRange n:=B9 Y5
theorem Ww{n k:Nat}(h:k≤n):((List.finRange n).take k).length=k:=by simp[h]
theorem each1_in(l Bs Bk:Nat)(p:Nat→Prop)(hi:Int)(b off cap:Nat)(zs:V6 Int)(hlen:zs.length≤9223372036854775807)(hb':zs.length=0∨p b)(hBk:p Bk)(J Jx:V6 (Fin zs.length)→V1→Prop)
  (hY:∀ pre x W,J pre W→pre.length<zs.length→YieldAt Fence.wide 2 Tryz.prog l (encE hi zs x) W fun e W' =>
   (e=.returned (.bool true)∧J (pre++[x]) W'∧Keeps p W W')∨(e=.returned (.bool false)∧Jx (pre++[x]) W'))
  (W:V1) (hc1:W.cell? ⟨Bs,1,none⟩=some (V0 hi)) (hck:W.cell? ⟨Bk,0,none⟩=some (.slice (some ⟨b,off,none⟩) zs.length cap))
  (hc:∀ j x,zs[j]? = some x→W.cell? ⟨b,off+j,none⟩=some (V0 x)) (h0:J [] W) :
  CallsIn Fence.wide 3 Tryz.prog 287 #[.func (.yield l) #[] #[],P0 Bs,P0 Bk] W fun e W'=>(∃ v,e=.returned v) ∧
   ((∃ ys,ys=List.finRange zs.length∧J ys W')∨(∃ pre,(∃ k,k≤zs.length∧pre=(List.finRange zs.length).take k)∧Jx pre W')):=by
 refine callsIn_of_wp Tryz.func287 rfl trivial ?_ rfl
 simp only[Tryz.ntmps287,Gt,C5,E4,Nat.reduceAdd,Nat.reduceSub,H9,Id,I9,I2,F7,Ge]
 gi_wp2
 gi_loopw [4,5] (fun h i wr=>∃ k:Nat,k≤zs.length∧i=V0 ((zs.length:Int)-1-k)∧h=V0 (zs[zs.length-k]?.getD hi)∧J ((List.finRange zs.length).take k) wr∧Keeps p W wr)
  (fun _ i _=>((intOf i)+1).toNat)
 case atStart=>exact⟨0,A5 _,Y5,Y5,h0,Keeps.refl _ _⟩
 case round =>
  obtain⟨k,hk,rfl,rfl,a1,a2⟩:=hrel
  generalize hhv:zs[zs.length-k]?.getD hi=hv
  by_cases hlt:k<zs.length
  ·have hb:p b:=hb'.resolve_left M0
   obtain⟨x,hx⟩:∃ x,zs[zs.length-1-k]? = some x:=⟨zs[zs.length-1-k],Y5⟩
   have a4:=(a2.cell (a:=⟨Bk,0,none⟩) hBk).trans hck
   have a8:=(a2.cell (a:=⟨b,off+(zs.length-1-k),none⟩) hb).trans (hc _ _ hx)
   obtain⟨q,hq⟩:∃ q:Nat,q=zs.length-1-k:=⟨_,rfl⟩
   have a3:((zs.length:Int)-1-k)=(q:Int):=M0
   have b4:q<zs.length:=M0
   obtain⟨fn,b3,a6,b1,hy,hR⟩:=hY _ ⟨k,hlt⟩ wr a1 (by rw[Ww hk];exact hlt)
   have hE:encE hi zs ⟨k,hlt⟩=#[V0 (q:Int),.agg #[V0 x,V0 hv]]:=by
    have e0:zs[q]? = some x:=(by rw[hq];exact hx);have e1:q+1=zs.length-k:=M0;have e2:qOf (⟨k,hlt⟩:Fin zs.length)=q:=hq.symm;simp only[encE,Yb,spanV,e2,e0,e1,hhv,K2]
   rw[hE] at hy
   rw[←hq] at a8
   rw[a3]
   have HQ:=Lib.hid hq;clear hq
   have HI:=Lib.hid a3;clear a3
   have HX:=Lib.hid hx;clear hx
   clear hhv
   clear hE
   gi_wp2
   refine hR.mono ?_
   rintro e W3 (⟨rfl,a9,a5⟩|⟨rfl,a7⟩)
   ·have b0:=(a5.cell (a:=⟨Bk,0,none⟩) hBk).trans a4
    have b2:=(a5.cell (a:=⟨b,off+q,none⟩) hb).trans a8
    gi_wp2
    go_roundw
    case rel =>
     refine⟨k+1,M0,?_,?_,by rw[Kz hlt];exact a9,a2.trans a5⟩
     ·exact congrArg V0 (by have:=HI.out;omega)
     ·have h1:zs.length-(k+1)=q:=by have:=HQ.out;omega
      have:=HX.out
      rw[←HQ.out] at this
      rw[h1,this];rfl
    case measure=>simp[intOf]
   ·gi_wp2
    refine bodyPost_ret (results_none rfl _ _ _) rfl ?_
    exact⟨⟨_,rfl⟩,.inr ⟨_,⟨k+1,M0,by rw[Kz hlt]⟩,a7⟩⟩
  ·obtain rfl:k=zs.length:=M0
   have a0:((zs.length:Int)-1-zs.length) = -1:=M0
   rw[a0]
   clear a0 hhv
   rw[Ch] at a1
   have HJ:=Lib.hid a1;clear a1
   gi_wp2
   go_end0
   exact⟨⟨_,rfl⟩,.inl ⟨_,rfl,HJ.out⟩⟩
theorem Zh6{α:Type}(l Bs Bk:Nat)(hi:Int)(J:V6 α→V1→Prop)(W:V1)(hc1:W.cell? ⟨Bs,1,none⟩=some (V0 hi)){a0:O0}{c0:Nat}(hck:W.cell? ⟨Bk,0,none⟩=some (.slice a0 0 c0))(h0:J [] W) :
 CallsIn Fence.wide 3 Tryz.prog 287 #[.func (.yield l) #[] #[],P0 Bs,P0 Bk] W fun e W'=>(∃ v,e=.returned v)∧J [] W':=by
 refine callsIn_of_wp Tryz.func287 rfl trivial ?_ rfl
 simp only[Tryz.ntmps287,Gt,C5,E4,Nat.reduceAdd,Nat.reduceSub,H9,Id,I9,I2,F7,Ge]
 gi_wp2
 gi_loopw [4,5] (fun _ i wr=>i=V0 (-1)∧J [] wr) (fun _ _ _=>0)
 case atStart=>exact⟨rfl,h0⟩
 case round =>
  obtain⟨rfl,a1⟩:=hrel
  gi_wp2
  go_end0
  exact⟨⟨_,rfl⟩,a1⟩
theorem Zp6(Bs Bk:Nat)(p:Nat→Prop)(hi:Int)(v:V2)(zs:V6 Int)(w:V1)(hp:∀ b,p b→b<w.heap.size)(hk:p Bk)(hs:p Bs)(hlen:zs.length≤9223372036854775807)(hv:Ints w v zs)
  (hvp:zs.length≠0→∀ b off n cap,v=.slice (some ⟨b,off,none⟩) n cap→p b)
  (hc1:w.cell? ⟨Bs,1,none⟩=some (V0 hi)) (hck:w.cell? ⟨Bk,0,none⟩=some v) :
  SeqStopsK Fence.wide 3 Tryz.prog 287 #[P0 Bs,P0 Bk] (encE hi zs) (Keeps p)
   (fun ys=>ys=List.finRange zs.length) (fun pre=>∃ k,k≤zs.length∧pre=(List.finRange zs.length).take k) zs.length w:=fun l J Jx W hW _ _ hY h0=>by
 have a2:=Fh hW hc1
 have a1:=Fh hW hck
 rcases hv with ⟨a0,c0,rfl,h1,h2⟩|⟨b,off,cap,rfl,a5,a3,a4⟩
 ·obtain rfl:zs=[]:=by simpa using h2
  exact(Zh6 l Bs Bk hi J W a2 a1 h0).mono fun e W' ⟨he,hj⟩=>⟨he,.inl ⟨_,rfl,hj⟩⟩
 ·refine each1_in l Bs Bk p hi b off cap zs hlen ?_ hk J Jx hY W a2 a1 (fun j x hj=>Fh hW (a4 j _ (by simp[hj]))) h0
  by_cases h:zs.length=0
  ·exact .inl h
  ·exact .inr (hvp h _ _ _ _ rfl)
theorem Zzs(lo hi:Int)(a:O0)(n c:Nat)(w:V1):C0 270 #[spanV lo hi,.slice a n c] w fun e w' =>
 e=.returned (.func (.func 287) #[] #[.pointer (some ⟨w.heap.size,0,none⟩),.pointer (some ⟨w.heap.size+1,0,none⟩)]) ∧
 w'=(w.alloc (.cells #[V0 lo,V0 hi] 295)).alloc (.cells #[.slice a n c] 27):=by
 unfold spanV
 go_enter Tryz.func270,Tryz.ntmps270
 go_wp2
 go_ret
 exact⟨rfl,rfl⟩
def encK(b off n:Nat)(j:Fin (bmN n)):Array V2:=#[.slice (some ⟨b,off+j.val*960,none⟩) (min 960 (n-j.val*960)) (min 960 (n-j.val*960))]
theorem Zyp(l B1 B2:Nat)(p:Nat→Prop)(b off n cap:Nat)(hlen:n≤1000000)(hcap:n≤cap)(hB1:p B1)(hB2:p B2)(J Jx:V6 (Fin (bmN n))→V1→Prop)
  (hY:∀ pre x W,J pre W→pre.length<bmN n→YieldAt Fence.wide 2 Tryz.prog l (encK b off n x) W fun e W' =>
   (e=.returned (.bool true)∧J (pre++[x]) W'∧Keeps p W W')∨(e=.returned (.bool false)∧Jx (pre++[x]) W'))
  (W:V1) (hck:W.cell? ⟨B1,0,none⟩=some (.slice (some ⟨b,off,none⟩) n cap)) (hcn:W.cell? ⟨B2,0,none⟩=some (V0 960)) (hJa:AbidesFrom W.heap.size J) (h0:J [] W) :
  CallsIn Fence.wide 3 Tryz.prog 261 #[.func (.yield l) #[] #[],P0 B1,P0 B2] W fun e W'=>(∃ v,e=.returned v) ∧
   ((∃ ys,ys=List.finRange (bmN n)∧J ys W')∨(∃ pre,(∃ k,k≤bmN n∧pre=(List.finRange (bmN n)).take k)∧Jx pre W')):=by
 refine callsIn_of_wp Tryz.func261 rfl trivial ?_ rfl
 simp only[Tryz.ntmps261,Gt,C5,E4,Nat.reduceAdd,Nat.reduceSub,H9,Id,I9,I2,F7,Ge]
 gi_wp2
 gi_loopw [4] (fun i wr=>∃ k:Nat,k≤bmN n∧i=V0 ((k*960:Nat):Int)∧J ((List.finRange (bmN n)).take k) wr∧Keeps p W wr)
  (fun i _=>(n-(intOf i)).toNat)
 case atStart=>exact⟨0,A5 _,Y5,h0,Keeps.refl _ _⟩
 case round =>
  obtain⟨k,hk,rfl,a0,a1⟩:=hrel
  have a7:=(a1.cell (a:=⟨B1,0,none⟩) hB1).trans hck
  have a2:=(a1.cell (a:=⟨B2,0,none⟩) hB2).trans hcn
  by_cases hlt:k<bmN n
  ·have b2:=bmN_lt hlt
   gi_wp2
   gi_big_quiet_th (fail)
   obtain⟨fn,b0,a3,a8,hy,hR⟩:=hY _ ⟨k,hlt⟩ (wr.drewN nq) (hJa _ wr _ none a0 ⟨rfl,rfl,rfl,At _,fun _ _ _=>rfl⟩ (fun _ e=>by cases e)) (by rw[Ww hk];exact hlt)
   have hE:encK b off n ⟨k,hlt⟩=#[.slice (some ⟨b,off+k*960,none⟩) (min 960 (n-k*960)) (min 960 (n-k*960))]:=rfl
   rw[hE] at hy
   clear hE
   first|rw[show(if((n-k*960:Nat):Int)<960 then((n-k*960:Nat):Int) else 960)=((min 960 (n-k*960):Nat):Int) from by split<;>omega]|rw[show(min 960 ((n-k*960:Nat):Int):Int)=((min 960 (n-k*960):Nat):Int) from by omega]
   obtain⟨m,hm⟩:∃ m,min 960 (n-k*960)=m:=⟨_,rfl⟩
   rw[hm] at hy ⊢
   have b6:k*960+m≤n:=M0
   have b3:k*960+m≤cap:=M0
   have b1:k*960+m-k*960=m:=M0
   gi_wp2
   refine hR.mono ?_
   rintro e W3 (⟨rfl,a6,a5⟩|⟨rfl,a4⟩)
   ·have a9:W3.cell? ⟨B2,0,none⟩=some (V0 960):=(a5.cell (a:=⟨B2,0,none⟩) hB2).trans a2
    gi_wp2
    go_roundw
    case rel =>
     refine⟨k+1,M0,?_,by rw[Kz hlt];exact a6,(a1.trans (show Keeps p wr (wr.drewN nq) from⟨At _,fun _ _=>rfl⟩)).trans a5⟩
     exact congrArg V0 M0
    case measure=>simp only[intOf];omega
   ·gi_wp2
    refine bodyPost_ret (results_none rfl _ _ _) rfl ?_
    exact⟨⟨_,rfl⟩,.inr ⟨_,⟨k+1,M0,by rw[Kz hlt]⟩,a4⟩⟩
  ·obtain rfl:k=bmN n:=M0
   have b5:=bmN_done (n:=n) rfl
   have b4:¬ (((bmN n*960:Nat):Int)<(n:Int)):=M0
   rw[Ch] at a0
   have HJ:=Lib.hid a0;clear a0
   gi_wp2
   go_end0
   exact⟨⟨_,rfl⟩,.inl HJ.out⟩
theorem Zfq{α:Type}(l B1 B2:Nat)(J:V6 α→V1→Prop)(W:V1){a0:O0}{c0:Nat}(hck:W.cell? ⟨B1,0,none⟩=some (.slice a0 0 c0))(h0:J [] W) :
 CallsIn Fence.wide 3 Tryz.prog 261 #[.func (.yield l) #[] #[],P0 B1,P0 B2] W fun e W'=>(∃ v,e=.returned v)∧J [] W':=by
 refine callsIn_of_wp Tryz.func261 rfl trivial ?_ rfl
 simp only[Tryz.ntmps261,Gt,C5,E4,Nat.reduceAdd,Nat.reduceSub,H9,Id,I9,I2,F7,Ge]
 gi_wp2
 gi_loopw [4] (fun i wr=>i=V0 0∧J [] wr∧wr.cell? ⟨B1,0,none⟩=some (.slice a0 0 c0)) (fun _ _=>0)
 case atStart=>exact⟨rfl,h0,hck⟩
 case round =>
  obtain⟨rfl,a1,a2⟩:=hrel
  have HJ:=Lib.hid a1;clear a1
  gi_wp2
  go_end0
  exact⟨⟨_,rfl⟩,HJ.out⟩
theorem Zkt(B1 B2:Nat)(p:Nat→Prop)(b off n cap:Nat)(v:V2)(w:V1)(hp:∀ b,p b→b<w.heap.size)(h1:p B1)(h2:p B2)(hlen:n≤1000000)(hv:(n=0∧∃ a c,v=.slice a 0 c)∨v=.slice (some ⟨b,off,none⟩) n cap∧n≤cap)(hck:w.cell? ⟨B1,0,none⟩=some v)(hcn:w.cell? ⟨B2,0,none⟩=some (V0 960)) :
  SeqStopsK Fence.wide 3 Tryz.prog 261 #[P0 B1,P0 B2] (encK b off n) (Keeps p)
   (fun ys=>ys=List.finRange (bmN n)) (fun pre=>∃ k,k≤bmN n∧pre=(List.finRange (bmN n)).take k) (bmN n) w:=fun l J Jx W hW a3 _ hY h0=>by
 have a0:=Fh hW hck
 have a1:=Fh hW hcn
 rcases hv with ⟨rfl,a,c,rfl⟩|⟨rfl,a2⟩
 ·exact(Zfq l B1 B2 J W a0 h0).mono fun e W' ⟨he,hj⟩=>⟨he,.inl ⟨_,rfl,hj⟩⟩
 ·exact Zyp l B1 B2 p b off n cap hlen a2 h1 h2 J Jx hY W a0 a1 a3 h0
end
end
section
open Go.RowKit Go.Extern.Stop Go.Stop Go.Extern
section
attribute [local irreducible] wpList wpAnyH Code.wp Oper.wp Go
theorem Zim(p:O0)(n c:Nat)(w:V1) :
 C0 217 #[.slice p n c,V0 960] w (fun e w'=>∃ b1 b2,e=.returned (.func (.func 261) #[] #[P0 b1,P0 b2])∧B3 w w'∧w.heap.size≤b1∧w.heap.size≤b2∧b1≠b2∧Blk w' b1 [.slice p n c] 27∧Blk w' b2 [V0 960] 3):=by
 refine zin 9 Tryz.func217 ?_
 refine xa 2 [.slice p n c] 27 fun b1 W1 n1=>?_
 refine xa 0 [V0 960] 3 fun b2 W2 n2=>?_
 refine xb 6 0 n2.blk ?_
 have k1:=n1.blk.i n2.i
 have hB:=bln n1.i n2.i
 have g1:=n1.ge (B4 w)
 have g2:=n2.ge n1.i
 exact xe 13 (.func (.func 261) #[] #[P0 b1,P0 b2]) ⟨_,_,rfl,hB,g1,g2,(J0 k1 n2.blk Do),k1,n2.blk⟩
end
end
end Go.Proofs.YtekomodnkfhihaaGreatDoor
